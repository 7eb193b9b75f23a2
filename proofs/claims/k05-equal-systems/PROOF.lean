import PyProof.Rows.All
import Wide.All
import OpenK.AllK
import Wide.FinOn
import HandS.ForMost
import HandS.ForExc
import KE.KDictKeyed
import HandS.Property
import HandS.ClsMeth
import HandS.Style
import HandS.TupAny
import HandS.Deep
import HandS.IsInst
import HandS.SortInts
import HandS.DictComp
import KE.KDictWalk
import KE.KDictPairs
import HandS.Strs
import KE.SortKeyHeap
import KE.DataEq
import KE.KSortKey
import KE.KDictSum
import HandS.SortKw
import PyProof.InstNe
import HandS.Ends
import PySem.Challenge.RW_windowsteps_k05_equal_systems
set_option Elab.async false
set_option linter.all false
set_option maxRecDepth 100000
/-! The simulation layer: Python's values by value (tuples too), a memory of mutable objects by number, and what it means that a piece of syntax does what a function on these says. -/
namespace WS
open PySem PySem.Spec PyProof.Rows L2

inductive EV where
  | non | bl (b : Bool) | int (i : Int) | str (x : Str) | tup (xs : List EV) | ref (k : Nat) | adr (a : Addr) | ty (n : String) | sl (xs : List Int)

inductive EO where
  | lst (xs : List EV)
  | ins (C : Addr) (fs : List (Str × EV))
  | dic (kvs : List (EV × EV))
  | lck (kvs : List (EV × EV))
abbrev Mem := List EO
abbrev StE := List (Option EV)
structure Ex where
  cls : Addr
  fs : Option (List (Str × EV))
inductive Res (α : Type) where
  | ok (a : α) (M : Mem)
  | err (x : Ex) (M : Mem)
  | bad
def Res.bind {α β : Type} : Res α → (α → Mem → Res β) → Res β
  | .ok a M, g => g a M
  | .err x M, _ => .err x M
  | .bad, _ => .bad
inductive RS where
  | nx (σ : StE) (M : Mem) | rt (v : EV) (M : Mem) | bk (σ : StE) (M : Mem) | ct (σ : StE) (M : Mem) | err (x : Ex) (σ : StE) (M : Mem) | bad

/-! ### relations -/
structure Gr where
  P : Program
  w : World
  K : PySem.W.Frag
abbrev gr (X : Cx) : Gr := ⟨X.prog, X.w, X.K⟩
def Scr (K : PySem.W.Frag) (H : Hp) (a : Addr) (xs : List V) : Prop := (∃ o, H a = some (.frz o (.lst xs))) ∨
    ∃ (o : Obj) (its : Array Value) (n : Nat), K.lookup a = some o ∧ o.cls = .type "list" ∧ o.dict = none ∧ o.data = .seq its n ∧ its.size ≤ sizeLine ∧ Vals xs its.toList
theorem Scr.sq {K : PySem.W.Frag} {H : Hp} {a : Addr} {xs : List V} (h : Scr K H a xs) : SqL K H a xs := by
  rcases h with ⟨o, h⟩ | h
  · exact .inl (.inr ⟨o, h⟩)
  · exact .inr h
section
variable (K : PySem.W.Frag) (ρ : Nat → Addr) (n : Nat) (H : Hp)
mutual
def RV : EV → V → Prop
  | .non, v => v = .non
  | .bl b, v => v = .bl b
  | .int i, v => v = .int i
  | .str x, v => v = .str x
  | .tup xs, v => ∃ a vs, v = .ref a ∧ H a = some (.tup vs) ∧ RVs xs vs
  | .ref k, v => k < n ∧ v = .ref (ρ k)
  | .adr a, v => v = .ref a
  | .ty t, v => v = .ty t
  | .sl xs, v => ∃ a, v = .ref a ∧ Scr K H a (xs.map V.int)
def RVs : List EV → List V → Prop
  | [], vs => vs = []
  | x :: xs, vs => ∃ v r, vs = v :: r ∧ RV x v ∧ RVs xs r
end
def RFs : List (Str × EV) → List (Str × V) → Prop
  | [], vs => vs = []
  | x :: xs, vs => ∃ v r, vs = (x.1, v) :: r ∧ RV K ρ n H x.2 v ∧ RFs xs r
def RSt : StE → L2.St → Prop
  | [], vs => vs = []
  | none :: xs, vs => ∃ v r, vs = v :: r ∧ RSt xs r
  | some x :: xs, vs => ∃ v r, vs = some v :: r ∧ RV K ρ n H x v ∧ RSt xs r
end

/-! dicts -/
def leafOf : EV → Option Leaf
  | .non => some .none
  | .int i => some (.num i)
  | .str x => some (.text x)
  | _ => none
mutual
def nkOf : EV → Option NestedKey
  | .non => some .none
  | .int i => some (.num i)
  | .str x => some (.text x)
  | .tup xs => (nksOf xs).map .tup
  | _ => none
def nksOf : List EV → Option (List NestedKey)
  | [] => some []
  | x :: xs => match nkOf x, nksOf xs with
    | some k, some ks => some (k :: ks)
    | _, _ => none
end
/-- the keys carried by value, None, whole numbers and texts, each told apart (a bool is no key here) -/
def plainKey : Leaf → Value → Bool
  | .none, .none => true
  | .num i, .int j _ => decide (j = i)
  | .text x, v => Value.isStrOf x v
  | _, _ => false
theorem plainKey.isOf : ∀ {k : Leaf} {v : Value}, plainKey k v = true → Leaf.isOf k v = true
  | .none, .none, _ => rfl
  | .num i, .int j t, h => h
  | .text x, v, h => h
def exKind (P : Program) (w : World) : KeyKind P w Leaf where
  is := plainKey
  hash := (leafKind P w).hash
  inj := fun v a b ha hb => (leafKind P w).inj v a b (plainKey.isOf ha) (plainKey.isOf hb)
  byValue := fun k v h => (leafKind P w).byValue k v (plainKey.isOf h)
  pyHash := fun hv h => (leafKind P w).pyHash (plainKey.isOf hv) h
  eqBool := fun hu hv h => (leafKind P w).eqBool (plainKey.isOf hu) (plainKey.isOf hv) h
  «strs» := fun k x t v h => by
    have e := (leafKind P w).strs k x t v (plainKey.isOf h)
    cases k with
    | none => exact absurd h Bool.false_ne_true
    | num i => exact absurd h Bool.false_ne_true
    | text y => exact e
/-- what is true of the object of a dict with flat keys -/
def phF (G : Gr) (a : Addr) (l : List (Leaf × V)) (h : Heap) : Prop :=
  l.length ≤ sizeLine ∧ (a == sysModules) = false ∧ ∃ vs, KV l vs ∧ h.DictOf (exKind G.P G.w) a vs
/-- .. with tuples as keys, where the keys' tuples stand -/
def phT (G : Gr) (a : Addr) (l : List (NestedKey × Addr × V)) (h : Heap) : Prop :=
  l.length ≤ sizeLine ∧ (a == sysModules) = false ∧ ∃ xs : List (NestedKey × Addr × Value), Paired (fun (p : NestedKey × Addr × V) (q : NestedKey × Addr × Value) => p.1 = q.1 ∧ p.2.1 = q.2.1 ∧ RelV p.2.2 q.2.2) l xs ∧
    ∃ o es ep, h.get? a = some o ∧ o.ExactDict ∧ o.data = .dict es ep ∧ es.toList = xs.map (entryOfKey (nestedKind G.P G.w)) ∧ (xs.map (·.1)).Nodup
section
variable (K : PySem.W.Frag) (ρ : Nat → Addr) (n : Nat) (H : Hp)
def RDF : List (EV × EV) → List (Leaf × V) → Prop
  | [], l => l = []
  | p :: ps, l => ∃ k v r, l = (k, v) :: r ∧ leafOf p.1 = some k ∧ RV K ρ n H p.2 v ∧ RDF ps r
def RDT : List (EV × EV) → List (NestedKey × Addr × V) → Prop
  | [], l => l = []
  | p :: ps, l => ∃ k a v r, l = (k, a, v) :: r ∧ nkOf p.1 = some k ∧ k.depth ≤ 8 ∧ RV K ρ n H p.1 (.ref a) ∧ RV K ρ n H p.2 v ∧ RDT ps r
end
def DicU (G : Gr) (ρ : Nat → Addr) (n : Nat) (H : Hp) (a : Addr) (kvs : List (EV × EV)) (u : HO) : Prop :=
  (∃ l, u = .ext (phF G a l) ∧ RDF G.K ρ n H kvs l) ∨ (∃ l, u = .ext (phT G a l) ∧ RDT G.K ρ n H kvs l)
def RO (G : Gr) (ρ : Nat → Addr) (n : Nat) (H : Hp) (a : Addr) : EO → Prop
  | .lst xs => ∃ vs, H a = some (.lst vs) ∧ RVs G.K ρ n H xs vs
  | .ins C fs => ∃ dx vs, H a = some (.ins C dx vs) ∧ RFs G.K ρ n H fs vs
  | .dic kvs => ∃ u, H a = some u ∧ DicU G ρ n H a kvs u
  | .lck kvs => ∃ o u, H a = some (.frz o u) ∧ DicU G ρ n H a kvs u
structure RP (G : Gr) (ρ : Nat → Addr) (M : Mem) (H : Hp) : Prop where
  obj : ∀ k o, M[k]? = some o → RO G ρ M.length H (ρ k) o
  inj : ∀ j k, j < M.length → k < M.length → ρ j = ρ k → j = k
structure After (ρ : Nat → Addr) (M : Mem) (H : Hp) (ρ' : Nat → Addr) (M' : Mem) (H' : Hp) : Prop where
  len : M.length ≤ M'.length
  agr : ∀ k, k < M.length → ρ' k = ρ k
  frm : ∀ b o, H b = some o → (∀ k, k < M.length → ρ k ≠ b) → H' b = some o
  new : ∀ k, M.length ≤ k → k < M'.length → H (ρ' k) = none
  lck : ∀ k l, M[k]? = some (.lck l) → M'[k]? = some (.lck l) ∧ H' (ρ k) = H (ρ k)

/-- what may stand at an address of the memory -/
def IsM : HO → Prop
  | .lst _ => True
  | .ins _ _ _ => True
  | .ext _ => True
  | .frz _ (.ext _) => True
  | _ => False
section
variable {G : Gr} {ρ ρ' ρ'' : Nat → Addr} {M M' M'' : Mem} {n n' : Nat} {H H' H'' : Hp} {a : Addr} {o : EO}
theorem DicU.ext {kvs : List (EV × EV)} {u : HO} (h : DicU G ρ n H a kvs u) : ∃ f, u = .ext f := by
  rcases h with ⟨l, e, _⟩ | ⟨l, e, _⟩ <;> exact ⟨_, e⟩
theorem RO.isM (h : RO G ρ n H a o) : ∃ u, H a = some u ∧ IsM u := by
  cases o with
  | lst xs => obtain ⟨vs, e, _⟩ := h; exact ⟨_, e, True.intro⟩
  | ins C fs => obtain ⟨dx, vs, e, _⟩ := h; exact ⟨_, e, True.intro⟩
  | dic kvs => obtain ⟨u, e, d⟩ := h; obtain ⟨f, rfl⟩ := d.ext; exact ⟨_, e, True.intro⟩
  | lck kvs => obtain ⟨ob, u, e, d⟩ := h; obtain ⟨f, rfl⟩ := d.ext; exact ⟨_, e, True.intro⟩
theorem RP.at (R : RP G ρ M H) {k : Nat} (hk : k < M.length) : ∃ u, H (ρ k) = some u ∧ IsM u :=
  (R.obj k M[k] (List.getElem?_eq_getElem hk)).isM
theorem RP.ne (R : RP G ρ M H) {b : Addr} {u : HO} (e : H b = some u) (hu : ¬ IsM u) {k : Nat} (hk : k < M.length) : ρ k ≠ b := by
  obtain ⟨v, h1, h2⟩ := R.at hk
  intro z
  rw [z, e] at h1
  cases h1
  exact hu h2
theorem RP.ne_free (R : RP G ρ M H) {b : Addr} (e : H b = none) {k : Nat} (hk : k < M.length) : ρ k ≠ b := by
  obtain ⟨v, h1, h2⟩ := R.at hk
  intro z
  rw [z, e] at h1
  cases h1
theorem After.refl : After ρ M H ρ M H := ⟨Nat.le_refl _, fun _ _ => rfl, fun _ _ e _ => e, fun k h1 h2 => absurd h2 (Nat.not_lt.mpr h1), fun _ _ e => ⟨e, rfl⟩⟩
theorem After.trans (R : RP G ρ' M' H') (a : After ρ M H ρ' M' H') (b : After ρ' M' H' ρ'' M'' H'') : After ρ M H ρ'' M'' H'' where
  len := Nat.le_trans a.len b.len
  agr := fun k hk => (b.agr k (Nat.lt_of_lt_of_le hk a.len)).trans (a.agr k hk)
  frm := fun c u e hc => b.frm c u (a.frm c u e hc) fun k hk => by
    by_cases h : k < M.length
    · rw [a.agr k h]; exact hc k h
    · intro z
      have := a.new k (Nat.le_of_not_lt h) hk
      rw [z, e] at this
      cases this
  new := fun k h1 h2 => by
    by_cases h : k < M'.length
    · rw [b.agr k h]; exact a.new k h1 h
    · have f := b.new k (Nat.le_of_not_lt h) h2
      cases q : H (ρ'' k) with
      | none => rfl
      | some u =>
        exfalso
        by_cases hc : ∀ j, j < M.length → ρ j ≠ ρ'' k
        · have := a.frm _ _ q hc
          rw [f] at this; cases this
        · have ⟨j, hj⟩ := Classical.not_forall.mp hc
          have ⟨hj1, hj2⟩ := Classical.not_imp.mp hj
          have hj3 : ρ j = ρ'' k := Classical.not_not.mp hj2
          obtain ⟨v, h3, _⟩ := R.at (Nat.lt_of_lt_of_le hj1 a.len)
          rw [a.agr j hj1, hj3, f] at h3
          cases h3
  lck := fun k l e => by
    obtain ⟨e1, q1⟩ := a.lck k l e
    obtain ⟨e2, q2⟩ := b.lck k l e1
    rw [a.agr k (List.getElem?_eq_some_iff.mp e).1] at q2
    exact ⟨e2, q2.trans q1⟩

/-! the relations behind a change -/
/-- what the relation of values leans on -/
structure Carry (K : PySem.W.Frag) (ρ : Nat → Addr) (n : Nat) (H : Hp) (ρ' : Nat → Addr) (n' : Nat) (H' : Hp) : Prop where
  le : n ≤ n'
  agr : ∀ k, k < n → ρ' k = ρ k
  tup : ∀ b vs, H b = some (.tup vs) → H' b = some (.tup vs)
  scr : ∀ b o vs, H b = some (.frz o (.lst vs)) → H' b = some (.frz o (.lst vs))
theorem After.carry (R : RP G ρ M H) (a : After ρ M H ρ' M' H') : Carry G.K ρ M.length H ρ' M'.length H' :=
  ⟨a.len, a.agr, fun b vs e => a.frm b _ e fun k hk => R.ne e (fun z => z) hk, fun b o vs e => a.frm b _ e fun k hk => R.ne e (fun z => z) hk⟩
variable {K : PySem.W.Frag}
theorem Scr.carry (c : Carry K ρ n H ρ' n' H') {a : Addr} {xs : List V} (h : Scr K H a xs) : Scr K H' a xs := by
  rcases h with ⟨o, h⟩ | h
  · exact .inl ⟨o, c.scr _ _ _ h⟩
  · exact .inr h
mutual
theorem RV.carry (c : Carry K ρ n H ρ' n' H') : ∀ {x : EV} {v : V}, RV K ρ n H x v → RV K ρ' n' H' x v
  | .non, _, h => by unfold RV at *; exact h
  | .bl _, _, h => by unfold RV at *; exact h
  | .int _, _, h => by unfold RV at *; exact h
  | .str _, _, h => by unfold RV at *; exact h
  | .tup xs, _, h => by
    unfold RV at *
    obtain ⟨a, vs, e, h1, h2⟩ := h
    exact ⟨a, vs, e, c.tup _ _ h1, RVs.carry c h2⟩
  | .ref k, _, h => by
    unfold RV at *
    obtain ⟨h1, h2⟩ := h
    exact ⟨Nat.lt_of_lt_of_le h1 c.le, by rw [c.agr k h1]; exact h2⟩
  | .adr _, _, h => by unfold RV at *; exact h
  | .ty _, _, h => by unfold RV at *; exact h
  | .sl _, _, h => by
    unfold RV at *
    obtain ⟨a, e, h⟩ := h
    exact ⟨a, e, h.carry c⟩
theorem RVs.carry (c : Carry K ρ n H ρ' n' H') : ∀ {xs : List EV} {vs : List V}, RVs K ρ n H xs vs → RVs K ρ' n' H' xs vs
  | [], _, h => by unfold RVs at *; exact h
  | x :: xs, _, h => by
    unfold RVs at *
    obtain ⟨v, r, e, h1, h2⟩ := h
    exact ⟨v, r, e, RV.carry c h1, RVs.carry c h2⟩
end
theorem RFs.carry (c : Carry K ρ n H ρ' n' H') : ∀ {xs : List (Str × EV)} {vs : List (Str × V)}, RFs K ρ n H xs vs → RFs K ρ' n' H' xs vs
  | [], _, h => h
  | x :: xs, _, ⟨v, r, e, h1, h2⟩ => ⟨v, r, e, h1.carry c, RFs.carry c h2⟩
theorem RSt.carry (c : Carry K ρ n H ρ' n' H') : ∀ {xs : StE} {vs : L2.St}, RSt K ρ n H xs vs → RSt K ρ' n' H' xs vs
  | [], _, h => h
  | none :: xs, _, ⟨v, r, e, h2⟩ => ⟨v, r, e, RSt.carry c h2⟩
  | some x :: xs, _, ⟨v, r, e, h1, h2⟩ => ⟨v, r, e, h1.carry c, RSt.carry c h2⟩
theorem RDF.carry (c : Carry K ρ n H ρ' n' H') : ∀ {xs : List (EV × EV)} {l : List (Leaf × V)}, RDF K ρ n H xs l → RDF K ρ' n' H' xs l
  | [], _, h => h
  | x :: xs, _, ⟨k, v, r, e, h1, h2, h3⟩ => ⟨k, v, r, e, h1, h2.carry c, RDF.carry c h3⟩
theorem RDT.carry (c : Carry K ρ n H ρ' n' H') : ∀ {xs : List (EV × EV)} {l : List (NestedKey × Addr × V)}, RDT K ρ n H xs l → RDT K ρ' n' H' xs l
  | [], _, h => h
  | x :: xs, _, ⟨k, a, v, r, e, h1, hd, h2, h3, h4⟩ => ⟨k, a, v, r, e, h1, hd, h2.carry c, h3.carry c, RDT.carry c h4⟩
theorem DicU.carry (c : Carry G.K ρ n H ρ' n' H') {kvs : List (EV × EV)} {u : HO} (h : DicU G ρ n H a kvs u) : DicU G ρ' n' H' a kvs u := by
  rcases h with ⟨l, e, h⟩ | ⟨l, e, h⟩
  · exact .inl ⟨l, e, h.carry c⟩
  · exact .inr ⟨l, e, h.carry c⟩
theorem RO.carry (c : Carry G.K ρ n H ρ' n' H') (e : H' a = H a) (h : RO G ρ n H a o) : RO G ρ' n' H' a o := by
  cases o with
  | lst xs => obtain ⟨vs, e1, h1⟩ := h; exact ⟨vs, e.trans e1, h1.carry c⟩
  | ins C fs => obtain ⟨dx, vs, e1, h1⟩ := h; exact ⟨dx, vs, e.trans e1, h1.carry c⟩
  | dic kvs => obtain ⟨u, e1, d⟩ := h; exact ⟨u, e.trans e1, d.carry c⟩
  | lck kvs => obtain ⟨ob, u, e1, d⟩ := h; exact ⟨ob, u, e.trans e1, d.carry c⟩

/-! the changes: something new beside the memory; a new object of the memory; an object written -/
theorem side (R : RP G ρ M H) {p : Addr} (np : H p = none) (u : HO) : After ρ M H ρ M (upd H p u) ∧ RP G ρ M (upd H p u) := by
  have af : After ρ M H ρ M (upd H p u) := ⟨Nat.le_refl _, fun _ _ => rfl, fun b o e _ => by rw [upd_ne (ne_of_none e np)]; exact e, fun k h1 h2 => absurd h2 (Nat.not_lt.mpr h1), fun k l e => ⟨e, upd_ne (R.ne_free np (List.getElem?_eq_some_iff.mp e).1)⟩⟩
  refine ⟨af, fun k o e => ?_, R.inj⟩
  have hk : k < M.length := (List.getElem?_eq_some_iff.mp e).1
  exact (R.obj k o e).carry (af.carry R) (upd_ne (R.ne_free np hk))
def ext (ρ : Nat → Addr) (n : Nat) (p : Addr) : Nat → Addr := fun k => if k = n then p else ρ k
theorem ext_self {p : Addr} : ext ρ n p n = p := if_pos rfl
theorem ext_lt {p : Addr} {k : Nat} (h : k < n) : ext ρ n p k = ρ k := if_neg (Nat.ne_of_lt h)
theorem alloc (R : RP G ρ M H) {p : Addr} (np : H p = none) (u : HO) (o : EO)
    (h : Carry G.K ρ M.length H (ext ρ M.length p) (M.length + 1) (upd H p u) → RO G (ext ρ M.length p) (M.length + 1) (upd H p u) p o) :
    After ρ M H (ext ρ M.length p) (M ++ [o]) (upd H p u) ∧ RP G (ext ρ M.length p) (M ++ [o]) (upd H p u) := by
  have ln : (M ++ [o]).length = M.length + 1 := by simp
  have af : After ρ M H (ext ρ M.length p) (M ++ [o]) (upd H p u) := ⟨by omega, fun k hk => ext_lt hk, fun b o e _ => by rw [upd_ne (ne_of_none e np)]; exact e, fun k h1 h2 => by
    have : k = M.length := by omega
    subst this
    rw [ext_self]; exact np, fun k l e => ⟨by rw [List.getElem?_append_left (List.getElem?_eq_some_iff.mp e).1]; exact e, upd_ne (R.ne_free np (List.getElem?_eq_some_iff.mp e).1)⟩⟩
  refine ⟨af, fun k o' e => ?_, fun j k hj hk e => ?_⟩
  · have hk : k < (M ++ [o]).length := (List.getElem?_eq_some_iff.mp e).1
    rw [ln]
    by_cases q : k < M.length
    · rw [List.getElem?_append_left q] at e
      rw [ext_lt q]
      have c := af.carry R
      rw [ln] at c
      exact (R.obj k o' e).carry c (upd_ne (R.ne_free np q))
    · have : k = M.length := by omega
      subst this
      rw [List.getElem?_append_right (Nat.le_refl _), Nat.sub_self] at e
      cases e
      rw [ext_self]
      have c := af.carry R
      rw [ln] at c
      exact h c
  · rw [ln] at hj hk
    by_cases q : j < M.length <;> by_cases r : k < M.length
    · rw [ext_lt q, ext_lt r] at e; exact R.inj j k q r e
    · have : k = M.length := by omega
      subst this
      rw [ext_lt q, ext_self] at e
      exact absurd e (R.ne_free np q)
    · have : j = M.length := by omega
      subst this
      rw [ext_lt r, ext_self] at e
      exact absurd e.symm (R.ne_free np r)
    · omega
theorem write (R : RP G ρ M H) {k : Nat} (hk : k < M.length) (nl : ∀ l, M[k]? ≠ some (.lck l)) (u : HO) (o : EO)
    (h : Carry G.K ρ M.length H ρ M.length (upd H (ρ k) u) → RO G ρ M.length (upd H (ρ k) u) (ρ k) o) :
    After ρ M H ρ (M.set k o) (upd H (ρ k) u) ∧ RP G ρ (M.set k o) (upd H (ρ k) u) := by
  have ln : (M.set k o).length = M.length := by simp
  have af : After ρ M H ρ (M.set k o) (upd H (ρ k) u) := ⟨by omega, fun _ _ => rfl, fun b o e hb => by rw [upd_ne (Ne.symm (hb k hk))]; exact e, fun j h1 h2 => by omega, fun j l e => by
    have nj : j ≠ k := fun z => by rw [z] at e; exact nl l e
    exact ⟨by rw [List.getElem?_set_ne (Ne.symm nj)]; exact e, upd_ne fun z => nj (R.inj j k (List.getElem?_eq_some_iff.mp e).1 hk z)⟩⟩
  have c := af.carry R
  rw [ln] at c
  refine ⟨af, fun j o' e => ?_, fun j j' hj hj' => R.inj j j' (by omega) (by omega)⟩
  rw [ln]
  by_cases q : j = k
  · subst q
    rw [List.getElem?_set_self hk] at e
    cases e
    exact h c
  · rw [List.getElem?_set_ne (Ne.symm q)] at e
    have hj : j < M.length := (List.getElem?_eq_some_iff.mp e).1
    exact (R.obj j o' e).carry c (upd_ne fun z => q (R.inj j k hj hk z))
end

/-! ### what is wanted behind a result -/
abbrev Rel (α β : Type) := PySem.W.Frag → (Nat → Addr) → Nat → Hp → α → β → Prop
def RX (K : PySem.W.Frag) (ρ : Nat → Addr) (n : Nat) (H : Hp) (x : Ex) (d : Option Addr) : Prop :=
  match x.fs with
  | none => d = none
  | some fs => ∃ dx vs, d = some dx ∧ H dx = some (.xd vs) ∧ RFs K ρ n H fs vs
def PostR {α β : Type} (R : Rel α β) (G : Gr) (W : WX) (σ : L2.St) (ρ : Nat → Addr) (M : Mem) (H : Hp) (r : Res α) (Q : β → Hp → Prop) : Prop :=
  match r with
  | .ok v M' => ∀ ρ' H' v', After ρ M H ρ' M' H' → RP G ρ' M' H' → R G.K ρ' M'.length H' v v' → Q v' H'
  | .err x M' => ∀ ρ' H' d, After ρ M H ρ' M' H' → RP G ρ' M' H' → RX G.K ρ' M'.length H' x d → W (.ref x.cls) d σ H'
  | .bad => False
abbrev PostE := PostR (α := EV) (β := V) fun K ρ n H => RV K ρ n H
abbrev PostA := PostR (α := List EV) (β := List V) fun K ρ n H => RVs K ρ n H
abbrev PostT := PostR (α := Bool) (β := Bool) fun _ _ _ _ a b => b = a
def PostS (G : Gr) (W : WX) (ρ : Nat → Addr) (M : Mem) (H : Hp) (r : RS) (D : Ends) : Prop :=
  match r with
  | .nx σe M' => ∀ ρ' H' σ', After ρ M H ρ' M' H' → RP G ρ' M' H' → RSt G.K ρ' M'.length H' σe σ' → D.nx σ' H'
  | .bk σe M' => ∀ ρ' H' σ', After ρ M H ρ' M' H' → RP G ρ' M' H' → RSt G.K ρ' M'.length H' σe σ' → D.bk σ' H'
  | .ct σe M' => ∀ ρ' H' σ', After ρ M H ρ' M' H' → RP G ρ' M' H' → RSt G.K ρ' M'.length H' σe σ' → D.ct σ' H'
  | .rt v M' => ∀ ρ' H' v', After ρ M H ρ' M' H' → RP G ρ' M' H' → RV G.K ρ' M'.length H' v v' → D.rt v' H'
  | .err x σe M' => ∀ ρ' H' σ' d, After ρ M H ρ' M' H' → RP G ρ' M' H' → RSt G.K ρ' M'.length H' σe σ' → RX G.K ρ' M'.length H' x d → W (.ref x.cls) d σ' H'
  | .bad => False
section
variable {α β γ δ : Type} {R : Rel α β} {R' : Rel γ δ} {G : Gr} {W : WX} {σ : L2.St} {ρ ρ' : Nat → Addr} {M M' : Mem} {H H' : Hp}
theorem PostR.shift {r : Res α} {Q : β → Hp → Prop} (p : PostR R G W σ ρ M H r Q) (rp : RP G ρ' M' H') (a : After ρ M H ρ' M' H') : PostR R G W σ ρ' M' H' r Q := by
  cases r with
  | ok v M1 => exact fun ρ1 H1 v1 b rp1 q => p ρ1 H1 v1 (a.trans rp b) rp1 q
  | err x M1 => exact fun ρ1 H1 d b rp1 q => p ρ1 H1 d (a.trans rp b) rp1 q
  | bad => exact p
theorem PostS.shift {r : RS} {D : Ends} (p : PostS G W ρ M H r D) (rp : RP G ρ' M' H') (a : After ρ M H ρ' M' H') : PostS G W ρ' M' H' r D := by
  cases r with
  | nx s M1 => exact fun ρ1 H1 v1 b rp1 q => p ρ1 H1 v1 (a.trans rp b) rp1 q
  | bk s M1 => exact fun ρ1 H1 v1 b rp1 q => p ρ1 H1 v1 (a.trans rp b) rp1 q
  | ct s M1 => exact fun ρ1 H1 v1 b rp1 q => p ρ1 H1 v1 (a.trans rp b) rp1 q
  | rt v M1 => exact fun ρ1 H1 v1 b rp1 q => p ρ1 H1 v1 (a.trans rp b) rp1 q
  | err x s M1 => exact fun ρ1 H1 v1 d b rp1 q => p ρ1 H1 v1 d (a.trans rp b) rp1 q
  | bad => exact p
/-- one thing, then another -/
theorem PostR.bind {r : Res α} {g : α → Mem → Res γ} {Q : δ → Hp → Prop} {Q1 : β → Hp → Prop} (p : PostR R' G W σ ρ M H (r.bind g) Q)
    (h : ∀ v M1 ρ1 H1 v1, r = .ok v M1 → After ρ M H ρ1 M1 H1 → RP G ρ1 M1 H1 → R G.K ρ1 M1.length H1 v v1 → PostR R' G W σ ρ1 M1 H1 (g v M1) Q → Q1 v1 H1) : PostR R G W σ ρ M H r Q1 := by
  cases r with
  | ok v M1 => exact fun ρ1 H1 v1 a rp q => h v M1 ρ1 H1 v1 rfl a rp q (PostR.shift (r := g v M1) p rp a)
  | err x M1 => exact p
  | bad => exact p
theorem PostR.ok0 {v : α} {v' : β} {Q : β → Hp → Prop} (p : PostR R G W σ ρ M H (.ok v M) Q) (rp : RP G ρ M H) (r : R G.K ρ M.length H v v') : Q v' H := p ρ H v' .refl rp r
end
end WS

set_option Elab.async false
set_option linter.all false
set_option maxRecDepth 100000
/-! The judgements of the simulation, names, constants, operators, displays, tests. -/
namespace WS
open PySem PySem.Spec PyProof.Rows L2

abbrev FE := StE → Mem → Res EV
abbrev FT := StE → Mem → Res Bool
abbrev FA := StE → Mem → Res (List EV)
abbrev FS := StE → Mem → RS

def SimE (G : Gr) (W : WX) (t : TE) (f : FE) : Prop := ∀ ρ σe σ M H Q, RSt G.K ρ M.length H σe σ → RP G ρ M H → PostE G W σ ρ M H (f σe M) Q → t σ H Q
def SimT (G : Gr) (W : WX) (t : TT) (f : FT) : Prop := ∀ ρ σe σ M H Q, RSt G.K ρ M.length H σe σ → RP G ρ M H → PostT G W σ ρ M H (f σe M) Q → t σ H Q
def SimA (G : Gr) (W : WX) (t : TA) (f : FA) : Prop := ∀ ρ σe σ M H Q, RSt G.K ρ M.length H σe σ → RP G ρ M H → PostA G W σ ρ M H (f σe M) Q → t σ H Q
def SimS (G : Gr) (W : WX) (t : TS) (f : FS) : Prop := ∀ ρ σe σ M H D, RSt G.K ρ M.length H σe σ → RP G ρ M H → PostS G W ρ M H (f σe M) D → t D σ H
structure SE (X : Cx) (W : WX) (e : Expr) (f : FE) : Prop where
  ex : ∃ t, PE X e t ∧ SimE (gr X) W t f
structure ST (X : Cx) (W : WX) (e : Expr) (f : FT) : Prop where
  ex : ∃ t, PT X e t ∧ SimT (gr X) W t f
structure SW (X : Cx) (W : WX) (e : Expr) (f : FT) : Prop where
  ex : ∃ t, PW X e t ∧ SimT (gr X) W t f
structure SA (X : Cx) (W : WX) (es : List Expr) (f : FA) : Prop where
  ex : ∃ t, PA X es t ∧ SimA (gr X) W t f
structure SS (X : Cx) (W : WX) (s : Stmt) (f : FS) : Prop where
  ex : ∃ t, PS X s t ∧ SimS (gr X) W t f
structure SSs (X : Cx) (W : WX) (ss : List Stmt) (f : FS) : Prop where
  ex : ∃ t, PSs X ss t ∧ SimS (gr X) W t f

section
variable {K : PySem.W.Frag} {ρ : Nat → Addr} {n : Nat} {H : Hp}
theorem RVs.length : ∀ {xs : List EV} {vs : List V}, RVs K ρ n H xs vs → vs.length = xs.length
  | [], _, h => by unfold RVs at h; rw [h]; rfl
  | x :: xs, _, h => by
    unfold RVs at h
    obtain ⟨v, r, e, h1, h2⟩ := h
    rw [e, List.length_cons, List.length_cons, RVs.length h2]
theorem RVs.get : ∀ {xs : List EV} {vs : List V} {i : Nat} {x : EV}, RVs K ρ n H xs vs → xs[i]? = some x → ∃ v, vs[i]? = some v ∧ RV K ρ n H x v
  | [], _, i, x, h, e => by simp at e
  | y :: xs, _, 0, x, h, e => by
    unfold RVs at h
    obtain ⟨v, r, e1, h1, h2⟩ := h
    simp at e
    subst e
    exact ⟨v, by rw [e1]; rfl, h1⟩
  | y :: xs, _, i + 1, x, h, e => by
    unfold RVs at h
    obtain ⟨v, r, e1, h1, h2⟩ := h
    obtain ⟨u, q1, q2⟩ := RVs.get (i := i) h2 (by simpa using e)
    exact ⟨u, by rw [e1]; simpa using q1, q2⟩
theorem RVs.nil : RVs K ρ n H [] [] := by unfold RVs; rfl
theorem RVs.cons {x : EV} {v : V} {xs : List EV} {vs : List V} (a : RV K ρ n H x v) (b : RVs K ρ n H xs vs) : RVs K ρ n H (x :: xs) (v :: vs) := by
  unfold RVs; exact ⟨v, vs, rfl, a, b⟩
theorem RVs.append : ∀ {xs ys : List EV} {vs ws : List V}, RVs K ρ n H xs vs → RVs K ρ n H ys ws → RVs K ρ n H (xs ++ ys) (vs ++ ws)
  | [], _, _, _, h, g => by unfold RVs at h; subst h; exact g
  | x :: xs, _, _, _, h, g => by
    unfold RVs at h
    obtain ⟨v, r, e, h1, h2⟩ := h
    subst e
    exact RVs.cons h1 (RVs.append h2 g)
theorem RVs.take : ∀ (k : Nat) {xs : List EV} {vs : List V}, RVs K ρ n H xs vs → RVs K ρ n H (xs.take k) (vs.take k)
  | 0, _, _, _ => RVs.nil
  | k + 1, [], _, h => by unfold RVs at h; subst h; exact RVs.nil
  | k + 1, x :: xs, _, h => by
    unfold RVs at h
    obtain ⟨v, r, e, h1, h2⟩ := h
    subst e
    exact RVs.cons h1 (RVs.take k h2)
theorem RVs.drop : ∀ (k : Nat) {xs : List EV} {vs : List V}, RVs K ρ n H xs vs → RVs K ρ n H (xs.drop k) (vs.drop k)
  | 0, _, _, h => h
  | k + 1, [], _, h => by unfold RVs at h; subst h; exact RVs.nil
  | k + 1, x :: xs, _, h => by
    unfold RVs at h
    obtain ⟨v, r, e, h1, h2⟩ := h
    subst e
    exact RVs.drop k h2
theorem RVs.set {x : EV} {v : V} (a : RV K ρ n H x v) : ∀ (k : Nat) {xs : List EV} {vs : List V}, RVs K ρ n H xs vs → RVs K ρ n H (xs.set k x) (vs.set k v)
  | _, [], _, h => by unfold RVs at h; subst h; exact RVs.nil
  | 0, y :: xs, _, h => by
    unfold RVs at h
    obtain ⟨w, r, e, h1, h2⟩ := h
    subst e
    exact RVs.cons a h2
  | k + 1, y :: xs, _, h => by
    unfold RVs at h
    obtain ⟨w, r, e, h1, h2⟩ := h
    subst e
    exact RVs.cons h1 (RVs.set a k h2)
theorem RVs.rev : ∀ {xs : List EV} {vs : List V}, RVs K ρ n H xs vs → RVs K ρ n H xs.reverse vs.reverse
  | [], _, h => by unfold RVs at h; subst h; exact RVs.nil
  | x :: xs, _, h => by
    unfold RVs at h
    obtain ⟨v, r, e, h1, h2⟩ := h
    subst e
    rw [List.reverse_cons, List.reverse_cons]
    exact (RVs.rev h2).append (RVs.cons h1 RVs.nil)
theorem RVs.ints : ∀ (l : List Int), RVs K ρ n H (l.map EV.int) (l.map V.int)
  | [] => RVs.nil
  | i :: l => RVs.cons (by unfold RV; rfl) (RVs.ints l)
theorem RVs.strs : ∀ (l : List Str), RVs K ρ n H (l.map EV.str) (l.map V.str)
  | [] => RVs.nil
  | i :: l => RVs.cons (by unfold RV; rfl) (RVs.strs l)
theorem RVs.bls : ∀ (l : List Bool), RVs K ρ n H (l.map EV.bl) (l.map V.bl)
  | [] => RVs.nil
  | i :: l => RVs.cons (by unfold RV; rfl) (RVs.bls l)
theorem RSt.length : ∀ {xs : StE} {vs : L2.St}, RSt K ρ n H xs vs → vs.length = xs.length
  | [], _, h => by rw [show _ = _ from h]; rfl
  | none :: xs, _, ⟨v, r, e, h2⟩ => by rw [e, List.length_cons, List.length_cons, RSt.length h2]
  | some x :: xs, _, ⟨v, r, e, h1, h2⟩ => by rw [e, List.length_cons, List.length_cons, RSt.length h2]
theorem RSt.get : ∀ {xs : StE} {vs : L2.St} {i : Nat} {x : EV}, RSt K ρ n H xs vs → xs[i]? = some (some x) → ∃ v, vs[i]? = some (some v) ∧ RV K ρ n H x v
  | [], _, _, _, _, e => by simp at e
  | none :: xs, _, 0, x, ⟨v, r, e1, h2⟩, e => by simp at e
  | none :: xs, _, i + 1, x, ⟨v, r, e1, h2⟩, e => by
    obtain ⟨u, q1, q2⟩ := RSt.get (i := i) h2 (by simpa using e)
    exact ⟨u, by rw [e1]; simpa using q1, q2⟩
  | some y :: xs, _, 0, x, ⟨v, r, e1, h1, h2⟩, e => by
    simp at e
    subst e
    exact ⟨v, by rw [e1]; rfl, h1⟩
  | some y :: xs, _, i + 1, x, ⟨v, r, e1, h1, h2⟩, e => by
    obtain ⟨u, q1, q2⟩ := RSt.get (i := i) h2 (by simpa using e)
    exact ⟨u, by rw [e1]; simpa using q1, q2⟩
theorem RSt.set {x : EV} {v : V} (a : RV K ρ n H x v) : ∀ (i : Nat) {xs : StE} {vs : L2.St}, RSt K ρ n H xs vs → RSt K ρ n H (xs.set i (some x)) (vs.set i (some v))
  | _, [], _, h => by rw [show _ = _ from h]; rfl
  | 0, none :: xs, _, ⟨w, r, e, h2⟩ => ⟨v, r, by rw [e]; rfl, a, h2⟩
  | 0, some y :: xs, _, ⟨w, r, e, h1, h2⟩ => ⟨v, r, by rw [e]; rfl, a, h2⟩
  | i + 1, none :: xs, _, ⟨w, r, e, h2⟩ => ⟨w, r.set i (some v), by rw [e]; rfl, RSt.set a i h2⟩
  | i + 1, some y :: xs, _, ⟨w, r, e, h1, h2⟩ => ⟨w, r.set i (some v), by rw [e]; rfl, h1, RSt.set a i h2⟩
theorem RSt.unset : ∀ (i : Nat) {xs : StE} {vs : L2.St}, RSt K ρ n H xs vs → RSt K ρ n H (xs.set i none) vs
  | _, [], _, h => h
  | 0, none :: xs, _, h => h
  | 0, some y :: xs, _, ⟨w, r, e, h1, h2⟩ => ⟨some w, r, e, h2⟩
  | i + 1, none :: xs, _, ⟨w, r, e, h2⟩ => ⟨w, r, e, RSt.unset i h2⟩
  | i + 1, some y :: xs, _, ⟨w, r, e, h1, h2⟩ => ⟨w, r, e, h1, RSt.unset i h2⟩
/-- the start of a def -/
theorem RSt.start : ∀ {N : List Str} {es : List EV} {vs : List V}, RVs K ρ n H es vs → es.length ≤ N.length → RSt K ρ n H (es.map some ++ List.replicate (N.length - es.length) none) (L2.start N vs) := by
  intro N es vs h hl
  have nones : ∀ (k : Nat), RSt K ρ n H (List.replicate k none) (List.replicate k none) := by
    intro k
    induction k with
    | zero => rfl
    | succ k ih => exact ⟨none, _, rfl, ih⟩
  have all : ∀ {es : List EV} {vs : List V} (k : Nat), RVs K ρ n H es vs → RSt K ρ n H (es.map some ++ List.replicate k none) (vs.map some ++ List.replicate k none) := by
    intro es
    induction es with
    | nil => intro vs k h; unfold RVs at h; subst h; exact nones k
    | cons x xs ih =>
      intro vs k h
      unfold RVs at h
      obtain ⟨v, r, e, h1, h2⟩ := h
      subst e
      exact ⟨v, _, rfl, h1, ih k h2⟩
  have e := h.length
  have q := all (N.length - es.length) h
  show RSt K ρ n H _ (vs.map some ++ List.replicate (N.length - vs.length) none)
  rw [e]
  exact q
end

/-! ### names, constants -/
def eV (i : Nat) : FE := fun σ M => match σ[i]? with
  | some (some v) => .ok v M
  | _ => .bad
def eC (v : EV) : FE := fun _ M => .ok v M
section
variable {X : Cx} {W : WX}
theorem sV (i : Nat) {x : Str} {pos : Pos} (hN : X.N[i]? = some x := by rfl) (hv : Vis X.env.scope x := by first | exact Or.inl rfl | exact Or.inr (Or.inl rfl) | exact Or.inr (Or.inr rfl)) (hd : (x == ("__debug__" : Str)) = false := by decide)
    (hcd : (x == ("__classdict__" : Str)) = false := by decide) : SE X W (.Name x pos) (eV i) := by
  refine ⟨_, pe_var hN hv hd hcd, fun ρ σe σ M H Q hs hp h => ?_⟩
  unfold eV at h
  cases q : σe[i]? with
  | none => rw [q] at h; exact h.elim
  | some o =>
    cases o with
    | none => rw [q] at h; exact h.elim
    | some v =>
      rw [q] at h
      obtain ⟨u, h1, h2⟩ := hs.get q
      exact ⟨u, h1, PostR.ok0 (R := fun K ρ n H => RV K ρ n H) h hp h2⟩
theorem sim_const {v : EV} {u : V} (h : ∀ K ρ n H, RV K ρ n H v u) (G : Gr) : SimE G W (tC u) (eC v) := fun ρ σe σ M H Q hs hp q => PostR.ok0 (R := fun K ρ n H => RV K ρ n H) q hp (h _ _ _ _)
theorem sI {i : Int} {j pos} : SE X W (.Constant (.int i) j pos) (eC (.int i)) := ⟨_, pe_int, sim_const (fun _ _ _ _ => by unfold RV; rfl) _⟩
theorem sB {b : Bool} {j pos} : SE X W (.Constant (.bool b) j pos) (eC (.bl b)) := ⟨_, pe_bl, sim_const (fun _ _ _ _ => by unfold RV; rfl) _⟩
theorem sN {j pos} : SE X W (.Constant .none j pos) (eC .non) := ⟨_, pe_non, sim_const (fun _ _ _ _ => by unfold RV; rfl) _⟩
theorem sS {x : Str} {j pos} : SE X W (.Constant (.str x) j pos) (eC (.str x)) := ⟨_, pe_str, sim_const (fun _ _ _ _ => by unfold RV; rfl) _⟩
/-- a global whose value is told -/
theorem sG {x : Str} {v : V} {ev : EV} {u : Value} {pos : Pos} (hg : Gl X x) (hm : X.mg x = some u) (r : RelV v u) (hv : ∀ K ρ n H, RV K ρ n H ev v) (hd : (x == ("__debug__" : Str)) = false := by decide) : SE X W (.Name x pos) (eC ev) :=
  ⟨_, pe_glob hg hm r hd, sim_const hv _⟩
theorem sGI {x : Str} {i : Int} {t : Tok} {pos : Pos} (hg : Gl X x) (hm : X.mg x = some (.int i t)) (hd : (x == ("__debug__" : Str)) = false := by decide) : SE X W (.Name x pos) (eC (.int i)) :=
  sG (v := .int i) hg hm ⟨t, rfl⟩ (fun _ _ _ _ => by unfold RV; rfl) hd
theorem sGS {x y : Str} {t : Tok} {pos : Pos} (hg : Gl X x) (hm : X.mg x = some (.str y t)) (hd : (x == ("__debug__" : Str)) = false := by decide) : SE X W (.Name x pos) (eC (.str y)) :=
  sG (v := .str y) hg hm ⟨t, rfl⟩ (fun _ _ _ _ => by unfold RV; rfl) hd
theorem sGR {x : Str} {a : Addr} {pos : Pos} (hg : Gl X x) (hm : X.mg x = some (.ref a)) (hd : (x == ("__debug__" : Str)) = false := by decide) : SE X W (.Name x pos) (eC (.adr a)) :=
  sG (v := .ref a) hg hm rfl (fun _ _ _ _ => by unfold RV; rfl) hd
/-- a built-in class as a value -/
theorem sTy {x : Str} {T : String} {pos : Pos} (hg : Gl X x) (hm : X.mg x = none) (hv : bootBuiltins x = some (.type T)) (hn : x ≠ "__name__" := by decide) (hd : (x == ("__debug__" : Str)) = false := by decide) : SE X W (.Name x pos) (eC (.ty T)) :=
  ⟨_, pe_bltn (v := .ty T) hg hm hv rfl hn hd, sim_const (fun _ _ _ _ => by unfold RV; rfl) _⟩
end

/-! ### operators by values -/
def OpS (G : Gr) (W : WX) (r : V → V → Hp → VK → Prop) (F : EV → EV → Mem → Res EV) : Prop :=
  ∀ (σ : L2.St) ρ M H x y x' y' Q, RP G ρ M H → RV G.K ρ M.length H x x' → RV G.K ρ M.length H y y' → PostE G W σ ρ M H (F x y M) Q → r x' y' H Q
def UnS (G : Gr) (W : WX) (r : V → Hp → VK → Prop) (F : EV → Mem → Res EV) : Prop :=
  ∀ (σ : L2.St) ρ M H x x' Q, RP G ρ M H → RV G.K ρ M.length H x x' → PostE G W σ ρ M H (F x M) Q → r x' H Q
def e2 (op : EV → EV → Mem → Res EV) (f g : FE) : FE := fun σ M => (f σ M).bind fun v M1 => (g σ M1).bind fun w M2 => op v w M2
def e1 (op : EV → Mem → Res EV) (f : FE) : FE := fun σ M => (f σ M).bind fun v M1 => op v M1
/-- a binary operator is one -/
structure SOp (X : Cx) (W : WX) (op : Operator) (F : EV → EV → Mem → Res EV) : Prop where
  ex : ∃ r, OpR X (binaryOp op) r ∧ OpS (gr X) W r F
structure SCm (X : Cx) (W : WX) (op : CmpOp) (F : EV → EV → Mem → Res EV) : Prop where
  ex : ∃ r, OpR X (compareOp op) r ∧ OpS (gr X) W r F
structure SUn (X : Cx) (W : WX) (op : UnaryOp) (F : EV → Mem → Res EV) : Prop where
  ex : ∃ r, UnR X (unaryOp op) r ∧ UnS (gr X) W r F
section
variable {X : Cx} {W : WX} {a b : Expr} {f g : FE} {pos : Pos}
theorem sim2 {G : Gr} {ta tb : TE} {r : V → V → Hp → VK → Prop} {F : EV → EV → Mem → Res EV} (ha : SimE G W ta f) (hb : SimE G W tb g) (ho : OpS G W r F) : SimE G W (tOp r ta tb) (e2 F f g) := by
  intro ρ σe σ M H Q hs hp h
  refine ha ρ σe σ M H _ hs hp (PostR.bind h fun v M1 ρ1 H1 v1 _ a1 rp1 r1 h1 => ?_)
  refine hb ρ1 σe σ M1 H1 _ (hs.carry (a1.carry hp)) rp1 (PostR.bind h1 fun w M2 ρ2 H2 w2 _ a2 rp2 r2 h2 => ?_)
  exact ho σ ρ2 M2 H2 v w v1 w2 Q rp2 (r1.carry (a2.carry rp1)) r2 h2
theorem sim1 {G : Gr} {ta : TE} {r : V → Hp → VK → Prop} {F : EV → Mem → Res EV} (ha : SimE G W ta f) (ho : UnS G W r F) : SimE G W (tUn r ta) (e1 F f) := by
  intro ρ σe σ M H Q hs hp h
  refine ha ρ σe σ M H _ hs hp (PostR.bind h fun v M1 ρ1 H1 v1 _ a1 rp1 r1 h1 => ?_)
  exact ho σ ρ1 M1 H1 v v1 Q rp1 r1 h1
theorem sBin {op : Operator} {F : EV → EV → Mem → Res EV} (ho : SOp X W op F) (ha : SE X W a f) (hb : SE X W b g) : SE X W (.BinOp a op b pos) (e2 F f g) := by
  obtain ⟨r, o1, o2⟩ := ho
  obtain ⟨ta, a1, a2⟩ := ha
  obtain ⟨tb, b1, b2⟩ := hb
  exact ⟨_, pe_op o1 a1 b1, sim2 a2 b2 o2⟩
theorem sUn {op : UnaryOp} {F : EV → Mem → Res EV} (ho : SUn X W op F) (ha : SE X W a f) : SE X W (.UnaryOp op a pos) (e1 F f) := by
  obtain ⟨r, o1, o2⟩ := ho
  obtain ⟨ta, a1, a2⟩ := ha
  exact ⟨_, pe_un o1 a1, sim1 a2 o2⟩
theorem sCmp {op : CmpOp} {F : EV → EV → Mem → Res EV} (ho : SCm X W op F) (ha : SE X W a f) (hb : SE X W b g) (hm : behindInMarks op b = false) : SE X W (.Compare a [op] [b] pos) (e2 F f g) := by
  obtain ⟨r, o1, o2⟩ := ho
  obtain ⟨ta, a1, a2⟩ := ha
  obtain ⟨tb, b1, b2⟩ := hb
  exact ⟨_, pe_cmpR o1 a1 b1 hm, sim2 a2 b2 o2⟩
/-- a < b < c -/
def eChain (op op' : EV → EV → Mem → Res EV) (f g h : FE) : FE := fun σ M => (f σ M).bind fun v M1 => (g σ M1).bind fun w M2 => (op v w M2).bind fun z M3 => match z with
  | .bl true => (h σ M3).bind fun u M4 => op' w u M4
  | .bl false => .ok (.bl false) M3
  | _ => .bad
theorem sChain {c : Expr} {h : FE} {op op' : CmpOp} {F F' : EV → EV → Mem → Res EV} (ho : SCm X W op F) (ho' : SCm X W op' F') (ha : SE X W a f) (hb : SE X W b g) (hc : SE X W c h) (hm : lastMarks [op, op'] [b, c] = false := by with_unfolding_all rfl) : SE X W (.Compare a [op, op'] [b, c] pos) (eChain F F' f g h) := by
  obtain ⟨r, o1, o2⟩ := ho
  obtain ⟨r', o1', o2'⟩ := ho'
  obtain ⟨ta, a1, a2⟩ := ha
  obtain ⟨tb, b1, b2⟩ := hb
  obtain ⟨tc, c1, c2⟩ := hc
  refine ⟨_, pe_chain o1 o1' a1 b1 c1 hm, fun ρ σe σ M H Q hs hp h0 => ?_⟩
  refine a2 ρ σe σ M H _ hs hp (PostR.bind h0 fun v M1 ρ1 H1 v1 _ a1 rp1 r1 h1 => ?_)
  refine b2 ρ1 σe σ M1 H1 _ (hs.carry (a1.carry hp)) rp1 (PostR.bind h1 fun w M2 ρ2 H2 w2 _ a2 rp2 r2 h2 => ?_)
  refine o2 σ ρ2 M2 H2 v w v1 w2 _ rp2 (r1.carry (a2.carry rp1)) r2 (PostR.bind h2 fun z M3 ρ3 H3 z3 _ a3 rp3 r3 h3 => ?_)
  cases z with
  | bl k =>
    unfold RV at r3
    subst r3
    refine ⟨k, rfl, ?_⟩
    cases k with
    | true =>
      rw [if_pos rfl]
      refine c2 ρ3 σe σ M3 H3 _ (((hs.carry (a1.carry hp)).carry (a2.carry rp1)).carry (a3.carry rp2)) rp3 (PostR.bind h3 fun u M4 ρ4 H4 u4 _ a4 rp4 r4 h4 => ?_)
      exact o2' σ ρ4 M4 H4 w u w2 u4 Q rp4 ((r2.carry (a3.carry rp2)).carry (a4.carry rp3)) r4 h4
    | false =>
      rw [if_neg Bool.false_ne_true]
      exact PostR.ok0 (R := fun K ρ n H => RV K ρ n H) h3 rp3 (by unfold RV; rfl)
  | _ => exact h3.elim

/-! ### tests -/
/-- an expression whose value is a bool, as a test -/
def tOfE (f : FE) : FT := fun σ M => (f σ M).bind fun v M1 => match v with
  | .bl b => .ok b M1
  | _ => .bad
theorem simB {G : Gr} {ta : TE} (ha : SimE G W ta f) : SimT G W (tB ta) (tOfE f) := by
  intro ρ σe σ M H Q hs hp h
  refine ha ρ σe σ M H _ hs hp (PostR.bind h fun v M1 ρ1 H1 v1 _ a1 rp1 r1 h1 => ?_)
  cases v with
  | bl k =>
    unfold RV at r1
    exact ⟨k, r1, PostR.ok0 (R := fun _ _ _ _ a b => b = a) h1 rp1 rfl⟩
  | _ => exact h1.elim
theorem tVal {e : Expr} (h : SE X W e f) (he : ∀ whole, isTrue e X.env whole = (do let v ← whole; standAt e.pos; holding [v] (truthy v)) := by intro _; rfl) : ST X W e (tOfE f) := by
  obtain ⟨t, h1, h2⟩ := h
  exact ⟨_, pt_val h1 he, simB h2⟩
theorem tCmp {op : CmpOp} {F : EV → EV → Mem → Res EV} (ho : SCm X W op F) (ha : SE X W a f) (hb : SE X W b g) (hm : behindInMarks op b = false) : ST X W (.Compare a [op] [b] pos) (tOfE (e2 F f g)) := by
  obtain ⟨r, o1, o2⟩ := ho
  obtain ⟨ta, a1, a2⟩ := ha
  obtain ⟨tb, b1, b2⟩ := hb
  exact ⟨_, pt_cmpR o1 a1 b1 hm, simB (sim2 a2 b2 o2)⟩
def tNot (t : FT) : FT := fun σ M => (t σ M).bind fun b M1 => .ok (!b) M1
def tAnd (t u : FT) : FT := fun σ M => (t σ M).bind fun b M1 => if b = true then u σ M1 else .ok false M1
def tOr (t u : FT) : FT := fun σ M => (t σ M).bind fun b M1 => if b = true then .ok true M1 else u σ M1
variable {p q : FT} {rest : List Expr}
theorem tNot' (h : ST X W a p) : ST X W (.UnaryOp .Not a pos) (tNot p) := by
  obtain ⟨t, h1, h2⟩ := h
  refine ⟨_, pt_not h1, fun ρ σe σ M H Q hs hp h => ?_⟩
  refine h2 ρ σe σ M H _ hs hp (PostR.bind h fun v M1 ρ1 H1 v1 _ a1 rp1 r1 h1 => ?_)
  subst r1
  exact PostR.ok0 (R := fun _ _ _ _ a b => b = a) h1 rp1 rfl
theorem tAnd1 (h : ST X W a p) : SW X W (.BoolOp .And [a] pos) p := by
  obtain ⟨t, h1, h2⟩ := h
  exact ⟨_, pw_and1 h1, h2⟩
theorem tOr1 (h : ST X W a p) : SW X W (.BoolOp .Or [a] pos) p := by
  obtain ⟨t, h1, h2⟩ := h
  exact ⟨_, pw_or1 h1, h2⟩
theorem tAndC (h : ST X W a p) (k : SW X W (.BoolOp .And (b :: rest) pos) q) : SW X W (.BoolOp .And (a :: b :: rest) pos) (tAnd p q) := by
  obtain ⟨t, h1, h2⟩ := h
  obtain ⟨u, k1, k2⟩ := k
  refine ⟨_, pw_and h1 k1, fun ρ σe σ M H Q hs hp h => ?_⟩
  refine h2 ρ σe σ M H _ hs hp (PostR.bind h fun v M1 ρ1 H1 v1 _ a1 rp1 r1 h1 => ?_)
  subst r1
  show if v1 = true then u σ H1 Q else Q false H1
  cases v1 with
  | true => rw [if_pos rfl] at h1 ⊢; exact k2 ρ1 σe σ M1 H1 Q (hs.carry (a1.carry hp)) rp1 h1
  | false => rw [if_neg Bool.false_ne_true] at h1 ⊢; exact PostR.ok0 (R := fun _ _ _ _ a b => b = a) h1 rp1 rfl
theorem tOrC (h : ST X W a p) (k : SW X W (.BoolOp .Or (b :: rest) pos) q) : SW X W (.BoolOp .Or (a :: b :: rest) pos) (tOr p q) := by
  obtain ⟨t, h1, h2⟩ := h
  obtain ⟨u, k1, k2⟩ := k
  refine ⟨_, pw_or h1 k1, fun ρ σe σ M H Q hs hp h => ?_⟩
  refine h2 ρ σe σ M H _ hs hp (PostR.bind h fun v M1 ρ1 H1 v1 _ a1 rp1 r1 h1 => ?_)
  subst r1
  show if v1 = true then Q true H1 else u σ H1 Q
  cases v1 with
  | false => rw [if_neg Bool.false_ne_true] at h1 ⊢; exact k2 ρ1 σe σ M1 H1 Q (hs.carry (a1.carry hp)) rp1 h1
  | true => rw [if_pos rfl] at h1 ⊢; exact PostR.ok0 (R := fun _ _ _ _ a b => b = a) h1 rp1 rfl
theorem SW.st (h : SW X W a p) : ST X W a p := by
  obtain ⟨t, h1, h2⟩ := h
  exact ⟨_, h1.pt, h2⟩
/-! .. as values -/
def eNot (f : FE) : FE := fun σ M => (f σ M).bind fun v M1 => match v with
  | .bl b => .ok (.bl (!b)) M1
  | _ => .bad
def eAnd (f g : FE) : FE := fun σ M => (f σ M).bind fun v M1 => match v with
  | .bl true => g σ M1
  | .bl false => .ok (.bl false) M1
  | _ => .bad
def eOr (f g : FE) : FE := fun σ M => (f σ M).bind fun v M1 => match v with
  | .bl false => g σ M1
  | .bl true => .ok (.bl true) M1
  | _ => .bad
theorem sNot (h : SE X W a f) : SE X W (.UnaryOp .Not a pos) (eNot f) := by
  obtain ⟨t, h1, h2⟩ := h
  refine ⟨_, pe_not h1, fun ρ σe σ M H Q hs hp h => ?_⟩
  refine h2 ρ σe σ M H _ hs hp (PostR.bind h fun v M1 ρ1 H1 v1 _ a1 rp1 r1 h1 => ?_)
  cases v with
  | bl k =>
    unfold RV at r1
    exact ⟨k, r1, PostR.ok0 (R := fun K ρ n H => RV K ρ n H) h1 rp1 (by unfold RV; rfl)⟩
  | _ => exact h1.elim
theorem sOne {op} (h : SE X W a f) : SE X W (.BoolOp op [a] pos) f := by
  obtain ⟨t, h1, h2⟩ := h
  exact ⟨_, pe_one h1, h2⟩
theorem sAnd (h : SE X W a f) (k : SE X W (.BoolOp .And (b :: rest) pos) g) : SE X W (.BoolOp .And (a :: b :: rest) pos) (eAnd f g) := by
  obtain ⟨t, h1, h2⟩ := h
  obtain ⟨u, k1, k2⟩ := k
  refine ⟨_, pe_and h1 k1, fun ρ σe σ M H Q hs hp h => ?_⟩
  refine h2 ρ σe σ M H _ hs hp (PostR.bind h fun v M1 ρ1 H1 v1 _ a1 rp1 r1 h1 => ?_)
  cases v with
  | bl k =>
    unfold RV at r1
    refine ⟨k, r1, ?_⟩
    cases k with
    | true => rw [if_pos rfl]; exact k2 ρ1 σe σ M1 H1 Q (hs.carry (a1.carry hp)) rp1 h1
    | false => rw [if_neg Bool.false_ne_true]; exact PostR.ok0 (R := fun K ρ n H => RV K ρ n H) h1 rp1 (by unfold RV; rfl)
  | _ => exact h1.elim
theorem sOr (h : SE X W a f) (k : SE X W (.BoolOp .Or (b :: rest) pos) g) : SE X W (.BoolOp .Or (a :: b :: rest) pos) (eOr f g) := by
  obtain ⟨t, h1, h2⟩ := h
  obtain ⟨u, k1, k2⟩ := k
  refine ⟨_, pe_or h1 k1, fun ρ σe σ M H Q hs hp h => ?_⟩
  refine h2 ρ σe σ M H _ hs hp (PostR.bind h fun v M1 ρ1 H1 v1 _ a1 rp1 r1 h1 => ?_)
  cases v with
  | bl k =>
    unfold RV at r1
    refine ⟨k, r1, ?_⟩
    cases k with
    | false => rw [if_neg Bool.false_ne_true]; exact k2 ρ1 σe σ M1 H1 Q (hs.carry (a1.carry hp)) rp1 h1
    | true => rw [if_pos rfl]; exact PostR.ok0 (R := fun K ρ n H => RV K ρ n H) h1 rp1 (by unfold RV; rfl)
  | _ => exact h1.elim
def eIf (t : FT) (f g : FE) : FE := fun σ M => (t σ M).bind fun b M1 => if b = true then f σ M1 else g σ M1
theorem sIfE {c : Expr} (hc : ST X W c p) (ha : SE X W a f) (hb : SE X W b g) : SE X W (.IfExp c a b pos) (eIf p f g) := by
  obtain ⟨t, h1, h2⟩ := hc
  obtain ⟨ta, a1, a2⟩ := ha
  obtain ⟨tb, b1, b2⟩ := hb
  refine ⟨_, pe_ifExp h1 a1 b1, fun ρ σe σ M H Q hs hp h => ?_⟩
  refine h2 ρ σe σ M H _ hs hp (PostR.bind h fun v M1 ρ1 H1 v1 _ a1 rp1 r1 h1 => ?_)
  subst r1
  show if v1 = true then ta σ H1 Q else tb σ H1 Q
  cases v1 with
  | true => rw [if_pos rfl] at h1 ⊢; exact a2 ρ1 σe σ M1 H1 Q (hs.carry (a1.carry hp)) rp1 h1
  | false => rw [if_neg Bool.false_ne_true] at h1 ⊢; exact b2 ρ1 σe σ M1 H1 Q (hs.carry (a1.carry hp)) rp1 h1
end

/-! ### arguments, displays -/
def aNil : FA := fun _ M => .ok [] M
def aCons (f : FE) (g : FA) : FA := fun σ M => (f σ M).bind fun v M1 => (g σ M1).bind fun vs M2 => .ok (v :: vs) M2
def newL (xs : List EV) (M : Mem) : Res EV := if xs.length ≤ sizeLine then .ok (.ref M.length) (M ++ [.lst xs]) else .bad
def newT (xs : List EV) (M : Mem) : Res EV := if xs.length ≤ sizeLine then .ok (.tup xs) M else .bad
section
variable {X : Cx} {W : WX} {pos : Pos} {e : Expr} {es : List Expr} {f : FE} {g : FA}
theorem saNil : SA X W [] aNil := ⟨_, pa_nil, fun ρ σe σ M H Q hs hp h => PostR.ok0 (R := fun K ρ n H => RVs K ρ n H) h hp RVs.nil⟩
theorem saCons (he : SE X W e f) (hr : SA X W es g) (hs : starEach (e :: es) X.env = (false, eval e X.env) :: starEach es X.env := by rfl) : SA X W (e :: es) (aCons f g) := by
  obtain ⟨t, h1, h2⟩ := he
  obtain ⟨u, k1, k2⟩ := hr
  refine ⟨_, pa_cons h1 k1 hs, fun ρ σe σ M H Q hs hp h => ?_⟩
  refine h2 ρ σe σ M H _ hs hp (PostR.bind h fun v M1 ρ1 H1 v1 _ a1 rp1 r1 h1 => ?_)
  refine k2 ρ1 σe σ M1 H1 _ (hs.carry (a1.carry hp)) rp1 (PostR.bind h1 fun w M2 ρ2 H2 w2 _ a2 rp2 r2 h2 => ?_)
  exact PostR.ok0 (R := fun K ρ n H => RVs K ρ n H) h2 rp2 (RVs.cons (r1.carry (a2.carry rp1)) r2)
theorem newL_sim {G : Gr} {σ : L2.St} {ρ : Nat → Addr} {M : Mem} {H : Hp} {xs : List EV} {vs : List V} {Q : VK} (hp : RP G ρ M H) (r : RVs G.K ρ M.length H xs vs) (h : PostE G W σ ρ M H (newL xs M) Q) :
    vs.length ≤ sizeLine ∧ ∀ p, H p = none → Q (.ref p) (upd H p (.lst vs)) := by
  unfold newL at h
  by_cases q : xs.length ≤ sizeLine
  · rw [if_pos q] at h
    refine ⟨by rw [r.length]; exact q, fun p np => ?_⟩
    obtain ⟨a, rp⟩ := alloc hp np (.lst vs) (.lst xs) fun c => ⟨vs, upd_same, r.carry c⟩
    exact h _ _ _ a rp (by unfold RV; exact ⟨by simp, by rw [ext_self]⟩)
  · rw [if_neg q] at h
    exact h.elim
theorem newT_sim {G : Gr} {σ : L2.St} {ρ : Nat → Addr} {M : Mem} {H : Hp} {xs : List EV} {vs : List V} {Q : VK} (hp : RP G ρ M H) (r : RVs G.K ρ M.length H xs vs) (h : PostE G W σ ρ M H (newT xs M) Q) :
    vs.length ≤ sizeLine ∧ ∀ p, H p = none → Q (.ref p) (upd H p (.tup vs)) := by
  unfold newT at h
  by_cases q : xs.length ≤ sizeLine
  · rw [if_pos q] at h
    refine ⟨by rw [r.length]; exact q, fun p np => ?_⟩
    obtain ⟨a, rp⟩ := side hp np (.tup vs)
    exact h _ _ _ a rp (by unfold RV; exact ⟨p, vs, rfl, upd_same, r.carry (a.carry hp)⟩)
  · rw [if_neg q] at h
    exact h.elim
def eLst (g : FA) : FE := fun σ M => (g σ M).bind fun xs M1 => newL xs M1
def eTup (g : FA) : FE := fun σ M => (g σ M).bind fun xs M1 => newT xs M1
theorem sLst (h : SA X W es g) : SE X W (.List es pos) (eLst g) := by
  obtain ⟨t, h1, h2⟩ := h
  refine ⟨_, pe_lst h1, fun ρ σe σ M H Q hs hp h => ?_⟩
  refine h2 ρ σe σ M H _ hs hp (PostR.bind h fun v M1 ρ1 H1 v1 _ a1 rp1 r1 h1 => ?_)
  exact newL_sim rp1 r1 h1
theorem sTup {x1} (h : SA X W es g) : SE X W (.Tuple es x1 pos) (eTup g) := by
  obtain ⟨t, h1, h2⟩ := h
  refine ⟨_, pe_tup h1, fun ρ σe σ M H Q hs hp h => ?_⟩
  refine h2 ρ σe σ M H _ hs hp (PostR.bind h fun v M1 ρ1 H1 v1 _ a1 rp1 r1 h1 => ?_)
  exact newT_sim rp1 r1 h1
end
end WS

set_option Elab.async false
set_option linter.all false
set_option maxRecDepth 100000
/-! The simulation: targets, statements, loops, comprehensions. -/
namespace WS
open PySem PySem.Spec PyProof.Rows L2
open Classical

/-! ### names stored -/
def putsE (σ : StE) : List (Nat × EV) → StE
  | [] => σ
  | p :: r => putsE (σ.set p.1 (some p.2)) r
def puts (σ : L2.St) : List (Nat × V) → L2.St
  | [] => σ
  | p :: r => puts (σ.set p.1 (some p.2)) r
def RPs (K : PySem.W.Frag) (ρ : Nat → Addr) (n : Nat) (H : Hp) : List (Nat × EV) → List (Nat × V) → Prop
  | [], l => l = []
  | p :: r, l => ∃ v s, l = (p.1, v) :: s ∧ RV K ρ n H p.2 v ∧ RPs K ρ n H r s
section
variable {K : PySem.W.Frag} {ρ : Nat → Addr} {n : Nat} {H : Hp}
theorem RSt.puts : ∀ {l : List (Nat × EV)} {l' : List (Nat × V)} {σe : StE} {σ : L2.St}, RSt K ρ n H σe σ → RPs K ρ n H l l' → RSt K ρ n H (putsE σe l) (puts σ l')
  | [], _, _, _, h, e => by rw [show _ = _ from e]; exact h
  | p :: r, _, σe, σ, h, ⟨v, s, e, h1, h2⟩ => by
    have q : RSt K ρ n H (σe.set p.1 (some p.2)) (σ.set p.1 (some v)) := RSt.set h1 p.1 h
    have z := RSt.puts (l := r) (l' := s) q h2
    rw [e]
    exact z
theorem RPs.map : ∀ {l : List (Nat × EV)} {l' : List (Nat × V)}, RPs K ρ n H l l' → l'.map (·.1) = l.map (·.1)
  | [], _, e => by rw [show _ = _ from e]; rfl
  | p :: r, _, ⟨v, s, e, h1, h2⟩ => by rw [e, List.map_cons, List.map_cons, RPs.map h2]
def wipeE (σ : StE) : List Nat → StE
  | [] => σ
  | v :: vs => (wipeE σ vs).set v none
theorem RSt.clear : ∀ (i : Nat) {xs : StE} {vs : L2.St}, RSt K ρ n H xs vs → RSt K ρ n H (xs.set i none) (vs.set i none)
  | _, [], _, h => by rw [show _ = _ from h]; rfl
  | 0, none :: xs, _, ⟨w, r, e, h2⟩ => ⟨none, r, by rw [e]; rfl, h2⟩
  | 0, some y :: xs, _, ⟨w, r, e, h1, h2⟩ => ⟨none, r, by rw [e]; rfl, h2⟩
  | i + 1, none :: xs, _, ⟨w, r, e, h2⟩ => ⟨w, r.set i none, by rw [e]; rfl, RSt.clear i h2⟩
  | i + 1, some y :: xs, _, ⟨w, r, e, h1, h2⟩ => ⟨w, r.set i none, by rw [e]; rfl, h1, RSt.clear i h2⟩
theorem RSt.wipe {σe : StE} {σ : L2.St} (h : RSt K ρ n H σe σ) : ∀ vs : List Nat, RSt K ρ n H (wipeE σe vs) (L2.wipe σ vs)
  | [] => h
  | v :: vs => by unfold wipeE L2.wipe; exact (RSt.wipe h vs).clear v
end
theorem wipe_set (σ : L2.St) (i : Nat) (o : Option V) : ∀ vs : List Nat, i ∈ vs → L2.wipe (σ.set i o) vs = L2.wipe σ vs
  | [], h => absurd h (by simp)
  | v :: vs, h => by
    unfold L2.wipe
    by_cases e : v = i
    · subst e
      by_cases q : v ∈ vs
      · rw [wipe_set σ v o vs q]
      · have : ∀ ws : List Nat, v ∉ ws → L2.wipe (σ.set v o) ws = (L2.wipe σ ws).set v o := by
          intro ws
          induction ws with
          | nil => intro _; rfl
          | cons w ws ih =>
            intro hn
            have h1 : v ≠ w := fun z => hn (by simp [z])
            have h2 : v ∉ ws := fun z => hn (by simp [z])
            unfold L2.wipe
            rw [ih h2, List.set_comm _ _ h1]
        rw [this vs q, List.set_set]
    · have q : i ∈ vs := by
        rcases List.mem_cons.mp h with z | z
        · exact absurd z.symm e
        · exact z
      rw [wipe_set σ i o vs q]
theorem wipe_wipe (σ : L2.St) : ∀ vs : List Nat, L2.wipe (L2.wipe σ vs) vs = L2.wipe σ vs := by
  have gen : ∀ (us vs : List Nat), (∀ u ∈ us, u ∈ vs) → L2.wipe (L2.wipe σ us) vs = L2.wipe σ vs := by
    intro us
    induction us with
    | nil => intro vs _; rfl
    | cons u us ih =>
      intro vs h
      show L2.wipe ((L2.wipe σ us).set u none) vs = _
      rw [wipe_set _ u none vs (h u (by simp)), ih vs fun w hw => h w (by simp [hw])]
  exact fun vs => gen vs vs fun _ h => h
theorem wipe_puts (vs : List Nat) : ∀ (l : List (Nat × V)) (σ : L2.St), (∀ p ∈ l, p.1 ∈ vs) → L2.wipe (puts σ l) vs = L2.wipe σ vs
  | [], _, _ => rfl
  | p :: r, σ, h => by
    unfold puts
    rw [wipe_puts vs r _ fun q hq => h q (by simp [hq]), wipe_set _ _ _ _ (h p (by simp))]

/-! ### lists and tuples by their items -/
def getL (M : Mem) : EV → Option (List EV)
  | .ref k => match M[k]? with
    | some (.lst xs) => some xs
    | _ => none
  | .sl xs => some (xs.map .int)
  | _ => none
def getS (M : Mem) : EV → Option (List EV)
  | .tup xs => some xs
  | v => getL M v
section
variable {G : Gr} {ρ : Nat → Addr} {M : Mem} {H : Hp}
theorem getL_sim (hp : RP G ρ M H) {v : EV} {u : V} {xs : List EV} (r : RV G.K ρ M.length H v u) (e : getL M v = some xs) : ∃ a vs, u = .ref a ∧ SqL G.K H a vs ∧ RVs G.K ρ M.length H xs vs := by
  cases v with
  | ref k =>
    unfold getL at e
    dsimp only at e
    cases q : M[k]? with
    | none => rw [q] at e; cases e
    | some o =>
      rw [q] at e
      cases o with
      | lst ys =>
        cases e
        unfold RV at r
        obtain ⟨vs, h1, h2⟩ := hp.obj k _ q
        exact ⟨_, vs, r.2, .of h1, h2⟩
      | _ => cases e
  | sl ys =>
    unfold getL at e
    cases e
    unfold RV at r
    obtain ⟨a, e1, h⟩ := r
    exact ⟨a, _, e1, h.sq, RVs.ints ys⟩
  | _ => cases e
theorem getT_sim {v : EV} {u : V} {xs : List EV} (r : RV G.K ρ M.length H v u) (e : v = .tup xs) : ∃ a vs, u = .ref a ∧ SqT G.K H a vs ∧ RVs G.K ρ M.length H xs vs := by
  subst e
  unfold RV at r
  obtain ⟨a, vs, e, h1, h2⟩ := r
  exact ⟨a, vs, e, .of h1, h2⟩
theorem getS_sim (hp : RP G ρ M H) {v : EV} {u : V} {xs : List EV} (r : RV G.K ρ M.length H v u) (e : getS M v = some xs) : ∃ a vs, u = .ref a ∧ (SqL G.K H a vs ∨ SqT G.K H a vs) ∧ RVs G.K ρ M.length H xs vs := by
  cases v with
  | tup ys => cases e; obtain ⟨a, vs, h1, h2, h3⟩ := getT_sim r rfl; exact ⟨a, vs, h1, .inr h2, h3⟩
  | ref k => obtain ⟨a, vs, h1, h2, h3⟩ := getL_sim hp r e; exact ⟨a, vs, h1, .inl h2, h3⟩
  | sl ys => obtain ⟨a, vs, h1, h2, h3⟩ := getL_sim hp r e; exact ⟨a, vs, h1, .inl h2, h3⟩
  | _ => cases e
end

/-! ### targets that store names -/
abbrev Put := EV → Mem → Option (List (Nat × EV))
structure SG (X : Cx) (tg : Expr) (put : Put) : Prop where
  ex : ∃ g, PG X tg g ∧ ∀ ρ M H x x' (σ : L2.St) (Q : L2.St → Hp → Prop) l, RP (gr X) ρ M H → RV X.K ρ M.length H x x' → put x M = some l → (∀ l', RPs X.K ρ M.length H l l' → Q (puts σ l') H) → g x' σ H Q
def pN (i : Nat) : Put := fun x _ => some [(i, x)]
def zipN : List Nat → List EV → Option (List (Nat × EV))
  | [], [] => some []
  | i :: is, x :: xs => (zipN is xs).map ((i, x) :: ·)
  | _, _ => none
/-- (a, b, ..) = a tuple or a list -/
def pT (is : List Nat) : Put := fun x M => (getS M x).bind (zipN is)
section
variable {X : Cx} {pos : Pos}
theorem gN {i : Nat} {x : Str} (hN : X.N.Nodup) (hi : X.N[i]? = some x := by rfl) (hx : Loc X.env.scope x := by first | exact Or.inl rfl | exact Or.inr rfl)
    (hf : X.fn x = true ∨ X.env.scope.names.lookup x = some .local := by first | exact .inl rfl | exact .inr rfl) : SG X (.Name x pos) (pN i) := by
  refine ⟨_, pg_name hN hi hx hf, fun ρ M H x x' σ Q l hp r e h => ?_⟩
  cases e
  exact h [(i, x')] ⟨x', [], rfl, r, rfl⟩
/-- names one after another -/
structure SGs (X : Cx) (ts : List Expr) (is : List Nat) : Prop where
  ex : ∃ g, PGs X ts g ∧ ∀ K ρ n H xs vs (σ : L2.St) (Q : L2.St → Hp → Prop) l, RVs K ρ n H xs vs → zipN is xs = some l → (∀ l', RPs K ρ n H l l' → Q (puts σ l') H) → g vs σ H Q
  len : ts.length = is.length
theorem gsNil : SGs X [] [] := ⟨⟨_, pgs_nil, fun K ρ n H xs vs σ Q l r e h => by
    cases xs with
    | nil => unfold RVs at r; cases e; exact ⟨r, h [] rfl⟩
    | cons x xs => cases e⟩, rfl⟩
theorem gsCons {x : Str} {i : Nat} {es : List Expr} {is : List Nat} (hN : X.N.Nodup) (k : SGs X es is) (hi : X.N[i]? = some x := by rfl) (hx : Loc X.env.scope x := by first | exact Or.inl rfl | exact Or.inr rfl)
    (hf : X.fn x = true ∨ X.env.scope.names.lookup x = some .local := by first | exact .inl rfl | exact .inr rfl)
    (hs : (assignEach (.Name x pos :: es) X.env).map (·.2) = assign (.Name x pos) X.env :: (assignEach es X.env).map (·.2) := by rfl) : SGs X (.Name x pos :: es) (i :: is) := by
  obtain ⟨⟨g, k1, k2⟩, k3⟩ := k
  refine ⟨⟨_, pgs_cons (pg_name hN hi hx hf) k1 hs, fun K ρ n H xs vs σ Q l r e h => ?_⟩, by rw [List.length_cons, List.length_cons, k3]⟩
  cases xs with
  | nil => cases e
  | cons y ys =>
    unfold RVs at r
    obtain ⟨v, s, e1, r1, r2⟩ := r
    unfold zipN at e
    cases q : zipN is ys with
    | none => rw [q] at e; cases e
    | some m =>
      rw [q] at e
      cases e
      refine ⟨v, s, e1, ?_⟩
      exact k2 K ρ n H ys s _ Q m r2 q fun l' hl => h ((i, v) :: l') ⟨v, l', rfl, r1, hl⟩
theorem zipN_len : ∀ {is : List Nat} {xs : List EV} {l : List (Nat × EV)}, zipN is xs = some l → xs.length = is.length
  | [], [], _, _ => rfl
  | [], _ :: _, _, e => by cases e
  | _ :: _, [], _, e => by cases e
  | i :: is, x :: xs, l, e => by
    unfold zipN at e
    cases q : zipN is xs with
    | none => rw [q] at e; cases e
    | some m => rw [List.length_cons, List.length_cons, zipN_len q]
theorem PG.or {tg : Expr} {g g' : TG} (a : PG X tg g) (b : PG X tg g') : PG X tg (fun v σ H Q => g v σ H Q ∨ g' v σ H Q) :=
  ⟨fun pins s σ H v u Q I r h => h.elim (a.run pins s σ H v u Q I r) (b.run pins s σ H v u Q I r)⟩
theorem gT {es : List Expr} {k : Nat} {is : List Nat} {n : Nat} (hc : X.calm = true) (h : SGs X es is) (hn : (assignEach es X.env).length = n := by rfl) (hst : (assignEach es X.env).findIdx? (·.1) = none := by rfl) (hl : is.length = n := by rfl) : SG X (.Tuple es k pos) (pT is) := by
  obtain ⟨⟨g, k1, k2⟩, k3⟩ := h
  refine ⟨_, PG.or (pg_tup hc k1 hn hst) (pg_lst hc k1 hn hst), fun ρ M H x x' σ Q l hp r e h => ?_⟩
  unfold pT at e
  cases q : getS M x with
  | none => rw [q] at e; cases e
  | some xs =>
    rw [q] at e
    have e : zipN is xs = some l := e
    obtain ⟨a, vs, e1, sq, r1⟩ := getS_sim hp r q
    have ln : vs.length = n := by rw [r1.length, zipN_len e, hl]
    have fin := k2 X.K ρ M.length H xs vs σ Q l r1 e h
    rcases sq with sq | sq
    · exact .inr ⟨a, vs, e1, sq, ln, fin⟩
    · exact .inl ⟨a, vs, e1, sq, ln, fin⟩
end

/-! ### statements -/
def Res.thenS {α : Type} (r : Res α) (σ : StE) (g : α → Mem → RS) : RS := match r with
  | .ok v M => g v M
  | .err x M => .err x σ M
  | .bad => .bad
section
variable {α β : Type} {R : Rel α β} {G : Gr} {W : WX} {σe : StE} {σ : L2.St} {ρ : Nat → Addr} {M : Mem} {H : Hp}
theorem PostS.bindR {r : Res α} {g : α → Mem → RS} {D : Ends} {Q1 : β → Hp → Prop} (hs : RSt G.K ρ M.length H σe σ) (hp : RP G ρ M H) (p : PostS G W ρ M H (r.thenS σe g) D)
    (h : ∀ v M1 ρ1 H1 v1, r = .ok v M1 → After ρ M H ρ1 M1 H1 → RP G ρ1 M1 H1 → R G.K ρ1 M1.length H1 v v1 → PostS G W ρ1 M1 H1 (g v M1) D → Q1 v1 H1) : PostR R G W σ ρ M H r Q1 := by
  cases r with
  | ok v M1 => exact fun ρ1 H1 v1 a rp q => h v M1 ρ1 H1 v1 rfl a rp q (PostS.shift (r := g v M1) p rp a)
  | err x M1 => exact fun ρ1 H1 d a rp q => p ρ1 H1 σ d a rp (hs.carry (a.carry hp)) q
  | bad => exact p
end
def sSeq (f g : FS) : FS := fun σ M => match f σ M with
  | .nx σ1 M1 => g σ1 M1
  | r => r
def sNil : FS := fun σ M => .nx σ M
section
variable {X : Cx} {W : WX} {st : Stmt} {rest : List Stmt} {f g : FS} {pos : Pos} {e : Expr} {fe : FE}
theorem ssNil : SSs X W [] sNil := ⟨_, pss_nil, fun ρ σe σ M H D hs hp h => h ρ H σ .refl hp hs⟩
theorem ssCons (h : SS X W st f) (k : SSs X W rest g) : SSs X W (st :: rest) (sSeq f g) := by
  obtain ⟨t, h1, h2⟩ := h
  obtain ⟨u, k1, k2⟩ := k
  refine ⟨_, pss_cons h1 k1, fun ρ σe σ M H D hs hp h => ?_⟩
  refine h2 ρ σe σ M H _ hs hp ?_
  unfold sSeq at h
  cases q : f σe M with
  | nx s1 M1 => rw [q] at h; exact fun ρ1 H1 σ1 a rp rs => k2 ρ1 s1 σ1 M1 H1 D rs rp (PostS.shift (r := g s1 M1) h rp a)
  | rt v M1 => rw [q] at h; exact h
  | bk s1 M1 => rw [q] at h; exact h
  | ct s1 M1 => rw [q] at h; exact h
  | err x s1 M1 => rw [q] at h; exact h
  | bad => rw [q] at h; exact h
theorem ssOne (h : SS X W st f) : SSs X W [st] f := by
  obtain ⟨t, h1, h2⟩ := h
  exact ⟨_, pss_one h1, h2⟩
def sDrop (f : FE) : FS := fun σ M => (f σ M).thenS σ fun _ M1 => .nx σ M1
theorem ssExpr (he : SE X W e fe) (hs : swapsWith e none pos.line X.env = pure false := by rfl) : SS X W (.Expr e pos) (sDrop fe) := by
  obtain ⟨t, h1, h2⟩ := he
  refine ⟨_, ps_expr h1 hs, fun ρ σe σ M H D hs hp h => ?_⟩
  exact h2 ρ σe σ M H _ hs hp (PostS.bindR hs hp h fun v M1 ρ1 H1 v1 _ a rp r h1 => h1 ρ1 H1 σ .refl rp (hs.carry (a.carry hp)))
theorem ssDoc {x j pos'} : SS X W (.Expr (.Constant (.str x) j pos') pos) sNil := ⟨_, ps_doc, fun ρ σe σ M H D hs hp h => h ρ H σ .refl hp hs⟩
theorem ssPass : SS X W (.Pass pos) sNil := ⟨_, ps_pass, fun ρ σe σ M H D hs hp h => h ρ H σ .refl hp hs⟩
def sBrk : FS := fun σ M => .bk σ M
def sCnt : FS := fun σ M => .ct σ M
theorem ssBrk : SS X W (.Break pos) sBrk := ⟨_, ps_break, fun ρ σe σ M H D hs hp h => h ρ H σ .refl hp hs⟩
theorem ssCnt : SS X W (.Continue pos) sCnt := ⟨_, ps_continue, fun ρ σe σ M H D hs hp h => h ρ H σ .refl hp hs⟩
def sRet (f : FE) : FS := fun σ M => (f σ M).thenS σ fun v M1 => .rt v M1
theorem ssRet (he : SE X W e fe) : SS X W (.Return (some e) pos) (sRet fe) := by
  obtain ⟨t, h1, h2⟩ := he
  refine ⟨_, ps_ret h1, fun ρ σe σ M H D hs hp h => ?_⟩
  exact h2 ρ σe σ M H _ hs hp (PostS.bindR hs hp h fun v M1 ρ1 H1 v1 _ a rp r h1 => h1 ρ1 H1 v1 .refl rp r)
def sRetN : FS := fun _ M => .rt .non M
theorem ssRetN : SS X W (.Return none pos) sRetN := ⟨_, ps_retN, fun ρ σe σ M H D hs hp h => h ρ H .non .refl hp (by unfold RV; rfl)⟩
def sIf (t : FT) (f g : FS) : FS := fun σ M => (t σ M).thenS σ fun b M1 => if b = true then f σ M1 else g σ M1
theorem ssIf {c : Expr} {a b : List Stmt} {p : FT} (hc : ST X W c p) (ha : SSs X W a f) (hb : SSs X W b g) : SS X W (.If c a b pos) (sIf p f g) := by
  obtain ⟨t, h1, h2⟩ := hc
  obtain ⟨ta, a1, a2⟩ := ha
  obtain ⟨tb, b1, b2⟩ := hb
  refine ⟨_, ps_if h1 a1 b1, fun ρ σe σ M H D hs hp h => ?_⟩
  refine h2 ρ σe σ M H _ hs hp (PostS.bindR hs hp h fun v M1 ρ1 H1 v1 _ aft rp r h1 => ?_)
  subst r
  show if v1 = true then ta D σ H1 else tb D σ H1
  cases v1 with
  | true => rw [if_pos rfl] at h1 ⊢; exact a2 ρ1 σe σ M1 H1 D (hs.carry (aft.carry hp)) rp h1
  | false => rw [if_neg Bool.false_ne_true] at h1 ⊢; exact b2 ρ1 σe σ M1 H1 D (hs.carry (aft.carry hp)) rp h1
/-- target = value, the target names -/
def sPut (put : Put) (f : FE) : FS := fun σ M => (f σ M).thenS σ fun v M1 => match put v M1 with
  | some l => .nx (putsE σ l) M1
  | none => .bad
theorem sim_put {t : TE} {gg : TG} {put : Put} (h2 : SimE (gr X) W t fe) (g2 : ∀ ρ M H x x' (σ : L2.St) (Q : L2.St → Hp → Prop) l, RP (gr X) ρ M H → RV X.K ρ M.length H x x' → put x M = some l → (∀ l', RPs X.K ρ M.length H l l' → Q (puts σ l') H) → gg x' σ H Q) :
    SimS (gr X) W (tAsg t gg) (sPut put fe) := by
  intro ρ σe σ M H D hs hp h
  refine h2 ρ σe σ M H _ hs hp (PostS.bindR hs hp h fun v M1 ρ1 H1 v1 _ a rp r h1 => ?_)
  cases q : put v M1 with
  | none => rw [q] at h1; exact h1.elim
  | some l =>
    rw [q] at h1
    exact g2 ρ1 M1 H1 v v1 σ _ l rp r q fun l' hl => h1 ρ1 H1 _ .refl rp ((hs.carry (a.carry hp)).puts hl)
theorem ssSet {i : Nat} {x : Str} {pos' : Pos} (hN : X.N.Nodup) (he : SE X W e fe) (hi : X.N[i]? = some x := by rfl) (hx : Loc X.env.scope x := by first | exact Or.inl rfl | exact Or.inr rfl) (hs : swapsWith e (some (.Name x pos')) pos.line X.env = pure false := by rfl)
    (hf : X.fn x = true ∨ X.env.scope.names.lookup x = some .local := by first | exact .inl rfl | exact .inr rfl) : SS X W (.Assign [.Name x pos'] e pos) (sPut (pN i) fe) := by
  obtain ⟨t, h1, h2⟩ := he
  refine ⟨_, ps_set hN hi hx h1 hs hf, sim_put h2 fun ρ M H x x' σ Q l hp r e h => ?_⟩
  cases e
  exact h [(i, x')] ⟨x', [], rfl, r, rfl⟩
theorem ssPut {tg : Expr} {put : Put} (he : SE X W e fe) (hg : SG X tg put) (hs : swapsWithSole [tg] e pos.line X.env = pure false := by rfl) (hw : swappedStores [tg] e X.env = pure none := by rfl)
    (h1 : (assignEach [tg] X.env).map (·.2) = [assign tg X.env] := by rfl) : SS X W (.Assign [tg] e pos) (sPut put fe) := by
  obtain ⟨t, k1, k2⟩ := he
  obtain ⟨gg, g1, g2⟩ := hg
  exact ⟨_, ps_asg k1 g1 hs hw h1, sim_put k2 g2⟩
/-- a, b = x, y -/
def sPar (is : List Nat) (g : FA) : FS := fun σ M => (g σ M).thenS σ fun vs M1 => match zipN is vs with
  | some l => .nx (putsE σ l) M1
  | none => .bad
theorem ssPar {i j : Nat} {x y : Str} {a b : Expr} {fa : FA} {px py pt : Pos} {kt k2 pt2} (hc : X.calm = true) (hN : X.N.Nodup) (ha : SA X W [a, b] fa) (hi : X.N[i]? = some x := by rfl) (hj : X.N[j]? = some y := by rfl) (hij : i ≠ j := by decide)
    (hx : X.env.scope.names.lookup x = some .local := by rfl) (hy : X.env.scope.names.lookup y = some .local := by rfl)
    (hw : swappedStores [.Tuple [.Name x px, .Name y py] kt pt] (.Tuple [a, b] k2 pt2) X.env = pure (some [x, y]) := by rfl)
    (hs : swapsWithSole [.Tuple [.Name x px, .Name y py] kt pt] (.Tuple [a, b] k2 pt2) pos.line X.env = pure false := by rfl) :
    SS X W (.Assign [.Tuple [.Name x px, .Name y py] kt pt] (.Tuple [a, b] k2 pt2) pos) (sPar [i, j] fa) := by
  obtain ⟨t, h1, h2⟩ := ha
  refine ⟨_, ps_par hc hN hi hj hij hx hy h1 hw hs, fun ρ σe σ M H D hs hp h => ?_⟩
  refine h2 ρ σe σ M H _ hs hp (PostS.bindR (R := fun K ρ n H => RVs K ρ n H) hs hp h fun v M1 ρ1 H1 v1 _ aft rp r h1 => ?_)
  cases q : zipN [i, j] v with
  | none => rw [q] at h1; exact h1.elim
  | some l =>
    rw [q] at h1
    match v, q, r with
    | [v1, v2], q, r =>
      cases q
      unfold RVs at r
      obtain ⟨u1, r', rfl, c1, r⟩ := r
      unfold RVs at r
      obtain ⟨u2, r'', rfl, c2, r⟩ := r
      unfold RVs at r
      subst r
      refine ⟨u1, u2, rfl, h1 ρ1 H1 _ .refl rp ?_⟩
      exact (hs.carry (aft.carry hp)).puts (l := [(i, v1), (j, v2)]) (l' := [(i, u1), (j, u2)]) ⟨u1, _, rfl, c1, u2, _, rfl, c2, rfl⟩
end

/-! ### what is walked -/
/-- an object of the memory that must stand as it was -/
abbrev Guard := Option (Nat × EO)
def okG : Guard → Mem → Prop
  | none, _ => True
  | some (k, o), M => M[k]? = some o
/-- what a walk asks of what is done meanwhile: less than a step of the memory -/
structure Soft (G : Gr) (ρ1 : Nat → Addr) (M1 : Mem) (H1 : Hp) (ρ : Nat → Addr) (M : Mem) (H : Hp) : Prop where
  car : Carry G.K ρ1 M1.length H1 ρ M.length H
  lck : ∀ k l, M1[k]? = some (.lck l) → M[k]? = some (.lck l) ∧ H (ρ1 k) = H1 (ρ1 k)
theorem After.soft {G : Gr} {ρ1 ρ : Nat → Addr} {M1 M : Mem} {H1 H : Hp} (a : After ρ1 M1 H1 ρ M H) (R : RP G ρ1 M1 H1) : Soft G ρ1 M1 H1 ρ M H := ⟨a.carry R, a.lck⟩
structure JOk (G : Gr) (xs : List EV) (gd : Guard) (ρ1 : Nat → Addr) (M1 : Mem) (H1 : Hp) (J : It) : Prop where
  stop : ∀ ρ M H, Soft G ρ1 M1 H1 ρ M H → RP G ρ M H → okG gd M → J.stop xs.length H
  go : ∀ i x ρ M H, Soft G ρ1 M1 H1 ρ M H → RP G ρ M H → okG gd M → xs[i]? = some x → J.go i H ∧ ∀ x' H', J.yld i H x' H' → After ρ M H ρ M H' ∧ RP G ρ M H' ∧ RV G.K ρ M.length H' x x'
abbrev FI := StE → Mem → Res (List EV × Guard)
def PostI (G : Gr) (W : WX) (σ : L2.St) (ρ : Nat → Addr) (M : Mem) (H : Hp) (r : Res (List EV × Guard)) (Q : It → Hp → Prop) : Prop :=
  match r with
  | .ok v M' => ∀ ρ' H' J, After ρ M H ρ' M' H' → RP G ρ' M' H' → JOk G v.1 v.2 ρ' M' H' J → Q J H'
  | .err x M' => ∀ ρ' H' d, After ρ M H ρ' M' H' → RP G ρ' M' H' → RX G.K ρ' M'.length H' x d → W (.ref x.cls) d σ H'
  | .bad => False
structure SI (X : Cx) (W : WX) (tg iter : Expr) (fi : FI) : Prop where
  ex : ∃ wi, PI X tg iter wi ∧ ∀ ρ σe σ M H Q, RSt X.K ρ M.length H σe σ → RP (gr X) ρ M H → PostI (gr X) W σ ρ M H (fi σe M) Q → wi σ H Q
section
variable {G : Gr} {W : WX} {σ : L2.St} {ρ ρ' : Nat → Addr} {M M' : Mem} {H H' : Hp}
theorem PostI.shift {r : Res (List EV × Guard)} {Q : It → Hp → Prop} (p : PostI G W σ ρ M H r Q) (rp : RP G ρ' M' H') (a : After ρ M H ρ' M' H') : PostI G W σ ρ' M' H' r Q := by
  cases r with
  | ok v M1 => exact fun ρ1 H1 v1 b rp1 q => p ρ1 H1 v1 (a.trans rp b) rp1 q
  | err x M1 => exact fun ρ1 H1 d b rp1 q => p ρ1 H1 d (a.trans rp b) rp1 q
  | bad => exact p
theorem PostI.bind {α β : Type} {R : Rel α β} {r : Res α} {g : α → Mem → Res (List EV × Guard)} {Q : It → Hp → Prop} {Q1 : β → Hp → Prop} (p : PostI G W σ ρ M H (r.bind g) Q)
    (h : ∀ v M1 ρ1 H1 v1, r = .ok v M1 → After ρ M H ρ1 M1 H1 → RP G ρ1 M1 H1 → R G.K ρ1 M1.length H1 v v1 → PostI G W σ ρ1 M1 H1 (g v M1) Q → Q1 v1 H1) : PostR R G W σ ρ M H r Q1 := by
  cases r with
  | ok v M1 => exact fun ρ1 H1 v1 a rp q => h v M1 ρ1 H1 v1 rfl a rp q (PostI.shift (r := g v M1) p rp a)
  | err x M1 => exact p
  | bad => exact p
end
/-- over a list or a tuple (a list must stand as it is) -/
def iSeq (f : FE) : FI := fun σ M => (f σ M).bind fun v M1 => match v with
  | .tup xs => .ok (xs, none) M1
  | .ref k => match M1[k]? with
    | some (.lst xs) => .ok (xs, some (k, .lst xs)) M1
    | _ => .bad
  | _ => .bad
def as1I : List EV → Option Int
  | [.int j] => some j
  | _ => none
def as2I : List EV → Option (Int × Int)
  | [.int i, .int j] => some (i, j)
  | _ => none
theorem as1I_eq {vs : List EV} {j : Int} (h : as1I vs = some j) : vs = [.int j] := by
  unfold as1I at h
  split at h
  · cases h; rfl
  · cases h
theorem as2I_eq {vs : List EV} {p : Int × Int} (h : as2I vs = some p) : vs = [.int p.1, .int p.2] := by
  unfold as2I at h
  split at h
  · cases h; rfl
  · cases h
/-- within 62 bits -/
def In62 (j : Int) : Prop := -4611686018427387904 ≤ j ∧ j < 4611686018427387904
instance (j : Int) : Decidable (In62 j) := inferInstanceAs (Decidable (_ ∧ _))
theorem In62.lo {j : Int} (h : In62 j) : -(2 ^ 62) ≤ j := h.1
theorem In62.hi {j : Int} (h : In62 j) : j < 2 ^ 62 := h.2
def rng (i : Int) (n : Nat) : List EV := (List.range n).map fun (k : Nat) => EV.int (i + (k : Int))
def iR1 (f : FA) : FI := fun σ M => (f σ M).bind fun vs M1 => match as1I vs with
  | some j => if In62 j then .ok (rng 0 j.toNat, none) M1 else .bad
  | none => .bad
def iR2 (f : FA) : FI := fun σ M => (f σ M).bind fun vs M1 => match as2I vs with
  | some p => if In62 p.1 ∧ In62 p.2 then .ok (rng p.1 (p.2 - p.1).toNat, none) M1 else .bad
  | none => .bad
section
variable {X : Cx} {W : WX} {tg e : Expr} {fe : FE} {fa : FA} {p pos : Pos}
theorem PI.or {iter : Expr} {w w' : TI} (a : PI X tg iter w) (b : PI X tg iter w') : PI X tg iter (fun σ H R => w σ H R ∨ w' σ H R) :=
  ⟨fun pins s σ H R I h => h.elim (a.run pins s σ H R I) (b.run pins s σ H R I)⟩
theorem jRange (G : Gr) (i : Int) (n : Nat) (ρ : Nat → Addr) (M : Mem) (H : Hp) : JOk G (rng i n) none ρ M H (Itr i n) where
  stop := fun ρ M H _ _ _ => by
    show n ≤ (rng i n).length
    unfold rng
    rw [List.length_map, List.length_range]
    exact Nat.le_refl _
  go := fun k x ρ M H _ rp _ e => by
    unfold rng at e
    rw [List.getElem?_map] at e
    cases q : (List.range n)[k]? with
    | none => rw [q] at e; cases e
    | some j =>
      rw [q] at e
      obtain ⟨h2, h3⟩ := (List.getElem?_eq_some_iff.mp q)
      rw [List.getElem_range] at h3
      subst h3
      cases e
      rw [List.length_range] at h2
      refine ⟨h2, fun x' H' y => ?_⟩
      obtain ⟨y1, y2⟩ := y
      subst y1
      exact ⟨.refl, rp, by unfold RV; exact y2⟩
theorem siR1 (hg : Gl X "range") (hm : X.mg "range" = none) (ha : SA X W [e] fa) (hs : starEach [e] X.env = [(false, eval e X.env)] := by rfl) : SI X W tg (.Call (.Name "range" p) [e] [] pos) (iR1 fa) := by
  obtain ⟨t, h1, h2⟩ := ha
  refine ⟨_, pi_range1 hg hm h1 hs, fun ρ σe σ M H Q rs hp h => ?_⟩
  refine h2 ρ σe σ M H _ rs hp (PostI.bind (R := fun K ρ n H => RVs K ρ n H) h fun v M1 ρ1 H1 v1 _ a rp r h1 => ?_)
  cases q0 : as1I v with
  | none => rw [q0] at h1; exact h1.elim
  | some j =>
    rw [q0] at h1
    dsimp only at h1
    rw [as1I_eq q0] at r
    unfold RVs RVs RV at r
    obtain ⟨u, s, e1, e2, e3⟩ := r
    subst e1 e2 e3
    by_cases q : In62 j
    · rw [if_pos q] at h1
      refine ⟨j, rfl, q.lo, q.hi, h1 ρ1 H1 _ .refl rp (jRange (gr X) 0 j.toNat ρ1 M1 H1)⟩
    · rw [if_neg q] at h1
      exact h1.elim
theorem siR2 {e' : Expr} (hg : Gl X "range") (hm : X.mg "range" = none) (ha : SA X W [e, e'] fa) (hs : starEach [e, e'] X.env = [(false, eval e X.env), (false, eval e' X.env)] := by rfl) (hs2 : starEach [e'] X.env = [(false, eval e' X.env)] := by rfl) : SI X W tg (.Call (.Name "range" p) [e, e'] [] pos) (iR2 fa) := by
  obtain ⟨t, h1, h2⟩ := ha
  refine ⟨_, pi_range2 hg hm h1 hs hs2, fun ρ σe σ M H Q rs hp h => ?_⟩
  refine h2 ρ σe σ M H _ rs hp (PostI.bind (R := fun K ρ n H => RVs K ρ n H) h fun v M1 ρ1 H1 v1 _ a rp r h1 => ?_)
  cases q0 : as2I v with
  | none => rw [q0] at h1; exact h1.elim
  | some ij =>
    rw [q0] at h1
    dsimp only at h1
    rw [as2I_eq q0] at r
    obtain ⟨i, j⟩ := ij
    unfold RVs RVs RVs RV at r
    obtain ⟨u, s, e1, e2, u', s', e3, e4, e5⟩ := r
    subst e1 e2 e3 e4 e5
    dsimp only at h1
    by_cases q : In62 i ∧ In62 j
    · rw [if_pos q] at h1
      exact ⟨i, j, rfl, ⟨q.1.lo, q.1.hi, q.2.lo, q.2.hi⟩, h1 ρ1 H1 _ .refl rp (jRange (gr X) i (j - i).toNat ρ1 M1 H1)⟩
    · rw [if_neg q] at h1
      exact h1.elim
theorem siSeq (he : SE X W e fe) : SI X W tg e (iSeq fe) := by
  obtain ⟨t, h1, h2⟩ := he
  refine ⟨_, PI.or (pi_list h1) (pi_tup h1), fun ρ σe σ M H Q rs hp h => ?_⟩
  unfold iSeq at h
  cases q : fe σe M with
  | bad => rw [q] at h; exact h.elim
  | err x M1 =>
    rw [q] at h
    refine .inl (h2 ρ σe σ M H _ rs hp ?_)
    rw [q]
    exact h
  | ok v M1 =>
    rw [q] at h
    cases v with
    | tup xs =>
      refine .inr (h2 ρ σe σ M H _ rs hp ?_)
      rw [q]
      intro ρ1 H1 v1 a rp r
      unfold RV at r
      obtain ⟨b, vs, e1, sq, r⟩ := r
      refine ⟨b, e1, ⟨vs, .of sq⟩, h ρ1 H1 _ a rp ⟨fun ρ2 M2 H2 a2 rp2 _ => ?_, fun i x ρ2 M2 H2 a2 rp2 _ e => ?_⟩⟩
      · have c := a2.car
        exact ⟨vs, .of (c.tup _ _ sq), by rw [r.length]; exact Nat.le_refl _⟩
      · have c := a2.car
        obtain ⟨w', g1, g2⟩ := (r.carry c).get e
        refine ⟨⟨vs, w', .of (c.tup _ _ sq), g1⟩, fun x' H' y => ?_⟩
        obtain ⟨y1, y2⟩ := y
        subst y1
        have := y2 vs (.of (c.tup _ _ sq))
        rw [g1] at this
        cases this
        exact ⟨.refl, rp2, g2⟩
    | ref k =>
      have h : PostI (gr X) W σ ρ M H (match M1[k]? with | some (.lst xs) => .ok (xs, some (k, .lst xs)) M1 | _ => .bad) Q := h
      cases q2 : M1[k]? with
      | none => rw [q2] at h; exact h.elim
      | some o =>
        rw [q2] at h
        cases o with
        | lst xs =>
          refine .inl (h2 ρ σe σ M H _ rs hp ?_)
          rw [q]
          intro ρ1 H1 v1 a rp r
          unfold RV at r
          have hk : k < M1.length := r.1
          obtain ⟨vs, sq, _⟩ := rp.obj k _ q2
          refine ⟨ρ1 k, r.2, ⟨vs, .of sq⟩, h ρ1 H1 _ a rp ⟨fun ρ2 M2 H2 a2 rp2 g => ?_, fun i x ρ2 M2 H2 a2 rp2 g e => ?_⟩⟩
          · obtain ⟨vs2, sq2, r2⟩ := rp2.obj k _ g
            rw [a2.car.agr k hk] at sq2
            exact ⟨vs2, .of sq2, by rw [r2.length]; exact Nat.le_refl _⟩
          · obtain ⟨vs2, sq2, r2⟩ := rp2.obj k _ g
            rw [a2.car.agr k hk] at sq2
            obtain ⟨w', g1, g2⟩ := r2.get e
            refine ⟨⟨vs2, w', .of sq2, g1⟩, fun x' H' y => ?_⟩
            obtain ⟨y1, y2⟩ := y
            subst y1
            have := y2 vs2 (.of sq2)
            rw [g1] at this
            cases this
            exact ⟨.refl, rp2, g2⟩
        | _ => exact h.elim
    | _ => exact h.elim
end

/-! ### loops -/
noncomputable def forGo (gd : Guard) (put : Put) (body : FS) : List EV → FS
  | [], σ, M => if okG gd M then .nx σ M else .bad
  | x :: r, σ, M => if okG gd M then (match put x M with
      | none => .bad
      | some l => match body (putsE σ l) M with
        | .nx σ1 M1 => forGo gd put body r σ1 M1
        | .ct σ1 M1 => forGo gd put body r σ1 M1
        | .bk σ1 M1 => .nx σ1 M1
        | o => o) else .bad
noncomputable def sFor (fi : FI) (put : Put) (body : FS) : FS := fun σ M => (fi σ M).thenS σ fun v M1 => forGo v.2 put body v.1 σ M1
def whGo (c : FT) (body : FS) : Nat → FS
  | 0, _, _ => .bad
  | n + 1, σ, M => (c σ M).thenS σ fun b M1 => if b = true then (match body σ M1 with
      | .nx σ1 M2 => whGo c body n σ1 M2
      | .ct σ1 M2 => whGo c body n σ1 M2
      | .bk σ1 M2 => .nx σ1 M2
      | o => o) else .nx σ M1
section
variable {X : Cx} {W : WX} {tg iter c : Expr} {fi : FI} {put : Put} {body : FS} {bs : List Stmt} {pos : Pos} {p : FT}
theorem ssFor (hp : PassesOwn (model X.prog X.w) X.A X.env X.xe) (hc : X.calm = true) (hi : SI X W tg iter fi) (hg : SG X tg put) (hb : SSs X W bs body)
    (hs : ∀ x, foldedSetIterable iter X.env x = pure x := by intro _; rfl) : SS X W (.For tg iter bs [] pos) (sFor fi put body) := by
  obtain ⟨wi, i1, i2⟩ := hi
  obtain ⟨gg, g1, g2⟩ := hg
  obtain ⟨tb, b1, b2⟩ := hb
  refine ⟨_, ps_for hp hc i1 g1 b1 hs, fun ρ σe σ M H D rs rp h => ?_⟩
  refine i2 ρ σe σ M H _ rs rp ?_
  unfold sFor at h
  cases q : fi σe M with
  | bad => rw [q] at h; exact h.elim
  | err x M1 =>
    rw [q] at h
    intro ρ1 H1 d a rp1 r
    exact h ρ1 H1 σ d a rp1 (rs.carry (a.carry rp)) r
  | ok v M1 =>
    rw [q] at h
    intro ρ1 H1 J a1 rp1 jk
    obtain ⟨xs, gd⟩ := v
    have h : PostS (gr X) W ρ M H (forGo gd put body xs σe M1) D := h
    refine ⟨fun i m σ' H' => ∃ ρ' σe' M', After ρ1 M1 H1 ρ' M' H' ∧ RSt X.K ρ' M'.length H' σe' σ' ∧ RP (gr X) ρ' M' H' ∧ m = xs.length - i ∧ i ≤ xs.length ∧ PostS (gr X) W ρ' M' H' (forGo gd put body (xs.drop i) σe' M') D,
      ⟨xs.length, ρ1, σe, M1, .refl, rs.carry (a1.carry rp), rp1, by simp, Nat.zero_le _, h.shift rp1 a1⟩, ?_⟩
    rintro i m σ' H' ⟨ρ', σe', M', a', rs', rp', rfl, hi, h'⟩
    by_cases hlt : i < xs.length
    · have e1 : xs.drop i = xs[i] :: xs.drop (i + 1) := List.drop_eq_getElem_cons hlt
      rw [e1] at h'
      unfold forGo at h'
      by_cases ok : okG gd M'
      · rw [if_pos ok] at h'
        have e2 : xs[i]? = some xs[i] := List.getElem?_eq_getElem hlt
        obtain ⟨go, yl⟩ := jk.go i xs[i] ρ' M' H' (a'.soft rp1) rp' ok e2
        refine .inr ⟨go, fun σ2 H2 => ∃ ρ2 σe2 M2, After ρ1 M1 H1 ρ2 M2 H2 ∧ RSt X.K ρ2 M2.length H2 σe2 σ2 ∧ RP (gr X) ρ2 M2 H2 ∧ PostS (gr X) W ρ2 M2 H2 (forGo gd put body (xs.drop (i + 1)) σe2 M2) D,
          fun σ2 H2 ⟨ρ2, σe2, M2, z1, z2, z3, z4⟩ => ⟨xs.length - (i + 1), by omega, ρ2, σe2, M2, z1, z2, z3, rfl, hlt, z4⟩, fun x' H2 y => ?_⟩
        obtain ⟨y1, y2, y3⟩ := yl x' H2 y
        cases qp : put xs[i] M' with
        | none => rw [qp] at h'; exact h'.elim
        | some l =>
          rw [qp] at h'
          dsimp only at h'
          refine g2 ρ' M' H2 xs[i] x' σ' _ l y2 y3 qp fun l' hl => ?_
          have rs2 := (rs'.carry (y1.carry rp')).puts hl
          refine b2 ρ' _ _ M' H2 _ rs2 y2 ?_
          have back : ∀ (σe3 : StE) (M3 : Mem), PostS (gr X) W ρ' M' H' (forGo gd put body (xs.drop (i + 1)) σe3 M3) D → ∀ ρ3 H3 σ3, After ρ' M' H2 ρ3 M3 H3 → RP (gr X) ρ3 M3 H3 → RSt X.K ρ3 M3.length H3 σe3 σ3 →
              ∃ ρ2 σe2 M2, After ρ1 M1 H1 ρ2 M2 H3 ∧ RSt X.K ρ2 M2.length H3 σe2 σ3 ∧ RP (gr X) ρ2 M2 H3 ∧ PostS (gr X) W ρ2 M2 H3 (forGo gd put body (xs.drop (i + 1)) σe2 M2) D := fun σe3 M3 hh ρ3 H3 σ3 z1 z2 z3 =>
            ⟨ρ3, σe3, M3, a'.trans rp' (y1.trans y2 z1), z3, z2, PostS.shift hh z2 (y1.trans y2 z1)⟩
          cases qb : body (putsE σe' l) M' with
          | nx s3 M3 => rw [qb] at h'; exact fun ρ3 H3 σ3 z1 z2 z3 => back s3 M3 h' ρ3 H3 σ3 z1 z2 z3
          | ct s3 M3 => rw [qb] at h'; exact fun ρ3 H3 σ3 z1 z2 z3 => back s3 M3 h' ρ3 H3 σ3 z1 z2 z3
          | bk s3 M3 => rw [qb] at h'; exact fun ρ3 H3 σ3 z1 z2 z3 => h' ρ3 H3 σ3 (y1.trans y2 z1) z2 z3
          | rt v3 M3 => rw [qb] at h'; exact fun ρ3 H3 σ3 z1 z2 z3 => h' ρ3 H3 σ3 (y1.trans y2 z1) z2 z3
          | err x3 s3 M3 => rw [qb] at h'; exact fun ρ3 H3 σ3 d z1 z2 z3 z4 => h' ρ3 H3 σ3 d (y1.trans y2 z1) z2 z3 z4
          | bad => rw [qb] at h'; exact h'.elim
      · rw [if_neg ok] at h'; exact h'.elim
    · have e1 : xs.drop i = [] := List.drop_eq_nil_of_le (by omega)
      rw [e1] at h'
      unfold forGo at h'
      by_cases ok : okG gd M'
      · rw [if_pos ok] at h'
        have e2 : i = xs.length := by omega
        subst e2
        exact .inl ⟨jk.stop ρ' M' H' (a'.soft rp1) rp' ok, h' ρ' H' σ' .refl rp' rs'⟩
      · rw [if_neg ok] at h'; exact h'.elim
theorem ssWh (n : Nat) (hp : PassesOwn (model X.prog X.w) X.A X.env X.xe) (hc : ST X W c p) (hb : SSs X W bs body) : SS X W (.While c bs [] pos) (whGo p body n) := by
  obtain ⟨t, c1, c2⟩ := hc
  obtain ⟨tb, b1, b2⟩ := hb
  refine ⟨_, ps_while hp c1 b1, fun ρ σe σ M H D rs rp h => ?_⟩
  refine ⟨fun m σ H => ∃ ρ σe M, RSt X.K ρ M.length H σe σ ∧ RP (gr X) ρ M H ∧ PostS (gr X) W ρ M H (whGo p body m σe M) D, ⟨n, ρ, σe, M, rs, rp, h⟩, ?_⟩
  rintro m σ H ⟨ρ, σe, M, rs, rp, h⟩
  cases m with
  | zero => exact h.elim
  | succ m =>
    unfold whGo at h
    refine c2 ρ σe σ M H _ rs rp (PostS.bindR rs rp h fun b M1 ρ1 H1 v1 _ a rp1 r h1 => ?_)
    subst r
    cases v1 with
    | false => rw [if_neg Bool.false_ne_true] at h1 ⊢; exact h1 ρ1 H1 σ .refl rp1 (rs.carry (a.carry rp))
    | true =>
      rw [if_pos rfl] at h1 ⊢
      refine ⟨fun σ H => ∃ ρ σe M, RSt X.K ρ M.length H σe σ ∧ RP (gr X) ρ M H ∧ PostS (gr X) W ρ M H (whGo p body m σe M) D, fun σ' H' z => ⟨m, Nat.lt_succ_self _, z⟩, ?_⟩
      refine b2 ρ1 σe σ M1 H1 _ (rs.carry (a.carry rp)) rp1 ?_
      cases qb : body σe M1 with
      | nx s3 M3 => rw [qb] at h1; exact fun ρ3 H3 σ3 z1 z2 z3 => ⟨ρ3, s3, M3, z3, z2, PostS.shift (r := whGo p body m s3 M3) h1 z2 z1⟩
      | ct s3 M3 => rw [qb] at h1; exact fun ρ3 H3 σ3 z1 z2 z3 => ⟨ρ3, s3, M3, z3, z2, PostS.shift (r := whGo p body m s3 M3) h1 z2 z1⟩
      | bk s3 M3 => rw [qb] at h1; exact h1
      | rt v3 M3 => rw [qb] at h1; exact h1
      | err x3 s3 M3 => rw [qb] at h1; exact h1
      | bad => rw [qb] at h1; exact h1.elim
end
end WS

set_option Elab.async false
set_option linter.all false
set_option maxRecDepth 100000
/-! The simulation: defs and their calls, methods, classes, properties, comprehensions. -/
namespace WS
open PySem PySem.Spec PyProof.Rows L2
open Classical

/-- what a def does, as a function -/
abbrev Fn := List EV → Mem → Res EV
def EX (E : XK) : WX := fun c d _ H => E c d H
def spF (G : Gr) (n : Nat) (m : Fn) : Sp := fun vs H Q E => vs.length = n ∧ ∃ ρ M es, RP G ρ M H ∧ RVs G.K ρ M.length H es vs ∧ PostE G (EX E) [] ρ M H (m es M) Q
/-- the def at f does m, at most k calls deep -/
structure FnS (P : Program) (w : World) (K : PySem.W.Frag) (mg : Str → Option Value) (base : Heap) (k : Nat) (f : Addr) (n : Nat) (m : Fn) : Prop where
  ex : ∃ fd ps, FnOk P w K mg base (L2.CX P w) k f fd ps (spF ⟨P, w, K⟩ n m) ∧ Binds K fd ps []
  kp : PySem.W.keepIn K (.ref f) = true
theorem FnS.mono {P : Program} {w : World} {K : PySem.W.Frag} {mg : Str → Option Value} {base : Heap} {j k : Nat} {f : Addr} {n : Nat} {m : Fn} (F : FnS P w K mg base j f n m) (h : j ≤ k) : FnS P w K mg base k f n m := by
  obtain ⟨⟨fd, ps, F, b⟩, kp⟩ := F
  exact ⟨⟨fd, ps, F.mono h, b⟩, kp⟩
abbrev FnX (X : Cx) := FnS X.prog X.w X.K X.mg X.base
/-- from a body: N slots -/
def fnOf (N : Nat) (body : FS) : Fn := fun es M => match body (es.map some ++ List.replicate (N - es.length) none) M with
  | .rt v M1 => .ok v M1
  | .nx _ M1 => .ok .non M1
  | .err x _ M1 => .err x M1
  | _ => .bad
/-- THE RULE for a def, by its record -/
theorem fn_okD {P : Program} {w : World} {K : PySem.W.Frag} {mg : Str → Option Value} {base : Heap} {x qual : Str} {st : Stmt} {f : Addr} {fd : FuncData} {N ps : List Str} {k : Nat} {body : FS} (F : Fun K x qual st f fd) (S : FnScope N ps (defScope st))
    (hbody : ∀ (cdv : Value) (A : Around) (outer : List Env) (s : Shared) (H : Hp) (E : XK), Room k (A.deeper (envOfC qual (defScope st) s.heap.objs.size f cdv)) →
      SSs (cxOf (L2.CX P w) P w K mg base N qual (defScope st) f cdv A outer s H E) (EX E) (defBody st) body) : FnOk P w K mg base (L2.CX P w) (k + 1) f fd ps (spF ⟨P, w, K⟩ ps.length (fnOf N.length body)) := by
  refine F.okX S (fun vs H Q E h => h.1) (fun cdv A outer s H vs Q E hr h => ?_)
  obtain ⟨hl, ρ, M, es, rp, rv, p⟩ := h
  obtain ⟨t, h1, h2⟩ := hbody cdv A outer s H E hr
  refine ⟨t, h1, h2 ρ (es.map some ++ List.replicate (N.length - es.length) none) (L2.start N vs) M H { nx := fun _ H' => Q .non H', rt := Q } ?_ rp ?_⟩
  · refine RSt.start rv ?_
    have e1 := rv.length
    have e2 : (N.take ps.length).length = ps.length := by rw [S.pre]
    rw [List.length_take] at e2
    omega
  · unfold fnOf at p
    cases q : body (es.map some ++ List.replicate (N.length - es.length) none) M with
    | rt v M1 => rw [q] at p; exact p
    | nx s1 M1 => rw [q] at p; exact fun ρ1 H1 σ1 a rp1 _ => p ρ1 H1 .non a rp1 (by unfold RV; rfl)
    | err x s1 M1 => rw [q] at p; exact fun ρ1 H1 σ1 d a rp1 _ r => p ρ1 H1 d a rp1 r
    | bk s1 M1 => rw [q] at p; exact p.elim
    | ct s1 M1 => rw [q] at p; exact p.elim
    | bad => rw [q] at p; exact p.elim

/-- THE RULE for a def -/
theorem fn_ok {P : Program} {w : World} {K : PySem.W.Frag} {mg : Str → Option Value} {base : Heap} {x qual : Str} {st : Stmt} {f : Addr} {fd : FuncData} {N ps : List Str} {k : Nat} {body : FS} (F : Fun K x qual st f fd) (S : FnScope N ps (defScope st))
    (hb : ∀ (kV doc pm : Value) (an : Option Addr) (cdv ct : Value) (us : List Value), us.length = ps.length → bindArgs (PySem.W.fnOf x qual (defArgs st) (defBody st) (defScope st) .none kV doc pm an cdv ct) ⟨us, []⟩ = pure (ps.zip us))
    (hbody : ∀ (cdv : Value) (A : Around) (outer : List Env) (s : Shared) (H : Hp) (E : XK), Room k (A.deeper (envOfC qual (defScope st) s.heap.objs.size f cdv)) →
      SSs (cxOf (L2.CX P w) P w K mg base N qual (defScope st) f cdv A outer s H E) (EX E) (defBody st) body) : FnS P w K mg base (k + 1) f ps.length (fnOf N.length body) :=
  ⟨⟨fd, ps, fn_okD F S hbody, F.binds hb⟩, F.kp⟩

section
variable {X : Cx} {W : WX} {k n : Nat} {f C : Addr} {m : Fn} {x nm : Str} {p pos apos : Pos} {e o : Expr} {es : List Expr} {fa : FA} {fo : FE}
/-- the promise at a call, from what is wanted of the function -/
theorem spF_of {G : Gr} {σ : L2.St} {ρ : Nat → Addr} {M : Mem} {H : Hp} {xs : List EV} {vs : List V} {Q : VK} (hl : xs.length = n) (rp : RP G ρ M H) (r : RVs G.K ρ M.length H xs vs) (h : PostE G W σ ρ M H (m xs M) Q) : spF G n m vs H Q (WE W σ) := by
  refine ⟨by rw [r.length, hl], ρ, M, xs, rp, r, ?_⟩
  cases q : m xs M with
  | ok v M1 => rw [q] at h; exact h
  | err y M1 => rw [q] at h; exact h
  | bad => rw [q] at h; exact h
def eCall (n : Nat) (m : Fn) (g : FA) : FE := fun σ M => (g σ M).bind fun xs M1 => if xs.length = n then m xs M1 else .bad
theorem simCall {G : Gr} {t : TA} {g : FA} (h2 : SimA G W t g) : SimE G W (fun σ H Q => t σ H fun vs H1 => spF G n m vs H1 Q (WE W σ)) (eCall n m g) := by
  intro ρ σe σ M H Q rs hp h
  refine h2 ρ σe σ M H _ rs hp (PostR.bind (R := fun K ρ n H => RVs K ρ n H) h fun v M1 ρ1 H1 v1 _ a rp r h1 => ?_)
  by_cases hl : v.length = n
  · rw [if_pos hl] at h1
    exact spF_of hl rp r h1
  · rw [if_neg hl] at h1
    exact h1.elim
theorem sCall (F : FnX X k f n m) (hr : Room k X.A) (tk : Takes X W) (hm : X.mg x = some (.ref f)) (ha : SA X W (e :: es) fa) (hg : Gl X x := by rfl) (hdb : (x == ("__debug__" : Str)) = false := by decide)
    (he : starEach (e :: es) X.env = (false, eval e X.env) :: starEach es X.env := by rfl) (hpl : (backTo pos (starEach es X.env)).any (·.1) = false := by rfl) : SE X W (.Call (.Name x p) (e :: es) [] pos) (eCall n m fa) := by
  obtain ⟨⟨fd, ps, F, b⟩, kp⟩ := F
  obtain ⟨t, h1, h2⟩ := ha
  exact ⟨_, pe_callS F hr hg hm kp b (fun σ => passAt tk σ) h1 hdb he hpl, simCall h2⟩
theorem sCall0 (F : FnX X k f n m) (hr : Room k X.A) (tk : Takes X W) (hm : X.mg x = some (.ref f)) (hg : Gl X x := by rfl) (hdb : (x == ("__debug__" : Str)) = false := by decide) : SE X W (.Call (.Name x p) [] [] pos) (eCall n m aNil) := by
  obtain ⟨⟨fd, ps, F, b⟩, kp⟩ := F
  refine ⟨fun σ H Q => spF (gr X) n m [] H Q (WE W σ), ⟨fun pins s σ H Q I h => ?_⟩, ?_⟩
  · exact wpAny_Call_Name_kw (ld_glob I hg hm (PySem.W.callWith_K0 I.kIn kp (run_fnS (us := []) (E := WE W) F hr b (passAt tk σ) I .nil h)) hdb)
  · exact simCall (t := tNil) fun ρ σe σ M H Q rs hp h => PostR.ok0 (R := fun K ρ n H => RVs K ρ n H) h hp RVs.nil

/-! methods of the program's own classes -/
def fldsOf (M : Mem) : EV → Option (Addr × List (Str × EV))
  | .ref k => match M[k]? with
    | some (.ins C fs) => some (C, fs)
    | _ => none
  | _ => none
theorem RFs.lookup {K : PySem.W.Frag} {ρ : Nat → Addr} {n : Nat} {H : Hp} (y : Str) : ∀ {fs : List (Str × EV)} {vs : List (Str × V)}, RFs K ρ n H fs vs → (∀ v, fs.lookup y = some v → ∃ u, vs.lookup y = some u ∧ RV K ρ n H v u) ∧ (fs.lookup y = none → vs.lookup y = none)
  | [], vs, h => by
    have h : vs = [] := h
    subst h
    exact ⟨fun _ e => (by cases e), fun _ => rfl⟩
  | q :: fs, _, ⟨v, r, e, h1, h2⟩ => by
    obtain ⟨i1, i2⟩ := RFs.lookup y h2
    obtain ⟨qx, qv⟩ := q
    subst e
    simp only [List.lookup_cons]
    by_cases z : (y == qx) = true
    · simp only [z]
      exact ⟨fun v' e => ⟨v, rfl, by cases e; exact h1⟩, fun e => by cases e⟩
    · have z : (y == qx) = false := by simpa using z
      simp only [z]
      exact ⟨i1, i2⟩
theorem flds_sim {G : Gr} {ρ : Nat → Addr} {M : Mem} {H : Hp} (hp : RP G ρ M H) {v : EV} {u : V} {fs : List (Str × EV)} (r : RV G.K ρ M.length H v u) (e : fldsOf M v = some (C, fs)) : ∃ a dx vs, u = .ref a ∧ H a = some (.ins C dx vs) ∧ RFs G.K ρ M.length H fs vs := by
  cases v with
  | ref k =>
    unfold fldsOf at e
    dsimp only at e
    cases q : M[k]? with
    | none => rw [q] at e; cases e
    | some o =>
      rw [q] at e
      cases o with
      | ins D gs =>
        cases e
        unfold RV at r
        obtain ⟨dx, vs, h1, h2⟩ := hp.obj k _ q
        exact ⟨_, dx, vs, r.2, h1, h2⟩
      | _ => cases e
  | _ => cases e
/-- o.m(..) -/
def eMeth (C : Addr) (nm : Str) (n : Nat) (m : Fn) (f : FE) (g : FA) : FE := fun σ M => (f σ M).bind fun v M1 => match fldsOf M1 v with
  | some (D, fs) => if D = C ∧ fs.lookup nm = none then (g σ M1).bind fun xs M2 => if (v :: xs).length = n then m (v :: xs) M2 else .bad else .bad
  | none => .bad
def tMethW (C : Addr) (nm : Str) (sp : Sp) (W : WX) (ta : TE) (t : TA) : TE := fun σ H Q => ta σ H fun x H1 => ∃ a dx fs, x = .ref a ∧ H1 a = some (.ins C dx fs) ∧ fs.lookup nm = none ∧ t σ H1 fun vs H2 => sp (x :: vs) H2 Q (WE W σ)
theorem simMeth {G : Gr} {ta : TE} {t : TA} (h1 : SimE G W ta fo) (h2 : SimA G W t fa) : SimE G W (tMethW C nm (spF G n m) W ta t) (eMeth C nm n m fo fa) := by
  intro ρ σe σ M H Q rs hp h
  refine h1 ρ σe σ M H _ rs hp (PostR.bind h fun v M1 ρ1 H1 v1 _ a rp r h1 => ?_)
  cases q : fldsOf M1 v with
  | none => rw [q] at h1; exact h1.elim
  | some Dfs =>
    obtain ⟨D, fs⟩ := Dfs
    rw [q] at h1
    dsimp only at h1
    by_cases c : D = C ∧ fs.lookup nm = none
    · rw [if_pos c] at h1
      obtain ⟨rfl, c2⟩ := c
      obtain ⟨b, dx, vs, e1, e2, rf⟩ := flds_sim rp r q
      refine ⟨b, dx, vs, e1, e2, (RFs.lookup nm rf).2 c2, ?_⟩
      refine h2 ρ1 σe σ M1 H1 _ (rs.carry (a.carry hp)) rp (PostR.bind (R := fun K ρ n H => RVs K ρ n H) h1 fun xs M2 ρ2 H2 ws _ a2 rp2 r2 h3 => ?_)
      by_cases hl : (v :: xs).length = n
      · rw [if_pos hl] at h3
        exact spF_of hl rp2 (RVs.cons (r.carry (a2.carry rp)) r2) h3
      · rw [if_neg hl] at h3
        exact h3.elim
    · rw [if_neg c] at h1
      exact h1.elim
theorem sMeth (c : Cls X.K C) (hm : Meth X.K C nm f) (F : FnX X k f n m) (hr : Room k X.A) (tk : Takes X W) (ho : SE X W o fo) (ha : SA X W (e :: es) fa) {pl : Sem Bool}
    (hst : starEach (e :: es) X.env = (false, eval e X.env) :: starEach es X.env := by rfl) (hpl : (backTo pos (starEach es X.env)).any (·.1) = false := by rfl)
    (ht : eval (.Call (.Attribute o nm apos) (e :: es) [] pos) X.env = (do
      let ov ← eval o X.env
      standAt apos.atName
      let (f, first) ← holding [ov] (getMethod ov nm pl)
      callWith pos f first (backTo pos (starEach (e :: es) X.env)) (backToKw pos (keywordEach [] X.env))) := by rfl) : SE X W (.Call (.Attribute o nm apos) (e :: es) [] pos) (eMeth C nm n m fo fa) := by
  obtain ⟨⟨fd, ps, F, b⟩, kp⟩ := F
  obtain ⟨to, o1, o2⟩ := ho
  obtain ⟨t, h1, h2⟩ := ha
  refine ⟨tMethW C nm (spF (gr X) n m) W to t, ⟨fun pins s σ H Q I h => PySem.W.methodCall_KW (pl := pl) (thn (o1.run pins s σ H _ I h) fun u s1 ⟨x, H1, I1, rx, z⟩ => ?_) ht⟩, simMeth o2 h2⟩
  obtain ⟨a, dx, fs, ex, ea, l, q⟩ := z
  subst ex
  have eu : u = Value.ref a := rx
  subst eu
  exact getmeth_ok I1 ea c hm l (PySem.W.callWith_K (first := [.ref a]) (h₀ := X.base) I.ok.mod.kin hm.kp (thn (h1.run pos pins s1 σ H1 _ I1 q) fun us s2 ⟨vs, H2, I2, r, q2⟩ => ⟨I2.kIn,
    run_fnS (us := .ref a :: us) (vs := .ref a :: vs) (E := WE W) F hr b (passAt tk σ) I2 (.cons rfl r) q2⟩) hst hpl)
theorem sMeth0 (c : Cls X.K C) (hm : Meth X.K C nm f) (F : FnX X k f n m) (hr : Room k X.A) (tk : Takes X W) (ho : SE X W o fo) {pl : Sem Bool}
    (ht : eval (.Call (.Attribute o nm apos) [] [] pos) X.env = (do
      let ov ← eval o X.env
      standAt apos.atName
      let (f, first) ← holding [ov] (getMethod ov nm pl)
      callWith pos f first (backTo pos (starEach [] X.env)) (backToKw pos (keywordEach [] X.env))) := by rfl) : SE X W (.Call (.Attribute o nm apos) [] [] pos) (eMeth C nm n m fo aNil) := by
  obtain ⟨⟨fd, ps, F, b⟩, kp⟩ := F
  obtain ⟨to, o1, o2⟩ := ho
  refine ⟨tMethW C nm (spF (gr X) n m) W to tNil, ⟨fun pins s σ H Q I h => PySem.W.methodCall_KW (pl := pl) (thn (o1.run pins s σ H _ I h) fun u s1 ⟨x, H1, I1, rx, z⟩ => ?_) ht⟩, simMeth o2 fun ρ σe σ M H Q rs hp h => PostR.ok0 (R := fun K ρ n H => RVs K ρ n H) h hp RVs.nil⟩
  obtain ⟨a, dx, fs, ex, ea, l, q⟩ := z
  subst ex
  have eu : u = Value.ref a := rx
  subst eu
  exact getmeth_ok I1 ea c hm l (PySem.W.callWith_K0 (first := [.ref a]) I1.kIn hm.kp (run_fnS (us := [.ref a]) (vs := [.ref a]) (E := WE W) F hr b (passAt tk σ) I1 (.cons rfl .nil) q))

/-! fields -/
def eFld (C : Addr) (y : Str) (f : FE) : FE := fun σ M => (f σ M).bind fun v M1 => match fldsOf M1 v with
  | some (D, fs) => if D = C then (match fs.lookup y with
    | some u => .ok u M1
    | none => .bad) else .bad
  | none => .bad
theorem sFld {y : Str} (c : Cls X.K C) (na : NoAttr X.K C y) (ho : SE X W o fo) (hb : attributeBase o y X.env (eval o X.env) = eval o X.env := by rfl) : SE X W (.Attribute o y pos) (eFld C y fo) := by
  obtain ⟨to, o1, o2⟩ := ho
  refine ⟨_, pe_fld o1 hb, fun ρ σe σ M H Q rs hp h => ?_⟩
  refine o2 ρ σe σ M H _ rs hp (PostR.bind h fun v M1 ρ1 H1 v1 _ a rp r h1 => ?_)
  cases q : fldsOf M1 v with
  | none => rw [q] at h1; exact h1.elim
  | some Dfs =>
    obtain ⟨D, fs⟩ := Dfs
    rw [q] at h1
    dsimp only at h1
    by_cases hD : D = C
    · rw [if_pos hD] at h1
      subst hD
      obtain ⟨b, dx, vs, e1, e2, rf⟩ := flds_sim rp r q
      cases ql : fs.lookup y with
      | none => rw [ql] at h1; exact h1.elim
      | some u =>
        rw [ql] at h1
        obtain ⟨u', l1, l2⟩ := (RFs.lookup y rf).1 u ql
        exact ⟨b, D, dx, vs, u', e1, e2, c, na, l1, PostR.ok0 (R := fun K ρ n H => RV K ρ n H) h1 rp l2⟩
    · rw [if_neg hD] at h1
      exact h1.elim
/-- either of two -/
def alt (f g : FE) : FE := fun σ M => match f σ M with
  | .bad => g σ M
  | r => r
theorem SE.alt {f g : FE} (a : SE X W e f) (b : SE X W e g) : SE X W e (WS.alt f g) := by
  obtain ⟨t, a1, a2⟩ := a
  obtain ⟨u, b1, b2⟩ := b
  refine ⟨fun σ H Q => t σ H Q ∨ u σ H Q, ⟨fun pins s σ H Q I h => h.elim (a1.run pins s σ H Q I) (b1.run pins s σ H Q I)⟩, fun ρ σe σ M H Q rs hp h => ?_⟩
  unfold WS.alt at h
  cases q : f σe M with
  | bad => rw [q] at h; exact .inr (b2 ρ σe σ M H Q rs hp h)
  | ok v M1 => rw [q] at h; exact .inl (a2 ρ σe σ M H Q rs hp (by rw [q]; exact h))
  | err y M1 => rw [q] at h; exact .inl (a2 ρ σe σ M H Q rs hp (by rw [q]; exact h))
/-! stores of fields -/
def putFE (y : Str) (v : EV) : List (Str × EV) → List (Str × EV)
  | [] => [(y, v)]
  | p :: r => if p.1 = y then (p.1, v) :: r else p :: putFE y v r
def sFldSet (C : Addr) (y : Str) (f g : FE) : FS := fun σ M => (f σ M).thenS σ fun v M1 => (g σ M1).thenS σ fun ov M2 => match ov with
  | .ref k => (match M2[k]? with
    | some (.ins D fs) => if D = C ∧ fs.length < 1000 then .nx σ (M2.set k (.ins D (putFE y v fs))) else .bad
    | _ => .bad)
  | _ => .bad
end
end WS

set_option Elab.async false
set_option linter.all false
set_option maxRecDepth 100000
/-! The simulation: fields stored, classes made, properties, static methods, raise, comprehensions. -/
namespace WS
open PySem PySem.Spec PyProof.Rows L2
open Classical
section
variable {K : PySem.W.Frag} {ρ : Nat → Addr} {n : Nat} {H : Hp}
theorem RFs.put {y : Str} {v : EV} {u : V} (r : RV K ρ n H v u) : ∀ {fs : List (Str × EV)} {vs : List (Str × V)}, RFs K ρ n H fs vs → RFs K ρ n H (putFE y v fs) (putF y u vs)
  | [], vs, h => by
    have h : vs = [] := h
    subst h
    exact ⟨u, [], rfl, r, rfl⟩
  | q :: fs, _, ⟨w, s, e, h1, h2⟩ => by
    subst e
    obtain ⟨qx, qv⟩ := q
    unfold putFE putF
    by_cases z : qx = y
    · rw [if_pos z, if_pos z]; exact ⟨u, s, rfl, r, h2⟩
    · rw [if_neg z, if_neg z]; exact ⟨w, _, rfl, h1, RFs.put r h2⟩
theorem RFs.length : ∀ {fs : List (Str × EV)} {vs : List (Str × V)}, RFs K ρ n H fs vs → vs.length = fs.length
  | [], vs, h => by
    have h : vs = [] := h
    subst h
    rfl
  | q :: fs, _, ⟨w, s, e, h1, h2⟩ => by
    subst e
    rw [List.length_cons, List.length_cons, RFs.length h2]
end
section
variable {X : Cx} {W : WX} {k n : Nat} {f C g : Addr} {m : Fn} {x nm y : Str} {p pos pos' apos : Pos} {e o value : Expr} {es : List Expr} {fa : FA} {fo fv : FE}
theorem ssFld (c : Cls X.K C) (na : NoAttr X.K C y) (ho : SE X W o fo) (hv : SE X W value fv) (hs : swapsWith value (some (.Attribute o y pos')) pos.line X.env = pure false := by rfl) : SS X W (.Assign [.Attribute o y pos'] value pos) (sFldSet C y fv fo) := by
  obtain ⟨to, o1, o2⟩ := ho
  obtain ⟨tv, v1, v2⟩ := hv
  refine ⟨_, ps_fld o1 v1 hs, fun ρ σe σ M H D rs hp h => ?_⟩
  refine v2 ρ σe σ M H _ rs hp (PostS.bindR rs hp h fun v M1 ρ1 H1 v1 _ a rp r h1 => ?_)
  have rs1 := rs.carry (a.carry hp)
  refine o2 ρ1 σe σ M1 H1 _ rs1 rp (PostS.bindR rs1 rp h1 fun ov M2 ρ2 H2 ov1 _ a2 rp2 r2 h2 => ?_)
  cases ov with
  | ref j =>
    dsimp only at h2
    cases q : M2[j]? with
    | none => rw [q] at h2; exact h2.elim
    | some ob =>
      rw [q] at h2
      cases ob with
      | ins D' fs =>
        dsimp only at h2
        by_cases z : D' = C ∧ fs.length < 1000
        · rw [if_pos z] at h2
          obtain ⟨rfl, z2⟩ := z
          obtain ⟨dx, vs, e1, rf⟩ := rp2.obj j _ q
          have hj : j < M2.length := (List.getElem?_eq_some_iff.mp q).1
          unfold RV at r2
          refine ⟨ρ2 j, D', dx, vs, r2.2, e1, c, na, by rw [rf.length]; exact z2, ?_⟩
          have rv2 := r.carry (a2.carry rp)
          obtain ⟨af, rpw⟩ := write rp2 hj (fun l z => by rw [q] at z; cases z) (.ins D' dx (putF y v1 vs)) (.ins D' (putFE y v fs)) fun c => ⟨dx, _, upd_same, RFs.put (rv2.carry c) (rf.carry c)⟩
          exact h2 ρ2 _ σ af rpw ((rs1.carry (a2.carry rp)).carry (af.carry rp2))
        · rw [if_neg z] at h2; exact h2.elim
      | _ => exact h2.elim
  | _ => exact h2.elim

/-! ### an instance made -/
def eMake (C : Addr) (n : Nat) (m : Fn) (g : FA) : FE := fun σ M => (g σ M).bind fun xs M1 => if xs.length + 1 = n then (match m (.ref M1.length :: xs) (M1 ++ [.ins C []]) with
  | .ok .non M2 => .ok (.ref M1.length) M2
  | .ok _ _ => .bad
  | .err y M2 => .err y M2
  | .bad => .bad) else .bad
def tMakeW (C : Addr) (sp : Sp) (W : WX) (t : TA) : TE := fun σ H Q => t σ H fun vs H1 => ∀ x dx, H1 x = none → H1 dx = none → dx ≠ x →
  sp (.ref x :: vs) (upd (upd H1 dx (.own x)) x (.ins C dx [])) (fun v H2 => v = .non ∧ Q (.ref x) H2) (WE W σ)
theorem run_makeW {fd : FuncData} {ps : List Str} {sp : Sp} {pins : List (Addr × Obj)} {σ : L2.St} {H : Hp} {s : Shared} {Q : VK} {us : List Value} {vs : List V} (Mc : Mk X.K C f) (F : FnOk X.prog X.w X.K X.mg X.base (L2.CX X.prog X.w) k f fd ps sp) (hr : Room (k + 1) X.A) (hb : Binds X.K fd ps [])
    (tk : Takes X W) (I : Inv X pins σ H s) (r : Vals vs us)
    (h : ∀ x dx, H x = none → H dx = none → dx ≠ x → sp (.ref x :: vs) (upd (upd H dx (.own x)) x (.ins C dx [])) (fun v H2 => v = .non ∧ Q (.ref x) H2) (WE W σ)) :
    wpAny (model X.prog X.w) X.A (call (.ref C) us) (EP X pins σ Q) X.xe s := by
  have hq := h (s.heap.objs.size + 1) s.heap.objs.size (I.hok.fresh (Nat.le_succ _)) (I.hok.fresh (Nat.le_refl _)) (Nat.ne_of_lt (Nat.lt_succ_self _))
  have I2 := Inv.made (C := C) I
  have r2 : Vals (V.ref (s.heap.objs.size + 1) :: vs) (Value.ref (s.heap.objs.size + 1) :: us) := .cons rfl r
  have hl : (Value.ref (s.heap.objs.size + 1) :: us).length = ps.length := by rw [← r2.length, F.len _ _ _ _ hq]
  have hb' := hb { s with heap := (s.heap.push PySem.W.emptyDict).push (PySem.W.instObj C s.heap.objs.size) } (Value.ref (s.heap.objs.size + 1) :: us) I2.kIn (by rw [List.append_nil]; exact hl)
  rw [List.append_nil] at hb'
  refine wpAny_call (make_map (f := f) I.kIn Mc.makes Mc.init (beq_iff_eq.mp Mc.fn) (codeAny_mono (F.run _ X.stack _ _ ⟨Value.ref (s.heap.objs.size + 1) :: us, []⟩ _ _ _ (WE W σ) (hr.make C us []) (I2.env0.make C us []) hb' r2 hq) fun r s' hq' => ?_))
  rcases r with er | fl
  · exact passAt tk σ pins _ _ er s' I2 hq'
  · cases fl with
    | ret u =>
      obtain ⟨v, H', I3, rv, ev, q3⟩ := I2.after hq'
      subst ev
      exact ⟨rv, V.ref (s.heap.objs.size + 1), H', I3, rfl, q3⟩
    | _ => exact False.elim hq'
theorem simMake {G : Gr} {t : TA} (h2 : SimA G W t fa) : SimE G W (tMakeW C (spF G n m) W t) (eMake C n m fa) := by
  intro ρ σe σ M H Q rs hp h
  refine h2 ρ σe σ M H _ rs hp (PostR.bind (R := fun K ρ n H => RVs K ρ n H) h fun v M1 ρ1 H1 v1 _ a rp r h1 => ?_)
  by_cases hl : v.length + 1 = n
  · rw [if_pos hl] at h1
    intro x dx nx ndx nd
    obtain ⟨a1, rp1⟩ := side rp ndx (.own x)
    have nx1 : upd H1 dx (.own x) x = none := by rw [upd_ne (Ne.symm nd)]; exact nx
    obtain ⟨a2, rp2⟩ := alloc rp1 nx1 (.ins C dx []) (.ins C []) fun c => ⟨dx, [], upd_same, rfl⟩
    have ln : (M1 ++ [EO.ins C []]).length = M1.length + 1 := by simp
    have r2 : RVs G.K (ext ρ1 M1.length x) (M1 ++ [EO.ins C []]).length (upd (upd H1 dx (.own x)) x (.ins C dx [])) (.ref M1.length :: v) (.ref x :: v1) :=
      RVs.cons (by unfold RV; exact ⟨by rw [ln]; omega, by rw [ext_self]⟩) ((r.carry (a1.carry rp)).carry (a2.carry rp1))
    refine spF_of (σ := σ) (W := W) (by simpa using hl) rp2 r2 ?_
    have a12 := a1.trans rp1 a2
    cases q : m (.ref M1.length :: v) (M1 ++ [EO.ins C []]) with
    | bad => rw [q] at h1; exact h1.elim
    | err z M2 => rw [q] at h1; exact fun ρ3 H3 d a3 rp3 r3 => h1 ρ3 H3 d (a12.trans rp2 a3) rp3 r3
    | ok z M2 =>
      rw [q] at h1
      cases z with
      | non =>
        intro ρ3 H3 v3 a3 rp3 r3
        unfold RV at r3
        refine ⟨r3, h1 ρ3 H3 (.ref x) (a12.trans rp2 a3) rp3 ?_⟩
        unfold RV
        have l3 := a3.len
        exact ⟨by omega, by rw [a3.agr M1.length (by omega), ext_self]⟩
      | _ => exact h1.elim
  · rw [if_neg hl] at h1
    exact h1.elim
theorem sMake (Mc : Mk X.K C f) (F : FnX X k f n m) (hr : Room (k + 1) X.A) (tk : Takes X W) (hm : X.mg x = some (.ref C)) (ha : SA X W (e :: es) fa) (hg : Gl X x := by rfl) (hdb : (x == ("__debug__" : Str)) = false := by decide)
    (he : starEach (e :: es) X.env = (false, eval e X.env) :: starEach es X.env := by rfl) (hpl : (backTo pos (starEach es X.env)).any (·.1) = false := by rfl) : SE X W (.Call (.Name x p) (e :: es) [] pos) (eMake C n m fa) := by
  obtain ⟨⟨fd, ps, F, b⟩, kp⟩ := F
  obtain ⟨t, h1, h2⟩ := ha
  refine ⟨tMakeW C (spF (gr X) n m) W t, ⟨fun pins s σ H Q I h => wpAny_Call_Name_kw (ld_glob I hg hm ?_ hdb)⟩, simMake h2⟩
  exact PySem.W.callWith_K (h₀ := X.base) I.ok.mod.kin Mc.kp (thn (h1.run pos pins s σ H _ I h) fun us s1 ⟨vs, H1, I1, r, q⟩ => ⟨I1.kIn, run_makeW Mc F hr b tk I1 r q⟩) he hpl
theorem sMake0 (Mc : Mk X.K C f) (F : FnX X k f n m) (hr : Room (k + 1) X.A) (tk : Takes X W) (hm : X.mg x = some (.ref C)) (hg : Gl X x := by rfl) (hdb : (x == ("__debug__" : Str)) = false := by decide) : SE X W (.Call (.Name x p) [] [] pos) (eMake C n m aNil) := by
  obtain ⟨⟨fd, ps, F, b⟩, kp⟩ := F
  refine ⟨tMakeW C (spF (gr X) n m) W tNil, ⟨fun pins s σ H Q I h => wpAny_Call_Name_kw (ld_glob I hg hm ?_ hdb)⟩, simMake fun ρ σe σ M H Q rs hp h => PostR.ok0 (R := fun K ρ n H => RVs K ρ n H) h hp RVs.nil⟩
  exact PySem.W.callWith_K0 I.kIn Mc.kp (run_makeW (us := []) (vs := []) Mc F hr b tk I .nil h)

/-! ### a property -/
def noerr {α : Type} : Res α → Res α
  | .err _ _ => .bad
  | r => r
def W0 : WX := fun _ _ _ _ => False
theorem PostR.noerr {α β : Type} {R : Rel α β} {G : Gr} {σ σ' : L2.St} {ρ : Nat → Addr} {M : Mem} {H : Hp} {r : Res α} {Q : β → Hp → Prop} (W' : WX) (h : PostR R G W σ ρ M H (noerr r) Q) : PostR R G W' σ' ρ M H r Q := by
  cases r with
  | ok v M1 => exact h
  | err y M1 => exact h.elim
  | bad => exact h
def eProp (C : Addr) (m : Fn) (f : FE) : FE := fun σ M => (f σ M).bind fun v M1 => match fldsOf M1 v with
  | some (D, _) => if D = C then noerr (m [v] M1) else .bad
  | none => .bad
theorem sProp {pa : Addr} (c : Cls X.K C) (hp : PropOf X.K C y pa g) (F : FnX X k g 1 m) (hr : Room (k + 1) X.A) (ho : SE X W o fo) (hab : attributeBase o y X.env (eval o X.env) = eval o X.env := by rfl) : SE X W (.Attribute o y pos) (eProp C m fo) := by
  obtain ⟨⟨fd, ps, F, b⟩, kp⟩ := F
  obtain ⟨to, o1, o2⟩ := ho
  refine ⟨_, pe_prop o1 c hp F hr b .nil passL hab, fun ρ σe σ M H Q rs hp h => ?_⟩
  refine o2 ρ σe σ M H _ rs hp (PostR.bind h fun v M1 ρ1 H1 v1 _ a rp r h1 => ?_)
  cases q : fldsOf M1 v with
  | none => rw [q] at h1; exact h1.elim
  | some Dfs =>
    obtain ⟨D, fs⟩ := Dfs
    rw [q] at h1
    dsimp only at h1
    by_cases hD : D = C
    · rw [if_pos hD] at h1
      subst hD
      obtain ⟨b, dx, vs, e1, e2, rf⟩ := flds_sim rp r q
      refine ⟨b, dx, vs, e1, e2, rfl, ρ1, M1, [v], rp, ?_, h1.noerr _⟩
      rw [← e1]
      exact RVs.cons r RVs.nil
    · rw [if_neg hD] at h1
      exact h1.elim

/-! ### static methods -/
/-- C.nm is a static method: its record at pa, its def at g -/
structure SMet (K : PySem.W.Frag) (C : Addr) (mc : Value) (nm : Str) (pa g : Addr) : Prop where
  rd : ClX.CRead K C mc
  at_ : PySem.W.findCls K (.ref C) mc nm = some (.get (.builtin "staticmethod.__get__") (.ref pa) .none (.ref C))
  rc : ∃ rest, PySem.W.recIn K pa "staticmethod" = some (.ref g :: rest)
/-- .. reached through an instance -/
structure SInst (K : PySem.W.Frag) (C : Addr) (nm : Str) (pa g : Addr) : Prop where
  pg : PySem.W.plainGet K C Str.empty = true
  hd : PySem.W.hasDictIn K C = true
  at_ : PySem.W.findIn K (.ref C) nm = some (some (.ref pa))
  ty : PySem.W.typeIn K (.ref pa) = some (.type "staticmethod")
  get : PySem.W.specialIn K (.ref pa) "__get__" = some (some (.builtin "staticmethod.__get__"))
  tk : PySem.W.takesIn K (.ref pa) = some false
  cp : PySem.W.copiedNames.contains nm = false
  rc : ∃ rest, PySem.W.recIn K pa "staticmethod" = some (.ref g :: rest)
theorem SInst.plain {K : PySem.W.Frag} {C : Addr} {nm : Str} {pa g : Addr} (c : SInst K C nm pa g) : PySem.W.plainGet K C nm = true := c.pg
theorem sStat {pa : Addr} {mc : Value} (c : SMet X.K C mc nm pa g) (F : FnX X k g n m) (hr : Room k X.A) (tk : Takes X W) (hm : X.mg x = some (.ref C)) (ha : SA X W (e :: es) fa) {pl : Sem Bool} (hg : Gl X x := by rfl) (hdb : (x == ("__debug__" : Str)) = false := by decide)
    (hst : starEach (e :: es) X.env = (false, eval e X.env) :: starEach es X.env := by rfl) (hpl : (backTo pos (starEach es X.env)).any (·.1) = false := by rfl)
    (ht : eval (.Call (.Attribute (.Name x p) nm apos) (e :: es) [] pos) X.env = (do
      let ov ← eval (.Name x p) X.env
      standAt apos.atName
      let (f, first) ← holding [ov] (getMethod ov nm pl)
      callWith pos f first (backTo pos (starEach (e :: es) X.env)) (backToKw pos (keywordEach [] X.env))) := by rfl) : SE X W (.Call (.Attribute (.Name x p) nm apos) (e :: es) [] pos) (eCall n m fa) := by
  obtain ⟨⟨fd, ps, F, b⟩, kp⟩ := F
  obtain ⟨t, h1, h2⟩ := ha
  refine ⟨fun σ H Q => t σ H fun vs H1 => spF (gr X) n m vs H1 Q (WE W σ), ⟨fun pins s σ H Q I h => PySem.W.methodCall_KW (pl := pl) (ld_glob I hg hm ?_ hdb) ht⟩, simCall h2⟩
  obtain ⟨rest, hp⟩ := c.rc
  have I1 := I.tok (s.toks + 1)
  refine PySem.W.method_cls I.kIn c.rd.ga (PySem.W.cls_bind I.kIn c.rd.rd c.at_ (wpAny_call (PySem.W.sm_get (s := { s with toks := s.toks + 1 }) I1.kIn hp (PySem.W.handed_on rfl ?_))))
  exact PySem.W.callWith_K (first := []) (h₀ := X.base) I.ok.mod.kin kp (thn (h1.run pos pins _ σ H _ I1 h) fun us s2 ⟨vs, H2, I2, r, q2⟩ => ⟨I2.kIn, run_fnS (E := WE W) F hr b (passAt tk σ) I2 r q2⟩) hst hpl
def eStatI (C : Addr) (nm : Str) (n : Nat) (m : Fn) (f : FE) (g : FA) : FE := fun σ M => (f σ M).bind fun v M1 => match fldsOf M1 v with
  | some (D, fs) => if D = C ∧ fs.lookup nm = none then eCall n m g σ M1 else .bad
  | none => .bad
theorem sStatI {pa : Addr} (c : SInst X.K C nm pa g) (F : FnX X k g n m) (hr : Room k X.A) (tk : Takes X W) (ho : SE X W o fo) (ha : SA X W (e :: es) fa) {pl : Sem Bool}
    (hst : starEach (e :: es) X.env = (false, eval e X.env) :: starEach es X.env := by rfl) (hpl : (backTo pos (starEach es X.env)).any (·.1) = false := by rfl)
    (ht : eval (.Call (.Attribute o nm apos) (e :: es) [] pos) X.env = (do
      let ov ← eval o X.env
      standAt apos.atName
      let (f, first) ← holding [ov] (getMethod ov nm pl)
      callWith pos f first (backTo pos (starEach (e :: es) X.env)) (backToKw pos (keywordEach [] X.env))) := by rfl) : SE X W (.Call (.Attribute o nm apos) (e :: es) [] pos) (eStatI C nm n m fo fa) := by
  obtain ⟨⟨fd, ps, F, b⟩, kp⟩ := F
  obtain ⟨to, o1, o2⟩ := ho
  obtain ⟨t, h1, h2⟩ := ha
  refine ⟨fun σ H Q => to σ H fun x H1 => ∃ a dx fs, x = .ref a ∧ H1 a = some (.ins C dx fs) ∧ fs.lookup nm = none ∧ t σ H1 fun vs H2 => spF (gr X) n m vs H2 Q (WE W σ), ⟨fun pins s σ H Q I h => PySem.W.methodCall_KW (pl := pl) (thn (o1.run pins s σ H _ I h) fun u s1 ⟨x, H1, I1, rx, z⟩ => ?_) ht⟩, ?_⟩
  · obtain ⟨a, dx, fs, ex, ea, l, q⟩ := z
    subst ex
    have eu : u = Value.ref a := rx
    subst eu
    obtain ⟨mA, O, rr, _, _, _⟩ := ins_get I1.hok ea
    have hn : mA nm = none := RelO.none_of (by rw [← l]; exact rr nm)
    obtain ⟨od, J, hlk⟩ := O.look
    obtain ⟨rest, hp⟩ := c.rc
    have I2 := I1.tok (s1.toks + 1)
    refine PySem.W.method_usual (r := some (.ref pa)) I1.kIn J (PySem.W.plainGet_of c.plain).1 (PySem.W.plainGet_of c.plain).2 c.at_ (by simp only [Option.all_some, c.ty, Option.any_some]; decide +kernel) ?_
    refine PySem.W.get_bind I1.kIn J (PySem.W.plainGet_of c.plain).1 (PySem.W.findObj_fn c.hd c.at_ c.get c.tk c.cp (by rw [hlk nm, hn])) (PySem.W.plainGet_of c.plain).2 (wpAny_call (PySem.W.sm_get (s := { s1 with toks := s1.toks + 1 }) I2.kIn hp (PySem.W.handed_on rfl ?_)))
    exact PySem.W.callWith_K (first := []) (h₀ := X.base) I.ok.mod.kin kp (thn (h1.run pos pins _ σ H1 _ I2 q) fun us s2 ⟨vs, H2, I2, r, q2⟩ => ⟨I2.kIn, run_fnS (E := WE W) F hr b (passAt tk σ) I2 r q2⟩) hst hpl
  · intro ρ σe σ M H Q rs hp h
    refine o2 ρ σe σ M H _ rs hp (PostR.bind h fun v M1 ρ1 H1 v1 _ a rp r h1 => ?_)
    cases q : fldsOf M1 v with
    | none => rw [q] at h1; exact h1.elim
    | some Dfs =>
      obtain ⟨D, fs⟩ := Dfs
      rw [q] at h1
      dsimp only at h1
      by_cases hD : D = C ∧ fs.lookup nm = none
      · rw [if_pos hD] at h1
        obtain ⟨rfl, hD2⟩ := hD
        obtain ⟨b, dx, vs, e1, e2, rf⟩ := flds_sim rp r q
        exact ⟨b, dx, vs, e1, e2, (RFs.lookup nm rf).2 hD2, simCall h2 ρ1 σe σ M1 H1 Q (rs.carry (a.carry hp)) rp h1⟩
      · rw [if_neg hD] at h1
        exact h1.elim

/-! ### raise X('..') -/
def sRaise (C : Addr) : FS := fun σ M => .err ⟨C, none⟩ σ M
theorem ssRaise {bmB : List Value} {B newId initId : String} {tx : Str} {j : Nat} {p2 : Pos} (hc : X.calm = true) (tk : Takes X W) (F : ExcBaseFacts B newId initId bmB) (q : PySem.W.excIn X.K C bmB newId = true) (gC : X.mg x = some (.ref C)) (kC : PySem.W.keepIn X.K (.ref C) = true) (r : Raises X (.ref C)) (hg : Gl X x := by rfl) (hdb : (x == ("__debug__" : Str)) = false := by decide) :
    SS X W (.Raise (some (.Call (.Name x p) [.Constant (.str tx) j p2] [] pos')) none pos) (sRaise C) :=
  ⟨_, ps_raise hc tk (pmk_own F q gC kC r hg hdb), fun ρ σe σ M H D rs hp h => h ρ H σ none .refl hp rs rfl⟩
theorem ssNever {st : Stmt} : SS X W st (fun _ _ => .bad) := ⟨_, ps_never, fun ρ σe σ M H D rs hp h => h.elim⟩
end

/-! ### comprehensions -/
section
variable {X : Cx} {W : WX}
structure STs (X : Cx) (W : WX) (ifs : List Expr) (f : FT) : Prop where
  ex : ∃ t, PTs X ifs t ∧ SimT (gr X) W t f
def tYes : FT := fun _ M => .ok true M
theorem stsNil : STs X W [] tYes := ⟨_, pts_nil, fun ρ σe σ M H Q rs hp h => PostR.ok0 (R := fun _ _ _ _ a b => b = a) h hp rfl⟩
theorem stsOne {c : Expr} {f : FT} (h : ST X W c f) : STs X W [c] f := by
  obtain ⟨t, h1, h2⟩ := h
  exact ⟨_, pts_one h1, h2⟩
end
noncomputable def lcGo (gd : Guard) (put : Put) (t : FT) (e : FE) (σ : StE) : List EV → Mem → List EV → Res (List EV)
  | [], M, acc => if okG gd M then .ok acc M else .bad
  | x :: r, M, acc => if okG gd M then (match put x M with
      | none => .bad
      | some l => (noerr (t (putsE σ l) M)).bind fun b M1 => if b = true then (noerr (e (putsE σ l) M1)).bind fun v M2 => lcGo gd put t e σ r M2 (acc ++ [v]) else lcGo gd put t e σ r M1 acc) else .bad
noncomputable def eLc (own : List Nat) (fi : FI) (put : Put) (t : FT) (e : FE) : FE := fun σ M => (fi σ M).bind fun v M1 => if v.1.length ≤ sizeLine then (lcGo v.2 put t e (wipeE σ own) v.1 M1 []).bind fun acc M2 => newL acc M2 else .bad
/-- what a target stores lies within -/
def PutIn (put : Put) (own : List Nat) : Prop := ∀ x M l, put x M = some l → ∀ p ∈ l, p.1 ∈ own
theorem putIn_pN {i : Nat} {own : List Nat} (h : i ∈ own) : PutIn (pN i) own := fun x M l e p hp => by
  cases e
  simp at hp
  subst hp
  exact h
theorem zipN_in : ∀ {is : List Nat} {xs : List EV} {l : List (Nat × EV)}, zipN is xs = some l → ∀ p ∈ l, p.1 ∈ is
  | [], [], _, e, p, hp => by cases e; simp at hp
  | [], _ :: _, _, e, _, _ => by cases e
  | _ :: _, [], _, e, _, _ => by cases e
  | i :: is, x :: xs, l, e, p, hp => by
    unfold zipN at e
    cases q : zipN is xs with
    | none => rw [q] at e; cases e
    | some m =>
      rw [q] at e
      cases e
      rcases List.mem_cons.mp hp with z | z
      · subst z; simp
      · exact List.mem_cons_of_mem _ (zipN_in q p z)
theorem putIn_pT {is own : List Nat} (h : ∀ i ∈ is, i ∈ own) : PutIn (pT is) own := fun x M l e p hp => by
  unfold pT at e
  cases q : getS M x with
  | none => rw [q] at e; cases e
  | some xs => rw [q] at e; exact h _ (zipN_in e p hp)
theorem lcGo_len {gd : Guard} {put : Put} {t : FT} {e : FE} {σ : StE} : ∀ (xs : List EV) (M : Mem) (acc ys : List EV) (M' : Mem), lcGo gd put t e σ xs M acc = .ok ys M' → ys.length ≤ acc.length + xs.length
  | [], M, acc, ys, M', h => by
    unfold lcGo at h
    split at h
    · cases h; simp
    · cases h
  | x :: r, M, acc, ys, M', h => by
    unfold lcGo at h
    split at h
    · split at h
      · cases h
      · rename_i l _
        cases q : noerr (t (putsE σ l) M) with
        | bad => rw [q] at h; cases h
        | err y M1 => rw [q] at h; cases h
        | ok b M1 =>
          rw [q] at h
          have h : (if b = true then (noerr (e (putsE σ l) M1)).bind fun v M2 => lcGo gd put t e σ r M2 (acc ++ [v]) else lcGo gd put t e σ r M1 acc) = .ok ys M' := h
          split at h
          · cases q2 : noerr (e (putsE σ l) M1) with
            | bad => rw [q2] at h; cases h
            | err y M2 => rw [q2] at h; cases h
            | ok v M2 =>
              rw [q2] at h
              have := lcGo_len r M2 (acc ++ [v]) ys M' h
              simp only [List.length_append, List.length_cons, List.length_nil] at this ⊢
              omega
          · have := lcGo_len r M1 acc ys M' h
            simp only [List.length_cons]
            omega
    · cases h
section
variable {X : Cx} {W : WX} {elt tg iter : Expr} {ifs : List Expr} {scope : Scope} {own : List (Str × Nat)} {pos : Pos} {fi : FI} {put : Put} {ft : FT} {fe : FE}
/-- the simulation of the loop of a comprehension -/
theorem simLc {G : Gr} {wi : TI} {g : TG} {tt : TT} {te : TE} {vs : List Nat} (hi : ∀ ρ σe σ M H Q, RSt G.K ρ M.length H σe σ → RP G ρ M H → PostI G W σ ρ M H (fi σe M) Q → wi σ H Q)
    (hg : ∀ ρ M H x x' (σ : L2.St) (Q : L2.St → Hp → Prop) l, RP G ρ M H → RV G.K ρ M.length H x x' → put x M = some l → (∀ l', RPs G.K ρ M.length H l l' → Q (puts σ l') H) → g x' σ H Q)
    (ht : SimT G W0 tt ft) (he : SimE G W0 te fe) (hput : PutIn put vs) : SimE G W (tLc wi g tt te vs) (eLc vs fi put ft fe) := by
  intro ρ σe σ M H Q rs hp h
  refine hi ρ σe σ M H _ rs hp ?_
  unfold eLc at h
  cases q : fi σe M with
  | bad => rw [q] at h; exact h.elim
  | err y M1 => rw [q] at h; exact h
  | ok v M1 =>
    rw [q] at h
    obtain ⟨xs, gd⟩ := v
    have h : PostE G W σ ρ M H (if xs.length ≤ sizeLine then (lcGo gd put ft fe (wipeE σe vs) xs M1 []).bind fun acc M2 => newL acc M2 else .bad) Q := h
    by_cases hz : xs.length ≤ sizeLine
    · rw [if_pos hz] at h
      intro ρ1 H1 J a1 rp1 jk D nD
      have rs1 := (rs.carry (a1.carry hp)).wipe vs
      -- the state of the loop: turn i, the items so far at D, beside the memory
      refine ⟨fun i m H' => ∃ ρ' M' acc acc', After ρ1 M1 H1 ρ' M' H' ∧ RSt G.K ρ' M'.length H' (wipeE σe vs) (L2.wipe σ vs) ∧ RP G ρ' M' H' ∧ H' D = some (.lst acc') ∧ RVs G.K ρ' M'.length H' acc acc' ∧ (∀ j, j < M'.length → ρ' j ≠ D) ∧
          m = xs.length - i ∧ i ≤ xs.length ∧ acc.length ≤ i ∧ PostE G W σ ρ M H ((lcGo gd put ft fe (wipeE σe vs) (xs.drop i) M' acc).bind fun acc M2 => newL acc M2) Q, ⟨xs.length, ?_⟩, ?_⟩
      · obtain ⟨aD, rpD⟩ := side rp1 nD (.lst [])
        exact ⟨ρ1, M1, [], [], aD, rs1.carry (aD.carry rp1), rpD, upd_same, RVs.nil, fun j hj => rp1.ne_free nD hj, by simp, Nat.zero_le _, Nat.le_refl _, h⟩
      · rintro i m H' ⟨ρ', M', acc, acc', af, rs', rp', hD, rv, neD, rfl, hi', hacc, h'⟩
        by_cases hlt : i < xs.length
        · have e1 : xs.drop i = xs[i] :: xs.drop (i + 1) := List.drop_eq_getElem_cons hlt
          rw [e1] at h'
          unfold lcGo at h'
          by_cases ok : okG gd M'
          · rw [if_pos ok] at h'
            have e2 : xs[i]? = some xs[i] := List.getElem?_eq_getElem hlt
            obtain ⟨go, yl⟩ := jk.go i xs[i] ρ' M' H' (af.soft rp1) rp' ok e2
            refine .inr ⟨go, fun H2 => ∃ ρ2 M2 acc2 acc2', After ρ1 M1 H1 ρ2 M2 H2 ∧ RSt G.K ρ2 M2.length H2 (wipeE σe vs) (L2.wipe σ vs) ∧ RP G ρ2 M2 H2 ∧ H2 D = some (.lst acc2') ∧ RVs G.K ρ2 M2.length H2 acc2 acc2' ∧ (∀ j, j < M2.length → ρ2 j ≠ D) ∧
                acc2.length ≤ i + 1 ∧ PostE G W σ ρ M H ((lcGo gd put ft fe (wipeE σe vs) (xs.drop (i + 1)) M2 acc2).bind fun acc M2 => newL acc M2) Q,
              fun H2 ⟨ρ2, M2, c2, c2', z1, z2, z3, z4, z5, z6, z7, z8⟩ => ⟨xs.length - (i + 1), by omega, ρ2, M2, c2, c2', z1, z2, z3, z4, z5, z6, rfl, hlt, z7, z8⟩, fun x' H2 y => ?_⟩
            obtain ⟨y1, y2, y3⟩ := yl x' H2 y
            have hD2 : H2 D = some (.lst acc') := y1.frm D _ hD neD
            cases qp : put xs[i] M' with
            | none => rw [qp] at h'; exact h'.elim
            | some l =>
              rw [qp] at h'
              dsimp only at h'
              refine hg ρ' M' H2 xs[i] x' _ _ l y2 y3 qp fun l' hl => ?_
              have hin : ∀ p ∈ l', p.1 ∈ vs := fun p hp => by
                have e3 : p.1 ∈ l'.map (·.1) := List.mem_map.mpr ⟨p, hp, rfl⟩
                rw [hl.map] at e3
                obtain ⟨r, hr, e4⟩ := List.mem_map.mp e3
                rw [← e4]
                exact hput _ _ _ qp r hr
              refine ⟨by rw [wipe_puts vs l' _ hin, wipe_wipe], ?_⟩
              have rs2 := (rs'.carry (y1.carry rp')).puts hl
              have rv2 := rv.carry (y1.carry rp')
              refine ht ρ' _ _ M' H2 _ rs2 y2 ?_
              cases qt : ft (putsE (wipeE σe vs) l) M' with
              | bad => rw [qt] at h'; exact h'.elim
              | err y M3 => rw [qt] at h'; exact h'.elim
              | ok b M3 =>
                rw [qt] at h'
                intro ρ3 H3 b3 a3 rp3 eb
                subst eb
                have h' : PostE G W σ ρ M H ((if b3 = true then (noerr (fe (putsE (wipeE σe vs) l) M3)).bind fun v M2 => lcGo gd put ft fe (wipeE σe vs) (xs.drop (i + 1)) M2 (acc ++ [v]) else lcGo gd put ft fe (wipeE σe vs) (xs.drop (i + 1)) M3 acc).bind fun acc M2 => newL acc M2) Q := h'
                have nfree : ∀ {ρ4 : Nat → Addr} {M4 : Mem} {H4 : Hp}, After ρ' M' H2 ρ4 M4 H4 → ∀ j, j < M4.length → ρ4 j ≠ D := fun {ρ4 M4 H4} a4 j hj => by
                  by_cases z : j < M'.length
                  · rw [a4.agr j z]; exact neD j z
                  · intro e
                    have := a4.new j (Nat.le_of_not_lt z) hj
                    rw [e, hD2] at this
                    cases this
                cases b3 with
                | false =>
                  rw [if_neg Bool.false_ne_true] at h' ⊢
                  exact ⟨ρ3, M3, acc, acc', af.trans rp' (y1.trans y2 a3), (rs'.carry (y1.carry rp')).carry (a3.carry y2), rp3, a3.frm D _ hD2 neD, rv2.carry (a3.carry y2), nfree a3, by omega, h'⟩
                | true =>
                  rw [if_pos rfl] at h' ⊢
                  refine he ρ3 _ _ M3 H3 _ (rs2.carry (a3.carry y2)) rp3 ?_
                  cases qe : fe (putsE (wipeE σe vs) l) M3 with
                  | bad => rw [qe] at h'; exact h'.elim
                  | err y M4 => rw [qe] at h'; exact h'.elim
                  | ok v M4 =>
                    rw [qe] at h'
                    intro ρ4 H4 v4 a4 rp4 r4
                    have a34 := a3.trans rp3 a4
                    have hD4 : H4 D = some (.lst acc') := a34.frm D _ hD2 neD
                    have rv4 : RVs G.K ρ4 M4.length H4 acc acc' := rv2.carry (a34.carry y2)
                    have nf4 := nfree a34
                    have hl4 : acc'.length < sizeLine := by rw [rv4.length]; omega
                    -- D is written beside the memory
                    have c5 : Carry G.K ρ4 M4.length H4 ρ4 M4.length (upd H4 D (.lst (acc' ++ [v4]))) := ⟨Nat.le_refl _, fun _ _ => rfl, fun b zs z => by rw [upd_ne (ne_of z hD4 (by intro w; cases w))]; exact z, fun b o zs z => by rw [upd_ne (ne_of z hD4 (by intro w; cases w))]; exact z⟩
                    have rp5 : RP G ρ4 M4 (upd H4 D (.lst (acc' ++ [v4]))) := ⟨fun j o ej => (rp4.obj j o ej).carry c5 (upd_ne (nf4 j (List.getElem?_eq_some_iff.mp ej).1)), rp4.inj⟩
                    refine ⟨acc', hD4, hl4, ρ4, M4, acc ++ [v], acc' ++ [v4], ?_, ?_, rp5, upd_same, ?_, nf4, by rw [List.length_append, List.length_singleton]; omega, h'⟩
                    · have a14 := af.trans rp' (y1.trans y2 a34)
                      refine ⟨a14.len, a14.agr, fun b o eb hb => ?_, a14.new, fun k l e => ⟨(a14.lck k l e).1, by rw [upd_ne (rp1.ne_free nD (List.getElem?_eq_some_iff.mp e).1)]; exact (a14.lck k l e).2⟩⟩
                      have nb : b ≠ D := fun z => by rw [z, nD] at eb; cases eb
                      rw [upd_ne nb]
                      exact a14.frm b o eb hb
                    · exact ((rs'.carry (y1.carry rp')).carry (a34.carry y2)).carry c5
                    · exact (rv4.append (RVs.cons r4 RVs.nil)).carry c5
          · rw [if_neg ok] at h'; exact h'.elim
        · have e1 : xs.drop i = [] := List.drop_eq_nil_of_le (by omega)
          rw [e1] at h'
          unfold lcGo at h'
          by_cases ok : okG gd M'
          · rw [if_pos ok] at h'
            have e2 : i = xs.length := by omega
            subst e2
            refine .inl ⟨jk.stop ρ' M' H' (af.soft rp1) rp' ok, ?_⟩
            have h' : PostE G W σ ρ M H (newL acc M') Q := h'
            unfold newL at h'
            by_cases hl : acc.length ≤ sizeLine
            · rw [if_pos hl] at h'
              -- D becomes the memory's next object
              have ln : (M' ++ [EO.lst acc]).length = M'.length + 1 := by simp
              have cc : Carry G.K ρ' M'.length H' (ext ρ' M'.length D) (M'.length + 1) H' := ⟨by omega, fun k hk => ext_lt hk, fun _ _ z => z, fun _ _ _ z => z⟩
              have rpD : RP G (ext ρ' M'.length D) (M' ++ [EO.lst acc]) H' := by
                refine ⟨fun j o ej => ?_, fun j j2 hj hj2 ejj => ?_⟩
                · rw [ln]
                  have hj : j < (M' ++ [EO.lst acc]).length := (List.getElem?_eq_some_iff.mp ej).1
                  rw [ln] at hj
                  by_cases z : j < M'.length
                  · rw [List.getElem?_append_left z] at ej
                    rw [ext_lt z]
                    exact (rp'.obj j o ej).carry cc rfl
                  · have : j = M'.length := by omega
                    subst this
                    rw [List.getElem?_append_right (Nat.le_refl _), Nat.sub_self] at ej
                    cases ej
                    rw [ext_self]
                    exact ⟨acc', hD, rv.carry cc⟩
                · rw [ln] at hj hj2
                  by_cases z : j < M'.length <;> by_cases z2 : j2 < M'.length
                  · rw [ext_lt z, ext_lt z2] at ejj; exact rp'.inj j j2 z z2 ejj
                  · have : j2 = M'.length := by omega
                    subst this
                    rw [ext_lt z, ext_self] at ejj
                    exact absurd ejj (neD j z)
                  · have : j = M'.length := by omega
                    subst this
                    rw [ext_lt z2, ext_self] at ejj
                    exact absurd ejj.symm (neD j2 z2)
                  · omega
              have aT := a1.trans rp1 af
              refine h' _ H' (.ref D) ⟨by rw [ln]; have := aT.len; omega, fun k hk => by rw [ext_lt (Nat.lt_of_lt_of_le hk aT.len)]; exact aT.agr k hk, aT.frm, fun k h1 h2 => ?_, fun k l e => ⟨by rw [List.getElem?_append_left (List.getElem?_eq_some_iff.mp (aT.lck k l e).1).1]; exact (aT.lck k l e).1, (aT.lck k l e).2⟩⟩ rpD (by unfold RV; exact ⟨by rw [ln]; omega, by rw [ext_self]⟩)
              rw [ln] at h2
              by_cases z : k < M'.length
              · rw [ext_lt z]; exact aT.new k h1 z
              · have : k = M'.length := by omega
                subst this
                rw [ext_self]
                cases qD : H D with
                | none => rfl
                | some u =>
                  exfalso
                  by_cases hb : ∀ k, k < M.length → ρ k ≠ D
                  · have := a1.frm D u qD hb
                    rw [nD] at this; cases this
                  · have ⟨j, hj⟩ := Classical.not_forall.mp hb
                    have ⟨hj1, hj2⟩ := Classical.not_imp.mp hj
                    have hj3 : ρ j = D := Classical.not_not.mp hj2
                    obtain ⟨w, h3, _⟩ := rp1.at (Nat.lt_of_lt_of_le hj1 a1.len)
                    rw [a1.agr j hj1, hj3, nD] at h3
                    cases h3
            · rw [if_neg hl] at h'; exact h'.elim
          · rw [if_neg ok] at h'; exact h'.elim
    · rw [if_neg hz] at h; exact h.elim
/-- the canonical readings -/
def tE (G : Gr) (W : WX) (f : FE) : TE := fun σ H Q => ∃ ρ σe M, RSt G.K ρ M.length H σe σ ∧ RP G ρ M H ∧ PostE G W σ ρ M H (f σe M) Q
def tT (G : Gr) (W : WX) (f : FT) : TT := fun σ H Q => ∃ ρ σe M, RSt G.K ρ M.length H σe σ ∧ RP G ρ M H ∧ PostT G W σ ρ M H (f σe M) Q
def gP (G : Gr) (put : Put) : TG := fun x' σ H Q => ∃ ρ M x l, RP G ρ M H ∧ RV G.K ρ M.length H x x' ∧ put x M = some l ∧ ∀ l', RPs G.K ρ M.length H l l' → Q (puts σ l') H
theorem SE.can {X : Cx} {e : Expr} {f : FE} (h : SE X W e f) : PE X e (tE (gr X) W f) := by
  obtain ⟨t, h1, h2⟩ := h
  exact ⟨fun pins s σ H Q I ⟨ρ, σe, M, z1, z2, z3⟩ => h1.run pins s σ H Q I (h2 ρ σe σ M H Q z1 z2 z3)⟩
theorem STs.can {X : Cx} {es : List Expr} {f : FT} (h : STs X W es f) : PTs X es (tT (gr X) W f) := by
  obtain ⟨t, h1, h2⟩ := h
  exact ⟨fun pins s σ H Q I ⟨ρ, σe, M, z1, z2, z3⟩ => h1.run pins s σ H Q I (h2 ρ σe σ M H Q z1 z2 z3)⟩
theorem SG.can {X : Cx} {t : Expr} {put : Put} (h : SG X t put) : PG X t (gP (gr X) put) := by
  obtain ⟨g, h1, h2⟩ := h
  exact ⟨fun pins s σ H v u Q I r ⟨ρ, M, x, l, z1, z2, z3, z4⟩ => h1.run pins s σ H v u Q I r (h2 ρ M H x v σ Q l z1 z2 z3 z4)⟩
theorem sLc (hc : X.calm = true) (hN : X.N.Nodup) (hi : SI X W tg iter fi) (ok : BlkOk X.N X.env.scope scope own)
    (hg : ∀ (s : Shared) (H : Hp) (C : Addr) (cl : List (Str × Addr)) (fp : List Addr), SG (X.blk s H scope (compEnvC scope cl C X.env) fp) tg put)
    (ht : ∀ (s : Shared) (H : Hp) (C : Addr) (cl : List (Str × Addr)) (fp : List Addr), STs (X.blk s H scope (compEnvC scope cl C X.env) fp) W0 ifs ft)
    (he : ∀ (s : Shared) (H : Hp) (C : Addr) (cl : List (Str × Addr)) (fp : List Addr), SE (X.blk s H scope (compEnvC scope cl C X.env) fp) W0 elt fe)
    (hput : PutIn put (own.map (·.2))) (hs : ∀ x, foldedSetIterable iter X.env x = pure x := by intro _; rfl) : SE X W (.ListComp elt [⟨tg, iter, ifs, 0⟩] scope pos) (eLc (own.map (·.2)) fi put ft fe) := by
  obtain ⟨wi, i1, i2⟩ := hi
  refine ⟨_, pe_lc (g := gP (gr X) put) (tt := tT (gr X) W0 ft) (te := tE (gr X) W0 fe) hc hN i1 ok (fun s H C cl fp => (hg s H C cl fp).can) (fun s H C cl fp => (ht s H C cl fp).can) (fun s H C cl fp => (he s H C cl fp).can) hs, ?_⟩
  exact simLc (G := gr X) i2 (fun ρ M H x x' σ Q l rp r e h => ⟨ρ, M, x, l, rp, r, e, h⟩) (fun ρ σe σ M H Q rs rp h => ⟨ρ, σe, M, rs, rp, h⟩) (fun ρ σe σ M H Q rs rp h => ⟨ρ, σe, M, rs, rp, h⟩) hput
theorem ssSetLc {i : Nat} {y : Str} {py spos : Pos} (hc : X.calm = true) (hN : X.N.Nodup) (hsw : swapsWith (.ListComp elt [⟨tg, iter, ifs, 0⟩] scope pos) (some (.Name y py)) spos.line X.env = pure true) (hi : SI X W tg iter fi) (ok : BlkOk X.N X.env.scope scope own)
    (hg : ∀ (s : Shared) (H : Hp) (C : Addr) (cl : List (Str × Addr)) (fp : List Addr), SG (X.blk s H scope (compEnvC scope cl C X.env) fp) tg put)
    (ht : ∀ (s : Shared) (H : Hp) (C : Addr) (cl : List (Str × Addr)) (fp : List Addr), STs (X.blk s H scope (compEnvC scope cl C X.env) fp) W0 ifs ft)
    (he : ∀ (s : Shared) (H : Hp) (C : Addr) (cl : List (Str × Addr)) (fp : List Addr), SE (X.blk s H scope (compEnvC scope cl C X.env) fp) W0 elt fe)
    (hput : PutIn put (own.map (·.2))) (hy : X.N[i]? = some y := by rfl) (hyl : X.env.scope.names.lookup y = some .local := by rfl) (hs : ∀ x, foldedSetIterable iter X.env x = pure x := by intro _; rfl) : SS X W (.Assign [.Name y py] (.ListComp elt [⟨tg, iter, ifs, 0⟩] scope pos) spos) (sPut (pN i) (eLc (own.map (·.2)) fi put ft fe)) := by
  obtain ⟨wi, i1, i2⟩ := hi
  refine ⟨_, ps_setLc (g := gP (gr X) put) (tt := tT (gr X) W0 ft) (te := tE (gr X) W0 fe) hc hN hy hyl hsw i1 ok (fun s H C cl fp => (hg s H C cl fp).can) (fun s H C cl fp => (ht s H C cl fp).can) (fun s H C cl fp => (he s H C cl fp).can) hs, ?_⟩
  refine sim_put (simLc (G := gr X) i2 (fun ρ M H x x' σ Q l rp r e h => ⟨ρ, M, x, l, rp, r, e, h⟩) (fun ρ σe σ M H Q rs rp h => ⟨ρ, σe, M, rs, rp, h⟩) (fun ρ σe σ M H Q rs rp h => ⟨ρ, σe, M, rs, rp, h⟩) hput) fun ρ M H x x' σ Q l hp r e h => ?_
  cases e
  exact h [(i, x')] ⟨x', [], rfl, r, rfl⟩
end
end WS

set_option Elab.async false
set_option linter.all false
set_option maxRecDepth 100000
/-! The simulation: operators by values, indices, slices, methods of lists. -/
namespace WS
open PySem PySem.Spec PyProof.Rows L2
open Classical
section
variable {G : Gr} {W : WX} {σ : L2.St} {ρ : Nat → Addr} {M : Mem} {H : Hp} {Q : VK}
theorem okE {v : EV} {u : V} (h : PostE G W σ ρ M H (.ok v M) Q) (rp : RP G ρ M H) (r : RV G.K ρ M.length H v u) : Q u H := h ρ H u .refl rp r
theorem okI {i : Int} (h : PostE G W σ ρ M H (.ok (.int i) M) Q) (rp : RP G ρ M H) : Q (.int i) H := okE h rp (by unfold RV; rfl)
theorem okB {b : Bool} (h : PostE G W σ ρ M H (.ok (.bl b) M) Q) (rp : RP G ρ M H) : Q (.bl b) H := okE h rp (by unfold RV; rfl)
theorem okS {x : Str} (h : PostE G W σ ρ M H (.ok (.str x) M) Q) (rp : RP G ρ M H) : Q (.str x) H := okE h rp (by unfold RV; rfl)
theorem okN (h : PostE G W σ ρ M H (.ok .non M) Q) (rp : RP G ρ M H) : Q .non H := okE h rp (by unfold RV; rfl)
end
/-! ### on two ints, on two texts -/
def twoI : EV → EV → Option (Int × Int)
  | .int i, .int j => some (i, j)
  | _, _ => none
def twoS : EV → EV → Option (Str × Str)
  | .str i, .str j => some (i, j)
  | _, _ => none
theorem twoI_eq {x y : EV} {p : Int × Int} (h : twoI x y = some p) : x = .int p.1 ∧ y = .int p.2 := by
  unfold twoI at h
  split at h
  · cases h; exact ⟨rfl, rfl⟩
  · cases h
theorem twoS_eq {x y : EV} {p : Str × Str} (h : twoS x y = some p) : x = .str p.1 ∧ y = .str p.2 := by
  unfold twoS at h
  split at h
  · cases h; exact ⟨rfl, rfl⟩
  · cases h
def altO (F F' : EV → EV → Mem → Res EV) : EV → EV → Mem → Res EV := fun x y M => match F x y M with
  | .bad => F' x y M
  | r => r
theorem OpS.or {G : Gr} {W : WX} {r r' : V → V → Hp → VK → Prop} {F F' : EV → EV → Mem → Res EV} (a : OpS G W r F) (b : OpS G W r' F') : OpS G W (fun x y H Q => r x y H Q ∨ r' x y H Q) (altO F F') := by
  intro σ ρ M H x y x' y' Q rp rx ry h
  unfold altO at h
  cases q : F x y M with
  | bad => rw [q] at h; exact .inr (b σ ρ M H x y x' y' Q rp rx ry h)
  | ok v M1 => rw [q] at h; exact .inl (a σ ρ M H x y x' y' Q rp rx ry (by rw [q]; exact h))
  | err v M1 => rw [q] at h; exact .inl (a σ ρ M H x y x' y' Q rp rx ry (by rw [q]; exact h))
section
variable {X : Cx} {W : WX}
theorem SOp.alt {op : Operator} {F F' : EV → EV → Mem → Res EV} (a : SOp X W op F) (b : SOp X W op F') : SOp X W op (altO F F') := by
  obtain ⟨r, a1, a2⟩ := a
  obtain ⟨r', b1, b2⟩ := b
  exact ⟨_, a1.or b1, a2.or b2⟩
theorem SCm.alt {op : CmpOp} {F F' : EV → EV → Mem → Res EV} (a : SCm X W op F) (b : SCm X W op F') : SCm X W op (altO F F') := by
  obtain ⟨r, a1, a2⟩ := a
  obtain ⟨r', b1, b2⟩ := b
  exact ⟨_, a1.or b1, a2.or b2⟩
/-- an operator on two ints -/
noncomputable def opI (C : Int → Int → Prop) (g : Int → Int → EV) : EV → EV → Mem → Res EV := fun x y M => match twoI x y with
  | some p => if C p.1 p.2 then .ok (g p.1 p.2) M else .bad
  | none => .bad
def opI0 (g : Int → Int → EV) : EV → EV → Mem → Res EV := fun x y M => match twoI x y with
  | some p => .ok (g p.1 p.2) M
  | none => .bad
def opS0 (g : Str → Str → EV) : EV → EV → Mem → Res EV := fun x y M => match twoS x y with
  | some p => .ok (g p.1 p.2) M
  | none => .bad
theorem simI {G : Gr} {C : Int → Int → Prop} {g : Int → Int → EV} {g' : Int → Int → V} (hg : ∀ K ρ n H i j, RV K ρ n H (g i j) (g' i j)) : OpS G W (rI C g') (opI C g) := by
  intro σ ρ M H x y x' y' Q rp rx ry h
  unfold opI at h
  cases q : twoI x y with
  | none => rw [q] at h; exact h.elim
  | some p =>
    rw [q] at h
    obtain ⟨rfl, rfl⟩ := twoI_eq q
    unfold RV at rx ry
    by_cases c : C p.1 p.2
    · dsimp only at h
      rw [if_pos c] at h
      exact ⟨p.1, p.2, rx, ry, c, okE h rp (hg _ _ _ _ _ _)⟩
    · dsimp only at h
      rw [if_neg c] at h
      exact h.elim
theorem simI0 {G : Gr} {g : Int → Int → EV} {g' : Int → Int → V} (hg : ∀ K ρ n H i j, RV K ρ n H (g i j) (g' i j)) : OpS G W (rI0 g') (opI0 g) := by
  intro σ ρ M H x y x' y' Q rp rx ry h
  unfold opI0 at h
  cases q : twoI x y with
  | none => rw [q] at h; exact h.elim
  | some p =>
    rw [q] at h
    obtain ⟨rfl, rfl⟩ := twoI_eq q
    unfold RV at rx ry
    exact ⟨p.1, p.2, rx, ry, okE h rp (hg _ _ _ _ _ _)⟩
theorem simS0 {G : Gr} {g : Str → Str → EV} {g' : Str → Str → V} (hg : ∀ K ρ n H i j, RV K ρ n H (g i j) (g' i j)) : OpS G W (fun x y H Q => ∃ i j, x = .str i ∧ y = .str j ∧ Q (g' i j) H) (opS0 g) := by
  intro σ ρ M H x y x' y' Q rp rx ry h
  unfold opS0 at h
  cases q : twoS x y with
  | none => rw [q] at h; exact h.elim
  | some p =>
    rw [q] at h
    obtain ⟨rfl, rfl⟩ := twoS_eq q
    unfold RV at rx ry
    exact ⟨p.1, p.2, rx, ry, okE h rp (hg _ _ _ _ _ _)⟩
theorem rvI {g : Int → Int → Int} : ∀ (K : PySem.W.Frag) (ρ : Nat → Addr) (n : Nat) (H : Hp) (i j : Int), RV K ρ n H (.int (g i j)) (.int (g i j)) := fun _ _ _ _ _ _ => by unfold RV; rfl
theorem rvB {α : Type} {g : α → α → Bool} : ∀ (K : PySem.W.Frag) (ρ : Nat → Addr) (n : Nat) (H : Hp) (i j : α), RV K ρ n H (.bl (g i j)) (.bl (g i j)) := fun _ _ _ _ _ _ => by unfold RV; rfl
/-! addition: ints, texts, lists, tuples -/
def addS : EV → EV → Mem → Res EV := fun x y M => match twoS x y with
  | some p => if p.1.length + p.2.length ≤ sizeLine then .ok (.str (p.1 ++ p.2)) M else .bad
  | none => .bad
def isRefL (M : Mem) : EV → Option (Nat × List EV)
  | .ref k => match M[k]? with
    | some (.lst xs) => some (k, xs)
    | _ => none
  | _ => none
theorem isRefL_sim {G : Gr} {ρ : Nat → Addr} {M : Mem} {H : Hp} (hp : RP G ρ M H) {v : EV} {u : V} {k : Nat} {xs : List EV} (r : RV G.K ρ M.length H v u) (e : isRefL M v = some (k, xs)) :
    v = .ref k ∧ k < M.length ∧ M[k]? = some (.lst xs) ∧ ∃ vs, u = .ref (ρ k) ∧ H (ρ k) = some (.lst vs) ∧ RVs G.K ρ M.length H xs vs := by
  cases v with
  | ref j =>
    unfold isRefL at e
    dsimp only at e
    cases q : M[j]? with
    | none => rw [q] at e; cases e
    | some o =>
      rw [q] at e
      cases o with
      | lst ys =>
        cases e
        unfold RV at r
        obtain ⟨vs, h1, h2⟩ := hp.obj _ _ q
        exact ⟨rfl, r.1, q, vs, r.2, h1, h2⟩
      | _ => cases e
  | _ => cases e
def addL : EV → EV → Mem → Res EV := fun x y M => match isRefL M x, isRefL M y with
  | some p, some q => newL (p.2 ++ q.2) M
  | _, _ => .bad
def asT : EV → Option (List EV)
  | .tup xs => some xs
  | _ => none
theorem asT_eq {x : EV} {xs : List EV} (h : asT x = some xs) : x = .tup xs := by
  unfold asT at h
  split at h
  · cases h; rfl
  · cases h
def addT : EV → EV → Mem → Res EV := fun x y M => match asT x, asT y with
  | some p, some q => newT (p ++ q) M
  | _, _ => .bad
theorem soAddI : SOp X W .Add (opI0 fun i j => .int (i + j)) := ⟨_, op_add, simI0 rvI⟩
theorem soSub : SOp X W .Sub (opI0 fun i j => .int (i - j)) := ⟨_, op_sub, simI0 rvI⟩
noncomputable def opMul : EV → EV → Mem → Res EV := opI CMul fun i j => .int (i * j)
noncomputable def opFdiv : EV → EV → Mem → Res EV := opI CDiv fun i j => .int (i / j)
noncomputable def opMod : EV → EV → Mem → Res EV := opI (fun (_ j : Int) => 0 < j) (fun i j => .int (i % j))
noncomputable def opPow : EV → EV → Mem → Res EV := opI CPow fun i j => .int (i ^ j.toNat)
theorem soMul : SOp X W .Mult opMul := ⟨_, op_mul, simI rvI⟩
theorem soFdiv : SOp X W .FloorDiv opFdiv := ⟨_, op_fdiv, simI rvI⟩
theorem soMod : SOp X W .Mod opMod := ⟨_, op_mod, simI rvI⟩
theorem soPow : SOp X W .Pow opPow := ⟨_, op_pow, simI rvI⟩
theorem soAddS : SOp X W .Add addS := ⟨_, op_add_str, fun σ ρ M H x y x' y' Q rp rx ry h => by
  unfold addS at h
  cases q : twoS x y with
  | none => rw [q] at h; exact h.elim
  | some p =>
    rw [q] at h
    obtain ⟨rfl, rfl⟩ := twoS_eq q
    unfold RV at rx ry
    dsimp only at h
    by_cases c : p.1.length + p.2.length ≤ sizeLine
    · rw [if_pos c] at h
      exact ⟨p.1, p.2, rx, ry, c, okS h rp⟩
    · rw [if_neg c] at h
      exact h.elim⟩
theorem soAddL : SOp X W .Add addL := ⟨_, op_cat, fun σ ρ M H x y x' y' Q rp rx ry h => by
  unfold addL at h
  cases q1 : isRefL M x with
  | none => rw [q1] at h; exact h.elim
  | some p =>
    cases q2 : isRefL M y with
    | none => rw [q1, q2] at h; exact h.elim
    | some q =>
      rw [q1, q2] at h
      dsimp only at h
      obtain ⟨_, _, _, vs, e1, h1, r1⟩ := isRefL_sim rp rx q1
      obtain ⟨_, _, _, ws, e2, h2, r2⟩ := isRefL_sim rp ry q2
      obtain ⟨l, al⟩ := newL_sim rp (r1.append r2) h
      exact ⟨_, _, vs, ws, e1, e2, h1, h2, by rw [List.length_append] at l; exact l, al⟩⟩
theorem soAddT : SOp X W .Add addT := ⟨_, op_catA, fun σ ρ M H x y x' y' Q rp rx ry h => by
  unfold addT at h
  cases q1 : asT x with
  | none => rw [q1] at h; exact h.elim
  | some p =>
    cases q2 : asT y with
    | none => rw [q1, q2] at h; exact h.elim
    | some q =>
      rw [q1, q2] at h
      dsimp only at h
      have e1 := asT_eq q1
      have e2 := asT_eq q2
      subst e1 e2
      unfold RV at rx ry
      obtain ⟨a, vs, e1, h1, r1⟩ := rx
      obtain ⟨b, ws, e2, h2, r2⟩ := ry
      have h0 := h
      obtain ⟨l, al⟩ := newT_sim rp (r1.append r2) h
      rw [List.length_append] at l
      unfold newT at h0
      have hz : (p ++ q).length ≤ sizeLine := by rw [List.length_append, ← r1.length, ← r2.length]; exact l
      rw [if_pos hz] at h0
      refine ⟨a, b, vs, ws, e1, e2, .of h1, .of h2, l, fun z => ?_, fun z1 z2 => ?_, fun z1 z2 => al⟩
      · subst z
        have : p = [] := by have := r1.length; exact List.length_eq_zero_iff.mp this.symm
        subst this
        exact okE h0 rp (by unfold RV; exact ⟨b, ws, rfl, h2, r2⟩)
      · subst z2
        have : q = [] := by have := r2.length; exact List.length_eq_zero_iff.mp this.symm
        subst this
        rw [List.append_nil] at h0
        exact okE h0 rp (by unfold RV; exact ⟨a, vs, rfl, h1, r1⟩)⟩
/-- + -/
def opAdd : EV → EV → Mem → Res EV := altO (opI0 fun i j => .int (i + j)) (altO addS (altO addL addT))
theorem soAdd : SOp X W .Add opAdd := soAddI.alt (soAddS.alt (soAddL.alt soAddT))
theorem suNeg : SUn X W .USub (fun x M => match x with | .int i => .ok (.int (-i)) M | _ => .bad) := ⟨_, un_neg, fun σ ρ M H x x' Q rp rx h => by
  cases x with
  | int i => unfold RV at rx; exact ⟨i, rx, okI h rp⟩
  | _ => exact h.elim⟩

/-! ### comparisons -/
def cLt : EV → EV → Mem → Res EV := altO (opI0 fun i j => .bl (decide (i < j))) (opS0 fun i j => .bl (decide (i.cps.toList < j.cps.toList)))
def cLe : EV → EV → Mem → Res EV := altO (opI0 fun i j => .bl (decide (i ≤ j))) (opS0 fun i j => .bl (!decide (j.cps.toList < i.cps.toList)))
def cGt : EV → EV → Mem → Res EV := altO (opI0 fun i j => .bl (decide (j < i))) (opS0 fun i j => .bl (decide (j.cps.toList < i.cps.toList)))
def cGe : EV → EV → Mem → Res EV := altO (opI0 fun i j => .bl (decide (j ≤ i))) (opS0 fun i j => .bl (!decide (i.cps.toList < j.cps.toList)))
theorem scLt : SCm X W .Lt cLt := (show SCm X W .Lt _ from ⟨_, op_lt, simI0 rvB⟩).alt ⟨_, op_lt_str, simS0 rvB⟩
theorem scLe : SCm X W .LtE cLe := (show SCm X W .LtE _ from ⟨_, op_le, simI0 rvB⟩).alt ⟨_, op_le_str, simS0 rvB⟩
theorem scGt : SCm X W .Gt cGt := (show SCm X W .Gt _ from ⟨_, op_gt, simI0 rvB⟩).alt ⟨_, op_gt_str, simS0 rvB⟩
theorem scGe : SCm X W .GtE cGe := (show SCm X W .GtE _ from ⟨_, op_ge, simI0 rvB⟩).alt ⟨_, op_ge_str, simS0 rvB⟩
/-- is None -/
def isNon : EV → Bool
  | .non => true
  | _ => false
theorem isNon_sim {K : PySem.W.Frag} {ρ : Nat → Addr} {n : Nat} {H : Hp} {x : EV} {v : V} (r : RV K ρ n H x v) : decide (v = .non) = WS.isNon x := by
  cases x with
  | non => unfold RV at r; subst r; rfl
  | bl b => unfold RV at r; subst r; rfl
  | int i => unfold RV at r; subst r; rfl
  | str s => unfold RV at r; subst r; rfl
  | tup xs => unfold RV at r; obtain ⟨a, _, rfl, _⟩ := r; rfl
  | ref k => unfold RV at r; obtain ⟨_, rfl⟩ := r; rfl
  | adr a => unfold RV at r; subst r; rfl
  | ty t => unfold RV at r; subst r; rfl
  | sl xs => unfold RV at r; obtain ⟨a, rfl, _⟩ := r; rfl
def twoB : EV → EV → Option (Bool × Bool)
  | .bl i, .bl j => some (i, j)
  | _, _ => none
def cIs : EV → EV → Mem → Res EV := fun x y M => match y with
  | .non => .ok (.bl (WS.isNon x)) M
  | .bl b => (match x with | .bl a => .ok (.bl (decide (a = b))) M | _ => .bad)
  | _ => .bad
def cIsNot : EV → EV → Mem → Res EV := fun x y M => match y with
  | .non => .ok (.bl (!WS.isNon x)) M
  | .bl b => (match x with | .bl a => .ok (.bl (!decide (a = b))) M | _ => .bad)
  | _ => .bad
theorem scIs : SCm X W .Is cIs := ⟨_, op_isN.or op_isBl, fun σ ρ M H x y x' y' Q rp rx ry h => by
  cases y with
  | non =>
    unfold RV at ry
    exact .inl ⟨ry, by rw [isNon_sim rx]; exact okB h rp⟩
  | bl b =>
    cases x with
    | bl a =>
      unfold RV at rx ry
      exact .inr ⟨a, b, rx, ry, okB h rp⟩
    | _ => exact h.elim
  | _ => exact h.elim⟩
theorem scIsNot : SCm X W .IsNot cIsNot := ⟨_, op_notN.or op_notBl, fun σ ρ M H x y x' y' Q rp rx ry h => by
  cases y with
  | non =>
    unfold RV at ry
    exact .inl ⟨ry, by rw [isNon_sim rx]; exact okB h rp⟩
  | bl b =>
    cases x with
    | bl a =>
      unfold RV at rx ry
      exact .inr ⟨a, b, rx, ry, okB h rp⟩
    | _ => exact h.elim
  | _ => exact h.elim⟩
end

/-! ### data: == -/
mutual
/-- the value as plain data, lists read in the memory, to a depth -/
def toD (n : Nat) (M : Mem) (v : EV) : Option PyData := match n, v with
  | _, .non => some .none
  | _, .bl b => some (.bool b)
  | _, .int i => some (.int i)
  | _, .str x => some (.str x)
  | n + 1, .tup xs => (toDs n M xs).map .tuple
  | n + 1, .ref k => match M[k]? with
    | some (.lst xs) => (toDs n M xs).map .list
    | _ => none
  | _, _ => none
def toDs (n : Nat) (M : Mem) (vs : List EV) : Option (List PyData) := match vs with
  | [] => some []
  | v :: r => match toD n M v, toDs n M r with
    | some d, some ds => some (d :: ds)
    | _, _ => none
end
theorem toDs_map (n : Nat) (M : Mem) (h : ∀ v d, toD n M v = some d → ∀ (G : Gr) (ρ : Nat → Addr) (H : Hp) (u : V), RP G ρ M H → RV G.K ρ M.length H v u → Dp G.K H u d) :
    ∀ (vs : List EV) (ds : List PyData), toDs n M vs = some ds → ∀ (G : Gr) (ρ : Nat → Addr) (H : Hp) (us : List V), RP G ρ M H → RVs G.K ρ M.length H vs us → DpAll G.K H us ds
  | [], ds, e, G, ρ, H, us, rp, r => by
    unfold toDs at e
    cases e
    unfold RVs at r
    subst r
    exact .nil
  | v :: vs, ds, e, G, ρ, H, us, rp, r => by
    unfold toDs at e
    unfold RVs at r
    obtain ⟨u, s, rfl, r1, r2⟩ := r
    cases q1 : toD n M v with
    | none => rw [q1] at e; cases e
    | some d =>
      cases q2 : toDs n M vs with
      | none => rw [q1, q2] at e; cases e
      | some ds' =>
        rw [q1, q2] at e
        cases e
        exact .cons (h v d q1 G ρ H u rp r1) (toDs_map n M h vs ds' q2 G ρ H s rp r2)
theorem toD_sim (M : Mem) : ∀ (n : Nat) (v : EV) (d : PyData), toD n M v = some d → ∀ (G : Gr) (ρ : Nat → Addr) (H : Hp) (u : V), RP G ρ M H → RV G.K ρ M.length H v u → Dp G.K H u d := by
  intro n
  induction n with
  | zero =>
    intro v d e G ρ H u rp r
    cases v with
    | non => unfold toD at e; cases e; unfold RV at r; subst r; exact .non
    | bl b => unfold toD at e; cases e; unfold RV at r; subst r; exact .bl b
    | int i => unfold toD at e; cases e; unfold RV at r; subst r; exact .int i
    | str x => unfold toD at e; cases e; unfold RV at r; subst r; exact .str x
    | _ => unfold toD at e; cases e
  | succ n ih =>
    intro v d e G ρ H u rp r
    cases v with
    | non => unfold toD at e; cases e; unfold RV at r; subst r; exact .non
    | bl b => unfold toD at e; cases e; unfold RV at r; subst r; exact .bl b
    | int i => unfold toD at e; cases e; unfold RV at r; subst r; exact .int i
    | str x => unfold toD at e; cases e; unfold RV at r; subst r; exact .str x
    | tup xs =>
      unfold toD at e
      unfold RV at r
      obtain ⟨a, vs, rfl, h1, h2⟩ := r
      cases q : toDs n M xs with
      | none => rw [q] at e; cases e
      | some ds => rw [q] at e; cases e; exact .tup (.of h1) (toDs_map n M ih xs ds q G ρ H vs rp h2)
    | ref k =>
      unfold toD at e
      unfold RV at r
      obtain ⟨_, rfl⟩ := r
      cases q0 : M[k]? with
      | none => rw [q0] at e; cases e
      | some o =>
        rw [q0] at e
        cases o with
        | lst xs =>
          dsimp only at e
          obtain ⟨vs, h1, h2⟩ := rp.obj k _ q0
          cases q : toDs n M xs with
          | none => rw [q] at e; cases e
          | some ds => rw [q] at e; cases e; exact .lst (.of h1) (toDs_map n M ih xs ds q G ρ H vs rp h2)
        | _ => cases e
    | _ => unfold toD at e; cases e
/-- data within the depth that == goes to -/
abbrev dat (M : Mem) (v : EV) : Option PyData := toD 60 M v
def cEqD (neg : Bool) : EV → EV → Mem → Res EV := fun x y M => match dat M x, dat M y with
  | some d, some e => if SeqAt.shaped d = true ∧ SeqAt.shaped e = true then .ok (.bl (if neg = true then !PyData.eqv d e else PyData.eqv d e)) M else .bad
  | _, _ => .bad
section
variable {X : Cx} {W : WX} {k : Nat}
theorem hu64 (hr : Room k X.A) : X.A.units + 64 < cLine := hr.units
theorem scEqD (hr : Room k X.A) : SCm X W .Eq (cEqD false) := ⟨_, op_eqD (hu64 hr), fun σ ρ M H x y x' y' Q rp rx ry h => by
  unfold cEqD at h
  cases q1 : dat M x with
  | none => rw [q1] at h; exact h.elim
  | some d =>
    cases q2 : dat M y with
    | none => rw [q1, q2] at h; exact h.elim
    | some e =>
      rw [q1, q2] at h
      dsimp only at h
      by_cases c : SeqAt.shaped d = true ∧ SeqAt.shaped e = true
      · rw [if_pos c] at h
        exact ⟨d, e, toD_sim M 60 x d q1 _ ρ H x' rp rx, toD_sim M 60 y e q2 _ ρ H y' rp ry, c.1, c.2, okB h rp⟩
      · rw [if_neg c] at h
        exact h.elim⟩
theorem scNeD (hr : Room k X.A) : SCm X W .NotEq (cEqD true) := ⟨_, op_neD (hu64 hr), fun σ ρ M H x y x' y' Q rp rx ry h => by
  unfold cEqD at h
  cases q1 : dat M x with
  | none => rw [q1] at h; exact h.elim
  | some d =>
    cases q2 : dat M y with
    | none => rw [q1, q2] at h; exact h.elim
    | some e =>
      rw [q1, q2] at h
      dsimp only at h
      by_cases c : SeqAt.shaped d = true ∧ SeqAt.shaped e = true
      · rw [if_pos c] at h
        exact ⟨d, e, toD_sim M 60 x d q1 _ ρ H x' rp rx, toD_sim M 60 y e q2 _ ρ H y' rp ry, c.1, c.2, okB h rp⟩
      · rw [if_neg c] at h
        exact h.elim⟩
/-! in: a text in a text; a thing in a list of data -/
def cInS (neg : Bool) : EV → EV → Mem → Res EV := opS0 fun i j => .bl (if neg = true then !(!(Builtin.Str.occurrences j i 0 j.length 1).isEmpty) else !(Builtin.Str.occurrences j i 0 j.length 1).isEmpty)
def cInD (neg : Bool) : EV → EV → Mem → Res EV := fun x y M => match dat M x, dat M y with
  | some d, some (.list ds) => if SeqAt.shaped d = true ∧ SeqAt.shaped (.list ds) = true then .ok (.bl (if neg = true then !(ds.any fun z => PyData.eqv z d) else ds.any fun z => PyData.eqv z d)) M else .bad
  | _, _ => .bad
theorem scInS : SCm X W .In (cInS false) := ⟨_, op_in_str, simS0 fun _ _ _ _ _ _ => by unfold RV; rfl⟩
theorem scNotInS : SCm X W .NotIn (cInS true) := ⟨_, op_notIn_str, simS0 fun _ _ _ _ _ _ => by unfold RV; rfl⟩
theorem inD_sim (neg : Bool) {σ : L2.St} {G : Gr} {ρ : Nat → Addr} {M : Mem} {H : Hp} {x y : EV} {x' y' : V} {Q : VK} (rp : RP G ρ M H) (rx : RV G.K ρ M.length H x x') (ry : RV G.K ρ M.length H y y') (h : PostE G W σ ρ M H (cInD neg x y M) Q) :
    ∃ d ds, Dp G.K H x' d ∧ Dp G.K H y' (.list ds) ∧ SeqAt.shaped d = true ∧ SeqAt.shaped (.list ds) = true ∧ Q (.bl (if neg = true then !(ds.any fun z => PyData.eqv z d) else ds.any fun z => PyData.eqv z d)) H := by
  unfold cInD at h
  cases q1 : dat M x with
  | none => rw [q1] at h; exact h.elim
  | some d =>
    cases q2 : dat M y with
    | none => rw [q1, q2] at h; exact h.elim
    | some e =>
      rw [q1, q2] at h
      cases e with
      | list ds =>
        dsimp only at h
        by_cases c : SeqAt.shaped d = true ∧ SeqAt.shaped (.list ds) = true
        · rw [if_pos c] at h
          exact ⟨d, ds, toD_sim M 60 x d q1 _ ρ H x' rp rx, toD_sim M 60 y _ q2 _ ρ H y' rp ry, c.1, c.2, okB h rp⟩
        · rw [if_neg c] at h
          exact h.elim
      | _ => exact h.elim
theorem scInD (hu : X.A.units + 65 < cLine) : SCm X W .In (cInD false) := ⟨_, op_inD hu, fun σ ρ M H x y x' y' Q rp rx ry h => inD_sim false rp rx ry h⟩
theorem scNotInD (hu : X.A.units + 65 < cLine) : SCm X W .NotIn (cInD true) := ⟨_, op_notInD hu, fun σ ρ M H x y x' y' Q rp rx ry h => inD_sim true rp rx ry h⟩
end

/-! ### items -/
def ixE (n : Nat) (i : Int) : Option Nat := L2.ixN n i
def getItm : EV → EV → Mem → Res EV := fun x y M => match y with
  | .int i => (match getS M x with
    | some xs => (match ixE xs.length i with
      | some j => (match xs[j]? with
        | some v => .ok v M
        | none => .bad)
      | none => .bad)
    | none => (match x with
      | .str z => if z.length ≤ sizeLine then (match L2.atI z.cps.toList i with
        | some c => .ok (.str ⟨#[c]⟩) M
        | none => .bad) else .bad
      | _ => .bad))
  | _ => .bad
section
variable {X : Cx} {W : WX} {a b : Expr} {f g : FE} {pos p2 : Pos}
theorem sIx (ha : SE X W a f) (hb : SE X W b g) (hs : PlainIx b := by intro _ _; rfl) : SE X W (.Subscript a b pos) (e2 getItm f g) := by
  obtain ⟨ta, a1, a2⟩ := ha
  obtain ⟨tb, b1, b2⟩ := hb
  refine ⟨_, pe_ix ix_seq a1 b1 hs, sim2 a2 b2 fun σ ρ M H x y x' y' Q rp rx ry h => ?_⟩
  unfold getItm at h
  cases y with
  | int i =>
    dsimp only at h
    unfold RV at ry
    cases q : getS M x with
    | some xs =>
      rw [q] at h
      dsimp only at h
      obtain ⟨p, vs, e1, sq, r⟩ := getS_sim rp rx q
      cases q2 : ixE xs.length i with
      | none => rw [q2] at h; exact h.elim
      | some j =>
        rw [q2] at h
        dsimp only at h
        cases q3 : xs[j]? with
        | none => rw [q3] at h; exact h.elim
        | some v =>
          rw [q3] at h
          obtain ⟨u, g1, g2⟩ := r.get q3
          have at1 : L2.atI vs i = some u := by
            unfold L2.atI
            rw [r.length]
            rw [show L2.ixN xs.length i = some j from q2]
            exact g1
          rcases sq with sq | sq
          · exact .inl ⟨p, vs, i, u, e1, ry, sq, at1, okE h rp g2⟩
          · exact .inr (.inl ⟨p, vs, i, u, e1, ry, sq, at1, okE h rp g2⟩)
    | none =>
      rw [q] at h
      dsimp only at h
      cases x with
      | str z =>
        dsimp only at h
        unfold RV at rx
        by_cases c : z.length ≤ sizeLine
        · rw [if_pos c] at h
          cases q2 : L2.atI z.cps.toList i with
          | none => rw [q2] at h; exact h.elim
          | some cc => rw [q2] at h; exact .inr (.inr ⟨z, i, cc, rx, ry, c, q2, okS h rp⟩)
        · rw [if_neg c] at h; exact h.elim
      | _ => exact h.elim
  | _ => exact h.elim
/-! slices -/
structure SO (X : Cx) (W : WX) (e : Option Expr) (f : StE → Mem → Res (Option Int)) : Prop where
  ex : ∃ t, PO X e t ∧ ∀ ρ σe σ M H Q, RSt X.K ρ M.length H σe σ → RP (gr X) ρ M H → PostR (fun _ _ _ _ a b => b = a) (gr X) W σ ρ M H (f σe M) Q → t σ H Q
def oNone : StE → Mem → Res (Option Int) := fun _ M => .ok none M
def oSome (f : FE) : StE → Mem → Res (Option Int) := fun σ M => (f σ M).bind fun v M1 => match v with
  | .int i => .ok (some i) M1
  | _ => .bad
theorem soNone : SO X W none oNone := ⟨_, po_none, fun ρ σe σ M H Q rs rp h => PostR.ok0 (R := fun _ _ _ _ a b => b = a) h rp rfl⟩
theorem soSome {e : Expr} (he : SE X W e f) : SO X W (some e) (oSome f) := by
  obtain ⟨t, h1, h2⟩ := he
  refine ⟨_, po_some h1, fun ρ σe σ M H Q rs rp h => ?_⟩
  refine h2 ρ σe σ M H _ rs rp (PostR.bind h fun v M1 ρ1 H1 v1 _ a rp1 r h1 => ?_)
  cases v with
  | int i => unfold RV at r; exact ⟨i, r, PostR.ok0 (R := fun _ _ _ _ a b => b = a) h1 rp1 rfl⟩
  | _ => exact h1.elim
def cutE (xs : List EV) (lo hi : Option Int) : List EV := (xs.drop (HT.sIx xs.length 0 lo)).take (HT.sIx xs.length xs.length hi - HT.sIx xs.length 0 lo)
def slcV (x : EV) (lo hi : Option Int) (M : Mem) : Res EV := match x with
  | .tup xs => newT (cutE xs lo hi) M
  | .str z => if z.length ≤ sizeLine then .ok (.str (L2.cutS z lo hi)) M else .bad
  | x => match getL M x with
    | some xs => newL (cutE xs lo hi) M
    | none => .bad
def eSlc (f : FE) (l u : StE → Mem → Res (Option Int)) : FE := fun σ M => (f σ M).bind fun v M1 => (l σ M1).bind fun lo M2 => (u σ M2).bind fun hi M3 => slcV v lo hi M3
theorem sSlc {e : Expr} {lo hi : Option Expr} {fl fh : StE → Mem → Res (Option Int)} (he : SE X W e f) (hl : SO X W lo fl) (hh : SO X W hi fh) : SE X W (.Subscript e (.Slice lo hi none p2) pos) (eSlc f fl fh) := by
  obtain ⟨t, h1, h2⟩ := he
  obtain ⟨tl, l1, l2⟩ := hl
  obtain ⟨th, u1, u2⟩ := hh
  refine ⟨_, pe_slice (sl_list.or (sl_tupA.or sl_str)) h1 l1 u1, fun ρ σe σ M H Q rs rp h => ?_⟩
  refine h2 ρ σe σ M H _ rs rp (PostR.bind h fun v M1 ρ1 H1 v1 _ a1 rp1 r1 k1 => ?_)
  refine l2 ρ1 σe σ M1 H1 _ (rs.carry (a1.carry rp)) rp1 (PostR.bind (R := fun _ _ _ _ a b => b = a) k1 fun lo' M2 ρ2 H2 lo2 _ a2 rp2 r2 k2 => ?_)
  refine u2 ρ2 σe σ M2 H2 _ ((rs.carry (a1.carry rp)).carry (a2.carry rp1)) rp2 (PostR.bind (R := fun _ _ _ _ a b => b = a) k2 fun hi' M3 ρ3 H3 hi2 _ a3 rp3 r3 k3 => ?_)
  subst r2 r3
  have r := (r1.carry (a2.carry rp1)).carry (a3.carry rp2)
  have cutR : ∀ {xs : List EV} {vs : List V}, RVs X.K ρ3 M3.length H3 xs vs → RVs X.K ρ3 M3.length H3 (cutE xs lo2 hi2) (cutV vs lo2 hi2) := fun {xs vs} q => by
    unfold cutE cutV
    rw [q.length]
    exact (q.drop _).take _
  have lists : ∀ (xs : List EV), getL M3 v = some xs → PostE (gr X) W σ ρ3 M3 H3 (newL (cutE xs lo2 hi2) M3) Q → ∃ a xs, v1 = .ref a ∧ SqL X.K H3 a xs ∧ ∀ p, H3 p = none → Q (.ref p) (upd H3 p (.lst (cutV xs lo2 hi2))) := fun xs e k => by
    obtain ⟨a, vs, e1, sq, rr⟩ := getL_sim rp3 r e
    obtain ⟨_, al⟩ := newL_sim rp3 (cutR rr) k
    exact ⟨a, vs, e1, sq, al⟩
  unfold slcV at k3
  cases v with
  | tup xs =>
    unfold RV at r
    obtain ⟨a, vs, e1, sq, rr⟩ := r
    have k0 : PostE (gr X) W σ ρ3 M3 H3 (newT (cutE xs lo2 hi2) M3) Q := k3
    obtain ⟨lz, al⟩ := newT_sim rp3 (cutR rr) k0
    refine .inr (.inl ⟨a, vs, e1, .of sq, fun z => ?_, fun _ => al⟩)
    have e2 : cutE xs lo2 hi2 = xs := by
      unfold cutE
      rw [← rr.length, z.1, z.2, List.drop_zero, Nat.sub_zero, rr.length, List.take_length]
    rw [e2] at k0
    unfold newT at k0
    have l2 : xs.length ≤ sizeLine := by
      have := (cutR rr).length
      rw [e2] at this
      omega
    rw [if_pos l2] at k0
    exact okE k0 rp3 (by unfold RV; exact ⟨a, vs, rfl, sq, rr⟩)
  | str z =>
    unfold RV at r
    dsimp only at k3
    by_cases c : z.length ≤ sizeLine
    · rw [if_pos c] at k3
      exact .inr (.inr ⟨z, r, c, okS k3 rp3⟩)
    · rw [if_neg c] at k3
      exact k3.elim
  | ref j =>
    dsimp only at k3
    cases q : getL M3 (.ref j) with
    | none => rw [q] at k3; exact k3.elim
    | some xs => rw [q] at k3; exact .inl (lists xs q k3)
  | sl ys =>
    dsimp only at k3
    cases q : getL M3 (.sl ys) with
    | none => rw [q] at k3; exact k3.elim
    | some xs => rw [q] at k3; exact .inl (lists xs q k3)
  | _ => exact k3.elim
/-- xs[::-1] of a list -/
def revV (x : EV) (M : Mem) : Res EV := match getL M x with
  | some xs => newL xs.reverse M
  | none => .bad
theorem sRev {e : Expr} {k : Nat} {p1 p3 p4 : Pos} (he : SE X W e f) : SE X W (.Subscript e (.Slice none none (some (.UnaryOp .USub (.Constant (.int 1) k p1) p4)) p3) pos) (e1 revV f) := by
  obtain ⟨t, h1, h2⟩ := he
  refine ⟨_, pe_revL h1, fun ρ σe σ M H Q rs rp h => ?_⟩
  refine h2 ρ σe σ M H _ rs rp (PostR.bind h fun v M1 ρ1 H1 v1 _ a1 rp1 r1 k1 => ?_)
  unfold revV at k1
  cases q : getL M1 v with
  | none => rw [q] at k1; exact k1.elim
  | some xs =>
    rw [q] at k1
    obtain ⟨a, vs, e1, sq, rr⟩ := getL_sim rp1 r1 q
    obtain ⟨_, al⟩ := newL_sim rp1 rr.rev k1
    exact ⟨a, vs, e1, sq, al⟩
/-! xs[i] = v, of a list -/
def sSub (f : FE) (go gi : FE) : FS := fun σ M => (f σ M).thenS σ fun v M1 => (go σ M1).thenS σ fun o M2 => (gi σ M2).thenS σ fun i M3 => match isRefL M3 o, i with
  | some (k, xs), .int i => (match ixE xs.length i with
    | some j => .nx σ (M3.set k (.lst (xs.set j v)))
    | none => .bad)
  | _, _ => .bad
theorem ssSub {o i e : Expr} {fo fi fe : FE} {p2 pos : Pos} (he : SE X W e fe) (ho : SE X W o fo) (hi : SE X W i fi)
    (ha : ∀ v, assign (.Subscript o i p2) X.env v = (do
      let ov ← holding [v] (eval o X.env)
      let iv ← holding [v, ov] (eval i X.env)
      standAt p2
      holding [v, ov, iv] (setItem ov iv v)
      release [v, ov, iv] []) := by intro _; rfl)
    (hs : swapsWithSole [.Subscript o i p2] e pos.line X.env = pure false := by rfl) (hw : swappedStores [.Subscript o i p2] e X.env = pure none := by rfl)
    (h1 : (assignEach [.Subscript o i p2] X.env).map (·.2) = [assign (.Subscript o i p2) X.env] := by rfl) : SS X W (.Assign [.Subscript o i p2] e pos) (sSub fe fo fi) := by
  obtain ⟨te, e1, e2⟩ := he
  obtain ⟨to, o1, o2⟩ := ho
  obtain ⟨ti, i1, i2⟩ := hi
  refine ⟨_, ps_asg e1 (pg_sub o1 i1 set_list ha) hs hw h1, fun ρ σe σ M H D rs rp h => ?_⟩
  refine e2 ρ σe σ M H _ rs rp (PostS.bindR rs rp h fun v M1 ρ1 H1 v1 _ a1 rp1 r1 k1 => ?_)
  have rs1 := rs.carry (a1.carry rp)
  refine o2 ρ1 σe σ M1 H1 _ rs1 rp1 (PostS.bindR rs1 rp1 k1 fun ov M2 ρ2 H2 ov2 _ a2 rp2 r2 k2 => ?_)
  have rs2 := rs1.carry (a2.carry rp1)
  refine i2 ρ2 σe σ M2 H2 _ rs2 rp2 (PostS.bindR rs2 rp2 k2 fun iv M3 ρ3 H3 iv3 _ a3 rp3 r3 k3 => ?_)
  cases q : isRefL M3 ov with
  | none => rw [q] at k3; exact k3.elim
  | some kx =>
    obtain ⟨k, xs⟩ := kx
    rw [q] at k3
    cases iv with
    | int ii =>
      dsimp only at k3
      obtain ⟨_, hk, hM, vs, e1, hl, rr⟩ := isRefL_sim rp3 (r2.carry (a3.carry rp2)) q
      cases qj : ixE xs.length ii with
      | none => rw [qj] at k3; exact k3.elim
      | some j =>
        rw [qj] at k3
        unfold RV at r3
        refine ⟨ρ3 k, vs, ii, j, e1, r3, hl, by rw [rr.length]; exact qj, ?_⟩
        have rv := (r1.carry (a2.carry rp1)).carry (a3.carry rp2)
        obtain ⟨af, rpw⟩ := write rp3 hk (fun l z => by rw [hM] at z; cases z) (.lst (vs.set j v1)) (.lst (xs.set j v)) fun c => ⟨_, upd_same, RVs.set (rv.carry c) j (rr.carry c)⟩
        exact k3 ρ3 _ σ af rpw ((rs2.carry (a3.carry rp2)).carry (af.carry rp3))
    | _ => exact k3.elim
end
end WS

set_option Elab.async false
set_option linter.all false
set_option maxRecDepth 100000
/-! The simulation: built-ins by name, methods of lists, isinstance, texts walked. -/
namespace WS
open PySem PySem.Spec PyProof.Rows L2
open Classical
/-- a built-in by its values -/
def CS (G : Gr) (W : WX) (r : List V → Hp → VK → Prop) (F : Fn) : Prop :=
  ∀ (σ : L2.St) ρ M H xs vs Q, RP G ρ M H → RVs G.K ρ M.length H xs vs → PostE G W σ ρ M H (F xs M) Q → r vs H Q
structure SB (X : Cx) (W : WX) (f : Value) (F : Fn) : Prop where
  ex : ∃ r, CallR X f r ∧ CS (gr X) W r F
def altF (F F' : Fn) : Fn := fun xs M => match F xs M with
  | .bad => F' xs M
  | r => r
def eB (F : Fn) (g : FA) : FE := fun σ M => (g σ M).bind F
section
variable {X : Cx} {W : WX} {f : Value} {x : Str} {p pos : Pos} {e : Expr} {es : List Expr} {fa : FA} {F F' : Fn}
theorem SB.alt (a : SB X W f F) (b : SB X W f F') : SB X W f (altF F F') := by
  obtain ⟨r, a1, a2⟩ := a
  obtain ⟨r', b1, b2⟩ := b
  refine ⟨_, a1.or b1, fun σ ρ M H xs vs Q rp rv h => ?_⟩
  unfold altF at h
  cases q : F xs M with
  | bad => rw [q] at h; exact .inr (b2 σ ρ M H xs vs Q rp rv h)
  | ok v M1 => rw [q] at h; exact .inl (a2 σ ρ M H xs vs Q rp rv (by rw [q]; exact h))
  | err y M1 => rw [q] at h; exact .inl (a2 σ ρ M H xs vs Q rp rv (by rw [q]; exact h))
theorem sCB {id : String} (hc : SB X W (.builtin id) F) (ha : SA X W (e :: es) fa) (hm : X.mg x = none) (hv : bootBuiltins x = some (.builtin id)) (hg : Gl X x := by rfl) (hn : x ≠ "__name__" := by decide) (hdb : (x == ("__debug__" : Str)) = false := by decide)
    (he : starEach (e :: es) X.env = (false, eval e X.env) :: starEach es X.env := by rfl) (hpl : (backTo pos (starEach es X.env)).any (·.1) = false := by rfl) : SE X W (.Call (.Name x p) (e :: es) [] pos) (eB F fa) := by
  obtain ⟨r, c1, c2⟩ := hc
  obtain ⟨t, h1, h2⟩ := ha
  refine ⟨_, pe_callB c1 hg hm hv h1 hn hdb he hpl, fun ρ σe σ M H Q rs rp h => ?_⟩
  exact h2 ρ σe σ M H _ rs rp (PostR.bind (R := fun K ρ n H => RVs K ρ n H) h fun v M1 ρ1 H1 v1 _ a rp1 r h1 => c2 σ ρ1 M1 H1 v v1 Q rp1 r h1)
theorem sCT {T : String} (hc : SB X W (.type T) F) (ha : SA X W (e :: es) fa) (hm : X.mg x = none) (hv : bootBuiltins x = some (.type T)) (hg : Gl X x := by rfl) (hn : x ≠ "__name__" := by decide) (hdb : (x == ("__debug__" : Str)) = false := by decide)
    (he : starEach (e :: es) X.env = (false, eval e X.env) :: starEach es X.env := by rfl) (hpl : (backTo pos (starEach es X.env)).any (·.1) = false := by rfl) : SE X W (.Call (.Name x p) (e :: es) [] pos) (eB F fa) := by
  obtain ⟨r, c1, c2⟩ := hc
  obtain ⟨t, h1, h2⟩ := ha
  refine ⟨_, pe_callTy c1 hg hm hv h1 hn hdb he hpl, fun ρ σe σ M H Q rs rp h => ?_⟩
  exact h2 ρ σe σ M H _ rs rp (PostR.bind (R := fun K ρ n H => RVs K ρ n H) h fun v M1 ρ1 H1 v1 _ a rp1 r h1 => c2 σ ρ1 M1 H1 v v1 Q rp1 r h1)

/-! by one value -/
def f1 (F : EV → Mem → Res EV) : Fn := fun xs M => match xs with
  | [x] => F x M
  | _ => .bad
theorem cs1 {G : Gr} {r : List V → Hp → VK → Prop} {F : EV → Mem → Res EV} (h : ∀ (σ : L2.St) ρ M H x v Q, RP G ρ M H → RV G.K ρ M.length H x v → PostE G W σ ρ M H (F x M) Q → r [v] H Q) : CS G W r (f1 F) := by
  intro σ ρ M H xs vs Q rp rv k
  match xs, rv, k with
  | [], _, k => exact k.elim
  | _ :: _ :: _, _, k => exact k.elim
  | [x], rv, k =>
    unfold RVs RVs at rv
    obtain ⟨v, s, rfl, r1, rfl⟩ := rv
    exact h σ ρ M H x v Q rp r1 k
def f2 (F : EV → EV → Mem → Res EV) : Fn := fun xs M => match xs with
  | [x, y] => F x y M
  | _ => .bad
theorem cs2 {G : Gr} {r : List V → Hp → VK → Prop} {F : EV → EV → Mem → Res EV} (h : ∀ (σ : L2.St) ρ M H x v y u Q, RP G ρ M H → RV G.K ρ M.length H x v → RV G.K ρ M.length H y u → PostE G W σ ρ M H (F x y M) Q → r [v, u] H Q) : CS G W r (f2 F) := by
  intro σ ρ M H xs vs Q rp rv k
  match xs, rv, k with
  | [], _, k => exact k.elim
  | [_], _, k => exact k.elim
  | _ :: _ :: _ :: _, _, k => exact k.elim
  | [x, y], rv, k =>
    unfold RVs RVs RVs at rv
    obtain ⟨v, s, rfl, r1, u, s2, rfl, r2, rfl⟩ := rv
    exact h σ ρ M H x v y u Q rp r1 r2 k
/-! len -/
def lenV (x : EV) (M : Mem) : Res EV := match x with
  | .str z => if z.length ≤ sizeLine then .ok (.int z.length) M else .bad
  | x => match getS M x with
    | some xs => .ok (.int xs.length) M
    | none => .bad
theorem sbLen : SB X W (.builtin "len") (f1 lenV) := ⟨_, call_len_str.or call_len_seq, cs1 fun σ ρ M H x v Q rp r h => by
  have seq : ∀ xs, getS M x = some xs → PostE (gr X) W σ ρ M H (.ok (.int xs.length) M) Q → ∃ p ys, [v] = [.ref p] ∧ (SqL X.K H p ys ∨ SqT X.K H p ys) ∧ Q (.int ys.length) H := fun xs e k => by
    obtain ⟨a, vs, e1, sq, rr⟩ := getS_sim rp r e
    exact ⟨a, vs, by rw [e1], sq, by rw [rr.length]; exact okI k rp⟩
  unfold lenV at h
  cases x with
  | str z =>
    dsimp only at h
    unfold RV at r
    by_cases c : z.length ≤ sizeLine
    · rw [if_pos c] at h
      exact .inl ⟨z, by rw [r], c, okI h rp⟩
    · rw [if_neg c] at h
      exact h.elim
  | _ =>
    dsimp only at h
    split at h
    · rename_i xs e
      exact .inr (seq _ e h)
    · exact h.elim⟩
/-! list(x), tuple(x) of lists and tuples -/
def listV (x : EV) (M : Mem) : Res EV := match getS M x with
  | some xs => newL xs M
  | none => .bad
theorem sbList : SB X W (.type "list") (f1 listV) := ⟨_, call_list_of, cs1 fun σ ρ M H x v Q rp r h => by
  unfold listV at h
  cases q : getS M x with
  | none => rw [q] at h; exact h.elim
  | some xs =>
    rw [q] at h
    obtain ⟨a, vs, e1, sq, rr⟩ := getS_sim rp r q
    exact ⟨a, vs, by rw [e1], sq, (newL_sim rp rr h).2⟩⟩
def tupV (x : EV) (M : Mem) : Res EV := match x with
  | .tup xs => .ok (.tup xs) M
  | x => match getL M x with
    | some xs => newT xs M
    | none => .bad
theorem sbTup : SB X W (.type "tuple") (f1 tupV) := ⟨_, call_tuple_of, cs1 fun σ ρ M H x v Q rp r h => by
  unfold tupV at h
  have lst : ∀ xs, getL M x = some xs → PostE (gr X) W σ ρ M H (newT xs M) Q → ∃ p ys, [v] = [.ref p] ∧ ((SqL X.K H p ys ∧ ∀ l, H l = none → Q (.ref l) (upd H l (.tup ys))) ∨ (SqT X.K H p ys ∧ Q (.ref p) H)) := fun xs e k => by
    obtain ⟨a, vs, e1, sq, rr⟩ := getL_sim rp r e
    exact ⟨a, vs, by rw [e1], .inl ⟨sq, (newT_sim rp rr k).2⟩⟩
  cases x with
  | tup xs =>
    dsimp only at h
    have r0 := r
    unfold RV at r
    obtain ⟨a, vs, e1, sq, rr⟩ := r
    subst e1
    exact ⟨a, vs, rfl, .inr ⟨.of sq, okE h rp r0⟩⟩
  | _ =>
    dsimp only at h
    split at h
    · rename_i xs e
      exact lst _ e h
    · exact h.elim⟩
/-! sums, least, greatest, all, any -/
def intsOf : List EV → Option (List Int)
  | [] => some []
  | .int i :: r => (intsOf r).map (i :: ·)
  | _ :: _ => none
theorem intsOf_eq : ∀ {xs : List EV} {l : List Int}, intsOf xs = some l → xs = l.map .int
  | [], _, e => by cases e; rfl
  | .int i :: r, l, e => by
    unfold intsOf at e
    cases q : intsOf r with
    | none => rw [q] at e; cases e
    | some m => rw [q] at e; cases e; rw [intsOf_eq q]; rfl
  | .non :: _, _, e => by cases e
  | .bl _ :: _, _, e => by cases e
  | .str _ :: _, _, e => by cases e
  | .tup _ :: _, _, e => by cases e
  | .ref _ :: _, _, e => by cases e
  | .adr _ :: _, _, e => by cases e
  | .ty _ :: _, _, e => by cases e
  | .sl _ :: _, _, e => by cases e
theorem intsOf_map (l : List Int) : intsOf (l.map .int) = some l := by
  induction l with
  | nil => rfl
  | cons i l ih => rw [List.map_cons]; unfold intsOf; rw [ih]; rfl
def strsOf : List EV → Option (List Str)
  | [] => some []
  | .str i :: r => (strsOf r).map (i :: ·)
  | _ :: _ => none
theorem strsOf_eq : ∀ {xs : List EV} {l : List Str}, strsOf xs = some l → xs = l.map .str
  | [], _, e => by cases e; rfl
  | .str i :: r, l, e => by
    unfold strsOf at e
    cases q : strsOf r with
    | none => rw [q] at e; cases e
    | some m => rw [q] at e; cases e; rw [strsOf_eq q]; rfl
  | .non :: _, _, e => by cases e
  | .bl _ :: _, _, e => by cases e
  | .int _ :: _, _, e => by cases e
  | .tup _ :: _, _, e => by cases e
  | .ref _ :: _, _, e => by cases e
  | .adr _ :: _, _, e => by cases e
  | .ty _ :: _, _, e => by cases e
  | .sl _ :: _, _, e => by cases e
theorem strsOf_map (l : List Str) : strsOf (l.map .str) = some l := by
  induction l with
  | nil => rfl
  | cons i l ih => rw [List.map_cons]; unfold strsOf; rw [ih]; rfl
def blsOf : List EV → Option (List Bool)
  | [] => some []
  | .bl i :: r => (blsOf r).map (i :: ·)
  | _ :: _ => none
theorem blsOf_eq : ∀ {xs : List EV} {l : List Bool}, blsOf xs = some l → xs = l.map .bl
  | [], _, e => by cases e; rfl
  | .bl i :: r, l, e => by
    unfold blsOf at e
    cases q : blsOf r with
    | none => rw [q] at e; cases e
    | some m => rw [q] at e; cases e; rw [blsOf_eq q]; rfl
  | .non :: _, _, e => by cases e
  | .str _ :: _, _, e => by cases e
  | .int _ :: _, _, e => by cases e
  | .tup _ :: _, _, e => by cases e
  | .ref _ :: _, _, e => by cases e
  | .adr _ :: _, _, e => by cases e
  | .ty _ :: _, _, e => by cases e
  | .sl _ :: _, _, e => by cases e
theorem blsOf_map (l : List Bool) : blsOf (l.map .bl) = some l := by
  induction l with
  | nil => rfl
  | cons i l ih => rw [List.map_cons]; unfold blsOf; rw [ih]; rfl
theorem RVs.ints_eq {K : PySem.W.Frag} {ρ : Nat → Addr} {n : Nat} {H : Hp} : ∀ {l : List Int} {vs : List V}, RVs K ρ n H (l.map .int) vs → vs = l.map V.int
  | [], vs, r => by unfold List.map RVs at r; rw [r]; rfl
  | i :: l, vs, r => by
    rw [List.map_cons] at r
    unfold RVs RV at r
    obtain ⟨v, s, rfl, rfl, r2⟩ := r
    rw [RVs.ints_eq r2]; rfl
theorem RVs.strs_eq {K : PySem.W.Frag} {ρ : Nat → Addr} {n : Nat} {H : Hp} : ∀ {l : List Str} {vs : List V}, RVs K ρ n H (l.map .str) vs → vs = l.map V.str
  | [], vs, r => by unfold List.map RVs at r; rw [r]; rfl
  | i :: l, vs, r => by
    rw [List.map_cons] at r
    unfold RVs RV at r
    obtain ⟨v, s, rfl, rfl, r2⟩ := r
    rw [RVs.strs_eq r2]; rfl
theorem RVs.bls_eq {K : PySem.W.Frag} {ρ : Nat → Addr} {n : Nat} {H : Hp} : ∀ {l : List Bool} {vs : List V}, RVs K ρ n H (l.map .bl) vs → vs = l.map V.bl
  | [], vs, r => by unfold List.map RVs at r; rw [r]; rfl
  | i :: l, vs, r => by
    rw [List.map_cons] at r
    unfold RVs RV at r
    obtain ⟨v, s, rfl, rfl, r2⟩ := r
    rw [RVs.bls_eq r2]; rfl
/-- a function of a list of ints (bools) -/
def onInts (F : List Int → Option EV) (x : EV) (M : Mem) : Res EV := match (getL M x).bind intsOf with
  | some l => (match F l with
    | some v => .ok v M
    | none => .bad)
  | none => .bad
def onBls (F : List Bool → EV) (x : EV) (M : Mem) : Res EV := match (getL M x).bind blsOf with
  | some l => .ok (F l) M
  | none => .bad
theorem onInts_sim {G : Gr} {σ : L2.St} {ρ : Nat → Addr} {M : Mem} {H : Hp} {F : List Int → Option EV} {x : EV} {v : V} {Q : VK} (rp : RP G ρ M H) (r : RV G.K ρ M.length H x v) (h : PostE G W σ ρ M H (onInts F x M) Q) :
    ∃ a l w, v = .ref a ∧ SqL G.K H a (l.map V.int) ∧ F l = some w ∧ PostE G W σ ρ M H (.ok w M) Q := by
  unfold onInts at h
  cases q : getL M x with
  | none => rw [q] at h; exact h.elim
  | some xs =>
    rw [q] at h
    obtain ⟨a, vs, e1, sq, rr⟩ := getL_sim rp r q
    cases q2 : intsOf xs with
    | none => rw [show (some xs).bind intsOf = none from q2] at h; exact h.elim
    | some l =>
      rw [show (some xs).bind intsOf = some l from q2] at h
      dsimp only at h
      rw [intsOf_eq q2] at rr
      rw [rr.ints_eq] at sq
      cases q3 : F l with
      | none => rw [q3] at h; exact h.elim
      | some w => rw [q3] at h; exact ⟨a, l, w, e1, sq, q3, h⟩
theorem onBls_sim {G : Gr} {σ : L2.St} {ρ : Nat → Addr} {M : Mem} {H : Hp} {F : List Bool → EV} {x : EV} {v : V} {Q : VK} (rp : RP G ρ M H) (r : RV G.K ρ M.length H x v) (h : PostE G W σ ρ M H (onBls F x M) Q) :
    ∃ a l, v = .ref a ∧ SqL G.K H a (l.map V.bl) ∧ PostE G W σ ρ M H (.ok (F l) M) Q := by
  unfold onBls at h
  cases q : getL M x with
  | none => rw [q] at h; exact h.elim
  | some xs =>
    rw [q] at h
    obtain ⟨a, vs, e1, sq, rr⟩ := getL_sim rp r q
    cases q2 : blsOf xs with
    | none => rw [show (some xs).bind blsOf = none from q2] at h; exact h.elim
    | some l =>
      rw [show (some xs).bind blsOf = some l from q2] at h
      rw [blsOf_eq q2] at rr
      rw [rr.bls_eq] at sq
      exact ⟨a, l, e1, sq, h⟩
def greatest : List Int → Option Int
  | [] => none
  | i :: r => some (r.foldl max i)
def least : List Int → Option Int
  | [] => none
  | i :: r => some (r.foldl min i)
theorem foldl_max (l : List Int) : ∀ i : Int, i ≤ l.foldl max i ∧ (∀ y ∈ l, y ≤ l.foldl max i) ∧ (l.foldl max i = i ∨ l.foldl max i ∈ l) := by
  induction l with
  | nil => intro i; exact ⟨Int.le_refl _, by simp, .inl rfl⟩
  | cons j l ih =>
    intro i
    obtain ⟨h1, h2, h3⟩ := ih (max i j)
    rw [List.foldl_cons]
    refine ⟨by omega, fun y hy => ?_, ?_⟩
    · rcases List.mem_cons.mp hy with e | e
      · subst e; omega
      · exact h2 y e
    · rcases h3 with e | e
      · rw [e]
        by_cases q : i ≤ j
        · exact .inr (by rw [Int.max_eq_right q]; simp)
        · exact .inl (by omega)
      · exact .inr (List.mem_cons_of_mem _ e)
theorem foldl_min (l : List Int) : ∀ i : Int, l.foldl min i ≤ i ∧ (∀ y ∈ l, l.foldl min i ≤ y) ∧ (l.foldl min i = i ∨ l.foldl min i ∈ l) := by
  induction l with
  | nil => intro i; exact ⟨Int.le_refl _, by simp, .inl rfl⟩
  | cons j l ih =>
    intro i
    obtain ⟨h1, h2, h3⟩ := ih (min i j)
    rw [List.foldl_cons]
    refine ⟨by omega, fun y hy => ?_, ?_⟩
    · rcases List.mem_cons.mp hy with e | e
      · subst e; omega
      · exact h2 y e
    · rcases h3 with e | e
      · rw [e]
        by_cases q : i ≤ j
        · exact .inl (by omega)
        · exact .inr (by rw [Int.min_eq_right (by omega)]; simp)
      · exact .inr (List.mem_cons_of_mem _ e)
theorem greatest_is {l : List Int} {m : Int} (h : greatest l = some m) : m ∈ l ∧ ∀ y ∈ l, y ≤ m := by
  cases l with
  | nil => cases h
  | cons i r =>
    cases h
    obtain ⟨h1, h2, h3⟩ := foldl_max r i
    refine ⟨?_, fun y hy => ?_⟩
    · rcases h3 with e | e
      · rw [e]; simp
      · exact List.mem_cons_of_mem _ e
    · rcases List.mem_cons.mp hy with e | e
      · subst e; exact h1
      · exact h2 y e
theorem least_is {l : List Int} {m : Int} (h : least l = some m) : m ∈ l ∧ ∀ y ∈ l, m ≤ y := by
  cases l with
  | nil => cases h
  | cons i r =>
    cases h
    obtain ⟨h1, h2, h3⟩ := foldl_min r i
    refine ⟨?_, fun y hy => ?_⟩
    · rcases h3 with e | e
      · rw [e]; simp
      · exact List.mem_cons_of_mem _ e
    · rcases List.mem_cons.mp hy with e | e
      · subst e; exact h1
      · exact h2 y e
theorem sbSum (hc : X.calm = true) : SB X W (.builtin "sum") (f1 (onInts fun l => some (.int l.sum))) := ⟨_, cr_sum hc, cs1 fun σ ρ M H x v Q rp r h => by
  obtain ⟨a, l, w, rfl, sq, e, k⟩ := onInts_sim rp r h
  cases e
  exact ⟨a, l, rfl, sq, okI k rp⟩⟩
theorem sbMax (hc : X.calm = true) : SB X W (.builtin "max") (f1 (onInts fun l => (greatest l).map .int)) := ⟨_, cr_max hc, cs1 fun σ ρ M H x v Q rp r h => by
  obtain ⟨a, l, w, rfl, sq, e, k⟩ := onInts_sim rp r h
  cases q : greatest l with
  | none => rw [q] at e; cases e
  | some m =>
    rw [q] at e
    cases e
    obtain ⟨g1, g2⟩ := greatest_is q
    refine ⟨a, l, rfl, sq, List.length_pos_of_mem g1, fun m' h1 h2 => ?_⟩
    have : m' = m := Int.le_antisymm (g2 m' h1) (h2 m g1)
    subst this
    exact okI k rp⟩
theorem sbMin (hc : X.calm = true) : SB X W (.builtin "min") (f1 (onInts fun l => (least l).map .int)) := ⟨_, cr_min hc, cs1 fun σ ρ M H x v Q rp r h => by
  obtain ⟨a, l, w, rfl, sq, e, k⟩ := onInts_sim rp r h
  cases q : least l with
  | none => rw [q] at e; cases e
  | some m =>
    rw [q] at e
    cases e
    obtain ⟨g1, g2⟩ := least_is q
    refine ⟨a, l, rfl, sq, List.length_pos_of_mem g1, fun m' h1 h2 => ?_⟩
    have : m' = m := Int.le_antisymm (h2 m g1) (g2 m' h1)
    subst this
    exact okI k rp⟩
theorem sbAll (hc : X.calm = true) : SB X W (.builtin "all") (f1 (onBls fun l => .bl (l.all id))) := ⟨_, cr_all hc, cs1 fun σ ρ M H x v Q rp r h => by
  obtain ⟨a, l, rfl, sq, k⟩ := onBls_sim rp r h
  exact ⟨a, l, rfl, sq, okB k rp⟩⟩
theorem sbAny (hc : X.calm = true) : SB X W (.builtin "any") (f1 (onBls fun l => .bl (l.any id))) := ⟨_, cr_any hc, cs1 fun σ ρ M H x v Q rp r h => by
  obtain ⟨a, l, rfl, sq, k⟩ := onBls_sim rp r h
  exact ⟨a, l, rfl, sq, okB k rp⟩⟩
def max2V : EV → EV → Mem → Res EV := opI0 fun i j => .int (if j > i then j else i)
def min2V : EV → EV → Mem → Res EV := opI0 fun i j => .int (if j < i then j else i)
theorem cs2I {G : Gr} {r : List V → Hp → VK → Prop} {g : Int → Int → Int} (h : ∀ i j H Q, Q (V.int (g i j)) H → r [.int i, .int j] H Q) : CS G W r (f2 (opI0 fun i j => .int (g i j))) := cs2 fun σ ρ M H x v y u Q rp r1 r2 k => by
  unfold opI0 at k
  cases q : twoI x y with
  | none => rw [q] at k; exact k.elim
  | some p =>
    rw [q] at k
    obtain ⟨rfl, rfl⟩ := twoI_eq q
    unfold RV at r1 r2
    rw [r1, r2]
    exact h _ _ _ _ (okI k rp)
theorem sbMax2 (hc : X.calm = true) : SB X W (.builtin "max") (f2 max2V) := ⟨_, call_max2 hc, cs2I fun i j H Q q => ⟨i, j, rfl, q⟩⟩
theorem sbMin2 (hc : X.calm = true) : SB X W (.builtin "min") (f2 min2V) := ⟨_, call_min2 hc, cs2I fun i j H Q q => ⟨i, j, rfl, q⟩⟩
def absV : EV → Mem → Res EV := fun x M => match x with
  | .int i => .ok (.int (if i < 0 then -i else i)) M
  | _ => .bad
theorem sbAbs : SB X W (.builtin "abs") (f1 absV) := ⟨_, call_abs, cs1 fun σ ρ M H x v Q rp r h => by
  cases x with
  | int i => unfold RV at r; exact ⟨i, by rw [r], okI h rp⟩
  | _ => exact h.elim⟩
/-- int(n), int(flag) -/
def intV : EV → Mem → Res EV := fun x M => match x with
  | .int i => .ok (.int i) M
  | .bl b => .ok (.int (if b then 1 else 0)) M
  | _ => .bad
theorem sbInt : SB X W (.type "int") (f1 intV) := ⟨_, call_int1, cs1 fun σ ρ M H x v Q rp r h => by
  cases x with
  | int i => unfold RV at r; exact .inl ⟨i, by rw [r], okI h rp⟩
  | bl b => unfold RV at r; exact .inr ⟨b, by rw [r], okI h rp⟩
  | _ => exact h.elim⟩
/-- str(n) -/
def strV : EV → Mem → Res EV := fun x M => match x with
  | .int i => if i.natAbs.log2 < 1920 then .ok (.str (toString i)) M else .bad
  | _ => .bad
theorem sbStr : SB X W (.type "str") (f1 strV) := ⟨_, call_str_int, cs1 fun σ ρ M H x v Q rp r h => by
  cases x with
  | int i =>
    unfold RV at r
    unfold strV at h
    dsimp only at h
    by_cases c : i.natAbs.log2 < 1920
    · rw [if_pos c] at h; exact ⟨i, by rw [r], c, okS h rp⟩
    · rw [if_neg c] at h; exact h.elim
  | _ => exact h.elim⟩
end

/-! ### methods of lists -/
/-- a method by its values: the receiver, the arguments -/
def MS (G : Gr) (W : WX) (r : V → List V → Hp → VK → Prop) (F : EV → Fn) : Prop :=
  ∀ (σ : L2.St) ρ M H x v xs vs Q, RP G ρ M H → RV G.K ρ M.length H x v → RVs G.K ρ M.length H xs vs → PostE G W σ ρ M H (F x xs M) Q → r v vs H Q
structure SM (X : Cx) (W : WX) (id : String) (F : EV → Fn) : Prop where
  ex : ∃ r, MtR X id r ∧ MS (gr X) W r F
/-- o.m(..), o a list -/
def eMtL (F : EV → Fn) (f : FE) (g : FA) : FE := fun σ M => (f σ M).bind fun v M1 => match getL M1 v with
  | some _ => (g σ M1).bind fun xs M2 => F v xs M2
  | none => .bad
section
variable {X : Cx} {W : WX} {id : String} {name : Str} {F : EV → Fn} {o e : Expr} {es : List Expr} {fo : FE} {fa : FA} {apos cpos : Pos}
theorem sMtL (pa : PlainAttrs "list") (slot : Slot "list" name id) (hty : typeOf (.builtin id) = pure (.type "method_descriptor")) (hm : SM X W id F) (ho : SE X W o fo) (ha : SA X W (e :: es) fa)
    (hbase : attributeBase o name X.env (eval o X.env) = eval o X.env := by rfl)
    (hfew : ((backTo cpos (starEach (e :: es) X.env)).all (fun x => !x.1) && (backToKw cpos (keywordEach [] X.env)).all (fun x => x.1.isSome)
      && decide ((e :: es).length + ([] : List Keyword).length + (if ([] : List Keyword).isEmpty then 0 else 1) < 30)) = true := by rfl)
    (hline : (apos.endLine == cpos.line) = true := by rfl) (hs : starEach (e :: es) X.env = (false, eval e X.env) :: starEach es X.env := by rfl) (hplain : (backTo cpos (starEach es X.env)).any (·.1) = false := by rfl) :
    SE X W (.Call (.Attribute o name apos) (e :: es) [] cpos) (eMtL F fo fa) := by
  obtain ⟨r, m1, m2⟩ := hm
  obtain ⟨to, o1, o2⟩ := ho
  obtain ⟨t, h1, h2⟩ := ha
  refine ⟨_, pe_bm pa slot hty m1 o1 h1 hbase hfew hline hs hplain, fun ρ σe σ M H Q rs rp h => ?_⟩
  refine o2 ρ σe σ M H _ rs rp (PostR.bind h fun v M1 ρ1 H1 v1 _ a rp1 r k1 => ?_)
  cases q : getL M1 v with
  | none => rw [q] at k1; exact k1.elim
  | some ys =>
    rw [q] at k1
    obtain ⟨b, vs, e1, sq, rr⟩ := getL_sim rp1 r q
    refine ⟨by rw [e1]; exact .inl ⟨rfl, vs, sq⟩, ?_⟩
    refine h2 ρ1 σe σ M1 H1 _ (rs.carry (a.carry rp)) rp1 (PostR.bind (R := fun K ρ n H => RVs K ρ n H) k1 fun xs M2 ρ2 H2 ws _ a2 rp2 r2 k2 => ?_)
    exact m2 σ ρ2 M2 H2 v v1 xs ws Q rp2 (r.carry (a2.carry rp1)) r2 k2
theorem sMtL0 (pa : PlainAttrs "list") (slot : Slot "list" name id) (hty : typeOf (.builtin id) = pure (.type "method_descriptor")) (hm : SM X W id F) (ho : SE X W o fo)
    (hbase : attributeBase o name X.env (eval o X.env) = eval o X.env := by rfl) (hline : (apos.endLine == cpos.line) = true := by rfl) : SE X W (.Call (.Attribute o name apos) [] [] cpos) (eMtL F fo aNil) := by
  obtain ⟨r, m1, m2⟩ := hm
  obtain ⟨to, o1, o2⟩ := ho
  refine ⟨_, pe_bm0 pa slot hty m1 o1 hbase hline, fun ρ σe σ M H Q rs rp h => ?_⟩
  refine o2 ρ σe σ M H _ rs rp (PostR.bind h fun v M1 ρ1 H1 v1 _ a rp1 r k1 => ?_)
  cases q : getL M1 v with
  | none => rw [q] at k1; exact k1.elim
  | some ys =>
    rw [q] at k1
    obtain ⟨b, vs, e1, sq, rr⟩ := getL_sim rp1 r q
    exact ⟨by rw [e1]; exact .inl ⟨rfl, vs, sq⟩, m2 σ ρ1 M1 H1 v v1 [] [] Q rp1 r RVs.nil k1⟩
/-- a list of the memory is changed -/
def modL (x : EV) (M : Mem) (g : List EV → Option (List EV × EV)) : Res EV := match isRefL M x with
  | some (k, xs) => (match g xs with
    | some (ys, v) => .ok v (M.set k (.lst ys))
    | none => .bad)
  | none => .bad
theorem modL_sim {G : Gr} {σ : L2.St} {ρ : Nat → Addr} {M : Mem} {H : Hp} {x : EV} {v : V} {g : List EV → Option (List EV × EV)} {Q : VK} (rp : RP G ρ M H) (r : RV G.K ρ M.length H x v) (h : PostE G W σ ρ M H (modL x M g) Q) :
    ∃ a xs vs ys w, v = .ref a ∧ H a = some (.lst vs) ∧ RVs G.K ρ M.length H xs vs ∧ g xs = some (ys, w) ∧ ∀ vs' u, RVs G.K ρ M.length H ys vs' → RV G.K ρ M.length H w u → Q u (upd H a (.lst vs')) := by
  unfold modL at h
  cases q : isRefL M x with
  | none => rw [q] at h; exact h.elim
  | some kx =>
    obtain ⟨k, xs⟩ := kx
    rw [q] at h
    dsimp only at h
    obtain ⟨_, hk, hM, vs, e1, hl, rr⟩ := isRefL_sim rp r q
    cases q2 : g xs with
    | none => rw [q2] at h; exact h.elim
    | some yw =>
      obtain ⟨ys, w⟩ := yw
      rw [q2] at h
      refine ⟨ρ k, xs, vs, ys, w, e1, hl, rr, q2, fun vs' u r1 r2 => ?_⟩
      obtain ⟨af, rpw⟩ := write rp hk (fun l z => by rw [hM] at z; cases z) (.lst vs') (.lst ys) fun c => ⟨_, upd_same, r1.carry c⟩
      refine h ρ _ u af rpw ?_
      have := r2.carry (af.carry rp)
      exact this
def m1 (F : EV → EV → Mem → Res EV) : EV → Fn := fun x xs M => match xs with
  | [y] => F x y M
  | _ => .bad
def m0 (F : EV → Mem → Res EV) : EV → Fn := fun x xs M => match xs with
  | [] => F x M
  | _ => .bad
theorem ms1 {G : Gr} {r : V → List V → Hp → VK → Prop} {F : EV → EV → Mem → Res EV} (h : ∀ (σ : L2.St) ρ M H x v y u Q, RP G ρ M H → RV G.K ρ M.length H x v → RV G.K ρ M.length H y u → PostE G W σ ρ M H (F x y M) Q → r v [u] H Q) : MS G W r (m1 F) := by
  intro σ ρ M H x v xs vs Q rp rx rv k
  match xs, rv, k with
  | [], _, k => exact k.elim
  | _ :: _ :: _, _, k => exact k.elim
  | [y], rv, k =>
    unfold RVs RVs at rv
    obtain ⟨u, s, rfl, r1, rfl⟩ := rv
    exact h σ ρ M H x v y u Q rp rx r1 k
theorem ms0 {G : Gr} {r : V → List V → Hp → VK → Prop} {F : EV → Mem → Res EV} (h : ∀ (σ : L2.St) ρ M H x v Q, RP G ρ M H → RV G.K ρ M.length H x v → PostE G W σ ρ M H (F x M) Q → r v [] H Q) : MS G W r (m0 F) := by
  intro σ ρ M H x v xs vs Q rp rx rv k
  match xs, rv, k with
  | _ :: _, _, k => exact k.elim
  | [], rv, k =>
    unfold RVs at rv
    subst rv
    exact h σ ρ M H x v Q rp rx k
def mAppend : EV → Fn := m1 fun x y M => modL x M fun xs => if xs.length < sizeLine then some (xs ++ [y], .non) else none
theorem smAppend : SM X W "list.append" mAppend := ⟨_, mt_append, ms1 fun σ ρ M H x v y u Q rp rx ry h => by
  obtain ⟨a, xs, vs, ys, w, e1, hl, rr, e2, fin⟩ := modL_sim rp rx h
  by_cases c : xs.length < sizeLine
  · rw [if_pos c] at e2
    cases e2
    exact ⟨a, vs, u, e1, rfl, hl, by rw [rr.length]; exact c, fin _ .non (rr.append (RVs.cons ry RVs.nil)) (by unfold RV; rfl)⟩
  · rw [if_neg c] at e2; cases e2⟩
def mPopAt : EV → Fn := m1 fun x y M => modL x M fun xs => match y with
  | .int i => if -(2 ^ 63) ≤ i ∧ i < 2 ^ 63 then (match seqIndex? i xs.length with
    | some k => (match xs[k]? with
      | some v => some (xs.eraseIdx k, v)
      | none => none)
    | none => none) else none
  | _ => none
theorem RVs.erase {K : PySem.W.Frag} {ρ : Nat → Addr} {n : Nat} {H : Hp} : ∀ (k : Nat) {xs : List EV} {vs : List V}, RVs K ρ n H xs vs → RVs K ρ n H (xs.eraseIdx k) (vs.eraseIdx k)
  | _, [], _, h => by unfold RVs at h; subst h; simpa using RVs.nil
  | 0, x :: xs, _, h => by
    unfold RVs at h
    obtain ⟨v, r, e, h1, h2⟩ := h
    subst e
    simpa using h2
  | k + 1, x :: xs, _, h => by
    unfold RVs at h
    obtain ⟨v, r, e, h1, h2⟩ := h
    subst e
    simpa using RVs.cons h1 (RVs.erase k h2)
theorem smPopAt : SM X W "list.pop" mPopAt := ⟨_, mt_popAt, ms1 fun σ ρ M H x v y u Q rp rx ry h => by
  obtain ⟨a, xs, vs, ys, w, e1, hl, rr, e2, fin⟩ := modL_sim rp rx h
  cases y with
  | int i =>
    unfold RV at ry
    dsimp only at e2
    by_cases c : -(2 ^ 63) ≤ i ∧ i < 2 ^ 63
    · rw [if_pos c] at e2
      cases q : seqIndex? i xs.length with
      | none => rw [q] at e2; cases e2
      | some k =>
        rw [q] at e2
        dsimp only at e2
        cases q2 : xs[k]? with
        | none => rw [q2] at e2; cases e2
        | some z =>
          rw [q2] at e2
          cases e2
          obtain ⟨z', g1, g2⟩ := rr.get q2
          exact ⟨a, vs, i, k, z', e1, by rw [ry], hl, c.1, c.2, by rw [rr.length]; exact q, g1, fin _ z' (rr.erase k) g2⟩
    · rw [if_neg c] at e2; cases e2
  | _ => cases e2⟩
def mPop : EV → Fn := m0 fun x M => modL x M fun xs => match xs[xs.length - 1]? with
  | some v => some (xs.dropLast, v)
  | none => none
theorem RVs.dropLast {K : PySem.W.Frag} {ρ : Nat → Addr} {n : Nat} {H : Hp} {xs : List EV} {vs : List V} (h : RVs K ρ n H xs vs) : RVs K ρ n H xs.dropLast vs.dropLast := by
  rw [List.dropLast_eq_take, List.dropLast_eq_take, h.length]
  exact h.take _
theorem smPop : SM X W "list.pop" mPop := ⟨_, mt_pop, ms0 fun σ ρ M H x v Q rp rx h => by
  obtain ⟨a, xs, vs, ys, w, e1, hl, rr, e2, fin⟩ := modL_sim rp rx h
  cases q : xs[xs.length - 1]? with
  | none => rw [q] at e2; cases e2
  | some z =>
    rw [q] at e2
    cases e2
    obtain ⟨z', g1, g2⟩ := rr.get q
    exact ⟨a, vs, z', e1, rfl, hl, by rw [rr.length]; exact g1, fin _ z' rr.dropLast g2⟩⟩
def mReverse : EV → Fn := m0 fun x M => modL x M fun xs => some (xs.reverse, .non)
theorem smReverse : SM X W "list.reverse" mReverse := ⟨_, mt_reverse, ms0 fun σ ρ M H x v Q rp rx h => by
  obtain ⟨a, xs, vs, ys, w, e1, hl, rr, e2, fin⟩ := modL_sim rp rx h
  cases e2
  exact ⟨a, vs, e1, rfl, hl, fin _ .non rr.rev (by unfold RV; rfl)⟩⟩
def mClear : EV → Fn := m0 fun x M => modL x M fun _ => some ([], .non)
theorem smClear : SM X W "list.clear" mClear := ⟨_, mt_clear, ms0 fun σ ρ M H x v Q rp rx h => by
  obtain ⟨a, xs, vs, ys, w, e1, hl, rr, e2, fin⟩ := modL_sim rp rx h
  cases e2
  exact ⟨a, vs, e1, rfl, hl, fin [] .non RVs.nil (by unfold RV; rfl)⟩⟩
def mInsert : EV → Fn := fun x xs M => match xs with
  | [.int i, y] => modL x M fun xs => if xs.length < sizeLine ∧ 0 ≤ i ∧ i < 2 ^ 63 then some (xs.take i.toNat ++ [y] ++ xs.drop i.toNat, .non) else none
  | _ => .bad
theorem smInsert : SM X W "list.insert" mInsert := ⟨_, mt_insert, fun σ ρ M H x v xs vs Q rp rx rv k => by
  unfold mInsert at k
  split at k
  · rename_i i y
    unfold RVs RVs RVs at rv
    obtain ⟨u, s, rfl, ri, u2, s2, rfl, r2, rfl⟩ := rv
    unfold RV at ri
    subst ri
    obtain ⟨a, xs, vs, ys, w, e1, hl, rr, e2, fin⟩ := modL_sim rp rx k
    by_cases c : xs.length < sizeLine ∧ 0 ≤ i ∧ i < 2 ^ 63
    · rw [if_pos c] at e2
      cases e2
      exact ⟨a, vs, i, u2, e1, rfl, hl, by rw [rr.length]; exact c.1, c.2.1, c.2.2, fin _ .non (((rr.take _).append (RVs.cons r2 RVs.nil)).append (rr.drop _)) (by unfold RV; rfl)⟩
    · rw [if_neg c] at e2; cases e2
  · exact k.elim⟩
end

/-! ### a text, sign by sign -/
def chars (x : Str) : List EV := x.cps.toList.map fun c => .str ⟨#[c]⟩
def iStr (f : FE) : FI := fun σ M => (f σ M).bind fun v M1 => match v with
  | .str x => .ok (chars x, none) M1
  | _ => .bad
theorem siStr {X : Cx} {W : WX} {tg e : Expr} {fe : FE} (he : SE X W e fe) : SI X W tg e (iStr fe) := by
  obtain ⟨t, h1, h2⟩ := he
  refine ⟨_, pi_str h1, fun ρ σe σ M H Q rs rp h => ?_⟩
  refine h2 ρ σe σ M H _ rs rp (PostI.bind h fun v M1 ρ1 H1 v1 _ a rp1 r k => ?_)
  cases v with
  | str x =>
    unfold RV at r
    refine ⟨x, r, k ρ1 H1 _ .refl rp1 ⟨fun ρ2 M2 H2 _ _ _ => ?_, fun i y ρ2 M2 H2 _ rp2 _ e => ?_⟩⟩
    · show x.cps.size ≤ (chars x).length
      unfold chars
      rw [List.length_map, Array.length_toList]
      exact Nat.le_refl _
    · unfold chars at e
      rw [List.getElem?_map] at e
      cases q : x.cps.toList[i]? with
      | none => rw [q] at e; cases e
      | some c =>
        rw [q] at e
        cases e
        rw [Array.getElem?_toList] at q
        refine ⟨(Array.getElem?_eq_some_iff.mp q).1, fun x' H' z => ?_⟩
        obtain ⟨z1, c', z2, z3⟩ := z
        subst z1
        rw [q] at z2
        cases z2
        exact ⟨.refl, rp2, by unfold RV; exact z3⟩
  | _ => exact k.elim
theorem SI.alt {X : Cx} {W : WX} {tg e : Expr} {f g : FI} (a : SI X W tg e f) (b : SI X W tg e g) : SI X W tg e (fun σ M => match f σ M with | .bad => g σ M | r => r) := by
  obtain ⟨t, a1, a2⟩ := a
  obtain ⟨u, b1, b2⟩ := b
  refine ⟨_, PI.or a1 b1, fun ρ σe σ M H Q rs rp h => ?_⟩
  cases q : f σe M with
  | bad => rw [q] at h; exact .inr (b2 ρ σe σ M H Q rs rp h)
  | ok v M1 => rw [q] at h; exact .inl (a2 ρ σe σ M H Q rs rp (by rw [q]; exact h))
  | err y M1 => rw [q] at h; exact .inl (a2 ρ σe σ M H Q rs rp (by rw [q]; exact h))
end WS

set_option Elab.async false
set_option linter.all false
set_option maxRecDepth 100000
/-! The simulation: dicts, whatever their keys are (None, ints, texts; tuples of these). -/
namespace WS
open PySem PySem.Spec PyProof.Rows L2
open Classical
/-! ### tables -/
noncomputable def dGet (kvs : List (EV × EV)) (k : EV) : Option EV := match kvs with
  | [] => none
  | p :: r => if p.1 = k then some p.2 else dGet r k
noncomputable def dPut (kvs : List (EV × EV)) (k v : EV) : List (EV × EV) := match kvs with
  | [] => [(k, v)]
  | p :: r => if p.1 = k then (p.1, v) :: r else p :: dPut r k v
noncomputable def dDel (kvs : List (EV × EV)) (k : EV) : List (EV × EV) := match kvs with
  | [] => []
  | p :: r => if p.1 = k then r else p :: dDel r k
def isLeaf (k : EV) : Bool := (leafOf k).isSome
def isNest (k : EV) : Bool := match k with
  | .tup _ => (match nkOf k with
    | some n => decide (n.depth ≤ 8)
    | none => false)
  | _ => false
def leafs (kvs : List (EV × EV)) : Bool := kvs.all fun p => isLeaf p.1
def nests (kvs : List (EV × EV)) : Bool := kvs.all fun p => isNest p.1
theorem leafOf_inj {x y : EV} {k : Leaf} (h1 : leafOf x = some k) (h2 : leafOf y = some k) : x = y := by
  cases x <;> cases y <;> simp_all [leafOf] <;> (subst h1; cases h2) <;> rfl
mutual
theorem nkOf_inj : ∀ {x y : EV} {k : NestedKey}, nkOf x = some k → nkOf y = some k → x = y
  | .non, y, k, h1, h2 => by
    unfold nkOf at h1; cases h1
    cases y with
    | non => rfl
    | tup ys => unfold nkOf at h2; cases q : nksOf ys with
      | none => rw [q] at h2; cases h2
      | some m => rw [q] at h2; cases h2
    | _ => unfold nkOf at h2; cases h2
  | .int i, y, k, h1, h2 => by
    unfold nkOf at h1; cases h1
    cases y with
    | int j => unfold nkOf at h2; cases h2; rfl
    | tup ys => unfold nkOf at h2; cases q : nksOf ys with
      | none => rw [q] at h2; cases h2
      | some m => rw [q] at h2; cases h2
    | _ => unfold nkOf at h2; cases h2
  | .str i, y, k, h1, h2 => by
    unfold nkOf at h1; cases h1
    cases y with
    | str j => unfold nkOf at h2; cases h2; rfl
    | tup ys => unfold nkOf at h2; cases q : nksOf ys with
      | none => rw [q] at h2; cases h2
      | some m => rw [q] at h2; cases h2
    | _ => unfold nkOf at h2; cases h2
  | .tup xs, y, k, h1, h2 => by
    unfold nkOf at h1
    cases q1 : nksOf xs with
    | none => rw [q1] at h1; cases h1
    | some m1 =>
      rw [q1] at h1
      cases h1
      cases y with
      | tup ys =>
        unfold nkOf at h2
        cases q2 : nksOf ys with
        | none => rw [q2] at h2; cases h2
        | some m2 =>
          rw [q2] at h2
          cases h2
          rw [nksOf_inj q1 q2]
      | _ => unfold nkOf at h2; cases h2
  | .bl _, _, _, h1, _ => by unfold nkOf at h1; cases h1
  | .ref _, _, _, h1, _ => by unfold nkOf at h1; cases h1
  | .adr _, _, _, h1, _ => by unfold nkOf at h1; cases h1
  | .ty _, _, _, h1, _ => by unfold nkOf at h1; cases h1
  | .sl _, _, _, h1, _ => by unfold nkOf at h1; cases h1
theorem nksOf_inj : ∀ {xs ys : List EV} {ks : List NestedKey}, nksOf xs = some ks → nksOf ys = some ks → xs = ys
  | [], ys, ks, h1, h2 => by
    unfold nksOf at h1; cases h1
    cases ys with
    | nil => rfl
    | cons y ys => unfold nksOf at h2; split at h2 <;> cases h2
  | x :: xs, ys, ks, h1, h2 => by
    unfold nksOf at h1
    split at h1
    · rename_i k ks' e1 e2
      cases h1
      cases ys with
      | nil => unfold nksOf at h2; cases h2
      | cons y ys =>
        unfold nksOf at h2
        split at h2
        · rename_i k2 ks2 e3 e4
          cases h2
          rw [nkOf_inj e1 e3, nksOf_inj e2 e4]
        · cases h2
    · cases h1
end
section
variable {K : PySem.W.Frag} {ρ : Nat → Addr} {n : Nat} {H : Hp}
theorem putK_cons {κ : Type} [DecidableEq κ] (p : κ × V) (r : List (κ × V)) (k : κ) (v : V) (nd : (p :: r).map (·.1) |>.Nodup) : putK (p :: r) k v = if p.1 = k then (p.1, v) :: r else p :: putK r k v := by
  unfold putK
  rw [List.any_cons]
  by_cases e : p.1 = k
  · rw [if_pos e, decide_eq_true e, Bool.true_or, if_pos rfl, List.map_cons, if_pos e]
    congr 1
    have : ∀ q ∈ r, (if q.1 = k then (q.1, v) else q) = q := fun q hq => by
      rw [if_neg]
      intro z
      rw [List.map_cons, List.nodup_cons] at nd
      exact nd.1 (List.mem_map.mpr ⟨q, hq, z.trans e.symm⟩)
    rw [List.map_congr_left this, List.map_id']
  · rw [if_neg e, decide_eq_false e, Bool.false_or]
    split
    · rw [List.map_cons, if_neg e]
    · rfl
theorem RDF.keys_inj {kvs : List (EV × EV)} {l : List (Leaf × V)} : RDF K ρ n H kvs l → l.map (·.1) = kvs.filterMap fun p => leafOf p.1 := by
  induction kvs generalizing l with
  | nil => intro h; rw [show l = [] from h]; rfl
  | cons p r ih =>
    rintro ⟨k, v, s, rfl, h1, h2, h3⟩
    rw [List.map_cons, ih h3, List.filterMap_cons, h1]
theorem RDF.length : ∀ {kvs : List (EV × EV)} {l : List (Leaf × V)}, RDF K ρ n H kvs l → l.length = kvs.length
  | [], l, h => by rw [show l = [] from h]; rfl
  | p :: r, _, ⟨k, v, s, e, h1, h2, h3⟩ => by rw [e, List.length_cons, List.length_cons, RDF.length h3]
theorem RDF.get {x : EV} {k : Leaf} (hk : leafOf x = some k) : ∀ {kvs : List (EV × EV)} {l : List (Leaf × V)}, RDF K ρ n H kvs l → (∀ v, dGet kvs x = some v → ∃ u, valV l k = some u ∧ RV K ρ n H v u) ∧ (dGet kvs x = none → valV l k = none)
  | [], l, h => by
    have h : l = [] := h
    subst h
    exact ⟨fun _ e => (by unfold dGet at e; cases e), fun _ => rfl⟩
  | p :: r, _, ⟨k', v, s, e, h1, h2, h3⟩ => by
    subst e
    obtain ⟨i1, i2⟩ := RDF.get hk h3
    unfold dGet
    by_cases z : p.1 = x
    · have z2 : k' = k := by rw [z, hk] at h1; exact (Option.some.inj h1).symm
      rw [if_pos z, valV_pos (p := (k', v)) z2]
      exact ⟨fun w e => ⟨v, rfl, by cases e; exact h2⟩, fun e => by cases e⟩
    · have z2 : ¬ k' = k := fun q => z (leafOf_inj (h1.trans (by rw [q])) hk)
      rw [if_neg z, valV_neg (p := (k', v)) z2]
      exact ⟨i1, i2⟩
theorem RDF.put {x v : EV} {k : Leaf} {u : V} (hk : leafOf x = some k) (hv : RV K ρ n H v u) : ∀ {kvs : List (EV × EV)} {l : List (Leaf × V)}, RDF K ρ n H kvs l → (l.map (·.1)).Nodup → RDF K ρ n H (dPut kvs x v) (putK l k u)
  | [], l, h, _ => by
    have h : l = [] := h
    subst h
    exact ⟨k, u, [], rfl, hk, hv, rfl⟩
  | p :: r, _, ⟨k', w, s, e, h1, h2, h3⟩, nd => by
    subst e
    rw [putK_cons _ _ _ _ nd]
    unfold dPut
    by_cases z : p.1 = x
    · have z2 : k' = k := by rw [z, hk] at h1; exact (Option.some.inj h1).symm
      rw [if_pos z, if_pos (show ((k', w) : Leaf × V).1 = k from z2)]
      exact ⟨k', u, s, rfl, h1, hv, h3⟩
    · have z2 : ¬ k' = k := fun q => z (leafOf_inj (h1.trans (by rw [q])) hk)
      rw [if_neg z, if_neg (show ¬ ((k', w) : Leaf × V).1 = k from z2)]
      rw [List.map_cons, List.nodup_cons] at nd
      exact ⟨k', w, _, rfl, h1, h2, RDF.put hk hv h3 nd.2⟩
/-! .. with tuples as keys: in the library's tables -/
def atT (l : List (NestedKey × Addr × V)) (k : NestedKey) : Option V := (l.find? fun x => decide (x.1 = k)).map (·.2.2)
def putT (l : List (NestedKey × Addr × V)) (k : NestedKey) (a : Addr) (v : V) : List (NestedKey × Addr × V) := match l with
  | [] => [(k, a, v)]
  | p :: r => if p.1 = k then (p.1, p.2.1, v) :: r else p :: putT r k a v
theorem RDT.length : ∀ {kvs : List (EV × EV)} {l : List (NestedKey × Addr × V)}, RDT K ρ n H kvs l → l.length = kvs.length
  | [], l, h => by rw [show l = [] from h]; rfl
  | p :: r, _, ⟨k, a, v, s, e, h1, hd, h2, h3, h4⟩ => by rw [e, List.length_cons, List.length_cons, RDT.length h4]
theorem RDT.get {x : EV} {k : NestedKey} (hk : nkOf x = some k) : ∀ {kvs : List (EV × EV)} {l : List (NestedKey × Addr × V)}, RDT K ρ n H kvs l → (∀ v, dGet kvs x = some v → ∃ u, atT l k = some u ∧ RV K ρ n H v u) ∧ (dGet kvs x = none → atT l k = none)
  | [], l, h => by
    have h : l = [] := h
    subst h
    exact ⟨fun _ e => (by unfold dGet at e; cases e), fun _ => rfl⟩
  | p :: r, _, ⟨k', a, v, s, e, h1, hd, h2, h3, h4⟩ => by
    subst e
    obtain ⟨i1, i2⟩ := RDT.get hk h4
    unfold dGet atT
    rw [List.find?_cons]
    by_cases z : p.1 = x
    · have z2 : k' = k := by rw [z, hk] at h1; exact (Option.some.inj h1).symm
      rw [if_pos z, decide_eq_true (show ((k', a, v) : NestedKey × Addr × V).1 = k from z2)]
      exact ⟨fun w e => ⟨v, rfl, by cases e; exact h3⟩, fun e => by cases e⟩
    · have z2 : ¬ k' = k := fun q => z (nkOf_inj (h1.trans (by rw [q])) hk)
      rw [if_neg z, decide_eq_false (show ¬ ((k', a, v) : NestedKey × Addr × V).1 = k from z2)]
      exact ⟨i1, i2⟩
theorem RDT.put {x v : EV} {k : NestedKey} {b : Addr} {u : V} (hk : nkOf x = some k) (hd8 : k.depth ≤ 8) (hb : RV K ρ n H x (.ref b)) (hv : RV K ρ n H v u) : ∀ {kvs : List (EV × EV)} {l : List (NestedKey × Addr × V)}, RDT K ρ n H kvs l → RDT K ρ n H (dPut kvs x v) (putT l k b u)
  | [], l, h => by
    have h : l = [] := h
    subst h
    exact ⟨k, b, u, [], rfl, hk, hd8, hb, hv, rfl⟩
  | p :: r, _, ⟨k', a, w, s, e, h1, hd, h2, h3, h4⟩ => by
    subst e
    unfold dPut putT
    by_cases z : p.1 = x
    · have z2 : k' = k := by rw [z, hk] at h1; exact (Option.some.inj h1).symm
      rw [if_pos z, if_pos (show ((k', a, w) : NestedKey × Addr × V).1 = k from z2)]
      exact ⟨k', a, u, s, rfl, h1, hd, h2, hv, h4⟩
    · have z2 : ¬ k' = k := fun q => z (nkOf_inj (h1.trans (by rw [q])) hk)
      rw [if_neg z, if_neg (show ¬ ((k', a, w) : NestedKey × Addr × V).1 = k from z2)]
      exact ⟨k', a, w, _, rfl, h1, hd, h2, h3, RDT.put hk hd8 hb hv h4⟩
end

/-! ### what stands in the heap -/
mutual
theorem nk_is {P : Program} {w : World} {K : PySem.W.Frag} {ρ : Nat → Addr} {n : Nat} {H : Hp} {h : Heap} (ok : HOk P w H h) : ∀ {x : EV} {k : NestedKey} {v : V} {u : Value}, nkOf x = some k → RV K ρ n H x v → RelV v u → NestedIs h k u
  | .non, k, v, u, e, r, q => by unfold nkOf at e; cases e; unfold RV at r; subst r; cases (show u = Value.none from q); exact .none
  | .int i, k, v, u, e, r, q => by unfold nkOf at e; cases e; unfold RV at r; subst r; obtain ⟨t, rfl⟩ := (show ∃ t, u = Value.int i t from q); exact .int i t
  | .str i, k, v, u, e, r, q => by unfold nkOf at e; cases e; unfold RV at r; subst r; obtain ⟨t, rfl⟩ := (show ∃ t, u = Value.str i t from q); exact .text i t
  | .tup xs, k, v, u, e, r, q => by
    unfold nkOf at e
    unfold RV at r
    obtain ⟨a, vs, rfl, h1, h2⟩ := r
    cases (show u = Value.ref a from q)
    cases q1 : nksOf xs with
    | none => rw [q1] at e; cases e
    | some ks =>
      rw [q1] at e
      cases e
      obtain ⟨_, its, rv, o, g1, g2, m, g3⟩ := (show ObjOk P w H h a (.tup vs) from ok a _ h1)
      exact .tup g1 g2 g3 (by simpa using nks_are ok q1 h2 rv)
  | .bl _, _, _, _, e, _, _ => by unfold nkOf at e; cases e
  | .ref _, _, _, _, e, _, _ => by unfold nkOf at e; cases e
  | .adr _, _, _, _, e, _, _ => by unfold nkOf at e; cases e
  | .ty _, _, _, _, e, _, _ => by unfold nkOf at e; cases e
  | .sl _, _, _, _, e, _, _ => by unfold nkOf at e; cases e
theorem nks_are {P : Program} {w : World} {K : PySem.W.Frag} {ρ : Nat → Addr} {n : Nat} {H : Hp} {h : Heap} (ok : HOk P w H h) : ∀ {xs : List EV} {ks : List NestedKey} {vs : List V} {us : List Value}, nksOf xs = some ks → RVs K ρ n H xs vs → Vals vs us → NestedAll h ks us
  | [], ks, vs, us, e, r, q => by
    unfold nksOf at e; cases e
    unfold RVs at r; subst r
    cases q
    exact .nil
  | x :: xs, ks, vs, us, e, r, q => by
    unfold nksOf at e
    split at e
    · rename_i k ks' e1 e2
      cases e
      unfold RVs at r
      obtain ⟨v, s, rfl, r1, r2⟩ := r
      cases q with
      | cons q1 q2 => exact .cons (nk_is ok e1 r1 q1) (nks_are ok e2 r2 q2)
    · cases e
end
theorem leaf_is {P : Program} {w : World} {K : PySem.W.Frag} {ρ : Nat → Addr} {n : Nat} {H : Hp} {x : EV} {k : Leaf} {v : V} {u : Value} (e : leafOf x = some k) (r : RV K ρ n H x v) (q : RelV v u) : (exKind P w).is k u = true := by
  cases x with
  | non => unfold leafOf at e; cases e; unfold RV at r; subst r; cases (show u = Value.none from q); rfl
  | int i => unfold leafOf at e; cases e; unfold RV at r; subst r; obtain ⟨t, rfl⟩ := (show ∃ t, u = Value.int i t from q); exact decide_eq_true rfl
  | str i => unfold leafOf at e; cases e; unfold RV at r; subst r; obtain ⟨t, rfl⟩ := (show ∃ t, u = Value.str i t from q); exact keyIs_str i t
  | _ => unfold leafOf at e; cases e

/-- the dict of the memory at k -/
def dicAt (M : Mem) : EV → Option (Nat × List (EV × EV))
  | .ref k => match M[k]? with
    | some (.dic kvs) => some (k, kvs)
    | some (.lck kvs) => some (k, kvs)
    | _ => none
  | _ => none
section
variable {X : Cx} {W : WX} {pins : List (Addr × Obj)} {σ : L2.St} {ρ : Nat → Addr} {M : Mem} {H : Hp} {s : Shared}
theorem dic_sim (hp : RP (gr X) ρ M H) {v : EV} {u : V} {k : Nat} {kvs : List (EV × EV)} (r : RV X.K ρ M.length H v u) (e : dicAt M v = some (k, kvs)) :
    v = .ref k ∧ k < M.length ∧ u = .ref (ρ k) ∧ ∃ w, (H (ρ k) = some w ∨ ∃ o, H (ρ k) = some (.frz o w)) ∧ DicU (gr X) ρ M.length H (ρ k) kvs w := by
  cases v with
  | ref j =>
    unfold dicAt at e
    dsimp only at e
    cases q : M[j]? with
    | none => rw [q] at e; cases e
    | some o =>
      rw [q] at e
      unfold RV at r
      cases o with
      | dic l => cases e; obtain ⟨w, h1, h2⟩ := hp.obj _ _ q; exact ⟨rfl, r.1, r.2, w, .inl h1, h2⟩
      | lck l => cases e; obtain ⟨ob, w, h1, h2⟩ := hp.obj _ _ q; exact ⟨rfl, r.1, r.2, w, .inr ⟨ob, h1⟩, h2⟩
      | _ => cases e
  | _ => cases e
/-- what is true of its object -/
theorem dic_holds (I : Inv X pins σ H s) {a : Addr} {f : Heap → Prop} (h : H a = some (.ext f) ∨ ∃ o, H a = some (.frz o (.ext f))) : f s.heap := by
  rcases h with h | ⟨o, h⟩
  · obtain ⟨q, _⟩ := (show ObjOk X.prog X.w H s.heap a (.ext f) from I.hok a _ h)
    exact q
  · obtain ⟨_, q, _⟩ := (show ObjOk X.prog X.w H s.heap a (.frz o (.ext f)) from I.hok a _ h)
    exact q
theorem phT_nil {G : Gr} {a : Addr} {h : Heap} (q : phT G a [] h) : phF G a [] h := by
  obtain ⟨z, hd, xs, rel, o, es, ep, h1, h2, h3, h4, h5⟩ := q
  cases rel
  have e : es.toList = [] := h4
  refine ⟨z, hd, [], .nil, o, es, ep, h1, h2, h3, fun x hx => ?_, by rw [e]; exact .nil, List.nodup_nil⟩
  rw [← Array.mem_toList_iff, e] at hx
  cases hx
theorem phF_nil {G : Gr} {a : Addr} {h : Heap} (q : phF G a [] h) : phT G a [] h := by
  obtain ⟨z, hd, vs, rel, o, es, ep, h1, h2, h3, h4, h5, h6⟩ := q
  cases rel
  refine ⟨z, hd, [], .nil, o, es, ep, h1, h2, h3, ?_, List.nodup_nil⟩
  cases e : es.toList with
  | nil => rfl
  | cons x r => rw [e] at h5; cases h5
/-- read with flat keys -/
theorem dic_flat (I : Inv X pins σ H s) {a : Addr} {kvs : List (EV × EV)} {w : HO} (h : H a = some w ∨ ∃ o, H a = some (.frz o w)) (d : DicU (gr X) ρ M.length H a kvs w) (hl : leafs kvs = true) : ∃ l, phF (gr X) a l s.heap ∧ RDF X.K ρ M.length H kvs l := by
  rcases d with ⟨l, rfl, r⟩ | ⟨l, rfl, r⟩
  · exact ⟨l, dic_holds I h, r⟩
  · have q := dic_holds I h
    cases kvs with
    | nil =>
      have e : l = [] := r
      subst e
      exact ⟨[], phT_nil q, rfl⟩
    | cons p t =>
      exfalso
      obtain ⟨k, b, v, t', e, h1, hd, h2, _⟩ := r
      unfold leafs at hl
      rw [List.all_cons] at hl
      obtain ⟨px, pv⟩ := p
      have hl1 : isLeaf px = true := (Bool.and_eq_true_iff.mp hl).1
      have h2 : RV X.K ρ M.length H px (.ref b) := h2
      cases px with
      | non => unfold RV at h2; cases h2
      | int i => unfold RV at h2; cases h2
      | str i => unfold RV at h2; cases h2
      | _ => exact absurd hl1 (by simp [isLeaf, leafOf])
/-- read with tuples as keys -/
theorem dic_nest (I : Inv X pins σ H s) {a : Addr} {kvs : List (EV × EV)} {w : HO} (h : H a = some w ∨ ∃ o, H a = some (.frz o w)) (d : DicU (gr X) ρ M.length H a kvs w) (hl : nests kvs = true) : ∃ l, phT (gr X) a l s.heap ∧ RDT X.K ρ M.length H kvs l := by
  rcases d with ⟨l, rfl, r⟩ | ⟨l, rfl, r⟩
  · have q := dic_holds I h
    cases kvs with
    | nil =>
      have e : l = [] := r
      subst e
      exact ⟨[], phF_nil q, rfl⟩
    | cons p t =>
      exfalso
      obtain ⟨k, v, t', e, h1, _⟩ := r
      unfold nests at hl
      rw [List.all_cons] at hl
      obtain ⟨px, pv⟩ := p
      have hl1 : isNest px = true := (Bool.and_eq_true_iff.mp hl).1
      have h1 : leafOf px = some k := h1
      cases px with
      | tup xs => unfold leafOf at h1; cases h1
      | _ => exact absurd hl1 (by simp [isNest])
  · exact ⟨l, dic_holds I h, r⟩
/-- the library's table, by what stands in the heap -/
theorem tab_of (I : Inv X pins σ H s) {a : Addr} : ∀ {kvs : List (EV × EV)} {l : List (NestedKey × Addr × V)} {xs : List (NestedKey × Addr × Value)}, RDT X.K ρ M.length H kvs l → Paired (fun (p : NestedKey × Addr × V) (q : NestedKey × Addr × Value) => p.1 = q.1 ∧ p.2.1 = q.2.1 ∧ RelV p.2.2 q.2.2) l xs →
    ∀ x ∈ xs, (nestedKind X.prog X.w).is s.heap x.1 x.2.1
  | [], l, xs, r, q, x, hx => by
    have e : l = [] := r
    subst e
    cases q
    cases hx
  | p :: t, l, xs, r, q, x, hx => by
    obtain ⟨k, b, v, t', e, h1, hd, h2, h3, h4⟩ := r
    subst e
    cases q with
    | cons q1 q2 =>
      rcases List.mem_cons.mp hx with z | z
      · subst z
        obtain ⟨e1, e2, _⟩ := q1
        dsimp only at e1 e2
        rw [← e1, ← e2]
        exact ⟨nk_is I.hok h1 h2 rfl, hd⟩
      · exact tab_of I (a := a) h4 q2 x z
theorem atT_rel : ∀ {l : List (NestedKey × Addr × V)} {xs : List (NestedKey × Addr × Value)}, Paired (fun (p : NestedKey × Addr × V) (q : NestedKey × Addr × Value) => p.1 = q.1 ∧ p.2.1 = q.2.1 ∧ RelV p.2.2 q.2.2) l xs → ∀ k, RelO (atT l k) ((atKey xs k).map (·.2))
  | _, _, .nil, k => True.intro
  | p :: ps, q :: qs, .cons h t, k => by
    unfold atT atKey
    rw [List.find?_cons, List.find?_cons]
    by_cases e : p.1 = k
    · have e' : q.1 = k := h.1.symm.trans e
      simp only [decide_eq_true e, decide_eq_true e']
      exact h.2.2
    · have e' : ¬ q.1 = k := fun z => e (h.1.trans z)
      simp only [decide_eq_false e, decide_eq_false e']
      exact atT_rel t k
theorem putT_rel {k : NestedKey} {b : Addr} {v : V} {u : Value} (rv : RelV v u) : ∀ {l : List (NestedKey × Addr × V)} {xs : List (NestedKey × Addr × Value)}, Paired (fun (p : NestedKey × Addr × V) (q : NestedKey × Addr × Value) => p.1 = q.1 ∧ p.2.1 = q.2.1 ∧ RelV p.2.2 q.2.2) l xs → (xs.map (·.1)).Nodup →
    Paired (fun (p : NestedKey × Addr × V) (q : NestedKey × Addr × Value) => p.1 = q.1 ∧ p.2.1 = q.2.1 ∧ RelV p.2.2 q.2.2) (putT l k b v) (storedH xs k b u)
  | _, _, .nil, _ => by
    unfold putT
    rw [storedH_new rfl]
    exact .cons ⟨rfl, rfl, rv⟩ .nil
  | p :: ps, q :: qs, .cons h t, nd => by
    rw [List.map_cons, List.nodup_cons] at nd
    unfold putT
    by_cases e : p.1 = k
    · have e' : q.1 = k := h.1.symm.trans e
      have at1 : atKey (q :: qs) k = some q.2 := by unfold atKey; rw [List.find?_cons, decide_eq_true e']; rfl
      rw [if_pos e, storedH_old at1, List.map_cons]
      have same : qs.map (putAt k u) = qs := by
        rw [List.map_congr_left (g := id) fun z hz => ?_, List.map_id]
        unfold putAt
        rw [if_neg]
        · rfl
        · intro w
          exact nd.1 (List.mem_map.mpr ⟨z, hz, w.trans e'.symm⟩)
      rw [same]
      unfold putAt
      rw [if_pos e']
      exact .cons ⟨h.1, h.2.1, rv⟩ t
    · have e' : ¬ q.1 = k := fun z => e (h.1.trans z)
      have ih := putT_rel (k := k) (b := b) rv t nd.2
      rw [if_neg e]
      have st : storedH (q :: qs) k b u = q :: storedH qs k b u := by
        have at1 : atKey (q :: qs) k = atKey qs k := by unfold atKey; rw [List.find?_cons, decide_eq_false e']
        unfold storedH
        rw [at1]
        split
        · rw [List.map_cons]; unfold putAt; rw [if_neg e']
        · rfl
      rw [st]
      exact .cons h ih
theorem nroom (hr : X.A.units + 64 < cLine) : (nestedKind X.prog X.w).room X.A.in1 := by
  show X.A.in1.units + 8 < cLine
  have : X.A.in1.units = X.A.units + 1 := rfl
  omega
/-! ### d[k], k in d -/
/-- what a dict holds at a key (the keys all of one sort) -/
noncomputable def dLook (d k : EV) (M : Mem) : Option (Option EV) := match dicAt M d with
  | some p => if (isLeaf k = true ∧ leafs p.2 = true) ∨ (isNest k = true ∧ nests p.2 = true) then some (dGet p.2 k) else none
  | none => none
theorem nest_of {k : EV} (h : isNest k = true) : ∃ xs m, k = .tup xs ∧ nkOf k = some m ∧ m.depth ≤ 8 := by
  unfold isNest at h
  cases k with
  | tup xs =>
    dsimp only at h
    cases q : nkOf (.tup xs) with
    | none => rw [q] at h; cases h
    | some m => rw [q] at h; exact ⟨xs, m, rfl, rfl, of_decide_eq_true h⟩
  | _ => cases h
theorem dLook_sim (hu : X.A.units + 64 < cLine) (I : Inv X pins σ H s) (hp : RP (gr X) ρ M H) {d k : EV} {d' k' : V} {u : Value} {o : Option EV} (rd : RV X.K ρ M.length H d d') (rk : RV X.K ρ M.length H k k') (ru : RelV k' u) (e : dLook d k M = some o) :
    ∃ a, d' = .ref a ∧ s.TypeIs (.ref a) "dict" ∧ (∃ ob, s.heap.get? a = some ob ∧ ob.dict = none) ∧ ∃ o' : Option V, (∀ v, o = some v → ∃ v', o' = some v' ∧ RV X.K ρ M.length H v v') ∧ (o = none → o' = none) ∧
      (∀ (A : Around) (hA : A.units = X.A.units) (Q : Value → Shared → Prop) (E : Value → Shared → Prop), (∀ s', Inv X pins σ H s' → Q (.bool o'.isSome) s') → wpAny (model X.prog X.w) A (compareOp .In u (.ref a)) Q E s) ∧
      (∀ (A : Around) (hA : A.units = X.A.units) (Q : Value → Shared → Prop) (E : Value → Shared → Prop), (∀ s', Inv X pins σ H s' → Q (.bool (!o'.isSome)) s') → wpAny (model X.prog X.w) A (compareOp .NotIn u (.ref a)) Q E s) ∧
      (∀ (A : Around) (hA : A.units = X.A.units) (Q : Value → Shared → Prop) (E : Value → Shared → Prop) (v' : V), o' = some v' → (∀ w' s', Inv X pins σ H s' → RelV v' w' → Q w' s') → wpAny (model X.prog X.w) A (getItem (.ref a) u) Q E s) ∧
      (∀ (A : Around) (hA : A.units = X.A.units) (Q : Value → Shared → Prop) (E : Value → Shared → Prop) (z : V) (r : Value), RelV z r → (∀ w' s', Inv X pins σ H s' → RelV (o'.getD z) w' → Q w' s') → wpAny (model X.prog X.w) A (call (.builtin "dict.get") [.ref a, u, r]) Q E s) := by
  unfold dLook at e
  cases q : dicAt M d with
  | none => rw [q] at e; cases e
  | some p =>
    obtain ⟨j, kvs⟩ := p
    rw [q] at e
    dsimp only at e
    obtain ⟨_, hj, ed, w, hw, du⟩ := dic_sim hp rd q
    by_cases c : (isLeaf k = true ∧ leafs kvs = true) ∨ (isNest k = true ∧ nests kvs = true)
    · rw [if_pos c] at e
      have e := Option.some.inj e
      subst e
      refine ⟨ρ j, ed, ?_⟩
      rcases c with ⟨c1, c2⟩ | ⟨c1, c2⟩
      · obtain ⟨lk, hlk⟩ := Option.isSome_iff_exists.mp c1
        obtain ⟨l, ⟨z, hd, vs, rel, dd⟩, rr⟩ := dic_flat I hw du c2
        obtain ⟨g1, g2⟩ := rr.get hlk
        have ki := leaf_is (P := X.prog) (w := X.w) hlk rk ru
        have hnd : ∃ ob, s.heap.get? (ρ j) = some ob ∧ ob.dict = none := by obtain ⟨ob, _, _, h1, h2, _⟩ := dd; exact ⟨ob, h1, h2.2.1⟩
        refine ⟨dd.typeIs, hnd, valV l lk, g1, g2, fun A hA Q E k => ?_, fun A hA Q E k => ?_, fun A hA Q E v' hv k => ?_, fun A hA Q E zz r rz k => ?_⟩
        · refine wpAny_in_of ki hd dd.mapOf ?_
          rw [← (rel.val lk).isSome_eq]
          exact k _ (I.tok _)
        · refine wpAny_notIn_of ki hd dd.mapOf ?_
          rw [← (rel.val lk).isSome_eq]
          exact k _ (I.tok _)
        · obtain ⟨w', hw', rw'⟩ := RelO.some_of (v := v') (o := valueAt vs lk) (by rw [← hv]; exact rel.val lk)
          exact wpAny_getItem_of ki dd.mapOf hw' (k w' _ (I.tok _) rw')
        · refine call_meetsIn PySem.F.slot_dict_get dd.typeIs PySem.F.entry_dict_get (PySem.F.args_dict_get_3 _ _ _) (meets_dict_get_default (exKind X.prog X.w) (ρ j) ki hd r) ⟨_, dd.mapOf, k _ _ (I.tok _) ((rel.val lk).getD rz)⟩
      · obtain ⟨xs, m, rfl, hm, hd8⟩ := nest_of c1
        obtain ⟨l, ⟨z, hd, ys, rel, o, es, ep, h1, h2, h3, h4, h5⟩, rr⟩ := dic_nest I hw du c2
        obtain ⟨g1, g2⟩ := rr.get hm
        have dd : s.heap.DictOfH (nestedKind X.prog X.w) (ρ j) ys := ⟨o, es, ep, h1, h2, h3, h4, tab_of (a := ρ j) I rr rel, h5⟩
        have rk0 := rk
        unfold RV at rk0
        obtain ⟨b, vs, e1, ht, _⟩ := rk0
        subst e1
        cases (show u = Value.ref b from ru)
        have ki : (nestedKind X.prog X.w).is s.heap m b := ⟨nk_is I.hok hm rk rfl, hd8⟩
        have vr := atT_rel rel m
        have rm : ∀ A : Around, A.units = X.A.units → (nestedKind X.prog X.w).room A.in1 := fun A hA => by
          show A.in1.units + 8 < cLine
          have : A.in1.units = A.units + 1 := rfl
          omega
        refine ⟨dd.typeIs, ⟨o, h1, h2.2.1⟩, atT l m, g1, g2, fun A hA Q E k => ?_, fun A hA Q E k => ?_, fun A hA Q E v' hv k => ?_, fun A hA Q E zz r rz k => ?_⟩
        · refine wpAny_in_heap (rm A hA) ki hd dd ?_
          have e3 := vr.isSome_eq
          rw [Option.isSome_map] at e3
          rw [← e3]
          exact k _ (I.tok _)
        · refine wpAny_notIn_heap (rm A hA) ki hd dd ?_
          have e3 := vr.isSome_eq
          rw [Option.isSome_map] at e3
          rw [← e3]
          exact k _ (I.tok _)
        · obtain ⟨w', hw', rw'⟩ := RelO.some_of (v := v') (o := (atKey ys m).map (·.2)) (by rw [← hv]; exact vr)
          obtain ⟨p, hp1, hp2⟩ := Option.map_eq_some_iff.mp hw'
          refine wpAny_getItem_heap (rm A hA) ki dd hp1 ?_
          rw [hp2]
          exact k w' _ (I.tok _) rw'
        · exact call_meetsIn PySem.F.slot_dict_get dd.typeIs PySem.F.entry_dict_get (PySem.F.args_dict_get_3 _ _ _) (meetsH_dict_get_default (nestedKind X.prog X.w) (ρ j) b hd r) ⟨rm A hA, m, ys, ki, dd, k _ _ (I.tok _) (vr.getD rz)⟩
    · rw [if_neg c] at e; cases e
/-- the canonical reading of a function of two values -/
def rF2 (X : Cx) (W : WX) (F : EV → EV → Mem → Res EV) : V → V → Hp → VK → Prop := fun x' y' H Q => ∃ (σ : L2.St) (ρ : Nat → Addr) (M : Mem) (x y : EV), RP (gr X) ρ M H ∧ RV X.K ρ M.length H x x' ∧ RV X.K ρ M.length H y y' ∧ PostE (gr X) W σ ρ M H (F x y M) Q
theorem ops2 (X : Cx) (W : WX) (F : EV → EV → Mem → Res EV) : OpS (gr X) W (rF2 X W F) F := fun σ ρ M H x y x' y' Q rp rx ry h => ⟨σ, ρ, M, x, y, rp, rx, ry, h⟩
noncomputable def cInK (neg : Bool) : EV → EV → Mem → Res EV := fun x y M => match dLook y x M with
  | some o => .ok (.bl (if neg = true then !o.isSome else o.isSome)) M
  | none => .bad
theorem isSome_of {o : Option EV} {o' : Option V} {P : EV → V → Prop} (h1 : ∀ v, o = some v → ∃ v', o' = some v' ∧ P v v') (h2 : o = none → o' = none) : o'.isSome = o.isSome := by
  cases o with
  | none => rw [h2 rfl]; rfl
  | some v => obtain ⟨v', e, _⟩ := h1 v rfl; rw [e]; rfl
theorem scInK (hu : X.A.units + 64 < cLine) : SCm X W .In (cInK false) := by
  refine ⟨rF2 X W (cInK false), fun pins s σ H x' y' v u Q I rx ry ⟨σ0, ρ, M, x, y, rp, r1, r2, h⟩ => ?_, ops2 X W _⟩
  unfold cInK at h
  cases q : dLook y x M with
  | none => rw [q] at h; exact h.elim
  | some o =>
    rw [q] at h
    obtain ⟨a, ea, ty, nd, o', h1, h2, w1, w2, w3, w4⟩ := dLook_sim hu I rp r2 r1 rx q
    subst ea
    cases (show u = Value.ref a from ry)
    refine w1 X.A rfl _ _ fun s' I' => ⟨.bl o'.isSome, H, I', rfl, ?_⟩
    rw [isSome_of h1 h2]
    exact okB h rp
theorem scNotInK (hu : X.A.units + 64 < cLine) : SCm X W .NotIn (cInK true) := by
  refine ⟨rF2 X W (cInK true), fun pins s σ H x' y' v u Q I rx ry ⟨σ0, ρ, M, x, y, rp, r1, r2, h⟩ => ?_, ops2 X W _⟩
  unfold cInK at h
  cases q : dLook y x M with
  | none => rw [q] at h; exact h.elim
  | some o =>
    rw [q] at h
    obtain ⟨a, ea, ty, nd, o', h1, h2, w1, w2, w3, w4⟩ := dLook_sim hu I rp r2 r1 rx q
    subst ea
    cases (show u = Value.ref a from ry)
    refine w2 X.A rfl _ _ fun s' I' => ⟨.bl (!o'.isSome), H, I', rfl, ?_⟩
    rw [isSome_of h1 h2]
    exact okB h rp
noncomputable def getD : EV → EV → Mem → Res EV := fun x y M => match dLook x y M with
  | some (some v) => .ok v M
  | _ => .bad
theorem ixDic (hu : X.A.units + 64 < cLine) : IxR X (rF2 X W getD) := by
  rintro value slice pins s σ H x' y' v u Q I rx ry ⟨σ0, ρ, M, x, y, rp, r1, r2, h⟩ hs
  unfold getD at h
  cases q : dLook x y M with
  | none => rw [q] at h; exact h.elim
  | some o =>
    rw [q] at h
    cases o with
    | none => exact h.elim
    | some z =>
      obtain ⟨a, ea, ty, nd, o', h1, h2, w1, w2, w3, w4⟩ := dLook_sim hu I rp r1 r2 ry q
      subst ea
      cases (show v = Value.ref a from rx)
      obtain ⟨z', ez, rz⟩ := h1 z rfl
      have fin : wpAny (model X.prog X.w) X.A (getItem (.ref a) u) (fun w' s' => EP X pins σ Q w' s') X.xe s := w3 X.A rfl _ _ z' ez fun w' s' I' rw' => ⟨z', H, I', rw', okE h rp rz⟩
      unfold subscriptTail
      refine wpAny_bind ?_
      rw [getitemInPython_of_ne ty.not_modules]
      refine wpAny_bind (wpAny_specialOf ty PySem.F.slot_dict_getitem.lookup ?_)
      have fin2 : wpAny (model X.prog X.w) X.A (subscripted slice false (.ref a) u) (fun r s₃ => wpAny (model X.prog X.w) X.A (letTemporaryGo value (.ref a) r >>= fun _ => pure r) (EP X pins σ Q) X.xe s₃) X.xe s := by
        rw [hs]
        exact wpAny_operating (wpAny_mono fin (fun r s₃ h₃ => wpAny_bind (wpAny_letTemporaryGo (wpAny_pure h₃))) fun _ _ x => x)
      first
        | exact wpAny_pure (wpAny_bind fin2)
        | exact wpAny_bind (wpAny_pure (wpAny_bind fin2))
        | exact wpAny_bind fin2
end
end WS

set_option Elab.async false
set_option linter.all false
set_option maxRecDepth 100000
/-! The simulation: dicts made and written, stores by values, isinstance. -/
namespace WS
open PySem PySem.Spec PyProof.Rows L2
open Classical
theorem phF_stays {G : Gr} {a : Addr} {l : List (Leaf × V)} {h1 h2 : Heap} (q : phF G a l h1) (k : ∀ o, h1.get? a = some o → h2.get? a = some o) : phF G a l h2 := by
  obtain ⟨z, hd, vs, rel, o, es, ep, g, r⟩ := q
  exact ⟨z, hd, vs, rel, o, es, ep, k o g, r⟩
theorem phT_stays {G : Gr} {a : Addr} {l : List (NestedKey × Addr × V)} {h1 h2 : Heap} (q : phT G a l h1) (k : ∀ o, h1.get? a = some o → h2.get? a = some o) : phT G a l h2 := by
  obtain ⟨z, hd, vs, rel, o, es, ep, g, r⟩ := q
  exact ⟨z, hd, vs, rel, o, es, ep, k o g, r⟩
theorem phF_ok {G : Gr} {H : Hp} {a : Addr} {l : List (Leaf × V)} {h : Heap} (q : phF G a l h) : ObjOk G.P G.w H h a (.ext (phF G a l)) :=
  ⟨q, (let ⟨_, _, _, _, o, _, _, g, _⟩ := q; ⟨o, g⟩), fun _ _ x k => phF_stays x k⟩
theorem phT_ok {G : Gr} {H : Hp} {a : Addr} {l : List (NestedKey × Addr × V)} {h : Heap} (q : phT G a l h) : ObjOk G.P G.w H h a (.ext (phT G a l)) :=
  ⟨q, (let ⟨_, _, _, _, o, _, _, g, _⟩ := q; ⟨o, g⟩), fun _ _ x k => phT_stays x k⟩
theorem dPut_len (k v : EV) : ∀ kvs : List (EV × EV), (dPut kvs k v).length ≤ kvs.length + 1
  | [] => by unfold dPut; simp
  | p :: r => by
    unfold dPut
    by_cases e : p.1 = k
    · rw [if_pos e, List.length_cons, List.length_cons]; omega
    · rw [if_neg e, List.length_cons, List.length_cons]; have := dPut_len k v r; omega
def sortOk (kvs : List (EV × EV)) (k : EV) : Prop := (isLeaf k = true ∧ leafs kvs = true) ∨ (isNest k = true ∧ nests kvs = true)
section
variable {X : Cx} {W : WX} {pins : List (Addr × Obj)} {σ : L2.St} {ρ : Nat → Addr} {M : Mem} {H : Hp} {s : Shared}
/-- a dict that is tracked at D is written: by a store, by a comprehension -/
theorem dic_put (hu : X.A.units + 64 < cLine) (I : Inv X pins σ H s) {D : Addr} {w : HO} {kvs : List (EV × EV)} {k v : EV} {k' v' : V} {u r : Value} (hD : H D = some w) (du : DicU (gr X) ρ M.length H D kvs w)
    (rk : RV X.K ρ M.length H k k') (ru : RelV k' u) (rv : RV X.K ρ M.length H v v') (rr : RelV v' r) (hz : kvs.length < sizeLine) (c : sortOk kvs k) {Q : Unit → Shared → Prop} {E : Value → Shared → Prop}
    (h : ∀ (s' : Shared) (w' : HO), Inv X pins σ (upd H D w') s' → (∃ f, w' = .ext f) → (∀ ρ' n' H', Carry X.K ρ M.length H ρ' n' H' → DicU (gr X) ρ' n' H' D (dPut kvs k v) w') → Q () s') :
    wpAny (model X.prog X.w) X.A (setItem (.ref D) u r) Q E s ∧ wpAny (model X.prog X.w) X.A (dictSet D u r) Q E s := by
  have hw : H D = some w ∨ ∃ o, H D = some (.frz o w) := .inl hD
  have mu : Mut (H D) := by
    obtain ⟨f, rfl⟩ := du.ext
    rw [hD]; exact True.intro
  rcases c with ⟨c1, c2⟩ | ⟨c1, c2⟩
  · obtain ⟨lk, hlk⟩ := Option.isSome_iff_exists.mp c1
    obtain ⟨l, ⟨z, hd, vs, rel, dd⟩, rl⟩ := dic_flat I hw du c2
    have ki := leaf_is (P := X.prog) (w := X.w) hlk rk ru
    have nd : (l.map (·.1)).Nodup := by
      obtain ⟨_, _, _, _, _, _, _, _, hn⟩ := id dd
      rw [rel.keys]; exact hn
    have ll := rl.length
    have hzv : vs.length ≤ sizeLine := by rw [← rel.length]; exact z
    have lp := length_putK l lk v'
    have hl2 : (putK l lk v').length ≤ sizeLine := by omega
    have fin : ∀ h', h'.DictOf (exKind X.prog X.w) D (stored vs lk r) → Heap.SameBut D s.heap h' → Q () { s with heap := h', toks := s.toks + 1 } := fun h' dd' hs => by
      have q : phF (gr X) D (putK l lk v') h' := ⟨hl2, hd, _, rel.put lk rr, dd'⟩
      have he : ∃ q, h'.get? D = some q := let ⟨q, _, _, hq, _⟩ := dd'; ⟨q, hq⟩
      refine h _ _ (d_write I mu hs he (phF_ok (G := gr X) q)) ⟨_, rfl⟩ fun ρ' n' H' cc => .inl ⟨_, rfl, ?_⟩
      exact RDF.put hlk (rv.carry cc) (rl.carry cc) nd
    exact ⟨wpAny_setItem_pairs (hsz := hzv) ki dd fin, wpAny_dictSet_pairs (hsz := hzv) ki dd fin⟩
  · obtain ⟨xs, m, rfl, hm, hd8⟩ := nest_of c1
    obtain ⟨l, ⟨z, hd, ys, rel, o, es, ep, h1, h2, h3, h4, h5⟩, rl⟩ := dic_nest I hw du c2
    have dd : s.heap.DictOfH (nestedKind X.prog X.w) D ys := ⟨o, es, ep, h1, h2, h3, h4, tab_of (a := D) I rl rel, h5⟩
    have rk0 := rk
    unfold RV at rk0
    obtain ⟨b, vs, e1, ht, _⟩ := rk0
    subst e1
    cases (show u = Value.ref b from ru)
    have ki : (nestedKind X.prog X.w).is s.heap m b := ⟨nk_is I.hok hm rk rfl, hd8⟩
    have ll := rl.length
    have hzv : ys.length ≤ sizeLine := by rw [← Paired.length rel]; exact z
    have fin : ∀ h' tk, h'.DictOfH (nestedKind X.prog X.w) D (storedH ys m b r) → Heap.SameBut D s.heap h' → Q () { s with heap := h', toks := tk } := fun h' tk dd' hs => by
      obtain ⟨o', es', ep', g1, g2, g3, g4, _, g5⟩ := dd'
      have rel' := putT_rel (k := m) (b := b) rr rel h5
      have rl' : ∀ ρ' n' H', Carry X.K ρ M.length H ρ' n' H' → RDT X.K ρ' n' H' (dPut kvs (.tup xs) v) (putT l m b v') := fun ρ' n' H' cc => RDT.put hm hd8 (rk.carry cc) (rv.carry cc) (rl.carry cc)
      have lp : (putT l m b v').length ≤ sizeLine := by
        have := (rl' _ _ _ ⟨Nat.le_refl _, fun _ _ => rfl, fun _ _ z => z, fun _ _ _ z => z⟩).length
        have := dPut_len (.tup xs) v kvs
        omega
      have q : phT (gr X) D (putT l m b v') h' := ⟨lp, hd, _, rel', o', es', ep', g1, g2, g3, g4, g5⟩
      exact h _ _ (d_write I mu hs ⟨o', g1⟩ (phT_ok (G := gr X) q)) ⟨_, rfl⟩ fun ρ' n' H' cc => .inr ⟨_, rfl, rl' ρ' n' H' cc⟩
    have rm : (nestedKind X.prog X.w).room X.A := by
      show X.A.units + 8 < cLine
      omega
    exact ⟨wpAny_setItem_heap (hsz := hzv) (nroom hu) ki dd fun h' => fin h' _, wpAny_dictSet_heap (hsz := hzv) rm ki dd fun h' => fin h' _⟩
end

/-! ### o[i] = v by values -/
abbrev FSt := EV → EV → EV → Mem → Option Mem
structure SPut (X : Cx) (F : FSt) : Prop where
  ex : ∃ t, PSet X t ∧ ∀ ρ M H o i v o' i' v' (Q : Hp → Prop) M', RP (gr X) ρ M H → RV X.K ρ M.length H o o' → RV X.K ρ M.length H i i' → RV X.K ρ M.length H v v' → F o i v M = some M' → (∀ H', After ρ M H ρ M' H' → RP (gr X) ρ M' H' → Q H') → t o' i' v' H Q
def altP (F F' : FSt) : FSt := fun o i v M => match F o i v M with
  | some M' => some M'
  | none => F' o i v M
def putLV : FSt := fun o i v M => match isRefL M o, i with
  | some p, .int i => (match ixE p.2.length i with
    | some j => some (M.set p.1 (.lst (p.2.set j v)))
    | none => none)
  | _, _ => none
noncomputable def putDV : FSt := fun o i v M => match o with
  | .ref k => (match M[k]? with
    | some (.dic kvs) => if sortOk kvs i ∧ kvs.length < sizeLine then some (M.set k (.dic (dPut kvs i v))) else none
    | _ => none)
  | _ => none
noncomputable def putV : FSt := altP putLV putDV
section
variable {X : Cx} {W : WX}
theorem SPut.alt {F F' : FSt} (a : SPut X F) (b : SPut X F') : SPut X (altP F F') := by
  obtain ⟨t, a1, a2⟩ := a
  obtain ⟨u, b1, b2⟩ := b
  refine ⟨fun o i v H Q => t o i v H Q ∨ u o i v H Q, fun pins s σ H o i v ov iv w Q I ro ri rv h => h.elim (a1 pins s σ H o i v ov iv w Q I ro ri rv) (b1 pins s σ H o i v ov iv w Q I ro ri rv), fun ρ M H o i v o' i' v' Q M' rp ro ri rv e k => ?_⟩
  unfold altP at e
  cases q : F o i v M with
  | some M1 => rw [q] at e; cases e; exact .inl (a2 ρ M H o i v o' i' v' Q _ rp ro ri rv q k)
  | none => rw [q] at e; exact .inr (b2 ρ M H o i v o' i' v' Q M' rp ro ri rv e k)
theorem spL : SPut X putLV := ⟨_, set_list, fun ρ M H o i v o' i' v' Q M' rp ro ri rv e k => by
  unfold putLV at e
  cases q : isRefL M o with
  | none => rw [q] at e; cases e
  | some kx =>
    obtain ⟨j, xs⟩ := kx
    rw [q] at e
    cases i with
    | int ii =>
      dsimp only at e
      obtain ⟨_, hk, hM, vs, e1, hl, rr⟩ := isRefL_sim rp ro q
      cases qj : ixE xs.length ii with
      | none => rw [qj] at e; cases e
      | some m =>
        rw [qj] at e
        cases e
        unfold RV at ri
        obtain ⟨af, rpw⟩ := write rp hk (fun l z => by rw [hM] at z; cases z) (.lst (vs.set m v')) (.lst (xs.set m v)) fun c => ⟨_, upd_same, RVs.set (rv.carry c) m (rr.carry c)⟩
        exact ⟨ρ j, vs, ii, m, e1, ri, hl, by rw [rr.length]; exact qj, k _ af rpw⟩
    | _ => cases e⟩
theorem spD (hu : X.A.units + 64 < cLine) : SPut X putDV := by
  refine ⟨fun o' i' v' H Q => ∃ (ρ : Nat → Addr) (M : Mem) (o i v : EV) (M' : Mem), RP (gr X) ρ M H ∧ RV X.K ρ M.length H o o' ∧ RV X.K ρ M.length H i i' ∧ RV X.K ρ M.length H v v' ∧ putDV o i v M = some M' ∧ (∀ H', After ρ M H ρ M' H' → RP (gr X) ρ M' H' → Q H'),
    fun pins s σ H o' i' v' ov iv w Q I r1 r2 r3 ⟨ρ, M, o, i, v, M', rp, ro, ri, rv, e, k⟩ => ?_, fun ρ M H o i v o' i' v' Q M' rp ro ri rv e k => ⟨ρ, M, o, i, v, M', rp, ro, ri, rv, e, k⟩⟩
  unfold putDV at e
  cases o with
  | ref j =>
    dsimp only at e
    cases q : M[j]? with
    | none => rw [q] at e; cases e
    | some ob =>
      rw [q] at e
      cases ob with
      | dic kvs =>
        dsimp only at e
        by_cases c : sortOk kvs i ∧ kvs.length < sizeLine
        · rw [if_pos c] at e
          cases e
          obtain ⟨u, hH, du⟩ := rp.obj j _ q
          have hj : j < M.length := (List.getElem?_eq_some_iff.mp q).1
          unfold RV at ro
          obtain ⟨_, rfl⟩ := ro
          cases (show ov = Value.ref (ρ j) from r1)
          refine (dic_put hu I hH du ri r2 rv r3 c.2 c.1 fun s' w' I' _ dw => ?_).1
          obtain ⟨af, rpw⟩ := write rp hj (fun l z => by rw [q] at z; cases z) w' (.dic (dPut kvs i v)) fun cc => ⟨w', upd_same, dw _ _ _ cc⟩
          exact ⟨_, I', k _ af rpw⟩
        · rw [if_neg c] at e; cases e
      | _ => cases e
  | _ => cases e
theorem spV (hu : X.A.units + 64 < cLine) : SPut X putV := spL.alt (spD hu)
/-- o[i] = e -/
def sSto (F : FSt) (f : FE) (go gi : FE) : FS := fun σ M => (f σ M).thenS σ fun v M1 => (go σ M1).thenS σ fun o M2 => (gi σ M2).thenS σ fun i M3 => match F o i v M3 with
  | some M4 => .nx σ M4
  | none => .bad
theorem ssSto {F : FSt} {o i e : Expr} {fo fi fe : FE} {p2 pos : Pos} (hF : SPut X F) (he : SE X W e fe) (ho : SE X W o fo) (hi : SE X W i fi)
    (ha : ∀ v, assign (.Subscript o i p2) X.env v = (do
      let ov ← holding [v] (eval o X.env)
      let iv ← holding [v, ov] (eval i X.env)
      standAt p2
      holding [v, ov, iv] (setItem ov iv v)
      release [v, ov, iv] []) := by intro _; rfl)
    (hs : swapsWithSole [.Subscript o i p2] e pos.line X.env = pure false := by rfl) (hw : swappedStores [.Subscript o i p2] e X.env = pure none := by rfl)
    (h1 : (assignEach [.Subscript o i p2] X.env).map (·.2) = [assign (.Subscript o i p2) X.env] := by rfl) : SS X W (.Assign [.Subscript o i p2] e pos) (sSto F fe fo fi) := by
  obtain ⟨t, t1, t2⟩ := hF
  obtain ⟨te, e1, e2⟩ := he
  obtain ⟨to, o1, o2⟩ := ho
  obtain ⟨ti, i1, i2⟩ := hi
  refine ⟨_, ps_asg e1 (pg_sub o1 i1 t1 ha) hs hw h1, fun ρ σe σ M H D rs rp h => ?_⟩
  refine e2 ρ σe σ M H _ rs rp (PostS.bindR rs rp h fun v M1 ρ1 H1 v1 _ a1 rp1 r1 k1 => ?_)
  have rs1 := rs.carry (a1.carry rp)
  refine o2 ρ1 σe σ M1 H1 _ rs1 rp1 (PostS.bindR rs1 rp1 k1 fun ov M2 ρ2 H2 ov2 _ a2 rp2 r2 k2 => ?_)
  have rs2 := rs1.carry (a2.carry rp1)
  refine i2 ρ2 σe σ M2 H2 _ rs2 rp2 (PostS.bindR rs2 rp2 k2 fun iv M3 ρ3 H3 iv3 _ a3 rp3 r3 k3 => ?_)
  have rs3 := rs2.carry (a3.carry rp2)
  cases q : F ov iv v M3 with
  | none => rw [q] at k3; exact k3.elim
  | some M4 =>
    rw [q] at k3
    exact t2 ρ3 M3 H3 ov iv v ov2 iv3 v1 _ M4 rp3 (r2.carry (a3.carry rp2)) r3 ((r1.carry (a2.carry rp1)).carry (a3.carry rp2)) q fun H' af rp' => k3 ρ3 H' σ af rp' (rs3.carry (af.carry rp3))

/-! ### {} and what else stands as a new dict -/
theorem phF_new {G : Gr} (h : Heap) (hb : sysModules < h.objs.size) : phF G h.objs.size [] (h.push { cls := .type "dict", data := .dict #[] }) :=
  ⟨Nat.zero_le _, beq_eq_false_iff_ne.mpr (Ne.symm (Nat.ne_of_lt hb)), [], .nil, Heap.DictOf.new h⟩
def eDNew : FE := fun _ M => .ok (.ref M.length) (M ++ [.dic []])
theorem sDNew {pos : Pos} : SE X W (.Dict [] [] pos) eDNew := by
  refine ⟨fun σ H Q => ∀ p, H p = none → Q (.ref p) (upd H p (.ext (phF (gr X) p []))), ⟨fun pins s σ H Q I h => ?_⟩, fun ρ σe σ M H Q rs rp h p np => ?_⟩
  · exact wpAny_Dict_empty ⟨.ref s.heap.objs.size, _, I.laid (a := s.heap.objs.size) (o := .ext (phF (gr X) s.heap.objs.size [])) (t' := s.toks) (fun _ _ q => Heap.get?_push_of_some _ q) (Nat.le_refl _) (phF_ok (G := gr X) (phF_new s.heap I.big)), rfl, h _ (I.hok.fresh (Nat.le_refl _))⟩
  · obtain ⟨a, rp'⟩ := alloc rp np (.ext (phF (gr X) p [])) (.dic []) fun c => ⟨_, upd_same, .inl ⟨[], rfl, rfl⟩⟩
    exact h _ _ _ a rp' (by unfold RV; exact ⟨by simp, by rw [ext_self]⟩)
/-! ### len(d) -/
def lenD (x : EV) (M : Mem) : Res EV := match dicAt M x with
  | some p => if leafs p.2 = true ∨ nests p.2 = true then .ok (.int p.2.length) M else .bad
  | none => .bad
def rF1 (X : Cx) (W : WX) (F : EV → Mem → Res EV) : List V → Hp → VK → Prop := fun vs H Q => ∃ (σ : L2.St) (ρ : Nat → Addr) (M : Mem) (x : EV) (x' : V), vs = [x'] ∧ RP (gr X) ρ M H ∧ RV X.K ρ M.length H x x' ∧ PostE (gr X) W σ ρ M H (F x M) Q
theorem cs1F (X : Cx) (W : WX) (F : EV → Mem → Res EV) : CS (gr X) W (rF1 X W F) (f1 F) := cs1 fun σ ρ M H x v Q rp r h => ⟨σ, ρ, M, x, v, rfl, rp, r, h⟩
theorem sbLenD : SB X W (.builtin "len") (f1 lenD) := by
  refine ⟨rF1 X W lenD, fun pins s σ H xs us Q I r ⟨σ0, ρ, M, x, x', e0, rp, rx, h⟩ => ?_, cs1F X W lenD⟩
  subst e0
  cases r with
  | cons r1 r2 =>
    cases r2
    unfold lenD at h
    cases q : dicAt M x with
    | none => rw [q] at h; exact h.elim
    | some p =>
      obtain ⟨j, kvs⟩ := p
      rw [q] at h
      dsimp only at h
      obtain ⟨_, hj, e1, w, hw, du⟩ := dic_sim rp rx q
      subst e1
      cases (show _ = Value.ref (ρ j) from r1)
      by_cases c : leafs kvs = true ∨ nests kvs = true
      · rw [if_pos c] at h
        rcases c with c | c
        · obtain ⟨l, ⟨z, hd, vs, rel, dd⟩, rl⟩ := dic_flat I hw du c
          have e2 : vs.length = kvs.length := by rw [← rel.length, rl.length]
          rw [sizeLine_eq] at z
          refine call_len_dict hd dd (by rw [← rel.length]; omega) ?_
          rw [e2]
          exact ⟨.int kvs.length, H, I.tok _, ⟨_, rfl⟩, okI h rp⟩
        · obtain ⟨l, ⟨z, hd, ys, rel, o, es, ep, h1, h2, h3, h4, h5⟩, rl⟩ := dic_nest I hw du c
          have e2 : es.size = kvs.length := by rw [size_of_entries h4, ← Paired.length rel, rl.length]
          have ty : s.TypeIs (.ref (ρ j)) "dict" := ⟨o, h1, h2.1⟩
          have lk : kvs.length ≤ sizeLine := by rw [← rl.length]; exact z
          refine PyProof.Rows.call_len_slot (n := kvs.length) ty PySem.F.slot_dict_len (fun Q' hq => call_len_raw hd ⟨o, h1, h2, h3⟩ (by rw [e2]; exact hq)) (by omega) (by rw [sizeLine_eq] at lk; omega) ?_
          exact ⟨.int kvs.length, H, I.tok _, ⟨_, rfl⟩, okI h rp⟩
      · rw [if_neg c] at h; exact h.elim
end
end WS

set_option Elab.async false
set_option linter.all false
set_option maxRecDepth 100000
/-! The simulation: isinstance, d.get. -/
namespace WS
open PySem PySem.Spec PyProof.Rows L2
open Classical
/-- what isinstance asks of a class of the program -/
def tNames : List String := ["NoneType", "bool", "int", "str", "tuple", "list", "dict"]
structure ClsI (K : PySem.W.Frag) (C : Addr) : Prop where
  cl : Cls K C
  ha : PySem.W.findIn K (.ref C) "__class__" = some (some (.builtin "object.__class__"))
  hn : PySem.W.specialIn K (.builtin "object.__class__") "__get__" = some (some (.builtin "getset_descriptor.__get__"))
  htk : PySem.W.takesIn K (.builtin "object.__class__") = some true
  hm : PySem.W.mroIn K C (.type "object") = some true
/-- a value's class -/
def tagV (own : List Addr) (M : Mem) : EV → Option Value
  | .non => some (.type "NoneType")
  | .bl _ => some (.type "bool")
  | .int _ => some (.type "int")
  | .str _ => some (.type "str")
  | .tup _ => some (.type "tuple")
  | .sl _ => some (.type "list")
  | .ref k => match M[k]? with
    | some (.lst _) => some (.type "list")
    | some (.dic _) => some (.type "dict")
    | some (.lck _) => some (.type "dict")
    | some (.ins C _) => if C ∈ own then some (.ref C) else none
    | none => none
  | _ => none
inductive TyE (G : Gr) (K : PySem.W.Frag) (H : Hp) : V → Value → Prop where
  | base {x : V} {t : Value} (h : TyX K H x t) : TyE G K H x t
  | dic {a : Addr} {w : HO} (h : H a = some w ∨ ∃ o, H a = some (.frz o w)) (d : (∃ l, w = .ext (phF G a l)) ∨ ∃ l, w = .ext (phT G a l)) : TyE G K H (.ref a) (.type "dict")
section
variable {X : Cx} {W : WX} {pins : List (Addr × Obj)} {σ : L2.St} {ρ : Nat → Addr} {M : Mem} {H : Hp} {s : Shared}
theorem tag_sim {own : List Addr} (ho : ∀ C ∈ own, ClsI X.K C) (hp : RP (gr X) ρ M H) {x : EV} {v : V} {t : Value} (r : RV X.K ρ M.length H x v) (e : tagV own M x = some t) : TyE (gr X) X.K H v t := by
  cases x with
  | non => unfold tagV at e; cases e; unfold RV at r; subst r; exact .base (.base .non)
  | bl b => unfold tagV at e; cases e; unfold RV at r; subst r; exact .base (.base (.bl b))
  | int i => unfold tagV at e; cases e; unfold RV at r; subst r; exact .base (.base (.int i))
  | str i => unfold tagV at e; cases e; unfold RV at r; subst r; exact .base (.base (.str i))
  | tup xs => unfold tagV at e; cases e; unfold RV at r; obtain ⟨a, vs, rfl, h1, _⟩ := r; exact .base (.base (.tup h1))
  | sl xs =>
    unfold tagV at e; cases e; unfold RV at r
    obtain ⟨a, rfl, h⟩ := r
    rcases h with ⟨o, h⟩ | ⟨o, its, n, h1, h2, _⟩
    · exact .base (.base (.frz h))
    · exact .base (.kList h1 h2)
  | ref k =>
    unfold tagV at e
    dsimp only at e
    unfold RV at r
    obtain ⟨_, rfl⟩ := r
    cases q : M[k]? with
    | none => rw [q] at e; cases e
    | some o =>
      rw [q] at e
      have ob := hp.obj k _ q
      cases o with
      | lst xs => cases e; obtain ⟨vs, h1, _⟩ := ob; exact .base (.base (.lst h1))
      | dic kvs =>
        cases e
        obtain ⟨u, h1, d⟩ := ob
        exact .dic (.inl h1) (d.elim (fun ⟨l, e, _⟩ => .inl ⟨l, e⟩) fun ⟨l, e, _⟩ => .inr ⟨l, e⟩)
      | lck kvs =>
        cases e
        obtain ⟨b, u, h1, d⟩ := ob
        exact .dic (.inr ⟨b, h1⟩) (d.elim (fun ⟨l, e, _⟩ => .inl ⟨l, e⟩) fun ⟨l, e, _⟩ => .inr ⟨l, e⟩)
      | ins C fs =>
        dsimp only at e
        by_cases c : C ∈ own
        · rw [if_pos c] at e
          cases e
          obtain ⟨dx, vs, h1, _⟩ := ob
          have cc := ho C c
          exact .base (.base (.ins h1 cc.cl cc.ha cc.hn cc.htk cc.hm))
        · rw [if_neg c] at e; cases e
  | _ => unfold tagV at e; cases e
theorem kit_ofE {x : V} {u t : Value} (I : Inv X pins σ H s) (rx : RelV x u) (ty : TyE (gr X) X.K H x t) : ∃ P : Heap → Prop, PySem.W.KitX X.K u t P ∧ P s.heap ∧ u ≠ .builtin "__main__.__loader__#opaque" := by
  cases ty with
  | base h => exact kit_of I rx h
  | @dic a w h d =>
    cases (show u = Value.ref a from rx)
    have fin : ∃ o : Obj, s.heap.get? a = some o ∧ o.cls = .type "dict" := by
      rcases d with ⟨l, rfl⟩ | ⟨l, rfl⟩
      · obtain ⟨_, _, vs, _, o, _, _, g1, g2, _⟩ := dic_holds I h
        exact ⟨o, g1, g2.1⟩
      · obtain ⟨_, _, vs, _, o, _, _, g1, g2, _⟩ := dic_holds I h
        exact ⟨o, g1, g2.1⟩
    obtain ⟨o, g1, g2⟩ := fin
    exact ⟨_, PySem.W.kitx_dict, ⟨o, g1, g2⟩, fun z => nomatch z⟩
/-- isinstance(x, T) -/
def isiV (own : List Addr) (ans : Value → Option Bool) : EV → Mem → Res EV := fun x M => match tagV own M x with
  | some t => (match ans t with
    | some b => .ok (.bl b) M
    | none => .bad)
  | none => .bad
def isiF (own : List Addr) (c : EV) (ans : Value → Option Bool) : Fn := fun xs M => match xs with
  | [x, _] => isiV own ans x M
  | _ => .bad
def rIsiE (G : Gr) (K : PySem.W.Frag) (c : V) (u : Value) (ans : Value → Option Bool) : List V → Hp → VK → Prop := fun xs H Q => ∃ (x : V) (t : Value) (b : Bool), xs = [x, c] ∧ TyE G K H x t ∧ ans t = some b ∧ Q (.bl b) H
theorem sIsi {x : Str} {p p2 pos : Pos} {e : Expr} {fe : FE} {own : List Addr} {ce : EV} {c : V} {u : Value} {ans : Value → Option Bool} {te : Expr} (ho : ∀ C ∈ own, ClsI X.K C) (hc : ∀ K ρ n H v, RV K ρ n H ce v → v = c) (hcu : ClsV c u) (hans : ∀ t b, ans t = some b → PySem.W.kitOne X.K t u = some b)
    (he : SE X W e fe) (ht : SE X W te (eC ce)) (hm : X.mg "isinstance" = none) (hg : Gl X "isinstance" := by rfl)
    (hs : starEach [e, te] X.env = (false, eval e X.env) :: starEach [te] X.env := by rfl) (hs2 : starEach [te] X.env = (false, eval te X.env) :: starEach [] X.env := by rfl) (hpl : (backTo pos (starEach [te] X.env)).any (·.1) = false := by rfl) : SE X W (.Call (.Name "isinstance" p) [e, te] [] pos) (e1 (isiV own ans) fe) := by
  obtain ⟨t, h1, h2⟩ := saCons he (saCons ht saNil hs2) hs
  have cr : CallR X (.builtin "isinstance") (rIsiE (gr X) X.K c u ans) := fun pins s σ H xs us Q I r h => by
    obtain ⟨y, t, b, rfl, ty, ea, q⟩ := h
    cases r with
    | cons r1 r2 =>
      cases r2 with
      | cons r2 r3 =>
        cases r3
        have e2 := hcu.eq r2
        subst e2
        obtain ⟨P, Z, p, hx⟩ := kit_ofE I r1 ty
        exact PySem.W.kia_one Z I.kIn p (hans t b ea) hx fun tk => ⟨.bl b, H, I.tok tk, rfl, q⟩
  refine ⟨_, pe_callB cr hg hm (by decide +kernel) h1 (by decide) (by decide) hs hpl, fun ρ σe σ M H Q rs rp h => ?_⟩
  refine h2 ρ σe σ M H _ rs rp (PostR.bind (R := fun K ρ n H => RVs K ρ n H) (R' := fun K ρ n H => RV K ρ n H) (Q := Q) (g := fun xs M => isiF own ce ans xs M) ?_ fun v M1 ρ1 H1 v1 ev a rp1 r k => ?_)
  · have : (aCons fe (aCons (eC ce) aNil) σe M).bind (fun xs M => isiF own ce ans xs M) = e1 (isiV own ans) fe σe M := by
      unfold aCons e1
      cases fe σe M <;> rfl
    rw [this]; exact h
  · unfold isiF at k
    split at k
    · rename_i y z
      unfold isiV at k
      cases q : tagV own M1 y with
      | none => rw [q] at k; exact k.elim
      | some t =>
        rw [q] at k
        dsimp only at k
        cases q2 : ans t with
        | none => rw [q2] at k; exact k.elim
        | some b =>
          rw [q2] at k
          unfold RVs RVs RVs at r
          obtain ⟨u1, s1, rfl, c1, u2, s2, rfl, c2, rfl⟩ := r
          have ez : z = ce := by
            unfold aCons at ev
            cases qf : fe σe M with
            | bad => rw [qf] at ev; cases ev
            | err _ _ => rw [qf] at ev; cases ev
            | ok v0 M0 =>
              rw [qf] at ev
              have ev : Res.ok [v0, ce] M0 = Res.ok [y, z] M1 := ev
              injection ev with e1 e2
              injection e1 with _ e3
              injection e3 with e4 _
              exact e4.symm
          subst ez
          exact ⟨u1, t, b, by rw [hc _ _ _ _ _ c2], tag_sim ho rp1 c1 q, q2, okB k rp1⟩
    · exact k.elim
/-! .. for built-in classes -/
def ansB (T : String) (own : List Addr) : Value → Option Bool := fun t => match t with
  | .type a => kitB a T
  | .ref C => if C ∈ own then some false else none
  | _ => none
theorem sIsiB {T : String} {x : Str} {p p2 pos : Pos} {e : Expr} {fe : FE} {own : List Addr} (ho : ∀ C ∈ own, ClsI X.K C) (hno : ∀ C ∈ own, PySem.W.kitOne X.K (.ref C) (.type T) = some false) (he : SE X W e fe) (hmx : X.mg x = none) (hvx : bootBuiltins x = some (.type T)) (hm : X.mg "isinstance" = none) (hgx : Gl X x := by rfl) (hg : Gl X "isinstance" := by rfl)
    (hs : starEach [e, .Name x p2] X.env = (false, eval e X.env) :: starEach [.Name x p2] X.env := by rfl) (hs2 : starEach [.Name x p2] X.env = (false, eval (.Name x p2) X.env) :: starEach [] X.env := by rfl) (hpl : (backTo pos (starEach [.Name x p2] X.env)).any (·.1) = false := by rfl)
    (hnx : x ≠ "__name__" := by decide) (hdx : (x == ("__debug__" : Str)) = false := by decide) : SE X W (.Call (.Name "isinstance" p) [e, .Name x p2] [] pos) (e1 (isiV own (ansB T own)) fe) :=
  sIsi (x := x) (p2 := p2) (ce := .ty T) (c := .ty T) ho (fun _ _ _ _ v r => by unfold RV at r; exact r) (.ty T) (fun t b e => by
    unfold ansB at e
    split at e
    · exact kit_ty e
    · split at e
      · cases e; exact hno _ (by assumption)
      · cases e
    · cases e) he (sTy hgx hmx hvx hnx hdx) hm hg hs hs2 hpl
/-! .. for a class of the program -/
def ansC (D : Addr) (own : List Addr) : Value → Option Bool := fun t => match t with
  | .type a => if a ∈ tNames then some false else none
  | .ref C => if C ∈ own then some (decide (C = D)) else none
  | _ => none
theorem sIsiC {D : Addr} {x : Str} {p p2 pos : Pos} {e : Expr} {fe : FE} {own : List Addr} (ho : ∀ C ∈ own, ClsI X.K C) (hb : ∀ T ∈ tNames, PySem.W.kitOne X.K (.type T) (.ref D) = some false) (hc : ∀ C ∈ own, PySem.W.kitOne X.K (.ref C) (.ref D) = some (decide (C = D))) (he : SE X W e fe) (hmx : X.mg x = some (.ref D)) (hm : X.mg "isinstance" = none) (hgx : Gl X x := by rfl) (hg : Gl X "isinstance" := by rfl)
    (hs : starEach [e, .Name x p2] X.env = (false, eval e X.env) :: starEach [.Name x p2] X.env := by rfl) (hs2 : starEach [.Name x p2] X.env = (false, eval (.Name x p2) X.env) :: starEach [] X.env := by rfl) (hpl : (backTo pos (starEach [.Name x p2] X.env)).any (·.1) = false := by rfl)
    (hdx : (x == ("__debug__" : Str)) = false := by decide) : SE X W (.Call (.Name "isinstance" p) [e, .Name x p2] [] pos) (e1 (isiV own (ansC D own)) fe) :=
  sIsi (x := x) (p2 := p2) (ce := .adr D) (c := .ref D) ho (fun _ _ _ _ v r => by unfold RV at r; exact r) (.own D) (fun t b e => by
    unfold ansC at e
    split at e
    · split at e
      · cases e; exact hb _ (by assumption)
      · cases e
    · split at e
      · cases e; exact hc _ (by assumption)
      · cases e
    · cases e) he (sGR hgx hmx hdx) hm hg hs hs2 hpl
/-! ### d.get(k, x), d.get(k) -/
noncomputable def getM (d k z : EV) (M : Mem) : Res EV := match dLook d k M with
  | some (some v) => .ok v M
  | some none => .ok z M
  | none => .bad
noncomputable def eGet2 (f g h : FE) : FE := fun σ M => (f σ M).bind fun d M1 => match dicAt M1 d with
  | some _ => (g σ M1).bind fun k M2 => (h σ M2).bind fun z M3 => getM d k z M3
  | none => .bad
def tGet2 (X : Cx) (W : WX) (td tk tz : TE) : TE := fun σ H Q => td σ H fun x H1 => (∃ (ρ : Nat → Addr) (M : Mem) (d : EV), RP (gr X) ρ M H1 ∧ RV X.K ρ M.length H1 d x ∧ (dicAt M d).isSome = true) ∧ tk σ H1 fun y H2 => tz σ H2 fun z H3 =>
  ∃ (σ0 : L2.St) (ρ : Nat → Addr) (M : Mem) (d k z0 : EV), RP (gr X) ρ M H3 ∧ RV X.K ρ M.length H3 d x ∧ RV X.K ρ M.length H3 k y ∧ RV X.K ρ M.length H3 z0 z ∧ PostE (gr X) W σ0 ρ M H3 (getM d k z0 M) Q
theorem dic_type (I : Inv X pins σ H s) (hp : RP (gr X) ρ M H) {d : EV} {x : V} {u : Value} (r : RV X.K ρ M.length H d x) (e : (dicAt M d).isSome = true) (ru : RelV x u) : s.TypeIs u "dict" ∧ ∀ a, u = .ref a → ∃ ob, s.heap.get? a = some ob ∧ ob.dict = none := by
  cases q : dicAt M d with
  | none => rw [q] at e; cases e
  | some p =>
    obtain ⟨j, kvs⟩ := p
    obtain ⟨_, hj, e1, w, hw, du⟩ := dic_sim hp r q
    subst e1
    cases (show u = Value.ref (ρ j) from ru)
    have fin : ∃ o : Obj, s.heap.get? (ρ j) = some o ∧ o.ExactDict := by
      rcases du with ⟨l, rfl, _⟩ | ⟨l, rfl, _⟩
      · obtain ⟨_, _, vs, _, o, _, _, g1, g2, _⟩ := dic_holds I hw
        exact ⟨o, g1, g2⟩
      · obtain ⟨_, _, vs, _, o, _, _, g1, g2, _⟩ := dic_holds I hw
        exact ⟨o, g1, g2⟩
    obtain ⟨o, g1, g2⟩ := fin
    exact ⟨⟨o, g1, g2.1⟩, fun a e => by cases e; exact ⟨o, g1, g2.2.1⟩⟩
theorem sGet2 {o e e' : Expr} {f g h : FE} {apos cpos : Pos} (hu : X.A.units + 64 < cLine) (ho : SE X W o f) (he : SE X W e g) (hz : SE X W e' h)
    (base : attributeBase o "get" X.env (eval o X.env) = eval o X.env := by rfl)
    (few : ((backTo cpos (starEach [e, e'] X.env)).all (fun x => !x.1) && (backToKw cpos (keywordEach [] X.env)).all (fun x => x.1.isSome)
      && decide (([e, e'] : List Expr).length + ([] : List Keyword).length + (if ([] : List Keyword).isEmpty then 0 else 1) < 30)) = true := by rfl)
    (line : (apos.endLine == cpos.line) = true := by rfl) (trees : backTo cpos (starEach [e, e'] X.env) = [(false, eval e X.env), (false, eval e' X.env)] := by rfl) : SE X W (.Call (.Attribute o "get" apos) [e, e'] [] cpos) (eGet2 f g h) := by
  obtain ⟨td, d1, d2⟩ := ho
  obtain ⟨tk, k1, k2⟩ := he
  obtain ⟨tz, z1, z2⟩ := hz
  refine ⟨tGet2 X W td tk tz, ⟨fun pins s σ H Q I hh => ?_⟩, fun ρ σe σ M H Q rs rp hh => ?_⟩
  · refine wpAny_Call_method base few line PySem.F.plainAttrs_dict PySem.F.slot_dict_get PySem.F.type_dict_get (thn (d1.run pins s σ H _ I hh) fun u s1 ⟨x, H1, I1, rx, hd, q1⟩ => ?_)
    obtain ⟨ρ, M, d, rp, rd, hd⟩ := hd
    obtain ⟨t1, t2⟩ := dic_type I1 rp rd hd rx
    refine ⟨t1, t2, ?_⟩
    rw [trees]
    refine Calls.callWith_builtin rfl (Calls.evalArgs_plain (Calls.spliced_cons (thn (k1.run pins s1 σ H1 _ I1 q1) fun iv s2 ⟨y, H2, I2, ry, q2⟩ => Calls.spliced_cons (thn (z1.run pins s2 σ H2 _ I2 q2) fun fv s3 ⟨z, H3, I3, rz, q3⟩ => Calls.spliced_nil ?_))))
    obtain ⟨σ0, ρ3, M3, d3, k3, z3, rp3, rd3, rk3, rz3, pe⟩ := q3
    unfold getM at pe
    cases q : dLook d3 k3 M3 with
    | none => rw [q] at pe; exact pe.elim
    | some o =>
      rw [q] at pe
      obtain ⟨a, ea, ty, nd, o', h1, h2, w1, w2, w3, w4⟩ := dLook_sim hu I3 rp3 rd3 rk3 ry q
      subst ea
      cases (show u = Value.ref a from rx)
      refine w4 X.A rfl _ _ z fv rz fun w' s' I' rw' => ⟨_, H3, I', rw', ?_⟩
      cases o with
      | none => rw [h2 rfl]; exact okE pe rp3 rz3
      | some v => obtain ⟨v', e, rv⟩ := h1 v rfl; rw [e]; exact okE pe rp3 rv
  · refine d2 ρ σe σ M H _ rs rp (PostR.bind hh fun d M1 ρ1 H1 d1 _ a rp1 rd h1 => ?_)
    cases q : dicAt M1 d with
    | none => rw [q] at h1; exact h1.elim
    | some p =>
      rw [q] at h1
      refine ⟨⟨ρ1, M1, d, rp1, rd, by rw [q]; rfl⟩, ?_⟩
      refine k2 ρ1 σe σ M1 H1 _ (rs.carry (a.carry rp)) rp1 (PostR.bind h1 fun k M2 ρ2 H2 k2' _ a2 rp2 rk h2 => ?_)
      refine z2 ρ2 σe σ M2 H2 _ ((rs.carry (a.carry rp)).carry (a2.carry rp1)) rp2 (PostR.bind h2 fun z M3 ρ3 H3 z3 _ a3 rp3 rz h3 => ?_)
      exact ⟨σ, ρ3, M3, d, k, z, rp3, (rd.carry (a2.carry rp1)).carry (a3.carry rp2), rk.carry (a3.carry rp2), rz, h3⟩
end
end WS

set_option Elab.async false
set_option linter.all false
set_option maxRecDepth 100000
/-! The simulation: dict comprehensions, keys of any kind that a dict may hold here. -/
namespace WS
open PySem PySem.Spec PyProof.Rows L2
open Classical
/-- the store that a turn's end makes -/
def PutD (X : Cx) (D : Addr) (y z : V) (H : Hp) (Nx : Hp → Prop) : Prop :=
  ∃ (ρ : Nat → Addr) (M : Mem) (kvs : List (EV × EV)) (w : HO) (k v : EV), H D = some w ∧ DicU (gr X) ρ M.length H D kvs w ∧ RV X.K ρ M.length H k y ∧ RV X.K ρ M.length H v z ∧ kvs.length < sizeLine ∧ sortOk kvs k ∧ RP (gr X) ρ M H ∧
    ∀ w', (∃ f, w' = .ext f) → (∀ ρ' n' H', Carry X.K ρ M.length H ρ' n' H' → DicU (gr X) ρ' n' H' D (dPut kvs k v) w') → Nx (upd H D w')
def tDcW (X : Cx) (wi : TI) (g : TG) (tt : TT) (tk tv : TE) (vs : List Nat) : TE := fun σ H Q => wi σ H fun J H1 => ∀ D, H1 D = none → ∃ Wr : Nat → Nat → Hp → Prop, (∃ m, Wr 0 m (upd H1 D (.ext (phF (gr X) D [])))) ∧ ∀ i m H, Wr i m H →
  (J.stop i H ∧ Q (.ref D) H) ∨ (J.go i H ∧ ∃ Nx : Hp → Prop, (∀ H', Nx H' → ∃ m', m' < m ∧ Wr (i + 1) m' H') ∧ ∀ x H', J.yld i H x H' → g x (L2.wipe σ vs) H' fun σ2 H2 => L2.wipe σ2 vs = L2.wipe σ vs ∧ tt σ2 H2 fun b H3 =>
    if b = true then tk σ2 H3 fun y H4 => tv σ2 H4 fun z H5 => PutD X D y z H5 Nx else Nx H3)
section
variable {X : Cx}
theorem dc_coreW {pins : List (Addr × Obj)} {s : Shared} {σ : L2.St} {H : Hp} {Q : VK} {kx vx tg iter : Expr} {ifs : List Expr} {scope : Scope} {own : List (Str × Nat)} {pos pos' : Pos} {wi : TI} {g : TG} {tt : TT} {tk tv : TE} {use : Option (Value → Sem Unit)} {Qf : Value → Shared → Prop}
    (hu : X.A.units + 64 < cLine) (hc : X.calm = true) (hN : X.N.Nodup) (I : Inv X pins σ H s) (hi : PI X tg iter wi) (ok : BlkOk X.N X.env.scope scope own)
    (hg : ∀ (t : Shared) (G : Hp) (B : Addr) (ce : Env) (fp : List Addr), (∃ cl, ce = compEnvC scope cl B X.env) → PG (X.blk t G scope ce fp) tg g) (ht : ∀ (t : Shared) (G : Hp) (B : Addr) (ce : Env) (fp : List Addr), (∃ cl, ce = compEnvC scope cl B X.env) → PTs (X.blk t G scope ce fp) ifs tt)
    (hk : ∀ (t : Shared) (G : Hp) (B : Addr) (ce : Env) (fp : List Addr), (∃ cl, ce = compEnvC scope cl B X.env) → PE (X.blk t G scope ce fp) kx tk)
    (he : ∀ (t : Shared) (G : Hp) (B : Addr) (ce : Env) (fp : List Addr), (∃ cl, ce = compEnvC scope cl B X.env) → PE (X.blk t G scope ce fp) vx tv) (hs : ∀ x, foldedSetIterable iter X.env x = pure x)
    (h : tDcW X wi g tt tk tv (own.map (·.2)) σ H Q)
    (hRR : ∀ D B t m H', Inv X pins σ H' t → Q (.ref D) H' → t.heap.Ns B m → FpOk X pins H' B → compPost (model X.prog X.w) X.A X.xe use Qf (.ref D) B (.ok .next) t) :
    wpAny (model X.prog X.w) X.A (comprehension (.DictComp kx vx [⟨tg, iter, ifs, 0⟩] scope pos) scope X.env pos' newDict false (eval iter X.env) use) Qf X.xe s := by
  have hfree : ∀ y ∈ scope.names, y.2 = .free → ∃ c, X.env.cells.lookup y.1 = some c := fun y hy e => (ok.free y hy e).elim (fun k => I.ok.has _ (.inl k)) fun k => I.ok.has _ (.inr k)
  refine wpAny_comprehension_free (use := use) rfl hs (closure_ok hfree) ok.kind (fun y hy e => (by rw [ok.uniq y hy, e]))
    (thn (hi.run pins s σ H _ I h) fun xv s1 hx => (thn hx fun itv s2 h2 => ?_))
  obtain ⟨it, fp, tn, J, H2, e, I2, T, st2, f2, q⟩ := h2
  cases e
  refine wpAny_newObj_type (newEnv_comp ?_)
  obtain ⟨D, hD⟩ : ∃ D, D = s2.heap.objs.size := ⟨_, rfl⟩
  have hDn : H2 D = none := I2.hok.fresh (Nat.le_of_eq hD.symm)
  obtain ⟨Wr, ⟨m0, w0⟩, turn⟩ := q D hDn
  generalize hs3 : ({ s2 with heap := s2.heap.push { cls := .type "dict", data := .dict #[] } } : Shared) = s3
  have h3 : s3.heap = s2.heap.push { cls := .type "dict", data := .dict #[] } := by rw [← hs3]
  have I3 : Inv X pins σ (upd H2 D (.ext (phF (gr X) D []))) s3 := by
    rw [← hs3]
    refine I2.laid (t' := s2.toks) (fun b o e => Heap.get?_push_of_some _ e) (Nat.le_of_eq hD.symm) ?_
    rw [hD]
    exact phF_ok (G := gr X) (phF_new s2.heap I2.big)
  have lt2 : ∀ b ∈ fp, b < s2.heap.objs.size := fun b hb => (T.obj _ _ st2 b hb).elim fun o e => Heap.lt_size e.1
  have f3 : ∀ b ∈ fp, FpOk X pins (upd H2 D (.ext (phF (gr X) D []))) b ∧ b < s3.heap.objs.size := fun b hb => by
    have hlt := lt2 b hb
    exact ⟨⟨by rw [upd_ne (by rw [hD]; exact Nat.ne_of_lt hlt)]; exact (f2 b hb).1, (f2 b hb).2⟩, by rw [h3, Heap.size_push]; exact Nat.lt_succ_of_lt hlt⟩
  have st3 : tn 0 s3.heap := T.keep _ _ _ st2 fun b _ o e => (by rw [h3]; exact Heap.get?_push_of_some _ e)
  have I4 := block_start I3 ok hN f3
  have nfp : ∀ b ∈ fp, (upd H2 D (.ext (phF (gr X) D []))) b = none := fun b hb => (f3 b hb).1.1
  obtain ⟨cl, hcl⟩ : ∃ cl, cl = cellsFrom (s3.heap.objs.size + 1) scope.names (cloFrom X.env.cells scope.names []) := ⟨_, rfl⟩
  obtain ⟨ce, hce⟩ : ∃ ce, ce = compEnvC scope cl s3.heap.objs.size X.env := ⟨_, rfl⟩
  have hE : ∃ cl, ce = compEnvC scope cl s3.heap.objs.size X.env := ⟨cl, hce⟩
  have cL : ce.locals = s3.heap.objs.size := by rw [hce]; rfl
  rw [← hcl, ← hce] at I4
  show codeAny _ _ (.compStart (.DictComp kx vx [⟨tg, iter, ifs, 0⟩] scope pos) 0 (.ref it) (.ref s2.heap.objs.size) (compEnvC scope (cellsFrom (s3.heap.objs.size + 1) scope.names (cloFrom X.env.cells scope.names [])) s3.heap.objs.size X.env)) (compPost (model X.prog X.w) X.A X.xe use Qf (.ref s2.heap.objs.size) s3.heap.objs.size) { s3 with heap := pushCells (s3.heap.push { cls := .type "dict", data := .dict #[] }) scope.names }
  rw [← hD, ← hcl, ← hce]
  obtain ⟨H3, hH3⟩ : ∃ G, G = upd H2 D (.ext (phF (gr X) D [])) := ⟨_, rfl⟩
  rw [← hH3] at I3 I4 w0 nfp f3
  have pg := hg s3 H3 s3.heap.objs.size ce fp hE
  have pt := ht s3 H3 s3.heap.objs.size ce fp hE
  have pk := hk s3 H3 s3.heap.objs.size ce fp hE
  have pe := he s3 H3 s3.heap.objs.size ce fp hE
  obtain ⟨s4, hs4⟩ : ∃ t : Shared, t = { s3 with heap := pushCells (s3.heap.push { cls := .type "dict", data := .dict #[] }) scope.names } := ⟨_, rfl⟩
  rw [← hs4] at I4 ⊢
  have st4 : tn 0 s4.heap := T.keep _ _ _ st3 fun b _ o e => (by rw [hs4]; exact pushCells_keeps _ _ _ _ (Heap.get?_push_of_some _ e))
  have fpB : ∀ {σ' : L2.St} {H' : Hp} {t : Shared}, Inv (X.blk s3 H3 scope ce fp) [] σ' H' t → (∀ b ∈ fp, H' b = none) → ∀ b ∈ fp, FpOk (X.blk s3 H3 scope ce fp) [] H' b := fun {σ' H' t} I' hn b hb =>
    ⟨hn b hb, (I'.ok.exf b hb).1, I'.ok.exfs b hb, .inl hb, fun x c e => (I'.ok.exf b hb).2 x c e, fun p hp => False.elim (by simp at hp)⟩
  have go : codeAny (model X.prog X.w) X.A (.compLoop (.DictComp kx vx [⟨tg, iter, ifs, 0⟩] scope pos) 0 (.ref it) (.ref D) ce) (compPost (model X.prog X.w) X.A X.xe use Qf (.ref D) s3.heap.objs.size) s4 := by
    refine compLoop_anyD (fun n t => ∃ i G, Inv (X.blk s3 H3 scope ce fp) [] (L2.wipe σ (own.map (·.2))) G t ∧ tn i t.heap ∧ (∀ b ∈ fp, G b = none) ∧ Wr i n G) ?_ m0 ⟨0, H3, I4, st4, nfp, w0⟩
    rintro n s5 ⟨i, H5, I5, st5, n5, w5⟩
    rcases turn i n H5 w5 with ⟨stop, qq⟩ | ⟨gg, Nx, hNx, step⟩
    · refine thnF (T.done (X.blk s3 H3 scope ce fp) rfl rfl rfl hc i [] s5 _ H5 (fun _ _ => False) I5 (fpB I5 n5) st5 stop) fun r s6 ⟨hr, I6⟩ => ?_
      cases hr
      have nC : H5 s3.heap.objs.size = none := by rw [← cL]; exact I6.free
      have I7 : Inv X pins σ H5 s6 := I3.call' (ch := fp) I6.os I6.base I6.hok I6.bare fun b hb => (let z := (f3 b hb).1.2; ⟨z.2.2.1, z.1, z.2.2.2.1, z.2.2.2.2⟩)
      obtain ⟨m, hn, _⟩ := I6.loc
      exact hRR D s3.heap.objs.size s6 m H5 I7 qq (by rw [← cL]; exact hn) (I3.fpOk (Nat.le_refl _) nC)
    · refine thnF (T.item (X.blk s3 H3 scope ce fp) rfl rfl rfl hc i [] s5 _ H5 (fun _ _ => False) I5 (fpB I5 n5) st5 gg) fun r s6 ⟨u, hr, h6⟩ => ?_
      cases hr
      refine thnF h6 fun _ s7 ⟨x, H7, I7, r7, y7, st7, n7⟩ => ?_
      have I7' := I7.pinned (fpB I7 n7) (T.obj _ _ st7)
      refine thnF (pg.run _ s7 _ H7 x u _ I7' r7 (step x H7 y7)) fun _ s8 ⟨σ8, H8, I8, hw8, q8⟩ => ?_
      refine thnF (pt.run _ s8 σ8 H8 _ I8 q8) fun b s9 ⟨H9, I9, q9⟩ => ?_
      have fin : ∀ {t : Shared} {G : Hp}, Inv (X.blk s3 H3 scope ce fp) ([] ++ pinsAt fp s7.heap) σ8 G t → Nx G → ∃ m, m < n ∧ ∃ i G, Inv (X.blk s3 H3 scope ce fp) [] (L2.wipe σ (own.map (·.2))) G t ∧ tn i t.heap ∧ (∀ b ∈ fp, G b = none) ∧ Wr i m G := fun {t G} I' nx => by
        obtain ⟨m', hm, w'⟩ := hNx G nx
        have pin : ∀ b ∈ fp, ∀ o, s7.heap.get? b = some o → t.heap.get? b = some o ∧ G b = none := fun b hb o e =>
          (let z := I'.pin (b, o) (List.mem_append_right _ (List.mem_append_right _ (mem_pinsAt hb e))); ⟨z.1, z.2.1⟩)
        have hl : (L2.wipe σ (own.map (·.2))).length = σ8.length := by rw [← hw8, wipe_length]
        refine ⟨m', hm, i + 1, G, (I'.unpinned (pins := [])).weak hl (fun j v e => (by rw [← hw8] at e; exact (wipe_some e).1)), T.keep _ _ _ st7 fun b hb o e => (pin b hb o e).1, fun b hb => ?_, w'⟩
        obtain ⟨o, e, _⟩ := T.obj _ _ st7 b hb
        exact (pin b hb o e).2
      cases b with
      | false => exact fin I9 q9
      | true =>
        refine thnF (pk.run _ s9 σ8 H9 _ I9 q9) fun z s10 ⟨yk, H10, I10, r10, q10⟩ => ?_
        refine thnF (pe.run _ s10 σ8 H10 _ I10 q10) fun z2 s11 ⟨yv, H11, I11, r11, ρ, M, kvs, w, k, v, hD11, du, rk, rv, hz, so, rp, nx⟩ => ?_
        exact (dic_put (X := X.blk s3 H3 scope ce fp) hu I11 hD11 du rk r10 rv r11 hz so fun s12 w' I12 hf hd => fin I12 (nx w' hf hd)).2
  exact codeAny_compStart_dict go (T.self X.A 0 _ _ _ st4 go)
theorem pe_dcW {kx vx tg iter : Expr} {ifs : List Expr} {scope : Scope} {own : List (Str × Nat)} {pos : Pos} {wi : TI} {g : TG} {tt : TT} {tk tv : TE} (hu : X.A.units + 64 < cLine) (hc : X.calm = true) (hN : X.N.Nodup) (hi : PI X tg iter wi) (ok : BlkOk X.N X.env.scope scope own)
    (hg : ∀ (s : Shared) (H : Hp) (C : Addr) (cl : List (Str × Addr)) (fp : List Addr), PG (X.blk s H scope (compEnvC scope cl C X.env) fp) tg g) (ht : ∀ (s : Shared) (H : Hp) (C : Addr) (cl : List (Str × Addr)) (fp : List Addr), PTs (X.blk s H scope (compEnvC scope cl C X.env) fp) ifs tt)
    (hk : ∀ (s : Shared) (H : Hp) (C : Addr) (cl : List (Str × Addr)) (fp : List Addr), PE (X.blk s H scope (compEnvC scope cl C X.env) fp) kx tk)
    (he : ∀ (s : Shared) (H : Hp) (C : Addr) (cl : List (Str × Addr)) (fp : List Addr), PE (X.blk s H scope (compEnvC scope cl C X.env) fp) vx tv) (hs : ∀ x, foldedSetIterable iter X.env x = pure x := by intro _; rfl) :
    PE X (.DictComp kx vx [⟨tg, iter, ifs, 0⟩] scope pos) (tDcW X wi g tt tk tv (own.map (·.2))) := by
  refine ⟨fun pins s σ H Q I h => ?_⟩
  rw [arm_eval_DictComp]
  refine dc_coreW hu hc hN I hi ok (fun t G B ce fp ⟨cl, e⟩ => (by rw [e]; exact hg t G B cl fp)) (fun t G B ce fp ⟨cl, e⟩ => (by rw [e]; exact ht t G B cl fp)) (fun t G B ce fp ⟨cl, e⟩ => (by rw [e]; exact hk t G B cl fp)) (fun t G B ce fp ⟨cl, e⟩ => (by rw [e]; exact he t G B cl fp)) hs h fun D B t m H' I' q hn f => ⟨m, hn, fun h'' sb => ?_⟩
  obtain ⟨f0, f1, f2, f3, f4, f5⟩ := f
  exact ⟨.ref D, H', I'.turned (t' := t.toks) (fun b o hb e => (sb.2 b hb).trans e) f0 f1 f3 f4 f5, rfl, q⟩
end

noncomputable def dcGo (gd : Guard) (put : Put) (t : FT) (fk fv : FE) (σ : StE) : List EV → Mem → List (EV × EV) → Res (List (EV × EV))
  | [], M, acc => if okG gd M then .ok acc M else .bad
  | x :: r, M, acc => if okG gd M then (match put x M with
      | none => .bad
      | some l => (noerr (t (putsE σ l) M)).bind fun b M1 => if b = true then (noerr (fk (putsE σ l) M1)).bind fun k M2 => (noerr (fv (putsE σ l) M2)).bind fun v M3 => if acc.length < sizeLine ∧ sortOk acc k then dcGo gd put t fk fv σ r M3 (dPut acc k v) else .bad else dcGo gd put t fk fv σ r M1 acc) else .bad
def newD (kvs : List (EV × EV)) (M : Mem) : Res EV := .ok (.ref M.length) (M ++ [.dic kvs])
noncomputable def eDc (own : List Nat) (fi : FI) (put : Put) (t : FT) (fk fv : FE) : FE := fun σ M => (fi σ M).bind fun v M1 => (dcGo v.2 put t fk fv (wipeE σ own) v.1 M1 []).bind fun acc M2 => newD acc M2
section
variable {X : Cx} {W : WX} {kx vx tg iter : Expr} {ifs : List Expr} {scope : Scope} {own : List (Str × Nat)} {pos : Pos} {fi : FI} {put : Put} {ft : FT} {fk fv : FE}
/-- an object that stands beside the memory becomes its next one -/
theorem adopt {G : Gr} {ρ : Nat → Addr} {M : Mem} {H : Hp} {D : Addr} {o : EO} (rp : RP G ρ M H) (ne : ∀ j, j < M.length → ρ j ≠ D) (ro : RO G (ext ρ M.length D) (M.length + 1) H D o) : RP G (ext ρ M.length D) (M ++ [o]) H := by
  have ln : (M ++ [o]).length = M.length + 1 := by simp
  have cc : Carry G.K ρ M.length H (ext ρ M.length D) (M.length + 1) H := ⟨by omega, fun k hk => ext_lt hk, fun _ _ z => z, fun _ _ _ z => z⟩
  refine ⟨fun j o' ej => ?_, fun j j2 hj hj2 ejj => ?_⟩
  · rw [ln]
    have hj : j < (M ++ [o]).length := (List.getElem?_eq_some_iff.mp ej).1
    rw [ln] at hj
    by_cases z : j < M.length
    · rw [List.getElem?_append_left z] at ej
      rw [ext_lt z]
      exact (rp.obj j o' ej).carry cc rfl
    · have : j = M.length := by omega
      subst this
      rw [List.getElem?_append_right (Nat.le_refl _), Nat.sub_self] at ej
      cases ej
      rw [ext_self]
      exact ro
  · rw [ln] at hj hj2
    by_cases z : j < M.length <;> by_cases z2 : j2 < M.length
    · rw [ext_lt z, ext_lt z2] at ejj; exact rp.inj j j2 z z2 ejj
    · have : j2 = M.length := by omega
      subst this
      rw [ext_lt z, ext_self] at ejj
      exact absurd ejj (ne j z)
    · have : j = M.length := by omega
      subst this
      rw [ext_lt z2, ext_self] at ejj
      exact absurd ejj.symm (ne j2 z2)
    · omega
/-- .. and all that has been done since is a step of the memory -/
theorem adopt_after {G : Gr} {ρ ρ1 ρ' : Nat → Addr} {M M1 M' : Mem} {H H1 H' : Hp} {D : Addr} {o : EO} (a1 : After ρ M H ρ1 M1 H1) (rp1 : RP G ρ1 M1 H1) (nD : H1 D = none) (af : After ρ1 M1 H1 ρ' M' H') :
    After ρ M H (ext ρ' M'.length D) (M' ++ [o]) H' := by
  have ln : (M' ++ [o]).length = M'.length + 1 := by simp
  have aT := a1.trans rp1 af
  refine ⟨by rw [ln]; have := aT.len; omega, fun k hk => by rw [ext_lt (Nat.lt_of_lt_of_le hk aT.len)]; exact aT.agr k hk, aT.frm, fun k h1 h2 => ?_, fun k l e => ⟨by rw [List.getElem?_append_left (List.getElem?_eq_some_iff.mp (aT.lck k l e).1).1]; exact (aT.lck k l e).1, (aT.lck k l e).2⟩⟩
  rw [ln] at h2
  by_cases z : k < M'.length
  · rw [ext_lt z]; exact aT.new k h1 z
  · have : k = M'.length := by omega
    subst this
    rw [ext_self]
    cases qD : H D with
    | none => rfl
    | some u =>
      exfalso
      by_cases hb : ∀ k, k < M.length → ρ k ≠ D
      · have := a1.frm D u qD hb
        rw [nD] at this; cases this
      · have ⟨j, hj⟩ := Classical.not_forall.mp hb
        have ⟨hj1, hj2⟩ := Classical.not_imp.mp hj
        have hj3 : ρ j = D := Classical.not_not.mp hj2
        obtain ⟨w, h3, _⟩ := rp1.at (Nat.lt_of_lt_of_le hj1 a1.len)
        rw [a1.agr j hj1, hj3, nD] at h3
        cases h3
/-- something that stands beside the memory is written -/
theorem write_side {G : Gr} {ρ : Nat → Addr} {M : Mem} {H : Hp} {D : Addr} {w w' : HO} (rp : RP G ρ M H) (hD : H D = some w) (hw : IsM w) (ne : ∀ j, j < M.length → ρ j ≠ D) (nl : ∀ o xs, w ≠ .frz o (.lst xs)) : Carry G.K ρ M.length H ρ M.length (upd H D w') ∧ RP G ρ M (upd H D w') := by
  have c : Carry G.K ρ M.length H ρ M.length (upd H D w') := ⟨Nat.le_refl _, fun _ _ => rfl, fun b zs z => by
    rw [upd_ne (ne_of z hD (fun e => (by rw [← e] at hw; exact hw)))]; exact z, fun b o zs z => by
    rw [upd_ne (ne_of z hD (fun e => nl _ _ e.symm))]; exact z⟩
  exact ⟨c, fun j o ej => (rp.obj j o ej).carry c (upd_ne (ne j (List.getElem?_eq_some_iff.mp ej).1)), rp.inj⟩
/-- what is made behind it stands apart from it -/
theorem apart {ρ ρ4 : Nat → Addr} {M M4 : Mem} {H H4 : Hp} {D : Addr} {w : HO} (hD : H D = some w) (ne : ∀ j, j < M.length → ρ j ≠ D) (a4 : After ρ M H ρ4 M4 H4) : ∀ j, j < M4.length → ρ4 j ≠ D := fun j hj => by
  by_cases z : j < M.length
  · rw [a4.agr j z]; exact ne j z
  · intro e
    have := a4.new j (Nat.le_of_not_lt z) hj
    rw [e, hD] at this
    cases this
theorem simDc {wi : TI} {g : TG} {tt : TT} {tk tv : TE} {vs : List Nat} (hi : ∀ ρ σe σ M H Q, RSt X.K ρ M.length H σe σ → RP (gr X) ρ M H → PostI (gr X) W σ ρ M H (fi σe M) Q → wi σ H Q)
    (hg : ∀ ρ M H x x' (σ : L2.St) (Q : L2.St → Hp → Prop) l, RP (gr X) ρ M H → RV X.K ρ M.length H x x' → put x M = some l → (∀ l', RPs X.K ρ M.length H l l' → Q (puts σ l') H) → g x' σ H Q)
    (ht : SimT (gr X) W0 tt ft) (hk : SimE (gr X) W0 tk fk) (hv : SimE (gr X) W0 tv fv) (hput : PutIn put vs) : SimE (gr X) W (tDcW X wi g tt tk tv vs) (eDc vs fi put ft fk fv) := by
  intro ρ σe σ M H Q rs hp h
  refine hi ρ σe σ M H _ rs hp ?_
  unfold eDc at h
  cases q : fi σe M with
  | bad => rw [q] at h; exact h.elim
  | err y M1 => rw [q] at h; exact h
  | ok v M1 =>
    rw [q] at h
    obtain ⟨xs, gd⟩ := v
    have h : PostE (gr X) W σ ρ M H ((dcGo gd put ft fk fv (wipeE σe vs) xs M1 []).bind fun acc M2 => newD acc M2) Q := h
    intro ρ1 H1 J a1 rp1 jk D nD
    have rs1 := (rs.carry (a1.carry hp)).wipe vs
    refine ⟨fun i m H' => ∃ ρ' M' acc w, After ρ1 M1 H1 ρ' M' H' ∧ RSt X.K ρ' M'.length H' (wipeE σe vs) (L2.wipe σ vs) ∧ RP (gr X) ρ' M' H' ∧ H' D = some w ∧ DicU (gr X) ρ' M'.length H' D acc w ∧ (∀ j, j < M'.length → ρ' j ≠ D) ∧
        m = xs.length - i ∧ i ≤ xs.length ∧ PostE (gr X) W σ ρ M H ((dcGo gd put ft fk fv (wipeE σe vs) (xs.drop i) M' acc).bind fun acc M2 => newD acc M2) Q, ⟨xs.length, ?_⟩, ?_⟩
    · obtain ⟨aD, rpD⟩ := side rp1 nD (.ext (phF (gr X) D []))
      exact ⟨ρ1, M1, [], _, aD, rs1.carry (aD.carry rp1), rpD, upd_same, .inl ⟨[], rfl, rfl⟩, fun j hj => rp1.ne_free nD hj, by simp, Nat.zero_le _, h⟩
    · rintro i m H' ⟨ρ', M', acc, w, af, rs', rp', hD, du, neD, rfl, hi', h'⟩
      by_cases hlt : i < xs.length
      · have e1 : xs.drop i = xs[i] :: xs.drop (i + 1) := List.drop_eq_getElem_cons hlt
        rw [e1] at h'
        unfold dcGo at h'
        by_cases ok : okG gd M'
        · rw [if_pos ok] at h'
          have e2 : xs[i]? = some xs[i] := List.getElem?_eq_getElem hlt
          obtain ⟨go, yl⟩ := jk.go i xs[i] ρ' M' H' (af.soft rp1) rp' ok e2
          refine .inr ⟨go, fun H2 => ∃ ρ2 M2 acc2 w2, After ρ1 M1 H1 ρ2 M2 H2 ∧ RSt X.K ρ2 M2.length H2 (wipeE σe vs) (L2.wipe σ vs) ∧ RP (gr X) ρ2 M2 H2 ∧ H2 D = some w2 ∧ DicU (gr X) ρ2 M2.length H2 D acc2 w2 ∧ (∀ j, j < M2.length → ρ2 j ≠ D) ∧
              PostE (gr X) W σ ρ M H ((dcGo gd put ft fk fv (wipeE σe vs) (xs.drop (i + 1)) M2 acc2).bind fun acc M2 => newD acc M2) Q,
            fun H2 ⟨ρ2, M2, c2, w2, z1, z2, z3, z4, z5, z6, z8⟩ => ⟨xs.length - (i + 1), by omega, ρ2, M2, c2, w2, z1, z2, z3, z4, z5, z6, rfl, hlt, z8⟩, fun x' H2 y => ?_⟩
          obtain ⟨y1, y2, y3⟩ := yl x' H2 y
          have hD2 : H2 D = some w := y1.frm D _ hD neD
          cases qp : put xs[i] M' with
          | none => rw [qp] at h'; exact h'.elim
          | some l =>
            rw [qp] at h'
            dsimp only at h'
            refine hg ρ' M' H2 xs[i] x' _ _ l y2 y3 qp fun l' hl => ?_
            have hin : ∀ p ∈ l', p.1 ∈ vs := fun p hp => by
              have e3 : p.1 ∈ l'.map (·.1) := List.mem_map.mpr ⟨p, hp, rfl⟩
              rw [hl.map] at e3
              obtain ⟨r, hr, e4⟩ := List.mem_map.mp e3
              rw [← e4]
              exact hput _ _ _ qp r hr
            refine ⟨by rw [wipe_puts vs l' _ hin, wipe_wipe], ?_⟩
            have rs2 := (rs'.carry (y1.carry rp')).puts hl
            have du2 := du.carry (y1.carry rp')
            refine ht ρ' _ _ M' H2 _ rs2 y2 ?_
            cases qt : ft (putsE (wipeE σe vs) l) M' with
            | bad => rw [qt] at h'; exact h'.elim
            | err y M3 => rw [qt] at h'; exact h'.elim
            | ok b M3 =>
              rw [qt] at h'
              intro ρ3 H3 b3 a3 rp3 eb
              subst eb
              cases b3 with
              | false =>
                exact ⟨ρ3, M3, acc, w, af.trans rp' (y1.trans y2 a3), (rs'.carry (y1.carry rp')).carry (a3.carry y2), rp3, a3.frm D _ hD2 neD, du2.carry (a3.carry y2), apart hD2 neD a3, h'⟩
              | true =>
                have h' : PostE (gr X) W σ ρ M H (((noerr (fk (putsE (wipeE σe vs) l) M3)).bind fun k M2 => (noerr (fv (putsE (wipeE σe vs) l) M2)).bind fun v M3 => if acc.length < sizeLine ∧ sortOk acc k then dcGo gd put ft fk fv (wipeE σe vs) (xs.drop (i + 1)) M3 (dPut acc k v) else .bad).bind fun acc M2 => newD acc M2) Q := h'
                refine hk ρ3 _ _ M3 H3 _ (rs2.carry (a3.carry y2)) rp3 ?_
                cases qe : fk (putsE (wipeE σe vs) l) M3 with
                | bad => rw [qe] at h'; exact h'.elim
                | err y M4 => rw [qe] at h'; exact h'.elim
                | ok k M4 =>
                  rw [qe] at h'
                  intro ρ4 H4 k4 a4 rp4 r4
                  have a34 := a3.trans rp3 a4
                  have h' : PostE (gr X) W σ ρ M H (((noerr (fv (putsE (wipeE σe vs) l) M4)).bind fun v M3 => if acc.length < sizeLine ∧ sortOk acc k then dcGo gd put ft fk fv (wipeE σe vs) (xs.drop (i + 1)) M3 (dPut acc k v) else .bad).bind fun acc M2 => newD acc M2) Q := h'
                  refine hv ρ4 _ _ M4 H4 _ (rs2.carry (a34.carry y2)) rp4 ?_
                  cases qv : fv (putsE (wipeE σe vs) l) M4 with
                  | bad => rw [qv] at h'; exact h'.elim
                  | err y M5 => rw [qv] at h'; exact h'.elim
                  | ok v M5 =>
                    rw [qv] at h'
                    intro ρ5 H5 v5 a5 rp5 r5
                    have a35 := a34.trans rp4 a5
                    have h' : PostE (gr X) W σ ρ M H ((if acc.length < sizeLine ∧ sortOk acc k then dcGo gd put ft fk fv (wipeE σe vs) (xs.drop (i + 1)) M5 (dPut acc k v) else .bad).bind fun acc M2 => newD acc M2) Q := h'
                    by_cases c : acc.length < sizeLine ∧ sortOk acc k
                    · rw [if_pos c] at h'
                      have hD5 : H5 D = some w := a35.frm D _ hD2 neD
                      have du5 := du2.carry (a35.carry y2)
                      have ne5 := apart hD2 neD a35
                      refine ⟨ρ5, M5, acc, w, k, v, hD5, du5, r4.carry (a5.carry rp4), r5, c.1, c.2, rp5, fun w' hf hd => ?_⟩
                      obtain ⟨f, rfl⟩ := du.ext
                      obtain ⟨c6, rp6⟩ := write_side (w' := w') rp5 hD5 True.intro ne5 (fun _ _ e => (by cases e))
                      have aT := af.trans rp' (y1.trans y2 a35)
                      refine ⟨ρ5, M5, dPut acc k v, w', ⟨aT.len, aT.agr, fun b o eb hb => ?_, aT.new, fun k l e => ⟨(aT.lck k l e).1, by rw [upd_ne (rp1.ne_free nD (List.getElem?_eq_some_iff.mp e).1)]; exact (aT.lck k l e).2⟩⟩, (rs'.carry (y1.carry rp')).carry (a35.carry y2) |>.carry c6, rp6, upd_same, hd _ _ _ c6, ne5, h'⟩
                      have nb : b ≠ D := fun z => by rw [z, nD] at eb; cases eb
                      rw [upd_ne nb]
                      exact aT.frm b o eb hb
                    · rw [if_neg c] at h'; exact h'.elim
        · rw [if_neg ok] at h'; exact h'.elim
      · have e1 : xs.drop i = [] := List.drop_eq_nil_of_le (by omega)
        rw [e1] at h'
        unfold dcGo at h'
        by_cases ok : okG gd M'
        · rw [if_pos ok] at h'
          have e2 : i = xs.length := by omega
          subst e2
          refine .inl ⟨jk.stop ρ' M' H' (af.soft rp1) rp' ok, ?_⟩
          have h' : PostE (gr X) W σ ρ M H (.ok (.ref M'.length) (M' ++ [.dic acc])) Q := h'
          have cc : Carry X.K ρ' M'.length H' (ext ρ' M'.length D) (M'.length + 1) H' := ⟨by omega, fun k hk => ext_lt hk, fun _ _ z => z, fun _ _ _ z => z⟩
          exact h' _ H' (.ref D) (adopt_after a1 rp1 nD af) (adopt rp' neD ⟨w, hD, du.carry cc⟩) (by unfold RV; exact ⟨by simp, by rw [ext_self]⟩)
        · rw [if_neg ok] at h'; exact h'.elim
theorem sDc (hu : X.A.units + 64 < cLine) (hc : X.calm = true) (hN : X.N.Nodup) (hi : SI X W tg iter fi) (ok : BlkOk X.N X.env.scope scope own)
    (hg : ∀ (s : Shared) (H : Hp) (C : Addr) (cl : List (Str × Addr)) (fp : List Addr), SG (X.blk s H scope (compEnvC scope cl C X.env) fp) tg put)
    (ht : ∀ (s : Shared) (H : Hp) (C : Addr) (cl : List (Str × Addr)) (fp : List Addr), STs (X.blk s H scope (compEnvC scope cl C X.env) fp) W0 ifs ft)
    (hk : ∀ (s : Shared) (H : Hp) (C : Addr) (cl : List (Str × Addr)) (fp : List Addr), SE (X.blk s H scope (compEnvC scope cl C X.env) fp) W0 kx fk)
    (hv : ∀ (s : Shared) (H : Hp) (C : Addr) (cl : List (Str × Addr)) (fp : List Addr), SE (X.blk s H scope (compEnvC scope cl C X.env) fp) W0 vx fv)
    (hput : PutIn put (own.map (·.2))) (hs : ∀ x, foldedSetIterable iter X.env x = pure x := by intro _; rfl) : SE X W (.DictComp kx vx [⟨tg, iter, ifs, 0⟩] scope pos) (eDc (own.map (·.2)) fi put ft fk fv) := by
  obtain ⟨wi, i1, i2⟩ := hi
  refine ⟨_, pe_dcW (g := gP (gr X) put) (tt := tT (gr X) W0 ft) (tk := tE (gr X) W0 fk) (tv := tE (gr X) W0 fv) hu hc hN i1 ok (fun s H C cl fp => (hg s H C cl fp).can) (fun s H C cl fp => (ht s H C cl fp).can) (fun s H C cl fp => (hk s H C cl fp).can) (fun s H C cl fp => (hv s H C cl fp).can) hs, ?_⟩
  exact simDc i2 (fun ρ M H x x' σ Q l rp r e h => ⟨ρ, M, x, l, rp, r, e, h⟩) (fun ρ σe σ M H Q rs rp h => ⟨ρ, σe, M, rs, rp, h⟩) (fun ρ σe σ M H Q rs rp h => ⟨ρ, σe, M, rs, rp, h⟩) (fun ρ σe σ M H Q rs rp h => ⟨ρ, σe, M, rs, rp, h⟩) hput
end
end WS

set_option Elab.async false
set_option linter.all false
set_option maxRecDepth 100000
/-! The simulation: dicts walked (locked while it lasts), by keys, values, items. -/
namespace WS
open PySem PySem.Spec PyProof.Rows L2
open Classical
def leafV : Leaf → V
  | .none => .non
  | .num i => .int i
  | .text x => .str x
theorem leaf_rel {k : Leaf} {u : Value} (h : plainKey k u = true) : RelV (leafV k) u := by
  cases k with
  | none => cases u with
    | none => rfl
    | _ => cases h
  | num i => cases u with
    | int j t => exact ⟨t, by rw [of_decide_eq_true h]⟩
    | _ => cases h
  | text x => obtain ⟨t, e⟩ := Value.isStrOf_shape h; exact ⟨t, e⟩
theorem leaf_rv {K : PySem.W.Frag} {ρ : Nat → Addr} {n : Nat} {H : Hp} {x : EV} {k : Leaf} (e : leafOf x = some k) : RV K ρ n H x (leafV k) := by
  cases x with
  | non => cases e; unfold RV; rfl
  | int i => cases e; unfold RV; rfl
  | str i => cases e; unfold RV; rfl
  | _ => cases e
/-- what the dict at d tells of its entries, in their order -/
def RowsF (d : Addr) (f : Heap → Prop) (rows : List (V × V)) : Prop := ∀ h, f h → ∃ es ep, h.DictRaw d es ep ∧ (d == sysModules) = false ∧ es.size = rows.length ∧ ∀ (i : Nat) (p : V × V), rows[i]? = some p → ∃ en : DictEntry, es[i]? = some en ∧ RelV p.1 en.key ∧ RelV p.2 en.val
theorem pairs_get {P : Program} {w : World} {es : List DictEntry} {vs : List (Leaf × Value)} (h : Pairs (exKind P w) es vs) : ∀ {i : Nat} {k : Leaf} {v : Value}, vs[i]? = some (k, v) → ∃ en, es[i]? = some en ∧ plainKey k en.key = true ∧ en.val = v := by
  induction h with
  | nil => intro i k v e; simp at e
  | @cons en kv es vs h1 h2 t ih =>
    intro i k v e
    cases i with
    | zero => simp at e; subst e; exact ⟨en, rfl, h1, h2⟩
    | succ i => simp at e; obtain ⟨en', q⟩ := ih e; exact ⟨en', by simpa using q⟩
theorem pairs_len {P : Program} {w : World} {es : List DictEntry} {vs : List (Leaf × Value)} (h : Pairs (exKind P w) es vs) : es.length = vs.length := by
  induction h with
  | nil => rfl
  | cons _ _ _ ih => rw [List.length_cons, List.length_cons, ih]
theorem rowsF {G : Gr} {d : Addr} {l : List (Leaf × V)} : RowsF d (phF G d l) (l.map fun p => (leafV p.1, p.2)) := by
  intro h q
  obtain ⟨z, hd, vs, rel, o, es, ep, h1, h2, h3, h4, h5, h6⟩ := q
  have l1 := pairs_len h5
  have l2 := Paired.length rel
  rw [Array.length_toList] at l1
  refine ⟨es, ep, ⟨o, h1, h2, h3⟩, hd, by rw [List.length_map]; omega, fun i p e => ?_⟩
  rw [List.getElem?_map] at e
  cases ql : l[i]? with
  | none => rw [ql] at e; cases e
  | some kv =>
    rw [ql] at e
    cases e
    obtain ⟨u, hu, ru⟩ := kv_get rel ql
    obtain ⟨en, he, hk, hv⟩ := pairs_get h5 hu
    exact ⟨en, by simpa using he, leaf_rel hk, by rw [hv]; exact ru⟩
theorem rowsT {G : Gr} {d : Addr} {l : List (NestedKey × Addr × V)} : RowsF d (phT G d l) (l.map fun p => (.ref p.2.1, p.2.2)) := by
  intro h q
  obtain ⟨z, hd, ys, rel, o, es, ep, h1, h2, h3, h4, h5⟩ := q
  have l1 : es.size = ys.length := size_of_entries h4
  have l2 := Paired.length rel
  refine ⟨es, ep, ⟨o, h1, h2, h3⟩, hd, by rw [List.length_map]; omega, fun i p e => ?_⟩
  rw [List.getElem?_map] at e
  cases ql : l[i]? with
  | none => rw [ql] at e; cases e
  | some kv =>
    rw [ql] at e
    cases e
    obtain ⟨b, hb, e1, e2, e3⟩ := paired_get rel ql
    have q := entry_at h4 i
    rw [hb] at q
    exact ⟨_, q, congrArg Value.ref e2.symm, e3⟩
section
variable {K : PySem.W.Frag} {ρ : Nat → Addr} {n : Nat} {H : Hp}
def RRows (K : PySem.W.Frag) (ρ : Nat → Addr) (n : Nat) (H : Hp) (kvs : List (EV × EV)) (rows : List (V × V)) : Prop := kvs.length = rows.length ∧ ∀ (i : Nat) (p : EV × EV), kvs[i]? = some p → ∃ r, rows[i]? = some r ∧ RV K ρ n H p.1 r.1 ∧ RV K ρ n H p.2 r.2
theorem RRows.carry {ρ' : Nat → Addr} {n' : Nat} {H' : Hp} (c : Carry K ρ n H ρ' n' H') {kvs : List (EV × EV)} {rows : List (V × V)} (h : RRows K ρ n H kvs rows) : RRows K ρ' n' H' kvs rows :=
  ⟨h.1, fun i p e => let ⟨r, q, a, b⟩ := h.2 i p e; ⟨r, q, a.carry c, b.carry c⟩⟩
theorem RDF.rows : ∀ {kvs : List (EV × EV)} {l : List (Leaf × V)}, RDF K ρ n H kvs l → RRows K ρ n H kvs (l.map fun p => (leafV p.1, p.2))
  | [], l, h => by
    have h : l = [] := h
    subst h
    exact ⟨rfl, fun i p e => by simp at e⟩
  | q :: kvs, _, ⟨k, v, r, e, h1, h2, h3⟩ => by
    subst e
    obtain ⟨i1, i2⟩ := RDF.rows h3
    refine ⟨by simp at i1 ⊢; exact i1, fun i p e => ?_⟩
    cases i with
    | zero => simp at e; subst e; exact ⟨_, rfl, leaf_rv h1, h2⟩
    | succ i => simp at e; obtain ⟨w, z⟩ := i2 i p e; exact ⟨w, by simpa using z⟩
theorem RDT.rows : ∀ {kvs : List (EV × EV)} {l : List (NestedKey × Addr × V)}, RDT K ρ n H kvs l → RRows K ρ n H kvs (l.map fun p => (.ref p.2.1, p.2.2))
  | [], l, h => by
    have h : l = [] := h
    subst h
    exact ⟨rfl, fun i p e => by simp at e⟩
  | q :: kvs, _, ⟨k, a, v, r, e, h1, hd, h2, h3, h4⟩ => by
    subst e
    obtain ⟨i1, i2⟩ := RDT.rows h4
    refine ⟨by simp at i1 ⊢; exact i1, fun i p e => ?_⟩
    cases i with
    | zero => simp at e; subst e; exact ⟨_, rfl, h2, h3⟩
    | succ i => simp at e; obtain ⟨w, z⟩ := i2 i p e; exact ⟨w, by simpa using z⟩
theorem DicU.rows {G : Gr} {a : Addr} {kvs : List (EV × EV)} {w : HO} (d : DicU G ρ n H a kvs w) : ∃ f rows, w = .ext f ∧ RowsF a f rows ∧ RRows G.K ρ n H kvs rows := by
  rcases d with ⟨l, e, r⟩ | ⟨l, e, r⟩
  · exact ⟨_, _, e, rowsF, r.rows⟩
  · exact ⟨_, _, e, rowsT, r.rows⟩
end

/-! ### the iterators -/
def Lk (H : Hp) (d : Addr) (o : Obj) (f : Heap → Prop) : Prop := H d = some (.frz o (.ext f))
def ItrK (d : Addr) (o : Obj) (f : Heap → Prop) (rows : List (V × V)) : It :=
  ⟨fun i H => Lk H d o f ∧ i < rows.length, fun i H x H' => H' = H ∧ ∃ p, rows[i]? = some p ∧ x = p.1, fun i H => Lk H d o f ∧ rows.length ≤ i⟩
def ItrV (d : Addr) (o : Obj) (f : Heap → Prop) (rows : List (V × V)) : It :=
  ⟨fun i H => Lk H d o f ∧ i < rows.length, fun i H x H' => H' = H ∧ ∃ p, rows[i]? = some p ∧ x = p.2, fun i H => Lk H d o f ∧ rows.length ≤ i⟩
def ItrI (d : Addr) (o : Obj) (f : Heap → Prop) (rows : List (V × V)) : It :=
  ⟨fun i H => Lk H d o f ∧ i < rows.length, fun i H x H' => ∃ T p, rows[i]? = some p ∧ x = .ref T ∧ H T = none ∧ H' = upd H T (.tup [p.1, p.2]), fun i H => Lk H d o f ∧ rows.length ≤ i⟩
section
variable {X : Cx} {pins : List (Addr × Obj)} {σ : L2.St} {H : Hp} {s : Shared} {d : Addr} {o : Obj} {f : Heap → Prop} {rows : List (V × V)}
theorem lk_of (I : Inv X pins σ H s) (hd : Lk H d o f) (hr : RowsF d f rows) : s.heap.get? d = some o ∧ ∃ es ep, o.ExactDict ∧ o.data = .dict es ep ∧ (d == sysModules) = false ∧ es.size = rows.length ∧ ∀ (i : Nat) (p : V × V), rows[i]? = some p → ∃ en : DictEntry, es[i]? = some en ∧ RelV p.1 en.key ∧ RelV p.2 en.val := by
  obtain ⟨e1, q, _⟩ := (show ObjOk X.prog X.w H s.heap d (.frz o (.ext f)) from I.hok d _ hd)
  obtain ⟨es, ep, ⟨o', e2, e3, e4⟩, r1, r2, r3⟩ := hr _ q
  rw [e1] at e2
  cases e2
  exact ⟨e1, es, ep, e3, e4, r1, r2, r3⟩
end
section
variable {P : Program} {w : World} {K : PySem.W.Frag} {tg : Expr} {d : Addr} {o : Obj} {f : Heap → Prop} {rows : List (V × V)} {es : Array DictEntry} {ep : Nat}
theorem turnK (hr : RowsF d f rows) (it : Addr) (hod : o.data = .dict es ep) : Turn P w K tg (ItrK d o f rows) [it] it (fun i h => h.IsKeyIter it d i rows.length ep) where
  mem := List.mem_singleton.mpr rfl
  obj := fun i h st b hb => by
    rw [List.mem_singleton] at hb
    subst hb
    obtain ⟨oi, e, _, dd⟩ := st
    exact ⟨oi, e, fun v z => (by rw [dd] at z; cases z)⟩
  keep := fun i h h' st k => st.at fun oi e => k it (List.mem_singleton.mpr rfl) oi e
  item := by
    intro X hP hw hK hc i pins s σ H E I hf st ⟨hd, hi⟩
    subst hP hw hK
    obtain ⟨f0, f1, _, f3, f4, f5⟩ := hf it (List.mem_singleton.mpr rfl)
    obtain ⟨hgd, es', ep', hx, hdt, _, hsz, ent⟩ := lk_of I hd hr
    obtain ⟨rfl, rfl⟩ := dict_ep hod hdt
    obtain ⟨en, hen, rk, _⟩ := ent i _ (List.getElem?_eq_getElem hi)
    refine next_key_item st hgd hdt hsz hen fun h' st' sb => ?_
    have I1 : Inv X pins σ H { s with heap := h' } := I.turned (t' := s.toks) (fun b ob hb e => (sb.2 b hb).trans e) f0 f1 f3 f4 f5
    obtain ⟨oi, e, c, dd⟩ := id st'
    exact ⟨en.key, rfl, go_of (s := { s with heap := h' }) e c dd (by decide) ⟨_, H, I1, rk, ⟨rfl, _, List.getElem?_eq_getElem hi, rfl⟩, st', fun b hb => (hf b hb).1⟩⟩
  done := by
    intro X hP hw hK hc i pins s σ H E I hf st ⟨hd, hi⟩
    subst hP hw hK
    obtain ⟨f0, f1, _, f3, f4, f5⟩ := hf it (List.mem_singleton.mpr rfl)
    obtain ⟨hgd, es', ep', hx, hdt, _, hsz, _⟩ := lk_of I hd hr
    obtain ⟨rfl, rfl⟩ := dict_ep hod hdt
    exact next_key_end (I.ok.hd hc) st hgd hdt hsz hi fun h' eb => ⟨rfl, I.turned (t' := s.toks) (fun b ob hb e => eb b ob hb e) f0 f1 f3 f4 f5⟩
  self := fun A i s Q E st h => by
    refine wpAny_pyIter_slot st.typeIs F.slot_dict_keyiterator_iter (wpAny_call_entry F.slot_dict_keyiterator_iter st.typeIs F.entry_dict_keyiterator_iter ?_ (F.args_dict_keyiterator_iter_1 _))
    show wpAny _ _ (ret (.ref it)) _ _ s
    exact wpAny_pure ⟨_, rfl, "dict_keyiterator", _, st.typeIs, F.slot_dict_keyiterator_next.lookup, h⟩
theorem turnV (hr : RowsF d f rows) (it : Addr) (hod : o.data = .dict es ep) : Turn P w K tg (ItrV d o f rows) [it] it (fun i h => h.IsValIter it d i rows.length ep) where
  mem := List.mem_singleton.mpr rfl
  obj := fun i h st b hb => by
    rw [List.mem_singleton] at hb
    subst hb
    obtain ⟨oi, e, _, dd⟩ := st
    exact ⟨oi, e, fun v z => (by rw [dd] at z; cases z)⟩
  keep := fun i h h' st k => st.at fun oi e => k it (List.mem_singleton.mpr rfl) oi e
  item := by
    intro X hP hw hK hc i pins s σ H E I hf st ⟨hd, hi⟩
    subst hP hw hK
    obtain ⟨f0, f1, _, f3, f4, f5⟩ := hf it (List.mem_singleton.mpr rfl)
    obtain ⟨hgd, es', ep', hx, hdt, _, hsz, ent⟩ := lk_of I hd hr
    obtain ⟨rfl, rfl⟩ := dict_ep hod hdt
    obtain ⟨en, hen, _, rv⟩ := ent i _ (List.getElem?_eq_getElem hi)
    rw [← hsz] at st
    have hlt : i < es'.size := by rw [hsz]; exact hi
    have ee : es'[i] = en := by rw [Array.getElem?_eq_getElem hlt] at hen; exact Option.some.inj hen
    refine wpAny_pyNext_values_item_raw st ⟨o, hgd, hx, hdt⟩ hlt fun h' st' sb => ?_
    have I1 : Inv X pins σ H { s with heap := h' } := I.turned (t' := s.toks) (fun b ob hb e => (sb.2 b hb).trans e) f0 f1 f3 f4 f5
    obtain ⟨oi, e, c, dd⟩ := id st'
    refine ⟨es'[i].val, rfl, go_of (s := { s with heap := h' }) e c dd (by decide) ⟨_, H, I1, by rw [ee]; exact rv, ⟨rfl, _, List.getElem?_eq_getElem hi, rfl⟩, ?_, fun b hb => (hf b hb).1⟩⟩
    rw [hsz] at st'
    exact st'
  done := by
    intro X hP hw hK hc i pins s σ H E I hf st ⟨hd, hi⟩
    subst hP hw hK
    obtain ⟨f0, f1, _, f3, f4, f5⟩ := hf it (List.mem_singleton.mpr rfl)
    obtain ⟨hgd, es', ep', hx, hdt, _, hsz, _⟩ := lk_of I hd hr
    obtain ⟨rfl, rfl⟩ := dict_ep hod hdt
    rw [← hsz] at st
    exact wpAny_pyNext_values_end_raw (I.ok.hd hc) st ⟨o, hgd, hx, hdt⟩ (by rw [hsz]; exact hi) fun h' eb => ⟨rfl, I.turned (t' := s.toks) (fun b ob hb e => eb b ob hb e) f0 f1 f3 f4 f5⟩
  self := fun A i s Q E st h => wpAny_pyIter_valiter st h
theorem turnI {elts : List Expr} {kk : Nat} {tpos : Pos} (hr : RowsF d f rows) (it : Addr) (hod : o.data = .dict es ep) : Turn P w K (.Tuple elts kk tpos) (ItrI d o f rows) [it] it (fun i h => ∃ ok ov, IsItemIter h it d i rows.length ep ok ov) where
  mem := List.mem_singleton.mpr rfl
  obj := fun i h st b hb => by
    rw [List.mem_singleton] at hb
    subst hb
    obtain ⟨_, _, e⟩ := st
    exact ⟨_, e, fun v z => nomatch z⟩
  keep := fun i h h' ⟨ok, ov, e⟩ k => ⟨ok, ov, k it (List.mem_singleton.mpr rfl) _ e⟩
  item := by
    intro X hP hw hK hc i pins s σ H E I hf st ⟨hd, hi⟩
    subst hP hw hK
    obtain ⟨hgd, es', ep', hx, hdt, _, hsz, ent⟩ := lk_of I hd hr
    obtain ⟨rfl, rfl⟩ := dict_ep hod hdt
    obtain ⟨en, hen, rk, rv⟩ := ent i _ (List.getElem?_eq_getElem hi)
    obtain ⟨ok, ov, he⟩ := st
    rw [← hsz] at he
    have hlt : i < es'.size := by rw [hsz]; exact hi
    have ee : es'[i] = en := by rw [Array.getElem?_eq_getElem hlt] at hen; exact Option.some.inj hen
    have lt : it < s.heap.objs.size := Heap.lt_size he
    refine wpAny_pyNext_items_item_raw he ⟨o, hgd, hx, hdt⟩ hlt fun h' ho hT hz hk => ?_
    rw [ee] at ho hT
    refine ⟨_, rfl, wpAny_letOwnedTupleGo_items (s := { s with heap := h' }) ho fun h'' he' sb => ?_⟩
    have hT2 : h''.get? s.heap.objs.size = some { cls := .type "tuple", data := .seq #[en.key, en.val] } := (sb.2 _ (Nat.ne_of_gt lt)).trans hT
    have new : ObjOk X.prog X.w (upd H s.heap.objs.size (.tup [rows[i].1, rows[i].2])) h'' s.heap.objs.size (.tup [rows[i].1, rows[i].2]) :=
      ⟨by show 2 ≤ sizeLine; decide, [en.key, en.val], .cons rk (.cons rv .nil), ⟨_, hT2, rfl, _, rfl⟩⟩
    have I1 : Inv X pins σ (upd H s.heap.objs.size (.tup [rows[i].1, rows[i].2])) { s with heap := h'' } :=
      I.turnedNew (t' := s.toks) (ch := [it]) (fun b ob hb e => (sb.2 b (fun z => hb (List.mem_singleton.mpr z))).trans (hk b ob (fun z => hb (List.mem_singleton.mpr z)) e)) hf (Nat.le_refl _) new
    refine ⟨.ref s.heap.objs.size, _, I1, rfl, ⟨_, _, List.getElem?_eq_getElem hi, rfl, I.hok.fresh (Nat.le_refl _), rfl⟩, ⟨_, _, by rw [← hsz]; exact he'⟩, fun b hb => ?_⟩
    rw [List.mem_singleton] at hb
    rw [hb, upd_ne (Nat.ne_of_lt lt)]
    exact (hf it (List.mem_singleton.mpr rfl)).1
  done := by
    intro X hP hw hK hc i pins s σ H E I hf st ⟨hd, hi⟩
    subst hP hw hK
    obtain ⟨f0, f1, _, f3, f4, f5⟩ := hf it (List.mem_singleton.mpr rfl)
    obtain ⟨hgd, es', ep', hx, hdt, _, hsz, _⟩ := lk_of I hd hr
    obtain ⟨rfl, rfl⟩ := dict_ep hod hdt
    obtain ⟨ok, ov, he⟩ := st
    rw [← hsz] at he
    exact wpAny_pyNext_items_end_raw (I.ok.hd hc) he ⟨o, hgd, hx, hdt⟩ (by rw [hsz]; exact hi) fun h' eb => ⟨rfl, I.turned (t' := s.toks) (fun b ob hb e => eb b ob hb e) f0 f1 f3 f4 f5⟩
  self := fun A i s Q E ⟨_, _, e⟩ h => PySem.W.kcp_self e h
end
/-! ### the rules -/
/-- the dict is locked, if it is not already -/
def rWalk (J : Addr → Obj → (Heap → Prop) → List (V × V) → It) (td : TE) : TI := fun σ H R => td σ H fun x H1 => ∃ d f rows, x = .ref d ∧ RowsF d f rows ∧ ((∃ o, Lk H1 d o f ∧ R (J d o f rows) H1) ∨ (H1 d = some (.ext f) ∧ ∀ o, R (J d o f rows) (upd H1 d (.frz o (.ext f)))))
section
variable {X : Cx} {tg e : Expr} {td : TE} {apos cpos : Pos}
theorem walk_in {J : Addr → Obj → (Heap → Prop) → List (V × V) → It} {pins : List (Addr × Obj)} {σ : L2.St} {H : Hp} {s : Shared} {d : Addr} {f : Heap → Prop} {rows : List (V × V)} {R : It → Hp → Prop} (I : Inv X pins σ H s) (h : (∃ o, Lk H d o f ∧ R (J d o f rows) H) ∨ (H d = some (.ext f) ∧ ∀ o, R (J d o f rows) (upd H d (.frz o (.ext f))))) :
    ∃ o G, Inv X pins σ G s ∧ Lk G d o f ∧ R (J d o f rows) G := by
  rcases h with ⟨o, hl, q⟩ | ⟨hd, q⟩
  · exact ⟨o, H, I, hl, q⟩
  · obtain ⟨o, I'⟩ := I.lock hd True.intro
    exact ⟨o, _, I', upd_same, q o⟩
theorem pi_keysW (he : PE X e td) : PI X tg e (rWalk ItrK td) := by
  refine ⟨fun pins s σ H R I h => thn (he.run pins s σ H _ I h) fun u s1 ⟨x, H1, I1, rx, d, f, rows, ex, hr, q⟩ => ?_⟩
  subst ex
  cases (show u = Value.ref d from rx)
  obtain ⟨o, G, I2, hl, q⟩ := walk_in (J := ItrK) I1 q
  obtain ⟨hgd, es, ep, hx, hdt, hs, hsz, _⟩ := lk_of I2 hl hr
  exact iter_keys hs hgd hx hdt (pi_one (tk := s1.toks) I2 _ (turnK hr _ hdt) ⟨_, Heap.get?_push_size _ rfl, rfl, by rw [hsz]; rfl⟩ q)
theorem pi_keysMW (he : PE X e td) (hbase : attributeBase e "keys" X.env (eval e X.env) = eval e X.env := by rfl) (hline : (apos.endLine == cpos.line) = true := by rfl) : PI X tg (.Call (.Attribute e "keys" apos) [] [] cpos) (rWalk ItrK td) := by
  refine ⟨fun pins s σ H R I h => ?_⟩
  refine wpAny_Call_method (T := "dict") (id := "dict.keys") hbase rfl hline F.plainAttrs_dict F.slot_dict_keys F.type_dict_keys (thn (he.run pins s σ H _ I h) fun u s1 ⟨x, H1, I1, rx, d, f, rows, ex, hr, q⟩ => ?_)
  subst ex
  cases (show u = Value.ref d from rx)
  obtain ⟨o, G, I2, hl, q⟩ := walk_in (J := ItrK) I1 q
  obtain ⟨hgd, es, ep, hx, hdt, hs, hsz, _⟩ := lk_of I2 hl hr
  have raw : s1.heap.DictRaw d es ep := ⟨o, hgd, hx, hdt⟩
  refine ⟨raw.typeIs, fun a e => (by cases e; exact ⟨o, hgd, hx.2.1⟩), ?_⟩
  have I3 : Inv X pins σ G { s1 with heap := s1.heap.push { cls := .type "dict_keys", data := .fields #[.ref d] } } := I2.kept (t' := s1.toks) fun b ob q => Heap.get?_push_of_some _ q
  have fin : wpAny (model X.prog X.w) X.A (pyIter (.ref s1.heap.objs.size)) (PIE X pins σ tg R) X.xe { s1 with heap := s1.heap.push { cls := .type "dict_keys", data := .fields #[.ref d] } } := by
    refine wpAny_pyIter_keys_raw (d := d) ⟨_, Heap.get?_push_size _ rfl, rfl, rfl⟩ (raw.push _) (pi_one (tk := s1.toks) I3 _ (turnK hr _ hdt) ⟨_, Heap.get?_push_size _ rfl, rfl, by rw [hsz]; rfl⟩ q)
  show wpAny _ _ (callWith cpos (.builtin "dict.keys") [.ref d] [] []) _ X.xe s1
  exact method_meetsIn F.slot_dict_keys F.entry_dict_keys rfl (PySem.evalArgs_none ⟨rfl, raw.typeIs, F.args_dict_keys_1 _, _, meets_dict_keys_raw d hs, ⟨es, ep, raw⟩, fin⟩)
theorem pi_valuesW (he : PE X e td) (hbase : attributeBase e "values" X.env (eval e X.env) = eval e X.env := by rfl) (hline : (apos.endLine == cpos.line) = true := by rfl) : PI X tg (.Call (.Attribute e "values" apos) [] [] cpos) (rWalk ItrV td) := by
  refine ⟨fun pins s σ H R I h => ?_⟩
  refine wpAny_Call_method (T := "dict") (id := "dict.values") hbase rfl hline F.plainAttrs_dict F.slot_dict_values F.type_dict_values (thn (he.run pins s σ H _ I h) fun u s1 ⟨x, H1, I1, rx, d, f, rows, ex, hr, q⟩ => ?_)
  subst ex
  cases (show u = Value.ref d from rx)
  obtain ⟨o, G, I2, hl, q⟩ := walk_in (J := ItrV) I1 q
  obtain ⟨hgd, es, ep, hx, hdt, hs, hsz, _⟩ := lk_of I2 hl hr
  have raw : s1.heap.DictRaw d es ep := ⟨o, hgd, hx, hdt⟩
  refine ⟨raw.typeIs, fun a e => (by cases e; exact ⟨o, hgd, hx.2.1⟩), ?_⟩
  have I3 : Inv X pins σ G { s1 with heap := s1.heap.push { cls := .type "dict_values", data := .fields #[.ref d] } } := I2.kept (t' := s1.toks) fun b ob q => Heap.get?_push_of_some _ q
  have fin : wpAny (model X.prog X.w) X.A (pyIter (.ref s1.heap.objs.size)) (PIE X pins σ tg R) X.xe { s1 with heap := s1.heap.push { cls := .type "dict_values", data := .fields #[.ref d] } } := by
    refine wpAny_pyIter_values_raw (d := d) ⟨_, Heap.get?_push_size _ rfl, rfl, rfl⟩ (raw.push _) (pi_one (tk := s1.toks) I3 _ (turnV hr _ hdt) ⟨_, Heap.get?_push_size _ rfl, rfl, by rw [hsz]; rfl⟩ q)
  show wpAny _ _ (callWith cpos (.builtin "dict.values") [.ref d] [] []) _ X.xe s1
  exact method_meetsIn F.slot_dict_values F.entry_dict_values rfl (PySem.evalArgs_none ⟨rfl, raw.typeIs, F.args_dict_values_1 _, _, meets_dict_values_raw d hs, ⟨es, ep, raw⟩, fin⟩)
theorem pi_itemsW {elts : List Expr} {kk : Nat} {tpos : Pos} (he : PE X e td) (hbase : attributeBase e "items" X.env (eval e X.env) = eval e X.env := by rfl) (hline : (apos.endLine == cpos.line) = true := by rfl) : PI X (.Tuple elts kk tpos) (.Call (.Attribute e "items" apos) [] [] cpos) (rWalk ItrI td) := by
  refine ⟨fun pins s σ H R I h => ?_⟩
  refine wpAny_Call_method (T := "dict") (id := "dict.items") hbase rfl hline F.plainAttrs_dict F.slot_dict_items F.type_dict_items (thn (he.run pins s σ H _ I h) fun u s1 ⟨x, H1, I1, rx, d, f, rows, ex, hr, q⟩ => ?_)
  subst ex
  cases (show u = Value.ref d from rx)
  obtain ⟨o, G, I2, hl, q⟩ := walk_in (J := ItrI) I1 q
  obtain ⟨hgd, es, ep, hx, hdt, hs, hsz, _⟩ := lk_of I2 hl hr
  have raw : s1.heap.DictRaw d es ep := ⟨o, hgd, hx, hdt⟩
  refine ⟨raw.typeIs, fun a e => (by cases e; exact ⟨o, hgd, hx.2.1⟩), ?_⟩
  have I3 : Inv X pins σ G { s1 with heap := s1.heap.push { cls := .type "dict_items", data := .fields #[.ref d] } } := I2.kept (t' := s1.toks) fun b ob q => Heap.get?_push_of_some _ q
  have fin : wpAny (model X.prog X.w) X.A (pyIter (.ref s1.heap.objs.size)) (PIE X pins σ (.Tuple elts kk tpos) R) X.xe { s1 with heap := s1.heap.push { cls := .type "dict_items", data := .fields #[.ref d] } } := by
    refine wpAny_pyIter_items_raw (d := d) ⟨_, Heap.get?_push_size _ rfl, rfl, rfl⟩ (raw.push _) (pi_one (tk := s1.toks) I3 _ (turnI hr _ hdt) ⟨.none, .none, ?_⟩ q)
    rw [← hsz]
    exact Heap.get?_push_size _ rfl
  show wpAny _ _ (callWith cpos (.builtin "dict.items") [.ref d] [] []) _ X.xe s1
  exact method_meetsIn F.slot_dict_items F.entry_dict_items rfl (PySem.evalArgs_none ⟨rfl, raw.typeIs, F.args_dict_items_1 _, _, meets_dict_items_raw d hs, ⟨es, ep, raw⟩, fin⟩)
end

/-! ### the simulation -/
section
variable {G : Gr} {ρ : Nat → Addr} {M : Mem} {H : Hp} {k : Nat} {kvs : List (EV × EV)} {o : Obj} {f : Heap → Prop} {rows : List (V × V)}
theorem lck_stays {ρ' : Nat → Addr} {M' : Mem} {H' : Hp} (e : M[k]? = some (.lck kvs)) (hl : Lk H (ρ k) o f) (a : Soft G ρ M H ρ' M' H') : Lk H' (ρ k) o f := (a.lck k kvs e).2.trans hl
theorem jokK (hp : RP G ρ M H) (e : M[k]? = some (.lck kvs)) (hl : Lk H (ρ k) o f) (rr : RRows G.K ρ M.length H kvs rows) : JOk G (kvs.map (·.1)) none ρ M H (ItrK (ρ k) o f rows) where
  stop := fun ρ' M' H' a _ _ => ⟨lck_stays e hl a, by rw [List.length_map, rr.1]; exact Nat.le_refl _⟩
  go := fun i x ρ' M' H' a rp' _ ex => by
    rw [List.getElem?_map] at ex
    cases q : kvs[i]? with
    | none => rw [q] at ex; cases ex
    | some p =>
      rw [q] at ex
      cases ex
      obtain ⟨r, hr, r1, r2⟩ := (rr.carry a.car).2 i p q
      refine ⟨⟨lck_stays e hl a, (List.getElem?_eq_some_iff.mp hr).1⟩, fun x' H2 ⟨y1, r', y2, y3⟩ => ?_⟩
      rw [hr] at y2
      cases y2
      subst y1 y3
      exact ⟨.refl, rp', r1⟩
theorem jokV (hp : RP G ρ M H) (e : M[k]? = some (.lck kvs)) (hl : Lk H (ρ k) o f) (rr : RRows G.K ρ M.length H kvs rows) : JOk G (kvs.map (·.2)) none ρ M H (ItrV (ρ k) o f rows) where
  stop := fun ρ' M' H' a _ _ => ⟨lck_stays e hl a, by rw [List.length_map, rr.1]; exact Nat.le_refl _⟩
  go := fun i x ρ' M' H' a rp' _ ex => by
    rw [List.getElem?_map] at ex
    cases q : kvs[i]? with
    | none => rw [q] at ex; cases ex
    | some p =>
      rw [q] at ex
      cases ex
      obtain ⟨r, hr, r1, r2⟩ := (rr.carry a.car).2 i p q
      refine ⟨⟨lck_stays e hl a, (List.getElem?_eq_some_iff.mp hr).1⟩, fun x' H2 ⟨y1, r', y2, y3⟩ => ?_⟩
      rw [hr] at y2
      cases y2
      subst y1 y3
      exact ⟨.refl, rp', r2⟩
def pairE (p : EV × EV) : EV := .tup [p.1, p.2]
theorem jokI (hp : RP G ρ M H) (e : M[k]? = some (.lck kvs)) (hl : Lk H (ρ k) o f) (rr : RRows G.K ρ M.length H kvs rows) : JOk G (kvs.map pairE) none ρ M H (ItrI (ρ k) o f rows) where
  stop := fun ρ' M' H' a _ _ => ⟨lck_stays e hl a, by rw [List.length_map, rr.1]; exact Nat.le_refl _⟩
  go := fun i x ρ' M' H' a rp' _ ex => by
    rw [List.getElem?_map] at ex
    cases q : kvs[i]? with
    | none => rw [q] at ex; cases ex
    | some p =>
      rw [q] at ex
      cases ex
      obtain ⟨r, hr, r1, r2⟩ := (rr.carry a.car).2 i p q
      refine ⟨⟨lck_stays e hl a, (List.getElem?_eq_some_iff.mp hr).1⟩, fun x' H2 ⟨T, r', y2, y3, y4, y5⟩ => ?_⟩
      rw [hr] at y2
      cases y2
      subst y3 y5
      obtain ⟨af, rpT⟩ := side rp' y4 (.tup [r.1, r.2])
      have c := af.carry rp'
      exact ⟨af, rpT, by unfold pairE RV; exact ⟨T, _, rfl, upd_same, RVs.cons (r1.carry c) (RVs.cons (r2.carry c) RVs.nil)⟩⟩
end
def iDicF (sel : EV × EV → EV) (f : FE) : FI := fun σ M => (f σ M).bind fun v M1 => match dicAt M1 v with
  | some p => .ok (p.2.map sel, none) (M1.set p.1 (.lck p.2))
  | none => .bad
section
variable {X : Cx} {W : WX} {tg e : Expr} {fe : FE} {apos cpos : Pos}
theorem simWalk {sel : EV × EV → EV} {J : Addr → Obj → (Heap → Prop) → List (V × V) → It} {td : TE}
    (jok : ∀ {ρ : Nat → Addr} {M : Mem} {H : Hp} {k : Nat} {kvs : List (EV × EV)} {o : Obj} {f : Heap → Prop} {rows : List (V × V)}, RP (gr X) ρ M H → M[k]? = some (.lck kvs) → Lk H (ρ k) o f → RRows X.K ρ M.length H kvs rows → JOk (gr X) (kvs.map sel) none ρ M H (J (ρ k) o f rows))
    (h2 : SimE (gr X) W td fe) : ∀ ρ σe σ M H Q, RSt X.K ρ M.length H σe σ → RP (gr X) ρ M H → PostI (gr X) W σ ρ M H (iDicF sel fe σe M) Q → rWalk J td σ H Q := by
  intro ρ σe σ M H Q rs hp h
  refine h2 ρ σe σ M H _ rs hp (PostI.bind (R := fun K ρ n H => RV K ρ n H) h fun v M1 ρ1 H1 v1 _ a rp r h1 => ?_)
  cases q : dicAt M1 v with
  | none => rw [q] at h1; exact h1.elim
  | some p =>
    obtain ⟨k, kvs⟩ := p
    rw [q] at h1
    dsimp only at h1
    obtain ⟨ev, hk, e1, _⟩ := dic_sim rp r q
    subst ev
    unfold dicAt at q
    dsimp only at q
    cases qm : M1[k]? with
    | none => rw [qm] at q; cases q
    | some ob =>
      rw [qm] at q
      cases ob with
      | dic l =>
        cases q
        obtain ⟨u, hu, du⟩ := rp.obj k _ qm
        obtain ⟨f, rows, rfl, rf, rr⟩ := du.rows
        refine ⟨ρ1 k, f, rows, e1, rf, .inr ⟨hu, fun o => ?_⟩⟩
        obtain ⟨af, rpw⟩ := write rp hk (fun l z => by rw [qm] at z; cases z) (.frz o (.ext f)) (.lck kvs) fun cc => ⟨o, _, upd_same, du.carry cc⟩
        have el : (M1.set k (.lck kvs))[k]? = some (.lck kvs) := List.getElem?_set_self hk
        exact h1 ρ1 _ _ af rpw (jok rpw el upd_same (rr.carry (af.carry rp)))
      | lck l =>
        cases q
        obtain ⟨o, u, hu, du⟩ := rp.obj k _ qm
        obtain ⟨f, rows, rfl, rf, rr⟩ := du.rows
        refine ⟨ρ1 k, f, rows, e1, rf, .inl ⟨o, hu, ?_⟩⟩
        have es : M1.set k (.lck kvs) = M1 := by
          obtain ⟨hk', e2⟩ := List.getElem?_eq_some_iff.mp qm
          rw [← e2]
          exact List.set_getElem_self hk'
        rw [es] at h1
        exact h1 ρ1 _ _ .refl rp (jok rp qm hu rr)
      | _ => cases q
/-- for k in d -/
theorem siD (he : SE X W e fe) : SI X W tg e (iDicF (·.1) fe) := by
  obtain ⟨t, h1, h2⟩ := he
  exact ⟨_, pi_keysW h1, simWalk jokK h2⟩
theorem siKeys (he : SE X W e fe) (hbase : attributeBase e "keys" X.env (eval e X.env) = eval e X.env := by rfl) (hline : (apos.endLine == cpos.line) = true := by rfl) : SI X W tg (.Call (.Attribute e "keys" apos) [] [] cpos) (iDicF (·.1) fe) := by
  obtain ⟨t, h1, h2⟩ := he
  exact ⟨_, pi_keysMW h1 hbase hline, simWalk jokK h2⟩
theorem siValues (he : SE X W e fe) (hbase : attributeBase e "values" X.env (eval e X.env) = eval e X.env := by rfl) (hline : (apos.endLine == cpos.line) = true := by rfl) : SI X W tg (.Call (.Attribute e "values" apos) [] [] cpos) (iDicF (·.2) fe) := by
  obtain ⟨t, h1, h2⟩ := he
  exact ⟨_, pi_valuesW h1 hbase hline, simWalk jokV h2⟩
theorem siItems {elts : List Expr} {kk : Nat} {tpos : Pos} (he : SE X W e fe) (hbase : attributeBase e "items" X.env (eval e X.env) = eval e X.env := by rfl) (hline : (apos.endLine == cpos.line) = true := by rfl) : SI X W (.Tuple elts kk tpos) (.Call (.Attribute e "items" apos) [] [] cpos) (iDicF pairE fe) := by
  obtain ⟨t, h1, h2⟩ := he
  exact ⟨_, pi_itemsW h1 hbase hline, simWalk jokI h2⟩
end

/-! ### unlocked behind a statement or an expression: what was a free dict ahead of it -/
def unlO : EO → EO → EO
  | .dic _, .lck l => .dic l
  | _, o => o
def unlM : Mem → Mem → Mem
  | o :: r, o' :: r' => unlO o o' :: unlM r r'
  | _, M' => M'
def unlU : Option HO → Option HO → Option HO
  | some (.ext _), some (.frz _ (.ext f)) => some (.ext f)
  | _, x => x
def unlH (H H' : Hp) : Hp := fun b => unlU (H b) (H' b)
theorem unlM_length : ∀ M M' : Mem, (unlM M M').length = M'.length
  | [], M' => by unfold unlM; rfl
  | _ :: _, [] => rfl
  | o :: r, o' :: r' => by unfold unlM; rw [List.length_cons, List.length_cons, unlM_length r r']
theorem unlM_get : ∀ {M M' : Mem} {k : Nat} {o' : EO}, M'[k]? = some o' → (unlM M M')[k]? = some (match M[k]? with | some o => unlO o o' | none => o')
  | [], M', k, o', e => by unfold unlM; rw [List.getElem?_nil]; exact e
  | _ :: _, [], k, o', e => by rw [List.getElem?_nil] at e; cases e
  | o :: r, p :: r', 0, o', e => by cases e; rfl
  | o :: r, p :: r', k + 1, o', e => by
    unfold unlM
    rw [List.getElem?_cons_succ] at e ⊢
    rw [List.getElem?_cons_succ]
    exact unlM_get e
theorem unlU_same {x y : Option HO} (h : ∀ f0 o f, x = some (.ext f0) → y = some (.frz o (.ext f)) → False) : unlU x y = y := by
  unfold unlU
  split
  · exact (h _ _ _ rfl rfl).elim
  · rfl
section
variable {X : Cx} {pins : List (Addr × Obj)} {σ : L2.St} {H H' : Hp} {s s' : Shared}
theorem inv_unl {G : Hp} (I : Inv X pins σ H s) (hg : ∀ b, G b = H b ∨ ∃ o f, H b = some (.frz o (.ext f)) ∧ G b = some (.ext f) ∧ ∀ o' u', X.H_0 b ≠ some (.frz o' u')) : Inv X pins σ G s := by
  have non : ∀ b, H b = none → G b = none := fun b e => by
    rcases hg b with h | ⟨o, f, h, _⟩
    · rw [h]; exact e
    · rw [e] at h; cases h
  have stay : ∀ b o, H b = some o → (∀ o' f, o ≠ .frz o' (.ext f)) → G b = some o := fun b o e n => by
    rcases hg b with h | ⟨o', f, h, _⟩
    · rw [h]; exact e
    · rw [e] at h; cases h; exact (n _ _ rfl).elim
  refine ⟨I.ok, I.os, I.bare, ⟨I.base.keep, I.base.slot, fun b o e n hx => non b (I.base.free b o e n hx), I.base.there, fun b xs e => stay b _ (I.base.tups b xs e) (fun _ _ z => nomatch z), fun b o x e => ?_, fun b ps e => ?_⟩, I.loc, I.cell, non _ I.free, fun x c e => non c (I.freeC x c e), fun p hp => ?_, fun b o e => ?_, I.len⟩
  · have q := I.base.frzs b o x e
    rcases hg b with h | ⟨o', f, _, _, n⟩
    · rw [h]; exact q
    · exact (n _ _ e).elim
  · obtain ⟨m, q⟩ := I.base.tbls b ps e
    exact ⟨m, stay b _ q (fun _ _ z => nomatch z)⟩
  · obtain ⟨e, n, r⟩ := I.pin p hp
    exact ⟨e, non _ n, r⟩
  · have sty : ∀ {u : HO}, ObjOk X.prog X.w H s.heap b u → ObjOk X.prog X.w G s.heap b u := fun x => x.stay (fun c v _ q => q) (fun c q => stay c _ q (fun _ _ z => nomatch z)) fun c xs q => stay c _ q (fun _ _ z => nomatch z)
    rcases hg b with h | ⟨o', f, h, h2, _⟩
    · rw [h] at e
      exact sty (I.hok b o e)
    · rw [h2] at e
      cases e
      obtain ⟨_, x⟩ := I.hok b _ h
      exact sty x
theorem inv_unlH (I : Inv X pins σ H s) {σ' : L2.St} (I' : Inv X pins σ' H' s') : Inv X pins σ' (unlH H H') s' := by
  refine inv_unl I' fun b => ?_
  show unlU (H b) (H' b) = _ ∨ _
  cases e1 : H b with
  | none => exact .inl (unlU_same fun _ _ _ z => nomatch z)
  | some u =>
    cases u with
    | ext f0 =>
      cases e2 : H' b with
      | none => exact .inl rfl
      | some v =>
        cases v with
        | frz o w =>
          cases w with
          | ext f => exact .inr ⟨o, f, rfl, by show unlU (H b) (H' b) = _; rw [e1, e2]; rfl, I.nofrz e1 True.intro⟩
          | _ => exact .inl rfl
        | _ => exact .inl rfl
    | _ => exact .inl (unlU_same fun _ _ _ z => nomatch z)
end
section
variable {G : Gr} {ρ ρ' : Nat → Addr} {M M' : Mem} {H H' : Hp}
theorem unl_same {b : Addr} (h : H' b = H b) : unlH H H' b = H' b := unlU_same fun f0 o f e1 e2 => by rw [h, e1] at e2; cases e2
theorem unl_sim (hp : RP G ρ M H) (a : After ρ M H ρ' M' H') (rp : RP G ρ' M' H') : Carry G.K ρ' M'.length H' ρ' (unlM M M').length (unlH H H') ∧ After ρ M H ρ' (unlM M M') (unlH H H') ∧ RP G ρ' (unlM M M') (unlH H H') := by
  have ln := unlM_length M M'
  have nf : ∀ b u, H' b = some u → (∀ o f, u ≠ .frz o (.ext f)) → unlH H H' b = some u := fun b u e n => by
    have : unlH H H' b = H' b := unlU_same fun f0 o f _ e2 => by rw [e] at e2; cases e2; exact n _ _ rfl
    rw [this]; exact e
  have c : Carry G.K ρ' M'.length H' ρ' (unlM M M').length (unlH H H') := ⟨by rw [ln]; exact Nat.le_refl _, fun _ _ => rfl, fun b vs e => nf b _ e (fun _ _ z => nomatch z), fun b o vs e => nf b _ e (fun _ _ z => nomatch z)⟩
  refine ⟨c, ⟨by rw [ln]; exact a.len, a.agr, fun b o e hb => ?_, fun k h1 h2 => a.new k h1 (by rw [← ln]; exact h2), fun k l e => ?_⟩, fun k o e => ?_, fun j k hj hk => rp.inj j k (by rw [← ln]; exact hj) (by rw [← ln]; exact hk)⟩
  · have e1 := a.frm b o e hb
    rw [unl_same (by rw [e1, e])]
    exact e1
  · obtain ⟨e1, e2⟩ := a.lck k l e
    refine ⟨?_, by rw [unl_same e2]; exact e2⟩
    rw [unlM_get e1, e]
    rfl
  · have hk : k < M'.length := by rw [← ln]; exact (List.getElem?_eq_some_iff.mp e).1
    have e0 : M'[k]? = some M'[k] := List.getElem?_eq_getElem hk
    rw [unlM_get e0] at e
    generalize hm : M'[k] = m at e0 e
    -- the object, unlocked or as it was
    have keep : unlH H H' (ρ' k) = H' (ρ' k) → RO G ρ' (unlM M M').length (unlH H H') (ρ' k) m := fun q => (rp.obj k m e0).carry c q
    by_cases lt : k < M.length
    · rw [List.getElem?_eq_getElem lt] at e
      have h0 := hp.obj k M[k] (List.getElem?_eq_getElem lt)
      have er := a.agr k lt
      generalize hm0 : M[k] = m0 at e h0
      have e := Option.some.inj e
      cases m with
      | lck l =>
        cases m0 with
        | dic l0 =>
          subst e
          obtain ⟨u0, q0, d0⟩ := h0
          obtain ⟨f0, rfl⟩ := d0.ext
          obtain ⟨ob, u, q1, d1⟩ := rp.obj k _ e0
          obtain ⟨f, rfl⟩ := d1.ext
          refine ⟨.ext f, ?_, d1.carry c⟩
          show unlU (H (ρ' k)) (H' (ρ' k)) = _
          rw [er, q0, ← er, q1]
          rfl
        | lck l0 =>
          subst e
          refine keep (unlU_same fun f0 o f z1 _ => ?_)
          obtain ⟨ob, u, q1, _⟩ := h0
          rw [er, q1] at z1; cases z1
        | lst xs =>
          subst e
          refine keep (unlU_same fun f0 o f z1 _ => ?_)
          obtain ⟨u, q1, _⟩ := h0
          rw [er, q1] at z1; cases z1
        | ins C fs =>
          subst e
          refine keep (unlU_same fun f0 o f z1 _ => ?_)
          obtain ⟨u, _, q1, _⟩ := h0
          rw [er, q1] at z1; cases z1
      | dic l =>
        have : o = .dic l := by rw [← e]; cases m0 <;> rfl
        subst this
        refine keep (unlU_same fun f0 o f _ z2 => ?_)
        obtain ⟨u, q1, d1⟩ := rp.obj k _ e0
        obtain ⟨f', rfl⟩ := d1.ext
        rw [q1] at z2; cases z2
      | lst xs =>
        have : o = .lst xs := by rw [← e]; cases m0 <;> rfl
        subst this
        refine keep (unlU_same fun f0 o f _ z2 => ?_)
        obtain ⟨u, q1, _⟩ := rp.obj k _ e0
        rw [q1] at z2; cases z2
      | ins C fs =>
        have : o = .ins C fs := by rw [← e]; cases m0 <;> rfl
        subst this
        refine keep (unlU_same fun f0 o f _ z2 => ?_)
        obtain ⟨u, _, q1, _⟩ := rp.obj k _ e0
        rw [q1] at z2; cases z2
    · rw [List.getElem?_eq_none (Nat.le_of_not_lt lt)] at e
      cases e
      refine keep (unlU_same fun f0 o f z1 _ => ?_)
      rw [a.new k (Nat.le_of_not_lt lt) hk] at z1
      cases z1
end
def unlS (f : FS) : FS := fun σ M => match f σ M with
  | .nx σ' M' => .nx σ' (unlM M M')
  | .bk σ' M' => .bk σ' (unlM M M')
  | .ct σ' M' => .ct σ' (unlM M M')
  | .rt v M' => .rt v (unlM M M')
  | r => r
def unlE (f : FE) : FE := fun σ M => match f σ M with
  | .ok v M' => .ok v (unlM M M')
  | r => r
section
variable {X : Cx} {W : WX} {e : Expr} {st : Stmt}
theorem SE.unl {f : FE} (h : SE X W e f) : SE X W e (unlE f) := by
  obtain ⟨t, h1, h2⟩ := h
  refine ⟨fun σ H Q => t σ H fun v H' => Q v (unlH H H'), ⟨fun pins s σ H Q I q => thn (h1.run pins s σ H _ I q) fun v s1 ⟨x, H1, I1, r, z⟩ => ⟨x, _, inv_unlH I I1, r, z⟩⟩, fun ρ σe σ M H Q rs hp k => h2 ρ σe σ M H _ rs hp ?_⟩
  unfold unlE at k
  cases q : f σe M with
  | bad => rw [q] at k; exact k.elim
  | err x M1 => rw [q] at k; exact k
  | ok v M1 =>
    rw [q] at k
    intro ρ1 H1 v1 a rp r
    obtain ⟨c, a', rp'⟩ := unl_sim hp a rp
    exact k ρ1 _ v1 a' rp' (r.carry c)
theorem SS.unl {f : FS} (h : SS X W st f) : SS X W st (unlS f) := by
  obtain ⟨t, h1, h2⟩ := h
  refine ⟨fun D σ H => t ⟨fun σ' H' => D.nx σ' (unlH H H'), fun v H' => D.rt v (unlH H H'), fun σ' H' => D.bk σ' (unlH H H'), fun σ' H' => D.ct σ' (unlH H H')⟩ σ H, ⟨fun pins s σ H D I q => thn (h1.run pins s σ H _ I q) fun r s1 z => ?_⟩, fun ρ σe σ M H D rs hp k => h2 ρ σe σ M H _ rs hp ?_⟩
  · cases r with
    | next => obtain ⟨σ', H', I2, q⟩ := z; exact ⟨σ', _, inv_unlH I I2, q⟩
    | brk => obtain ⟨σ', H', I2, q⟩ := z; exact ⟨σ', _, inv_unlH I I2, q⟩
    | cont => obtain ⟨σ', H', I2, q⟩ := z; exact ⟨σ', _, inv_unlH I I2, q⟩
    | ret v => obtain ⟨x, σ', H', I2, r, q⟩ := z; exact ⟨x, σ', _, inv_unlH I I2, r, q⟩
  · unfold unlS at k
    cases q : f σe M with
    | bad => rw [q] at k; exact k.elim
    | err x s1 M1 => rw [q] at k; exact k
    | nx s1 M1 =>
      rw [q] at k
      intro ρ1 H1 v1 a rp r
      obtain ⟨c, a', rp'⟩ := unl_sim hp a rp
      exact k ρ1 _ v1 a' rp' (r.carry c)
    | bk s1 M1 =>
      rw [q] at k
      intro ρ1 H1 v1 a rp r
      obtain ⟨c, a', rp'⟩ := unl_sim hp a rp
      exact k ρ1 _ v1 a' rp' (r.carry c)
    | ct s1 M1 =>
      rw [q] at k
      intro ρ1 H1 v1 a rp r
      obtain ⟨c, a', rp'⟩ := unl_sim hp a rp
      exact k ρ1 _ v1 a' rp' (r.carry c)
    | rt s1 M1 =>
      rw [q] at k
      intro ρ1 H1 v1 a rp r
      obtain ⟨c, a', rp'⟩ := unl_sim hp a rp
      exact k ρ1 _ v1 a' rp' (r.carry c)
end
end WS

set_option Elab.async false
set_option linter.all false
set_option maxRecDepth 100000
/-! The simulation: dict(pairs). -/
namespace WS
open PySem PySem.Spec PyProof.Rows L2
open Classical
noncomputable def dFold (acc kvs : List (EV × EV)) : List (EV × EV) := match kvs with
  | [] => acc
  | p :: r => dFold (dPut acc p.1 p.2) r
def foldF (acc : List (Leaf × V)) : List (Leaf × V) → List (Leaf × V)
  | [] => acc
  | p :: r => foldF (putK acc p.1 p.2) r
def foldT (acc : List (NestedKey × Addr × V)) : List (NestedKey × Addr × V) → List (NestedKey × Addr × V)
  | [] => acc
  | p :: r => foldT (putT acc p.1 p.2.1 p.2.2) r
theorem putK_mem {κ : Type} [DecidableEq κ] (k : κ) (v : V) : ∀ {l : List (κ × V)}, (l.map (·.1)).Nodup → ∀ x, x ∈ (putK l k v).map (·.1) → x ∈ l.map (·.1) ∨ x = k
  | [], _, x, h => by unfold putK at h; simp at h; exact .inr h
  | p :: r, nd, x, h => by
    rw [putK_cons p r k v nd] at h
    split at h
    · rename_i e
      exact .inl (by simpa using h)
    · rw [List.map_cons, List.mem_cons] at h
      rw [List.map_cons, List.mem_cons]
      rw [List.map_cons, List.nodup_cons] at nd
      rcases h with h | h
      · exact .inl (.inl h)
      · rcases putK_mem k v nd.2 x h with z | z
        · exact .inl (.inr z)
        · exact .inr z
theorem nodup_putK {κ : Type} [DecidableEq κ] (k : κ) (v : V) : ∀ {l : List (κ × V)}, (l.map (·.1)).Nodup → ((putK l k v).map (·.1)).Nodup
  | [], _ => by unfold putK; simp
  | p :: r, nd => by
    rw [putK_cons p r k v nd]
    split
    · exact nd
    · rename_i e
      have nd' := nd
      rw [List.map_cons, List.nodup_cons] at nd
      rw [List.map_cons, List.nodup_cons]
      refine ⟨fun h => ?_, nodup_putK k v nd.2⟩
      rcases putK_mem k v nd.2 _ h with z | z
      · exact nd.1 z
      · exact e z
theorem putT_mem (k : NestedKey) (a : Addr) (v : V) : ∀ {l : List (NestedKey × Addr × V)} (x : NestedKey), x ∈ (putT l k a v).map (·.1) → x ∈ l.map (·.1) ∨ x = k
  | [], x, h => by unfold putT at h; simp at h; exact .inr h
  | p :: r, x, h => by
    unfold putT at h
    split at h
    · exact .inl (by simpa using h)
    · rw [List.map_cons, List.mem_cons] at h
      rw [List.map_cons, List.mem_cons]
      rcases h with h | h
      · exact .inl (.inl h)
      · rcases putT_mem k a v x h with z | z
        · exact .inl (.inr z)
        · exact .inr z
theorem nodup_putT (k : NestedKey) (a : Addr) (v : V) : ∀ {l : List (NestedKey × Addr × V)}, (l.map (·.1)).Nodup → ((putT l k a v).map (·.1)).Nodup
  | [], _ => by unfold putT; simp
  | p :: r, nd => by
    unfold putT
    split
    · exact nd
    · rename_i e
      rw [List.map_cons, List.nodup_cons] at nd
      rw [List.map_cons, List.nodup_cons]
      refine ⟨fun h => ?_, nodup_putT k a v nd.2⟩
      rcases putT_mem k a v _ h with z | z
      · exact nd.1 z
      · exact e z
section
variable {K : PySem.W.Frag} {ρ : Nat → Addr} {n : Nat} {H : Hp}
theorem RDF.fold : ∀ {kvs acc : List (EV × EV)} {src l : List (Leaf × V)}, RDF K ρ n H acc l → (l.map (·.1)).Nodup → RDF K ρ n H kvs src → RDF K ρ n H (dFold acc kvs) (foldF l src) ∧ (foldF l src).length ≤ l.length + src.length
  | [], acc, src, l, h, nd, g => by
    have g : src = [] := g
    subst g
    exact ⟨h, by simp [foldF]⟩
  | p :: kvs, acc, _, l, h, nd, ⟨k, v, r, e, h1, h2, h3⟩ => by
    subst e
    obtain ⟨i1, i2⟩ := RDF.fold (RDF.put h1 h2 h nd) (nodup_putK k v nd) h3
    refine ⟨i1, Nat.le_trans i2 ?_⟩
    have := length_putK l k v
    rw [List.length_cons]
    omega
theorem KV.fold : ∀ {src l : List (Leaf × V)} {prs vs : List (Leaf × Value)}, KV src prs → KV l vs → KV (foldF l src) (merged vs prs)
  | _, l, _, vs, .nil, h => h
  | _, l, _, vs, .cons (a := a) (b := b) h1 t, h => by
    obtain ⟨ak, av⟩ := a
    obtain ⟨bk, bv⟩ := b
    obtain ⟨e, rv⟩ := h1
    have e : ak = bk := e
    subst e
    exact (KV.fold t (h.put _ rv) :)
theorem RDT.fold : ∀ {kvs acc : List (EV × EV)} {src l : List (NestedKey × Addr × V)}, RDT K ρ n H acc l → RDT K ρ n H kvs src → RDT K ρ n H (dFold acc kvs) (foldT l src)
  | [], acc, src, l, h, g => by
    have g : src = [] := g
    subst g
    exact h
  | p :: kvs, acc, _, l, h, ⟨k, a, v, r, e, h1, hd, h2, h3, h4⟩ => by
    subst e
    exact (RDT.fold (RDT.put h1 hd h2 h3 h) h4 :)
end
abbrev RT3 (p : NestedKey × Addr × V) (q : NestedKey × Addr × Value) : Prop := p.1 = q.1 ∧ p.2.1 = q.2.1 ∧ RelV p.2.2 q.2.2
theorem RT3.keys : ∀ {l : List (NestedKey × Addr × V)} {xs : List (NestedKey × Addr × Value)}, Paired RT3 l xs → l.map (·.1) = xs.map (·.1)
  | _, _, .nil => rfl
  | _, _, .cons h t => by rw [List.map_cons, List.map_cons, RT3.keys t, h.1]
theorem RT3.fold : ∀ {src l : List (NestedKey × Addr × V)} {prs xs : List (NestedKey × Addr × Value)}, Paired RT3 src prs → Paired RT3 l xs → (l.map (·.1)).Nodup → Paired RT3 (foldT l src) (storedAllH xs prs)
  | _, l, _, xs, .nil, h, _ => h
  | _, l, _, xs, .cons (a := a) (b := b) h1 t, h, nd => by
    obtain ⟨ak, aa, av⟩ := a
    obtain ⟨bk, ba, bv⟩ := b
    obtain ⟨e, e2, rv⟩ := h1
    have e : ak = bk := e
    have e2 : aa = ba := e2
    subst e e2
    exact (RT3.fold t (putT_rel rv h (by rw [← RT3.keys h]; exact nd)) (nodup_putT _ _ _ nd) :)
theorem foldT_len : ∀ (src l : List (NestedKey × Addr × V)), (foldT l src).length ≤ l.length + src.length
  | [], l => by simp [foldT]
  | p :: r, l => by
    have h1 := foldT_len r (putT l p.1 p.2.1 p.2.2)
    have h2 : ∀ l : List (NestedKey × Addr × V), (putT l p.1 p.2.1 p.2.2).length ≤ l.length + 1 := by
      intro l
      induction l with
      | nil => simp [putT]
      | cons q s ih =>
        unfold putT
        split
        · simp
        · rw [List.length_cons, List.length_cons]; omega
    have h3 := h2 l
    rw [List.length_cons]
    unfold foldT
    omega
def pairsE : List EV → Option (List (EV × EV))
  | [] => some []
  | .tup [k, v] :: r => (pairsE r).map ((k, v) :: ·)
  | _ :: _ => none
theorem pairsE_eq : ∀ {xs : List EV} {kvs : List (EV × EV)}, pairsE xs = some kvs → xs = kvs.map pairE
  | [], _, e => by cases e; rfl
  | x :: r, kvs, e => by
    match x, e with
    | .tup [k, v], e =>
      unfold pairsE at e
      cases q : pairsE r with
      | none => rw [q] at e; cases e
      | some l =>
        rw [q] at e
        cases e
        rw [pairsE_eq q]
        rfl
    | .non, e => cases e
    | .bl _, e => cases e
    | .int _, e => cases e
    | .str _, e => cases e
    | .ref _, e => cases e
    | .adr _, e => cases e
    | .ty _, e => cases e
    | .sl _, e => cases e
    | .tup [], e => cases e
    | .tup [_], e => cases e
    | .tup (_ :: _ :: _ :: _), e => cases e
noncomputable def mkD (x : EV) (M : Mem) : Res EV := match getL M x with
  | some xs => (match pairsE xs with
    | some kvs => if leafs kvs = true ∨ nests kvs = true then newD (dFold [] kvs) M else .bad
    | none => .bad)
  | none => .bad
section
variable {X : Cx} {W : WX} {pins : List (Addr × Obj)} {σ : L2.St} {ρ : Nat → Addr} {M : Mem} {H : Hp} {s : Shared}
/-- the pairs of a list as the library's rules want them -/
theorem pairs_list (I : Inv X pins σ H s) : ∀ {kvs : List (EV × EV)} {vs : List V} {its : List Value}, RVs X.K ρ M.length H (kvs.map pairE) vs → Vals vs its →
    ∃ ts : List (Addr × Value × Value), its = ts.map (fun t => .ref t.1) ∧ (∀ t ∈ ts, IsTup s.heap t.1 #[t.2.1, t.2.2]) ∧ Paired (fun (p : EV × EV) (t : Addr × Value × Value) => ∃ k v, RV X.K ρ M.length H p.1 k ∧ RelV k t.2.1 ∧ RV X.K ρ M.length H p.2 v ∧ RelV v t.2.2) kvs ts
  | [], vs, its, r, q => by
    unfold List.map RVs at r
    subst r
    cases q
    exact ⟨[], rfl, fun _ h => (nomatch h), .nil⟩
  | p :: kvs, vs, its, r, q => by
    rw [List.map_cons] at r
    unfold RVs at r
    obtain ⟨v, r', e, h1, h2⟩ := r
    subst e
    cases q with
    | cons q1 q2 =>
      obtain ⟨ts, e1, e2, e3⟩ := pairs_list I h2 q2
      unfold pairE RV at h1
      obtain ⟨a, ws, e4, e5, e6⟩ := h1
      unfold RVs RVs RVs at e6
      obtain ⟨kv, _, e7, rk, vv, _, e8, rv, e9⟩ := e6
      subst e4 e9 e8 e7
      obtain ⟨_, us, rus, tt⟩ := (show ObjOk X.prog X.w H s.heap a (.tup [kv, vv]) from I.hok a _ e5)
      cases rus with
      | cons r1 r2 => cases r2 with
        | cons r2 r3 =>
          cases r3
          rename_i ku vu
          cases (show _ = Value.ref a from q1)
          refine ⟨(a, ku, vu) :: ts, by rw [e1]; rfl, fun t ht => ?_, .cons ⟨kv, vv, rk, r1, rv, r2⟩ e3⟩
          rcases List.mem_cons.mp ht with z | z
          · subst z; exact tt
          · exact e2 t z
theorem sbDict (hu : X.A.units + 64 < cLine) (hc : X.calm = true) : SB X W (.type "dict") (f1 mkD) := by
  refine ⟨rF1 X W mkD, fun pins s σ H xs us Q I r ⟨σ0, ρ, M, x, x', e0, rp, rx, h⟩ => ?_, cs1F X W mkD⟩
  subst e0
  obtain ⟨u, rfl, ru⟩ := vals1 r
  unfold mkD at h
  cases q : getL M x with
  | none => rw [q] at h; exact h.elim
  | some l =>
    rw [q] at h
    dsimp only at h
    cases q2 : pairsE l with
    | none => rw [q2] at h; exact h.elim
    | some kvs =>
      rw [q2] at h
      dsimp only at h
      have el := pairsE_eq q2
      subst el
      obtain ⟨a, vs, e1, sq, rr⟩ := getL_sim rp rx q
      subst e1
      cases (show u = Value.ref a from ru)
      obtain ⟨its, rv, pl, hz⟩ := I.list sq
      obtain ⟨ts, e2, e3, e4⟩ := pairs_list (M := M) (ρ := ρ) I rr rv
      have hlen : kvs.length = ts.length := Paired.length e4
      have hz' : ts.length ≤ sizeLine := by rw [← hlen]; have := rr.length; rw [List.length_map] at this; omega
      have P := PairArg.list (prog := X.prog) (w := X.w) a its.toArray (fun j => ((ts[j]?).map (·.1)).getD 0) (ts.map (·.2))
      have ok : PlainSeq "list" s.heap a its.toArray ∧ PairItems s.heap its.toArray (fun j => ((ts[j]?).map (·.1)).getD 0) (ts.map (·.2)) := by
        refine ⟨by obtain ⟨o, n, h1, h2, h3, h4⟩ := pl; exact ⟨o, n, h1, h2, h3, h4⟩, by simp [e2], fun j k v ej => ?_⟩
        rw [List.getElem?_map] at ej
        cases qt : ts[j]? with
        | none => rw [qt] at ej; cases ej
        | some t =>
          obtain ⟨tb, t1, t2⟩ := t
          rw [qt] at ej
          cases ej
          refine ⟨by simp [e2, qt], .inl ?_⟩
          simp only [qt, Option.map_some, Option.getD_some]
          exact e3 _ (List.mem_of_getElem? qt)
      have hm : (s.heap.objs.size == sysModules) = false := beq_eq_false_iff_ne.mpr (Nat.ne_of_gt I.big)
      have nn : H s.heap.objs.size = none := I.hok.fresh (Nat.le_refl _)
      by_cases c : leafs kvs = true ∨ nests kvs = true
      · rw [if_pos c] at h
        have fin : ∀ {w : HO} {h' : Heap} {tk : Nat}, (∀ b o, s.heap.get? b = some o → h'.get? b = some o) → (∀ c' : Carry X.K ρ M.length H (ext ρ M.length s.heap.objs.size) (M.length + 1) (upd H s.heap.objs.size w), DicU (gr X) (ext ρ M.length s.heap.objs.size) (M.length + 1) (upd H s.heap.objs.size w) s.heap.objs.size (dFold [] kvs) w) → ObjOk X.prog X.w (upd H s.heap.objs.size w) h' s.heap.objs.size w →
            EP X pins σ Q (.ref s.heap.objs.size) { s with heap := h', toks := tk } := fun {w h' tk} k du new => by
          obtain ⟨af, rp'⟩ := alloc rp nn w (.dic (dFold [] kvs)) fun cc => ⟨w, upd_same, du cc⟩
          exact ⟨.ref s.heap.objs.size, _, I.laid (t' := tk) k (Nat.le_refl _) new, rfl, h _ _ _ af rp' (by unfold RV; exact ⟨by simp, by rw [ext_self]⟩)⟩
        rcases c with c | c
        · -- flat keys
          have src : ∀ {kvs : List (EV × EV)} {ts : List (Addr × Value × Value)}, Paired (fun (p : EV × EV) (t : Addr × Value × Value) => ∃ k v, RV X.K ρ M.length H p.1 k ∧ RelV k t.2.1 ∧ RV X.K ρ M.length H p.2 v ∧ RelV v t.2.2) kvs ts → leafs kvs = true →
              ∃ src prs, RDF X.K ρ M.length H kvs src ∧ KV src prs ∧ Paired (fun (q : Leaf × Value) (t : Addr × Value × Value) => plainKey q.1 t.2.1 = true ∧ q.2 = t.2.2) prs ts := by
            intro kvs ts e
            induction e with
            | nil => exact fun _ => ⟨[], [], rfl, .nil, .nil⟩
            | @cons p t kvs ts h1 _ ih =>
              intro c
              unfold leafs at c
              rw [List.all_cons] at c
              obtain ⟨c1, c2⟩ := Bool.and_eq_true_iff.mp c
              obtain ⟨src, prs, i1, i2, i3⟩ := ih c2
              obtain ⟨k, v, g1, g2, g3, g4⟩ := h1
              obtain ⟨lk, hlk⟩ := Option.isSome_iff_exists.mp c1
              exact ⟨(lk, v) :: src, (lk, t.2.2) :: prs, ⟨lk, v, src, rfl, hlk, g3, i1⟩, .cons ⟨rfl, g4⟩ i2, .cons ⟨leaf_is (P := X.prog) (w := X.w) hlk g1 g2, rfl⟩ i3⟩
          obtain ⟨src, prs, i1, i2, i3⟩ := src e4 c
          have l3 := Paired.length i3
          have have' : PairsHave (exKind X.prog X.w) (ts.map (·.2)).length (PairRel (ts.map (·.2))) prs := by
            refine ⟨by rw [List.length_map]; exact l3, fun i key v ei => ?_⟩
            have ei : (ts.map (·.2))[i]? = some (key, v) := ei
            rw [List.getElem?_map] at ei
            cases qt : ts[i]? with
            | none => rw [qt] at ei; cases ei
            | some t =>
              obtain ⟨tb, t1, t2⟩ := t
              rw [qt] at ei
              cases ei
              have hi : i < prs.length := by rw [l3]; exact (List.getElem?_eq_some_iff.mp qt).1
              obtain ⟨t', ht', p1, p2⟩ := paired_get i3 (List.getElem?_eq_getElem hi)
              rw [qt] at ht'
              cases ht'
              refine ⟨prs[i].1, ?_, p1⟩
              rw [List.getElem?_eq_getElem hi]
              exact congrArg some (Prod.ext rfl p2)
          refine call_dict_pairs P (I.ok.hd hc) ok have' (by rw [List.length_map]; exact hz') fun h' tk hd' k => fin (fun b o e => k b o (by simp) e) (fun cc => .inl ⟨_, rfl, ((RDF.fold (acc := []) (l := []) (rfl : RDF X.K ρ M.length H [] []) List.nodup_nil i1).1).carry cc⟩) (phF_ok (G := gr X) ?_)
          refine ⟨?_, hm, _, KV.fold i2 .nil, hd'⟩
          have := (RDF.fold (acc := []) (l := []) (rfl : RDF X.K ρ M.length H [] []) List.nodup_nil i1).2
          have l4 := i1.length
          simp only [List.length_nil] at this
          omega
        · -- tuples as keys
          have src : ∀ {kvs : List (EV × EV)} {ts : List (Addr × Value × Value)}, Paired (fun (p : EV × EV) (t : Addr × Value × Value) => ∃ k v, RV X.K ρ M.length H p.1 k ∧ RelV k t.2.1 ∧ RV X.K ρ M.length H p.2 v ∧ RelV v t.2.2) kvs ts → nests kvs = true →
              ∃ src prs, RDT X.K ρ M.length H kvs src ∧ Paired RT3 src prs ∧ (∀ x ∈ prs, (nestedKind X.prog X.w).is s.heap x.1 x.2.1) ∧ Paired (fun (q : NestedKey × Addr × Value) (t : Addr × Value × Value) => t.2.1 = .ref q.2.1 ∧ q.2.2 = t.2.2) prs ts := by
            intro kvs ts e
            induction e with
            | nil => exact fun _ => ⟨[], [], rfl, .nil, fun _ z => (nomatch z), .nil⟩
            | @cons p t kvs ts h1 _ ih =>
              intro c
              unfold nests at c
              rw [List.all_cons] at c
              obtain ⟨c1, c2⟩ := Bool.and_eq_true_iff.mp c
              obtain ⟨src, prs, i1, i2, i3, i4⟩ := ih c2
              obtain ⟨k, v, g1, g2, g3, g4⟩ := h1
              obtain ⟨xs, m, ek, hm, hd8⟩ := nest_of c1
              obtain ⟨pk, pv⟩ := p
              have ek : pk = .tup xs := ek
              subst ek
              have g1 : RV X.K ρ M.length H (.tup xs) k := g1
              have g0 := g1
              unfold RV at g1
              obtain ⟨b, ws, e1, ht, _⟩ := g1
              subst e1
              have e5 : t.2.1 = Value.ref b := g2
              refine ⟨(m, b, v) :: src, (m, b, t.2.2) :: prs, ⟨m, b, v, src, rfl, hm, hd8, g0, g3, i1⟩, .cons ⟨rfl, rfl, g4⟩ i2, fun x hx => ?_, .cons ⟨e5, rfl⟩ i4⟩
              rcases List.mem_cons.mp hx with z | z
              · subst z; exact ⟨nk_is I.hok hm g0 rfl, hd8⟩
              · exact i3 x z
          obtain ⟨src, prs, i1, i2, i3, i4⟩ := src e4 c
          have l4 := Paired.length i4
          have have' : PairsHaveH (nestedKind X.prog X.w) (ts.map (·.2)).length (PairRel (ts.map (·.2))) prs := by
            refine ⟨by rw [List.length_map]; exact l4, fun i key v ei => ?_⟩
            have ei : (ts.map (·.2))[i]? = some (key, v) := ei
            rw [List.getElem?_map] at ei
            cases qt : ts[i]? with
            | none => rw [qt] at ei; cases ei
            | some t =>
              obtain ⟨tb, t1, t2⟩ := t
              rw [qt] at ei
              cases ei
              have hi : i < prs.length := by rw [l4]; exact (List.getElem?_eq_some_iff.mp qt).1
              obtain ⟨t', ht', p1, p2⟩ := paired_get i4 (List.getElem?_eq_getElem hi)
              rw [qt] at ht'
              cases ht'
              refine ⟨prs[i].1, prs[i].2.1, ?_, p1⟩
              rw [List.getElem?_eq_getElem hi]
              exact congrArg some (Prod.ext rfl (Prod.ext rfl p2))
          have rm : (nestedKind X.prog X.w).room X.A.in1.in1 := by
            show X.A.in1.in1.units + 8 < cLine
            have : X.A.in1.in1.units = X.A.units + 2 := rfl
            omega
          refine call_dict_pairsH P (I.ok.hd hc) rm ok have' (fun h' hk x hx => (nestedKind_stays (prog := X.prog) (w := X.w)).stays (fun b o _ _ e _ => hk b o (Nat.ne_of_lt (Heap.lt_size e)) (by simp) e) (i3 x hx)) (by rw [List.length_map]; exact hz') fun h' tk hd' k => fin (fun b o e => k b o (by simp) e) (fun cc => .inr ⟨_, rfl, (RDT.fold (acc := []) (l := []) (rfl : RDT X.K ρ M.length H [] []) i1).carry cc⟩) (phT_ok (G := gr X) ?_)
          obtain ⟨o, es, ep, d1, d2, d3, d4, d5, d6⟩ := hd'
          refine ⟨?_, hm, _, RT3.fold i2 .nil List.nodup_nil, o, es, ep, d1, d2, d3, d4, d6⟩
          have := foldT_len src []
          have l5 := i1.length
          simp only [List.length_nil] at this
          omega
      · rw [if_neg c] at h; exact h.elim
end
end WS

set_option Elab.async false
set_option linter.all false
set_option maxRecDepth 100000
/-! The simulation: set(texts) and its length. -/
namespace WS
open PySem PySem.Spec PyProof.Rows L2
open Classical
/-- the different ones, in the order they were met -/
def addOnce (l : List Str) (x : Str) : List Str := if l.any (· == x) = true then l else l ++ [x]
def onces (l : List Str) : List Str → List Str
  | [] => l
  | x :: r => onces (addOnce l x) r
theorem addOnce_any (l : List Str) (x k : Str) : (addOnce l x).any (· == k) = (l.any (· == k) || decide (k = x)) := by
  unfold addOnce
  by_cases e : k = x
  · subst e
    split
    · rename_i h; rw [h]; rfl
    · rw [List.any_append]; simp
  · have e' : (x == k) = false := beq_eq_false_iff_ne.mpr (Ne.symm e)
    split
    · simp [e]
    · rw [List.any_append]; simp [e, e']
theorem addOnce_len (l : List Str) (x : Str) : (addOnce l x).length = if l.any (· == x) then l.length else l.length + 1 := by
  unfold addOnce
  split <;> simp
theorem onces_snoc (l r : List Str) (x : Str) : onces l (r ++ [x]) = addOnce (onces l r) x := by
  induction r generalizing l with
  | nil => rfl
  | cons y r ih => exact ih (addOnce l y)
theorem onces_le (l r : List Str) : (onces l r).length ≤ l.length + r.length := by
  induction r generalizing l with
  | nil => exact Nat.le_refl _
  | cons y r ih =>
    have h := ih (addOnce l y)
    have g := addOnce_len l y
    unfold onces
    rw [List.length_cons]
    split at g <;> omega
section
variable {P : Program} {w : World} {A : Around} {R : Result → Shared → Prop} {it : Addr} {fp wr : List Addr} {G : Array GenState → Array GenState → Prop} {n : Nat} {Pv : Nat → Value → Prop} {St : Nat → Shared → Prop}
abbrev SetIs (P : Program) (w : World) (h : Heap) (a : Addr) (l : List Str) : Prop := h.SetOf (PySem.strKind P w) a (fun k => l.any (· == k)) l.length
theorem SetIs.stay {h g : Heap} {a : Addr} {l : List Str} (z : SetIs P w h a l) (k : ∀ o, h.get? a = some o → g.get? a = some o) : SetIs P w g a l := by
  obtain ⟨o, es, ep, tb, ho, rest⟩ := z
  exact ⟨o, es, ep, tb, k o ho, rest⟩
theorem set_loop (V : WalksS P w A.in1 it fp wr G n Pv St) (a : Addr) (na : a ∉ fp) (xs : List Str) (hn : xs.length = n) (hb : n + 1 < scanBound) (hv : ∀ i v, Pv i v → ∃ t, v = .str (xs.getD i Str.empty) t) :
    ∀ (d i : Nat) (s : Shared), n - i = d → i ≤ n → St i s → SetIs P w s.heap a (onces [] (xs.take i)) →
      (∀ t, Moved (a :: wr) G s t → SetIs P w t.heap a (onces [] xs) → R (.ok (.ret .none)) t) → codeAny (model P w) A (.builtin "set.update.loop" ⟨[.ref a, .ref it], []⟩) R s := by
  have nw : a ∉ wr := fun z => na (V.sub _ z)
  have up : ∀ b ∈ wr, b ∈ a :: wr := fun b z => List.mem_cons_of_mem _ z
  intro d
  induction d with
  | zero =>
    intro i s e le st set fin
    obtain rfl : i = n := by omega
    refine codeAny_builtin PyProof.Rows.F.entry_set_update_loop ?_
    rw [PySem.Around.under_plainId PyProof.Rows.F.plain_set_update_loop (_)]
    show wpAny _ A.in1 (pyNext (.ref it) >>= _) _ _ s
    refine wpAny_bind (V.done s _ _ st fun t mv => ?_)
    show wpAny _ A.in1 (ret Value.none) _ _ t
    refine wpAny_pure (fin t (mv.mono up) ?_)
    rw [← hn, List.take_length] at set
    exact set.stay fun o q => mv.heap a _ nw q
  | succ d ih =>
    intro i s e le st set fin
    have lt : i < n := by omega
    refine codeAny_builtin PyProof.Rows.F.entry_set_update_loop ?_
    rw [PySem.Around.under_plainId PyProof.Rows.F.plain_set_update_loop (_)]
    show wpAny _ A.in1 (pyNext (.ref it) >>= _) _ _ s
    refine wpAny_bind (V.item i s _ _ lt st fun v t pv st' mv => ?_)
    obtain ⟨tk, rfl⟩ := hv i v pv
    have set' := set.stay fun o q => mv.heap a _ nw q
    have hx : xs.take (i + 1) = xs.take i ++ [xs.getD i Str.empty] := by
      have hi : i < xs.length := by omega
      rw [List.take_succ_eq_append_getElem hi, List.getD_eq_getElem?_getD, List.getElem?_eq_getElem hi]; rfl
    show wpAny _ A.in1 (holding [Value.str (xs.getD i Str.empty) tk] (setAdd a (.str (xs.getD i Str.empty) tk)) >>= _) _ _ t
    refine wpAny_bind (wpAny_holding ?_)
    unfold setAdd
    refine wpAny_holding (wpAny_bind ((PySem.strKind P w).pyHash (k := xs.getD i Str.empty) (strKind_is _ _ _ _) ?_))
    have room : (onces [] (xs.take i)).length + 1 < scanBound := by
      have h1 := onces_le [] (xs.take i)
      have h2 := List.length_take_le i xs
      simp only [List.length_nil] at h1
      omega
    refine wpAny_setAddHashed_of (knd := PySem.strKind P w) (s := { t with toks := t.toks + 1 }) (strKind_is _ _ _ _) rfl set' room fun g sb new => ?_
    have new' : SetIs P w g a (onces [] (xs.take (i + 1))) := by
      rw [hx, onces_snoc]
      exact SetOf_congr new (fun k => (addOnce_any _ _ k).symm) (addOnce_len _ _).symm
    refine wpAny_pure ⟨plainId_quiet PyProof.Rows.F.plain_set_update_loop _, ih (i + 1) _ (by omega) lt (V.frame _ t _ _ st' (Nat.le_succ _) fun b hb o q => ?_) new' fun u mu su => fin u (Moved.trans V.gtrans ((mv.mono up).then_heap (Nat.le_succ _) fun b o hb q => ?_) mu) su⟩
    · rw [sb.2 b fun z => na (by rw [← z]; exact hb)]; exact q
    · rw [sb.2 b fun z => hb (by rw [z]; exact List.mem_cons_self)]; exact q
end
section
variable {P : Program} {w : World} {A : Around} {E : Value → Shared → Prop} {s : Shared}
abbrev setO0 (led : Bool) : Obj := { cls := .type "set", dict := none, data := .set #[] 0 (.fresh 0 0 led) }
theorem getD_of_strs : ∀ {us : List Value} {xs : List Str}, Vals (xs.map V.str) us → ∀ (i : Nat) (v : Value), us[i]? = some v → ∃ t, v = .str (xs.getD i Str.empty) t := fun r i v e => SS.strs_at (strsAre_of r) i v e
set_option maxHeartbeats 3200000 in
theorem set_texts {src : Addr} {its : Array Value} {xs : List Str} {Q : Value → Shared → Prop} (calm : A.handled = none) (isl : s.heap.IsList src its) (tx : Vals (xs.map V.str) its.toList) (few : xs.length + 1 < scanBound)
    (fin : ∀ (g : Heap) (tk : Nat), SetIs P w g s.heap.objs.size (onces [] xs) → (∀ b o, b < s.heap.objs.size → s.heap.get? b = some o → g.get? b = some o) → Q (.ref s.heap.objs.size) { s with heap := g, toks := tk }) : wpAny (model P w) A (call (.type "set") [.ref src]) Q E s := by
  have ⟨_, _, lineage⟩ := PySem.F.called_set.mro
  have z1 := PySem.F.called_set.made
  have z2 := PySem.F.called_set.sub
  refine wpAny_call (codeAny_of_tree (show wpAny _ _ (callAny (.type "set") _) _ _ _ from wpAny_pure ⟨Code.quiet_builtin _ (by decide +kernel), codeAny_builtin PySem.F.entry_type_call ?_⟩))
  rw [PySem.Around.under_plain (weight_type_call_type "set" [.ref src] []) rfl]
  have z3 := PySem.F.called_set.notType
  have z4 := PySem.F.called_set.canCreate
  have z5 := PySem.F.typeCall_set_1 (.ref src)
  repeat (any_goals (first | assumption | wp_step))
  refine codeAny_mono (code_set_new_1 (.ref src) (E := E) (Q₁ := fun u t => ∃ led : Bool, u = .ref s.heap.objs.size ∧ t = { s with heap := s.heap.push { cls := .type "set", dict := none, data := .set #[] 0 (.fresh 0 0 led) } }) fun led => ⟨led, rfl, rfl⟩) fun r t hr => ?_
  cases r with
  | error e => exact hr
  | ok f =>
    cases f with
    | ret u =>
      obtain ⟨led, rfl, rfl⟩ := hr
      have at0 : (s.heap.push (setO0 led)).get? s.heap.objs.size = some (setO0 led) := Heap.get?_push_size _ rfl
      have ty : Shared.TypeIs { s with heap := s.heap.push (setO0 led) } (.ref s.heap.objs.size) "set" := ⟨_, at0, rfl⟩
      have z6 := PySem.F.called_set.init.lookup
      have z7 := PySem.F.called_set.init.bind (.ref s.heap.objs.size)
      repeat (any_goals (first | assumption | wp_step))
      refine codeAny_mono (codeAny_call_builtin (R := wants (fun r t => r = .none ∧ ∃ g tk, t = { s with heap := g, toks := tk } ∧ SetIs P w g s.heap.objs.size (onces [] xs) ∧ (∀ b o, b < s.heap.objs.size → s.heap.get? b = some o → g.get? b = some o)) E) PySem.F.called_set.init.plain PySem.F.entry_set_init (check_set_init_1 ty ?_)) fun r t hr => ?_
      · obtain ⟨⟨oc, od, oD, os⟩, holl, hc, len, hd⟩ := isl
        simp only at hc hd
        subst hc hd
        have at1 : (s.heap.push (setO0 led)).get? src = some { cls := .type "list", dict := od, data := .seq its len, slots := os } := Heap.get?_push_of_some _ holl
        have y1 := PySem.F.sub_list_set
        have y2 := PySem.F.sub_list_frozenset
        have y3 : (Value.type "list" == Value.type "dict") = false := by decide
        have isl1 : (s.heap.push (setO0 led)).IsList src its := ⟨_, at1, rfl, len, rfl⟩
        unfold Builtin.«set.__init__» noKeywords Builtin.Frozenset.updateFrom
        generalize hpy : pyIter = py
        wp_walk
        subst hpy
        refine wpAny_pyIter_list isl1 ?_
        refine wpAny_bind (wpAny_runValue ?_)
        have lt : src < s.heap.objs.size := Heap.lt_size holl
        have sz : (s.heap.push (setO0 led)).objs.size = s.heap.objs.size + 1 := Heap.size_push _ _
        have ne1 : src ≠ (s.heap.push (setO0 led)).objs.size := by rw [sz]; exact Nat.ne_of_lt (Nat.lt_succ_of_lt lt)
        have ne2 : s.heap.objs.size ∉ [(s.heap.push (setO0 led)).objs.size, src] := by
          rw [sz]
          intro z
          simp only [List.mem_cons, List.not_mem_nil, or_false] at z
          rcases z with z | z
          · exact absurd z (Nat.ne_of_lt (Nat.lt_succ_self _))
          · exact absurd z (Nat.ne_of_gt lt)
        have hlen : xs.length = its.size := by rw [← Array.length_toList, ← tx.length, List.length_map]
        refine set_loop ((Walks.list (by simp [calm]) _ src ne1 its).toS) s.heap.objs.size ne2 xs hlen (by rw [← hlen]; exact few) (fun i v e => getD_of_strs tx i v (by rw [Array.getElem?_toList]; exact e)) (its.size - 0) 0 _ rfl (Nat.zero_le _) ⟨⟨_, Heap.get?_push_size _ rfl, rfl, rfl⟩, (isl1.push _)⟩ ?_ fun t mv su => ?_
        · have at2 : ((s.heap.push (setO0 led)).push { cls := .type "list_iterator", data := .fields #[.ref src, .int 0 0] }).get? s.heap.objs.size = some (setO0 led) := Heap.get?_push_of_some _ at0
          exact SetOf_congr ((setObjOf_fresh (knd := PySem.strKind P w) led).setOf at2 (by unfold scanBound; omega)) (fun _ => rfl) rfl
        · obtain ⟨g, gs, dr, tk, os⟩ := t
          cases (show gs = s.gens from mv.gens)
          cases (show dr = s.drawn from mv.drawn)
          cases (show os = s.os from mv.os)
          show wpAny _ _ _ _ _ _
          refine wpAny_pure ?_
          show wpAny _ _ (ret Value.none) _ _ _
          refine wpAny_pure ⟨rfl, g, tk, rfl, su, fun b o hb e => mv.heap b o (fun z => ?_) (Heap.get?_push_of_some _ (Heap.get?_push_of_some _ e))⟩
          rw [sz] at z
          simp only [List.mem_cons, List.not_mem_nil, or_false] at z
          rcases z with z | z
          · exact absurd z (Nat.ne_of_lt hb)
          · exact absurd z (Nat.ne_of_lt (Nat.lt_succ_of_lt hb))
      · cases r with
        | error e => exact hr
        | ok f =>
          cases f with
          | ret r =>
            obtain ⟨rfl, g, tk, rfl, su, kp⟩ := hr
            repeat (any_goals (first | assumption | wp_step))
            exact fin _ _ su kp
          | _ => exact hr.elim
    | _ => exact hr.elim
end
/-! ### len(set(xs)), xs a list of texts -/
def lenSet (x : EV) (M : Mem) : Res EV := match getL M x with
  | some xs => (match strsOf xs with
    | some l => if l.length + 1 < 4096 then .ok (.int (onces [] l).length) M else .bad
    | none => .bad)
  | none => .bad
section
variable {X : Cx} {W : WX} {a : Expr} {fa : FE} {p p2 q pos : Pos}
theorem sLenSet (hc : X.calm = true) (hm : X.mg "len" = none) (hm2 : X.mg "set" = none) (ha : SE X W a fa) (hg : Gl X "len" := by rfl) (hg2 : Gl X "set" := by rfl)
    (na : starEach [a] X.env = (false, eval a X.env) :: starEach [] X.env := by rfl) : SE X W (.Call (.Name "len" p) [.Call (.Name "set" p2) [a] [] q] [] pos) (e1 lenSet fa) := by
  obtain ⟨t, h1, h2⟩ := ha
  refine ⟨fun σ H Q => t σ H fun x H1 => ∃ src xs, x = .ref src ∧ SqL X.K H1 src (xs.map V.str) ∧ xs.length + 1 < scanBound ∧ Q (.int (onces [] xs).length) H1, ⟨fun pins s σ H Q I h => ?_⟩, ?_⟩
  · refine Call_ (ld_blt I hg hm boot_len ?_)
    refine PyProof.Rows.callWith_builtin1 (PyProof.Rows.args_cons ?_ rfl) rfl rfl
    refine Call_ (ld_blt I hg2 hm2 boot_set ?_)
    refine PyProof.Rows.callWith_type1 (PyProof.Rows.args_cons (thn (h1.run pins s σ H _ I h) fun v s1 ⟨x, H1, I1, r1, src, xs, e, sq, few, z⟩ => PyProof.Rows.args_nil ?_) na) na rfl
    subst e
    cases (show v = Value.ref src from r1)
    obtain ⟨its, r, pl, hz⟩ := I1.list sq
    refine set_texts (I1.ok.hd hc) pl.isList (by simpa using r) few fun g tk su kp => PyProof.Rows.args_nil ?_
    obtain ⟨o, es, ep, tb, ho, hex, hd, _, _, _, hf, hn⟩ := su
    have I2 : Inv X pins σ H1 { s1 with heap := g, toks := tk } := I1.kept fun b o e => kp b o (Heap.lt_size e) e
    have le := onces_le [] xs
    simp only [List.length_nil] at le
    have sb : scanBound = 4096 := rfl
    exact call_len_set ho hex hd hf (by rw [hn]; omega) ⟨.int (onces [] xs).length, H1, I2.tok _, ⟨_, by rw [hn]⟩, z⟩
  · intro ρ σe σ M H Q rs hp h
    refine h2 ρ σe σ M H _ rs hp (PostR.bind h fun v M1 ρ1 H1 v1 _ a rp r h1 => ?_)
    unfold lenSet at h1
    cases q : getL M1 v with
    | none => rw [q] at h1; exact h1.elim
    | some l =>
      rw [q] at h1
      dsimp only at h1
      cases q2 : strsOf l with
      | none => rw [q2] at h1; exact h1.elim
      | some xs =>
        rw [q2] at h1
        dsimp only at h1
        obtain ⟨b, vs, e1, sq, rr⟩ := getL_sim rp r q
        by_cases c : xs.length + 1 < 4096
        · rw [if_pos c] at h1
          have e := strsOf_eq q2
          subst e
          have ev : vs = xs.map V.str := RVs.strs_eq rr
          subst ev
          exact ⟨b, xs, e1, sq, c, okI h1 rp⟩
        · rw [if_neg c] at h1; exact h1.elim
end
end WS

set_option Elab.async false
set_option linter.all false
set_option maxRecDepth 100000
/-! The simulation: sorted(list), of alike data, or of rows (key, thing) of different keys. -/
namespace WS
open PySem PySem.Spec PyProof.Rows L2
open PySem.W (dataLt dataLe keyToks alike AllAlike Sortable SortsAt sortVals)
open Classical
def datD (M : Mem) (v : EV) : PyData := (dat M v).getD .none
/-- ≤ by the keys -/
def leD (k : EV → PyData) (a b : EV) : Bool := !dataLt (k b) (k a)
/-- a row's first -/
def fstD : PyData → PyData
  | .tuple [a, _] => a
  | d => d
def dats (M : Mem) : List EV → Option (List PyData)
  | [] => some []
  | v :: r => match dat M v, dats M r with
    | some d, some ds => some (d :: ds)
    | _, _ => none
/-- what may be sorted as it is -/
def Srt1 (ds : List PyData) : Prop := AllAlike ds ∧ Sortable ds ∧ ds.length ≤ sizeLine ∧ ∀ d ∈ ds, d.depth ≤ 60
/-- .. and as rows of different keys -/
def IsRow (d : PyData) : Prop := ∃ x r b, d = .tuple [.tuple (x :: r), b]
structure Srt2 (ds : List PyData) : Prop where
  row : ∀ d ∈ ds, IsRow d
  ali : ∀ d ∈ ds, ∀ e ∈ ds, alike (fstD d) (fstD e) = true
  dif : ∀ d ∈ ds, ∀ e ∈ ds, PyData.eqv (fstD d) (fstD e) = true → d = e
  pln : ∀ d ∈ ds, PyData.plain d = true
  dep : ∀ d ∈ ds, d.depth ≤ 60
  len : ds.length ≤ sizeLine
noncomputable def sortedV (x : EV) (M : Mem) : Res EV := match getL M x with
  | some xs => (match dats M xs with
    | some ds => if Srt1 ds then newL (xs.mergeSort (leD (datD M))) M else if Srt2 ds then newL (xs.mergeSort (leD fun v => fstD (datD M v))) M else .bad
    | none => .bad)
  | none => .bad
abbrev Bs := EV × V × PyData
theorem each_get {α β : Type} {R : α → β → Prop} : ∀ {l₁ : List α} {l₂ : List β}, PySem.W.EachIs R l₁ l₂ → ∀ {b : β}, b ∈ l₂ → ∃ a, R a b
  | _, _, .nil, b, h => nomatch h
  | _, _, .cons h t, b, hb => by
    rcases List.mem_cons.mp hb with z | z
    · subst z; exact ⟨_, h⟩
    · exact each_get t z
section
variable {X : Cx} {W : WX} {pins : List (Addr × Obj)} {σ : L2.St} {ρ : Nat → Addr} {M : Mem} {H : Hp} {s : Shared}
abbrev RB (X : Cx) (ρ : Nat → Addr) (M : Mem) (H : Hp) (u : Value) (b : Bs) : Prop := RelV b.2.1 u ∧ RV X.K ρ M.length H b.1 b.2.1
theorem bs_of (I : Inv X pins σ H s) (rp : RP (gr X) ρ M H) : ∀ {xs : List EV} {ds : List PyData} {vs : List V} {us : List Value}, dats M xs = some ds → RVs X.K ρ M.length H xs vs → Vals vs us →
    ∃ bs : List Bs, bs.map (·.1) = xs ∧ bs.map (·.2.2) = ds ∧ (∀ b ∈ bs, dat M b.1 = some b.2.2) ∧ PySem.W.EachIs (RB X ρ M H) us bs ∧ PySem.W.EachIs (fun u (b : Bs) => ∃ as, Reads s.heap u b.2.2 as) us bs
  | [], ds, vs, us, e, r, q => by
    unfold RVs at r
    subst r
    cases e
    cases q
    exact ⟨[], rfl, rfl, fun _ h => (nomatch h), .nil, .nil⟩
  | x :: xs, ds, vs, us, e, r, q => by
    unfold RVs at r
    obtain ⟨v, r', e0, r1, r2⟩ := r
    subst e0
    unfold dats at e
    cases q1 : dat M x with
    | none => rw [q1] at e; cases e
    | some d =>
      cases q2 : dats M xs with
      | none => rw [q1, q2] at e; cases e
      | some ds' =>
        rw [q1, q2] at e
        cases e
        cases q with
        | cons g1 g2 =>
          obtain ⟨bs, i1, i2, i3, i4, i5⟩ := bs_of I rp q2 r2 g2
          refine ⟨(x, v, d) :: bs, by rw [List.map_cons, i1], by rw [List.map_cons, i2], fun b hb => ?_, .cons ⟨g1, r1⟩ i4, .cons (Dp.reads I d v _ (toD_sim M 60 x d q1 (gr X) ρ H v rp r1) g1) i5⟩
          rcases List.mem_cons.mp hb with z | z
          · subst z; exact q1
          · exact i3 b z
theorem vals_of_bs : ∀ {us : List Value} {bs : List Bs}, PySem.W.EachIs (RB X ρ M H) us bs → Vals (bs.map (·.2.1)) us ∧ RVs X.K ρ M.length H (bs.map (·.1)) (bs.map (·.2.1))
  | _, _, .nil => ⟨.nil, RVs.nil⟩
  | _, _, .cons h t => let ⟨a, b⟩ := vals_of_bs t; ⟨.cons h.1 a, RVs.cons h.2 b⟩
theorem sort_bs {bs : List Bs} {k : PyData → PyData} (h : ∀ b ∈ bs, dat M b.1 = some b.2.2) : (bs.mergeSort (dataLe false fun b => k b.2.2)).map (·.1) = (bs.map (·.1)).mergeSort (leD fun v => k (datD M v)) := by
  refine List.map_mergeSort fun a ha b hb => ?_
  rw [PySem.W.dataLe_eq]
  have e1 : datD M a.1 = a.2.2 := by unfold datD; rw [h a ha]; rfl
  have e2 : datD M b.1 = b.2.2 := by unfold datD; rw [h b hb]; rfl
  show (!dataLt (k b.2.2) (k a.2.2)) = !dataLt (k (datD M b.1)) (k (datD M a.1))
  rw [e1, e2]
/-- the rows' kind of keys -/
noncomputable def rowKind (h : Heap) (ds : List PyData) : PyProof.Rows.KeyKind where
  toKeyOrd := listOrd itemOrd
  keyOf v := if q : ∃ d, d ∈ ds ∧ ∃ as, Reads h v d as then some (keyToks (fstD q.choose)) else none
  dflt := ([] : List (Int ⊕ List Nat))
theorem row_inv {h : Heap} {ds : List PyData} {v : Value} {k : List (Int ⊕ List Nat)} (e : (rowKind h ds).keyOf v = some k) : ∃ d as, d ∈ ds ∧ Reads h v d as ∧ k = keyToks (fstD d) := by
  by_cases q : ∃ d, d ∈ ds ∧ ∃ as, Reads h v d as
  · have e' : (rowKind h ds).keyOf v = some (keyToks (fstD q.choose)) := dif_pos q
    obtain ⟨h1, as, h2⟩ := q.choose_spec
    rw [e'] at e
    exact ⟨_, as, h1, h2, (Option.some.inj e).symm⟩
  · have e' : (rowKind h ds).keyOf v = none := dif_neg q
    rw [e'] at e
    cases e
theorem row_some {h : Heap} {ds : List PyData} (S : Srt2 ds) {v : Value} {d : PyData} {as : List Addr} (hd : d ∈ ds) (r : Reads h v d as) : (rowKind h ds).keyOf v = some (keyToks (fstD d)) := by
  have q : ∃ d, d ∈ ds ∧ ∃ as, Reads h v d as := ⟨d, hd, as, r⟩
  have e : (rowKind h ds).keyOf v = some (keyToks (fstD q.choose)) := dif_pos q
  obtain ⟨h1, bs, h2⟩ := q.choose_spec
  rw [e, SeqAt.plain_unique _ _ _ _ _ (S.pln _ h1) h2 r]
theorem rows_sort {A : Around} (hu : A.units + 60 < cLine) {s : Shared} {us : List Value} {ds : List PyData} (S : Srt2 ds) (e : PySem.W.EachIs (fun u d => ∃ as, Reads s.heap u d as) us ds) : SortsAt X.prog X.w A s (rowKind s.heap ds) us := by
  refine ⟨fun v hv => ?_, tuples' false, ?_, fun h2 E Q hq => ?_⟩
  · obtain ⟨d, hd, as, r⟩ := e.left v hv
    exact ⟨_, row_some S hd r⟩
  · intro E x y a b Q ha hb hq
    obtain ⟨d, as, hd, ra, rfl⟩ := row_inv ha
    obtain ⟨d', as', hd', rb, rfl⟩ := row_inv hb
    obtain ⟨p1, p2, p3, ed⟩ := S.row d hd
    obtain ⟨q1, q2, q3, ed'⟩ := S.row d' hd'
    have pl := S.pln d hd
    have pl' := S.pln d' hd'
    have al := S.ali d hd d' hd'
    have df := S.dif d hd d' hd'
    have dp := S.dep d hd
    have dp' := S.dep d' hd'
    subst ed ed'
    have hq : Q (dataLt (.tuple (p1 :: p2)) (.tuple (q1 :: q2))) s := hq
    have al : alike (.tuple (p1 :: p2)) (.tuple (q1 :: q2)) = true := al
    have df : PyData.eqv (.tuple (p1 :: p2)) (.tuple (q1 :: q2)) = true → PyData.tuple [.tuple (p1 :: p2), p3] = .tuple [.tuple (q1 :: q2), q3] := df
    have dd : (PyData.tuple (p1 :: p2)).depth ≤ 60 := by
      simp only [PyData.depth, PyData.depthAll] at dp ⊢
      omega
    have dd3 : p3.depth ≤ 60 := by
      simp only [PyData.depth, PyData.depthAll] at dp
      omega
    have plf : PyData.plain (.tuple (p1 :: p2)) = true ∧ PyData.plain p3 = true := by
      simp only [PyData.plain, PyData.plainAll, Bool.and_eq_true] at pl ⊢
      exact ⟨pl.1, pl.2.1⟩
    have plf' : PyData.plain (.tuple (q1 :: q2)) = true ∧ PyData.plain q3 = true := by
      simp only [PyData.plain, PyData.plainAll, Bool.and_eq_true] at pl' ⊢
      exact ⟨pl'.1, pl'.2.1⟩
    cases ra with
    | @tuple l o xs n _ _ h1 h2 h3 h4 =>
      cases rb with
      | @tuple l' o' xs' n' _ _ k1 k2 k3 k4 =>
        have n1 : xs.size = 2 := by simpa using SeqAt.ReadsAll.length _ _ _ h4
        have n2 : xs'.size = 2 := by simpa using SeqAt.ReadsAll.length _ _ _ k4
        refine PySem.W.kat_lt h1 h3 k1 k3 ?_
        rw [n1, n2]
        generalize xs.toList = l1 at h4
        generalize xs'.toList = l2 at k4
        cases h4 with
        | cons r1 rs => cases rs with
          | cons r2 rs => cases rs with
            | nil => cases k4 with
              | cons g1 gs => cases gs with
                | cons g2 gs => cases gs with
                  | nil =>
                    refine PySem.W.kat_cons (SeqAt.eqAt_plain _ _ A s _ _ _ _ r1 g1 plf.1 plf'.1 (by omega) X.prog X.w _ _ ?_)
                    refine PySem.W.kat_go (fun e1 => ?_) (fun e1 => ?_)
                    · have e2 := df e1
                      injection e2 with e3
                      injection e3 with e4 e5
                      injection e5 with e6 e7
                      subst e6
                      rw [e4] at hq
                      have ir : (rowKind s.heap ds).blt (keyToks (.tuple (q1 :: q2))) (keyToks (.tuple (q1 :: q2))) = false := (rowKind s.heap ds).irrefl _
                      have hq : Q ((rowKind s.heap ds).blt (keyToks (.tuple (q1 :: q2))) (keyToks (.tuple (q1 :: q2)))) s := hq
                      rw [ir] at hq
                      refine PySem.W.kat_yes (PySem.W.kat_cons (SeqAt.eqAt_plain _ _ A s _ _ _ _ r2 g2 plf.2 plf.2 (by omega) X.prog X.w _ _ ?_))
                      rw [SeqAt.eqv_refl_plain _ plf.2]
                      exact PySem.W.kat_yes (PySem.W.kat_nil hq)
                    · exact PySem.W.kat_no (PySem.W.oneLt_alike (fun z => by cases z) r1 g1 al (by intro z; cases z) (by omega) hq)
  · obtain ⟨fs, t1, t2, t3⟩ := PySem.W.each_katTups e fun d hd => by obtain ⟨x, r, b, ed⟩ := S.row d hd; exact ⟨_, _, ed⟩
    refine PySem.W.kat_kind (T := .type "tuple") t1 (by omega) (fun f hf => ?_) (beq_self_eq_true _) hq
    obtain ⟨x, r, as, m1, m2⟩ := t3 f hf
    obtain ⟨y, z, b, ed⟩ := S.row _ m1
    injection ed with e1
    injection e1 with e2 e3
    subst e2
    exact PySem.W.looks_reads m2
theorem sorted_vals' {pins : List (Addr × Obj)} {σ : L2.St} {ρ : Nat → Addr} {M : Mem} {H : Hp} {s : Shared} {src : Addr} {us : List Value} {bs : List Bs} {κ : PyProof.Rows.KeyKind} {k : Bs → κ.α} {Q : VK} (I : Inv X pins σ H s) (rp : RP (gr X) ρ M H) (hl : s.heap.IsList src us.toArray)
    (S : SortsAt X.prog X.w X.A.in1.in1 { s with heap := PySem.W.sortingHeap (PySem.W.copyHeap s.heap us) (s.heap.objs.size + 1) us } κ us) (e : PySem.W.EachIs (RB X ρ M H) us bs) (hz : bs.length ≤ sizeLine) (hk : PySem.W.EachIs (fun u b => κ.keyOf u = some (k b)) us bs)
    (h : ∀ p, H p = none → Q (.ref p) (upd H p (.lst ((bs.mergeSort (PySem.W.sortLe κ.toKeyOrd false k)).map (·.2.1))))) : wpAny (model X.prog X.w) X.A (call (.builtin "sorted") [.ref src]) (EP X pins σ Q) X.xe s := by
  have lz : us.length ≤ sizeLine := by rw [e.length]; exact hz
  refine PySem.W.sorted_vals hl S lz ?_
  have out := PySem.W.sortVals_each (rev := false) k e hk
  obtain ⟨ep, he⟩ := PyProof.Rows.sortedAll_at s.heap us (sortVals κ false us us).toArray
  have hlen : ((bs.mergeSort (PySem.W.sortLe κ.toKeyOrd false k)).map (·.2.1)).length ≤ sizeLine := by rw [List.length_map, List.length_mergeSort]; exact hz
  exact ⟨.ref (s.heap.objs.size + 1), upd H (s.heap.objs.size + 1) (.lst ((bs.mergeSort (PySem.W.sortLe κ.toKeyOrd false k)).map (·.2.1))), I.laid (t' := s.toks) (fun _ _ => PyProof.Rows.sortedAll_old) (Nat.le_succ _) ⟨hlen, sortVals κ false us us, ep, (vals_of_bs out).1, he⟩, rfl, h _ (I.hok.fresh (Nat.le_succ _))⟩
theorem sbSorted (hu : X.A.units + 64 < cLine) : SB X W (.builtin "sorted") (f1 sortedV) := by
  refine ⟨rF1 X W sortedV, fun pins s σ H xs us Q I r ⟨σ0, ρ, M, x, x', e0, rp, rx, h⟩ => ?_, cs1F X W sortedV⟩
  subst e0
  obtain ⟨u, rfl, ru⟩ := vals1 r
  unfold sortedV at h
  cases q : getL M x with
  | none => rw [q] at h; exact h.elim
  | some l =>
    rw [q] at h
    dsimp only at h
    cases q2 : dats M l with
    | none => rw [q2] at h; exact h.elim
    | some ds =>
      rw [q2] at h
      dsimp only at h
      obtain ⟨a, vs, e1, sq, rr⟩ := getL_sim rp rx q
      subst e1
      cases (show u = Value.ref a from ru)
      obtain ⟨its, rv, pl, hz⟩ := I.list sq
      obtain ⟨bs, b1, b2, b3, b4, b5⟩ := bs_of I rp q2 rr rv
      have hb : bs.length = ds.length := by rw [← b2, List.length_map]
      have u2 : X.A.in1.in1.units = X.A.units + 2 := rfl
      have old : ∀ {us : List Value} {bs : List Bs}, PySem.W.EachIs (fun u (b : Bs) => ∃ as, Reads s.heap u b.2.2 as) us bs → PySem.W.EachIs (fun u (b : Bs) => ∃ as, Reads (PySem.W.sortingHeap (PySem.W.copyHeap s.heap its) (s.heap.objs.size + 1) its) u b.2.2 as) us bs := fun z => z.mono fun _ _ ⟨as, r⟩ => ⟨as, PyProof.Rows.Reads.keeps (fun _ _ => PySem.W.sorting_copy_old) r⟩
      have fin : ∀ {bs' : List Bs} {ys : List EV}, bs'.map (·.1) = ys → (∀ us, PySem.W.EachIs (RB X ρ M H) us bs' → True) → RVs X.K ρ M.length H (bs'.map (·.1)) (bs'.map (·.2.1)) → PostE (gr X) W σ0 ρ M H (newL ys M) Q → ∀ p, H p = none → Q (.ref p) (upd H p (.lst (bs'.map (·.2.1)))) := fun {bs' ys} e _ rb k => by
        subst e
        exact (newL_sim rp rb k).2
      have tr : ∀ (κ : PyProof.Rows.KeyKind) (f : PyData → κ.α), PySem.W.EachIs (fun u d => κ.keyOf u = some (f d)) its ds → PySem.W.EachIs (fun u (b : Bs) => κ.keyOf u = some (f b.2.2)) its bs := fun κ f z => by
        rw [← b2] at z
        exact PySem.W.each_of_map (fun b : Bs => b.2.2) z
      by_cases c1 : Srt1 ds
      · rw [if_pos c1] at h
        obtain ⟨ali, srt, len, dep⟩ := c1
        have b6 : PySem.W.EachIs (fun u d => ∃ as, Reads (PySem.W.sortingHeap (PySem.W.copyHeap s.heap its) (s.heap.objs.size + 1) its) u d as) its ds := by
          rw [← b2]
          exact PySem.W.each_map (R := fun u d => ∃ as, Reads (PySem.W.sortingHeap (PySem.W.copyHeap s.heap its) (s.heap.objs.size + 1) its) u d as) (fun b : Bs => b.2.2) (old b5)
        have S := SortsAt.data (prog := X.prog) (w := X.w) (A := X.A.in1.in1) (s := { s with heap := PySem.W.sortingHeap (PySem.W.copyHeap s.heap its) (s.heap.objs.size + 1) its }) b6 ali srt fun d hd => by have := dep d hd; omega
        have hk := PySem.W.each_keys ali b6
        have hk' : PySem.W.EachIs (fun u (b : Bs) => (PySem.W.dataKind (PySem.W.sortingHeap (PySem.W.copyHeap s.heap its) (s.heap.objs.size + 1) its) ds).keyOf u = some (keyToks b.2.2)) its bs := by
          exact tr (PySem.W.dataKind (PySem.W.sortingHeap (PySem.W.copyHeap s.heap its) (s.heap.objs.size + 1) its) ds) keyToks hk
        have srt := PySem.W.sortVals_each (κ := PySem.W.dataKind (PySem.W.sortingHeap (PySem.W.copyHeap s.heap its) (s.heap.objs.size + 1) its) ds) (rev := false) (fun b : Bs => keyToks b.2.2) b4 hk'
        refine sorted_vals' (κ := PySem.W.dataKind (PySem.W.sortingHeap (PySem.W.copyHeap s.heap its) (s.heap.objs.size + 1) its) ds) (k := fun b : Bs => keyToks b.2.2) I rp (by simpa using pl.isList) S b4 (by rw [hb]; exact len) hk' (fin ?_ (fun _ _ => trivial) (vals_of_bs srt).2 h)
        rw [← b1]
        exact sort_bs (k := fun d => d) b3
      · rw [if_neg c1] at h
        by_cases c2 : Srt2 ds
        · rw [if_pos c2] at h
          have b6 : PySem.W.EachIs (fun u d => ∃ as, Reads (PySem.W.sortingHeap (PySem.W.copyHeap s.heap its) (s.heap.objs.size + 1) its) u d as) its ds := by
            rw [← b2]
            exact PySem.W.each_map (R := fun u d => ∃ as, Reads (PySem.W.sortingHeap (PySem.W.copyHeap s.heap its) (s.heap.objs.size + 1) its) u d as) (fun b : Bs => b.2.2) (old b5)
          have S := rows_sort (X := X) (A := X.A.in1.in1) (by rw [u2]; omega) (s := { s with heap := PySem.W.sortingHeap (PySem.W.copyHeap s.heap its) (s.heap.objs.size + 1) its }) c2 b6
          have hk' : PySem.W.EachIs (fun u (b : Bs) => (rowKind (PySem.W.sortingHeap (PySem.W.copyHeap s.heap its) (s.heap.objs.size + 1) its) ds).keyOf u = some (keyToks (fstD b.2.2))) its bs :=
            (PySem.W.each_mem (old b5)).mono fun u b ⟨⟨as, r⟩, hb⟩ => row_some c2 (by rw [← b2]; exact List.mem_map.mpr ⟨b, hb, rfl⟩) r
          have srt := PySem.W.sortVals_each (κ := rowKind (PySem.W.sortingHeap (PySem.W.copyHeap s.heap its) (s.heap.objs.size + 1) its) ds) (rev := false) (fun b : Bs => keyToks (fstD b.2.2)) b4 hk'
          refine sorted_vals' (κ := rowKind (PySem.W.sortingHeap (PySem.W.copyHeap s.heap its) (s.heap.objs.size + 1) its) ds) (k := fun b : Bs => keyToks (fstD b.2.2)) I rp (by simpa using pl.isList) S b4 (by rw [hb]; exact c2.len) hk' (fin ?_ (fun _ _ => trivial) (vals_of_bs srt).2 h)
          rw [← b1]
          exact sort_bs (k := fstD) b3
        · rw [if_neg c2] at h; exact h.elim
end
end WS

set_option Elab.async false
set_option linter.all false
set_option maxRecDepth 100000
/-! The simulation: what is walked to its end at once (lists, tuples, dicts); sorted(.., key=f), f a def of the program. -/
namespace WS
open PySem PySem.Spec PyProof.Rows L2
open PySem.W (dataLt dataLe keyToks alike AllAlike Sortable SortsAt sortVals KeepsBut)
open Classical
/-! ### collecting -/
/-- what a thing yields, walked -/
def walkE (M : Mem) (v : EV) : Option (List EV) := match dicAt M v with
  | some p => some (p.2.map (·.1))
  | none => getL M v
section
variable {P : Program} {w : World} {A : Around} {E : Value → Shared → Prop} {s : Shared}
theorem src_raw {d : Addr} {es : Array DictEntry} {ep : Nat} (lo : (d == sysModules) = false) : PySem.W.KdlSrc P w "dict" d d es.size (fun i v => ∃ hi : i < es.size, v = es[i].key) (fun h => h.DictRaw d es ep) where
  type := fun s h => h.typeIs
  there := fun h x => let ⟨_, e, _⟩ := x; ⟨Heap.lt_size e, Heap.lt_size e⟩
  keep := fun h h' x k => x.at fun o e => k d (.inl rfl) o e
  notList := by decide
  notTuple := by decide
  hint := fun A E s Q h q => PySem.W.kdl_hint_dict h.typeIs q
  iter := fun A s hh h => ⟨_, _, (fun E Q q => wpAny_pyIter_dict_raw lo h q), Walks.rawKeys hh _ d (let ⟨_, e, _⟩ := h; Nat.ne_of_lt (Heap.lt_size e)) es ep, ⟨⟨_, Heap.get?_push_size _ rfl, rfl, rfl⟩, h.push _⟩⟩
end
section
variable {X : Cx} {W : WX} {pins : List (Addr × Obj)} {σ : L2.St} {ρ : Nat → Addr} {M : Mem} {H : Hp} {s : Shared}
theorem vals_rows : ∀ {rows : List (V × V)} {es : List DictEntry}, es.length = rows.length → (∀ (i : Nat) (p : V × V), rows[i]? = some p → ∃ en : DictEntry, es[i]? = some en ∧ RelV p.1 en.key ∧ RelV p.2 en.val) → Vals (rows.map (·.1)) (es.map (·.key))
  | [], [], _, _ => .nil
  | p :: r, e :: es, hl, h => by
    obtain ⟨en, q1, q2, _⟩ := h 0 p rfl
    cases q1
    exact .cons q2 (vals_rows (by simpa using hl) fun i p e => by simpa using h (i + 1) p (by simpa using e))
  | [], _ :: _, hl, _ => by simp at hl
  | _ :: _, [], hl, _ => by simp at hl
theorem rvs_rows : ∀ {kvs : List (EV × EV)} {rows : List (V × V)}, RRows X.K ρ M.length H kvs rows → RVs X.K ρ M.length H (kvs.map (·.1)) (rows.map (·.1))
  | [], rows, h => by
    have : rows = [] := List.eq_nil_of_length_eq_zero h.1.symm
    subst this
    exact RVs.nil
  | p :: kvs, rows, h => by
    obtain ⟨r, e, r1, r2⟩ := h.2 0 p rfl
    cases rows with
    | nil => cases e
    | cons q rows =>
      cases e
      exact RVs.cons r1 (rvs_rows ⟨by simpa using h.1, fun i p e => by simpa using h.2 (i + 1) p (by simpa using e)⟩)
theorem collect_sim {A : Around} (hh : A.handled = none) (I : Inv X pins σ H s) (rp : RP (gr X) ρ M H) {x : EV} {v : V} {u : Value} {xs : List EV} (rx : RV X.K ρ M.length H x v) (ru : RelV v u) (e : walkE M x = some xs) (hz : xs.length ≤ sizeLine) {Q : List Value → Shared → Prop} {E : Value → Shared → Prop}
    (h : ∀ (us : List Value) (vs : List V) (g : Heap) (tk : Nat), Inv X pins σ H { s with heap := g, toks := tk } → Vals vs us → RVs X.K ρ M.length H xs vs → Q us { s with heap := g, toks := tk }) : wpAny (model X.prog X.w) A (collect u) Q E s := by
  unfold walkE at e
  cases q : dicAt M x with
  | some p =>
    obtain ⟨k, kvs⟩ := p
    rw [q] at e
    cases e
    obtain ⟨_, hk, e1, w, hw, du⟩ := dic_sim rp rx q
    subst e1
    cases (show u = Value.ref (ρ k) from ru)
    obtain ⟨f, rows, rfl, rf, rr⟩ := du.rows
    obtain ⟨es, ep, raw, lo, sz, ent⟩ := rf _ (dic_holds I hw)
    have lz : es.size ≤ sizeLine := by rw [sz, ← rr.1]; simpa using hz
    refine PySem.W.kdu_collect (src_raw lo) hh raw lz fun g tk acc kp ⟨a1, a2⟩ => ?_
    have ea : acc.toList = es.toList.map (·.key) := by
      refine List.ext_getElem? fun i => ?_
      rw [List.getElem?_map]
      by_cases hi : i < es.size
      · have h1 : acc[i]? = some acc[i] := Array.getElem?_eq_getElem (by omega)
        obtain ⟨_, h2⟩ := a2 i _ h1
        rw [Array.getElem?_toList, Array.getElem?_toList, h1, h2, Array.getElem?_eq_getElem hi]
        rfl
      · rw [Array.getElem?_toList, Array.getElem?_toList, Array.getElem?_eq_none (by omega), Array.getElem?_eq_none (by omega)]
        rfl
    exact h _ _ g tk (I.kept kp) (by rw [ea]; exact vals_rows (by rw [Array.length_toList]; exact sz) fun i p e => by simpa using ent i p e) (rvs_rows rr)
  | none =>
    rw [q] at e
    have e : getL M x = some xs := e
    obtain ⟨a, vs, e1, sq, rr⟩ := getL_sim rp rx e
    subst e1
    cases (show u = Value.ref a from ru)
    obtain ⟨its, rv, pl, hz'⟩ := I.list sq
    have e2 : its.length = xs.length := by rw [← rv.length, rr.length]
    refine collect_list (by simpa using pl.isList) ?_ (by rw [e2]; exact hz)
    exact h its vs _ s.toks (I.kept (t' := s.toks) fun b o eb => by
      rw [Heap.get?_update_ne _ _ _ _ (Nat.ne_of_lt (Heap.lt_size eb))]
      exact Heap.get?_push_of_some _ eb) rv rr

/-! ### sorted by the keys that a def gives -/
noncomputable def keysGo (m : Fn) : List EV → Mem → Res (List EV)
  | [], M => .ok [] M
  | x :: r, M => (noerr (m [x] M)).bind fun k M1 => (keysGo m r M1).bind fun ks M2 => .ok (k :: ks) M2
def leK (a b : EV × PyData) : Bool := !dataLt b.2 a.2
structure SrtK (ds : List PyData) : Prop where
  ali : AllAlike ds
  srt : Sortable ds
  dep : ∀ d ∈ ds, d.depth ≤ 60
noncomputable def keyEnd (xs : List EV) (ks : List EV) (M : Mem) : Res EV := match dats M ks with
  | some ds => if SrtK ds then newL (((xs.zip ds).mergeSort leK).map (·.1)) M else .bad
  | none => .bad
noncomputable def sortKey (m : Fn) (x : EV) (M : Mem) : Res EV := match walkE M x with
  | some xs => if xs.length ≤ sizeLine then (keysGo m xs M).bind fun ks M1 => keyEnd xs ks M1 else .bad
  | none => .bad
theorem each_of_get {α β : Type} {R : α → β → Prop} : ∀ {l₁ : List α} {l₂ : List β}, l₁.length = l₂.length → (∀ (i : Nat) a b, l₁[i]? = some a → l₂[i]? = some b → R a b) → PySem.W.EachIs R l₁ l₂
  | [], [], _, _ => .nil
  | a :: l₁, b :: l₂, hl, h => .cons (h 0 a b rfl rfl) (each_of_get (by simpa using hl) fun i a b e1 e2 => h (i + 1) a b (by simpa using e1) (by simpa using e2))
  | [], _ :: _, hl, _ => by simp at hl
  | _ :: _, [], hl, _ => by simp at hl
/-- a thing of ours comes to stand at a place of ours -/
theorem lay_at {h' : Heap} {t' : Nat} {a b : Addr} {o : HO} (I : Inv X pins σ H s) (ha : FpOk X pins H a) (hb : FpOk X pins H b) (k : ∀ c u, c ≠ a → c ≠ b → s.heap.get? c = some u → h'.get? c = some u) (new : ObjOk X.prog X.w (upd H a o) h' a o) : Inv X pins σ (upd H a o) { s with heap := h', toks := t' } := by
  have na := ha.1
  have nb := hb.1
  have out : ∀ c u, c ∉ [a, b] → s.heap.get? c = some u → h'.get? c = some u := fun c u hc e => k c u (fun z => hc (by simp [z])) (fun z => hc (by simp [z])) e
  have off : ∀ c u, H c = some u → c ∉ [a, b] := fun c u e z => by
    rw [List.mem_cons, List.mem_singleton] at z
    rcases z with z | z
    · rw [z, na] at e; cases e
    · rw [z, nb] at e; cases e
  refine I.step (g' := s.gens) (d' := s.drawn) (ch := [a, b]) (fun c hc => ?_) (fun c u _ _ hc e _ => out c u hc e) (fun c u _ _ hc e _ => ⟨u.slots, out c u hc e⟩) (fun c u hc _ n => ?_) (fun c u hc e => ⟨u, out c u hc e⟩)
    (fun c xs e => ?_) (fun c v u e => ?_) (fun c ps e => ⟨#[], ?_⟩) (fun m hm => ?_) (fun c u e => ?_) I.bare
  · rw [List.mem_cons, List.mem_singleton] at hc
    rcases hc with z | z
    · subst z; exact ⟨ha.2.2.2.1, ha.2.1, ha.2.2.2.2.1, ha.2.2.2.2.2⟩
    · subst z; exact ⟨hb.2.2.2.1, hb.2.1, hb.2.2.2.2.1, hb.2.2.2.2.2⟩
  · rw [upd_ne (fun z => hc (by simp [z]))]; exact n
  · rw [upd_ne (ne_of_none e na)]; exact e
  · rw [upd_ne (ne_of_none e na)]; exact e
  · rw [upd_ne (ne_of_none e na), e]; simp
  · obtain ⟨ob, es, ep, ho, r⟩ := hm
    exact ⟨ob, es, ep, k _ ob ha.2.1.symm hb.2.1.symm ho, r⟩
  · by_cases hc : c = a
    · subst hc
      rw [upd_same] at e
      cases e
      exact new
    · rw [upd_ne hc] at e
      refine (I.hok c u e).stay (fun d v hd q => out d v ?_ q) (fun d q => by rw [upd_ne (ne_of_none q na)]; exact q) fun d xs q => by rw [upd_ne (ne_of_none q na)]; exact q
      rcases hd with z | z
      · rw [z]; exact off c u e
      · exact off d _ z
/-- the end: the keys are there -/
theorem key_fin {A : Around} (hu : A.units + 60 < cLine) (I : Inv X pins σ H s) (rp : RP (gr X) ρ M H) {a kS : Addr} {e e1 : Nat} {us keys : List Value} {xs ks : List EV} {vs kv : List V} (hks : H kS = none) (ha : FpOk X pins H a) (hk : FpOk X pins H kS) (nk : s.heap.get? kS = some (seqObj "list" keys.toArray e)) (na : s.heap.get? a = some (seqObj "list" #[] e1)) (hka : kS ≠ a)
    (v1 : Vals vs us) (r1 : RVs X.K ρ M.length H xs vs) (v2 : Vals kv keys) (r2 : RVs X.K ρ M.length H ks kv) (hl : ks.length = xs.length) (hz : xs.length ≤ sizeLine) {Q : VK} {E : Value → Shared → Prop} (h : PostE (gr X) W σ ρ M H (keyEnd xs ks M) Q) {Pf : PySem.Fin → Shared → Prop}
    (fin : ∀ s', EP X pins σ Q (.ref a) s' → Pf (.done (.ret .none)) s') : wpAny (model X.prog X.w) A (ksk_end a false us.toArray e1 (.ref kS) keys.toArray) Pf E s := by
  unfold keyEnd at h
  cases q : dats M ks with
  | none => rw [q] at h; exact h.elim
  | some ds =>
    rw [q] at h
    dsimp only at h
    by_cases c : SrtK ds
    · rw [if_pos c] at h
      obtain ⟨bs, b1, b2, b3, b4, b5⟩ := bs_of I rp q r2 v2
      have hlk : keys.length = us.length := by rw [← v2.length, ← v1.length, r2.length, r1.length, hl]
      have lu : us.length = xs.length := by rw [← v1.length, r1.length]
      have ek : PySem.W.EachIs (fun u d => ∃ as, Reads s.heap u d as) keys ds := by
        rw [← b2]
        exact PySem.W.each_map (R := fun u d => ∃ as, Reads s.heap u d as) (fun b : Bs => b.2.2) b5
      have S := SortsAt.data (prog := X.prog) (w := X.w) (A := A) (s := s) ek c.ali c.srt fun d hd => by have := c.dep d hd; omega
      obtain ⟨G, g1, g2⟩ := L2.restrict s.heap fun b => decide (b ≠ kS)
      have gk : ∀ b, b ≠ kS → G.get? b = s.heap.get? b := fun b hb => g1 b (decide_eq_true hb)
      have kp : KeepsBut a G s.heap := fun b o hb eb => by
        by_cases z : b = kS
        · rw [z, g2 kS (decide_eq_false (fun n => n rfl))] at eb; cases eb
        · rw [← gk b z]; exact eb
      refine PySem.W.keyH_end kp (g2 kS (decide_eq_false (fun n => n rfl))) nk na hka (by simpa using S) (by simpa using hlk) (by rw [lu]; exact hz) fun h' tk ep kp' na' => fin _ ?_
      -- the items beside their keys
      have ld : ds.length = us.length := by rw [← b2, List.length_map, ← hlk, b4.length]
      have lv : vs.length = xs.length := r1.length
      let cs : List (EV × V × PyData) := xs.zip (vs.zip ds)
      have lc : cs.length = us.length := by simp only [cs, List.length_zip]; omega
      have c1 : PySem.W.EachIs (RB X ρ M H) us cs := each_of_get lc.symm fun i u b e1 e2 => by
        obtain ⟨z1, z2⟩ := List.getElem?_zip_eq_some.mp e2
        obtain ⟨z3, z4⟩ := List.getElem?_zip_eq_some.mp z2
        obtain ⟨v', w1, w2⟩ := r1.get z1
        rw [z3] at w1
        cases w1
        obtain ⟨u', w3, w4⟩ := v1.get z3
        rw [e1] at w3
        cases w3
        exact ⟨w4, w2⟩
      have c2 : PySem.W.EachIs (fun u (b : Bs) => (PySem.W.dataKind s.heap ds).keyOf u = some (keyToks b.2.2)) keys cs := each_of_get (by rw [lc]; exact hlk) fun i u b e1 e2 => by
        obtain ⟨z1, z2⟩ := List.getElem?_zip_eq_some.mp e2
        obtain ⟨z3, z4⟩ := List.getElem?_zip_eq_some.mp z2
        have hz : (u, b.2.2) ∈ keys.zip ds := List.mem_of_getElem? (i := i) (List.getElem?_zip_eq_some.mpr ⟨e1, z4⟩)
        obtain ⟨as, r⟩ := ek.zip _ hz
        exact PySem.W.dataKind_some c.ali (List.mem_of_getElem? z4) r
      have out := PySem.W.sortVals_each (κ := PySem.W.dataKind s.heap ds) (rev := false) (fun b : Bs => keyToks b.2.2) c1 c2
      generalize hcs : cs.mergeSort (PySem.W.sortLe (PySem.W.dataKind s.heap ds).toKeyOrd false fun b : Bs => keyToks b.2.2) = cs' at out
      obtain ⟨o1, o2⟩ := vals_of_bs out
      have e3 : cs'.map (·.1) = ((xs.zip ds).mergeSort leK).map (·.1) := by
        have m1 : (cs.mergeSort (PySem.W.sortLe (PySem.W.dataKind s.heap ds).toKeyOrd false fun b : Bs => keyToks b.2.2)).map (fun b : Bs => (b.1, b.2.2)) = (cs.map fun b : Bs => (b.1, b.2.2)).mergeSort leK := List.map_mergeSort fun a _ b _ => by
          show dataLe false (fun b : Bs => b.2.2) a b = leK (a.1, a.2.2) (b.1, b.2.2)
          rw [PySem.W.dataLe_eq]
          rfl
        have m2 : (cs.map fun b : Bs => (b.1, b.2.2)) = xs.zip ds := by
          refine List.ext_getElem? fun i => ?_
          simp only [cs, List.getElem?_map, List.zip, List.getElem?_zipWith]
          cases t1 : xs[i]? with
          | none => rfl
          | some x =>
            cases t3 : ds[i]? with
            | none => cases t2 : vs[i]? <;> rfl
            | some d =>
              have : i < vs.length := by
                have := (List.getElem?_eq_some_iff.mp t1).1
                omega
              rw [List.getElem?_eq_getElem this]
              rfl
        rw [hcs, m2] at m1
        rw [← m1, List.map_map]
        rfl
      have len : (cs'.map (·.2.1)).length ≤ sizeLine := by
        rw [List.length_map, ← hcs, List.length_mergeSort, lc, lu]; exact hz
      have keepU : ∀ b o, b ≠ a → b ≠ kS → s.heap.get? b = some o → h'.get? b = some o := fun b o n1 n2 eb => kp' b o n1 (by rw [gk b n2]; exact eb)
      -- the list's object stands at a: no part of the memory till now
      have hlist := (newL_sim (σ := σ) (W := W) rp (show RVs (gr X).K ρ M.length H (((xs.zip ds).mergeSort leK).map (·.1)) (cs'.map (·.2.1)) by rw [← e3]; exact o2) h).2 a ha.1
      have new : ObjOk X.prog X.w (upd H a (.lst (cs'.map (·.2.1)))) h' a (.lst (cs'.map (·.2.1))) := ⟨len, _, ep, o1, na'⟩
      exact ⟨.ref a, upd H a (.lst (cs'.map (·.2.1))), lay_at I ha hk keepU new, rfl, hlist⟩
    · rw [if_neg c] at h; exact h.elim
end
end WS

set_option Elab.async false
set_option linter.all false
set_option maxRecDepth 100000
/-! The simulation: the turns of sorted(.., key=f) and its rule. -/
namespace WS
open PySem PySem.Spec PyProof.Rows L2
open Classical
section
variable {X : Cx} {W : WX} {pins : List (Addr × Obj)} {σ : L2.St} {ρ : Nat → Addr} {M : Mem} {H : Hp} {s : Shared} {k : Nat} {f : Addr} {m : Fn}
/-- a def called from within a built-in: nothing raised -/
theorem key_call (F : FnX X k f 1 m) (hr : Room k X.A.in1.in1) (I : Inv X pins σ H s) (rp : RP (gr X) ρ M H) {x : EV} {v : V} {u : Value} (rx : RV X.K ρ M.length H x v) (ru : RelV v u) {Q : VK} (h : PostE (gr X) W σ ρ M H (noerr (m [x] M)) Q) :
    wpAny (model X.prog X.w) X.A.in1.in1 (call (.ref f) [u]) (EP X pins σ Q) (fun _ _ => False) s := by
  obtain ⟨⟨fd, ps, F, b⟩, kp⟩ := F
  have sp : spF (gr X) 1 m [v] H Q (fun _ _ _ => False) := ⟨rfl, ρ, M, [x], rp, RVs.cons rx RVs.nil, h.noerr _⟩
  have hl : [u].length = ps.length := F.len _ _ _ _ sp
  have bt := b s [u] I.kIn (by rw [List.append_nil]; exact hl)
  rw [List.append_nil] at bt
  refine wpAny_call (codeAny_mono (F.run X.A.in1.in1 X.stack s H ⟨[u], []⟩ [u] [v] Q (fun _ _ _ => False) hr I.env0.in1.in1 bt (.cons ru .nil) sp) fun r s' hq => ?_)
  cases r with
  | error e => obtain ⟨a, B, H', cls, d, _, _, _, _, _, _, _, bad⟩ := hq; exact bad
  | ok fl =>
    cases fl with
    | ret u => exact I.after hq
    | _ => exact hq
theorem key_loop (F : FnX X k f 1 m) (hr : Room k X.A.in1.in1) (hu : X.A.in1.in1.units + 60 < cLine) (I : Inv X pins σ H s) (rp : RP (gr X) ρ M H) {a kS : Addr} {e1 : Nat} {us : List Value} {xs : List EV} {vs : List V} (ha : FpOk X pins H a) (hk : FpOk X pins H kS) (nk : s.heap.get? kS = some (seqObj "list" #[] 0)) (na : s.heap.get? a = some (seqObj "list" #[] e1)) (hka : kS ≠ a)
    (v1 : Vals vs us) (r1 : RVs X.K ρ M.length H xs vs) (hz : xs.length ≤ sizeLine) {Q : VK} {E : Value → Shared → Prop} (h : PostE (gr X) W σ ρ M H ((keysGo m xs M).bind fun ks M1 => keyEnd xs ks M1) Q) {Pf : PySem.Fin → Shared → Prop}
    (fin : ∀ s', EP X pins σ Q (.ref a) s' → Pf (.done (.ret .none)) s') : wpAny (model X.prog X.w) X.A.in1.in1 (ksk_rest a (.ref f) false us.toArray e1 (.ref kS)) Pf E s := by
  have lu : us.length = xs.length := by rw [← v1.length, r1.length]
  unfold ksk_rest
  refine wpAny_bind (wpAny_rule ?_)
  first
    | rw [List.forIn_toArray]
    | (rw [← Array.forIn_toList]; simp only [List.toList_toArray])
    | rw [← Array.forIn_toList]
  refine wpAny_bind (ksk_fold (fun i t => ∃ ρ' M' H' kA e ks kv, Inv X pins σ H' t ∧ After ρ M H ρ' M' H' ∧ RP (gr X) ρ' M' H' ∧ H' kS = none ∧ H' a = none ∧ t.heap.get? kS = some (seqObj "list" (List.toArray kA) e) ∧ t.heap.get? a = some (seqObj "list" #[] e1) ∧ Vals kv kA ∧ RVs X.K ρ' M'.length H' ks kv ∧ ks.length = i ∧
      PostE (gr X) W σ ρ M H ((keysGo m (xs.drop i) M').bind fun r M2 => keyEnd xs (ks ++ r) M2) Q) us 0 s ⟨ρ, M, H, [], 0, [], [], I, .refl, rp, hk.1, ha.1, nk, na, .nil, RVs.nil, rfl, h⟩ ?_ ?_)
  · rintro j u t hu' ⟨ρ', M', H', kA, e, ks, kv, I', af, rp', nk', na', ok, oa, vk, rk, lk, h'⟩
    simp only [Nat.zero_add] at lk h' ⊢
    have hj : j < us.length := (List.getElem?_eq_some_iff.mp hu').1
    have hjx : j < xs.length := by omega
    have ex : xs[j]? = some xs[j] := List.getElem?_eq_getElem hjx
    obtain ⟨v, ev, rv⟩ := (r1.carry (af.carry rp)).get ex
    obtain ⟨u', eu, ru⟩ := v1.get ev
    rw [hu'] at eu
    cases eu
    have e0 : xs.drop j = xs[j] :: xs.drop (j + 1) := List.drop_eq_getElem_cons hjx
    rw [e0] at h'
    unfold keysGo at h'
    cases qm : noerr (m [xs[j]] M') with
    | bad => rw [qm] at h'; exact h'.elim
    | err y M1 =>
      exfalso
      cases qq : m [xs[j]] M' with
      | ok w M2 => rw [qq] at qm; cases qm
      | err w M2 => rw [qq] at qm; cases qm
      | bad => rw [qq] at qm; cases qm
    | ok kx M1 =>
      rw [qm] at h'
      have fk : FpOk X pins H' kS := ⟨nk', hk.2⟩
      have fa : FpOk X pins H' a := ⟨na', ha.2⟩
      have fp : ∀ b ∈ [kS, a], FpOk X pins H' b := fun b hb => by
        rw [List.mem_cons, List.mem_singleton] at hb
        rcases hb with z | z
        · subst z; exact fk
        · subst z; exact fa
      have op : ∀ b ∈ [kS, a], ∃ o, t.heap.get? b = some o ∧ ∀ v, o.data ≠ .cell v := fun b hb => by
        rw [List.mem_cons, List.mem_singleton] at hb
        rcases hb with z | z
        · subst z; exact ⟨_, ok, fun v z => (nomatch z)⟩
        · subst z; exact ⟨_, oa, fun v z => (nomatch z)⟩
      refine wpAny_bind (wpAny_attempt (wpAny_mono (key_call F hr (I'.pinned fp op) rp' rv ru (W := W) (Q := fun v' H2 => ∃ ρ2, After ρ' M' H' ρ2 M1 H2 ∧ RP (gr X) ρ2 M1 H2 ∧ RV X.K ρ2 M1.length H2 kx v') (by rw [qm]; exact fun ρ2 H2 v2 a2 rp2 r2 => ⟨ρ2, a2, rp2, r2⟩)) (fun w t2 hw => ?_) fun _ _ bad => bad.elim))
      obtain ⟨v', H2, I2, rw', ρ2, a2, rp2, r2⟩ := hw
      have pk := I2.pin (kS, seqObj "list" (List.toArray kA) e) (List.mem_append_right _ (List.mem_append_right _ (mem_pinsAt (by simp) ok)))
      have pa := I2.pin (a, seqObj "list" #[] e1) (List.mem_append_right _ (List.mem_append_right _ (mem_pinsAt (by simp) oa)))
      have I3 : Inv X pins σ H2 t2 := I2.unpinned
      have lA : kA.length = j := by rw [← vk.length, rk.length, lk]
      try dsimp only
      obtain ⟨c2, hc2⟩ : ∃ c2, (t2.heap.update kS (Obj.mapSeq (·.push w))).get? kS = some (seqObj "list" ((List.toArray kA).push w) c2) := ⟨_, get?_update_seq pk.1 (·.push w)⟩
      have sb := Heap.SameBut.update t2.heap kS (Obj.mapSeq (·.push w))
      have jz : j < sizeLine := by omega
      refine wpAny_bind (listUpdate_at pk.1 rfl ?_ (by rw [List.size_toArray, lA]; exact Nat.le_of_lt jz) (by rw [Array.size_push, List.size_toArray, lA]; omega))
      have fk2 : FpOk X pins H2 kS := ⟨pk.2.1, hk.2⟩
      obtain ⟨f0, f1, _, f3, f4, f5⟩ := fk2
      have I4 : Inv X pins σ H2 { t2 with heap := t2.heap.update kS (Obj.mapSeq (·.push w)) } := I3.turned (t' := t2.toks) (fun b ob hb e => (sb.2 b hb).trans e) f0 f1 f3 f4 f5
      refine wpAny_pure ⟨rfl, ρ2, M1, H2, kA ++ [w], c2, ks ++ [kx], kv ++ [v'], I4, af.trans rp' a2, rp2, pk.2.1, pa.2.1, ?_, (sb.2 a hka.symm).trans pa.1, vk.append (.cons rw' .nil), (rk.carry (a2.carry rp')).append (RVs.cons r2 RVs.nil), by rw [List.length_append, lk]; rfl, ?_⟩
      · have : (List.toArray kA).push w = (kA ++ [w]).toArray := by simp
        rw [← this]
        exact hc2
      · have e5 : (((Res.ok kx M1).bind fun k M1 => (keysGo m (xs.drop (j + 1)) M1).bind fun ks M2 => Res.ok (k :: ks) M2).bind fun r M2 => keyEnd xs (ks ++ r) M2) = ((keysGo m (xs.drop (j + 1)) M1).bind fun r M2 => keyEnd xs ((ks ++ [kx]) ++ r) M2) := by
          show ((keysGo m (xs.drop (j + 1)) M1).bind fun ks M2 => Res.ok (kx :: ks) M2).bind _ = _
          cases keysGo m (xs.drop (j + 1)) M1 with
          | ok r M2 => show keyEnd xs (ks ++ kx :: r) M2 = keyEnd xs ((ks ++ [kx]) ++ r) M2; rw [List.append_assoc]; rfl
          | err y M2 => rfl
          | bad => rfl
        rw [← e5]
        exact h'
  · rintro t ⟨ρ', M', H', kA, e, ks, kv, I', af, rp', nk', na', ok, oa, vk, rk, lk, h'⟩
    simp only [Nat.zero_add] at lk h'
    have e0 : xs.drop us.length = [] := List.drop_eq_nil_of_le (by omega)
    rw [e0] at h'
    have h' : PostE (gr X) W σ ρ M H (keyEnd xs (ks ++ []) M') Q := h'
    rw [List.append_nil] at h'
    try dsimp only
    refine wpAny_bind (listItems_at ok rfl ?_)
    exact key_fin hu I' rp' nk' ⟨na', ha.2⟩ ⟨nk', hk.2⟩ ok oa hka v1 (r1.carry (af.carry rp)) vk rk (by rw [lk, lu]) hz (PostR.shift (r := keyEnd xs ks M') h' rp' af) fin
theorem key_tree (F : FnX X k f 1 m) (hr : Room k X.A.in1.in1) (hu : X.A.in1.in1.units + 60 < cLine) (I : Inv X pins σ H s) (rp : RP (gr X) ρ M H) {us : List Value} {xs : List EV} {vs : List V} (v1 : Vals vs us) (r1 : RVs X.K ρ M.length H xs vs) (hz : xs.length ≤ sizeLine) {Q : VK} {E : Value → Shared → Prop}
    (h : PostE (gr X) W σ ρ M H ((keysGo m xs M).bind fun ks M1 => keyEnd xs ks M1) Q) {Pf : PySem.Fin → Shared → Prop} (fin : ∀ s', EP X pins σ Q (.ref s.heap.objs.size) s' → Pf (.done (.ret .none)) s') :
    wpAny (model X.prog X.w) X.A.in1.in1 (ksk_tree s.heap.objs.size (.ref f) false) Pf E { s with heap := s.heap.push (seqObj "list" us.toArray 0) } := by
  have lu : us.length = xs.length := by rw [← v1.length, r1.length]
  have lz : us.length ≤ sizeLine := by rw [lu]; exact hz
  obtain ⟨a, ea⟩ : ∃ a, a = s.heap.objs.size := ⟨_, rfl⟩
  rw [← ea] at fin ⊢
  have ho : (s.heap.push (seqObj "list" us.toArray 0)).get? a = some (seqObj "list" us.toArray 0) := by rw [ea]; exact Heap.get?_push_size _ rfl
  obtain ⟨e1, ho1⟩ : ∃ e1, ((s.heap.push (seqObj "list" us.toArray 0)).update a (Obj.mapSeq fun _ => (#[] : Array Value))).get? a = some (seqObj "list" #[] e1) := ⟨_, get?_update_seq ho fun _ => #[]⟩
  obtain ⟨kS, hkS⟩ : ∃ kS, kS = (((s.heap.push (seqObj "list" us.toArray 0)).update a (Obj.mapSeq fun _ => (#[] : Array Value))).push (seqObj "tuple" us.toArray 0)).objs.size := ⟨_, rfl⟩
  have kS2 : kS = s.heap.objs.size + 2 := by rw [hkS, size_push', Heap.size_update, size_push']
  have old : ∀ b o, s.heap.get? b = some o → ((((s.heap.push (seqObj "list" us.toArray 0)).update a (Obj.mapSeq fun _ => (#[] : Array Value))).push (seqObj "tuple" us.toArray 0)).push (seqObj "list" #[] 0)).get? b = some o := fun b o e => by
    refine Heap.get?_push_of_some _ (Heap.get?_push_of_some _ ?_)
    rw [Heap.get?_update_ne _ _ _ _ (by rw [ea]; exact Nat.ne_of_lt (Heap.lt_size e))]
    exact Heap.get?_push_of_some _ e
  unfold ksk_tree
  refine wpAny_bind (listItems_at ho rfl ?_)
  refine wpAny_bind (listUpdate_at ho rfl ?_ (by rw [List.size_toArray]; exact lz) (Nat.zero_le _))
  refine wpAny_bind (seqEpoch_at ho1 rfl ?_)
  refine wpAny_bind (wpAny_newTuple ?_ (by show us.length ≤ _; exact lz))
  refine wpAny_bind (wpAny_newList ?_ (Nat.zero_le _))
  refine wpAny_holding ?_
  have I2 : Inv X pins σ H { s with heap := ((((s.heap.push (seqObj "list" us.toArray 0)).update a (Obj.mapSeq fun _ => (#[] : Array Value))).push (seqObj "tuple" us.toArray 0)).push (seqObj "list" #[] 0)) } := I.kept (t' := s.toks) old
  have fa : FpOk X pins H a := I.fpOk (Nat.le_of_eq ea.symm) (I.hok.fresh (Nat.le_of_eq ea.symm))
  have le : s.heap.objs.size ≤ kS := by rw [kS2]; exact Nat.le_add_right _ _
  have fk : FpOk X pins H kS := I.fpOk le (I.hok.fresh le)
  show wpAny _ _ (ksk_rest a (.ref f) false us.toArray e1 (.ref (((s.heap.push (seqObj "list" us.toArray 0)).update a (Obj.mapSeq fun _ => (#[] : Array Value))).push (seqObj "tuple" us.toArray 0)).objs.size)) _ _ _
  rw [← hkS]
  refine key_loop F hr hu I2 rp fa fk (by rw [hkS]; exact Heap.get?_push_size _ rfl) (Heap.get?_push_of_some _ (Heap.get?_push_of_some _ ho1)) (by rw [kS2, ea]; exact Nat.ne_of_gt (Nat.lt_succ_of_lt (Nat.lt_succ_self _))) v1 r1 hz h fin
theorem sorted_key (F : FnX X k f 1 m) (hr : Room (k + 2) X.A) (I : Inv X pins σ H s) (rp : RP (gr X) ρ M H) {x : EV} {v : V} {u : Value} (rx : RV X.K ρ M.length H x v) (ru : RelV v u) {Q : VK} (h : PostE (gr X) W σ ρ M H (sortKey m x M) Q) :
    wpAny (model X.prog X.w) X.A (call (.builtin "sorted") [u] [(Str.ofString "key", .ref f)]) (EP X pins σ Q) X.xe s := by
  unfold sortKey at h
  cases q : walkE M x with
  | none => rw [q] at h; exact h.elim
  | some xs =>
    rw [q] at h
    dsimp only at h
    by_cases hz : xs.length ≤ sizeLine
    · rw [if_pos hz] at h
      have hu := hr.units
      refine call_function_entry_kw kind_sorted plain_sorted entry_sorted (ksk_s1 _ _) ?_
      unfold Builtin.«sorted»
      refine wpAny_bind (m := checkCount "sorted" 1 1 _) (wpAny_pure ?_)
      refine wpAny_bind (collect_sim (A := X.A.in1) hr.hd I rp rx ru q hz fun us vs g tk I1 rv rr => ?_)
      have lu : us.length ≤ sizeLine := by rw [← rv.length, rr.length]; exact hz
      refine wpAny_bind (wpAny_newList ?_ lu)
      have at1 : (g.push (seqObj "list" us.toArray 0)).get? g.objs.size = some (seqObj "list" us.toArray 0) := Heap.get?_push_size _ rfl
      refine wpAny_bind (wpAny_holding (wpAny_call_entry_kw slot_list_sort ⟨_, at1, rfl⟩ entry_list_sort ?_ (ksk_l1 _ _)))
      rw [ksk_t1]
      refine key_tree (s := { s with heap := g, toks := tk }) F hr.in1.in1 (by show X.A.units + 1 + 1 + 60 < cLine; omega) I1 rp rv rr hz h fun s' he => ⟨_, rfl, ?_⟩
      exact wpAny_pure ⟨_, rfl, he⟩
    · rw [if_neg hz] at h; exact h.elim
end
section
variable {X : Cx} {W : WX} {k : Nat} {f : Addr} {m : Fn} {e : Expr} {fe : FE} {y : Str} {p p2 kpos pos : Pos}
noncomputable def eSortKey (m : Fn) (fe : FE) : FE := fun σ M => (fe σ M).bind fun v M1 => sortKey m v M1
theorem sSortKey (F : FnX X k f 1 m) (hr : Room (k + 2) X.A) (he : SE X W e fe) (hmf : X.mg y = some (.ref f)) (hm : X.mg "sorted" = none) (hg : Gl X "sorted" := by rfl) (hgy : Gl X y := by rfl) (hdb : (y == ("__debug__" : Str)) = false := by decide)
    (hb : backTo pos (starEach [e] X.env) = (false, eval e X.env) :: backTo pos (starEach [] X.env) := by rfl) (hpl : (backTo pos (starEach [e] X.env)).any (·.1) = false := by rfl)
    (hall : (backToKw pos (keywordEach [⟨some "key", .Name y p2, kpos⟩] X.env)).all (·.1.isSome) = true := by rfl) (hnone : (backToKw pos (keywordEach [⟨some "key", .Name y p2, kpos⟩] X.env)).any (·.1.isNone) = false := by rfl) (hks : (backToKw pos (keywordEach [⟨some "key", .Name y p2, kpos⟩] X.env)).filterMap (·.1) = [Str.ofString "key"] := by rfl)
    (hst : starEach [e] X.env = (false, eval e X.env) :: starEach [] X.env := by rfl) :
    SE X W (.Call (.Name "sorted" p) [e] [⟨some "key", .Name y p2, kpos⟩] pos) (eSortKey m fe) := by
  obtain ⟨t, h1, h2⟩ := he
  have cr : CallRK X (.builtin "sorted") [Str.ofString "key"] (fun vs zs H Q => ∃ (σ : L2.St) (ρ : Nat → Addr) (M : Mem) (x : EV) (x' : V), vs = [x'] ∧ zs = [.ref f] ∧ RP (gr X) ρ M H ∧ RV X.K ρ M.length H x x' ∧ PostE (gr X) W0 σ ρ M H (noerr (sortKey m x M)) Q) := by
    intro pins s σ H vs zs us ws Q I r rz ⟨σ0, ρ, M, x, x', e1, e2, rp, rx, h⟩
    subst e1 e2
    obtain ⟨u, rfl, ru⟩ := vals1 r
    obtain ⟨w, rfl, rw'⟩ := vals1 rz
    cases (show w = Value.ref f from rw')
    exact sorted_key (W := W0) F hr I rp rx ru (h.noerr _)
  refine ⟨_, pe_callBK cr hg hm rfl (pa_cons h1 pa_nil hst) (pk_cons (pe_glob (v := .ref f) hgy hmf rfl hdb) pk_nil) (by decide) (by decide) hb hpl hall hnone hks, fun ρ σe σ M H Q rs hp h => ?_⟩
  refine h2 ρ σe σ M H _ rs hp (PostR.bind h fun v M1 ρ1 H1 v1 _ a rp r h1 => ?_)
  refine ⟨σ, ρ1, M1, v, v1, rfl, rfl, rp, r, ?_⟩
  have ne : ∀ y M2, sortKey m v M1 ≠ .err y M2 := fun y M2 z => by
    unfold sortKey at z
    cases q : walkE M1 v with
    | none => rw [q] at z; cases z
    | some xs =>
      rw [q] at z
      dsimp only at z
      split at z
      · have kg : ∀ (l : List EV) (M : Mem) y M2, keysGo m l M ≠ .err y M2 := by
          intro l
          induction l with
          | nil => intro M y M2 z; cases z
          | cons x l ih =>
            intro M y M2 z
            unfold keysGo at z
            cases q1 : m [x] M with
            | ok w M3 =>
              rw [q1] at z
              have z : ((keysGo m l M3).bind fun ks M2 => .ok (w :: ks) M2) = Res.err y M2 := z
              cases q2 : keysGo m l M3 with
              | ok r M4 => rw [q2] at z; cases z
              | err y' M4 => exact ih M3 y' M4 q2
              | bad => rw [q2] at z; cases z
            | err w M3 => rw [q1] at z; cases z
            | bad => rw [q1] at z; cases z
        cases q2 : keysGo m xs M1 with
        | ok ks M3 =>
          rw [q2] at z
          have z : keyEnd xs ks M3 = Res.err y M2 := z
          unfold keyEnd newL at z
          split at z
          · split at z
            · split at z <;> cases z
            · cases z
          · cases z
        | err y' M3 => exact kg xs M1 y' M3 q2
        | bad => rw [q2] at z; cases z
      · cases z
  cases q : sortKey m v M1 with
  | ok w M2 => rw [q] at h1; exact h1
  | err w M2 => exact (ne _ _ q).elim
  | bad => rw [q] at h1; exact h1
end
end WS

set_option Elab.async false
set_option linter.all false
set_option maxRecDepth 100000
/-! The simulation: list comprehensions of two fors. -/
namespace WS
open PySem PySem.Spec PyProof.Rows L2
open Classical
theorem Carry.trans {K : PySem.W.Frag} {ρ ρ' ρ'' : Nat → Addr} {n n' n'' : Nat} {H H' H'' : Hp} (a : Carry K ρ n H ρ' n' H') (b : Carry K ρ' n' H' ρ'' n'' H'') : Carry K ρ n H ρ'' n'' H'' :=
  ⟨Nat.le_trans a.le b.le, fun k hk => (b.agr k (Nat.lt_of_lt_of_le hk a.le)).trans (a.agr k hk), fun c vs e => b.tup c vs (a.tup c vs e), fun c o vs e => b.scr c o vs (a.scr c o vs e)⟩
section
variable {G : Gr} {ρ ρ' ρ'' : Nat → Addr} {M M' M'' : Mem} {H H' H'' : Hp}
theorem Soft.trans (a : Soft G ρ M H ρ' M' H') (b : Soft G ρ' M' H' ρ'' M'' H'') : Soft G ρ M H ρ'' M'' H'' := ⟨a.car.trans b.car, fun k l e => by
  obtain ⟨e1, q1⟩ := a.lck k l e
  obtain ⟨e2, q2⟩ := b.lck k l e1
  rw [a.car.agr k (List.getElem?_eq_some_iff.mp e).1] at q2
  exact ⟨e2, q2.trans q1⟩⟩
/-- where the loop of a comprehension is: the new list stands at D, beside the memory -/
structure LS (G : Gr) (ρ1 : Nat → Addr) (M1 : Mem) (H1 : Hp) (D : Addr) (ρ : Nat → Addr) (M : Mem) (H : Hp) (acc : List EV) (acc' : List V) : Prop where
  af : After ρ1 M1 H1 ρ M H
  rp : RP G ρ M H
  at_ : H D = some (.lst acc')
  rv : RVs G.K ρ M.length H acc acc'
  ne : ∀ j, j < M.length → ρ j ≠ D
theorem LS.step {ρ1 : Nat → Addr} {M1 : Mem} {H1 : Hp} {D : Addr} {acc : List EV} {acc' : List V} (l : LS G ρ1 M1 H1 D ρ M H acc acc') (a : After ρ M H ρ' M' H') (rp : RP G ρ' M' H') : LS G ρ1 M1 H1 D ρ' M' H' acc acc' :=
  ⟨l.af.trans l.rp a, rp, a.frm D _ l.at_ l.ne, l.rv.carry (a.carry l.rp), apart l.at_ l.ne a⟩
theorem LS.push {ρ1 : Nat → Addr} {M1 : Mem} {H1 : Hp} {D : Addr} {acc : List EV} {acc' : List V} (l : LS G ρ1 M1 H1 D ρ M H acc acc') (rp1 : RP G ρ1 M1 H1) (nD : H1 D = none) {v : EV} {v' : V} (r : RV G.K ρ M.length H v v') :
    LS G ρ1 M1 H1 D ρ M (upd H D (.lst (acc' ++ [v']))) (acc ++ [v]) (acc' ++ [v']) ∧ Soft G ρ M H ρ M (upd H D (.lst (acc' ++ [v']))) := by
  obtain ⟨c, rp⟩ := write_side (w' := .lst (acc' ++ [v'])) l.rp l.at_ True.intro l.ne (fun _ _ e => (by cases e))
  refine ⟨⟨⟨l.af.len, l.af.agr, fun b o eb hb => ?_, l.af.new, fun k t e => ⟨(l.af.lck k t e).1, ?_⟩⟩, rp, upd_same, (l.rv.append (RVs.cons r RVs.nil)).carry c, l.ne⟩, c, fun k t e => ⟨e, upd_ne (l.ne k (List.getElem?_eq_some_iff.mp e).1)⟩⟩
  · rw [upd_ne (fun z => by rw [z, nD] at eb; cases eb)]
    exact l.af.frm b o eb hb
  · rw [upd_ne (rp1.ne_free nD (List.getElem?_eq_some_iff.mp e).1)]
    exact (l.af.lck k t e).2
end
noncomputable def lc2Go (gd : Guard) (put : Put) (t : FT) (fi1 : FI) (put1 : Put) (t1 : FT) (e : FE) (σ : StE) (vs1 : List Nat) : List EV → Mem → List EV → Res (List EV)
  | [], M, acc => if okG gd M then .ok acc M else .bad
  | x :: r, M, acc => if okG gd M then (match put x M with
      | none => .bad
      | some l => (noerr (t (putsE σ l) M)).bind fun b M1 => if b = true then (noerr (fi1 (putsE σ l) M1)).bind fun v M2 => if acc.length + v.1.length ≤ sizeLine then (lcGo v.2 put1 t1 e (wipeE (putsE σ l) vs1) v.1 M2 acc).bind fun acc M3 => lc2Go gd put t fi1 put1 t1 e σ vs1 r M3 acc else .bad
        else lc2Go gd put t fi1 put1 t1 e σ vs1 r M1 acc) else .bad
noncomputable def eLc2 (own vs1 : List Nat) (fi : FI) (put : Put) (t : FT) (fi1 : FI) (put1 : Put) (t1 : FT) (e : FE) : FE := fun σ M => (fi σ M).bind fun v M1 => (lc2Go v.2 put t fi1 put1 t1 e (wipeE σ own) vs1 v.1 M1 []).bind fun acc M2 => newL acc M2
section
variable {X : Cx} {W : WX} {fi fi1 : FI} {put put1 : Put} {ft ft1 : FT} {fe : FE}
theorem simLc2 {G : Gr} {wi wi1 : TI} {g g1 : TG} {tt tt1 : TT} {te : TE} {vs vs1 : List Nat} (hi : ∀ ρ σe σ M H Q, RSt G.K ρ M.length H σe σ → RP G ρ M H → PostI G W σ ρ M H (fi σe M) Q → wi σ H Q)
    (hg : ∀ ρ M H x x' (σ : L2.St) (Q : L2.St → Hp → Prop) l, RP G ρ M H → RV G.K ρ M.length H x x' → put x M = some l → (∀ l', RPs G.K ρ M.length H l l' → Q (puts σ l') H) → g x' σ H Q) (ht : SimT G W0 tt ft)
    (hi1 : ∀ ρ σe σ M H Q, RSt G.K ρ M.length H σe σ → RP G ρ M H → PostI G W0 σ ρ M H (fi1 σe M) Q → wi1 σ H Q)
    (hg1 : ∀ ρ M H x x' (σ : L2.St) (Q : L2.St → Hp → Prop) l, RP G ρ M H → RV G.K ρ M.length H x x' → put1 x M = some l → (∀ l', RPs G.K ρ M.length H l l' → Q (puts σ l') H) → g1 x' σ H Q) (ht1 : SimT G W0 tt1 ft1)
    (he : SimE G W0 te fe) (hput : PutIn put vs) (hput1 : PutIn put1 vs1) : SimE G W (tLc2 wi g tt wi1 g1 tt1 te vs vs1) (eLc2 vs vs1 fi put ft fi1 put1 ft1 fe) := by
  have wput : ∀ {p : Put} {us : List Nat}, PutIn p us → ∀ {ρ : Nat → Addr} {M : Mem} {H : Hp} {x : EV} {l : List (Nat × EV)} {l' : List (Nat × V)} (σ : L2.St), p x M = some l → RPs G.K ρ M.length H l l' → L2.wipe (puts (L2.wipe σ us) l') us = L2.wipe σ us := fun {p us} hp {ρ M H x l l'} σ e r => by
    rw [wipe_puts us l' _ (fun q hq => ?_), wipe_wipe]
    have e3 : q.1 ∈ l'.map (·.1) := List.mem_map.mpr ⟨q, hq, rfl⟩
    rw [r.map] at e3
    obtain ⟨z, hz, e4⟩ := List.mem_map.mp e3
    rw [← e4]
    exact hp _ _ _ e z hz
  intro ρ σe σ M H Q rs hp h
  refine hi ρ σe σ M H _ rs hp ?_
  unfold eLc2 at h
  cases q : fi σe M with
  | bad => rw [q] at h; exact h.elim
  | err y M1 => rw [q] at h; exact h
  | ok v M1 =>
    rw [q] at h
    obtain ⟨xs, gd⟩ := v
    have h : PostE G W σ ρ M H ((lc2Go gd put ft fi1 put1 ft1 fe (wipeE σe vs) vs1 xs M1 []).bind fun acc M2 => newL acc M2) Q := h
    intro ρ1 H1 J a1 rp1 jk D nD
    have rs1 := (rs.carry (a1.carry hp)).wipe vs
    refine ⟨fun i m H' => ∃ ρ' M' acc acc', LS G ρ1 M1 H1 D ρ' M' H' acc acc' ∧ RSt G.K ρ' M'.length H' (wipeE σe vs) (L2.wipe σ vs) ∧ m = xs.length - i ∧ i ≤ xs.length ∧ PostE G W σ ρ M H ((lc2Go gd put ft fi1 put1 ft1 fe (wipeE σe vs) vs1 (xs.drop i) M' acc).bind fun acc M2 => newL acc M2) Q, ⟨xs.length, ?_⟩, ?_⟩
    · obtain ⟨aD, rpD⟩ := side rp1 nD (.lst [])
      exact ⟨ρ1, M1, [], [], ⟨aD, rpD, upd_same, RVs.nil, fun j hj => rp1.ne_free nD hj⟩, rs1.carry (aD.carry rp1), by simp, Nat.zero_le _, h⟩
    · rintro i m H' ⟨ρ', M', acc, acc', ls, rs', rfl, hi', h'⟩
      by_cases hlt : i < xs.length
      · have e1 : xs.drop i = xs[i] :: xs.drop (i + 1) := List.drop_eq_getElem_cons hlt
        rw [e1] at h'
        unfold lc2Go at h'
        by_cases ok : okG gd M'
        · rw [if_pos ok] at h'
          have e2 : xs[i]? = some xs[i] := List.getElem?_eq_getElem hlt
          obtain ⟨go, yl⟩ := jk.go i xs[i] ρ' M' H' (ls.af.soft rp1) ls.rp ok e2
          refine .inr ⟨go, fun H2 => ∃ ρ2 M2 acc2 acc2', LS G ρ1 M1 H1 D ρ2 M2 H2 acc2 acc2' ∧ RSt G.K ρ2 M2.length H2 (wipeE σe vs) (L2.wipe σ vs) ∧ PostE G W σ ρ M H ((lc2Go gd put ft fi1 put1 ft1 fe (wipeE σe vs) vs1 (xs.drop (i + 1)) M2 acc2).bind fun acc M2 => newL acc M2) Q,
            fun H2 ⟨ρ2, M2, c2, c2', z1, z2, z3⟩ => ⟨xs.length - (i + 1), by omega, ρ2, M2, c2, c2', z1, z2, rfl, hlt, z3⟩, fun x' H2 y => ?_⟩
          obtain ⟨y1, y2, y3⟩ := yl x' H2 y
          have ls2 := ls.step y1 y2
          have rs2 := rs'.carry (y1.carry ls.rp)
          cases qp : put xs[i] M' with
          | none => rw [qp] at h'; exact h'.elim
          | some l =>
            rw [qp] at h'
            dsimp only at h'
            refine hg ρ' M' H2 xs[i] x' _ _ l y2 y3 qp fun l' hl => ⟨wput hput σ qp hl, ?_⟩
            have rs3 := rs2.puts hl
            refine ht ρ' _ _ M' H2 _ rs3 y2 ?_
            cases qt : ft (putsE (wipeE σe vs) l) M' with
            | bad => rw [qt] at h'; exact h'.elim
            | err y M3 => rw [qt] at h'; exact h'.elim
            | ok b M3 =>
              rw [qt] at h'
              intro ρ3 H3 b3 a3 rp3 eb
              subst eb
              have ls3 := ls2.step a3 rp3
              cases b3 with
              | false => exact ⟨ρ3, M3, acc, acc', ls3, rs2.carry (a3.carry y2), h'⟩
              | true =>
                rw [if_pos rfl]
                have h' : PostE G W σ ρ M H (((noerr (fi1 (putsE (wipeE σe vs) l) M3)).bind fun v M2 => if acc.length + v.1.length ≤ sizeLine then (lcGo v.2 put1 ft1 fe (wipeE (putsE (wipeE σe vs) l) vs1) v.1 M2 acc).bind fun acc M3 => lc2Go gd put ft fi1 put1 ft1 fe (wipeE σe vs) vs1 (xs.drop (i + 1)) M3 acc else .bad).bind fun acc M2 => newL acc M2) Q := h'
                refine hi1 ρ3 _ _ M3 H3 _ (rs3.carry (a3.carry y2)) rp3 ?_
                cases qi : fi1 (putsE (wipeE σe vs) l) M3 with
                | bad => rw [qi] at h'; exact h'.elim
                | err y M4 => rw [qi] at h'; exact h'.elim
                | ok v M4 =>
                  rw [qi] at h'
                  obtain ⟨ys, gd1⟩ := v
                  intro ρ4 H4 J1 a4 rp4 jk1
                  have ls4 := ls3.step a4 rp4
                  have h' : PostE G W σ ρ M H ((if acc.length + ys.length ≤ sizeLine then (lcGo gd1 put1 ft1 fe (wipeE (putsE (wipeE σe vs) l) vs1) ys M4 acc).bind fun acc M3 => lc2Go gd put ft fi1 put1 ft1 fe (wipeE σe vs) vs1 (xs.drop (i + 1)) M3 acc else .bad).bind fun acc M2 => newL acc M2) Q := h'
                  by_cases hz : acc.length + ys.length ≤ sizeLine
                  · rw [if_pos hz] at h'
                    have a34 := a3.trans rp3 a4
                    have rs4 := rs2.carry (a34.carry y2)
                    have rs5 := (rs3.carry (a34.carry y2)).wipe vs1
                    refine ⟨fun j k H' => ∃ ρ' M' ac ac', Soft G ρ4 M4 H4 ρ' M' H' ∧ LS G ρ1 M1 H1 D ρ' M' H' ac ac' ∧ k = ys.length - j ∧ j ≤ ys.length ∧ ac.length ≤ acc.length + j ∧
                        PostE G W σ ρ M H (((lcGo gd1 put1 ft1 fe (wipeE (putsE (wipeE σe vs) l) vs1) (ys.drop j) M' ac).bind fun acc M3 => lc2Go gd put ft fi1 put1 ft1 fe (wipeE σe vs) vs1 (xs.drop (i + 1)) M3 acc).bind fun acc M2 => newL acc M2) Q,
                      ⟨ys.length, ρ4, M4, acc, acc', After.refl.soft rp4, ls4, by simp, Nat.zero_le _, Nat.le_refl _, h'⟩, ?_⟩
                    rintro j k H' ⟨ρ', M', ac, ac', so, lj, rfl, hj, hac, h'⟩
                    by_cases hjl : j < ys.length
                    · have f1 : ys.drop j = ys[j] :: ys.drop (j + 1) := List.drop_eq_getElem_cons hjl
                      rw [f1] at h'
                      unfold lcGo at h'
                      by_cases ok1 : okG gd1 M'
                      · rw [if_pos ok1] at h'
                        have f2 : ys[j]? = some ys[j] := List.getElem?_eq_getElem hjl
                        obtain ⟨go1, yl1⟩ := jk1.go j ys[j] ρ' M' H' so lj.rp ok1 f2
                        refine .inr ⟨go1, fun H5 => ∃ ρ' M' ac ac', Soft G ρ4 M4 H4 ρ' M' H5 ∧ LS G ρ1 M1 H1 D ρ' M' H5 ac ac' ∧ ac.length ≤ acc.length + (j + 1) ∧
                            PostE G W σ ρ M H (((lcGo gd1 put1 ft1 fe (wipeE (putsE (wipeE σe vs) l) vs1) (ys.drop (j + 1)) M' ac).bind fun acc M3 => lc2Go gd put ft fi1 put1 ft1 fe (wipeE σe vs) vs1 (xs.drop (i + 1)) M3 acc).bind fun acc M2 => newL acc M2) Q,
                          fun H5 ⟨ρ5, M5, c5, c5', z1, z2, z3, z4⟩ => ⟨ys.length - (j + 1), by omega, ρ5, M5, c5, c5', z1, z2, rfl, hjl, z3, z4⟩, fun x1 H5 y5 => ?_⟩
                        obtain ⟨w1, w2, w3⟩ := yl1 x1 H5 y5
                        have lj2 := lj.step w1 w2
                        have so2 := so.trans (w1.soft lj.rp)
                        cases qp1 : put1 ys[j] M' with
                        | none => rw [qp1] at h'; exact h'.elim
                        | some l1 =>
                          rw [qp1] at h'
                          dsimp only at h'
                          refine hg1 ρ' M' H5 ys[j] x1 _ _ l1 w2 w3 qp1 fun l1' hl1 => ⟨wput hput1 _ qp1 hl1, ?_⟩
                          have rs6 := (rs5.carry so2.car).puts hl1
                          refine ht1 ρ' _ _ M' H5 _ rs6 w2 ?_
                          cases qt1 : ft1 (putsE (wipeE (putsE (wipeE σe vs) l) vs1) l1) M' with
                          | bad => rw [qt1] at h'; exact h'.elim
                          | err y M6 => rw [qt1] at h'; exact h'.elim
                          | ok b M6 =>
                            rw [qt1] at h'
                            intro ρ6 H6 b6 a6 rp6 eb
                            subst eb
                            have lj3 := lj2.step a6 rp6
                            have so3 := so2.trans (a6.soft w2)
                            cases b6 with
                            | false => exact ⟨ρ6, M6, ac, ac', so3, lj3, by omega, h'⟩
                            | true =>
                              rw [if_pos rfl]
                              have h' : PostE G W σ ρ M H ((((noerr (fe (putsE (wipeE (putsE (wipeE σe vs) l) vs1) l1) M6)).bind fun v M2 => lcGo gd1 put1 ft1 fe (wipeE (putsE (wipeE σe vs) l) vs1) (ys.drop (j + 1)) M2 (ac ++ [v])).bind fun acc M3 => lc2Go gd put ft fi1 put1 ft1 fe (wipeE σe vs) vs1 (xs.drop (i + 1)) M3 acc).bind fun acc M2 => newL acc M2) Q := h'
                              refine he ρ6 _ _ M6 H6 _ (rs6.carry (a6.carry w2)) rp6 ?_
                              cases qe : fe (putsE (wipeE (putsE (wipeE σe vs) l) vs1) l1) M6 with
                              | bad => rw [qe] at h'; exact h'.elim
                              | err y M7 => rw [qe] at h'; exact h'.elim
                              | ok v M7 =>
                                rw [qe] at h'
                                intro ρ7 H7 v7 a7 rp7 r7
                                have lj4 := lj3.step a7 rp7
                                have so4 := so3.trans (a7.soft rp6)
                                obtain ⟨lj5, so5⟩ := lj4.push rp1 nD r7
                                exact ⟨ac', lj4.at_, by rw [lj4.rv.length]; omega, ρ7, M7, ac ++ [v], ac' ++ [v7], so4.trans so5, lj5, by rw [List.length_append, List.length_singleton]; omega, h'⟩
                      · rw [if_neg ok1] at h'; exact h'.elim
                    · have f1 : ys.drop j = [] := List.drop_eq_nil_of_le (by omega)
                      rw [f1] at h'
                      unfold lcGo at h'
                      by_cases ok1 : okG gd1 M'
                      · rw [if_pos ok1] at h'
                        have ej : j = ys.length := by omega
                        subst ej
                        exact .inl ⟨jk1.stop ρ' M' H' so lj.rp ok1, ρ', M', ac, ac', lj, rs4.carry so.car, h'⟩
                      · rw [if_neg ok1] at h'; exact h'.elim
                  · rw [if_neg hz] at h'; exact h'.elim
        · rw [if_neg ok] at h'; exact h'.elim
      · have e1 : xs.drop i = [] := List.drop_eq_nil_of_le (by omega)
        rw [e1] at h'
        unfold lc2Go at h'
        by_cases ok : okG gd M'
        · rw [if_pos ok] at h'
          have e2 : i = xs.length := by omega
          subst e2
          refine .inl ⟨jk.stop ρ' M' H' (ls.af.soft rp1) ls.rp ok, ?_⟩
          have h' : PostE G W σ ρ M H (newL acc M') Q := h'
          unfold newL at h'
          by_cases hl : acc.length ≤ sizeLine
          · rw [if_pos hl] at h'
            have cc : Carry G.K ρ' M'.length H' (ext ρ' M'.length D) (M'.length + 1) H' := ⟨by omega, fun k hk => ext_lt hk, fun _ _ z => z, fun _ _ _ z => z⟩
            exact h' _ H' (.ref D) (adopt_after a1 rp1 nD ls.af) (adopt ls.rp ls.ne ⟨acc', ls.at_, ls.rv.carry cc⟩) (by unfold RV; exact ⟨by simp, by rw [ext_self]⟩)
          · rw [if_neg hl] at h'; exact h'.elim
        · rw [if_neg ok] at h'; exact h'.elim
variable {elt tg iter tg1 iter1 : Expr} {ifs ifs1 : List Expr} {scope : Scope} {own : List (Str × Nat)} {vs1 : List Nat} {pos : Pos}
/-- the canonical reading of what is walked -/
def wI (G : Gr) (W : WX) (f : FI) : TI := fun σ H R => ∃ ρ σe M, RSt G.K ρ M.length H σe σ ∧ RP G ρ M H ∧ PostI G W σ ρ M H (f σe M) R
theorem SI.can (h : SI X W tg iter fi) : PI X tg iter (wI (gr X) W fi) := by
  obtain ⟨w, h1, h2⟩ := h
  exact ⟨fun pins s σ H R I ⟨ρ, σe, M, z1, z2, z3⟩ => h1.run pins s σ H R I (h2 ρ σe σ M H R z1 z2 z3)⟩
theorem sLc2 (hc : X.calm = true) (hN : X.N.Nodup) (hi : SI X W tg iter fi) (ok : BlkOk X.N X.env.scope scope own) (hv : ∀ i ∈ vs1, i ∈ own.map (·.2))
    (hg : ∀ (s : Shared) (H : Hp) (C : Addr) (cl : List (Str × Addr)) (fp : List Addr), SG (X.blk s H scope (compEnvC scope cl C X.env) fp) tg put)
    (ht : ∀ (s : Shared) (H : Hp) (C : Addr) (cl : List (Str × Addr)) (fp : List Addr), STs (X.blk s H scope (compEnvC scope cl C X.env) fp) W0 ifs ft)
    (hi1 : ∀ (s : Shared) (H : Hp) (C : Addr) (cl : List (Str × Addr)) (fp : List Addr), SI (X.blk s H scope (compEnvC scope cl C X.env) fp) W0 tg1 iter1 fi1)
    (hg1 : ∀ (s : Shared) (H : Hp) (C : Addr) (cl : List (Str × Addr)) (fp : List Addr), SG (X.blk s H scope (compEnvC scope cl C X.env) fp) tg1 put1)
    (ht1 : ∀ (s : Shared) (H : Hp) (C : Addr) (cl : List (Str × Addr)) (fp : List Addr), STs (X.blk s H scope (compEnvC scope cl C X.env) fp) W0 ifs1 ft1)
    (he : ∀ (s : Shared) (H : Hp) (C : Addr) (cl : List (Str × Addr)) (fp : List Addr), SE (X.blk s H scope (compEnvC scope cl C X.env) fp) W0 elt fe)
    (hput : PutIn put (own.map (·.2))) (hput1 : PutIn put1 vs1) (hs : ∀ x, foldedSetIterable iter X.env x = pure x := by intro _; rfl) (hs1 : ∀ env x, foldedSetIterable iter1 env x = pure x := by intro _ _; rfl) :
    SE X W (.ListComp elt [⟨tg, iter, ifs, 0⟩, ⟨tg1, iter1, ifs1, 0⟩] scope pos) (eLc2 (own.map (·.2)) vs1 fi put ft fi1 put1 ft1 fe) := by
  obtain ⟨wi, i1, i2⟩ := hi
  refine ⟨_, pe_lc2 (g := gP (gr X) put) (tt := tT (gr X) W0 ft) (wi1 := wI (gr X) W0 fi1) (g1 := gP (gr X) put1) (tt1 := tT (gr X) W0 ft1) (te := tE (gr X) W0 fe) hc hN i1 ok hv (fun s H C cl fp => (hg s H C cl fp).can) (fun s H C cl fp => (ht s H C cl fp).can) (fun s H C cl fp => (hi1 s H C cl fp).can) (fun s H C cl fp => (hg1 s H C cl fp).can) (fun s H C cl fp => (ht1 s H C cl fp).can) (fun s H C cl fp => (he s H C cl fp).can) hs hs1, ?_⟩
  exact simLc2 (G := gr X) i2 (fun ρ M H x x' σ Q l rp r e h => ⟨ρ, M, x, l, rp, r, e, h⟩) (fun ρ σe σ M H Q rs rp h => ⟨ρ, σe, M, rs, rp, h⟩) (fun ρ σe σ M H Q rs rp h => ⟨ρ, σe, M, rs, rp, h⟩) (fun ρ M H x x' σ Q l rp r e h => ⟨ρ, M, x, l, rp, r, e, h⟩) (fun ρ σe σ M H Q rs rp h => ⟨ρ, σe, M, rs, rp, h⟩) (fun ρ σe σ M H Q rs rp h => ⟨ρ, σe, M, rs, rp, h⟩) hput hput1
end
end WS

set_option Elab.async false
set_option linter.all false
set_option maxRecDepth 100000
/-! The simulation: ==, != by a class's own __eq__. -/
namespace WS
open PySem PySem.Spec PyProof.Rows L2
open Classical
structure OwnE (K : PySem.W.Frag) (C g : Addr) (own : List Addr) : Prop where
  eq : PySem.W.findIn K (.ref C) "__eq__" = some (some (.ref g))
  fn : PySem.W.isFn K (.ref g) = true
  ne : PySem.W.findIn K (.ref C) "__ne__" = some (some (.builtin "object.__ne__"))
  ob : PySem.W.mroIn K C (.type "object") = some true
  nt : ∀ T ∈ tNames, PySem.W.notFirst K C (.type T) = true
  nc : ∀ D ∈ own, PySem.W.notFirst K C (.ref D) = true
section
variable {prog : Program} {w : World} {A : Around} {E : Value → Shared → Prop} {s : Shared} {K : PySem.W.Frag} {x C f : Addr} {ox : Obj} {od : Option Obj} {b tb : Value}
theorem ne_body (hu : A.units < cLine) (X : K.In s.heap) (I : PySem.W.InstAt s.heap x ox C od) (hs : PySem.W.findIn K (.ref C) "__eq__" = some (some (.ref f))) (hf : PySem.W.isFn K (.ref f) = true) {Q : PySem.Fin → Shared → Prop}
    (h : wpAny (model prog w) A (call (.ref f) [.ref x, b]) (fun v t => ∃ r, v = .bool r ∧ Q (.done (.ret (.bool (!r)))) t) E s) : wpAny (model prog w) A (Builtin.«object.__ne__» ⟨[.ref x, b], []⟩) Q E s := by
  unfold Builtin.«object.__ne__»
  repeat (first
    | with_reducible refine wpAny_cRoomFor hu ?_
    | (refine wpAny_bind (m := callSpecialIfBound? (.ref x) (Str.ofString "__eq__") [b]) (PySem.W.ifBound_K X I hs hf (wpAny_mono h (fun v t ⟨r, e, q⟩ => by
          subst e
          repeat (first | exact q | exact wpAny_pure q | exact wpAny_truthy_bool q | (refine wpAny_bind (m := truthy (.bool _)) (wpAny_truthy_bool ?_)) | wp_step)) fun _ _ z => z)))
    | wp_step)
theorem ifBound_ne {M : Model} {args : List Value} {Q : Option Value → Shared → Prop} (X : K.In s.heap) (I : PySem.W.InstAt s.heap x ox C od) (hs : PySem.W.findIn K (.ref C) "__ne__" = some (some (.builtin "object.__ne__")))
    (h : wpAny M A (call (.builtin "object.__ne__") (.ref x :: args)) (fun v => Q (some v)) E s) : wpAny M A (callSpecialIfBound? (.ref x) "__ne__" args) Q E s := by
  have fin : wpAny M A (call (.builtin "object.__ne__") ([.ref x] ++ args) >>= fun v => pure (some v)) Q E s := wpAny_bind (wpAny_mono h (fun v t z => wpAny_pure z) fun _ _ z => z)
  simp only [callSpecialIfBound?, bindSpecialIfBound?]
  refine wpAny_holding (wpAny_bind (wpAny_bind (wpAny_bind (I.type.here ((PySem.W.looks_findIn X hs).here ?_)))))
  simp only [PySem.F.cmp_object.ne.bind]
  refine wpAny_bind (wpAny_askSetting (wpAny_ite ?_))
  split
  · exact wpAny_bind (wpAny_pure (wpAny_pure fin))
  · exact wpAny_tryCatch (wpAny_bind (wpAny_pure (wpAny_pure fin)))
theorem ne_own (hu : A.units + 1 < cLine) (X : K.In s.heap) (I : PySem.W.InstAt s.heap x ox C od) (hb : PySem.W.Looks (model prog w) s.heap (typeOf b) tb) (hn : PySem.W.notFirst K C tb = true) {own : List Addr} (o : OwnE K C f own) {Q : Value → Shared → Prop}
    (h : wpAny (model prog w) A.in1 (call (.ref f) [.ref x, b]) (fun v t => ∃ r, v = .bool r ∧ Q (.bool (!r)) t) E s) : wpAny (model prog w) A (richCompare .NotEq (.ref x) b) Q E s := by
  have sub : PySem.W.Looks (model prog w) s.heap (isInstance (.ref x) (.type "object")) true := I.type.andThen (PySem.W.looks_mroIn X o.ob)
  have one : wpAny (model prog w) A (tryCompare (.ref x) "__ne__" b) (fun r t => ∃ v, r = some v ∧ Q v t) E s := by
    unfold tryCompare
    refine wpAny_bind (ifBound_ne X I o.ne (wpAny_call (codeAny_call_builtin PySem.F.cmp_object.ne.plain PySem.F.cmpEntry_ne (PySem.W.check_slot PySem.F.cmpKind_ne PySem.F.cmpSplit_ne sub (PySem.F.cmpArgs_ne _ _) (ne_body (A := A.in1) (by exact hu) X I o.eq o.fn (wpAny_mono h (fun v t ⟨r, e, q⟩ => ⟨r, e, ?_⟩) fun _ _ z => z))))))
    first | exact wpAny_pure ⟨_, rfl, q⟩ | exact wpAny_pure (wpAny_pure ⟨_, rfl, q⟩) | exact ⟨_, rfl, q⟩
  unfold richCompare
  simp only [oneThing_ref]
  refine wpAny_holding (wpAny_bind (wpAny_cRoomFor (Nat.lt_of_succ_lt hu) ?_))
  refine wpAny_bind (I.type.here (wpAny_bind (hb.here ?_)))
  have step : ∀ {r : Option Value} {t : Shared}, (∃ v, r = some v ∧ Q v t) → wpAny (model prog w) A (match r with | some v => pure v | none => do
      if !false then if let some v ← tryCompare b "__ne__" (.ref x) then return v
      rule "compare.ne-identity"; return .bool (!(← isSame (.ref x) b))) Q E t := fun {r t} ⟨v, e, q⟩ => by subst e; exact wpAny_pure q
  split
  · rename_i q
    have e : PySem.W.subIn K tb (.ref C) = some false := by
      rcases Bool.or_eq_true_iff.mp hn with e | e
      · rw [beq_iff_eq.mp e] at q; simp at q
      · exact beq_iff_eq.mp e
    refine wpAny_bind ((PySem.W.looks_subIn X e).here ?_)
    simp only [Bool.false_eq_true, if_false]
    refine wpAny_bind (wpAny_mono one (fun r t ⟨v, e, q⟩ => ?_) fun _ _ z => z)
    subst e
    exact wpAny_pure q
  · refine wpAny_bind (wpAny_pure ?_)
    simp only [Bool.false_eq_true, if_false]
    refine wpAny_bind (wpAny_mono one (fun r t ⟨v, e, q⟩ => ?_) fun _ _ z => z)
    subst e
    exact wpAny_pure q
end
noncomputable def cOwn (neg : Bool) (C : Addr) (own : List Addr) (m : Fn) : EV → EV → Mem → Res EV := fun x y M => match fldsOf M x, tagV own M y with
  | some p, some _ => if p.1 = C then (noerr (m [x, y] M)).bind fun v M1 => match v with
      | .bl b => .ok (.bl (if neg = true then !b else b)) M1
      | _ => .bad
    else .bad
  | _, _ => .bad
section
variable {X : Cx} {W : WX} {k : Nat} {C g : Addr} {own : List Addr} {m : Fn}
/-- a def called somewhere below, nothing raised -/
theorem call_quiet {A : Around} (F : FnX X k g 2 m) (hr : Room k A) {pins : List (Addr × Obj)} {σ : L2.St} {ρ : Nat → Addr} {M : Mem} {H : Hp} {s : Shared} (I : Inv X pins σ H s) (e0 : Env0 X.prog X.w X.K X.mg X.base A X.stack s H) (rp : RP (gr X) ρ M H) {x y : EV} {x' y' : V} {u v : Value} (rx : RV X.K ρ M.length H x x') (ry : RV X.K ρ M.length H y y') (ru : RelV x' u) (rv : RelV y' v) {Q : VK} (h : PostE (gr X) W σ ρ M H (noerr (m [x, y] M)) Q) :
    wpAny (model X.prog X.w) A (call (.ref g) [u, v]) (EP X pins σ Q) (fun _ _ => False) s := by
  obtain ⟨⟨fd, ps, F, b⟩, kp⟩ := F
  have sp : spF (gr X) 2 m [x', y'] H Q (fun _ _ _ => False) := ⟨rfl, ρ, M, [x, y], rp, RVs.cons rx (RVs.cons ry RVs.nil), h.noerr _⟩
  have hl : [u, v].length = ps.length := F.len _ _ _ _ sp
  have bt := b s [u, v] I.kIn (by rw [List.append_nil]; exact hl)
  rw [List.append_nil] at bt
  refine wpAny_call (codeAny_mono (F.run A X.stack s H ⟨[u, v], []⟩ [u, v] [x', y'] Q (fun _ _ _ => False) hr e0 bt (.cons ru (.cons rv .nil)) sp) fun r s' hq => ?_)
  cases r with
  | error e => obtain ⟨a, B, H', cls, d, _, _, _, _, _, _, _, bad⟩ := hq; exact bad
  | ok fl =>
    cases fl with
    | ret u => exact I.after hq
    | _ => exact hq
theorem own_sim {neg : Bool} (o : OwnE X.K C g own) (ho : ∀ D ∈ own, ClsI X.K D) {pins : List (Addr × Obj)} {σ : L2.St} {ρ : Nat → Addr} {M : Mem} {H : Hp} {s : Shared} (I : Inv X pins σ H s) (rp : RP (gr X) ρ M H) {x y : EV} {x' y' : V} {u v : Value} (rx : RV X.K ρ M.length H x x') (ry : RV X.K ρ M.length H y y') (ru : RelV x' u) (rv : RelV y' v) {σ0 : L2.St} {Q : VK} (h : PostE (gr X) W σ0 ρ M H (cOwn neg C own m x y M) Q) :
    ∃ a ox od tb, u = .ref a ∧ PySem.W.InstAt s.heap a ox C od ∧ PySem.W.Looks (model X.prog X.w) s.heap (typeOf v) tb ∧ PySem.W.notFirst X.K C tb = true ∧ PostE (gr X) W σ0 ρ M H (noerr (m [x, y] M)) (fun r H' => ∃ b, r = .bl b ∧ Q (.bl (if neg = true then !b else b)) H') := by
  unfold cOwn at h
  cases q : fldsOf M x with
  | none => rw [q] at h; exact h.elim
  | some p =>
    obtain ⟨D, fs⟩ := p
    cases q2 : tagV own M y with
    | none => rw [q, q2] at h; exact h.elim
    | some t =>
      rw [q, q2] at h
      dsimp only at h
      by_cases hD : D = C
      · rw [if_pos hD] at h
        subst hD
        obtain ⟨a, dx, vs, e1, e2, rf⟩ := flds_sim rp rx q
        subst e1
        cases (show u = Value.ref a from ru)
        obtain ⟨mA, J, _⟩ := ins_get I.hok e2
        obtain ⟨od, J, _⟩ := J.look
        have ty := tag_sim ho rp ry q2
        obtain ⟨P, kit, ph, _⟩ := kit_ofE I rv ty
        refine ⟨a, _, _, t, rfl, J, kit.ty _ _ I.kIn ph, ?_, ?_⟩
        · have names : ∀ T, t = .type T → T ∈ tNames := fun T e => by
            subst e
            cases y with
            | non => cases q2; decide
            | bl b => cases q2; decide
            | int i => cases q2; decide
            | str x => cases q2; decide
            | tup xs => cases q2; decide
            | sl xs => cases q2; decide
            | ref k =>
              unfold tagV at q2
              dsimp only at q2
              cases z : M[k]? with
              | none => rw [z] at q2; cases q2
              | some ob =>
                rw [z] at q2
                cases ob with
                | lst xs => cases q2; decide
                | dic kvs => cases q2; decide
                | lck kvs => cases q2; decide
                | ins C fs =>
                  dsimp only at q2
                  split at q2 <;> cases q2
            | _ => cases q2
          have refs : ∀ B, t = .ref B → B ∈ own := fun B e => by
            subst e
            cases y with
            | ref k =>
              unfold tagV at q2
              dsimp only at q2
              cases z : M[k]? with
              | none => rw [z] at q2; cases q2
              | some ob =>
                rw [z] at q2
                cases ob with
                | ins C fs =>
                  dsimp only at q2
                  by_cases c : C ∈ own
                  · rw [if_pos c] at q2; cases q2; exact c
                  · rw [if_neg c] at q2; cases q2
                | _ => cases q2
            | _ => cases q2
          cases t with
          | type T => exact o.nt T (names T rfl)
          | ref B => exact o.nc B (refs B rfl)
          | _ =>
            exfalso
            cases y with
            | ref k =>
              unfold tagV at q2
              dsimp only at q2
              cases z : M[k]? with
              | none => rw [z] at q2; cases q2
              | some ob =>
                rw [z] at q2
                cases ob with
                | ins C fs => dsimp only at q2; split at q2 <;> cases q2
                | _ => cases q2
            | _ => cases q2
        · cases qm : noerr (m [x, y] M) with
          | bad => rw [qm] at h; exact h.elim
          | err z M1 => rw [qm] at h; exact h
          | ok r M1 =>
            rw [qm] at h
            cases r with
            | bl b =>
              intro ρ1 H1 v1 a1 rp1 r1
              unfold RV at r1
              exact ⟨b, r1, h ρ1 H1 _ a1 rp1 (by unfold RV; rfl)⟩
            | _ => exact h.elim
      · rw [if_neg hD] at h; exact h.elim
theorem PostR.quiet {α β : Type} {R : Rel α β} {G : Gr} {W W' : WX} {σ σ' : L2.St} {ρ : Nat → Addr} {M : Mem} {H : Hp} {r : Res α} {Q : β → Hp → Prop} (h : PostR R G W σ ρ M H (WS.noerr r) Q) : PostR R G W' σ' ρ M H (WS.noerr r) Q := by
  cases r with
  | ok v M1 => exact h
  | err y M1 => exact h.elim
  | bad => exact h
theorem scOwnEq (F : FnX X k g 2 m) (hr : Room (k + 1) X.A) (o : OwnE X.K C g own) (ho : ∀ D ∈ own, ClsI X.K D) : SCm X W .Eq (cOwn false C own m) := by
  refine ⟨rF2 X W (cOwn false C own m), ?_, ops2 X W _⟩
  intro pins s σ H x' y' v u Q I rx ry ⟨σ0, ρ, M, x, y, rp, r1, r2, h⟩
  obtain ⟨a, ox, od, tb, e1, J, lk, nf, hm⟩ := own_sim o ho I rp r1 r2 rx ry h
  subst e1
  obtain ⟨mf, hF⟩ := I.fr
  show wpAny _ _ (richCompare .Eq (.ref a) u) _ _ _
  refine PySem.W.cmp_K (op := .Eq) (hr.mono (Nat.le_succ k)).units0 hF I.ok.mod.kin J lk nf o.eq o.fn ?_
  refine wpAny_mono (call_quiet (W := W) F (hr.mono (Nat.le_succ k)) I I.env0 rp r1 r2 rx ry hm.quiet) (fun w t z => ?_) fun _ _ bad => bad.elim
  obtain ⟨z', H', I', rz, b, eb, qz⟩ := z
  subst eb
  cases (show w = Value.bool b from rz)
  exact ⟨.bl b, H', I', rfl, qz⟩
theorem scOwnNe (F : FnX X k g 2 m) (hr : Room (k + 1) X.A) (o : OwnE X.K C g own) (ho : ∀ D ∈ own, ClsI X.K D) : SCm X W .NotEq (cOwn true C own m) := by
  refine ⟨rF2 X W (cOwn true C own m), ?_, ops2 X W _⟩
  intro pins s σ H x' y' v u Q I rx ry ⟨σ0, ρ, M, x, y, rp, r1, r2, h⟩
  obtain ⟨a, ox, od, tb, e1, J, lk, nf, hm⟩ := own_sim o ho I rp r1 r2 rx ry h
  subst e1
  have hu := hr.units
  show wpAny _ _ (richCompare .NotEq (.ref a) u) _ _ _
  refine ne_own (by omega) I.kIn J lk nf o ?_
  refine wpAny_mono (call_quiet (W := W) F hr.in1 I I.env0.in1 rp r1 r2 rx ry hm.quiet) (fun w t z => ?_) fun _ _ bad => bad.elim
  obtain ⟨z', H', I', rz, b, eb, qz⟩ := z
  subst eb
  cases (show w = Value.bool b from rz)
  exact ⟨b, rfl, .bl (!b), H', I', rfl, qz⟩
end
end WS

set_option Elab.async false
set_option linter.all false
set_option maxRecDepth 100000
/-! The simulation: o[i] of any thing; list.count, list.index of data; list(..) of dicts. -/
namespace WS
open PySem PySem.Spec PyProof.Rows L2
open Classical
section
variable {X : Cx} {W : WX} {a b : Expr} {f g : FE} {pos : Pos}
noncomputable def itmV : EV → EV → Mem → Res EV := altO getItm getD
theorem alt_e2 (F F' : EV → EV → Mem → Res EV) : alt (e2 F f g) (e2 F' f g) = e2 (altO F F') f g := by
  funext σ M
  unfold alt e2 altO
  cases h1 : f σ M with
  | bad => rfl
  | err x M1 => rfl
  | ok v M1 =>
    show (match (g σ M1).bind fun w M2 => F v w M2 with | .bad => (g σ M1).bind fun w M2 => F' v w M2 | r => r) = (g σ M1).bind fun w M2 => match F v w M2 with | .bad => F' v w M2 | r => r
    cases h2 : g σ M1 with
    | bad => rfl
    | err x M2 => rfl
    | ok w M2 => rfl
theorem sIxV (hu : X.A.units + 64 < cLine) (ha : SE X W a f) (hb : SE X W b g) (hs : PlainIx b := by intro _ _; rfl) : SE X W (.Subscript a b pos) (e2 itmV f g) := by
  have h1 : SE X W (.Subscript a b pos) (e2 getItm f g) := sIx ha hb hs
  have h2 : SE X W (.Subscript a b pos) (e2 getD f g) := by
    obtain ⟨ta, a1, a2⟩ := ha
    obtain ⟨tb, b1, b2⟩ := hb
    exact ⟨_, pe_ix (ixDic (W := W) hu) a1 b1 hs, sim2 a2 b2 (ops2 X W getD)⟩
  have h := h1.alt h2
  rw [alt_e2] at h
  exact h
/-! ### counts -/
def mCount : EV → Fn := m1 fun x y M => match dat M x, dat M y with
  | some (.list ds), some d => if (PyData.plainAll ds = true ∧ d.plain = true) ∧ PyData.depthAll ds ≤ 60 ∧ ds.length ≤ sizeLine then .ok (.int (ds.countP fun z => PyData.eqv z d : Nat)) M else .bad
  | _, _ => .bad
theorem smCount (hu : X.A.units + 64 < cLine) : SM X W "list.count" mCount := by
  refine ⟨fun x xs H Q => ∃ d ds y, xs = [y] ∧ Dp X.K H x (.list ds) ∧ Dp X.K H y d ∧ (PyData.plainAll ds = true ∧ d.plain = true) ∧ PyData.depthAll ds ≤ 60 ∧ Q (.int (ds.countP fun z => PyData.eqv z d : Nat)) H, ?_, ms1 fun σ ρ M H x v y u Q rp rx ry h => ?_⟩
  · intro pins s σ H x xs v us Q I rx rxs ⟨d, ds, y, e1, hl, hy, ⟨p1, p2⟩, dep, q⟩
    subst e1
    obtain ⟨uy, rfl, ry⟩ := vals1 rxs
    obtain ⟨as, r1⟩ := Dp.reads I d y uy hy ry
    obtain ⟨bs, r2⟩ := Dp.reads I (.list ds) x v hl rx
    cases r2 with
    | @list l o vs n _ as' h1 h2 h3 h4 =>
      obtain ⟨oc, od, oD, os⟩ := o
      simp only at h2 h3
      subst h2 h3
      have room : X.A.units + 1 + min (PyData.depthAll ds) d.depth < cLine := by omega
      refine call_meets PySem.F.slot_list_count ⟨_, h1, rfl⟩ PySem.F.entry_list_count (PySem.F.args_list_count_2 _ _) (SeqAt.list_countAt l vs n od os uy (fun u => PyData.eqv (SeqAt.readOf s.heap u) d)) ⟨h1, SeqAt.items_plain h4 r1 p1 p2 room, ?_⟩
      have e : vs.toList.countP (fun u => PyData.eqv (SeqAt.readOf s.heap u) d) = ds.countP fun z => PyData.eqv z d := by
        have m := SeqAt.readsAll_map_plain ds vs.toList as' p1 h4
        rw [← m, List.countP_map]
        rfl
      rw [e]
      exact ⟨.int _, H, I.tok _, ⟨_, rfl⟩, q⟩
  · unfold mCount at h
    show ∃ d ds y, [u] = [y] ∧ _
    have h : PostE (gr X) W σ ρ M H (match dat M x, dat M y with
      | some (.list ds), some d => if (PyData.plainAll ds = true ∧ d.plain = true) ∧ PyData.depthAll ds ≤ 60 ∧ ds.length ≤ sizeLine then .ok (.int (ds.countP fun z => PyData.eqv z d : Nat)) M else .bad
      | _, _ => .bad) Q := h
    cases q1 : dat M x with
    | none => rw [q1] at h; exact h.elim
    | some dx =>
      cases q2 : dat M y with
      | none => rw [q1, q2] at h; cases dx <;> exact h.elim
      | some d =>
        rw [q1, q2] at h
        cases dx with
        | list ds =>
          dsimp only at h
          by_cases c : (PyData.plainAll ds = true ∧ d.plain = true) ∧ PyData.depthAll ds ≤ 60 ∧ ds.length ≤ sizeLine
          · rw [if_pos c] at h
            exact ⟨d, ds, u, rfl, toD_sim M 60 x _ q1 _ ρ H v rp rx, toD_sim M 60 y d q2 _ ρ H u rp ry, c.1, c.2.1, okI h rp⟩
          · rw [if_neg c] at h; exact h.elim
        | _ => exact h.elim
end
end WS

set_option Elab.async false
set_option linter.all false
set_option maxRecDepth 100000
/-! Names for what the printed texts use. -/
namespace WS
open PySem PySem.Spec PyProof.Rows L2
open Classical
section
variable {X : Cx} {W : WX} {k : Nat}
theorem takes0 : Takes X W0 := fun u s' ⟨a, B, sI, pins, σ, H, cls, d, e, I, nb, up, sky, na, os, ag, w⟩ => w.elim
theorem room65 {A : Around} (hr : Room k A) : A.units + 65 < cLine := by have := hr.un; omega
def opSub : EV → EV → Mem → Res EV := opI0 fun i j => .int (i - j)
theorem soSubV : SOp X W .Sub opSub := soSub
def negV : EV → Mem → Res EV := fun x M => match x with | .int i => .ok (.int (-i)) M | _ => .bad
theorem suNegV : SUn X W .USub negV := suNeg
noncomputable def cInV : EV → EV → Mem → Res EV := altO (cInS false) (altO (cInD false) (cInK false))
noncomputable def cNotInV : EV → EV → Mem → Res EV := altO (cInS true) (altO (cInD true) (cInK true))
theorem scInV (hu : X.A.units + 65 < cLine) : SCm X W .In cInV := scInS.alt ((scInD hu).alt (scInK (Nat.lt_trans (Nat.lt_succ_self _) hu)))
theorem scNotInV (hu : X.A.units + 65 < cLine) : SCm X W .NotIn cNotInV := scNotInS.alt ((scNotInD hu).alt (scNotInK (Nat.lt_trans (Nat.lt_succ_self _) hu)))
def maxV : EV → Mem → Res EV := onInts fun l => (greatest l).map .int
theorem sbMaxV (hc : X.calm = true) : SB X W (.builtin "max") (f1 maxV) := sbMax hc
def minV : EV → Mem → Res EV := onInts fun l => (least l).map .int
theorem sbMinV (hc : X.calm = true) : SB X W (.builtin "min") (f1 minV) := sbMin hc
def allV : EV → Mem → Res EV := onBls fun l => .bl (l.all id)
theorem sbAllV (hc : X.calm = true) : SB X W (.builtin "all") (f1 allV) := sbAll hc
def sumV : EV → Mem → Res EV := onInts fun l => some (.int l.sum)
theorem sbSumV (hc : X.calm = true) : SB X W (.builtin "sum") (f1 sumV) := sbSum hc
def anyV : EV → Mem → Res EV := onBls fun l => .bl (l.any id)
theorem sbAnyV (hc : X.calm = true) : SB X W (.builtin "any") (f1 anyV) := sbAny hc
theorem simChain {G : Gr} {a b c : TE} {f g h : FE} {r r' : R2} {F F' : EV → EV → Mem → Res EV} (a2 : SimE G W a f) (b2 : SimE G W b g) (c2 : SimE G W c h) (o2 : OpS G W r F) (o2' : OpS G W r' F') : SimE G W (tChain r r' a b c) (eChain F F' f g h) := by
  intro ρ σe σ M H Q hs hp h0
  refine a2 ρ σe σ M H _ hs hp (PostR.bind h0 fun v M1 ρ1 H1 v1 _ k1 rp1 r1 h1 => ?_)
  refine b2 ρ1 σe σ M1 H1 _ (hs.carry (k1.carry hp)) rp1 (PostR.bind h1 fun w M2 ρ2 H2 w2 _ k2 rp2 r2 h2 => ?_)
  refine o2 σ ρ2 M2 H2 v w v1 w2 _ rp2 (r1.carry (k2.carry rp1)) r2 (PostR.bind h2 fun z M3 ρ3 H3 z3 _ k3 rp3 r3 h3 => ?_)
  cases z with
  | bl k =>
    unfold RV at r3
    subst r3
    refine ⟨k, rfl, ?_⟩
    cases k with
    | true => exact c2 ρ3 σe σ M3 H3 _ (((hs.carry (k1.carry hp)).carry (k2.carry rp1)).carry (k3.carry rp2)) rp3 (PostR.bind h3 fun u M4 ρ4 H4 u4 _ k4 rp4 r4 h4 => o2' σ ρ4 M4 H4 w u w2 u4 Q rp4 ((r2.carry (k3.carry rp2)).carry (k4.carry rp3)) r4 h4)
    | false => exact PostR.ok0 (R := fun K ρ n H => RV K ρ n H) h3 rp3 (by unfold RV; rfl)
  | _ => exact h3.elim
theorem tChainC {a b c : Expr} {f g h : FE} {op op' : CmpOp} {F F' : EV → EV → Mem → Res EV} {pos : Pos} (ho : SCm X W op F) (ho' : SCm X W op' F') (ha : SE X W a f) (hb : SE X W b g) (hc : SE X W c h) (hm : lastMarks [op, op'] [b, c] = false := by with_unfolding_all rfl) : ST X W (.Compare a [op, op'] [b, c] pos) (tOfE (eChain F F' f g h)) := by
  obtain ⟨r, o1, o2⟩ := ho
  obtain ⟨r', o1', o2'⟩ := ho'
  obtain ⟨ta, a1, a2⟩ := ha
  obtain ⟨tb, b1, b2⟩ := hb
  obtain ⟨tc, c1, c2⟩ := hc
  exact ⟨_, pt_chain o1 o1' a1 b1 c1 hm, simB (simChain a2 b2 c2 o2 o2')⟩
theorem all7 {p : String → Prop} (h1 : p "NoneType") (h2 : p "bool") (h3 : p "int") (h4 : p "str") (h5 : p "tuple") (h6 : p "list") (h7 : p "dict") : ∀ T ∈ tNames, p T := fun T h => by
  simp only [tNames, List.mem_cons, List.not_mem_nil, or_false] at h
  rcases h with rfl | rfl | rfl | rfl | rfl | rfl | rfl
  · exact h1
  · exact h2
  · exact h3
  · exact h4
  · exact h5
  · exact h6
  · exact h7
end
theorem kit_rc {K : PySem.W.Frag} {C : Addr} {t : Value} {b : Bool} (h1 : PySem.W.isClsIn K C = true) (h2 : PySem.W.typeIn K (.ref C) = some (.type "type")) (h3 : PySem.W.subIn K t (.ref C) = some b) (hn : (t == Value.ref C) = false) : PySem.W.kitOne K t (.ref C) = some b := by
  unfold PySem.W.kitOne PySem.W.kitCls
  rw [if_neg (by rw [hn]; exact Bool.false_ne_true)]
  dsimp only
  rw [if_pos (by rw [h2, show (PySem.W.clsIn K C).isSome = true from h1]; simp), h3]
theorem kit_self {K : PySem.W.Frag} {C : Addr} : PySem.W.kitOne K (.ref C) (.ref C) = some true := if_pos (beq_self_eq_true _)
theorem kit_tT {K : PySem.W.Frag} {C : Addr} {T : String} {b : Bool} (h1 : PySem.W.kitMeta T = true) (h3 : PySem.W.subIn K (.ref C) (.type T) = some b) : PySem.W.kitOne K (.ref C) (.type T) = some b := by
  unfold PySem.W.kitOne PySem.W.kitCls
  rw [if_neg (by rw [show (Value.ref C == Value.type T) = false from rfl]; exact Bool.false_ne_true)]
  dsimp only
  rw [if_pos h1, h3]
/-! ### the law's own end -/
def spLaw (K : PySem.W.Frag) : Sp := fun vs H Q _ => ∃ (b : Addr) (ns : List Int), vs = [.ref b] ∧ Scr K H b (ns.map V.int) ∧ ns.length ≤ 63 ∧ ∀ H', Q (.bl true) H'
theorem scr_of {K : PySem.W.Frag} {H : Hp} {a : Addr} {xs : List V} (o : Only H) (h : SqL K H a xs) : Scr K H a xs := by
  rcases h with (h | ⟨b, h⟩) | h
  · rcases o a with z | ⟨b, ys, z⟩
    · rw [h] at z; cases z
    · rw [h] at z; cases z
  · exact .inl ⟨b, h⟩
  · exact .inr h
theorem law_imp {P : Program} {w : World} {K : PySem.W.Frag} {mg : Str → Option Value} {base : Heap} {k : Nat} {f : Addr} {fd : FuncData} {ps : List Str} {m : Fn} (F : FnOk P w K mg base (L2.CX P w) k f fd ps (spF ⟨P, w, K⟩ 1 m))
    (h : ∀ ns : List Int, ns.length ≤ 63 → ∃ M, m [.sl ns] [] = .ok (.bl true) M) : FnOk P w K mg base (L2.CX P w) k f fd ps (spLaw K) :=
  F.imp fun vs H Q E ⟨b, ns, e, sc, hl, q⟩ => by
    subst e
    obtain ⟨M, hm⟩ := h ns hl
    refine ⟨rfl, fun _ => 0, [], [.sl ns], ⟨fun k o e => by simp at e, fun j k hj => by simp at hj⟩, RVs.cons (by unfold RV; exact ⟨b, rfl, sc⟩) RVs.nil, ?_⟩
    rw [hm]
    intro ρ' H' v' _ _ r
    unfold RV at r
    subst r
    exact q H'
theorem walkW {l : PySem.W.OpenLaw} {q : Program} {loose : List Str} {XP : (Str → Option Value) → Heap → Prop} {YP : World → Heap → Prop} {d : DefRec} {K : Params → PySem.W.Frag} {k : Nat} {x : Str} (hn : l.most = some 63) (hdf : d.params.defaults = []) (hr : Room k callerA)
    (hY : ∀ (w : World) (h : Heap), YP w h → (K w.params).In h)
    (F : ∀ (w : World) (mg : Str → Option Value) (fa : Addr) (h : Heap), (K w.params).In h → h.Ns mainGlobals mg → mg d.name = some (.ref fa) →
      ∃ fd : FuncData, (∀ (s : Shared) (u : Value), BindsTo s fd ⟨[u], []⟩ [(x, u)]) ∧ ∀ base : Heap, (K w.params).In base → base.Ns mainGlobals mg → FnOk l.prog w (K w.params) mg base (L2.CX l.prog w) k fa fd [x] (spLaw (K w.params))) :
    PySem.W.WalkO q loose XP YP l.row.toRowW d [] (fun f vs => PySem.call f vs) :=
  L2.walk_of (n := 63) (k := k) (x := x) (CX := fun w => L2.CX l.prog w) (sp := fun w => spLaw (K w.params)) hn (by decide) hdf hr hY F (fun _ _ b ns hl hO hS => ⟨b, ns, rfl, scr_of hO hS, hl, fun _ => rfl⟩) fun _ _ _ _ _ ⟨_, _, _, _, _, _, _, _, _, _, _, _, bad⟩ => bad
end WS

set_option Elab.async false
set_option linter.all false
set_option maxRecDepth 100000
/-! The tree layer: values as trees (lists, dicts, objects by value), and what it means that memory holds them. -/
namespace WS
open PySem PySem.Spec PyProof.Rows L2
open Classical
inductive XV where
  | non | bl (b : Bool) | int (i : Int) | str (x : Str) | tup (xs : List XV) | lst (xs : List XV) | dic (kvs : List (XV × XV)) | ins (C : Addr) (fs : List (Str × XV)) | adr (a : Addr) | ty (n : String) | sl (xs : List Int)
section
variable (Z : Nat → Prop) (M : Mem)
mutual
def Dn : XV → EV → Prop
  | .non, v => v = .non
  | .bl b, v => v = .bl b
  | .int i, v => v = .int i
  | .str i, v => v = .str i
  | .adr i, v => v = .adr i
  | .ty i, v => v = .ty i
  | .sl i, v => v = .sl i
  | .tup ts, v => ∃ xs, v = .tup xs ∧ Dns ts xs
  | .lst ts, v => ∃ k, v = .ref k ∧ Z k ∧ ∃ xs, M[k]? = some (.lst xs) ∧ Dns ts xs
  | .dic ts, v => ∃ k, v = .ref k ∧ Z k ∧ ∃ xs, (M[k]? = some (.dic xs) ∨ M[k]? = some (.lck xs)) ∧ Dnp ts xs
  | .ins C ts, v => ∃ k, v = .ref k ∧ Z k ∧ ∃ xs, M[k]? = some (.ins C xs) ∧ Dnf ts xs
def Dns : List XV → List EV → Prop
  | [], xs => xs = []
  | t :: ts, xs => ∃ x r, xs = x :: r ∧ Dn t x ∧ Dns ts r
def Dnp : List (XV × XV) → List (EV × EV) → Prop
  | [], xs => xs = []
  | t :: ts, xs => ∃ y r, xs = y :: r ∧ Dnq t y ∧ Dnp ts r
def Dnq : XV × XV → EV × EV → Prop
  | (a, b), y => Dn a y.1 ∧ Dn b y.2
def Dnf : List (Str × XV) → List (Str × EV) → Prop
  | [], xs => xs = []
  | t :: ts, xs => ∃ y r, xs = y :: r ∧ Dng t y ∧ Dnf ts r
def Dng : Str × XV → Str × EV → Prop
  | (a, b), x => x.1 = a ∧ Dn b x.2
end
/-- the same with the outermost object anywhere -/
def Dn1 (t : XV) (v : EV) : Prop := match t with
  | .lst ts => ∃ k, v = .ref k ∧ ∃ xs, M[k]? = some (.lst xs) ∧ Dns Z M ts xs
  | .dic ts => ∃ k, v = .ref k ∧ ∃ xs, (M[k]? = some (.dic xs) ∨ M[k]? = some (.lck xs)) ∧ Dnp Z M ts xs
  | .ins C ts => ∃ k, v = .ref k ∧ ∃ xs, M[k]? = some (.ins C xs) ∧ Dnf Z M ts xs
  | t => Dn Z M t v
/-- what stands in a cell of its own -/
def Nd (t : XV) (o : EO) : Prop := match t with
  | .lst ts => ∃ xs, o = .lst xs ∧ Dns Z M ts xs
  | .dic ts => ∃ xs, o = .dic xs ∧ Dnp Z M ts xs
  | .ins C ts => ∃ xs, o = .ins C xs ∧ Dnf Z M ts xs
  | _ => False
end
section
variable {Z Z' Z'' : Nat → Prop} {M M' M'' : Mem}
theorem Dn.one : ∀ {t : XV} {v : EV}, Dn Z M t v → Dn1 Z M t v := by
  intro t v h
  cases t <;> first
    | exact h
    | (unfold Dn at h; obtain ⟨k, e, _, h⟩ := h; exact ⟨k, e, h⟩)
theorem Nd.one {t : XV} {o : EO} {k : Nat} (h : Nd Z M t o) (e : M[k]? = some o) : Dn1 Z M t (.ref k) := by
  cases t <;> first
    | exact h.elim
    | (obtain ⟨xs, q, h⟩ := h; subst q; exact ⟨k, rfl, xs, e, h⟩)
    | (obtain ⟨xs, q, h⟩ := h; subst q; exact ⟨k, rfl, xs, .inl e, h⟩)
theorem Nd.dn {t : XV} {o : EO} {k : Nat} (h : Nd Z M t o) (e : M[k]? = some o) (z : Z k) : Dn Z M t (.ref k) := by
  cases t <;> first
    | exact h.elim
    | (obtain ⟨xs, q, h⟩ := h; subst q; unfold Dn; exact ⟨k, rfl, z, xs, e, h⟩)
    | (obtain ⟨xs, q, h⟩ := h; subst q; unfold Dn; exact ⟨k, rfl, z, xs, .inl e, h⟩)
/-- cells alike but for a lock -/
def Lck (o o' : EO) : Prop := o' = o ∨ ∃ l, (o = .dic l ∨ o = .lck l) ∧ (o' = .dic l ∨ o' = .lck l)
def Kp (Z : Nat → Prop) (M M' : Mem) : Prop := ∀ k o, Z k → M[k]? = some o → ∃ o', M'[k]? = some o' ∧ Lck o o'
theorem Lck.lst {xs : List EV} {o : EO} (h : Lck (.lst xs) o) : o = .lst xs := by
  rcases h with h | ⟨l, h | h, _⟩
  · exact h
  · cases h
  · cases h
theorem Lck.ins {C : Addr} {xs : List (Str × EV)} {o : EO} (h : Lck (.ins C xs) o) : o = .ins C xs := by
  rcases h with h | ⟨l, h | h, _⟩
  · exact h
  · cases h
  · cases h
theorem Lck.dic {xs : List (EV × EV)} {o : EO} (h : Lck (.dic xs) o) : o = .dic xs ∨ o = .lck xs := by
  rcases h with h | ⟨l, h | h, q⟩
  · exact .inl h
  · cases h; exact q
  · cases h
theorem Lck.lck {xs : List (EV × EV)} {o : EO} (h : Lck (.lck xs) o) : o = .dic xs ∨ o = .lck xs := by
  rcases h with h | ⟨l, h | h, q⟩
  · exact .inr h
  · cases h
  · cases h; exact q
mutual
theorem Dn.mono (s : ∀ k, Z k → Z' k) (c : Kp Z M M') : ∀ {t : XV} {v : EV}, Dn Z M t v → Dn Z' M' t v
  | .non, _, h => by unfold Dn at *; exact h
  | .bl _, _, h => by unfold Dn at *; exact h
  | .int _, _, h => by unfold Dn at *; exact h
  | .str _, _, h => by unfold Dn at *; exact h
  | .adr _, _, h => by unfold Dn at *; exact h
  | .ty _, _, h => by unfold Dn at *; exact h
  | .sl _, _, h => by unfold Dn at *; exact h
  | .tup ts, _, h => by
    unfold Dn at *
    obtain ⟨xs, e, h⟩ := h
    exact ⟨xs, e, Dns.mono s c h⟩
  | .lst ts, _, h => by
    unfold Dn at *
    obtain ⟨k, e, z, xs, h1, h2⟩ := h
    obtain ⟨o, q1, q2⟩ := c k _ z h1
    rw [q2.lst] at q1
    exact ⟨k, e, s k z, xs, q1, Dns.mono s c h2⟩
  | .dic ts, _, h => by
    unfold Dn at *
    obtain ⟨k, e, z, xs, h1, h2⟩ := h
    refine ⟨k, e, s k z, xs, ?_, Dnp.mono s c h2⟩
    rcases h1 with h1 | h1
    · obtain ⟨o, q1, q2⟩ := c k _ z h1
      rcases q2.dic with q | q <;> rw [q] at q1
      · exact .inl q1
      · exact .inr q1
    · obtain ⟨o, q1, q2⟩ := c k _ z h1
      rcases q2.lck with q | q <;> rw [q] at q1
      · exact .inl q1
      · exact .inr q1
  | .ins C ts, _, h => by
    unfold Dn at *
    obtain ⟨k, e, z, xs, h1, h2⟩ := h
    obtain ⟨o, q1, q2⟩ := c k _ z h1
    rw [q2.ins] at q1
    exact ⟨k, e, s k z, xs, q1, Dnf.mono s c h2⟩
theorem Dns.mono (s : ∀ k, Z k → Z' k) (c : Kp Z M M') : ∀ {t : List XV} {v : List EV}, Dns Z M t v → Dns Z' M' t v
  | [], _, h => by unfold Dns at *; exact h
  | t :: ts, _, h => by
    unfold Dns at *
    obtain ⟨x, r, e, h1, h2⟩ := h
    exact ⟨x, r, e, Dn.mono s c h1, Dns.mono s c h2⟩
theorem Dnp.mono (s : ∀ k, Z k → Z' k) (c : Kp Z M M') : ∀ {t : List (XV × XV)} {v : List (EV × EV)}, Dnp Z M t v → Dnp Z' M' t v
  | [], _, h => by unfold Dnp at *; exact h
  | t :: ts, _, h => by
    unfold Dnp at *
    obtain ⟨x, r, e, h1, h2⟩ := h
    exact ⟨x, r, e, Dnq.mono s c h1, Dnp.mono s c h2⟩
theorem Dnq.mono (s : ∀ k, Z k → Z' k) (c : Kp Z M M') : ∀ {t : XV × XV} {v : EV × EV}, Dnq Z M t v → Dnq Z' M' t v
  | (a, b), _, h => by
    unfold Dnq at *
    exact ⟨Dn.mono s c h.1, Dn.mono s c h.2⟩
theorem Dnf.mono (s : ∀ k, Z k → Z' k) (c : Kp Z M M') : ∀ {t : List (Str × XV)} {v : List (Str × EV)}, Dnf Z M t v → Dnf Z' M' t v
  | [], _, h => by unfold Dnf at *; exact h
  | t :: ts, _, h => by
    unfold Dnf at *
    obtain ⟨x, r, e, h1, h2⟩ := h
    exact ⟨x, r, e, Dng.mono s c h1, Dnf.mono s c h2⟩
theorem Dng.mono (s : ∀ k, Z k → Z' k) (c : Kp Z M M') : ∀ {t : Str × XV} {v : Str × EV}, Dng Z M t v → Dng Z' M' t v
  | (a, b), _, h => by
    unfold Dng at *
    exact ⟨h.1, Dn.mono s c h.2⟩
end
theorem Nd.mono (s : ∀ k, Z k → Z' k) (c : Kp Z M M') {t : XV} {o : EO} (h : Nd Z M t o) : Nd Z' M' t o := by
  cases t <;> first
    | exact h.elim
    | (obtain ⟨xs, e, h⟩ := h; exact ⟨xs, e, h.mono s c⟩)
theorem Kp.refl : Kp Z M M := fun k o _ e => ⟨o, e, .inl rfl⟩
theorem Lck.trans {a b c : EO} (h : Lck a b) (g : Lck b c) : Lck a c := by
  rcases h with h | ⟨l, h1, h2⟩
  · subst h; exact g
  · rcases g with g | ⟨l', g1, g2⟩
    · subst g; exact .inr ⟨l, h1, h2⟩
    · have : l' = l := by rcases h2 with h2 | h2 <;> rcases g1 with g1 | g1 <;> (rw [h2] at g1; cases g1 <;> rfl)
      subst this
      exact .inr ⟨_, h1, g2⟩
theorem Lck.symm {a b : EO} (h : Lck a b) : Lck b a := by
  rcases h with h | ⟨l, h1, h2⟩
  · exact .inl h.symm
  · exact .inr ⟨l, h2, h1⟩
theorem Kp.trans (h : Kp Z M M') (g : Kp Z' M' M'') (s : ∀ k, Z k → Z' k) : Kp Z M M'' := fun k o z e => by
  obtain ⟨o1, e1, q1⟩ := h k o z e
  obtain ⟨o2, e2, q2⟩ := g k o1 (s k z) e1
  exact ⟨o2, e2, q1.trans q2⟩
theorem Dn1.mono (s : ∀ k, Z k → Z' k) (c : Kp Z M M') {t : XV} {v : EV} (h : Dn1 Z M t v) (own : ∀ k o, v = .ref k → M[k]? = some o → ∃ o', M'[k]? = some o' ∧ Lck o o') : Dn1 Z' M' t v := by
  cases t with
  | lst ts =>
    obtain ⟨k, e, xs, h1, h2⟩ := h
    obtain ⟨o, q1, q2⟩ := own k _ e h1
    rw [q2.lst] at q1
    exact ⟨k, e, xs, q1, h2.mono s c⟩
  | dic ts =>
    obtain ⟨k, e, xs, h1, h2⟩ := h
    refine ⟨k, e, xs, ?_, h2.mono s c⟩
    rcases h1 with h1 | h1
    · obtain ⟨o, q1, q2⟩ := own k _ e h1
      rcases q2.dic with q | q <;> rw [q] at q1
      · exact .inl q1
      · exact .inr q1
    · obtain ⟨o, q1, q2⟩ := own k _ e h1
      rcases q2.lck with q | q <;> rw [q] at q1
      · exact .inl q1
      · exact .inr q1
  | ins C ts =>
    obtain ⟨k, e, xs, h1, h2⟩ := h
    obtain ⟨o, q1, q2⟩ := own k _ e h1
    rw [q2.ins] at q1
    exact ⟨k, e, xs, q1, h2.mono s c⟩
  | _ => exact Dn.mono s c h
/-! rows -/
theorem Dns.len : ∀ {t : List XV} {v : List EV}, Dns Z M t v → v.length = t.length
  | [], _, h => by unfold Dns at h; subst h; rfl
  | t :: ts, _, h => by
    unfold Dns at h
    obtain ⟨x, r, e, _, h2⟩ := h
    rw [e, List.length_cons, List.length_cons, h2.len]
theorem Dnp.len : ∀ {t : List (XV × XV)} {v : List (EV × EV)}, Dnp Z M t v → v.length = t.length
  | [], _, h => by unfold Dnp at h; subst h; rfl
  | t :: ts, _, h => by
    unfold Dnp at h
    obtain ⟨x, r, e, _, h2⟩ := h
    rw [e, List.length_cons, List.length_cons, h2.len]
theorem Dns.nil : Dns Z M [] [] := by unfold Dns; rfl
theorem Dns.cons {t : XV} {ts : List XV} {v : EV} {vs : List EV} (h : Dn Z M t v) (g : Dns Z M ts vs) : Dns Z M (t :: ts) (v :: vs) := by unfold Dns; exact ⟨v, vs, rfl, h, g⟩
theorem Dns.app : ∀ {t s : List XV} {v w : List EV}, Dns Z M t v → Dns Z M s w → Dns Z M (t ++ s) (v ++ w)
  | [], s, v, w, h, g => by unfold Dns at h; subst h; exact g
  | t :: ts, s, v, w, h, g => by
    unfold Dns at h
    obtain ⟨x, r, e, h1, h2⟩ := h
    subst e
    exact .cons h1 (h2.app g)
theorem Dns.get : ∀ {t : List XV} {v : List EV}, Dns Z M t v → ∀ {i : Nat} {x : XV}, t[i]? = some x → ∃ y, v[i]? = some y ∧ Dn Z M x y
  | [], _, h, i, x, e => by cases e
  | t :: ts, _, h, i, x, e => by
    unfold Dns at h
    obtain ⟨y, r, q, h1, h2⟩ := h
    subst q
    cases i with
    | zero => cases e; exact ⟨y, rfl, h1⟩
    | succ i => exact h2.get (by simpa using e)
theorem Dns.drop : ∀ {t : List XV} {v : List EV} (n : Nat), Dns Z M t v → Dns Z M (t.drop n) (v.drop n)
  | [], _, n, h => by unfold Dns at h; subst h; simpa using Dns.nil
  | t :: ts, _, n, h => by
    have h0 := h
    unfold Dns at h
    obtain ⟨y, r, q, h1, h2⟩ := h
    subst q
    cases n with
    | zero => exact h0
    | succ n => exact h2.drop n
theorem Dns.take : ∀ {t : List XV} {v : List EV} (n : Nat), Dns Z M t v → Dns Z M (t.take n) (v.take n)
  | [], _, n, h => by unfold Dns at h; subst h; simpa using Dns.nil
  | t :: ts, _, n, h => by
    unfold Dns at h
    obtain ⟨y, r, q, h1, h2⟩ := h
    subst q
    cases n with
    | zero => exact Dns.nil
    | succ n => exact .cons h1 (h2.take n)
theorem Dns.rev : ∀ {t : List XV} {v : List EV}, Dns Z M t v → Dns Z M t.reverse v.reverse
  | [], _, h => by unfold Dns at h; subst h; exact Dns.nil
  | t :: ts, _, h => by
    unfold Dns at h
    obtain ⟨y, r, q, h1, h2⟩ := h
    subst q
    rw [List.reverse_cons, List.reverse_cons]
    exact h2.rev.app (.cons h1 .nil)
theorem Dns.erase : ∀ {t : List XV} {v : List EV} (n : Nat), Dns Z M t v → Dns Z M (t.eraseIdx n) (v.eraseIdx n)
  | [], _, n, h => by unfold Dns at h; subst h; simpa using Dns.nil
  | t :: ts, _, n, h => by
    unfold Dns at h
    obtain ⟨y, r, q, h1, h2⟩ := h
    subst q
    cases n with
    | zero => exact h2
    | succ n => exact .cons h1 (h2.erase n)
theorem Dns.set : ∀ {t : List XV} {v : List EV} (n : Nat) {x : XV} {y : EV}, Dns Z M t v → Dn Z M x y → Dns Z M (t.set n x) (v.set n y)
  | [], _, n, _, _, h, g => by unfold Dns at h; subst h; simpa using Dns.nil
  | t :: ts, _, n, _, _, h, g => by
    unfold Dns at h
    obtain ⟨y, r, q, h1, h2⟩ := h
    subst q
    cases n with
    | zero => exact .cons g h2
    | succ n => exact .cons h1 (h2.set n g)
theorem Dns.dropLast {t : List XV} {v : List EV} (h : Dns Z M t v) : Dns Z M t.dropLast v.dropLast := by
  rw [List.dropLast_eq_take, List.dropLast_eq_take, h.len]
  exact h.take _
theorem Dnf.look {y : Str} : ∀ {t : List (Str × XV)} {v : List (Str × EV)}, Dnf Z M t v → (∀ x, t.lookup y = some x → ∃ w, v.lookup y = some w ∧ Dn Z M x w) ∧ (t.lookup y = none → v.lookup y = none)
  | [], _, h => by unfold Dnf at h; subst h; exact ⟨fun x e => (by cases e), fun _ => rfl⟩
  | t :: ts, _, h => by
    unfold Dnf at h
    obtain ⟨z, r, q, h1, h2⟩ := h
    subst q
    obtain ⟨a, b⟩ := t
    unfold Dng at h1
    obtain ⟨h3, h4⟩ := h1
    obtain ⟨z1, z2⟩ := z
    cases h3
    rw [List.lookup_cons, List.lookup_cons]
    by_cases c : y = z1
    · subst c
      simp only [beq_self_eq_true]
      exact ⟨fun x e => (by cases e; exact ⟨z2, rfl, h4⟩), fun e => (by cases e)⟩
    · have : (y == z1) = false := by simpa using c
      simp only [this]
      exact h2.look
theorem Dnf.len : ∀ {t : List (Str × XV)} {v : List (Str × EV)}, Dnf Z M t v → v.length = t.length
  | [], _, h => by unfold Dnf at h; subst h; rfl
  | t :: ts, _, h => by
    unfold Dnf at h
    obtain ⟨x, r, e, _, h2⟩ := h
    rw [e, List.length_cons, List.length_cons, h2.len]
end
end WS

set_option Elab.async false
set_option linter.all false
set_option maxRecDepth 100000
/-! The tree layer: names with their trees, steps, expressions. -/
namespace WS
open PySem PySem.Spec PyProof.Rows L2
open Classical
/-- what a name holds: a thing that nothing changes; one lent by the caller; one of its own; one of the caller's to be changed -/
inductive Slot where
  | sh (t : XV) | bo (t : XV) | ow (t : XV) | mu (t : XV)
abbrev XSt := List (Option Slot)
def Slot.t : Slot → XV
  | .sh t => t
  | .bo t => t
  | .ow t => t
  | .mu t => t
def Slot.own : Slot → Bool
  | .ow _ => true
  | .mu _ => true
  | _ => false
def muO : Option (Option Slot) → Bool
  | some (some (.mu _)) => true
  | _ => false
inductive XR (α : Type) where
  | ok (a : α) (τ : XSt)
  | err (C : Addr) (fs : Option (List (Str × XV))) (τ : XSt)
  | bad
def XR.bind {α β : Type} : XR α → (α → XSt → XR β) → XR β
  | .ok a τ, g => g a τ
  | .err C fs τ, _ => .err C fs τ
  | .bad, _ => .bad
def SlotR (Z Wr : Nat → Prop) (M : Mem) (s : Slot) (v : EV) : Prop := match s with
  | .sh t => Dn Z M t v
  | .bo t => Dn1 Z M t v ∧ ∀ k, v = .ref k → ¬ Wr k ∧ k < M.length
  | .ow t => ∃ k o, v = .ref k ∧ Wr k ∧ ¬ Z k ∧ M[k]? = some o ∧ Nd Z M t o
  | .mu t => ∃ k o, v = .ref k ∧ Wr k ∧ ¬ Z k ∧ M[k]? = some o ∧ Nd Z M t o
structure En (Z Wr : Nat → Prop) (M : Mem) (σ : StE) (τ : XSt) : Prop where
  lt : ∀ k, Z k → k < M.length
  fr : ∀ k, M.length ≤ k → Wr k
  len : σ.length = τ.length
  on : ∀ (i : Nat) (s : Slot), τ[i]? = some (some s) → ∃ v, σ[i]? = some (some v) ∧ SlotR Z Wr M s v
  dis : ∀ (i j : Nat) (s t : Slot) (k : Nat), i ≠ j → τ[i]? = some (some s) → τ[j]? = some (some t) → s.own = true → t.own = true → σ[i]? = some (some (.ref k)) → σ[j]? ≠ some (some (.ref k))
structure Stp (Z Wr : Nat → Prop) (M : Mem) (Z' : Nat → Prop) (M' : Mem) : Prop where
  len : M.length ≤ M'.length
  sub : ∀ k, Z k → Z' k
  new : ∀ k, Z' k → Z k ∨ Wr k
  keep : ∀ k, k < M.length → (Z k ∨ ¬ Wr k) → M'[k]? = M[k]?
section
variable {Z Z' Z'' Wr : Nat → Prop} {M M' M'' : Mem} {σ : StE} {τ τ' : XSt}
theorem Stp.refl : Stp Z Wr M Z M := ⟨Nat.le_refl _, fun _ h => h, fun _ h => .inl h, fun _ _ _ => rfl⟩
theorem Stp.trans (a : Stp Z Wr M Z' M') (b : Stp Z' Wr M' Z'' M'') : Stp Z Wr M Z'' M'' where
  len := Nat.le_trans a.len b.len
  sub := fun k h => b.sub k (a.sub k h)
  new := fun k h => (b.new k h).elim (a.new k) .inr
  keep := fun k h q => (b.keep k (Nat.lt_of_lt_of_le h a.len) (q.imp (a.sub k) id)).trans (a.keep k h q)
theorem Stp.kp (a : Stp Z Wr M Z' M') : Kp Z M M' := fun k o z e => ⟨o, (a.keep k (List.getElem?_eq_some_iff.mp e).1 (.inl z)).trans e, .inl rfl⟩
theorem Stp.dn (a : Stp Z Wr M Z' M') {t : XV} {v : EV} (h : Dn Z M t v) : Dn Z' M' t v := h.mono a.sub a.kp
theorem Stp.dns (a : Stp Z Wr M Z' M') {t : List XV} {v : List EV} (h : Dns Z M t v) : Dns Z' M' t v := h.mono a.sub a.kp
theorem Stp.dnp (a : Stp Z Wr M Z' M') {t : List (XV × XV)} {v : List (EV × EV)} (h : Dnp Z M t v) : Dnp Z' M' t v := h.mono a.sub a.kp
theorem SlotR.one {s : Slot} {v : EV} (h : SlotR Z Wr M s v) : Dn1 Z M s.t v := by
  cases s with
  | sh t => exact Dn.one h
  | bo t => exact h.1
  | ow t => obtain ⟨k, o, e, _, _, e2, h⟩ := h; subst e; exact h.one e2
  | mu t => obtain ⟨k, o, e, _, _, e2, h⟩ := h; subst e; exact h.one e2
def addZ (Z : Nat → Prop) (k : Nat) : Nat → Prop := fun j => Z j ∨ j = k
theorem kp_push (o : EO) : Kp Z M (M ++ [o]) := fun k p _ e => ⟨p, by rw [List.getElem?_append_left (List.getElem?_eq_some_iff.mp e).1]; exact e, .inl rfl⟩
/-- something new beside all that stands -/
theorem En.push (E : En Z Wr M σ τ) (o : EO) (hZ : ∀ k, Z k → Z' k) (hZ2 : ∀ k, Z' k → Z k ∨ k = M.length) : En Z' Wr (M ++ [o]) σ τ ∧ Stp Z Wr M Z' (M ++ [o]) := by
  have kp : Kp Z M (M ++ [o]) := kp_push o
  have nz : ∀ k, k < M.length → ¬ Z k → ¬ Z' k := fun k h1 h2 h3 => (hZ2 k h3).elim h2 (Nat.ne_of_lt h1)
  refine ⟨⟨fun k h => ?_, fun k h => E.fr k (by simp at h; omega), E.len, fun i s e => ?_, E.dis⟩, ⟨by simp, hZ, fun k h => (hZ2 k h).imp id fun e => E.fr k (by omega), fun k h _ => List.getElem?_append_left h⟩⟩
  · rw [List.length_append]
    rcases hZ2 k h with q | q
    · have := E.lt k q; simp; omega
    · simp; omega
  · obtain ⟨v, e1, r⟩ := E.on i s e
    refine ⟨v, e1, ?_⟩
    cases s with
    | sh t => exact Dn.mono hZ kp r
    | bo t => exact ⟨Dn1.mono hZ kp r.1 (fun k p _ e => ⟨p, by rw [List.getElem?_append_left (List.getElem?_eq_some_iff.mp e).1]; exact e, .inl rfl⟩), fun k q => ⟨(r.2 k q).1, by rw [List.length_append]; exact Nat.lt_add_right _ (r.2 k q).2⟩⟩
    | ow t =>
      obtain ⟨k, p, q1, q2, q3, q4, q5⟩ := r
      have hk := (List.getElem?_eq_some_iff.mp q4).1
      exact ⟨k, p, q1, q2, nz k hk q3, by rw [List.getElem?_append_left hk]; exact q4, q5.mono hZ kp⟩
    | mu t =>
      obtain ⟨k, p, q1, q2, q3, q4, q5⟩ := r
      have hk := (List.getElem?_eq_some_iff.mp q4).1
      exact ⟨k, p, q1, q2, nz k hk q3, by rw [List.getElem?_append_left hk]; exact q4, q5.mono hZ kp⟩
end
abbrev RelX (α β : Type) := (Nat → Prop) → (Nat → Prop) → Mem → StE → XSt → α → β → Prop
def Pin (τ τ' : XSt) : Prop := ∀ i : Nat, muO τ'[i]? = muO τ[i]?
theorem Pin.refl {τ : XSt} : Pin τ τ := fun _ => rfl
theorem Pin.trans {τ τ' τ'' : XSt} (a : Pin τ τ') (b : Pin τ' τ'') : Pin τ τ'' := fun i => (b i).trans (a i)
def FsR (Z : Nat → Prop) (M : Mem) : Option (List (Str × XV)) → Option (List (Str × EV)) → Prop
  | none, none => True
  | some l, some l' => Dnf Z M l l'
  | _, _ => False
def PostX {α β : Type} (R : RelX α β) (Z Wr : Nat → Prop) (M : Mem) (σ : StE) (τ : XSt) (r : XR α) (res : Res β) : Prop := match r with
  | .ok t τ' => ∃ v M' Z', res = .ok v M' ∧ Stp Z Wr M Z' M' ∧ En Z' Wr M' σ τ' ∧ Pin τ τ' ∧ R Z' Wr M' σ τ' t v
  | .err C fs τ' => ∃ x M' Z', res = .err x M' ∧ Stp Z Wr M Z' M' ∧ En Z' Wr M' σ τ' ∧ Pin τ τ' ∧ x.cls = C ∧ FsR Z' M' fs x.fs
  | .bad => True
section
variable {α β γ δ : Type} {R : RelX α β} {R' : RelX γ δ} {Z Z1 Wr : Nat → Prop} {M M1 : Mem} {σ : StE} {τ τ1 : XSt}
theorem PostX.shift {r : XR γ} {res : Res δ} (h : PostX R' Z1 Wr M1 σ τ1 r res) (s : Stp Z Wr M Z1 M1) (p : Pin τ τ1) : PostX R' Z Wr M σ τ r res := by
  cases r with
  | ok t τ' => obtain ⟨v, M', Z', e, s', E', p', h⟩ := h; exact ⟨v, M', Z', e, s.trans s', E', p.trans p', h⟩
  | err C fs τ' => obtain ⟨v, M', Z', e, s', E', p', h⟩ := h; exact ⟨v, M', Z', e, s.trans s', E', p.trans p', h⟩
  | bad => exact True.intro
theorem PostX.bind {r : XR α} {res : Res β} {g : α → XSt → XR γ} {k : β → Mem → Res δ} (h : PostX R Z Wr M σ τ r res)
    (c : ∀ t τ1 v M1 Z1, Stp Z Wr M Z1 M1 → En Z1 Wr M1 σ τ1 → R Z1 Wr M1 σ τ1 t v → PostX R' Z1 Wr M1 σ τ1 (g t τ1) (k v M1)) : PostX R' Z Wr M σ τ (r.bind g) (res.bind k) := by
  cases r with
  | ok t τ1 =>
    obtain ⟨v, M1, Z1, e, s, E, p, h⟩ := h
    subst e
    exact (c t τ1 v M1 Z1 s E h).shift s p
  | err C fs τ' =>
    obtain ⟨x, M', Z', e, h⟩ := h
    subst e
    exact ⟨x, M', Z', rfl, h⟩
  | bad => exact True.intro
theorem PostX.ok {t : α} {v : β} (E : En Z Wr M σ τ) (h : R Z Wr M σ τ t v) : PostX R Z Wr M σ τ (.ok t τ) (.ok v M) := ⟨v, M, Z, rfl, .refl, E, .refl, h⟩
end
/-! expressions -/
inductive BV where
  | val (t : XV) | var (i : Nat)
abbrev XE := XSt → XR XV
abbrev XT := XSt → XR Bool
abbrev XA := XSt → XR (List XV)
abbrev XB := XSt → XR BV
def RE : RelX XV EV := fun Z _ M _ _ t v => Dn Z M t v
def RT : RelX Bool Bool := fun _ _ _ _ _ b c => c = b
def RA : RelX (List XV) (List EV) := fun Z _ M _ _ t v => Dns Z M t v
def RB2 : RelX BV EV := fun Z _ M σ _ b v => match b with
  | .val t => Dn Z M t v
  | .var i => σ[i]? = some (some v)
def RF : RelX XV EV := fun Z Wr M σ τ t v => ∃ k o, v = .ref k ∧ ¬ Z k ∧ Wr k ∧ M[k]? = some o ∧ Nd Z M t o ∧ ∀ (i : Nat) (s : Slot), τ[i]? = some (some s) → s.own = true → σ[i]? ≠ some (some (.ref k))
def QE (e : FE) (x : XE) : Prop := ∀ Z Wr M σ τ, En Z Wr M σ τ → PostX RE Z Wr M σ τ (x τ) (e σ M)
def QF (e : FE) (x : XE) : Prop := ∀ Z Wr M σ τ, En Z Wr M σ τ → PostX RF Z Wr M σ τ (x τ) (e σ M)
def QB (e : FE) (x : XB) : Prop := ∀ Z Wr M σ τ, En Z Wr M σ τ → PostX RB2 Z Wr M σ τ (x τ) (e σ M)
def QT (e : FT) (x : XT) : Prop := ∀ Z Wr M σ τ, En Z Wr M σ τ → PostX RT Z Wr M σ τ (x τ) (e σ M)
def QA (e : FA) (x : XA) : Prop := ∀ Z Wr M σ τ, En Z Wr M σ τ → PostX RA Z Wr M σ τ (x τ) (e σ M)
def resB (τ : XSt) : BV → Option XV
  | .val t => some t
  | .var i => match τ[i]? with
    | some (some s) => some s.t
    | _ => none
section
variable {Z Z' Wr : Nat → Prop} {M M' : Mem} {σ : StE} {τ τ' : XSt}
theorem res_dn (E : En Z Wr M σ τ) {b : BV} {v : EV} {t : XV} (h : RB2 Z Wr M σ τ b v) (e : resB τ b = some t) : Dn1 Z M t v := by
  cases b with
  | val s => cases e; exact Dn.one h
  | var i =>
    unfold resB at e
    dsimp only at e
    cases q : τ[i]? with
    | none => rw [q] at e; cases e
    | some o =>
      cases o with
      | none => rw [q] at e; cases e
      | some s =>
        rw [q] at e
        cases e
        obtain ⟨w, e1, r⟩ := E.on i s q
        have : v = w := by
          have h : σ[i]? = some (some v) := h
          rw [h] at e1; cases e1; rfl
        subst this
        exact r.one
theorem RB2.step {b : BV} {v : EV} (h : RB2 Z Wr M σ τ b v) (s : Stp Z Wr M Z' M') {τ' : XSt} : RB2 Z' Wr M' σ τ' b v := by
  cases b with
  | val t => exact s.dn h
  | var i => exact h
/-- an owned name is let go: what it holds changes no more -/
theorem En.freeze (E : En Z Wr M σ τ) {i k : Nat} {t : XV} (e : τ[i]? = some (some (.ow t))) (e2 : σ[i]? = some (some (.ref k))) : En (addZ Z k) Wr M σ (τ.set i (some (.sh t))) ∧ Stp Z Wr M (addZ Z k) M ∧ Dn (addZ Z k) M t (.ref k) ∧ Pin τ (τ.set i (some (.sh t))) := by
  obtain ⟨v, e1, k', o, q1, q2, q3, q4, q5⟩ := E.on i _ e
  rw [e2] at e1
  cases e1
  cases q1
  have hs : ∀ j, Z j → addZ Z k j := fun j h => .inl h
  have dn : Dn (addZ Z k) M t (.ref k) := (q5.mono hs .refl).dn q4 (.inr rfl)
  have hi : i < τ.length := (List.getElem?_eq_some_iff.mp e).1
  refine ⟨⟨fun j h => ?_, E.fr, by rw [List.length_set]; exact E.len, fun j s ej => ?_, fun j j' s s' l n ej ej' hs1 hs2 => ?_⟩, ⟨Nat.le_refl _, hs, fun j h => h.imp id fun z => by rw [z]; exact q2, fun _ _ _ => rfl⟩, dn, fun j => ?_⟩
  · rcases h with h | h
    · exact E.lt j h
    · rw [h]; exact (List.getElem?_eq_some_iff.mp q4).1
  · by_cases c : j = i
    · subst c
      rw [List.getElem?_set_self hi] at ej
      cases ej
      exact ⟨_, e2, dn⟩
    · rw [List.getElem?_set_ne (Ne.symm c)] at ej
      obtain ⟨w, e3, r⟩ := E.on j s ej
      refine ⟨w, e3, ?_⟩
      cases s with
      | sh u => exact Dn.mono hs .refl r
      | bo u => exact ⟨Dn1.mono hs .refl r.1 (fun _ p _ e => ⟨p, e, .inl rfl⟩), r.2⟩
      | ow u =>
        obtain ⟨l, p, r1, r2, r3, r4, r5⟩ := r
        refine ⟨l, p, r1, r2, ?_, r4, r5.mono hs .refl⟩
        rintro (h | h)
        · exact r3 h
        · subst h r1
          exact E.dis i j _ _ _ (Ne.symm c) e ej rfl rfl e2 e3
      | mu u =>
        obtain ⟨l, p, r1, r2, r3, r4, r5⟩ := r
        refine ⟨l, p, r1, r2, ?_, r4, r5.mono hs .refl⟩
        rintro (h | h)
        · exact r3 h
        · subst h r1
          exact E.dis i j _ _ _ (Ne.symm c) e ej rfl rfl e2 e3
  · have d : ∀ (m : Nat) (u : Slot), (τ.set i (some (.sh t)))[m]? = some (some u) → u.own = true → τ[m]? = some (some u) := fun m u em hu => by
      by_cases c : m = i
      · subst c
        rw [List.getElem?_set_self hi] at em
        cases em
        cases hu
      · rw [List.getElem?_set_ne (Ne.symm c)] at em; exact em
    exact E.dis j j' s s' l n (d j s ej hs1) (d j' s' ej' hs2) hs1 hs2
  · by_cases c : j = i
    · subst c
      rw [List.getElem?_set_self hi, e]
      rfl
    · rw [List.getElem?_set_ne (Ne.symm c)]
/-- a name read as a value -/
def xV (i : Nat) : XE := fun τ => match τ[i]? with
  | some (some (.sh t)) => .ok t τ
  | some (some (.ow t)) => .ok t (τ.set i (some (.sh t)))
  | _ => .bad
theorem qV (i : Nat) : QE (eV i) (xV i) := fun Z Wr M σ τ E => by
  unfold xV
  split
  · rename_i t e
    obtain ⟨v, e1, r⟩ := E.on i _ e
    have : eV i σ M = .ok v M := by unfold eV; rw [e1]
    rw [this]
    exact PostX.ok E r
  · rename_i t e
    obtain ⟨v, e1, k, o, q1, _⟩ := E.on i _ e
    subst q1
    have : eV i σ M = .ok (.ref k) M := by unfold eV; rw [e1]
    rw [this]
    obtain ⟨E', s, d, p⟩ := E.freeze e e1
    exact ⟨_, M, _, rfl, s, E', p, d⟩
  · exact True.intro
/-- a name looked at -/
def xN (i : Nat) : XB := fun τ => match τ[i]? with
  | some (some (.sh t)) => .ok (.val t) τ
  | some (some _) => .ok (.var i) τ
  | _ => .bad
theorem qN (i : Nat) : QB (eV i) (xN i) := fun Z Wr M σ τ E => by
  unfold xN
  split
  · rename_i t e
    obtain ⟨v, e1, r⟩ := E.on i _ e
    have : eV i σ M = .ok v M := by unfold eV; rw [e1]
    rw [this]
    exact PostX.ok E r
  · rename_i s _ e
    obtain ⟨v, e1, r⟩ := E.on i _ e
    have : eV i σ M = .ok v M := by unfold eV; rw [e1]
    rw [this]
    exact PostX.ok E (show RB2 Z Wr M σ τ (.var i) v from e1)
  · exact True.intro
def xB (f : XE) : XB := fun τ => (f τ).bind fun t τ1 => .ok (.val t) τ1
theorem qB {e : FE} {x : XE} (h : QE e x) : QB e (xB x) := fun Z Wr M σ τ E => by
  have := PostX.bind (R' := RB2) (g := fun t τ1 => .ok (.val t) τ1) (k := fun v M1 => .ok v M1) (h Z Wr M σ τ E) fun t τ1 v M1 Z1 s E1 r => PostX.ok E1 (show RB2 Z1 Wr M1 σ τ1 (.val t) v from r)
  have q : (e σ M).bind (fun v M1 => .ok v M1) = e σ M := by cases e σ M <;> rfl
  rw [q] at this
  exact this
def xC (t : XV) : XE := fun τ => .ok t τ
theorem qC {v : EV} {t : XV} (h : ∀ Z M, Dn Z M t v) : QE (eC v) (xC t) := fun Z Wr M σ τ E => PostX.ok E (h Z M)
theorem qInt (i : Int) : QE (eC (.int i)) (xC (.int i)) := qC fun _ _ => by unfold Dn; rfl
theorem qStr (i : Str) : QE (eC (.str i)) (xC (.str i)) := qC fun _ _ => by unfold Dn; rfl
theorem qBl (i : Bool) : QE (eC (.bl i)) (xC (.bl i)) := qC fun _ _ => by unfold Dn; rfl
theorem qNon : QE (eC .non) (xC .non) := qC fun _ _ => by unfold Dn; rfl
theorem qAdr (i : Addr) : QE (eC (.adr i)) (xC (.adr i)) := qC fun _ _ => by unfold Dn; rfl
/-- what is new is let go -/
theorem QF.e {e : FE} {x : XE} (h : QF e x) : QE e x := fun Z Wr M σ τ E => by
  have h := h Z Wr M σ τ E
  revert h
  generalize x τ = r
  intro h
  cases r with
  | ok t τ' =>
    obtain ⟨v, M', Z', e1, s, E', p, k, o, q1, q2, q3, q4, q5, q6⟩ := h
    subst q1
    have hs : ∀ j, Z' j → addZ Z' k j := fun j h => .inl h
    refine ⟨_, M', addZ Z' k, e1, s.trans ⟨Nat.le_refl _, hs, fun j h => h.imp id fun z => by rw [z]; exact q3, fun _ _ _ => rfl⟩, ⟨fun j h => ?_, E'.fr, E'.len, fun j s' ej => ?_, E'.dis⟩, p, (q5.mono hs .refl).dn q4 (.inr rfl)⟩
    · rcases h with h | h
      · exact E'.lt j h
      · rw [h]; exact (List.getElem?_eq_some_iff.mp q4).1
    · obtain ⟨w, e3, r⟩ := E'.on j s' ej
      refine ⟨w, e3, ?_⟩
      cases s' with
      | sh u => exact Dn.mono hs .refl r
      | bo u => exact ⟨Dn1.mono hs .refl r.1 (fun _ p _ e => ⟨p, e, .inl rfl⟩), r.2⟩
      | ow u =>
        obtain ⟨l, p, r1, r2, r3, r4, r5⟩ := r
        refine ⟨l, p, r1, r2, ?_, r4, r5.mono hs .refl⟩
        rintro (h | h)
        · exact r3 h
        · subst h r1
          exact q6 j _ ej rfl e3
      | mu u =>
        obtain ⟨l, p, r1, r2, r3, r4, r5⟩ := r
        refine ⟨l, p, r1, r2, ?_, r4, r5.mono hs .refl⟩
        rintro (h | h)
        · exact r3 h
        · subst h r1
          exact q6 j _ ej rfl e3
  | err C fs τ' => exact h
  | bad => exact True.intro
/-! operators -/
def OkF (Z : Nat → Prop) (M : Mem) (res : Res EV) (r : XV) : Prop := ∃ o, res = .ok (.ref M.length) (M ++ [o]) ∧ Nd Z M r o
def OkX (Z : Nat → Prop) (M : Mem) (res : Res EV) (r : XV) : Prop := (∃ u, res = .ok u M ∧ Dn Z M r u) ∨ OkF Z M res r
theorem OkF.post {res : Res EV} {r : XV} (h : OkF Z M res r) (E : En Z Wr M σ τ) : PostX RF Z Wr M σ τ (.ok r τ) res := by
  obtain ⟨o, e, n⟩ := h
  obtain ⟨E', s⟩ := E.push o (Z' := Z) (fun _ h => h) (fun _ h => .inl h)
  refine ⟨_, _, _, e, s, E', .refl, M.length, o, rfl, fun z => Nat.lt_irrefl _ (E.lt _ z), E.fr _ (Nat.le_refl _), by simp, n.mono (fun _ h => h) (kp_push o), fun i s' e1 e2 e3 => ?_⟩
  obtain ⟨v, e4, r⟩ := E.on i _ e1
  rw [e3] at e4
  cases e4
  cases s' with
  | sh u => cases e2
  | bo u => cases e2
  | ow u => obtain ⟨l, p, r1, _, _, r4, _⟩ := r; cases r1; have := (List.getElem?_eq_some_iff.mp r4).1; omega
  | mu u => obtain ⟨l, p, r1, _, _, r4, _⟩ := r; cases r1; have := (List.getElem?_eq_some_iff.mp r4).1; omega
theorem OkX.post {res : Res EV} {r : XV} (h : OkX Z M res r) (E : En Z Wr M σ τ) : PostX RE Z Wr M σ τ (.ok r τ) res := by
  rcases h with ⟨u, e, d⟩ | ⟨o, e, n⟩
  · rw [e]; exact PostX.ok E d
  · obtain ⟨E', s⟩ := E.push o (Z' := addZ Z M.length) (fun _ h => .inl h) (fun _ h => h)
    exact ⟨_, _, _, e, s, E', .refl, (n.mono (fun _ h => .inl h) (kp_push o)).dn (by simp) (.inr rfl)⟩
def Op1 (op : EV → Mem → Res EV) (o : XV → Option XV) : Prop := ∀ Z M t v r, Dn1 Z M t v → o t = some r → OkX Z M (op v M) r
def Op2 (op : EV → EV → Mem → Res EV) (o : XV → XV → Option XV) : Prop := ∀ Z M t s v w r, Dn1 Z M t v → Dn1 Z M s w → o t s = some r → OkX Z M (op v w M) r
def Op1F (op : EV → Mem → Res EV) (o : XV → Option XV) : Prop := ∀ Z M t v r, Dn1 Z M t v → o t = some r → OkF Z M (op v M) r
def Op2F (op : EV → EV → Mem → Res EV) (o : XV → XV → Option XV) : Prop := ∀ Z M t s v w r, Dn1 Z M t v → Dn1 Z M s w → o t s = some r → OkF Z M (op v w M) r
theorem Op1F.x {op : EV → Mem → Res EV} {o : XV → Option XV} (h : Op1F op o) : Op1 op o := fun Z M t v r a b => .inr (h Z M t v r a b)
theorem Op2F.x {op : EV → EV → Mem → Res EV} {o : XV → XV → Option XV} (h : Op2F op o) : Op2 op o := fun Z M t s v w r a b c => .inr (h Z M t s v w r a b c)
def ofO (r : Option XV) (τ : XSt) : XR XV := match r with
  | some t => .ok t τ
  | none => .bad
def x1 (o : XV → Option XV) (f : XB) : XE := fun τ => (f τ).bind fun a τ1 => ofO ((resB τ1 a).bind o) τ1
def x2 (o : XV → XV → Option XV) (f g : XB) : XE := fun τ => (f τ).bind fun a τ1 => (g τ1).bind fun b τ2 => ofO ((resB τ2 a).bind fun t => (resB τ2 b).bind fun s => o t s) τ2
theorem q1 {op : EV → Mem → Res EV} {o : XV → Option XV} {f : FE} {x : XB} (ho : Op1 op o) (h : QB f x) : QE (e1 op f) (x1 o x) := fun Z Wr M σ τ E => by
  refine PostX.bind (h Z Wr M σ τ E) fun b τ1 v M1 Z1 s E1 r => ?_
  cases q : resB τ1 b with
  | none => exact True.intro
  | some t =>
    cases q2 : o t with
    | none => simp only [Option.bind_some, q2]; exact True.intro
    | some u => simp only [Option.bind_some, q2]; exact (ho _ _ _ _ _ (res_dn E1 r q) q2).post E1
theorem q1F {op : EV → Mem → Res EV} {o : XV → Option XV} {f : FE} {x : XB} (ho : Op1F op o) (h : QB f x) : QF (e1 op f) (x1 o x) := fun Z Wr M σ τ E => by
  refine PostX.bind (h Z Wr M σ τ E) fun b τ1 v M1 Z1 s E1 r => ?_
  cases q : resB τ1 b with
  | none => exact True.intro
  | some t =>
    cases q2 : o t with
    | none => simp only [Option.bind_some, q2]; exact True.intro
    | some u => simp only [Option.bind_some, q2]; exact (ho _ _ _ _ _ (res_dn E1 r q) q2).post E1
theorem q2_post {op : EV → EV → Mem → Res EV} {o : XV → XV → Option XV} (ho : Op2 op o) (E : En Z Wr M σ τ) {a b : BV} {v w : EV} (ra : RB2 Z Wr M σ τ a v) (rb : RB2 Z Wr M σ τ b w) : PostX RE Z Wr M σ τ (ofO ((resB τ a).bind fun t => (resB τ b).bind fun s => o t s) τ) (op v w M) := by
  cases q : resB τ a with
  | none => exact True.intro
  | some t =>
    cases q' : resB τ b with
    | none => exact True.intro
    | some s =>
      simp only [Option.bind_some]
      cases q2 : o t s with
      | none => exact True.intro
      | some u => exact (ho _ _ _ _ _ _ _ (res_dn E ra q) (res_dn E rb q') q2).post E
theorem q2_postF {op : EV → EV → Mem → Res EV} {o : XV → XV → Option XV} (ho : Op2F op o) (E : En Z Wr M σ τ) {a b : BV} {v w : EV} (ra : RB2 Z Wr M σ τ a v) (rb : RB2 Z Wr M σ τ b w) : PostX RF Z Wr M σ τ (ofO ((resB τ a).bind fun t => (resB τ b).bind fun s => o t s) τ) (op v w M) := by
  cases q : resB τ a with
  | none => exact True.intro
  | some t =>
    cases q' : resB τ b with
    | none => exact True.intro
    | some s =>
      simp only [Option.bind_some]
      cases q2 : o t s with
      | none => exact True.intro
      | some u => exact (ho _ _ _ _ _ _ _ (res_dn E ra q) (res_dn E rb q') q2).post E
theorem q2 {op : EV → EV → Mem → Res EV} {o : XV → XV → Option XV} {f g : FE} {x y : XB} (ho : Op2 op o) (h : QB f x) (h2 : QB g y) : QE (e2 op f g) (x2 o x y) := fun Z Wr M σ τ E =>
  PostX.bind (h Z Wr M σ τ E) fun a τ1 v M1 Z1 s E1 r => PostX.bind (h2 Z1 Wr M1 σ τ1 E1) fun b τ2 w M2 Z2 s2 E2 r2 => q2_post ho E2 (r.step s2) r2
theorem q2F {op : EV → EV → Mem → Res EV} {o : XV → XV → Option XV} {f g : FE} {x y : XB} (ho : Op2F op o) (h : QB f x) (h2 : QB g y) : QF (e2 op f g) (x2 o x y) := fun Z Wr M σ τ E =>
  PostX.bind (h Z Wr M σ τ E) fun a τ1 v M1 Z1 s E1 r => PostX.bind (h2 Z1 Wr M1 σ τ1 E1) fun b τ2 w M2 Z2 s2 E2 r2 => q2_postF ho E2 (r.step s2) r2
def isTrue : XV → Option Bool
  | .bl b => some b
  | _ => none
theorem isTrue_eq {t : XV} {b : Bool} (h : isTrue t = some b) : t = .bl b := by
  cases t <;> cases h
  rfl
def xChain (o o' : XV → XV → Option XV) (f g h : XB) : XE := fun τ => (f τ).bind fun a τ1 => (g τ1).bind fun b τ2 => (ofO ((resB τ2 a).bind fun t => (resB τ2 b).bind fun s => o t s) τ2).bind fun z τ3 => match isTrue z with
  | some true => (h τ3).bind fun c τ4 => ofO ((resB τ4 b).bind fun t => (resB τ4 c).bind fun s => o' t s) τ4
  | some false => .ok (.bl false) τ3
  | none => .bad
theorem qChain {op op' : EV → EV → Mem → Res EV} {o o' : XV → XV → Option XV} {f g k : FE} {x y z : XB} (ho : Op2 op o) (ho' : Op2 op' o') (h : QB f x) (h2 : QB g y) (h3 : QB k z) : QE (eChain op op' f g k) (xChain o o' x y z) := fun Z Wr M σ τ E => by
  refine PostX.bind (h Z Wr M σ τ E) fun a τ1 v M1 Z1 s E1 r => PostX.bind (h2 Z1 Wr M1 σ τ1 E1) fun b τ2 w M2 Z2 s2 E2 r2 => PostX.bind (q2_post ho E2 (r.step s2) r2) fun u τ3 v3 M3 Z3 s3 E3 r3 => ?_
  cases q : isTrue u with
  | none => exact True.intro
  | some c =>
    have := isTrue_eq q
    subst this
    have r3 : Dn Z3 M3 (.bl c) v3 := r3
    unfold Dn at r3
    subst r3
    cases c with
    | true => exact PostX.bind (h3 Z3 Wr M3 σ τ3 E3) fun c τ4 w4 M4 Z4 s4 E4 r4 => q2_post ho' E4 ((r2.step s3 (τ' := τ3)).step s4) r4
    | false => exact PostX.ok E3 (by show Dn _ _ _ _; unfold Dn; rfl)
/-! tests -/
def xT (f : XE) : XT := fun τ => (f τ).bind fun t τ1 => match isTrue t with
  | some b => .ok b τ1
  | none => .bad
theorem qT {f : FE} {x : XE} (h : QE f x) : QT (tOfE f) (xT x) := fun Z Wr M σ τ E => by
  refine PostX.bind (h Z Wr M σ τ E) fun t τ1 v M1 Z1 s E1 r => ?_
  cases q : isTrue t with
  | none => exact True.intro
  | some c =>
    have := isTrue_eq q
    subst this
    have r : Dn Z1 M1 (.bl c) v := r
    unfold Dn at r
    subst r
    exact PostX.ok E1 rfl
def xTNot (f : XT) : XT := fun τ => (f τ).bind fun b τ1 => .ok (!b) τ1
theorem qTNot {f : FT} {x : XT} (h : QT f x) : QT (tNot f) (xTNot x) := fun Z Wr M σ τ E => PostX.bind (h Z Wr M σ τ E) fun t τ1 v M1 Z1 s E1 r => by cases r; exact PostX.ok E1 rfl
def xTAnd (f g : XT) : XT := fun τ => (f τ).bind fun b τ1 => if b = true then g τ1 else .ok false τ1
def xTOr (f g : XT) : XT := fun τ => (f τ).bind fun b τ1 => if b = true then .ok true τ1 else g τ1
theorem qTAnd {f g : FT} {x y : XT} (h : QT f x) (h2 : QT g y) : QT (tAnd f g) (xTAnd x y) := fun Z Wr M σ τ E => PostX.bind (h Z Wr M σ τ E) fun t τ1 v M1 Z1 s E1 r => by
  cases r
  cases t with
  | true => exact h2 _ _ _ _ _ E1
  | false => exact PostX.ok E1 rfl
theorem qTOr {f g : FT} {x y : XT} (h : QT f x) (h2 : QT g y) : QT (tOr f g) (xTOr x y) := fun Z Wr M σ τ E => PostX.bind (h Z Wr M σ τ E) fun t τ1 v M1 Z1 s E1 r => by
  cases r
  cases t with
  | true => exact PostX.ok E1 rfl
  | false => exact h2 _ _ _ _ _ E1
def xNot (f : XE) : XE := fun τ => (f τ).bind fun t τ1 => match isTrue t with
  | some b => .ok (.bl (!b)) τ1
  | none => .bad
def xAnd (f g : XE) : XE := fun τ => (f τ).bind fun t τ1 => match isTrue t with
  | some true => g τ1
  | some false => .ok (.bl false) τ1
  | none => .bad
def xOr (f g : XE) : XE := fun τ => (f τ).bind fun t τ1 => match isTrue t with
  | some false => g τ1
  | some true => .ok (.bl true) τ1
  | none => .bad
theorem qNot {f : FE} {x : XE} (h : QE f x) : QE (eNot f) (xNot x) := fun Z Wr M σ τ E => by
  refine PostX.bind (h Z Wr M σ τ E) fun t τ1 v M1 Z1 s E1 r => ?_
  cases q : isTrue t with
  | none => exact True.intro
  | some c =>
    have := isTrue_eq q
    subst this
    have r : Dn Z1 M1 (.bl c) v := r
    unfold Dn at r
    subst r
    exact PostX.ok E1 (by show Dn _ _ _ _; unfold Dn; rfl)
theorem qAnd {f g : FE} {x y : XE} (h : QE f x) (h2 : QE g y) : QE (eAnd f g) (xAnd x y) := fun Z Wr M σ τ E => by
  refine PostX.bind (h Z Wr M σ τ E) fun t τ1 v M1 Z1 s E1 r => ?_
  cases q : isTrue t with
  | none => exact True.intro
  | some c =>
    have := isTrue_eq q
    subst this
    have r : Dn Z1 M1 (.bl c) v := r
    unfold Dn at r
    subst r
    cases c with
    | true => exact h2 _ _ _ _ _ E1
    | false => exact PostX.ok E1 (by show Dn _ _ _ _; unfold Dn; rfl)
theorem qOr {f g : FE} {x y : XE} (h : QE f x) (h2 : QE g y) : QE (eOr f g) (xOr x y) := fun Z Wr M σ τ E => by
  refine PostX.bind (h Z Wr M σ τ E) fun t τ1 v M1 Z1 s E1 r => ?_
  cases q : isTrue t with
  | none => exact True.intro
  | some c =>
    have := isTrue_eq q
    subst this
    have r : Dn Z1 M1 (.bl c) v := r
    unfold Dn at r
    subst r
    cases c with
    | false => exact h2 _ _ _ _ _ E1
    | true => exact PostX.ok E1 (by show Dn _ _ _ _; unfold Dn; rfl)
def xIf {α : Type} (t : XT) (f g : XSt → XR α) : XSt → XR α := fun τ => (t τ).bind fun b τ1 => if b = true then f τ1 else g τ1
theorem qIf {t : FT} {f g : FE} {z : XT} {x y : XE} (h : QT t z) (h1 : QE f x) (h2 : QE g y) : QE (eIf t f g) (xIf z x y) := fun Z Wr M σ τ E => PostX.bind (h Z Wr M σ τ E) fun b τ1 v M1 Z1 s E1 r => by
  cases r
  cases b with
  | true => exact h1 _ _ _ _ _ E1
  | false => exact h2 _ _ _ _ _ E1
theorem qIfF {t : FT} {f g : FE} {z : XT} {x y : XE} (h : QT t z) (h1 : QF f x) (h2 : QF g y) : QF (eIf t f g) (xIf z x y) := fun Z Wr M σ τ E => PostX.bind (h Z Wr M σ τ E) fun b τ1 v M1 Z1 s E1 r => by
  cases r
  cases b with
  | true => exact h1 _ _ _ _ _ E1
  | false => exact h2 _ _ _ _ _ E1
/-! rows -/
def xANil : XA := fun τ => .ok [] τ
def xACons (f : XE) (g : XA) : XA := fun τ => (f τ).bind fun t τ1 => (g τ1).bind fun ts τ2 => .ok (t :: ts) τ2
theorem qANil : QA aNil xANil := fun Z Wr M σ τ E => PostX.ok E Dns.nil
theorem qACons {f : FE} {g : FA} {x : XE} {y : XA} (h : QE f x) (h2 : QA g y) : QA (aCons f g) (xACons x y) := fun Z Wr M σ τ E =>
  PostX.bind (h Z Wr M σ τ E) fun a τ1 v M1 Z1 s E1 r => PostX.bind (h2 Z1 Wr M1 σ τ1 E1) fun b τ2 w M2 Z2 s2 E2 r2 => PostX.ok E2 (Dns.cons (s2.dn r) r2)
def xLst (g : XA) : XE := fun τ => (g τ).bind fun ts τ1 => if ts.length ≤ sizeLine then .ok (.lst ts) τ1 else .bad
def xTup (g : XA) : XE := fun τ => (g τ).bind fun ts τ1 => if ts.length ≤ sizeLine then .ok (.tup ts) τ1 else .bad
theorem okF_lst {ts : List XV} {vs : List EV} (h : Dns Z M ts vs) (c : ts.length ≤ sizeLine) : OkF Z M (newL vs M) (.lst ts) := by
  unfold newL
  rw [if_pos (by rw [h.len]; exact c)]
  exact ⟨_, rfl, vs, rfl, h⟩
theorem qLst {g : FA} {y : XA} (h : QA g y) : QF (eLst g) (xLst y) := fun Z Wr M σ τ E => by
  refine PostX.bind (h Z Wr M σ τ E) fun t τ1 v M1 Z1 s E1 r => ?_
  split
  · rename_i c
    exact (okF_lst r c).post E1
  · exact True.intro
theorem qTup {g : FA} {y : XA} (h : QA g y) : QE (eTup g) (xTup y) := fun Z Wr M σ τ E => by
  refine PostX.bind (h Z Wr M σ τ E) fun t τ1 v M1 Z1 s E1 r => ?_
  split
  · rename_i c
    have r : Dns Z1 M1 t v := r
    unfold newT
    rw [if_pos (by rw [r.len]; exact c)]
    exact PostX.ok E1 (by show Dn _ _ _ _; unfold Dn; exact ⟨v, rfl, r⟩)
  · exact True.intro
end
end WS

set_option Elab.async false
set_option linter.all false
set_option maxRecDepth 100000
/-! The tree layer: statements, loops, comprehensions. -/
namespace WS
open PySem PySem.Spec PyProof.Rows L2
open Classical
inductive XRS where
  | nx (τ : XSt) | rt (t : XV) (fr : Bool) (τ : XSt) | bk (τ : XSt) | ct (τ : XSt) | err (C : Addr) (fs : Option (List (Str × XV))) (τ : XSt) | bad
abbrev XS := XSt → XRS
def PinS (σ : StE) (τ : XSt) (σ' : StE) (τ' : XSt) : Prop := ∀ i : Nat, muO τ'[i]? = muO τ[i]? ∧ (muO τ[i]? = true → σ'[i]? = σ[i]?)
theorem PinS.refl {σ : StE} {τ : XSt} : PinS σ τ σ τ := fun _ => ⟨rfl, fun _ => rfl⟩
theorem PinS.trans {σ σ' σ'' : StE} {τ τ' τ'' : XSt} (a : PinS σ τ σ' τ') (b : PinS σ' τ' σ'' τ'') : PinS σ τ σ'' τ'' := fun i => ⟨(b i).1.trans (a i).1, fun h => ((b i).2 ((a i).1.trans h)).trans ((a i).2 h)⟩
theorem Pin.s {σ : StE} {τ τ' : XSt} (a : Pin τ τ') : PinS σ τ σ τ' := fun i => ⟨a i, fun _ => rfl⟩
def PostQ (Z Wr : Nat → Prop) (M : Mem) (σ : StE) (τ : XSt) (r : XRS) (res : RS) : Prop := match r with
  | .nx τ' => ∃ σ' M' Z', res = .nx σ' M' ∧ Stp Z Wr M Z' M' ∧ En Z' Wr M' σ' τ' ∧ PinS σ τ σ' τ'
  | .bk τ' => ∃ σ' M' Z', res = .bk σ' M' ∧ Stp Z Wr M Z' M' ∧ En Z' Wr M' σ' τ' ∧ PinS σ τ σ' τ'
  | .ct τ' => ∃ σ' M' Z', res = .ct σ' M' ∧ Stp Z Wr M Z' M' ∧ En Z' Wr M' σ' τ' ∧ PinS σ τ σ' τ'
  | .rt t fr τ' => ∃ v σ' M' Z', res = .rt v M' ∧ Stp Z Wr M Z' M' ∧ En Z' Wr M' σ' τ' ∧ PinS σ τ σ' τ' ∧ (fr = true → RF Z' Wr M' σ' τ' t v) ∧ (fr = false → Dn Z' M' t v)
  | .err C fs τ' => ∃ x σ' M' Z', res = .err x σ' M' ∧ Stp Z Wr M Z' M' ∧ En Z' Wr M' σ' τ' ∧ PinS σ τ σ' τ' ∧ x.cls = C ∧ FsR Z' M' fs x.fs
  | .bad => True
def QS (s : FS) (x : XS) : Prop := ∀ Z Wr M σ τ, En Z Wr M σ τ → PostQ Z Wr M σ τ (x τ) (s σ M)
def xThen {α : Type} (r : XR α) (g : α → XSt → XRS) : XRS := match r with
  | .ok a τ => g a τ
  | .err C fs τ => .err C fs τ
  | .bad => .bad
section
variable {α β : Type} {R : RelX α β} {Z Z' Z1 Wr : Nat → Prop} {M M' M1 : Mem} {σ σ' σ1 : StE} {τ τ' τ1 : XSt}
theorem PostQ.shift {r : XRS} {res : RS} (h : PostQ Z1 Wr M1 σ1 τ1 r res) (s : Stp Z Wr M Z1 M1) (p : PinS σ τ σ1 τ1) : PostQ Z Wr M σ τ r res := by
  cases r with
  | nx τ' => obtain ⟨v, M', Z', e, s', E', p'⟩ := h; exact ⟨v, M', Z', e, s.trans s', E', p.trans p'⟩
  | bk τ' => obtain ⟨v, M', Z', e, s', E', p'⟩ := h; exact ⟨v, M', Z', e, s.trans s', E', p.trans p'⟩
  | ct τ' => obtain ⟨v, M', Z', e, s', E', p'⟩ := h; exact ⟨v, M', Z', e, s.trans s', E', p.trans p'⟩
  | rt t fr τ' => obtain ⟨v, s0, M', Z', e, s', E', p', h⟩ := h; exact ⟨v, s0, M', Z', e, s.trans s', E', p.trans p', h⟩
  | err C fs τ' => obtain ⟨v, s0, M', Z', e, s', E', p', h⟩ := h; exact ⟨v, s0, M', Z', e, s.trans s', E', p.trans p', h⟩
  | bad => exact True.intro
theorem PostX.thenS {r : XR α} {res : Res β} {g : α → XSt → XRS} {k : β → Mem → RS} (h : PostX R Z Wr M σ τ r res)
    (c : ∀ t τ1 v M1 Z1, Stp Z Wr M Z1 M1 → En Z1 Wr M1 σ τ1 → R Z1 Wr M1 σ τ1 t v → PostQ Z1 Wr M1 σ τ1 (g t τ1) (k v M1)) : PostQ Z Wr M σ τ (xThen r g) (res.thenS σ k) := by
  cases r with
  | ok t τ1 =>
    obtain ⟨v, M1, Z1, e, s, E, p, h⟩ := h
    subst e
    exact (c t τ1 v M1 Z1 s E h).shift s p.s
  | err C fs τ' =>
    obtain ⟨x, M', Z', e, s, E, p, h⟩ := h
    subst e
    exact ⟨x, σ, M', Z', rfl, s, E, p.s, h⟩
  | bad => exact True.intro
theorem PostQ.nx0 (E : En Z Wr M σ τ) : PostQ Z Wr M σ τ (.nx τ) (.nx σ M) := ⟨σ, M, Z, rfl, .refl, E, .refl⟩
def xSeq (f g : XS) : XS := fun τ => match f τ with
  | .nx τ1 => g τ1
  | r => r
theorem qSeq {f g : FS} {x y : XS} (h : QS f x) (h2 : QS g y) : QS (sSeq f g) (xSeq x y) := fun Z Wr M σ τ E => by
  have h := h Z Wr M σ τ E
  unfold sSeq xSeq
  generalize x τ = r at h
  cases r with
  | nx τ1 =>
    obtain ⟨σ1, M1, Z1, e, s, E1, p⟩ := h
    rw [e]
    exact (h2 _ _ _ _ _ E1).shift s p
  | bk τ1 => obtain ⟨σ1, M1, Z1, e, h⟩ := h; rw [e]; exact ⟨σ1, M1, Z1, rfl, h⟩
  | ct τ1 => obtain ⟨σ1, M1, Z1, e, h⟩ := h; rw [e]; exact ⟨σ1, M1, Z1, rfl, h⟩
  | rt t fr τ1 => obtain ⟨v, σ1, M1, Z1, e, h⟩ := h; rw [e]; exact ⟨v, σ1, M1, Z1, rfl, h⟩
  | err C fs τ1 => obtain ⟨v, σ1, M1, Z1, e, h⟩ := h; rw [e]; exact ⟨v, σ1, M1, Z1, rfl, h⟩
  | bad => exact True.intro
def xNil : XS := fun τ => .nx τ
theorem qNil : QS sNil xNil := fun Z Wr M σ τ E => .nx0 E
def xBrk : XS := fun τ => .bk τ
theorem qBrk : QS sBrk xBrk := fun Z Wr M σ τ E => ⟨σ, M, Z, rfl, .refl, E, .refl⟩
def xCnt : XS := fun τ => .ct τ
theorem qCnt : QS sCnt xCnt := fun Z Wr M σ τ E => ⟨σ, M, Z, rfl, .refl, E, .refl⟩
def xDrop (f : XE) : XS := fun τ => xThen (f τ) fun _ τ1 => .nx τ1
theorem qDrop {f : FE} {x : XE} (h : QE f x) : QS (sDrop f) (xDrop x) := fun Z Wr M σ τ E => PostX.thenS (h Z Wr M σ τ E) fun t τ1 v M1 Z1 s E1 r => .nx0 E1
def xRet (f : XE) : XS := fun τ => xThen (f τ) fun t τ1 => .rt t false τ1
theorem qRet {f : FE} {x : XE} (h : QE f x) : QS (sRet f) (xRet x) := fun Z Wr M σ τ E => PostX.thenS (h Z Wr M σ τ E) fun t τ1 v M1 Z1 s E1 r => ⟨v, σ, M1, Z1, rfl, .refl, E1, .refl, fun e => (by cases e), fun _ => r⟩
def xRetF (f : XE) : XS := fun τ => xThen (f τ) fun t τ1 => .rt t true τ1
theorem qRetF {f : FE} {x : XE} (h : QF f x) : QS (sRet f) (xRetF x) := fun Z Wr M σ τ E => PostX.thenS (h Z Wr M σ τ E) fun t τ1 v M1 Z1 s E1 r => ⟨v, σ, M1, Z1, rfl, .refl, E1, .refl, fun _ => r, fun e => (by cases e)⟩
def xRetN : XS := fun τ => .rt .non false τ
theorem qRetN : QS sRetN xRetN := fun Z Wr M σ τ E => ⟨.non, σ, M, Z, rfl, .refl, E, .refl, fun e => (by cases e), fun _ => by unfold Dn; rfl⟩
/-- names dropped -/
theorem En.drop (E : En Z Wr M σ τ) (hl : σ'.length = σ.length) (hl' : τ'.length = τ.length) (h : ∀ (i : Nat) s, τ'[i]? = some (some s) → τ[i]? = some (some s) ∧ σ'[i]? = σ[i]?) : En Z Wr M σ' τ' where
  lt := E.lt
  fr := E.fr
  len := by rw [hl, hl', E.len]
  on := fun i s e => by
    obtain ⟨e1, e2⟩ := h i s e
    obtain ⟨v, e3, r⟩ := E.on i s e1
    exact ⟨v, e2.trans e3, r⟩
  dis := fun i j s t k n e1 e2 h1 h2 q1 q2 => by
    obtain ⟨e1, f1⟩ := h i s e1
    obtain ⟨e2, f2⟩ := h j t e2
    exact E.dis i j s t k n e1 e2 h1 h2 (f1.symm.trans q1) (f2.symm.trans q2)
def xRetV (i : Nat) : XS := fun τ => match τ[i]? with
  | some (some (.sh t)) => .rt t false τ
  | some (some (.ow t)) => .rt t true (τ.set i none)
  | _ => .bad
theorem qRetV (i : Nat) : QS (sRet (eV i)) (xRetV i) := fun Z Wr M σ τ E => by
  unfold xRetV
  split
  · rename_i t e
    obtain ⟨v, e1, r⟩ := E.on i _ e
    have : sRet (eV i) σ M = .rt v M := by unfold sRet eV; rw [e1]; rfl
    rw [this]
    exact ⟨v, σ, M, Z, rfl, .refl, E, .refl, fun e => (by cases e), fun _ => r⟩
  · rename_i t e
    obtain ⟨v, e1, k, o, q1, q2, q3, q4, q5⟩ := E.on i _ e
    subst q1
    have : sRet (eV i) σ M = .rt (.ref k) M := by unfold sRet eV; rw [e1]; rfl
    rw [this]
    have hi : i < τ.length := (List.getElem?_eq_some_iff.mp e).1
    have ne : ∀ (j : Nat) s, (τ.set i none)[j]? = some (some s) → j ≠ i ∧ τ[j]? = some (some s) := fun j s ej => by
      by_cases c : j = i
      · subst c
        rw [List.getElem?_set_self hi] at ej
        cases ej
      · rw [List.getElem?_set_ne (Ne.symm c)] at ej; exact ⟨c, ej⟩
    refine ⟨_, σ, M, Z, rfl, .refl, E.drop rfl (by rw [List.length_set]) fun j s ej => ⟨(ne j s ej).2, rfl⟩, fun j => ⟨?_, fun _ => rfl⟩, fun _ => ⟨k, o, rfl, q3, q2, q4, q5, fun j s ej hs e3 => ?_⟩, fun e => (by cases e)⟩
    · by_cases c : j = i
      · subst c
        rw [List.getElem?_set_self hi, e]
        rfl
      · rw [List.getElem?_set_ne (Ne.symm c)]
    · obtain ⟨c, ej⟩ := ne j s ej
      exact E.dis i j _ _ _ (Ne.symm c) e ej rfl hs e1 e3
  · exact True.intro
def xSIf (t : XT) (f g : XS) : XS := fun τ => xThen (t τ) fun b τ1 => if b = true then f τ1 else g τ1
theorem qSIf {t : FT} {f g : FS} {z : XT} {x y : XS} (h : QT t z) (h1 : QS f x) (h2 : QS g y) : QS (sIf t f g) (xSIf z x y) := fun Z Wr M σ τ E => PostX.thenS (h Z Wr M σ τ E) fun b τ1 v M1 Z1 s E1 r => by
  cases r
  cases b with
  | true => exact h1 _ _ _ _ _ E1
  | false => exact h2 _ _ _ _ _ E1
/-! assignments -/
abbrev XPut := XV → XSt → Option XSt
def QP (put : Put) (x : XPut) : Prop := ∀ Z Wr M σ τ t v τ', En Z Wr M σ τ → Dn Z M t v → x t τ = some τ' → ∃ l, put v M = some l ∧ En Z Wr M (putsE σ l) τ' ∧ PinS σ τ (putsE σ l) τ'
def setN (i : Nat) (s : Slot) (τ : XSt) : Option XSt := if i < τ.length ∧ muO τ[i]? = false then some (τ.set i (some s)) else none
theorem muO_set {i j : Nat} {s : Option Slot} (c : i < τ.length) (h : muO (some s) = muO τ[i]?) : muO (τ.set i s)[j]? = muO τ[j]? := by
  by_cases q : j = i
  · subst q; rw [List.getElem?_set_self c]; exact h
  · rw [List.getElem?_set_ne (Ne.symm q)]
theorem En.setSh (E : En Z Wr M σ τ) {i : Nat} {t : XV} {v : EV} (d : Dn Z M t v) (e : setN i (.sh t) τ = some τ') : En Z Wr M (σ.set i (some v)) τ' ∧ PinS σ τ (σ.set i (some v)) τ' := by
  unfold setN at e
  split at e
  · rename_i c
    cases e
    refine ⟨⟨E.lt, E.fr, by rw [List.length_set, List.length_set]; exact E.len, fun j s ej => ?_, fun j j' s s' k n ej ej' h1 h2 => ?_⟩, fun j => ⟨muO_set c.1 (by rw [c.2]; rfl), fun h => ?_⟩⟩
    · by_cases q : j = i
      · subst q
        rw [List.getElem?_set_self c.1] at ej
        cases ej
        exact ⟨v, List.getElem?_set_self (by rw [E.len]; exact c.1), d⟩
      · rw [List.getElem?_set_ne (Ne.symm q)] at ej
        rw [List.getElem?_set_ne (Ne.symm q)]
        exact E.on j s ej
    · have ne : ∀ (m : Nat) u, (τ.set i (some (.sh t)))[m]? = some (some u) → u.own = true → m ≠ i ∧ τ[m]? = some (some u) := fun m u em hu => by
        by_cases q : m = i
        · subst q
          rw [List.getElem?_set_self c.1] at em
          cases em
          cases hu
        · rw [List.getElem?_set_ne (Ne.symm q)] at em; exact ⟨q, em⟩
      obtain ⟨n1, ej⟩ := ne j s ej h1
      obtain ⟨n2, ej'⟩ := ne j' s' ej' h2
      rw [List.getElem?_set_ne (Ne.symm n1), List.getElem?_set_ne (Ne.symm n2)]
      exact E.dis j j' s s' k n ej ej' h1 h2
    · by_cases q : j = i
      · subst q; rw [c.2] at h; cases h
      · rw [List.getElem?_set_ne (Ne.symm q)]
  · cases e
theorem En.setOw (E : En Z Wr M σ τ) {i : Nat} {t : XV} {v : EV} (d : RF Z Wr M σ τ t v) (e : setN i (.ow t) τ = some τ') : En Z Wr M (σ.set i (some v)) τ' ∧ PinS σ τ (σ.set i (some v)) τ' := by
  obtain ⟨l, o, q1, q2, q3, q4, q5, q6⟩ := d
  unfold setN at e
  split at e
  · rename_i c
    cases e
    have ne : ∀ (m : Nat) u, (τ.set i (some (.ow t)))[m]? = some (some u) → (i = m ∧ u = .ow t) ∨ (m ≠ i ∧ τ[m]? = some (some u)) := fun m u em => by
      by_cases q : m = i
      · subst q
        rw [List.getElem?_set_self c.1] at em
        cases em
        exact .inl ⟨rfl, rfl⟩
      · rw [List.getElem?_set_ne (Ne.symm q)] at em; exact .inr ⟨q, em⟩
    have si : (σ.set i (some v))[i]? = some (some v) := List.getElem?_set_self (by rw [E.len]; exact c.1)
    refine ⟨⟨E.lt, E.fr, by rw [List.length_set, List.length_set]; exact E.len, fun j s ej => ?_, fun j j' s s' k n ej ej' h1 h2 => ?_⟩, fun j => ⟨muO_set c.1 (by rw [c.2]; rfl), fun h => ?_⟩⟩
    · rcases ne j s ej with ⟨rfl, rfl⟩ | ⟨q, ej⟩
      · exact ⟨v, si, l, o, q1, q3, q2, q4, q5⟩
      · rw [List.getElem?_set_ne (Ne.symm q)]
        exact E.on j s ej
    · rcases ne j s ej with ⟨rfl, rfl⟩ | ⟨n1, ej⟩
      · rcases ne j' s' ej' with ⟨rfl, rfl⟩ | ⟨n2, ej'⟩
        · exact (n rfl).elim
        · rw [si, List.getElem?_set_ne (Ne.symm n2), q1]
          intro z
          cases z
          exact q6 j' s' ej' h2
      · rcases ne j' s' ej' with ⟨rfl, rfl⟩ | ⟨n2, ej'⟩
        · rw [si, List.getElem?_set_ne (Ne.symm n1), q1]
          intro z w
          cases w
          exact q6 j s ej h1 z
        · rw [List.getElem?_set_ne (Ne.symm n1), List.getElem?_set_ne (Ne.symm n2)]
          exact E.dis j j' s s' k n ej ej' h1 h2
    · by_cases q : j = i
      · subst q; rw [c.2] at h; cases h
      · rw [List.getElem?_set_ne (Ne.symm q)]
  · cases e
def xpN (i : Nat) : XPut := fun t τ => setN i (.sh t) τ
theorem qpN (i : Nat) : QP (pN i) (xpN i) := fun Z Wr M σ τ t v τ' E d e => ⟨_, rfl, E.setSh d e⟩
def putsX : List Nat → List XV → XSt → Option XSt
  | [], [], τ => some τ
  | i :: is, t :: ts, τ => (setN i (.sh t) τ).bind fun τ1 => putsX is ts τ1
  | _, _, _ => none
theorem putsX_ok : ∀ (is : List Nat) (ts : List XV) (vs : List EV) (σ : StE) (τ τ' : XSt), En Z Wr M σ τ → Dns Z M ts vs → putsX is ts τ = some τ' → ∃ l, zipN is vs = some l ∧ En Z Wr M (putsE σ l) τ' ∧ PinS σ τ (putsE σ l) τ'
  | [], [], vs, σ, τ, τ', E, d, e => by
    unfold Dns at d
    subst d
    cases e
    exact ⟨[], rfl, E, .refl⟩
  | i :: is, t :: ts, vs, σ, τ, τ', E, d, e => by
    unfold Dns at d
    obtain ⟨x, r, q, d1, d2⟩ := d
    subst q
    unfold putsX at e
    cases q : setN i (.sh t) τ with
    | none => rw [q] at e; cases e
    | some τ1 =>
      rw [q] at e
      obtain ⟨E1, p1⟩ := E.setSh d1 q
      obtain ⟨l, z, E2, p2⟩ := putsX_ok is ts r _ τ1 τ' E1 d2 e
      exact ⟨(i, x) :: l, by unfold zipN; rw [z]; rfl, E2, p1.trans p2⟩
  | [], _ :: _, _, _, _, _, _, _, e => by cases e
  | _ :: _, [], _, _, _, _, _, _, e => by cases e
def asSeq : XV → Option (List XV)
  | .lst ts => some ts
  | .tup ts => some ts
  | _ => none
theorem getS_dn {t : XV} {v : EV} {ts : List XV} (d : Dn1 Z M t v) (e : asSeq t = some ts) : ∃ xs, getS M v = some xs ∧ Dns Z M ts xs := by
  cases t <;> cases e
  · have d : Dn Z M (.tup ts) v := d
    unfold Dn at d
    obtain ⟨xs, q, h⟩ := d
    subst q
    exact ⟨xs, rfl, h⟩
  · obtain ⟨k, q, xs, h1, h2⟩ := d
    subst q
    exact ⟨xs, by show getL M (.ref k) = _; unfold getL; simp only [h1], h2⟩
def xpT (is : List Nat) : XPut := fun t τ => (asSeq t).bind fun ts => putsX is ts τ
theorem qpT (is : List Nat) : QP (pT is) (xpT is) := fun Z Wr M σ τ t v τ' E d e => by
  unfold xpT at e
  cases q : asSeq t with
  | none => rw [q] at e; cases e
  | some ts =>
    rw [q] at e
    obtain ⟨xs, h1, h2⟩ := getS_dn d.one q
    obtain ⟨l, z, r⟩ := putsX_ok is ts xs σ τ τ' E h2 e
    exact ⟨l, by unfold pT; rw [h1]; exact z, r⟩
def xPut (p : XPut) (f : XE) : XS := fun τ => xThen (f τ) fun t τ1 => match p t τ1 with
  | some τ2 => .nx τ2
  | none => .bad
theorem qPut {p : Put} {f : FE} {y : XPut} {x : XE} (hp : QP p y) (h : QE f x) : QS (sPut p f) (xPut y x) := fun Z Wr M σ τ E => by
  refine PostX.thenS (h Z Wr M σ τ E) fun t τ1 v M1 Z1 s E1 r => ?_
  cases q : y t τ1 with
  | none => exact True.intro
  | some τ2 =>
    obtain ⟨l, e, E2, p⟩ := hp _ _ _ _ _ _ _ _ E1 r q
    simp only [e]
    exact ⟨_, _, _, rfl, .refl, E2, p⟩
def xPutF (i : Nat) (f : XE) : XS := fun τ => xThen (f τ) fun t τ1 => match setN i (.ow t) τ1 with
  | some τ2 => .nx τ2
  | none => .bad
theorem qPutF {i : Nat} {f : FE} {x : XE} (h : QF f x) : QS (sPut (pN i) f) (xPutF i x) := fun Z Wr M σ τ E => by
  refine PostX.thenS (h Z Wr M σ τ E) fun t τ1 v M1 Z1 s E1 r => ?_
  cases q : setN i (.ow t) τ1 with
  | none => exact True.intro
  | some τ2 =>
    obtain ⟨E2, p⟩ := E1.setOw r q
    exact ⟨_, _, _, rfl, .refl, E2, p⟩
def xPar (is : List Nat) (g : XA) : XS := fun τ => xThen (g τ) fun ts τ1 => match putsX is ts τ1 with
  | some τ2 => .nx τ2
  | none => .bad
theorem qPar {is : List Nat} {g : FA} {y : XA} (h : QA g y) : QS (sPar is g) (xPar is y) := fun Z Wr M σ τ E => by
  refine PostX.thenS (h Z Wr M σ τ E) fun t τ1 v M1 Z1 s E1 r => ?_
  cases q : putsX is t τ1 with
  | none => exact True.intro
  | some τ2 =>
    obtain ⟨l, e, E2, p⟩ := putsX_ok is t v σ τ1 τ2 E1 r q
    simp only [e]
    exact ⟨_, _, _, rfl, .refl, E2, p⟩
/-! what is walked -/
def GdR (Z Wr : Nat → Prop) (M : Mem) : Guard → Prop
  | none => True
  | some (k, o) => M[k]? = some o ∧ (Z k ∨ ¬ Wr k)
def RI : RelX (List XV) (List EV × Guard) := fun Z Wr M σ τ ts v => Dns Z M ts v.1 ∧ GdR Z Wr M v.2
abbrev XI := XSt → XR (List XV)
def QI (f : FI) (x : XI) : Prop := ∀ Z Wr M σ τ, En Z Wr M σ τ → PostX RI Z Wr M σ τ (x τ) (f σ M)
theorem GdR.ok {gd : Guard} (h : GdR Z Wr M gd) : okG gd M := by
  cases gd with
  | none => exact True.intro
  | some p => exact h.1
theorem GdR.step {gd : Guard} (h : GdR Z Wr M gd) (s : Stp Z Wr M Z' M') : GdR Z' Wr M' gd := by
  cases gd with
  | none => exact True.intro
  | some p => exact ⟨(s.keep _ (List.getElem?_eq_some_iff.mp h.1).1 h.2).trans h.1, h.2.imp (s.sub _) id⟩
def ofI (r : Option (List XV)) (τ : XSt) : XR (List XV) := match r with
  | some t => .ok t τ
  | none => .bad
def xSeqE (f : XE) : XI := fun τ => (f τ).bind fun t τ1 => ofI (asSeq t) τ1
def iterV (v : EV) (M : Mem) : Res (List EV × Guard) := match v with
  | .tup xs => .ok (xs, none) M
  | .ref k => match M[k]? with
    | some (.lst xs) => .ok (xs, some (k, .lst xs)) M
    | _ => .bad
  | _ => .bad
theorem iter_dn (E : En Z Wr M σ τ) {t : XV} {v : EV} {ts : List XV} (d : Dn1 Z M t v) (h : ∀ k, v = .ref k → Z k ∨ ¬ Wr k) (e : asSeq t = some ts) : PostX RI Z Wr M σ τ (.ok ts τ) (iterV v M) := by
  cases t <;> cases e
  · have d' : Dn Z M (.tup ts) v := d
    unfold Dn at d'
    obtain ⟨xs, q, d'⟩ := d'
    subst q
    exact PostX.ok E ⟨d', True.intro⟩
  · obtain ⟨k, q, xs, h1, h2⟩ := d
    subst q
    unfold iterV
    simp only [h1]
    exact PostX.ok E ⟨h2, h1, h k rfl⟩
theorem Dn.ref_Z {t : XV} {k : Nat} (d : Dn Z M t (.ref k)) : Z k := by
  cases t <;> unfold Dn at d
  all_goals first
    | (cases d; done)
    | (obtain ⟨xs, q, _⟩ := d; cases q; done)
    | (obtain ⟨l, q, z, _⟩ := d; cases q; exact z)
theorem qSeqE {f : FE} {x : XE} (h : QE f x) : QI (iSeq f) (xSeqE x) := fun Z Wr M σ τ E => by
  refine PostX.bind (k := iterV) (h Z Wr M σ τ E) fun t τ1 v M1 Z1 s E1 r => ?_
  cases q : asSeq t with
  | none => exact True.intro
  | some ts => exact iter_dn E1 (Dn.one r) (fun k e => .inl (by subst e; exact Dn.ref_Z r)) q
/-- a name lent is walked as it is -/
def xSeqN (i : Nat) : XI := fun τ => match τ[i]? with
  | some (some (.bo t)) => ofI (asSeq t) τ
  | _ => xSeqE (xV i) τ
theorem qSeqN (i : Nat) : QI (iSeq (eV i)) (xSeqN i) := fun Z Wr M σ τ E => by
  unfold xSeqN
  split
  · rename_i t e
    cases q : asSeq t with
    | none => exact True.intro
    | some ts =>
      obtain ⟨v, e1, r⟩ := E.on i _ e
      have : iSeq (eV i) σ M = iterV v M := by unfold iSeq eV; rw [e1]; rfl
      rw [this]
      exact iter_dn E r.1 (fun k e => .inr (r.2 k e).1) q
  · exact qSeqE (qV i) Z Wr M σ τ E
def rngX (i : Int) (n : Nat) : List XV := (List.range n).map fun (k : Nat) => XV.int (i + (k : Int))
theorem Dns.map {γ : Type} {f : γ → XV} {g : γ → EV} : ∀ {l : List γ}, (∀ x ∈ l, Dn Z M (f x) (g x)) → Dns Z M (l.map f) (l.map g)
  | [], _ => Dns.nil
  | x :: l, h => .cons (h x List.mem_cons_self) (Dns.map fun y hy => h y (List.mem_cons_of_mem _ hy))
theorem dns_rng {i : Int} {n : Nat} : Dns Z M (rngX i n) (rng i n) := Dns.map fun _ _ => by unfold Dn; rfl
def asInt : XV → Option Int
  | .int i => some i
  | _ => none
theorem asInt_eq {t : XV} {i : Int} (h : asInt t = some i) : t = .int i := by
  cases t <;> cases h
  rfl
noncomputable def r1V (v : EV) (M1 : Mem) : Res (List EV × Guard) := match as1I [v] with
  | some j => if In62 j then .ok (rng 0 j.toNat, none) M1 else .bad
  | none => .bad
theorem iR1_one {f : FE} : iR1 (aCons f aNil) σ M = (f σ M).bind r1V := by
  unfold iR1 aCons aNil
  cases f σ M with
  | err x M2 => rfl
  | bad => rfl
  | ok w M2 =>
    simp only [Res.bind, r1V]
    all_goals (
      cases q : as1I [w] with
      | none => rfl
      | some p => by_cases c : In62 p <;> simp [c])
noncomputable def r2V (v w : EV) (M1 : Mem) : Res (List EV × Guard) := match as2I [v, w] with
  | some p => if In62 p.1 ∧ In62 p.2 then .ok (rng p.1 (p.2 - p.1).toNat, none) M1 else .bad
  | none => .bad
theorem iR2_two {f g : FE} : iR2 (aCons f (aCons g aNil)) σ M = (f σ M).bind fun v M1 => (g σ M1).bind fun w M2 => r2V v w M2 := by
  unfold iR2 aCons aNil
  cases f σ M with
  | err x M1 => rfl
  | bad => rfl
  | ok v M1 =>
    simp only [Res.bind]
    cases g σ M1 with
    | err x M2 => rfl
    | bad => rfl
    | ok w M2 =>
      simp only [Res.bind, r2V]
      all_goals (
        cases q : as2I [v, w] with
        | none => rfl
        | some p => by_cases c : In62 p.1 ∧ In62 p.2 <;> simp [c])
noncomputable def xR1 (f : XE) : XI := fun τ => (f τ).bind fun t τ1 => match asInt t with
  | some j => if In62 j then .ok (rngX 0 j.toNat) τ1 else .bad
  | none => .bad
theorem qR1 {f : FE} {x : XE} (h : QE f x) : QI (iR1 (aCons f aNil)) (xR1 x) := fun Z Wr M σ τ E => by
  rw [iR1_one]
  refine PostX.bind (h Z Wr M σ τ E) fun t τ1 v M1 Z1 s E1 r => ?_
  cases q : asInt t with
  | none => exact True.intro
  | some j =>
    have := asInt_eq q
    subst this
    have r : Dn Z1 M1 (.int j) v := r
    unfold Dn at r
    subst r
    dsimp only [as1I, r1V]
    split
    · exact PostX.ok E1 ⟨dns_rng, True.intro⟩
    · exact True.intro
noncomputable def xR2 (f g : XE) : XI := fun τ => (f τ).bind fun t τ1 => (g τ1).bind fun s τ2 => match asInt t, asInt s with
  | some i, some j => if In62 i ∧ In62 j then .ok (rngX i (j - i).toNat) τ2 else .bad
  | _, _ => .bad
theorem qR2 {f g : FE} {x y : XE} (h : QE f x) (h2 : QE g y) : QI (iR2 (aCons f (aCons g aNil))) (xR2 x y) := fun Z Wr M σ τ E => by
  rw [iR2_two]
  refine PostX.bind (h Z Wr M σ τ E) fun t τ1 v M1 Z1 s E1 r => PostX.bind (h2 Z1 Wr M1 σ τ1 E1) fun t2 τ2 w M2 Z2 s2 E2 r2 => ?_
  cases q : asInt t with
  | none => exact True.intro
  | some i =>
    cases q2 : asInt t2 with
    | none => exact True.intro
    | some j =>
      have := asInt_eq q
      subst this
      have := asInt_eq q2
      subst this
      have r : Dn Z1 M1 (.int i) v := r
      unfold Dn at r
      subst r
      have r2 : Dn Z2 M2 (.int j) w := r2
      unfold Dn at r2
      subst r2
      dsimp only [as2I, r2V]
      split
      · exact PostX.ok E2 ⟨dns_rng, True.intro⟩
      · exact True.intro
def asStr : XV → Option Str
  | .str i => some i
  | _ => none
theorem asStr_eq {t : XV} {i : Str} (h : asStr t = some i) : t = .str i := by
  cases t <;> cases h
  rfl
def charsX (x : Str) : List XV := x.cps.toList.map fun c => .str ⟨#[c]⟩
def xStr (f : XE) : XI := fun τ => (f τ).bind fun t τ1 => match asStr t with
  | some x => .ok (charsX x) τ1
  | none => .bad
theorem qIStr {f : FE} {x : XE} (h : QE f x) : QI (iStr f) (xStr x) := fun Z Wr M σ τ E => by
  refine PostX.bind (h Z Wr M σ τ E) fun t τ1 v M1 Z1 s E1 r => ?_
  cases q : asStr t with
  | none => exact True.intro
  | some j =>
    have := asStr_eq q
    subst this
    have r : Dn Z1 M1 (.str j) v := r
    unfold Dn at r
    subst r
    exact PostX.ok E1 ⟨Dns.map fun _ _ => by unfold Dn; rfl, True.intro⟩
/-! loops -/
def xForGo (put : XPut) (body : XS) : List XV → XS
  | [], τ => .nx τ
  | t :: r, τ => match put t τ with
    | none => .bad
    | some τ1 => match body τ1 with
      | .nx τ2 => xForGo put body r τ2
      | .ct τ2 => xForGo put body r τ2
      | .bk τ2 => .nx τ2
      | o => o
theorem qForGo {put : Put} {body : FS} {xp : XPut} {xb : XS} (hp : QP put xp) (hb : QS body xb) {gd : Guard} : ∀ (ts : List XV) (xs : List EV) (Z : Nat → Prop) (M : Mem) (σ : StE) (τ : XSt), En Z Wr M σ τ → Dns Z M ts xs → GdR Z Wr M gd → PostQ Z Wr M σ τ (xForGo xp xb ts τ) (forGo gd put body xs σ M)
  | [], xs, Z, M, σ, τ, E, d, g => by
    unfold Dns at d
    subst d
    unfold forGo xForGo
    rw [if_pos g.ok]
    exact .nx0 E
  | t :: ts, xs, Z, M, σ, τ, E, d, g => by
    unfold Dns at d
    obtain ⟨x, r, q, d1, d2⟩ := d
    subst q
    unfold forGo xForGo
    rw [if_pos g.ok]
    cases q : xp t τ with
    | none => exact True.intro
    | some τ1 =>
      obtain ⟨l, e, E1, p1⟩ := hp _ _ _ _ _ _ _ _ E d1 q
      simp only [e]
      have h := hb _ _ _ _ _ E1
      generalize xb τ1 = rr at h
      cases rr with
      | nx τ2 =>
        obtain ⟨σ2, M2, Z2, e2, s2, E2, p2⟩ := h
        simp only [e2]
        exact (qForGo hp hb ts r Z2 M2 σ2 τ2 E2 (s2.dns d2) (g.step s2)).shift s2 (p1.trans p2)
      | ct τ2 =>
        obtain ⟨σ2, M2, Z2, e2, s2, E2, p2⟩ := h
        simp only [e2]
        exact (qForGo hp hb ts r Z2 M2 σ2 τ2 E2 (s2.dns d2) (g.step s2)).shift s2 (p1.trans p2)
      | bk τ2 =>
        obtain ⟨σ2, M2, Z2, e2, s2, E2, p2⟩ := h
        simp only [e2]
        exact ⟨σ2, M2, Z2, rfl, s2, E2, p1.trans p2⟩
      | rt t2 fr τ2 =>
        obtain ⟨v, σ2, M2, Z2, e2, s2, E2, p2, h⟩ := h
        simp only [e2]
        exact ⟨v, σ2, M2, Z2, rfl, s2, E2, p1.trans p2, h⟩
      | err C fs τ2 =>
        obtain ⟨v, σ2, M2, Z2, e2, s2, E2, p2, h⟩ := h
        simp only [e2]
        exact ⟨v, σ2, M2, Z2, rfl, s2, E2, p1.trans p2, h⟩
      | bad => exact True.intro
def xFor (fi : XI) (put : XPut) (body : XS) : XS := fun τ => xThen (fi τ) fun ts τ1 => xForGo put body ts τ1
theorem qFor {fi : FI} {put : Put} {body : FS} {xi : XI} {xp : XPut} {xb : XS} (hi : QI fi xi) (hp : QP put xp) (hb : QS body xb) : QS (sFor fi put body) (xFor xi xp xb) := fun Z Wr M σ τ E =>
  PostX.thenS (hi Z Wr M σ τ E) fun t τ1 v M1 Z1 s E1 r => qForGo hp hb t v.1 Z1 M1 σ τ1 E1 r.1 r.2
def xWh (c : XT) (body : XS) : Nat → XS
  | 0, _ => .bad
  | n + 1, τ => xThen (c τ) fun b τ1 => if b = true then (match body τ1 with
      | .nx τ2 => xWh c body n τ2
      | .ct τ2 => xWh c body n τ2
      | .bk τ2 => .nx τ2
      | o => o) else .nx τ1
theorem qWh {c : FT} {body : FS} {xc : XT} {xb : XS} (hc : QT c xc) (hb : QS body xb) : ∀ n, QS (whGo c body n) (xWh xc xb n)
  | 0, Z, Wr, M, σ, τ, E => True.intro
  | n + 1, Z, Wr, M, σ, τ, E => by
    unfold whGo xWh
    refine PostX.thenS (hc Z Wr M σ τ E) fun b τ1 v M1 Z1 s E1 r => ?_
    cases r
    cases b with
    | false => exact .nx0 E1
    | true =>
      simp only [if_true]
      have h := hb _ _ _ _ _ E1
      generalize xb τ1 = rr at h
      cases rr with
      | nx τ2 =>
        obtain ⟨σ2, M2, Z2, e2, s2, E2, p2⟩ := h
        simp only [e2]
        exact (qWh hc hb n _ _ _ _ _ E2).shift s2 p2
      | ct τ2 =>
        obtain ⟨σ2, M2, Z2, e2, s2, E2, p2⟩ := h
        simp only [e2]
        exact (qWh hc hb n _ _ _ _ _ E2).shift s2 p2
      | bk τ2 =>
        obtain ⟨σ2, M2, Z2, e2, s2, E2, p2⟩ := h
        simp only [e2]
        exact ⟨σ2, M2, Z2, rfl, s2, E2, p2⟩
      | rt t2 fr τ2 =>
        obtain ⟨v, σ2, M2, Z2, e2, h⟩ := h
        simp only [e2]
        exact ⟨v, σ2, M2, Z2, rfl, h⟩
      | err C fs τ2 =>
        obtain ⟨v, σ2, M2, Z2, e2, h⟩ := h
        simp only [e2]
        exact ⟨v, σ2, M2, Z2, rfl, h⟩
      | bad => exact True.intro
/-! comprehensions -/
def noE {α : Type} : XR α → XR α
  | .err _ _ _ => .bad
  | r => r
theorem PostX.noE {r : XR α} {res : Res β} (h : PostX R Z Wr M σ τ r res) : PostX R Z Wr M σ τ (WS.noE r) (noerr res) := by
  cases r with
  | ok t τ1 => obtain ⟨v, M1, Z1, e, h⟩ := h; subst e; exact ⟨v, M1, Z1, rfl, h⟩
  | err C fs τ1 => exact True.intro
  | bad => exact True.intro
def xwipe (τ : XSt) (own : List Nat) : XSt := match own with
  | [] => τ
  | i :: r => (xwipe τ r).set i none
theorem xwipe_len : ∀ (own : List Nat) (τ : XSt), (xwipe τ own).length = τ.length
  | [], _ => rfl
  | i :: r, τ => by unfold xwipe; rw [List.length_set, xwipe_len r]
theorem wipeE_len : ∀ (own : List Nat) (σ : StE), (wipeE σ own).length = σ.length
  | [], _ => rfl
  | i :: r, τ => by unfold wipeE; rw [List.length_set, wipeE_len r]
theorem xwipe_out : ∀ {own : List Nat} {τ : XSt} {j : Nat}, j ∉ own → (xwipe τ own)[j]? = τ[j]?
  | [], _, _, _ => rfl
  | i :: r, τ, j, h => by
    rw [List.mem_cons, not_or] at h
    unfold xwipe
    rw [List.getElem?_set_ne (Ne.symm h.1), xwipe_out h.2]
theorem wipeE_out : ∀ {own : List Nat} {τ : StE} {j : Nat}, j ∉ own → (wipeE τ own)[j]? = τ[j]?
  | [], _, _, _ => rfl
  | i :: r, τ, j, h => by
    rw [List.mem_cons, not_or] at h
    unfold wipeE
    rw [List.getElem?_set_ne (Ne.symm h.1), wipeE_out h.2]
theorem xwipe_in : ∀ {own : List Nat} {τ : XSt} {j : Nat} {s : Slot}, j ∈ own → (xwipe τ own)[j]? ≠ some (some s)
  | i :: r, τ, j, s, h => by
    unfold xwipe
    by_cases c : j = i
    · subst c
      rw [List.getElem?_set]
      split <;> intro z
      · split at z <;> cases z
      · exact absurd rfl (by assumption)
    · rw [List.getElem?_set_ne (Ne.symm c)]
      exact xwipe_in ((List.mem_cons.mp h).resolve_left c)
theorem putsE_out : ∀ {l : List (Nat × EV)} {σ : StE} {j : Nat}, (∀ p ∈ l, p.1 ≠ j) → (putsE σ l)[j]? = σ[j]?
  | [], _, _, _ => rfl
  | p :: l, σ, j, h => by
    unfold putsE
    rw [putsE_out fun q hq => h q (List.mem_cons_of_mem _ hq), List.getElem?_set_ne (h p List.mem_cons_self)]
theorem putsE_len : ∀ {l : List (Nat × EV)} {σ : StE}, (putsE σ l).length = σ.length
  | [], _ => rfl
  | p :: l, σ => by unfold putsE; rw [putsE_len, List.length_set]
theorem En.rewipe {own : List Nat} (E : En Z Wr M σ1 τ1) (hl : σ.length = σ1.length) (h : ∀ j, j ∉ own → σ[j]? = σ1[j]?) : En Z Wr M σ (xwipe τ1 own) :=
  E.drop hl (xwipe_len _ _) fun i s e => by
    by_cases c : i ∈ own
    · exact absurd e (xwipe_in c)
    · rw [xwipe_out c] at e; exact ⟨e, h i c⟩
theorem pin_wipe {own : List Nat} (h : ∀ i ∈ own, muO τ[i]? = false) : Pin τ (xwipe τ own) := fun i => by
  by_cases c : i ∈ own
  · rw [h i c]
    cases q : (xwipe τ own)[i]? with
    | none => rfl
    | some o =>
      cases o with
      | none => rfl
      | some s => exact absurd q (xwipe_in c)
  · rw [xwipe_out c]
def xEl (t : XT) (e : XE) : XSt → XR (Option XV) := fun τ => (noE (t τ)).bind fun b τ2 => if b = true then (noE (e τ2)).bind fun v τ3 => .ok (some v) τ3 else .ok none τ2
def mEl (t : FT) (e : FE) (σ : StE) (M : Mem) : Res (Option EV) := (noerr (t σ M)).bind fun b M1 => if b = true then (noerr (e σ M1)).bind fun v M2 => .ok (some v) M2 else .ok none M1
def RO1 : RelX (Option XV) (Option EV) := fun Z _ M _ _ t v => match t, v with
  | some t, some v => Dn Z M t v
  | none, none => True
  | _, _ => False
theorem qEl {t : FT} {e : FE} {xt : XT} {xe : XE} (ht : QT t xt) (he : QE e xe) (E : En Z Wr M σ τ) : PostX RO1 Z Wr M σ τ (xEl xt xe τ) (mEl t e σ M) :=
  PostX.bind (ht Z Wr M σ τ E).noE fun b τ1 v M1 Z1 s E1 r => by
    cases r
    cases b with
    | false => exact PostX.ok E1 True.intro
    | true => exact PostX.bind (he _ _ _ _ _ E1).noE fun b τ2 v M2 Z2 s E2 r => PostX.ok E2 r
def addO {α : Type} (acc : List α) : Option α → List α
  | some v => acc ++ [v]
  | none => acc
theorem lcGo_cons {gd : Guard} {put : Put} {t : FT} {e : FE} {σ : StE} {x : EV} {r : List EV} {M : Mem} {acc : List EV} {l : List (Nat × EV)} (h : okG gd M) (hl : put x M = some l) : lcGo gd put t e σ (x :: r) M acc = (mEl t e (putsE σ l) M).bind fun o M2 => lcGo gd put t e σ r M2 (addO acc o) := by
  conv => lhs; unfold lcGo
  rw [if_pos h]
  simp only [hl]
  unfold mEl
  cases noerr (t (putsE σ l) M) with
  | err x M1 => rfl
  | bad => rfl
  | ok b M1 =>
    cases b with
    | false => rfl
    | true =>
      show ((noerr (e (putsE σ l) M1)).bind fun v M2 => lcGo gd put t e σ r M2 (acc ++ [v])) = ((noerr (e (putsE σ l) M1)).bind fun v M2 => .ok (some v) M2).bind _
      cases noerr (e (putsE σ l) M1) <;> rfl
def xLcGo (own : List Nat) (put : XPut) (t : XT) (e : XE) : List XV → XSt → List XV → XR (List XV)
  | [], τ, acc => .ok acc τ
  | x :: r, τ, acc => match put x τ with
    | none => .bad
    | some τ1 => match xEl t e τ1 with
      | .ok o τ2 => xLcGo own put t e r (xwipe τ2 own) (addO acc o)
      | _ => .bad
def NoMu (own : List Nat) (τ : XSt) : Prop := ∀ i ∈ own, muO τ[i]? = false
theorem NoMu.pin {own : List Nat} (h : NoMu own τ) (p : Pin τ τ') : NoMu own τ' := fun i hi => (p i).trans (h i hi)
theorem noErr_el {t : XT} {e : XE} {C : Addr} {fs : Option (List (Str × XV))} : xEl t e τ ≠ .err C fs τ' := by
  unfold xEl
  cases t τ with
  | err _ _ _ => exact fun z => by cases z
  | bad => exact fun z => by cases z
  | ok b τ1 =>
    cases b with
    | false => exact fun z => by cases z
    | true =>
      show (noE (e τ1)).bind _ ≠ _
      cases e τ1 <;> exact fun z => by cases z
theorem qLcGo {own : List Nat} {put : Put} {t : FT} {e : FE} {xp : XPut} {xt : XT} {xe : XE} (hp : QP put xp) (ht : QT t xt) (he : QE e xe) (hin : PutIn put own) {gd : Guard} : ∀ (ts : List XV) (xs : List EV) (acc : List XV) (acc' : List EV) (Z : Nat → Prop) (M : Mem) (σ : StE) (τ : XSt), En Z Wr M σ τ → NoMu own τ → Dns Z M ts xs → Dns Z M acc acc' → GdR Z Wr M gd → PostX RA Z Wr M σ τ (xLcGo own xp xt xe ts τ acc) (lcGo gd put t e σ xs M acc')
  | [], xs, acc, acc', Z, M, σ, τ, E, nm, d, da, g => by
    unfold Dns at d
    subst d
    unfold lcGo xLcGo
    rw [if_pos g.ok]
    exact PostX.ok E da
  | x :: ts, xs, acc, acc', Z, M, σ, τ, E, nm, d, da, g => by
    unfold Dns at d
    obtain ⟨v, r, q, d1, d2⟩ := d
    subst q
    unfold xLcGo
    cases q : xp x τ with
    | none => exact True.intro
    | some τ1 =>
      obtain ⟨l, el, E1, p1⟩ := hp _ _ _ _ _ _ _ _ E d1 q
      rw [lcGo_cons g.ok el]
      have out : ∀ j, j ∉ own → σ[j]? = (putsE σ l)[j]? := fun j hj => (putsE_out fun p hq z => hj (by rw [← z]; exact hin _ _ _ el p hq)).symm
      have p1' : Pin τ τ1 := fun i => (p1 i).1
      have h := qEl ht he E1
      revert h
      dsimp only
      cases q2 : xEl xt xe τ1 with
      | err C fs τ2 => exact absurd q2 noErr_el
      | bad => exact fun _ => True.intro
      | ok o τ2 =>
        rintro ⟨v2, M2, Z2, e2, s2, E2, p2, h⟩
        rw [e2]
        have nm2 := (nm.pin p1').pin p2
        have E3 : En Z2 Wr M2 σ (xwipe τ2 own) := E2.rewipe putsE_len.symm out
        have da2 : Dns Z2 M2 (addO acc o) (addO acc' v2) := by
          cases o <;> cases v2
          · exact s2.dns da
          · exact h.elim
          · exact h.elim
          · exact (s2.dns da).app (.cons h .nil)
        exact (qLcGo hp ht he hin ts r (addO acc o) (addO acc' v2) Z2 M2 σ _ E3 (nm2.pin (pin_wipe nm2)) (s2.dns d2) da2 (g.step s2)).shift s2 ((p1'.trans p2).trans (pin_wipe nm2))
noncomputable def xLc (own : List Nat) (fi : XI) (put : XPut) (t : XT) (e : XE) : XE := fun τ => (fi τ).bind fun ts τ1 => if ts.length ≤ sizeLine ∧ NoMu own τ1 then (match xLcGo own put t e ts (xwipe τ1 own) [] with
  | .ok acc τ2 => if acc.length ≤ sizeLine then .ok (.lst acc) (xwipe τ2 own) else .bad
  | _ => .bad) else .bad
theorem lcGo_noerr {own : List Nat} {p : XPut} {t : XT} {e : XE} {C : Addr} {fs : Option (List (Str × XV))} : ∀ {ts : List XV} {τ : XSt} {acc : List XV}, xLcGo own p t e ts τ acc ≠ .err C fs τ'
  | [], _, _ => fun z => by cases z
  | x :: ts, τ, acc => by
    unfold xLcGo
    cases p x τ with
    | none => exact fun z => by cases z
    | some τ1 =>
      dsimp only
      cases xEl t e τ1 with
      | ok o τ2 => exact lcGo_noerr
      | err _ _ _ => exact fun z => by cases z
      | bad => exact fun z => by cases z
theorem qLc {own : List Nat} {fi : FI} {put : Put} {t : FT} {e : FE} {xi : XI} {xp : XPut} {xt : XT} {xe : XE} (hi : QI fi xi) (hp : QP put xp) (ht : QT t xt) (he : QE e xe) (hin : PutIn put own) : QF (eLc own fi put t e) (xLc own xi xp xt xe) := fun Z Wr M σ τ E => by
  refine PostX.bind (hi Z Wr M σ τ E) fun ts τ1 v M1 Z1 s E1 r => ?_
  split
  · rename_i c
    have c1 : v.1.length ≤ sizeLine := by rw [r.1.len]; exact c.1
    rw [if_pos c1]
    have E2 : En Z1 Wr M1 (wipeE σ own) (xwipe τ1 own) := E1.rewipe (wipeE_len _ _) fun j hj => wipeE_out hj
    have h := qLcGo hp ht he hin ts v.1 [] [] Z1 M1 (wipeE σ own) (xwipe τ1 own) E2 (c.2.pin (pin_wipe c.2)) r.1 .nil r.2
    revert h
    cases q : xLcGo own xp xt xe ts (xwipe τ1 own) [] with
    | err C fs τ2 => exact absurd q lcGo_noerr
    | bad => exact fun _ => True.intro
    | ok acc τ2 =>
      rintro ⟨v2, M2, Z2, e2, s2, E3, p2, h⟩
      rw [e2]
      dsimp only
      split
      · rename_i c2
        have nm2 := (c.2.pin (pin_wipe c.2)).pin p2
        have E4 : En Z2 Wr M2 σ (xwipe τ2 own) := E3.rewipe (wipeE_len _ _).symm fun j hj => (wipeE_out hj).symm
        exact ((okF_lst h c2).post E4).shift s2 (((pin_wipe c.2).trans p2).trans (pin_wipe nm2))
      · exact True.intro
  · exact True.intro
/-! two fors -/
noncomputable def xLc2Go (own vs1 : List Nat) (put : XPut) (t : XT) (fi1 : XI) (put1 : XPut) (t1 : XT) (e : XE) : List XV → XSt → List XV → XR (List XV)
  | [], τ, acc => .ok acc τ
  | x :: r, τ, acc => match put x τ with
    | none => .bad
    | some τ1 => match t τ1 with
      | .ok true τ2 => (match fi1 τ2 with
        | .ok ts τ3 => if acc.length + ts.length ≤ sizeLine then (match xLcGo vs1 put1 t1 e ts (xwipe τ3 vs1) acc with
          | .ok acc2 τ4 => xLc2Go own vs1 put t fi1 put1 t1 e r (xwipe τ4 own) acc2
          | _ => .bad) else .bad
        | _ => .bad)
      | .ok false τ2 => xLc2Go own vs1 put t fi1 put1 t1 e r (xwipe τ2 own) acc
      | _ => .bad
theorem qLc2Go {own vs1 : List Nat} {put put1 : Put} {t t1 : FT} {fi1 : FI} {e : FE} {xp xp1 : XPut} {xt xt1 : XT} {xi1 : XI} {xe : XE} (hp : QP put xp) (ht : QT t xt) (hi1 : QI fi1 xi1) (hp1 : QP put1 xp1) (ht1 : QT t1 xt1) (he : QE e xe) (hin : PutIn put own) (hin1 : PutIn put1 vs1) (hv : ∀ i ∈ vs1, i ∈ own) {gd : Guard} : ∀ (ts : List XV) (xs : List EV) (acc : List XV) (acc' : List EV) (Z : Nat → Prop) (M : Mem) (σ : StE) (τ : XSt), En Z Wr M σ τ → NoMu own τ → Dns Z M ts xs → Dns Z M acc acc' → GdR Z Wr M gd → PostX RA Z Wr M σ τ (xLc2Go own vs1 xp xt xi1 xp1 xt1 xe ts τ acc) (lc2Go gd put t fi1 put1 t1 e σ vs1 xs M acc')
  | [], xs, acc, acc', Z, M, σ, τ, E, nm, d, da, g => by
    unfold Dns at d
    subst d
    unfold lc2Go xLc2Go
    rw [if_pos g.ok]
    exact PostX.ok E da
  | x :: ts, xs, acc, acc', Z, M, σ, τ, E, nm, d, da, g => by
    unfold Dns at d
    obtain ⟨v, r, q, d1, d2⟩ := d
    subst q
    unfold xLc2Go lc2Go
    rw [if_pos g.ok]
    cases q : xp x τ with
    | none => exact True.intro
    | some τ1 =>
      obtain ⟨l, el, E1, p1⟩ := hp _ _ _ _ _ _ _ _ E d1 q
      simp only [el]
      have out : ∀ j, j ∉ own → σ[j]? = (putsE σ l)[j]? := fun j hj => (putsE_out fun p hq z => hj (by rw [← z]; exact hin _ _ _ el p hq)).symm
      have p1' : Pin τ τ1 := fun i => (p1 i).1
      have h := ht _ _ _ _ _ E1
      revert h
      cases q2 : xt τ1 with
      | err C fs τ2 => exact fun _ => True.intro
      | bad => exact fun _ => True.intro
      | ok b τ2 =>
        rintro ⟨b2, M2, Z2, e2, s2, E2, p2, h⟩
        cases h
        rw [e2]
        have nm2 := (nm.pin p1').pin p2
        cases b with
        | false =>
          have E3 : En Z2 Wr M2 σ (xwipe τ2 own) := E2.rewipe putsE_len.symm out
          exact (qLc2Go hp ht hi1 hp1 ht1 he hin hin1 hv ts r acc acc' Z2 M2 σ _ E3 (nm2.pin (pin_wipe nm2)) (s2.dns d2) (s2.dns da) (g.step s2)).shift s2 ((p1'.trans p2).trans (pin_wipe nm2))
        | true =>
          have h := hi1 _ _ _ _ _ E2
          revert h
          dsimp only
          cases q3 : xi1 τ2 with
          | err C fs τ2 => exact fun _ => True.intro
          | bad => exact fun _ => True.intro
          | ok ts1 τ3 =>
            rintro ⟨v3, M3, Z3, e3, s3, E3, p3, h3⟩
            show PostX RA Z Wr M σ τ _ ((noerr (fi1 (putsE σ l) M2)).bind _)
            rw [e3]
            dsimp only
            split
            · rename_i c
              have nm3 := nm2.pin p3
              have nm3' : NoMu vs1 τ3 := fun i hi => nm3 i (hv i hi)
              show PostX RA Z Wr M σ τ _ (if acc'.length + v3.1.length ≤ sizeLine then _ else _)
              rw [if_pos (by rw [da.len, h3.1.len]; exact c)]
              have E4 : En Z3 Wr M3 (wipeE (putsE σ l) vs1) (xwipe τ3 vs1) := E3.rewipe (wipeE_len _ _) fun j hj => wipeE_out hj
              have h := qLcGo hp1 ht1 he hin1 ts1 v3.1 acc acc' Z3 M3 _ _ E4 (nm3'.pin (pin_wipe nm3')) h3.1 (s3.dns (s2.dns da)) h3.2
              revert h
              cases q4 : xLcGo vs1 xp1 xt1 xe ts1 (xwipe τ3 vs1) acc with
              | err C fs τ2 => exact fun _ => True.intro
              | bad => exact fun _ => True.intro
              | ok acc2 τ4 =>
                rintro ⟨v4, M4, Z4, e4, s4, E5, p4, h4⟩
                rw [e4]
                have nm4 : NoMu own τ4 := (nm3.pin (pin_wipe nm3')).pin p4
                have E6 : En Z4 Wr M4 σ (xwipe τ4 own) := E5.rewipe (by rw [wipeE_len, putsE_len]) fun j hj => by rw [wipeE_out fun z => hj (hv j z)]; exact out j hj
                have s24 := (s2.trans s3).trans s4
                exact (qLc2Go hp ht hi1 hp1 ht1 he hin hin1 hv ts r acc2 v4 Z4 M4 σ _ E6 (nm4.pin (pin_wipe nm4)) (s24.dns d2) h4 (g.step s24)).shift s24 (((((p1'.trans p2).trans p3).trans (pin_wipe nm3')).trans p4).trans (pin_wipe nm4))
            · exact True.intro
noncomputable def xLc2 (own vs1 : List Nat) (fi : XI) (put : XPut) (t : XT) (fi1 : XI) (put1 : XPut) (t1 : XT) (e : XE) : XE := fun τ => (fi τ).bind fun ts τ1 => if NoMu own τ1 then (match xLc2Go own vs1 put t fi1 put1 t1 e ts (xwipe τ1 own) [] with
  | .ok acc τ2 => if acc.length ≤ sizeLine then .ok (.lst acc) (xwipe τ2 own) else .bad
  | _ => .bad) else .bad
theorem qLc2 {own vs1 : List Nat} {fi : FI} {put put1 : Put} {t t1 : FT} {fi1 : FI} {e : FE} {xi : XI} {xp xp1 : XPut} {xt xt1 : XT} {xi1 : XI} {xe : XE} (hi : QI fi xi) (hp : QP put xp) (ht : QT t xt) (hi1 : QI fi1 xi1) (hp1 : QP put1 xp1) (ht1 : QT t1 xt1) (he : QE e xe) (hin : PutIn put own) (hin1 : PutIn put1 vs1) (hv : ∀ i ∈ vs1, i ∈ own) : QF (eLc2 own vs1 fi put t fi1 put1 t1 e) (xLc2 own vs1 xi xp xt xi1 xp1 xt1 xe) := fun Z Wr M σ τ E => by
  refine PostX.bind (hi Z Wr M σ τ E) fun ts τ1 v M1 Z1 s E1 r => ?_
  split
  · rename_i c
    have E2 : En Z1 Wr M1 (wipeE σ own) (xwipe τ1 own) := E1.rewipe (wipeE_len _ _) fun j hj => wipeE_out hj
    have h := qLc2Go hp ht hi1 hp1 ht1 he hin hin1 hv ts v.1 [] [] Z1 M1 (wipeE σ own) (xwipe τ1 own) E2 (c.pin (pin_wipe c)) r.1 .nil r.2
    revert h
    cases q : xLc2Go own vs1 xp xt xi1 xp1 xt1 xe ts (xwipe τ1 own) [] with
    | err C fs τ2 => exact fun _ => True.intro
    | bad => exact fun _ => True.intro
    | ok acc τ2 =>
      rintro ⟨v2, M2, Z2, e2, s2, E3, p2, h⟩
      rw [e2]
      dsimp only
      split
      · rename_i c2
        have nm2 := (c.pin (pin_wipe c)).pin p2
        have E4 : En Z2 Wr M2 σ (xwipe τ2 own) := E3.rewipe (wipeE_len _ _).symm fun j hj => (wipeE_out hj).symm
        exact ((okF_lst h c2).post E4).shift s2 (((pin_wipe c).trans p2).trans (pin_wipe nm2))
      · exact True.intro
  · exact True.intro
end
end WS

set_option Elab.async false
set_option linter.all false
set_option maxRecDepth 100000
/-! The tree layer: functions and calls. -/
namespace WS
open PySem PySem.Spec PyProof.Rows L2
open Classical
inductive Md where
  | sh | bo | mu
inductive XFR where
  | ok (t : XV) (fr : Bool) (outs : List XV) | err (C : Addr) (fs : Option (List (Str × XV))) (outs : List XV) | bad
abbrev XFn := List XV → XFR
section
variable (Z : Nat → Prop) (M : Mem)
def ArgR : List Md → List XV → List EV → Prop
  | [], ts, vs => ts = [] ∧ vs = []
  | m :: ms, ts, vs => ∃ t ts' v vs', ts = t :: ts' ∧ vs = v :: vs' ∧ (match m with
      | .sh => Dn Z M t v
      | .bo => Dn1 Z M t v ∧ ∀ k, v = .ref k → k < M.length
      | .mu => ∃ k o, v = .ref k ∧ ¬ Z k ∧ M[k]? = some o ∧ Nd Z M t o) ∧ ArgR ms ts' vs'
def OutR : List Md → List EV → List XV → Prop
  | [], _, outs => outs = []
  | .mu :: ms, vs, outs => ∃ k o t r vs', vs = .ref k :: vs' ∧ outs = t :: r ∧ M[k]? = some o ∧ Nd Z M t o ∧ OutR ms vs' r
  | _ :: ms, vs, outs => OutR ms vs.tail outs
end
def refO : EV → Option Nat
  | .ref k => some k
  | _ => none
def musOf : List Md → List EV → List Nat
  | .mu :: ms, v :: vs => (match refO v with | some k => k :: musOf ms vs | none => musOf ms vs)
  | _ :: ms, _ :: vs => musOf ms vs
  | _, _ => []
def bosOf : List Md → List EV → List Nat
  | .bo :: ms, v :: vs => (match refO v with | some k => k :: bosOf ms vs | none => bosOf ms vs)
  | _ :: ms, _ :: vs => bosOf ms vs
  | _, _ => []
structure FStp (Z : Nat → Prop) (M : Mem) (Z' : Nat → Prop) (M' : Mem) (S : List Nat) : Prop where
  len : M.length ≤ M'.length
  sub : ∀ k, Z k → Z' k
  new : ∀ k, Z' k → Z k ∨ M.length ≤ k
  lt : ∀ k, Z' k → k < M'.length
  keep : ∀ k, k < M.length → k ∉ S → M'[k]? = M[k]?
def FnQ (ms : List Md) (m : Fn) (p : XFn) : Prop := ∀ (Z : Nat → Prop) (M : Mem) (vs : List EV) (ts : List XV), (∀ k, Z k → k < M.length) → ArgR Z M ms ts vs → (musOf ms vs).Nodup → (∀ k ∈ bosOf ms vs, k ∉ musOf ms vs) → match p ts with
  | .ok t fr outs => ∃ v M' Z', m vs M = .ok v M' ∧ FStp Z M Z' M' (musOf ms vs) ∧ OutR Z' M' ms vs outs ∧ (fr = true → ∃ k o, v = .ref k ∧ M.length ≤ k ∧ ¬ Z' k ∧ M'[k]? = some o ∧ Nd Z' M' t o) ∧ (fr = false → Dn Z' M' t v)
  | .err C fs outs => ∃ x M' Z', m vs M = .err x M' ∧ FStp Z M Z' M' (musOf ms vs) ∧ OutR Z' M' ms vs outs ∧ x.cls = C ∧ FsR Z' M' fs x.fs
  | .bad => True
/-! a function from its body -/
def slotOf (m : Md) (t : XV) : Slot := match m with
  | .sh => .sh t
  | .bo => .bo t
  | .mu => .mu t
def slotsOf : List Md → List XV → XSt
  | m :: ms, t :: ts => some (slotOf m t) :: slotsOf ms ts
  | _, _ => []
def outsOf : List Md → XSt → List XV
  | .mu :: ms, s :: τ => (match s with | some s => s.t :: outsOf ms τ | none => outsOf ms τ)
  | _ :: ms, _ :: τ => outsOf ms τ
  | _, _ => []
def xfn (N : Nat) (ms : List Md) (body : XS) : XFn := fun ts => match body (slotsOf ms ts ++ List.replicate (N - ts.length) none) with
  | .rt t fr τ => .ok t fr (outsOf ms τ)
  | .nx τ => .ok .non false (outsOf ms τ)
  | .err C fs τ => .err C fs (outsOf ms τ)
  | _ => .bad
section
variable {Z Z' Wr : Nat → Prop} {M M' : Mem}
theorem ArgR.lens : ∀ {ms : List Md} {ts : List XV} {vs : List EV}, ArgR Z M ms ts vs → ts.length = ms.length ∧ vs.length = ms.length
  | [], _, _, h => by obtain ⟨e1, e2⟩ := h; subst e1 e2; exact ⟨rfl, rfl⟩
  | m :: ms, _, _, h => by
    obtain ⟨t, ts', v, vs', e1, e2, _, h⟩ := h
    subst e1 e2
    obtain ⟨a, b⟩ := h.lens
    exact ⟨by rw [List.length_cons, List.length_cons, a], by rw [List.length_cons, List.length_cons, b]⟩
theorem slotsOf_len : ∀ {ms : List Md} {ts : List XV}, ts.length = ms.length → (slotsOf ms ts).length = ms.length
  | [], ts, h => by cases ts <;> rfl
  | m :: ms, [], h => by cases h
  | m :: ms, t :: ts, h => by
    unfold slotsOf
    rw [List.length_cons, List.length_cons, slotsOf_len (by simpa using h)]
theorem slots_get : ∀ {ms : List Md} {ts : List XV} {vs : List EV} {i : Nat} {s : Option Slot}, ArgR Z M ms ts vs → (slotsOf ms ts)[i]? = some s → ∃ m t v, ms[i]? = some m ∧ s = some (slotOf m t) ∧ vs[i]? = some v ∧ (match m with
      | .sh => Dn Z M t v
      | .bo => Dn1 Z M t v ∧ ∀ k, v = .ref k → k < M.length
      | .mu => ∃ k o, v = .ref k ∧ ¬ Z k ∧ M[k]? = some o ∧ Nd Z M t o)
  | [], _, _, i, s, h, e => by obtain ⟨e1, e2⟩ := h; subst e1 e2; cases e
  | m :: ms, _, _, i, s, h, e => by
    obtain ⟨t, ts', v, vs', e1, e2, c, h⟩ := h
    subst e1 e2
    unfold slotsOf at e
    cases i with
    | zero => cases e; exact ⟨m, t, v, rfl, rfl, rfl, c⟩
    | succ i =>
      obtain ⟨m', t', v', a, b⟩ := slots_get h (i := i) (s := s) (by simpa using e)
      exact ⟨m', t', v', by simpa using a, b⟩
theorem musOf_get : ∀ {ms : List Md} {vs : List EV} {i k : Nat}, ms[i]? = some .mu → vs[i]? = some (.ref k) → k ∈ musOf ms vs
  | [], _, i, k, e, _ => by cases e
  | m :: ms, [], i, k, _, e => by cases e
  | m :: ms, v :: vs, 0, k, e1, e2 => by cases e1; cases e2; exact List.mem_cons_self
  | m :: ms, v :: vs, i + 1, k, e1, e2 => by
    have h := musOf_get (ms := ms) (vs := vs) (i := i) (k := k) (by simpa using e1) (by simpa using e2)
    unfold musOf
    split
    · rename_i h1 h2
      cases h1; cases h2
      split
      · exact List.mem_cons_of_mem _ h
      · exact h
    · rename_i h1 h2
      cases h1; cases h2
      exact h
    · rename_i h1
      exact (h1 _ _ _ _ rfl rfl).elim
theorem bosOf_get : ∀ {ms : List Md} {vs : List EV} {i k : Nat}, ms[i]? = some .bo → vs[i]? = some (.ref k) → k ∈ bosOf ms vs
  | [], _, i, k, e, _ => by cases e
  | m :: ms, [], i, k, _, e => by cases e
  | m :: ms, v :: vs, 0, k, e1, e2 => by cases e1; cases e2; exact List.mem_cons_self
  | m :: ms, v :: vs, i + 1, k, e1, e2 => by
    have h := bosOf_get (ms := ms) (vs := vs) (i := i) (k := k) (by simpa using e1) (by simpa using e2)
    unfold bosOf
    split
    · rename_i h1 h2
      cases h1; cases h2
      split
      · exact List.mem_cons_of_mem _ h
      · exact h
    · rename_i h1 h2
      cases h1; cases h2
      exact h
    · rename_i h1
      exact (h1 _ _ _ _ rfl rfl).elim
theorem mus_nodup : ∀ {ms : List Md} {vs : List EV} {i j k : Nat}, (musOf ms vs).Nodup → ms[i]? = some .mu → ms[j]? = some .mu → vs[i]? = some (.ref k) → vs[j]? = some (.ref k) → i = j
  | [], _, i, _, k, _, e, _, _, _ => by cases e
  | m :: ms, [], i, _, k, _, _, _, e, _ => by cases e
  | m :: ms, v :: vs, 0, 0, k, _, e1, e2, f1, f2 => rfl
  | m :: ms, v :: vs, 0, j + 1, k, nd, e1, e2, f1, f2 => by
    cases e1; cases f1
    have h := musOf_get (ms := ms) (vs := vs) (i := j) (k := k) (by simpa using e2) (by simpa using f2)
    have nd : (k :: musOf ms vs).Nodup := nd
    rw [List.nodup_cons] at nd
    exact (nd.1 h).elim
  | m :: ms, v :: vs, i + 1, 0, k, nd, e1, e2, f1, f2 => by
    cases e2; cases f2
    have h := musOf_get (ms := ms) (vs := vs) (i := i) (k := k) (by simpa using e1) (by simpa using f1)
    have nd : (k :: musOf ms vs).Nodup := nd
    rw [List.nodup_cons] at nd
    exact (nd.1 h).elim
  | m :: ms, v :: vs, i + 1, j + 1, k, nd, e1, e2, f1, f2 => by
    have nd' : (musOf ms vs).Nodup := by
      cases m with
      | mu =>
        unfold musOf at nd
        cases q : refO v with
        | none => rw [q] at nd; exact nd
        | some l => rw [q] at nd; exact (List.nodup_cons.mp nd).2
      | sh => exact nd
      | bo => exact nd
    rw [mus_nodup nd' (i := i) (j := j) (k := k) (by simpa using e1) (by simpa using e2) (by simpa using f1) (by simpa using f2)]
theorem musOf_inv : ∀ {ms : List Md} {vs : List EV} {k : Nat}, k ∈ musOf ms vs → ∃ i : Nat, ms[i]? = some .mu ∧ vs[i]? = some (.ref k)
  | [], vs, k, h => by cases vs <;> cases h
  | m :: ms, [], k, h => by cases m <;> cases h
  | m :: ms, v :: vs, k, h => by
    have lift : (∃ i : Nat, ms[i]? = some .mu ∧ vs[i]? = some (.ref k)) → ∃ i : Nat, (m :: ms)[i]? = some .mu ∧ (v :: vs)[i]? = some (.ref k) := fun ⟨i, a, b⟩ => ⟨i + 1, by simpa using a, by simpa using b⟩
    cases m with
    | mu =>
      unfold musOf at h
      cases q : refO v with
      | none => rw [q] at h; exact lift (musOf_inv h)
      | some l =>
        rw [q] at h
        rcases List.mem_cons.mp h with e | h
        · subst e
          refine ⟨0, rfl, ?_⟩
          cases v <;> cases q
          rfl
        · exact lift (musOf_inv h)
    | sh => exact lift (musOf_inv h)
    | bo => exact lift (musOf_inv h)
theorem outsOf_nil : ∀ {ms : List Md}, outsOf ms [] = []
  | [] => rfl
  | .mu :: _ => rfl
  | .sh :: _ => rfl
  | .bo :: _ => rfl
theorem outR_of : ∀ {ms : List Md} {vs : List EV} {τ : XSt}, (∀ (i : Nat), ms[i]? = some .mu → ∃ k o s, vs[i]? = some (.ref k) ∧ τ[i]? = some (some s) ∧ M[k]? = some o ∧ Nd Z M s.t o) → OutR Z M ms vs (outsOf ms τ)
  | [], vs, τ, h => by unfold OutR outsOf; rfl
  | m :: ms, vs, [], h => by
    have ih : OutR Z M ms vs.tail (outsOf ms []) := outR_of (fun i e => by
      obtain ⟨k, o, s', a, b, c⟩ := h (i + 1) (by simpa using e)
      cases b)
    rw [outsOf_nil] at ih ⊢
    cases m with
    | sh => exact ih
    | bo => exact ih
    | mu => obtain ⟨k, o, s', a, b, c, d⟩ := h 0 rfl; cases b
  | m :: ms, vs, s :: τ, h => by
    have ih : OutR Z M ms vs.tail (outsOf ms τ) := outR_of (fun i e => by
      obtain ⟨k, o, s', a, b, c⟩ := h (i + 1) (by simpa using e)
      refine ⟨k, o, s', ?_, by simpa using b, c⟩
      cases vs with
      | nil => cases a
      | cons v vs => simpa using a)
    cases m with
    | sh => exact ih
    | bo => exact ih
    | mu =>
      obtain ⟨k, o, s', a, b, c, d⟩ := h 0 rfl
      cases b
      cases vs with
      | nil => cases a
      | cons v vs =>
        cases a
        exact ⟨k, o, _, _, vs, rfl, rfl, c, d, ih⟩
/-- the start of a call -/
theorem En.start {ms : List Md} {ts : List XV} {vs : List EV} {N : Nat} (hZ : ∀ k, Z k → k < M.length) (h : ArgR Z M ms ts vs) (nd : (musOf ms vs).Nodup) (hb : ∀ k ∈ bosOf ms vs, k ∉ musOf ms vs) : En Z (fun k => M.length ≤ k ∨ k ∈ musOf ms vs) M (vs.map some ++ List.replicate (N - vs.length) none) (slotsOf ms ts ++ List.replicate (N - ts.length) none) := by
  obtain ⟨l1, l2⟩ := h.lens
  have ls := slotsOf_len l1
  have g : ∀ (i : Nat) (s : Slot), (slotsOf ms ts ++ List.replicate (N - ts.length) none)[i]? = some (some s) → (slotsOf ms ts)[i]? = some (some s) ∧ ∀ v, vs[i]? = some v → (vs.map some ++ List.replicate (N - vs.length) none)[i]? = some (some v) := fun i s e => by
    by_cases c : i < (slotsOf ms ts).length
    · rw [List.getElem?_append_left c] at e
      refine ⟨e, fun v ev => ?_⟩
      rw [List.getElem?_append_left (by rw [List.length_map]; exact (List.getElem?_eq_some_iff.mp ev).1), List.getElem?_map, ev]
      rfl
    · rw [List.getElem?_append_right (Nat.le_of_not_lt c), List.getElem?_replicate] at e
      split at e <;> cases e
  refine ⟨hZ, fun k h => .inl h, by simp only [List.length_append, List.length_map, List.length_replicate]; omega, fun i s e => ?_, fun i j s t k n e1 e2 h1 h2 f1 f2 => ?_⟩
  · obtain ⟨e1, gv⟩ := g i s e
    obtain ⟨m, t, v, a, b, c, d⟩ := slots_get h e1
    cases b
    refine ⟨v, gv v c, ?_⟩
    cases m with
    | sh => exact d
    | bo =>
      refine ⟨d.1, fun k e => ⟨?_, d.2 k e⟩⟩
      subst e
      rintro (q | q)
      · have := d.2 k rfl; omega
      · exact hb k (bosOf_get a c) q
    | mu =>
      obtain ⟨k, o, q1, q2, q3, q4⟩ := d
      subst q1
      exact ⟨k, o, rfl, .inr (musOf_get a c), q2, q3, q4⟩
  · obtain ⟨e1, gv⟩ := g i s e1
    obtain ⟨e2, gw⟩ := g j t e2
    obtain ⟨m, t1, v, a1, b1, c1, d1⟩ := slots_get h e1
    obtain ⟨m', t2, v', a2, b2, c2, d2⟩ := slots_get h e2
    cases b1
    cases b2
    have q1 := gv v c1
    rw [f1] at q1
    cases q1
    have q2 := gw v' c2
    rw [f2] at q2
    cases q2
    cases m <;> cases h1
    cases m' <;> cases h2
    exact n (mus_nodup nd a1 a2 c1 c2)
theorem fn_end {ms : List Md} {ts : List XV} {vs : List EV} {N : Nat} {σ' : StE} {τ' : XSt} (hZ : ∀ k, Z k → k < M.length) (h : ArgR Z M ms ts vs) (s : Stp Z (fun k => M.length ≤ k ∨ k ∈ musOf ms vs) M Z' M') (E : En Z' (fun k => M.length ≤ k ∨ k ∈ musOf ms vs) M' σ' τ') (p : PinS (vs.map some ++ List.replicate (N - vs.length) none) (slotsOf ms ts ++ List.replicate (N - ts.length) none) σ' τ') :
    FStp Z M Z' M' (musOf ms vs) ∧ OutR Z' M' ms vs (outsOf ms τ') ∧ (∀ k ∈ musOf ms vs, ¬ Z' k ∧ ∃ (i : Nat) (s : Slot), τ'[i]? = some (some s) ∧ s.own = true ∧ σ'[i]? = some (some (.ref k))) := by
  obtain ⟨l1, l2⟩ := h.lens
  have ls := slotsOf_len l1
  have at_mu : ∀ (i : Nat), ms[i]? = some .mu → ∃ k o s, vs[i]? = some (.ref k) ∧ τ'[i]? = some (some s) ∧ s.own = true ∧ σ'[i]? = some (some (.ref k)) ∧ ¬ Z' k ∧ M'[k]? = some o ∧ Nd Z' M' s.t o := fun i e => by
    have hi : i < ms.length := (List.getElem?_eq_some_iff.mp e).1
    obtain ⟨x, hx⟩ : ∃ x, (slotsOf ms ts)[i]? = some x := ⟨_, List.getElem?_eq_getElem (by rw [ls]; exact hi)⟩
    obtain ⟨m, t, v, a, b, c, d⟩ := slots_get h hx
    rw [e] at a
    cases a
    obtain ⟨k, o, q1, _⟩ := d
    subst q1 b
    have e1 : (slotsOf ms ts ++ List.replicate (N - ts.length) none)[i]? = some (some (slotOf .mu t)) := by rw [List.getElem?_append_left (by rw [ls]; exact hi)]; exact hx
    have e2 : (vs.map some ++ List.replicate (N - vs.length) none)[i]? = some (some (EV.ref k)) := by rw [List.getElem?_append_left (by rw [List.length_map]; omega), List.getElem?_map, c]; rfl
    obtain ⟨p1, p2⟩ := p i
    have m0 : muO (slotsOf ms ts ++ List.replicate (N - ts.length) none)[i]? = true := by rw [e1]; rfl
    rw [m0] at p1
    have p3 := (p2 m0).trans e2
    cases q : τ'[i]? with
    | none => rw [q] at p1; cases p1
    | some x =>
      cases x with
      | none => rw [q] at p1; cases p1
      | some s =>
        rw [q] at p1
        cases s with
        | mu u =>
          obtain ⟨w, f1, k', o', g1, g2, g3, g4, g5⟩ := E.on i _ q
          rw [p3] at f1
          cases f1
          cases g1
          exact ⟨k, o', .mu u, c, rfl, rfl, p3, g3, g4, g5⟩
        | sh u => cases p1
        | bo u => cases p1
        | ow u => cases p1
  have bad : ∀ k ∈ musOf ms vs, ¬ Z' k ∧ ∃ (i : Nat) (s : Slot), τ'[i]? = some (some s) ∧ s.own = true ∧ σ'[i]? = some (some (.ref k)) := fun k hk => by
    obtain ⟨i, e1, e2⟩ := musOf_inv hk
    obtain ⟨k', o, s, a1, a2, a3, a4, a5, _⟩ := at_mu i e1
    rw [e2] at a1
    cases a1
    exact ⟨a5, i, s, a2, a3, a4⟩
  refine ⟨⟨s.len, s.sub, fun k h => ?_, E.lt, fun k h1 h2 => s.keep k h1 (.inr ?_)⟩, outR_of fun i e => ?_, bad⟩
  · rcases s.new k h with q | q | q
    · exact .inl q
    · exact .inr q
    · exact ((bad k q).1 h).elim
  · rintro (q | q)
    · omega
    · exact h2 q
  · obtain ⟨k', o, s, a1, a2, a3, a4, a5, a6, a7⟩ := at_mu i e
    exact ⟨k', o, s, a1, a2, a6, a7⟩
theorem fnQ_of {ms : List Md} {N : Nat} {b : FS} {x : XS} (h : QS b x) : FnQ ms (fnOf N b) (xfn N ms x) := fun Z M vs ts hZ ha nd hb => by
  have E := En.start (N := N) hZ ha nd hb
  have h := h _ _ _ _ _ E
  unfold xfn fnOf
  generalize x (slotsOf ms ts ++ List.replicate (N - ts.length) none) = r at h
  cases r with
  | bk τ' => exact True.intro
  | ct τ' => exact True.intro
  | bad => exact True.intro
  | nx τ' =>
    obtain ⟨σ', M', Z', e, s, E', p⟩ := h
    obtain ⟨f, o, bad⟩ := fn_end hZ ha s E' p
    rw [e]
    exact ⟨_, M', Z', rfl, f, o, fun e => (by cases e), fun _ => by unfold Dn; rfl⟩
  | rt t fr τ' =>
    obtain ⟨v, σ', M', Z', e, s, E', p, h1, h2⟩ := h
    obtain ⟨f, o, bad⟩ := fn_end hZ ha s E' p
    rw [e]
    refine ⟨_, M', Z', rfl, f, o, fun e => ?_, h2⟩
    obtain ⟨k, ob, q1, q2, q3, q4, q5, q6⟩ := h1 e
    refine ⟨k, ob, q1, ?_, q2, q4, q5⟩
    rcases q3 with q | q
    · exact q
    · obtain ⟨_, i, s', a1, a2, a3⟩ := bad k q
      exact (q6 i s' a1 a2 a3).elim
  | err C fs τ' =>
    obtain ⟨x, σ', M', Z', e, s, E', p, h1, h2⟩ := h
    obtain ⟨f, o, bad⟩ := fn_end hZ ha s E' p
    rw [e]
    exact ⟨_, M', Z', rfl, f, o, h1, h2⟩
/-! calls -/
def varO : BV → Option Nat
  | .val _ => none
  | .var i => some i
def muArg (τ : XSt) (i : Nat) : Option XV := match τ[i]? with
  | some (some s) => if s.own = true then some s.t else none
  | _ => none
theorem muArg_eq {τ : XSt} {i : Nat} {t : XV} (h : muArg τ i = some t) : ∃ s, τ[i]? = some (some s) ∧ s.own = true ∧ s.t = t := by
  unfold muArg at h
  split at h
  · rename_i s e
    split at h
    · rename_i c; cases h; exact ⟨s, e, c, rfl⟩
    · cases h
  · cases h
def getArg (τ : XSt) : Md → BV → Option XV
  | .sh, .val t => some t
  | .sh, .var _ => none
  | .bo, b => resB τ b
  | .mu, .val _ => none
  | .mu, .var i => muArg τ i
def getArgs (τ : XSt) : List Md → List BV → Option (List XV)
  | [], [] => some []
  | m :: ms, b :: bs => match getArg τ m b, getArgs τ ms bs with
    | some t, some ts => some (t :: ts)
    | _, _ => none
  | _, _ => none
def Slot.put (t : XV) : Slot → Slot
  | .ow _ => .ow t
  | .mu _ => .mu t
  | s => s
def updS (τ : XSt) (i : Nat) (t : XV) : XSt := match τ[i]? with
  | some (some s) => τ.set i (some (s.put t))
  | _ => τ
def putOuts (τ : XSt) : List Md → List BV → List XV → XSt
  | .mu :: ms, .var i :: bs, t :: outs => putOuts (updS τ i t) ms bs outs
  | .mu :: ms, _ :: bs, outs => putOuts τ ms bs outs
  | _ :: ms, _ :: bs, outs => putOuts τ ms bs outs
  | _, _, _ => τ
def RBs (Z Wr : Nat → Prop) (M : Mem) (σ : StE) (τ : XSt) : List BV → List EV → Prop
  | [], vs => vs = []
  | b :: bs, vs => ∃ v r, vs = v :: r ∧ RB2 Z Wr M σ τ b v ∧ RBs Z Wr M σ τ bs r
def muVars : List Md → List BV → List Nat
  | .mu :: ms, .var i :: bs => i :: muVars ms bs
  | _ :: ms, _ :: bs => muVars ms bs
  | _, _ => []
section
variable {σ : StE} {τ : XSt}
theorem updS_get {i j : Nat} {t : XV} {s' : Slot} (h : (updS τ i t)[j]? = some (some s')) : (j ≠ i ∧ τ[j]? = some (some s')) ∨ (j = i ∧ ∃ s, τ[i]? = some (some s) ∧ s' = s.put t) := by
  unfold updS at h
  split at h
  · rename_i s e
    have hi : i < τ.length := (List.getElem?_eq_some_iff.mp e).1
    by_cases c : j = i
    · subst c
      rw [List.getElem?_set_self hi] at h
      cases h
      exact .inr ⟨rfl, s, e, rfl⟩
    · rw [List.getElem?_set_ne (Ne.symm c)] at h
      exact .inl ⟨c, h⟩
  · rename_i e
    by_cases c : j = i
    · subst c
      exact (e _ h).elim
    · exact .inl ⟨c, h⟩
theorem updS_len {i : Nat} {t : XV} : (updS τ i t).length = τ.length := by
  unfold updS
  split
  · rw [List.length_set]
  · rfl
theorem updS_mu {i j : Nat} {t : XV} : muO (updS τ i t)[j]? = muO τ[j]? := by
  unfold updS
  split
  · rename_i s e
    exact muO_set (List.getElem?_eq_some_iff.mp e).1 (by rw [e]; cases s <;> rfl)
  · rfl
theorem putOuts_len : ∀ {ms : List Md} {bs : List BV} {outs : List XV} {τ : XSt}, (putOuts τ ms bs outs).length = τ.length
  | [], _, _, τ => by unfold putOuts; rfl
  | .mu :: ms, .var i :: bs, t :: outs, τ => by unfold putOuts; rw [putOuts_len, updS_len]
  | .mu :: ms, .var i :: bs, [], τ => by unfold putOuts; exact putOuts_len
  | .mu :: ms, .val t :: bs, outs, τ => by unfold putOuts; exact putOuts_len
  | .sh :: ms, b :: bs, outs, τ => by unfold putOuts; exact putOuts_len
  | .bo :: ms, b :: bs, outs, τ => by unfold putOuts; exact putOuts_len
  | .mu :: ms, [], _, τ => by unfold putOuts; rfl
  | .sh :: ms, [], _, τ => by unfold putOuts; rfl
  | .bo :: ms, [], _, τ => by unfold putOuts; rfl
theorem putOuts_mu : ∀ {ms : List Md} {bs : List BV} {outs : List XV} {τ : XSt} {j : Nat}, muO (putOuts τ ms bs outs)[j]? = muO τ[j]?
  | [], _, _, τ, j => by unfold putOuts; rfl
  | .mu :: ms, .var i :: bs, t :: outs, τ, j => by unfold putOuts; rw [putOuts_mu, updS_mu]
  | .mu :: ms, .var i :: bs, [], τ, j => by unfold putOuts; exact putOuts_mu
  | .mu :: ms, .val t :: bs, outs, τ, j => by unfold putOuts; exact putOuts_mu
  | .sh :: ms, b :: bs, outs, τ, j => by unfold putOuts; exact putOuts_mu
  | .bo :: ms, b :: bs, outs, τ, j => by unfold putOuts; exact putOuts_mu
  | .mu :: ms, [], _, τ, j => by unfold putOuts; rfl
  | .sh :: ms, [], _, τ, j => by unfold putOuts; rfl
  | .bo :: ms, [], _, τ, j => by unfold putOuts; rfl
theorem RBs.step (s : Stp Z Wr M Z' M') {τ' : XSt} : ∀ {bs : List BV} {vs : List EV}, RBs Z Wr M σ τ bs vs → RBs Z' Wr M' σ τ' bs vs
  | [], _, h => h
  | b :: bs, _, ⟨v, r, e, h1, h2⟩ => ⟨v, r, e, h1.step s, RBs.step s h2⟩
theorem Dn1.ref_or {t : XV} {k : Nat} (d : Dn1 Z M t (.ref k)) : k < M.length ∨ Z k := by
  cases t with
  | lst ts => obtain ⟨l, q, xs, h, _⟩ := d; cases q; exact .inl (List.getElem?_eq_some_iff.mp h).1
  | dic ts => obtain ⟨l, q, xs, h, _⟩ := d; cases q; exact .inl (by rcases h with h | h <;> exact (List.getElem?_eq_some_iff.mp h).1)
  | ins C ts => obtain ⟨l, q, xs, h, _⟩ := d; cases q; exact .inl (List.getElem?_eq_some_iff.mp h).1
  | _ => exact .inr (Dn.ref_Z d)
theorem argR_of (E : En Z Wr M σ τ) : ∀ {ms : List Md} {bs : List BV} {vs : List EV} {ts : List XV}, RBs Z Wr M σ τ bs vs → getArgs τ ms bs = some ts → ArgR Z M ms ts vs
  | [], [], vs, ts, h, e => by unfold RBs at h; subst h; cases e; exact ⟨rfl, rfl⟩
  | [], b :: bs, vs, ts, h, e => by unfold getArgs at e; cases e
  | m :: ms, [], vs, ts, h, e => by unfold getArgs at e; cases e
  | m :: ms, b :: bs, vs, ts, h, e => by
    unfold RBs at h
    obtain ⟨v, r, q, h1, h2⟩ := h
    subst q
    unfold getArgs at e
    cases q1 : getArg τ m b with
    | none => rw [q1] at e; cases e
    | some t =>
      cases q2 : getArgs τ ms bs with
      | none => rw [q1, q2] at e; cases e
      | some ts' =>
        rw [q1, q2] at e
        cases e
        refine ⟨t, ts', v, r, rfl, rfl, ?_, argR_of E h2 q2⟩
        cases m with
        | sh =>
          cases b with
          | val t' => cases q1; exact h1
          | var i => cases q1
        | bo =>
          have d := res_dn E h1 q1
          refine ⟨d, fun k e => ?_⟩
          subst e
          exact d.ref_or.elim id (E.lt k)
        | mu =>
          cases b with
          | val t' => cases q1
          | var i =>
            obtain ⟨s, e, ho, et⟩ := muArg_eq q1
            subst et
            obtain ⟨w, e1, rr⟩ := E.on i s e
            have h1 : σ[i]? = some (some v) := h1
            rw [h1] at e1
            cases e1
            cases s with
            | ow t => obtain ⟨k, o, a1, a2, a3, a4, a5⟩ := rr; exact ⟨k, o, a1, a3, a4, a5⟩
            | mu t => obtain ⟨k, o, a1, a2, a3, a4, a5⟩ := rr; exact ⟨k, o, a1, a3, a4, a5⟩
            | sh t => cases ho
            | bo t => cases ho
/-- a ref handed over to be changed stands under an owned name -/
theorem mus_own (E : En Z Wr M σ τ) : ∀ {ms : List Md} {bs : List BV} {vs : List EV} {ts : List XV} {k : Nat}, RBs Z Wr M σ τ bs vs → getArgs τ ms bs = some ts → k ∈ musOf ms vs → ∃ i s, i ∈ muVars ms bs ∧ τ[i]? = some (some s) ∧ s.own = true ∧ σ[i]? = some (some (.ref k))
  | [], [], vs, ts, k, h, e, hk => by unfold RBs at h; subst h; cases hk
  | [], b :: bs, vs, ts, k, h, e, hk => by unfold getArgs at e; cases e
  | m :: ms, [], vs, ts, k, h, e, hk => by unfold getArgs at e; cases e
  | m :: ms, b :: bs, vs, ts, k, h, e, hk => by
    unfold RBs at h
    obtain ⟨v, r, q, h1, h2⟩ := h
    subst q
    unfold getArgs at e
    cases q1 : getArg τ m b with
    | none => rw [q1] at e; cases e
    | some t =>
      cases q2 : getArgs τ ms bs with
      | none => rw [q1, q2] at e; cases e
      | some ts' =>
        have ih : k ∈ musOf ms r → ∃ i s, i ∈ muVars ms bs ∧ τ[i]? = some (some s) ∧ s.own = true ∧ σ[i]? = some (some (.ref k)) := mus_own E h2 q2
        cases m with
        | sh => exact ih hk
        | bo => exact ih hk
        | mu =>
          cases b with
          | val t' => cases q1
          | var i =>
            obtain ⟨s, es, ho, et⟩ := muArg_eq q1
            have h1 : σ[i]? = some (some v) := h1
            unfold musOf at hk
            cases qv : refO v with
            | none =>
              rw [qv] at hk
              obtain ⟨j, s', a, b⟩ := ih hk
              exact ⟨j, s', List.mem_cons_of_mem _ a, b⟩
            | some l =>
              rw [qv] at hk
              rcases List.mem_cons.mp hk with e | hk
              · subst e
                refine ⟨i, s, List.mem_cons_self, es, ho, ?_⟩
                cases v <;> cases qv
                exact h1
              · obtain ⟨j, s', a, b⟩ := ih hk
                exact ⟨j, s', List.mem_cons_of_mem _ a, b⟩
def varsOf (bs : List BV) : List Nat := bs.filterMap varO
theorem muVars_sub : ∀ {ms : List Md} {bs : List BV} {i : Nat}, i ∈ muVars ms bs → i ∈ varsOf bs
  | [], _, i, h => by unfold muVars at h; cases h
  | m :: ms, [], i, h => by cases m <;> cases h
  | .mu :: ms, .var j :: bs, i, h => by
    unfold muVars at h
    unfold varsOf
    rw [List.filterMap_cons]
    rcases List.mem_cons.mp h with e | h
    · rw [e]; exact List.mem_cons_self
    · exact List.mem_cons_of_mem _ (muVars_sub h)
  | .mu :: ms, .val t :: bs, i, h => by
    unfold varsOf; rw [List.filterMap_cons]; exact muVars_sub (ms := ms) h
  | .sh :: ms, .val t :: bs, i, h => by unfold varsOf; rw [List.filterMap_cons]; exact muVars_sub (ms := ms) h
  | .bo :: ms, .val t :: bs, i, h => by unfold varsOf; rw [List.filterMap_cons]; exact muVars_sub (ms := ms) h
  | .sh :: ms, .var j :: bs, i, h => by unfold varsOf; rw [List.filterMap_cons]; exact List.mem_cons_of_mem _ (muVars_sub (ms := ms) h)
  | .bo :: ms, .var j :: bs, i, h => by unfold varsOf; rw [List.filterMap_cons]; exact List.mem_cons_of_mem _ (muVars_sub (ms := ms) h)
theorem RBs.vars : ∀ {bs : List BV} {vs : List EV} {j : Nat} {v : EV}, RBs Z Wr M σ τ bs vs → vs[j]? = some v → ∃ b, bs[j]? = some b ∧ RB2 Z Wr M σ τ b v
  | [], vs, j, v, h, e => by unfold RBs at h; subst h; cases e
  | b :: bs, vs, j, v, h, e => by
    unfold RBs at h
    obtain ⟨w, r, q, h1, h2⟩ := h
    subst q
    cases j with
    | zero => cases e; exact ⟨b, rfl, h1⟩
    | succ j => obtain ⟨b', a, c⟩ := RBs.vars h2 (j := j) (by simpa using e); exact ⟨b', by simpa using a, c⟩
theorem getArgs_get : ∀ {ms : List Md} {bs : List BV} {ts : List XV} {j : Nat} {m : Md}, getArgs τ ms bs = some ts → ms[j]? = some m → ∃ b t, bs[j]? = some b ∧ getArg τ m b = some t
  | [], _, _, j, m, _, e => by cases e
  | m :: ms, [], ts, j, m', e, _ => by unfold getArgs at e; cases e
  | m :: ms, b :: bs, ts, j, m', e, ej => by
    unfold getArgs at e
    cases q1 : getArg τ m b with
    | none => rw [q1] at e; cases e
    | some t =>
      cases q2 : getArgs τ ms bs with
      | none => rw [q1, q2] at e; cases e
      | some ts' =>
        cases j with
        | zero => cases ej; exact ⟨b, t, rfl, q1⟩
        | succ j => obtain ⟨b', t', a, c⟩ := getArgs_get q2 (j := j) (by simpa using ej); exact ⟨b', t', by simpa using a, c⟩
theorem varsOf_inj : ∀ {bs : List BV} {i j x : Nat}, (varsOf bs).Nodup → bs[i]? = some (.var x) → bs[j]? = some (.var x) → i = j
  | [], i, j, x, _, e, _ => by cases e
  | b :: bs, 0, 0, x, _, _, _ => rfl
  | b :: bs, i + 1, j + 1, x, nd, e1, e2 => by
    have nd' : (varsOf bs).Nodup := by
      unfold varsOf at nd ⊢
      rw [List.filterMap_cons] at nd
      split at nd
      · exact nd
      · exact (List.nodup_cons.mp nd).2
    rw [varsOf_inj nd' (i := i) (j := j) (x := x) (by simpa using e1) (by simpa using e2)]
  | b :: bs, 0, j + 1, x, nd, e1, e2 => by
    cases e1
    have e2 : bs[j]? = some (.var x) := by simpa using e2
    have : x ∈ varsOf bs := List.mem_filterMap.mpr ⟨_, List.mem_of_getElem? e2, rfl⟩
    exact ((List.nodup_cons.mp (show (x :: varsOf bs).Nodup from nd)).1 this).elim
  | b :: bs, i + 1, 0, x, nd, e1, e2 => by
    cases e2
    have e1 : bs[i]? = some (.var x) := by simpa using e1
    have : x ∈ varsOf bs := List.mem_filterMap.mpr ⟨_, List.mem_of_getElem? e1, rfl⟩
    exact ((List.nodup_cons.mp (show (x :: varsOf bs).Nodup from nd)).1 this).elim
theorem musOf_nd : ∀ {ms : List Md} {vs : List EV}, (∀ (i j k : Nat), ms[i]? = some .mu → ms[j]? = some .mu → vs[i]? = some (.ref k) → vs[j]? = some (.ref k) → i = j) → (musOf ms vs).Nodup
  | [], vs, _ => by unfold musOf; exact List.nodup_nil
  | m :: ms, [], _ => by cases m <;> exact List.nodup_nil
  | m :: ms, v :: vs, h => by
    have ih : (musOf ms vs).Nodup := musOf_nd fun i j k a b c d => by
      have := h (i + 1) (j + 1) k (by simpa using a) (by simpa using b) (by simpa using c) (by simpa using d)
      omega
    cases m with
    | sh => exact ih
    | bo => exact ih
    | mu =>
      unfold musOf
      cases q : refO v with
      | none => exact ih
      | some l =>
        rw [List.nodup_cons]
        refine ⟨fun z => ?_, ih⟩
        obtain ⟨j, a, b⟩ := musOf_inv z
        have ev : v = .ref l := by cases v <;> cases q; rfl
        have := h 0 (j + 1) l rfl (by simpa using a) (by rw [ev]; rfl) (by simpa using b)
        omega
theorem bosOf_inv : ∀ {ms : List Md} {vs : List EV} {k : Nat}, k ∈ bosOf ms vs → ∃ i : Nat, ms[i]? = some .bo ∧ vs[i]? = some (.ref k)
  | [], vs, k, h => by cases vs <;> cases h
  | m :: ms, [], k, h => by cases m <;> cases h
  | m :: ms, v :: vs, k, h => by
    have lift : (∃ i : Nat, ms[i]? = some .bo ∧ vs[i]? = some (.ref k)) → ∃ i : Nat, (m :: ms)[i]? = some .bo ∧ (v :: vs)[i]? = some (.ref k) := fun ⟨i, a, b⟩ => ⟨i + 1, by simpa using a, by simpa using b⟩
    cases m with
    | bo =>
      unfold bosOf at h
      cases q : refO v with
      | none => rw [q] at h; exact lift (bosOf_inv h)
      | some l =>
        rw [q] at h
        rcases List.mem_cons.mp h with e | h
        · subst e
          refine ⟨0, rfl, ?_⟩
          cases v <;> cases q
          rfl
        · exact lift (bosOf_inv h)
    | sh => exact lift (bosOf_inv h)
    | mu => exact lift (bosOf_inv h)
theorem args_ok (E : En Z Wr M σ τ) {ms : List Md} {bs : List BV} {vs : List EV} {ts : List XV} (h : RBs Z Wr M σ τ bs vs) (e : getArgs τ ms bs = some ts) (nd : (varsOf bs).Nodup) : (musOf ms vs).Nodup ∧ ∀ k ∈ bosOf ms vs, k ∉ musOf ms vs := by
  have at_mu : ∀ (j k : Nat), ms[j]? = some .mu → vs[j]? = some (.ref k) → ∃ i s, bs[j]? = some (.var i) ∧ τ[i]? = some (some s) ∧ s.own = true ∧ σ[i]? = some (some (.ref k)) := fun j k a b => by
    obtain ⟨b1, t, c, d⟩ := getArgs_get e a
    obtain ⟨b2, c2, d2⟩ := h.vars b
    rw [c] at c2
    cases c2
    cases b1 with
    | val t' => cases d
    | var i =>
      obtain ⟨s, es, ho, et⟩ := muArg_eq d
      exact ⟨i, s, c, es, ho, d2⟩
  refine ⟨musOf_nd fun i j k a b c d => ?_, fun k hk hm => ?_⟩
  · obtain ⟨x, s, a1, a2, a3, a4⟩ := at_mu i k a c
    obtain ⟨y, s', b1, b2, b3, b4⟩ := at_mu j k b d
    by_cases q : x = y
    · subst q; exact varsOf_inj nd a1 b1
    · exact (E.dis x y _ _ _ q a2 b2 a3 b3 a4 b4).elim
  · obtain ⟨i, a, b⟩ := bosOf_inv hk
    obtain ⟨j, c, d⟩ := musOf_inv hm
    obtain ⟨y, s', b1, b2, b3, b4⟩ := at_mu j k c d
    obtain ⟨bb, t, c1, d1⟩ := getArgs_get e a
    obtain ⟨bb2, c2, d2⟩ := h.vars b
    rw [c1] at c2
    cases c2
    obtain ⟨w, f1, rr⟩ := E.on y _ b2
    rw [b4] at f1
    cases f1
    have nz : Wr k ∧ ¬ Z k := by
      cases s' with
      | ow t => obtain ⟨l, o, q1, q2, q3, _⟩ := rr; cases q1; exact ⟨q2, q3⟩
      | mu t => obtain ⟨l, o, q1, q2, q3, _⟩ := rr; cases q1; exact ⟨q2, q3⟩
      | sh t => cases b3
      | bo t => cases b3
    cases bb with
    | val t' => exact nz.2 (Dn.ref_Z d2)
    | var x =>
      by_cases q : x = y
      · subst q
        have := varsOf_inj nd c1 b1
        subst this
        rw [a] at c
        cases c
      · have d1 : resB τ (.var x) = some t := d1
        unfold resB at d1
        dsimp only at d1
        split at d1
        · rename_i s es
          obtain ⟨w, g1, rr⟩ := E.on x s es
          have d2 : σ[x]? = some (some (.ref k)) := d2
          rw [d2] at g1
          cases g1
          cases s with
          | ow t => exact E.dis x y _ _ _ q es b2 rfl b3 d2 b4
          | mu t => exact E.dis x y _ _ _ q es b2 rfl b3 d2 b4
          | sh t => exact nz.2 (Dn.ref_Z rr)
          | bo t => exact (rr.2 k rfl).1 nz.1
        · cases d1
theorem putOuts_get : ∀ {ms : List Md} {bs : List BV} {vs : List EV} {outs : List XV} {τ : XSt}, (∀ j : Nat, ms[j]? = some .mu → ∃ i, bs[j]? = some (.var i)) → (∀ (j k : Nat), ms[j]? = some .mu → vs[j]? = some (.ref k) → ∀ i, bs[j]? = some (.var i) → σ[i]? = some (some (.ref k))) → OutR Z M ms vs outs → ∀ {i : Nat} {s' : Slot}, (putOuts τ ms bs outs)[i]? = some (some s') →
    (τ[i]? = some (some s') ∧ i ∉ muVars ms bs) ∨ ∃ s, τ[i]? = some (some s) ∧ (s.own = true → s'.own = true ∧ ∃ k o, σ[i]? = some (some (.ref k)) ∧ M[k]? = some o ∧ Nd Z M s'.t o) ∧ (s.own = false → s' = s)
  | [], bs, vs, outs, τ, _, _, _, i, s', e => .inl ⟨by unfold putOuts at e; exact e, by unfold muVars; simp⟩
  | m :: ms, [], vs, outs, τ, _, _, _, i, s', e => .inl ⟨by cases m <;> exact e, by cases m <;> simp [muVars]⟩
  | .sh :: ms, b :: bs, vs, outs, τ, hm, hb, ho, i, s', e => by
    have := putOuts_get (ms := ms) (bs := bs) (vs := vs.tail) (outs := outs) (τ := τ) (fun j a => by simpa using hm (j + 1) (by simpa using a)) (fun j k a c x d => hb (j + 1) k (by simpa using a) (by cases vs <;> simpa using c) x (by simpa using d)) ho (i := i) (s' := s') (by unfold putOuts at e; exact e)
    simpa [muVars] using this
  | .bo :: ms, b :: bs, vs, outs, τ, hm, hb, ho, i, s', e => by
    have := putOuts_get (ms := ms) (bs := bs) (vs := vs.tail) (outs := outs) (τ := τ) (fun j a => by simpa using hm (j + 1) (by simpa using a)) (fun j k a c x d => hb (j + 1) k (by simpa using a) (by cases vs <;> simpa using c) x (by simpa using d)) ho (i := i) (s' := s') (by unfold putOuts at e; exact e)
    simpa [muVars] using this
  | .mu :: ms, .val t :: bs, vs, outs, τ, hm, hb, ho, i, s', e => by
    obtain ⟨x, h⟩ := hm 0 rfl
    cases h
  | .mu :: ms, .var x :: bs, vs, outs, τ, hm, hb, ho, i, s', e => by
    obtain ⟨k, o, t, r, vs', e1, e2, h1, h2, h3⟩ := ho
    subst e1 e2
    have hx := hb 0 k rfl rfl x rfl
    unfold putOuts at e
    have ih := putOuts_get (ms := ms) (bs := bs) (vs := vs') (outs := r) (τ := updS τ x t) (fun j a => by simpa using hm (j + 1) (by simpa using a)) (fun j k a c x d => hb (j + 1) k (by simpa using a) (by simpa using c) x (by simpa using d)) h3 (i := i) (s' := s') e
    have first : ∀ s1, (updS τ x t)[i]? = some (some s1) → (i ≠ x ∧ τ[i]? = some (some s1)) ∨ ∃ s, τ[i]? = some (some s) ∧ (s.own = true → s1.own = true ∧ ∃ k o, σ[i]? = some (some (.ref k)) ∧ M[k]? = some o ∧ Nd Z M s1.t o) ∧ (s.own = false → s1 = s) := fun s1 e1 => by
      rcases updS_get e1 with q | ⟨rfl, s, a, b⟩
      · exact .inl q
      · refine .inr ⟨s, a, fun hs => ?_, fun hs => ?_⟩
        · subst b
          cases s with
          | ow _ => exact ⟨rfl, k, o, hx, h1, h2⟩
          | mu _ => exact ⟨rfl, k, o, hx, h1, h2⟩
          | sh _ => cases hs
          | bo _ => cases hs
        · subst b
          cases s with
          | ow _ => cases hs
          | mu _ => cases hs
          | sh _ => rfl
          | bo _ => rfl
    rcases ih with ⟨a, b⟩ | ⟨s1, a, b, c⟩
    · rcases first _ a with ⟨q1, q2⟩ | q
      · exact .inl ⟨q2, by unfold muVars; simp [q1, b]⟩
      · exact .inr q
    · rcases first _ a with ⟨q1, q2⟩ | ⟨s0, q1, q2, q3⟩
      · exact .inr ⟨s1, q2, b, c⟩
      · refine .inr ⟨s0, q1, fun hs => b (q2 hs).1, fun hs => ?_⟩
        have := q3 hs
        subst this
        exact c hs
/-- names behind a call -/
theorem En.called (E : En Z Wr M σ τ) {ms : List Md} {bs : List BV} {vs : List EV} {ts outs : List XV} (h : RBs Z Wr M σ τ bs vs) (e : getArgs τ ms bs = some ts) (nd : (varsOf bs).Nodup) (f : FStp Z M Z' M' (musOf ms vs)) (o : OutR Z' M' ms vs outs) : En Z' Wr M' σ (putOuts τ ms bs outs) ∧ Stp Z Wr M Z' M' ∧ Pin τ (putOuts τ ms bs outs) := by
  have own : ∀ k ∈ musOf ms vs, Wr k ∧ ¬ Z k ∧ k < M.length ∧ ∃ (i : Nat) (s : Slot), i ∈ muVars ms bs ∧ τ[i]? = some (some s) ∧ s.own = true ∧ σ[i]? = some (some (.ref k)) := fun k hk => by
    obtain ⟨i, s, a1, a2, a3, a4⟩ := mus_own E h e hk
    obtain ⟨w, f1, rr⟩ := E.on i s a2
    rw [a4] at f1
    cases f1
    cases s with
    | ow t => obtain ⟨l, p, q1, q2, q3, q4, _⟩ := rr; cases q1; exact ⟨q2, q3, (List.getElem?_eq_some_iff.mp q4).1, i, _, a1, a2, a3, a4⟩
    | mu t => obtain ⟨l, p, q1, q2, q3, q4, _⟩ := rr; cases q1; exact ⟨q2, q3, (List.getElem?_eq_some_iff.mp q4).1, i, _, a1, a2, a3, a4⟩
    | sh t => cases a3
    | bo t => cases a3
  have kp : Kp Z M M' := fun k p z q => ⟨p, (f.keep k (List.getElem?_eq_some_iff.mp q).1 (fun z2 => (own k z2).2.1 z)).trans q, .inl rfl⟩
  have hm : ∀ j : Nat, ms[j]? = some .mu → ∃ i, bs[j]? = some (.var i) := fun j a => by
    obtain ⟨b, t, c, d⟩ := getArgs_get e a
    cases b with
    | val t' => cases d
    | var i => exact ⟨i, c⟩
  have hb : ∀ (j k : Nat), ms[j]? = some .mu → vs[j]? = some (.ref k) → ∀ i, bs[j]? = some (.var i) → σ[i]? = some (some (.ref k)) := fun j k a c i d => by
    obtain ⟨b, d1, d2⟩ := h.vars c
    rw [d] at d1
    cases d1
    exact d2
  have old : ∀ (i : Nat) (s : Slot) v, τ[i]? = some (some s) → (s.own = true → i ∉ muVars ms bs) → σ[i]? = some (some v) → SlotR Z Wr M s v → SlotR Z' Wr M' s v := fun i s v a1 a2 a3 r => by
    have nin : ∀ k, s.own = true → v = .ref k → k ∉ musOf ms vs := fun k hs ev hk => by
      subst ev
      obtain ⟨_, _, _, j, s', b1, b2, b3, b4⟩ := own k hk
      by_cases q : i = j
      · subst q; exact a2 hs b1
      · exact E.dis i j _ _ _ q a1 b2 hs b3 a3 b4
    cases s with
    | sh t => exact Dn.mono f.sub kp r
    | bo t =>
      refine ⟨Dn1.mono f.sub kp r.1 (fun k p ev q => ⟨p, (f.keep k (List.getElem?_eq_some_iff.mp q).1 fun z => (r.2 k ev).1 (own k z).1).trans q, .inl rfl⟩), fun k ev => ⟨(r.2 k ev).1, Nat.lt_of_lt_of_le (r.2 k ev).2 f.len⟩⟩
    | ow t =>
      obtain ⟨k, p, q1, q2, q3, q4, q5⟩ := r
      have hk := (List.getElem?_eq_some_iff.mp q4).1
      exact ⟨k, p, q1, q2, fun z => (f.new k z).elim q3 (by omega), (f.keep k hk (nin k rfl q1)).trans q4, q5.mono f.sub kp⟩
    | mu t =>
      obtain ⟨k, p, q1, q2, q3, q4, q5⟩ := r
      have hk := (List.getElem?_eq_some_iff.mp q4).1
      exact ⟨k, p, q1, q2, fun z => (f.new k z).elim q3 (by omega), (f.keep k hk (nin k rfl q1)).trans q4, q5.mono f.sub kp⟩
  have old_own : ∀ (i : Nat) (s' : Slot), (putOuts τ ms bs outs)[i]? = some (some s') → s'.own = true → ∃ s, τ[i]? = some (some s) ∧ s.own = true := fun i s' e1 hs => by
    rcases putOuts_get hm hb o e1 with ⟨a, b⟩ | ⟨s, a, b, c⟩
    · exact ⟨s', a, hs⟩
    · refine ⟨s, a, ?_⟩
      cases q : s.own with
      | true => rfl
      | false => rw [c q, q] at hs; cases hs
  refine ⟨⟨f.lt, fun k hk => E.fr k (Nat.le_trans f.len hk), by rw [putOuts_len]; exact E.len, fun i s' e1 => ?_, fun i j s t k n e1 e2 h1 h2 => ?_⟩, ⟨f.len, f.sub, fun k z => (f.new k z).imp id (E.fr k), fun k hk q => f.keep k hk fun z => ?_⟩, fun i => putOuts_mu⟩
  · rcases putOuts_get hm hb o e1 with ⟨a, b⟩ | ⟨s, a, b, c⟩
    · obtain ⟨v, q1, q2⟩ := E.on i s' a
      exact ⟨v, q1, old i s' v a (fun _ => b) q1 q2⟩
    · cases q : s.own with
      | true =>
        obtain ⟨hs, k, p, r1, r2, r3⟩ := b q
        obtain ⟨w, f1, rr⟩ := E.on i s a
        rw [r1] at f1
        cases f1
        have ww : Wr k ∧ ¬ Z k ∧ k < M.length := by
          cases s with
          | ow t => obtain ⟨l, p, q1, q2, q3, q4, _⟩ := rr; cases q1; exact ⟨q2, q3, (List.getElem?_eq_some_iff.mp q4).1⟩
          | mu t => obtain ⟨l, p, q1, q2, q3, q4, _⟩ := rr; cases q1; exact ⟨q2, q3, (List.getElem?_eq_some_iff.mp q4).1⟩
          | sh t => cases q
          | bo t => cases q
        have nz : ¬ Z' k := fun z => (f.new k z).elim ww.2.1 (by omega)
        refine ⟨_, r1, ?_⟩
        cases s' with
        | ow t => exact ⟨k, p, rfl, ww.1, nz, r2, r3⟩
        | mu t => exact ⟨k, p, rfl, ww.1, nz, r2, r3⟩
        | sh t => cases hs
        | bo t => cases hs
      | false =>
        have := c q
        subst this
        obtain ⟨v, q1, q2⟩ := E.on i s' a
        exact ⟨v, q1, old i s' v a (fun z => by rw [q] at z; cases z) q1 q2⟩
  · obtain ⟨s1, a1, b1⟩ := old_own i s e1 h1
    obtain ⟨s2, a2, b2⟩ := old_own j t e2 h2
    exact E.dis i j _ _ k n a1 a2 b1 b2
  · obtain ⟨a, b, _⟩ := own k z
    exact q.elim b (fun q => q a)
noncomputable def callX (τ : XSt) (ms : List Md) (bs : List BV) (p : XFn) : XR XV := match getArgs τ ms bs with
  | none => .bad
  | some ts => if (varsOf bs).Nodup then (match p ts with
    | .ok t _ outs => .ok t (putOuts τ ms bs outs)
    | .err C fs outs => .err C fs (putOuts τ ms bs outs)
    | .bad => .bad) else .bad
noncomputable def callF (τ : XSt) (ms : List Md) (bs : List BV) (p : XFn) : XR XV := match getArgs τ ms bs with
  | none => .bad
  | some ts => if (varsOf bs).Nodup then (match p ts with
    | .ok t true outs => .ok t (putOuts τ ms bs outs)
    | .ok _ false _ => .bad
    | .err C fs outs => .err C fs (putOuts τ ms bs outs)
    | .bad => .bad) else .bad
theorem callF_post (E : En Z Wr M σ τ) {ms : List Md} {bs : List BV} {vs : List EV} {m : Fn} {p : XFn} (h : RBs Z Wr M σ τ bs vs) (hf : FnQ ms m p) : PostX RF Z Wr M σ τ (callF τ ms bs p) (m vs M) := by
  unfold callF
  cases e : getArgs τ ms bs with
  | none => exact True.intro
  | some ts =>
    dsimp only
    split
    · rename_i nd
      obtain ⟨a1, a2⟩ := args_ok E h e nd
      have hf := hf Z M vs ts E.lt (argR_of E h e) a1 a2
      revert hf
      cases p ts with
      | bad => exact fun _ => True.intro
      | err C fs outs =>
        rintro ⟨x, M', Z', e1, f, o, r⟩
        obtain ⟨E', s, pi⟩ := E.called h e nd f o
        exact ⟨x, M', Z', e1, s, E', pi, r⟩
      | ok t fr outs =>
        rintro ⟨v, M', Z', e1, f, o, r1, r2⟩
        obtain ⟨E', s, pi⟩ := E.called h e nd f o
        cases fr with
        | false => exact True.intro
        | true =>
          obtain ⟨k, ob, q1, q2, q3, q4, q5⟩ := r1 rfl
          refine ⟨v, M', Z', e1, s, E', pi, k, ob, q1, q3, E.fr k q2, q4, q5, fun i s' e2 hs e3 => ?_⟩
          have old : ∃ s0, τ[i]? = some (some s0) ∧ s0.own = true := by
            have hm : ∀ j : Nat, ms[j]? = some .mu → ∃ i, bs[j]? = some (.var i) := fun j a => by
              obtain ⟨b, t, c, d⟩ := getArgs_get e a
              cases b with
              | val t' => cases d
              | var i => exact ⟨i, c⟩
            have hb : ∀ (j k : Nat), ms[j]? = some .mu → vs[j]? = some (.ref k) → ∀ i, bs[j]? = some (.var i) → σ[i]? = some (some (.ref k)) := fun j k a c i d => by
              obtain ⟨b, d1, d2⟩ := h.vars c
              rw [d] at d1
              cases d1
              exact d2
            rcases putOuts_get hm hb o e2 with ⟨a, b⟩ | ⟨s, a, b, c⟩
            · exact ⟨s', a, hs⟩
            · refine ⟨s, a, ?_⟩
              cases q : s.own with
              | true => rfl
              | false => rw [c q, q] at hs; cases hs
          obtain ⟨s0, a, b⟩ := old
          obtain ⟨w, f1, rr⟩ := E.on i s0 a
          rw [e3] at f1
          cases f1
          cases s0 with
          | ow t => obtain ⟨l, p, q1, _, _, q4, _⟩ := rr; cases q1; have := (List.getElem?_eq_some_iff.mp q4).1; omega
          | mu t => obtain ⟨l, p, q1, _, _, q4, _⟩ := rr; cases q1; have := (List.getElem?_eq_some_iff.mp q4).1; omega
          | sh t => cases b
          | bo t => cases b
    · exact True.intro
theorem PostX.fz {r : XR XV} {res : Res EV} (h : PostX RF Z Wr M σ τ r res) : PostX RE Z Wr M σ τ r res := by
  cases r with
  | ok t τ' =>
    obtain ⟨v, M', Z', e1, s, E', p, h⟩ := h
    have q : QF (fun _ _ => res) (fun τ0 => if τ0 = τ' then XR.ok t τ' else .bad) → True := fun _ => True.intro
    obtain ⟨k, o, q1, q2, q3, q4, q5, q6⟩ := h
    subst q1
    have hs : ∀ j, Z' j → addZ Z' k j := fun j h => .inl h
    refine ⟨_, M', addZ Z' k, e1, s.trans ⟨Nat.le_refl _, hs, fun j h => h.imp id fun z => by rw [z]; exact q3, fun _ _ _ => rfl⟩, ⟨fun j h => ?_, E'.fr, E'.len, fun j s' ej => ?_, E'.dis⟩, p, (q5.mono hs .refl).dn q4 (.inr rfl)⟩
    · rcases h with h | h
      · exact E'.lt j h
      · rw [h]; exact (List.getElem?_eq_some_iff.mp q4).1
    · obtain ⟨w, e3, r⟩ := E'.on j s' ej
      refine ⟨w, e3, ?_⟩
      cases s' with
      | sh u => exact Dn.mono hs .refl r
      | bo u => exact ⟨Dn1.mono hs .refl r.1 (fun _ p _ e => ⟨p, e, .inl rfl⟩), r.2⟩
      | ow u =>
        obtain ⟨l, p, r1, r2, r3, r4, r5⟩ := r
        refine ⟨l, p, r1, r2, ?_, r4, r5.mono hs .refl⟩
        rintro (h | h)
        · exact r3 h
        · subst h r1
          exact q6 j _ ej rfl e3
      | mu u =>
        obtain ⟨l, p, r1, r2, r3, r4, r5⟩ := r
        refine ⟨l, p, r1, r2, ?_, r4, r5.mono hs .refl⟩
        rintro (h | h)
        · exact r3 h
        · subst h r1
          exact q6 j _ ej rfl e3
  | err C fs τ' => exact h
  | bad => exact True.intro
theorem callX_post (E : En Z Wr M σ τ) {ms : List Md} {bs : List BV} {vs : List EV} {m : Fn} {p : XFn} (h : RBs Z Wr M σ τ bs vs) (hf : FnQ ms m p) : PostX RE Z Wr M σ τ (callX τ ms bs p) (m vs M) := by
  have hF := callF_post E h hf
  unfold callX
  unfold callF at hF
  cases e : getArgs τ ms bs with
  | none => exact True.intro
  | some ts =>
    rw [e] at hF
    dsimp only at hF ⊢
    split
    · rename_i nd
      rw [if_pos nd] at hF
      cases q : p ts with
      | bad => exact True.intro
      | err C fs outs => rw [q] at hF; exact hF
      | ok t fr outs =>
        rw [q] at hF
        cases fr with
        | true => exact PostX.fz hF
        | false =>
          obtain ⟨a1, a2⟩ := args_ok E h e nd
          have hf := hf Z M vs ts E.lt (argR_of E h e) a1 a2
          rw [q] at hf
          obtain ⟨v, M', Z', e1, f, o, r1, r2⟩ := hf
          obtain ⟨E', s, pi⟩ := E.called h e nd f o
          exact ⟨v, M', Z', e1, s, E', pi, r2 rfl⟩
    · exact True.intro
abbrev XM := XSt → XR (List BV)
def QM (e : FA) (x : XM) : Prop := ∀ Z Wr M σ τ, En Z Wr M σ τ → PostX (fun Z Wr M σ τ bs vs => RBs Z Wr M σ τ bs vs) Z Wr M σ τ (x τ) (e σ M)
def xMNil : XM := fun τ => .ok [] τ
def xMCons (f : XB) (g : XM) : XM := fun τ => (f τ).bind fun b τ1 => (g τ1).bind fun bs τ2 => .ok (b :: bs) τ2
theorem qMNil : QM aNil xMNil := fun Z Wr M σ τ E => PostX.ok E (by unfold RBs; rfl)
theorem qMCons {f : FE} {g : FA} {x : XB} {y : XM} (h : QB f x) (h2 : QM g y) : QM (aCons f g) (xMCons x y) := fun Z Wr M σ τ E =>
  PostX.bind (h Z Wr M σ τ E) fun a τ1 v M1 Z1 s E1 r => PostX.bind (h2 Z1 Wr M1 σ τ1 E1) fun b τ2 w M2 Z2 s2 E2 r2 => PostX.ok E2 ⟨v, w, rfl, r.step s2, r2⟩
noncomputable def xCall (ms : List Md) (p : XFn) (g : XM) : XE := fun τ => (g τ).bind fun bs τ1 => callX τ1 ms bs p
noncomputable def xCallF (ms : List Md) (p : XFn) (g : XM) : XE := fun τ => (g τ).bind fun bs τ1 => callF τ1 ms bs p
theorem RBs.len : ∀ {bs : List BV} {vs : List EV}, RBs Z Wr M σ τ bs vs → vs.length = bs.length
  | [], _, h => by unfold RBs at h; subst h; rfl
  | b :: bs, _, ⟨v, r, e, _, h⟩ => by subst e; rw [List.length_cons, List.length_cons, h.len]
theorem getArgs_len : ∀ {ms : List Md} {bs : List BV} {ts : List XV}, getArgs τ ms bs = some ts → bs.length = ms.length
  | [], [], _, _ => rfl
  | [], _ :: _, _, h => by cases h
  | _ :: _, [], _, h => by unfold getArgs at h; cases h
  | m :: ms, b :: bs, ts, h => by
    unfold getArgs at h
    cases q1 : getArg τ m b with
    | none => rw [q1] at h; cases h
    | some t =>
      cases q2 : getArgs τ ms bs with
      | none => rw [q1, q2] at h; cases h
      | some ts' => rw [List.length_cons, List.length_cons, getArgs_len q2]
theorem qCall {ms : List Md} {m : Fn} {p : XFn} {g : FA} {y : XM} {n : Nat} (hf : FnQ ms m p) (h : QM g y) (hn : ms.length = n) : QE (eCall n m g) (xCall ms p y) := fun Z Wr M σ τ E => by
  refine PostX.bind (h Z Wr M σ τ E) fun bs τ1 vs M1 Z1 s E1 r => ?_
  cases e : getArgs τ1 ms bs with
  | none => unfold callX; rw [e]; exact True.intro
  | some ts =>
    rw [if_pos (by rw [r.len, getArgs_len e, hn])]
    exact callX_post E1 r hf
theorem qCallF {ms : List Md} {m : Fn} {p : XFn} {g : FA} {y : XM} {n : Nat} (hf : FnQ ms m p) (h : QM g y) (hn : ms.length = n) : QF (eCall n m g) (xCallF ms p y) := fun Z Wr M σ τ E => by
  refine PostX.bind (h Z Wr M σ τ E) fun bs τ1 vs M1 Z1 s E1 r => ?_
  cases e : getArgs τ1 ms bs with
  | none => unfold callF; rw [e]; exact True.intro
  | some ts =>
    rw [if_pos (by rw [r.len, getArgs_len e, hn])]
    exact callF_post E1 r hf
end
end
end WS

set_option Elab.async false
set_option linter.all false
set_option maxRecDepth 100000
/-! The tree layer: operators and built-ins. -/
namespace WS
open PySem PySem.Spec PyProof.Rows L2
open PySem.W (dataLt dataLe keyToks alike AllAlike Sortable SortsAt sortVals)
open Classical
section
variable {Z Z' Wr : Nat → Prop} {M M' : Mem} {v w : EV}
@[simp] theorem dn_non : Dn Z M .non v ↔ v = .non := by unfold Dn; rfl
@[simp] theorem dn_bl {b : Bool} : Dn Z M (.bl b) v ↔ v = .bl b := by unfold Dn; rfl
@[simp] theorem dn_int {b : Int} : Dn Z M (.int b) v ↔ v = .int b := by unfold Dn; rfl
@[simp] theorem dn_str {b : Str} : Dn Z M (.str b) v ↔ v = .str b := by unfold Dn; rfl
@[simp] theorem dn_adr {b : Addr} : Dn Z M (.adr b) v ↔ v = .adr b := by unfold Dn; rfl
@[simp] theorem dn_ty {b : String} : Dn Z M (.ty b) v ↔ v = .ty b := by unfold Dn; rfl
@[simp] theorem dn_sl {b : List Int} : Dn Z M (.sl b) v ↔ v = .sl b := by unfold Dn; rfl
theorem dn_tup {ts : List XV} : Dn Z M (.tup ts) v ↔ ∃ xs, v = .tup xs ∧ Dns Z M ts xs := by rw [Dn]
@[simp] theorem dn1_non : Dn1 Z M .non v ↔ v = .non := (dn_non (Z := Z) (M := M))
@[simp] theorem dn1_bl {b : Bool} : Dn1 Z M (.bl b) v ↔ v = .bl b := (dn_bl (Z := Z) (M := M))
@[simp] theorem dn1_int {b : Int} : Dn1 Z M (.int b) v ↔ v = .int b := (dn_int (Z := Z) (M := M))
@[simp] theorem dn1_str {b : Str} : Dn1 Z M (.str b) v ↔ v = .str b := (dn_str (Z := Z) (M := M))
@[simp] theorem dn1_adr {b : Addr} : Dn1 Z M (.adr b) v ↔ v = .adr b := (dn_adr (Z := Z) (M := M))
@[simp] theorem dn1_ty {b : String} : Dn1 Z M (.ty b) v ↔ v = .ty b := (dn_ty (Z := Z) (M := M))
@[simp] theorem dn1_sl {b : List Int} : Dn1 Z M (.sl b) v ↔ v = .sl b := (dn_sl (Z := Z) (M := M))
theorem dn1_tup {ts : List XV} : Dn1 Z M (.tup ts) v ↔ ∃ xs, v = .tup xs ∧ Dns Z M ts xs := (dn_tup (Z := Z) (M := M))
theorem dn1_lst {ts : List XV} : Dn1 Z M (.lst ts) v ↔ ∃ k, v = .ref k ∧ ∃ xs, M[k]? = some (.lst xs) ∧ Dns Z M ts xs := Iff.rfl
theorem dn1_dic {ts : List (XV × XV)} : Dn1 Z M (.dic ts) v ↔ ∃ k, v = .ref k ∧ ∃ xs, (M[k]? = some (.dic xs) ∨ M[k]? = some (.lck xs)) ∧ Dnp Z M ts xs := Iff.rfl
theorem dn1_ins {C : Addr} {ts : List (Str × XV)} : Dn1 Z M (.ins C ts) v ↔ ∃ k, v = .ref k ∧ ∃ xs, M[k]? = some (.ins C xs) ∧ Dnf Z M ts xs := Iff.rfl
theorem okx {u : EV} {r : XV} {res : Res EV} (e : res = .ok u M) (d : Dn Z M r u) : OkX Z M res r := .inl ⟨u, e, d⟩
/-! ints, texts -/
def oII (g : Int → Int → XV) : XV → XV → Option XV
  | .int i, .int j => some (g i j)
  | _, _ => none
theorem oII_eq {g : Int → Int → XV} {t s r : XV} (h : oII g t s = some r) : ∃ i j, t = .int i ∧ s = .int j ∧ r = g i j := by
  cases t <;> cases s <;> cases h
  exact ⟨_, _, rfl, rfl, rfl⟩
noncomputable def oIIc (C : Int → Int → Prop) (g : Int → Int → XV) : XV → XV → Option XV
  | .int i, .int j => if C i j then some (g i j) else none
  | _, _ => none
theorem oIIc_eq {C : Int → Int → Prop} {g : Int → Int → XV} {t s r : XV} (h : oIIc C g t s = some r) : ∃ i j, t = .int i ∧ s = .int j ∧ C i j ∧ r = g i j := by
  cases t <;> cases s <;> first | (cases h; done) | skip
  rename_i i j
  unfold oIIc at h
  dsimp only at h
  split at h
  · cases h; exact ⟨i, j, rfl, rfl, by assumption, rfl⟩
  · cases h
theorem op_II {g : Int → Int → XV} {g' : Int → Int → EV} (hg : ∀ Z M i j, Dn Z M (g i j) (g' i j)) : Op2 (opI0 g') (oII g) := fun Z M t s v w r a b c => by
  obtain ⟨i, j, rfl, rfl, rfl⟩ := oII_eq c
  rw [dn1_int] at a b
  subst a b
  exact okx rfl (hg _ _ _ _)
theorem op_IIc {C : Int → Int → Prop} {g : Int → Int → XV} {g' : Int → Int → EV} (hg : ∀ Z M i j, Dn Z M (g i j) (g' i j)) : Op2 (opI C g') (oIIc C g) := fun Z M t s v w r a b c => by
  obtain ⟨i, j, rfl, rfl, hc, rfl⟩ := oIIc_eq c
  rw [dn1_int] at a b
  subst a b
  refine okx (u := g' i j) ?_ (hg _ _ _ _)
  unfold opI twoI
  simp [hc]
noncomputable def oMul := oIIc CMul fun i j => .int (i * j)
noncomputable def oFdiv := oIIc CDiv fun i j => .int (i / j)
noncomputable def oMod := oIIc (fun (_ j : Int) => 0 < j) fun i j => .int (i % j)
noncomputable def oPow := oIIc CPow fun i j => .int (i ^ j.toNat)
def oSub := oII fun i j => .int (i - j)
theorem pMul : Op2 opMul oMul := op_IIc fun _ _ _ _ => by simp
theorem pFdiv : Op2 opFdiv oFdiv := op_IIc fun _ _ _ _ => by simp
theorem pMod : Op2 opMod oMod := op_IIc fun _ _ _ _ => by simp
theorem pPow : Op2 opPow oPow := op_IIc fun _ _ _ _ => by simp
theorem pSub : Op2 opSub oSub := op_II fun _ _ _ _ => by simp
def oAdd : XV → XV → Option XV
  | .int i, .int j => some (.int (i + j))
  | .str i, .str j => if i.length + j.length ≤ sizeLine then some (.str (i ++ j)) else none
  | .lst i, .lst j => if (i ++ j).length ≤ sizeLine then some (.lst (i ++ j)) else none
  | .tup i, .tup j => if (i ++ j).length ≤ sizeLine then some (.tup (i ++ j)) else none
  | _, _ => none
def oAddL : XV → XV → Option XV
  | .lst i, .lst j => if (i ++ j).length ≤ sizeLine then some (.lst (i ++ j)) else none
  | _, _ => none
theorem opAdd_l {k l : Nat} {xs ys : List EV} (h : M[k]? = some (.lst xs)) (h2 : M[l]? = some (.lst ys)) : opAdd (.ref k) (.ref l) M = newL (xs ++ ys) M := by
  unfold opAdd altO
  have e1 : addL (.ref k) (.ref l) M = newL (xs ++ ys) M := by
    unfold addL isRefL
    simp only [h, h2]
  have e2 : addS (.ref k) (.ref l) M = .bad := rfl
  have e3 : opI0 (fun i j => .int (i + j)) (.ref k) (.ref l) M = .bad := rfl
  have e4 : addT (.ref k) (.ref l) M = .bad := rfl
  simp only [e1, e2, e3, e4]
  cases newL (xs ++ ys) M <;> rfl
theorem pAddL : Op2F opAdd oAddL := fun Z M t s v w r a b c => by
  cases t <;> cases s <;> first | (cases c; done) | skip
  unfold oAddL at c
  dsimp only at c
  split at c
  · rename_i hz
    cases c
    obtain ⟨k, rfl, xs, h1, h2⟩ := a
    obtain ⟨l, rfl, ys, h3, h4⟩ := b
    rw [opAdd_l h1 h3]
    exact okF_lst (h2.app h4) hz
  · cases c
theorem pAdd : Op2 opAdd oAdd := fun Z M t s v w r a b c => by
  cases t <;> cases s <;> first | (cases c; done) | skip
  · cases c
    rw [dn1_int] at a b
    subst a b
    exact okx rfl (by simp)
  · unfold oAdd at c
    dsimp only at c
    split at c
    · rename_i i j hz
      cases c
      rw [dn1_str] at a b
      subst a b
      refine okx (u := .str (i ++ j)) ?_ (by simp)
      unfold opAdd altO
      have e3 : ∀ x y : Str, opI0 (fun i j => .int (i + j)) (.str x) (.str y) M = .bad := fun _ _ => rfl
      simp only [e3]
      unfold addS twoS
      simp [hz]
    · cases c
  · unfold oAdd at c
    dsimp only at c
    split at c
    · rename_i hz
      cases c
      rw [dn1_tup] at a b
      obtain ⟨xs, rfl, h1⟩ := a
      obtain ⟨ys, rfl, h2⟩ := b
      refine okx (u := .tup (xs ++ ys)) ?_ (dn_tup.mpr ⟨_, rfl, h1.app h2⟩)
      unfold opAdd altO
      have e2 : addL (.tup xs) (.tup ys) M = .bad := rfl
      have e3 : opI0 (fun i j => .int (i + j)) (.tup xs) (.tup ys) M = .bad := rfl
      have e4 : addS (.tup xs) (.tup ys) M = .bad := rfl
      simp only [e2, e3, e4]
      unfold addT asT newT
      simp only []
      rw [if_pos (by rw [(h1.app h2).len]; exact hz)]
    · cases c
  · exact .inr (pAddL Z M _ _ v w r a b c)
def oNeg : XV → Option XV
  | .int i => some (.int (-i))
  | _ => none
theorem pNeg : Op1 negV oNeg := fun Z M t v r a c => by
  cases t <;> first | (cases c; done) | skip
  cases c
  rw [dn1_int] at a
  subst a
  exact okx rfl (by simp)
def oCmp (g : Int → Int → Bool) (k : Str → Str → Bool) : XV → XV → Option XV
  | .int i, .int j => some (.bl (g i j))
  | .str i, .str j => some (.bl (k i j))
  | _, _ => none
theorem pCmp (g : Int → Int → Bool) (k : Str → Str → Bool) : Op2 (altO (opI0 fun i j => .bl (g i j)) (opS0 fun i j => .bl (k i j))) (oCmp g k) := fun Z M t s v w r a b c => by
  cases t <;> cases s <;> first | (cases c; done) | skip
  · cases c
    rw [dn1_int] at a b
    subst a b
    exact okx rfl (by simp)
  · cases c
    rw [dn1_str] at a b
    subst a b
    exact okx rfl (by simp)
def oLt := oCmp (fun i j => decide (i < j)) (fun i j => decide (i.cps.toList < j.cps.toList))
def oLe := oCmp (fun i j => decide (i ≤ j)) (fun i j => !decide (j.cps.toList < i.cps.toList))
def oGt := oCmp (fun i j => decide (j < i)) (fun i j => decide (j.cps.toList < i.cps.toList))
def oGe := oCmp (fun i j => decide (j ≤ i)) (fun i j => !decide (i.cps.toList < j.cps.toList))
theorem pLt : Op2 cLt oLt := pCmp _ _
theorem pLe : Op2 cLe oLe := pCmp _ _
theorem pGt : Op2 cGt oGt := pCmp _ _
theorem pGe : Op2 cGe oGe := pCmp _ _
def isNonX : XV → Bool
  | .non => true
  | _ => false
theorem isNon_dn {t : XV} (d : Dn1 Z M t v) : WS.isNon v = isNonX t := by
  cases t with
  | non => rw [dn1_non] at d; subst d; rfl
  | tup ts => obtain ⟨xs, rfl, _⟩ := dn1_tup.mp d; rfl
  | lst ts => obtain ⟨xs, rfl, _⟩ := d; rfl
  | dic ts => obtain ⟨xs, rfl, _⟩ := d; rfl
  | ins C ts => obtain ⟨xs, rfl, _⟩ := d; rfl
  | bl b => rw [dn1_bl] at d; subst d; rfl
  | int b => rw [dn1_int] at d; subst d; rfl
  | str b => rw [dn1_str] at d; subst d; rfl
  | adr b => rw [dn1_adr] at d; subst d; rfl
  | ty b => rw [dn1_ty] at d; subst d; rfl
  | sl b => rw [dn1_sl] at d; subst d; rfl
def oIs (neg : Bool) (t : XV) : XV → Option XV
  | .non => some (.bl (neg ^^ isNonX t))
  | .bl b => (match t with | .bl a => some (.bl (neg ^^ decide (a = b))) | _ => none)
  | _ => none
theorem pIs : Op2 cIs (oIs false) := fun Z M t s v w r a b c => by
  cases s <;> first | (cases c; done) | skip
  · cases c
    rw [dn1_non] at b
    subst b
    exact okx (u := .bl _) rfl (by rw [isNon_dn a]; simp)
  · cases t <;> cases c
    rw [dn1_bl] at a b
    subst a b
    exact okx (u := .bl _) rfl (by simp)
theorem pIsNot : Op2 cIsNot (oIs true) := fun Z M t s v w r a b c => by
  cases s <;> first | (cases c; done) | skip
  · cases c
    rw [dn1_non] at b
    subst b
    exact okx (u := .bl _) rfl (by rw [isNon_dn a]; simp)
  · cases t <;> cases c
    rw [dn1_bl] at a b
    subst a b
    exact okx (u := .bl _) rfl (by simp)
end
/-! data -/
mutual
def toDX : XV → Nat → Option PyData
  | .non, _ => some .none
  | .bl b, _ => some (.bool b)
  | .int i, _ => some (.int i)
  | .str i, _ => some (.str i)
  | .tup xs, n => match n with
    | 0 => none
    | n + 1 => (toDXs xs n).map .tuple
  | .lst xs, n => match n with
    | 0 => none
    | n + 1 => (toDXs xs n).map .list
  | _, _ => none
def toDXs : List XV → Nat → Option (List PyData)
  | [], _ => some []
  | v :: r, n => match toDX v n, toDXs r n with
    | some d, some ds => some (d :: ds)
    | _, _ => none
end
abbrev datX (t : XV) : Option PyData := toDX t 60
section
variable {Z Z' Wr : Nat → Prop} {M M' : Mem} {v w : EV}
mutual
theorem toD_dn : ∀ {t : XV} {v : EV} {n : Nat} {d : PyData}, Dn1 Z M t v → toDX t n = some d → toD n M v = some d
  | .non, v, n, d, h, e => by rw [dn1_non] at h; subst h; cases n <;> (unfold toDX at e; cases e; unfold toD; rfl)
  | .bl _, v, n, d, h, e => by rw [dn1_bl] at h; subst h; cases n <;> (unfold toDX at e; cases e; unfold toD; rfl)
  | .int _, v, n, d, h, e => by rw [dn1_int] at h; subst h; cases n <;> (unfold toDX at e; cases e; unfold toD; rfl)
  | .str _, v, n, d, h, e => by rw [dn1_str] at h; subst h; cases n <;> (unfold toDX at e; cases e; unfold toD; rfl)
  | .tup ts, v, 0, d, h, e => by unfold toDX at e; cases e
  | .tup ts, v, n + 1, d, h, e => by
    obtain ⟨xs, rfl, h'⟩ := dn1_tup.mp h
    unfold toDX at e
    dsimp only at e
    cases q : toDXs ts n with
    | none => rw [q] at e; cases e
    | some ds =>
      rw [q] at e
      cases e
      unfold toD
      rw [toDs_dn h' q]
      rfl
  | .lst ts, v, 0, d, h, e => by unfold toDX at e; cases e
  | .lst ts, v, n + 1, d, h, e => by
    obtain ⟨k, rfl, xs, h1, h'⟩ := h
    unfold toDX at e
    dsimp only at e
    cases q : toDXs ts n with
    | none => rw [q] at e; cases e
    | some ds =>
      rw [q] at e
      cases e
      unfold toD
      simp only [h1]
      rw [toDs_dn h' q]
      rfl
  | .dic _, v, n, d, h, e => by unfold toDX at e; cases e
  | .ins _ _, v, n, d, h, e => by unfold toDX at e; cases e
  | .adr _, v, n, d, h, e => by unfold toDX at e; cases e
  | .ty _, v, n, d, h, e => by unfold toDX at e; cases e
  | .sl _, v, n, d, h, e => by unfold toDX at e; cases e
theorem toDs_dn : ∀ {t : List XV} {v : List EV} {n : Nat} {d : List PyData}, Dns Z M t v → toDXs t n = some d → toDs n M v = some d
  | [], v, n, d, h, e => by
    unfold Dns at h
    subst h
    unfold toDXs at e
    cases e
    unfold toDs
    rfl
  | t :: ts, v, n, d, h, e => by
    unfold Dns at h
    obtain ⟨x, r, rfl, h1, h2⟩ := h
    unfold toDXs at e
    cases q : toDX t n with
    | none => rw [q] at e; cases e
    | some d1 =>
      cases q2 : toDXs ts n with
      | none => rw [q, q2] at e; cases e
      | some ds =>
        rw [q, q2] at e
        cases e
        unfold toDs
        rw [toD_dn h1.one q, toDs_dn h2 q2]
end
def oEqD (neg : Bool) (t s : XV) : Option XV := match datX t, datX s with
  | some d, some e => if SeqAt.shaped d = true ∧ SeqAt.shaped e = true then some (.bl (if neg = true then !PyData.eqv d e else PyData.eqv d e)) else none
  | _, _ => none
theorem pEqD (neg : Bool) : Op2 (cEqD neg) (oEqD neg) := fun Z M t s v w r a b c => by
  unfold oEqD at c
  cases q : datX t with
  | none => rw [q] at c; cases c
  | some d =>
    cases q2 : datX s with
    | none => rw [q, q2] at c; cases c
    | some e =>
      rw [q, q2] at c
      dsimp only at c
      split at c
      · rename_i hs
        cases c
        refine okx (u := .bl _) ?_ (by simp; rfl)
        unfold cEqD
        have e1 : dat M v = some d := toD_dn a q
        have e2 : dat M w = some e := toD_dn b q2
        rw [e1, e2]
        simp [hs]
      · cases c
/-! keys -/
mutual
def rfX : XV → Bool
  | .non => true
  | .bl _ => true
  | .int _ => true
  | .str _ => true
  | .tup xs => rfXs xs
  | _ => false
def rfXs : List XV → Bool
  | [] => true
  | x :: xs => rfX x && rfXs xs
end
mutual
def evOf : XV → EV
  | .bl b => .bl b
  | .int b => .int b
  | .str b => .str b
  | .tup xs => .tup (evsOf xs)
  | _ => .non
def evsOf : List XV → List EV
  | [] => []
  | x :: xs => evOf x :: evsOf xs
end
mutual
theorem ev_dn : ∀ {t : XV} {v : EV}, rfX t = true → Dn Z M t v → v = evOf t
  | .non, v, _, d => by rw [dn_non] at d; rw [d]; rfl
  | .bl _, v, _, d => by rw [dn_bl] at d; rw [d]; rfl
  | .int _, v, _, d => by rw [dn_int] at d; rw [d]; rfl
  | .str _, v, _, d => by rw [dn_str] at d; rw [d]; rfl
  | .tup ts, v, h, d => by
    obtain ⟨xs, rfl, d'⟩ := dn_tup.mp d
    unfold rfX at h
    unfold evOf
    rw [evs_dn h d']
  | .lst _, v, h, d => by cases h
  | .dic _, v, h, d => by cases h
  | .ins _ _, v, h, d => by cases h
  | .adr _, v, h, d => by cases h
  | .ty _, v, h, d => by cases h
  | .sl _, v, h, d => by cases h
theorem evs_dn : ∀ {t : List XV} {v : List EV}, rfXs t = true → Dns Z M t v → v = evsOf t
  | [], v, _, d => by unfold Dns at d; rw [d]; rfl
  | t :: ts, v, h, d => by
    unfold Dns at d
    obtain ⟨x, r, rfl, d1, d2⟩ := d
    unfold rfXs at h
    rw [Bool.and_eq_true] at h
    unfold evsOf
    rw [ev_dn h.1 d1, evs_dn h.2 d2]
end
mutual
theorem dn_ev : ∀ {t : XV}, rfX t = true → Dn Z M t (evOf t)
  | .non, _ => by simp [evOf]
  | .bl _, _ => by simp [evOf]
  | .int _, _ => by simp [evOf]
  | .str _, _ => by simp [evOf]
  | .tup ts, h => by unfold rfX at h; unfold evOf; exact dn_tup.mpr ⟨_, rfl, dns_evs h⟩
  | .lst _, h => by cases h
  | .dic _, h => by cases h
  | .ins _ _, h => by cases h
  | .adr _, h => by cases h
  | .ty _, h => by cases h
  | .sl _, h => by cases h
theorem dns_evs : ∀ {t : List XV}, rfXs t = true → Dns Z M t (evsOf t)
  | [], _ => Dns.nil
  | t :: ts, h => by
    unfold rfXs at h
    rw [Bool.and_eq_true] at h
    unfold evsOf
    exact .cons (dn_ev h.1) (dns_evs h.2)
end
mutual
theorem ev_inj : ∀ {t s : XV}, rfX t = true → rfX s = true → evOf t = evOf s → t = s
  | .non, s, h, g, e => by cases s <;> first | rfl | (cases g; done) | (unfold evOf at e; cases e)
  | .bl _, s, h, g, e => by cases s <;> first | (cases g; done) | (unfold evOf at e; cases e; done) | (unfold evOf at e; cases e; rfl)
  | .int _, s, h, g, e => by cases s <;> first | (cases g; done) | (unfold evOf at e; cases e; done) | (unfold evOf at e; cases e; rfl)
  | .str _, s, h, g, e => by cases s <;> first | (cases g; done) | (unfold evOf at e; cases e; done) | (unfold evOf at e; cases e; rfl)
  | .tup ts, s, h, g, e => by
    cases s <;> first | (cases g; done) | (unfold evOf at e; cases e; done) | skip
    rename_i ss
    unfold evOf at e
    injection e with e
    unfold rfX at h g
    rw [evs_inj h g e]
  | .lst _, _, h, _, _ => by cases h
  | .dic _, _, h, _, _ => by cases h
  | .ins _ _, _, h, _, _ => by cases h
  | .adr _, _, h, _, _ => by cases h
  | .ty _, _, h, _, _ => by cases h
  | .sl _, _, h, _, _ => by cases h
theorem evs_inj : ∀ {t s : List XV}, rfXs t = true → rfXs s = true → evsOf t = evsOf s → t = s
  | [], [], _, _, _ => rfl
  | [], _ :: _, _, _, e => by cases e
  | _ :: _, [], _, _, e => by cases e
  | t :: ts, s :: ss, h, g, e => by
    unfold rfXs at h g
    rw [Bool.and_eq_true] at h g
    unfold evsOf at e
    injection e with e1 e2
    rw [ev_inj h.1 g.1 e1, evs_inj h.2 g.2 e2]
end
def isLeafX : XV → Bool
  | .non => true
  | .int _ => true
  | .str _ => true
  | _ => false
def isNestX : XV → Bool
  | .tup xs => rfXs xs && isNest (.tup (evsOf xs))
  | _ => false
def leafsX (kvs : List (XV × XV)) : Bool := kvs.all fun p => isLeafX p.1
def nestsX (kvs : List (XV × XV)) : Bool := kvs.all fun p => isNestX p.1
theorem leaf_rf {t : XV} (h : isLeafX t = true) : rfX t = true ∧ isLeaf (evOf t) = true := by cases t <;> first | (cases h; done) | exact ⟨rfl, rfl⟩
theorem nest_rf {t : XV} (h : isNestX t = true) : rfX t = true ∧ isNest (evOf t) = true := by
  cases t <;> first | (cases h; done) | skip
  unfold isNestX at h
  rw [Bool.and_eq_true] at h
  exact ⟨by unfold rfX; exact h.1, by unfold evOf; exact h.2⟩
def keysRf (kvs : List (XV × XV)) : Prop := ∀ p ∈ kvs, rfX p.1 = true
theorem leafs_rf {kvs : List (XV × XV)} (h : leafsX kvs = true) : keysRf kvs := fun p hp => (leaf_rf (List.all_eq_true.mp h p hp)).1
theorem nests_rf {kvs : List (XV × XV)} (h : nestsX kvs = true) : keysRf kvs := fun p hp => (nest_rf (List.all_eq_true.mp h p hp)).1
theorem leafs_dn : ∀ {kvs : List (XV × XV)} {ps : List (EV × EV)}, Dnp Z M kvs ps → leafsX kvs = true → leafs ps = true
  | [], _, d, _ => by unfold Dnp at d; subst d; rfl
  | (a, b) :: kvs, _, d, h => by
    unfold Dnp at d
    obtain ⟨y, r, rfl, d1, d2⟩ := d
    unfold Dnq at d1
    unfold leafsX at h
    rw [List.all_cons, Bool.and_eq_true] at h
    obtain ⟨q1, q2⟩ := leaf_rf h.1
    unfold leafs
    rw [List.all_cons, ev_dn q1 d1.1, q2]
    exact leafs_dn d2 h.2
theorem nests_dn : ∀ {kvs : List (XV × XV)} {ps : List (EV × EV)}, Dnp Z M kvs ps → nestsX kvs = true → nests ps = true
  | [], _, d, _ => by unfold Dnp at d; subst d; rfl
  | (a, b) :: kvs, _, d, h => by
    unfold Dnp at d
    obtain ⟨y, r, rfl, d1, d2⟩ := d
    unfold Dnq at d1
    unfold nestsX at h
    rw [List.all_cons, Bool.and_eq_true] at h
    obtain ⟨q1, q2⟩ := nest_rf h.1
    unfold nests
    rw [List.all_cons, ev_dn q1 d1.1, q2]
    exact nests_dn d2 h.2
noncomputable def dGetX (kvs : List (XV × XV)) (k : XV) : Option XV := match kvs with
  | [] => none
  | p :: r => if p.1 = k then some p.2 else dGetX r k
noncomputable def dPutX (kvs : List (XV × XV)) (k v : XV) : List (XV × XV) := match kvs with
  | [] => [(k, v)]
  | p :: r => if p.1 = k then (p.1, v) :: r else p :: dPutX r k v
theorem dGet_dn {k : XV} (hk : rfX k = true) : ∀ {kvs : List (XV × XV)} {ps : List (EV × EV)}, Dnp Z M kvs ps → keysRf kvs → (dGetX kvs k = none → dGet ps (evOf k) = none) ∧ ∀ u, dGetX kvs k = some u → ∃ x, dGet ps (evOf k) = some x ∧ Dn Z M u x
  | [], _, d, _ => by unfold Dnp at d; subst d; exact ⟨fun _ => rfl, fun u e => (by cases e)⟩
  | (a, b) :: kvs, _, d, h => by
    unfold Dnp at d
    obtain ⟨y, r, rfl, d1, d2⟩ := d
    unfold Dnq at d1
    have ha := h (a, b) List.mem_cons_self
    have ey : y.1 = evOf a := ev_dn ha d1.1
    have ih := dGet_dn hk d2 (fun p hp => h p (List.mem_cons_of_mem _ hp))
    unfold dGetX dGet
    by_cases c : a = k
    · subst c
      rw [if_pos rfl, if_pos ey]
      exact ⟨fun e => (by cases e), fun u e => (by cases e; exact ⟨_, rfl, d1.2⟩)⟩
    · have c' : ¬ y.1 = evOf k := fun z => c (ev_inj ha hk (ey.symm.trans z))
      rw [if_neg c, if_neg c']
      exact ih
theorem dPut_dn {k u : XV} {x : EV} (hk : rfX k = true) (du : Dn Z M u x) : ∀ {kvs : List (XV × XV)} {ps : List (EV × EV)}, Dnp Z M kvs ps → keysRf kvs → Dnp Z M (dPutX kvs k u) (dPut ps (evOf k) x)
  | [], _, d, _ => by
    unfold Dnp at d; subst d
    unfold dPutX dPut Dnp
    exact ⟨_, _, rfl, by unfold Dnq; exact ⟨dn_ev hk, du⟩, by unfold Dnp; rfl⟩
  | (a, b) :: kvs, _, d, h => by
    unfold Dnp at d
    obtain ⟨y, r, rfl, d1, d2⟩ := d
    have d1' := d1
    unfold Dnq at d1
    have ha := h (a, b) List.mem_cons_self
    have ey : y.1 = evOf a := ev_dn ha d1.1
    have ih := dPut_dn hk du d2 (fun p hp => h p (List.mem_cons_of_mem _ hp))
    unfold dPutX dPut
    by_cases c : a = k
    · subst c
      rw [if_pos rfl, if_pos ey]
      unfold Dnp
      exact ⟨_, _, rfl, by unfold Dnq; exact ⟨d1.1, du⟩, d2⟩
    · have c' : ¬ y.1 = evOf k := fun z => c (ev_inj ha hk (ey.symm.trans z))
      rw [if_neg c, if_neg c']
      unfold Dnp
      exact ⟨_, _, rfl, d1', ih⟩
def KeyOk (kvs : List (XV × XV)) (k : XV) : Prop := (isLeafX k = true ∧ leafsX kvs = true) ∨ (isNestX k = true ∧ nestsX kvs = true)
theorem KeyOk.rf {kvs : List (XV × XV)} {k : XV} (h : KeyOk kvs k) : rfX k = true ∧ keysRf kvs := by
  rcases h with ⟨a, b⟩ | ⟨a, b⟩
  · exact ⟨(leaf_rf a).1, leafs_rf b⟩
  · exact ⟨(nest_rf a).1, nests_rf b⟩
theorem KeyOk.dn {kvs : List (XV × XV)} {ps : List (EV × EV)} {k : XV} (h : KeyOk kvs k) (d : Dnp Z M kvs ps) : sortOk ps (evOf k) := by
  rcases h with ⟨a, b⟩ | ⟨a, b⟩
  · exact .inl ⟨(leaf_rf a).2, leafs_dn d b⟩
  · exact .inr ⟨(nest_rf a).2, nests_dn d b⟩
noncomputable def dLookX (kvs : List (XV × XV)) (k : XV) : Option (Option XV) := if KeyOk kvs k then some (dGetX kvs k) else none
theorem dicAt_dn {kvs : List (XV × XV)} (d : Dn1 Z M (.dic kvs) v) : ∃ p, dicAt M v = some p ∧ Dnp Z M kvs p.2 := by
  obtain ⟨k, rfl, xs, h1, h2⟩ := d
  rcases h1 with h1 | h1
  · exact ⟨(k, xs), by unfold dicAt; simp only [h1], h2⟩
  · exact ⟨(k, xs), by unfold dicAt; simp only [h1], h2⟩
theorem dLook_dn {kvs : List (XV × XV)} {k : XV} {x : EV} (d : Dn1 Z M (.dic kvs) v) (dk : Dn1 Z M k x) : (dLookX kvs k = some none → dLook v x M = some none) ∧ ∀ u, dLookX kvs k = some (some u) → ∃ y, dLook v x M = some (some y) ∧ Dn Z M u y := by
  obtain ⟨p, e1, h2⟩ := dicAt_dn d
  unfold dLookX
  by_cases c : KeyOk kvs k
  · rw [if_pos c]
    obtain ⟨r1, r2⟩ := c.rf
    have dk' : Dn Z M k x := by cases k <;> first | exact dk | (cases r1)
    have ex := ev_dn r1 dk'
    subst ex
    have e2 : dLook v (evOf k) M = some (dGet p.2 (evOf k)) := by
      unfold dLook
      rw [e1]
      dsimp only
      rw [if_pos (show isLeaf (evOf k) = true ∧ leafs p.2 = true ∨ isNest (evOf k) = true ∧ nests p.2 = true from c.dn h2)]
    rw [e2]
    obtain ⟨g1, g2⟩ := dGet_dn r1 h2 r2
    exact ⟨fun e => (by rw [g1 (by injection e)]), fun u e => (by
      obtain ⟨y, a, b⟩ := g2 u (by injection e)
      exact ⟨y, by rw [a], b⟩)⟩
  · rw [if_neg c]
    exact ⟨fun e => (by cases e), fun u e => (by cases e)⟩
noncomputable def oIn (neg : Bool) (t : XV) : XV → Option XV
  | .str j => (match t with | .str i => some (.bl (if neg = true then !(!(Builtin.Str.occurrences j i 0 j.length 1).isEmpty) else !(Builtin.Str.occurrences j i 0 j.length 1).isEmpty)) | _ => none)
  | .lst ts => (match datX t, datX (.lst ts) with
    | some d, some (.list ds) => if SeqAt.shaped d = true ∧ SeqAt.shaped (.list ds) = true then some (.bl (if neg = true then !(ds.any fun z => PyData.eqv z d) else ds.any fun z => PyData.eqv z d)) else none
    | _, _ => none)
  | .dic kvs => (dLookX kvs t).map fun o => .bl (if neg = true then !o.isSome else o.isSome)
  | _ => none
theorem pIn' (neg : Bool) : Op2 (altO (cInS neg) (altO (cInD neg) (cInK neg))) (oIn neg) := fun Z M t s v w r a b c => by
  cases s <;> first | (cases c; done) | skip
  · rename_i j
    cases t <;> first | (cases c; done) | skip
    cases c
    rw [dn1_str] at a b
    subst a b
    exact okx (u := .bl _) rfl (by simp)
  · rename_i ts
    unfold oIn at c
    dsimp only at c
    cases q : datX t with
    | none => rw [q] at c; cases c
    | some d =>
      rw [q] at c
      cases q2 : datX (.lst ts) with
      | none => rw [q2] at c; cases c
      | some e =>
        rw [q2] at c
        cases e <;> first | (cases c; done) | skip
        rename_i ds
        dsimp only at c
        split at c
        · rename_i hs
          cases c
          refine okx (u := .bl _) ?_ (by simp; rfl)
          have e1 : dat M v = some d := toD_dn a q
          have e2 : dat M w = some (.list ds) := toD_dn b q2
          obtain ⟨k, rfl, _⟩ := b
          unfold altO
          have e3 : cInS neg v (.ref k) M = .bad := by cases v <;> rfl
          simp only [e3]
          have e4 : cInD neg v (.ref k) M = .ok (.bl (if neg = true then !(ds.any fun z => PyData.eqv z d) else ds.any fun z => PyData.eqv z d)) M := by
            unfold cInD
            rw [e1, e2]
            dsimp only
            rw [if_pos hs]
          rw [e4]
        · cases c
  · rename_i kvs
    unfold oIn at c
    dsimp only at c
    cases q : dLookX kvs t with
    | none => rw [q] at c; cases c
    | some o =>
      rw [q] at c
      cases c
      obtain ⟨g1, g2⟩ := dLook_dn b a (k := t)
      refine okx (u := .bl (if neg = true then !o.isSome else o.isSome)) ?_ (by simp)
      have e5 : ∃ o', dLook w v M = some o' ∧ o'.isSome = o.isSome := by
        cases o with
        | none => exact ⟨_, g1 q, rfl⟩
        | some u => obtain ⟨y, g, _⟩ := g2 u q; exact ⟨_, g, rfl⟩
      obtain ⟨o', e6, e7⟩ := e5
      obtain ⟨k, rfl, xs, h1, h2⟩ := b
      unfold altO
      have e3 : cInS neg v (.ref k) M = .bad := by cases v <;> rfl
      have e4 : cInD neg v (.ref k) M = .bad := by
        unfold cInD
        have : dat M (.ref k) = none := by
          show toD 60 M (.ref k) = none
          unfold toD
          rcases h1 with h1 | h1 <;> simp only [h1]
        rw [this]
        cases dat M v <;> rfl
      simp only [e3, e4]
      unfold cInK
      rw [e6]
      dsimp only
      rw [e7]
theorem pIn : Op2 cInV (oIn false) := pIn' false
theorem pNotIn : Op2 cNotInV (oIn true) := pIn' true
/-! items -/
def seqItm (ts : List XV) (y : XV) : Option XV := match y with
  | .int i => (ixE ts.length i).bind fun j => ts[j]?
  | _ => none
noncomputable def oItm (x y : XV) : Option XV := match x with
  | .dic kvs => (dLookX kvs y).bind id
  | .str z => (match y with
    | .int i => if z.length ≤ sizeLine then (L2.atI z.cps.toList i).map fun c => .str ⟨#[c]⟩ else none
    | _ => none)
  | .lst ts => seqItm ts y
  | .tup ts => seqItm ts y
  | _ => none
theorem itm_seq {x : XV} {ts : List XV} {i : Int} {j : Nat} {u : XV} (a : Dn1 Z M x v) (q : asSeq x = some ts) (q2 : ixE ts.length i = some j) (q3 : ts[j]? = some u) : OkX Z M (itmV v (.int i) M) u := by
  obtain ⟨xs, h1, h2⟩ := getS_dn a q
  obtain ⟨y, h3, h4⟩ := h2.get q3
  refine okx (u := y) ?_ h4
  unfold itmV altO getItm
  dsimp only
  rw [h1]
  dsimp only
  rw [h2.len, q2]
  dsimp only
  rw [h3]
theorem itm_seq2 {x s r : XV} {ts : List XV} (a : Dn1 Z M x v) (b : Dn1 Z M s w) (q : asSeq x = some ts) (c : seqItm ts s = some r) : OkX Z M (itmV v w M) r := by
  cases s <;> first | (cases c; done) | skip
  rename_i i
  rw [dn1_int] at b
  subst b
  unfold seqItm at c
  dsimp only at c
  cases q2 : ixE ts.length i with
  | none => rw [q2] at c; cases c
  | some j =>
    rw [q2, Option.bind_some] at c
    exact itm_seq a q q2 c
theorem pItm : Op2 itmV oItm := fun Z M t s v w r a b c => by
  cases t with
  | lst ts => exact itm_seq2 a b rfl c
  | tup ts => exact itm_seq2 a b rfl c
  | str z =>
    cases s <;> first | (cases c; done) | skip
    rename_i i
    rw [dn1_int] at b
    subst b
    unfold oItm at c
    dsimp only at c
    split at c
    · rename_i hz
      cases q : L2.atI z.cps.toList i with
      | none => rw [q] at c; cases c
      | some ch =>
        rw [q] at c
        cases c
        rw [dn1_str] at a
        subst a
        refine okx (u := .str ⟨#[ch]⟩) ?_ (by simp)
        unfold itmV altO getItm
        have : getS M (.str z) = none := rfl
        dsimp only
        rw [this]
        dsimp only
        rw [if_pos hz, q]
    · cases c
  | dic kvs =>
    unfold oItm at c
    dsimp only at c
    cases q : dLookX kvs s with
    | none => rw [q] at c; cases c
    | some o =>
      cases o with
      | none => rw [q] at c; cases c
      | some u =>
        rw [q] at c
        cases c
        obtain ⟨y, g, d⟩ := (dLook_dn a b (k := s)).2 _ q
        refine okx (u := y) ?_ d
        have e1 : getItm v w M = .bad := by
          obtain ⟨k, rfl, xs, h1, h2⟩ := a
          unfold getItm
          cases w <;> first | rfl | skip
          have : getS M (.ref k) = none := by
            show getL M (.ref k) = none
            unfold getL
            rcases h1 with h1 | h1 <;> simp only [h1]
          dsimp only
          rw [this]
        unfold itmV altO
        rw [e1]
        unfold getD
        dsimp only
        rw [g]
  | _ => cases c
end
end WS

set_option Elab.async false
set_option linter.all false
set_option maxRecDepth 100000
/-! The tree layer: built-ins, changes of lists and dicts. -/
namespace WS
open PySem PySem.Spec PyProof.Rows L2
open PySem.W (dataLt dataLe keyToks alike AllAlike Sortable SortsAt sortVals)
open Classical
section
variable {Z Z' Wr : Nat → Prop} {M M' : Mem} {v w : EV} {σ : StE} {τ τ' : XSt}
theorem eB1 {F : EV → Mem → Res EV} {f : FE} : eB (f1 F) (aCons f aNil) = e1 F f := by
  funext σ M
  unfold eB e1 aCons aNil
  cases f σ M <;> rfl
theorem eB2 {F : EV → EV → Mem → Res EV} {f g : FE} : eB (f2 F) (aCons f (aCons g aNil)) = e2 F f g := by
  funext σ M
  unfold eB e2 aCons aNil
  cases f σ M with
  | err x M1 => rfl
  | bad => rfl
  | ok v M1 =>
    simp only [Res.bind]
    cases g σ M1 <;> rfl
theorem qb1 {F : EV → Mem → Res EV} {o : XV → Option XV} {f : FE} {x : XB} (ho : Op1 F o) (h : QB f x) : QE (eB (f1 F) (aCons f aNil)) (x1 o x) := eB1 ▸ q1 ho h
theorem qb1F {F : EV → Mem → Res EV} {o : XV → Option XV} {f : FE} {x : XB} (ho : Op1F F o) (h : QB f x) : QF (eB (f1 F) (aCons f aNil)) (x1 o x) := eB1 ▸ q1F ho h
theorem qb2 {F : EV → EV → Mem → Res EV} {o : XV → XV → Option XV} {f g : FE} {x y : XB} (ho : Op2 F o) (h : QB f x) (h2 : QB g y) : QE (eB (f2 F) (aCons f (aCons g aNil))) (x2 o x y) := eB2 ▸ q2 ho h h2
def altF1 (A B : EV → Mem → Res EV) : EV → Mem → Res EV := fun x M => match A x M with
  | .bad => B x M
  | r => r
theorem altF_eq {A B : EV → Mem → Res EV} : altF (f1 A) (f1 B) = f1 (altF1 A B) := by
  funext xs M
  unfold altF f1 altF1
  cases xs with
  | nil => rfl
  | cons x r => cases r <;> rfl
/-! lengths, copies -/
def oLen : XV → Option XV
  | .str z => if z.length ≤ sizeLine then some (.int z.length) else none
  | .lst ts => some (.int ts.length)
  | .tup ts => some (.int ts.length)
  | .sl ts => some (.int ts.length)
  | .dic ts => if leafsX ts = true ∨ nestsX ts = true then some (.int ts.length) else none
  | _ => none
theorem pLen : Op1 (altF1 lenV lenD) oLen := fun Z M t v r a c => by
  cases t with
  | str z =>
    unfold oLen at c
    dsimp only at c
    split at c
    · rename_i hz
      cases c
      rw [dn1_str] at a
      subst a
      refine okx (u := .int z.length) ?_ (by simp)
      unfold altF1 lenV
      dsimp only
      rw [if_pos hz]
    · cases c
  | lst ts =>
    cases c
    obtain ⟨xs, h1, h2⟩ := getS_dn a rfl
    obtain ⟨k, rfl, _⟩ := a
    refine okx (u := .int xs.length) ?_ (by simp [h2.len])
    unfold altF1 lenV
    dsimp only
    rw [h1]
  | tup ts =>
    cases c
    obtain ⟨xs, h1, h2⟩ := getS_dn a rfl
    obtain ⟨xs', rfl, _⟩ := dn1_tup.mp a
    refine okx (u := .int xs.length) ?_ (by simp [h2.len])
    unfold altF1 lenV
    dsimp only
    rw [h1]
  | sl ts =>
    cases c
    rw [dn1_sl] at a
    subst a
    refine okx (u := .int ts.length) ?_ (by simp)
    unfold altF1 lenV
    have : getS M (.sl ts) = some (ts.map .int) := rfl
    dsimp only
    rw [this]
    dsimp only
    rw [List.length_map]
  | dic ts =>
    unfold oLen at c
    dsimp only at c
    split at c
    · rename_i hk
      cases c
      obtain ⟨p, e1, h2⟩ := dicAt_dn a
      obtain ⟨k, rfl, xs, h1, _⟩ := a
      refine okx (u := .int p.2.length) ?_ (by simp [h2.len])
      have e2 : lenV (.ref k) M = .bad := by
        unfold lenV
        have : getS M (.ref k) = none := by
          show getL M (.ref k) = none
          unfold getL
          rcases h1 with h1 | h1 <;> simp only [h1]
        dsimp only
        rw [this]
      unfold altF1
      rw [e2]
      unfold lenD
      dsimp only
      rw [e1]
      dsimp only
      rw [if_pos (hk.imp (leafs_dn h2) (nests_dn h2))]
    · cases c
  | _ => cases c
def asSeqL : XV → Option (List XV)
  | .lst ts => some ts
  | .tup ts => some ts
  | .sl ts => some (ts.map .int)
  | _ => none
theorem getSL_dn {t : XV} {v : EV} {ts : List XV} (d : Dn1 Z M t v) (e : asSeqL t = some ts) : ∃ xs, getS M v = some xs ∧ Dns Z M ts xs := by
  cases t with
  | lst ts => exact getS_dn d e
  | tup ts => exact getS_dn d e
  | sl l =>
    cases e
    rw [dn1_sl] at d
    subst d
    exact ⟨_, rfl, Dns.map fun _ _ => by simp⟩
  | _ => cases e
def oList (t : XV) : Option XV := (asSeqL t).bind fun ts => if ts.length ≤ sizeLine then some (.lst ts) else none
theorem pList : Op1F listV oList := fun Z M t v r a c => by
  unfold oList at c
  cases q : asSeqL t with
  | none => rw [q] at c; cases c
  | some ts =>
    rw [q, Option.bind_some] at c
    split at c
    · rename_i hz
      cases c
      obtain ⟨xs, h1, h2⟩ := getSL_dn a q
      unfold listV
      rw [h1]
      exact okF_lst h2 hz
    · cases c
def oTupl : XV → Option XV
  | .tup ts => some (.tup ts)
  | .lst ts => if ts.length ≤ sizeLine then some (.tup ts) else none
  | _ => none
theorem pTupl : Op1 tupV oTupl := fun Z M t v r a c => by
  cases t with
  | tup ts =>
    cases c
    have a0 := a
    obtain ⟨xs, rfl, h⟩ := dn1_tup.mp a
    exact okx (u := .tup xs) rfl a0
  | lst ts =>
    unfold oTupl at c
    dsimp only at c
    split at c
    · rename_i hz
      cases c
      obtain ⟨k, rfl, xs, h1, h2⟩ := a
      refine okx (u := .tup xs) ?_ (dn_tup.mpr ⟨_, rfl, h2⟩)
      unfold tupV
      have : getL M (.ref k) = some xs := by unfold getL; simp only [h1]
      dsimp only
      rw [this]
      unfold newT
      dsimp only
      rw [if_pos (by rw [h2.len]; exact hz)]
    · cases c
  | _ => cases c
/-! of whole numbers -/
def intsX : List XV → Option (List Int)
  | [] => some []
  | .int i :: r => (intsX r).map (i :: ·)
  | _ :: _ => none
def blsX : List XV → Option (List Bool)
  | [] => some []
  | .bl i :: r => (blsX r).map (i :: ·)
  | _ :: _ => none
def strsX : List XV → Option (List Str)
  | [] => some []
  | .str i :: r => (strsX r).map (i :: ·)
  | _ :: _ => none
theorem intsX_dn : ∀ {ts : List XV} {xs : List EV} {l : List Int}, Dns Z M ts xs → intsX ts = some l → intsOf xs = some l
  | [], xs, l, d, e => by unfold Dns at d; subst d; cases e; rfl
  | t :: ts, xs, l, d, e => by
    unfold Dns at d
    obtain ⟨x, r, rfl, d1, d2⟩ := d
    cases t <;> first | (cases e; done) | skip
    rw [dn_int] at d1
    subst d1
    unfold intsX at e
    cases q : intsX ts with
    | none => rw [q] at e; cases e
    | some l' =>
      rw [q] at e
      cases e
      unfold intsOf
      rw [intsX_dn d2 q]
      rfl
theorem blsX_dn : ∀ {ts : List XV} {xs : List EV} {l : List Bool}, Dns Z M ts xs → blsX ts = some l → blsOf xs = some l
  | [], xs, l, d, e => by unfold Dns at d; subst d; cases e; rfl
  | t :: ts, xs, l, d, e => by
    unfold Dns at d
    obtain ⟨x, r, rfl, d1, d2⟩ := d
    cases t <;> first | (cases e; done) | skip
    rw [dn_bl] at d1
    subst d1
    unfold blsX at e
    cases q : blsX ts with
    | none => rw [q] at e; cases e
    | some l' =>
      rw [q] at e
      cases e
      unfold blsOf
      rw [blsX_dn d2 q]
      rfl
theorem strsX_dn : ∀ {ts : List XV} {xs : List EV} {l : List Str}, Dns Z M ts xs → strsX ts = some l → strsOf xs = some l
  | [], xs, l, d, e => by unfold Dns at d; subst d; cases e; rfl
  | t :: ts, xs, l, d, e => by
    unfold Dns at d
    obtain ⟨x, r, rfl, d1, d2⟩ := d
    cases t <;> first | (cases e; done) | skip
    rw [dn_str] at d1
    subst d1
    unfold strsX at e
    cases q : strsX ts with
    | none => rw [q] at e; cases e
    | some l' =>
      rw [q] at e
      cases e
      unfold strsOf
      rw [strsX_dn d2 q]
      rfl
def asL : XV → Option (List XV)
  | .lst ts => some ts
  | _ => none
theorem asL_eq {t : XV} {ts : List XV} (h : asL t = some ts) : t = .lst ts := by cases t <;> cases h; rfl
theorem getL_dn {ts : List XV} (d : Dn1 Z M (.lst ts) v) : ∃ xs, getL M v = some xs ∧ Dns Z M ts xs := by
  obtain ⟨k, rfl, xs, h1, h2⟩ := d
  exact ⟨xs, by unfold getL; simp only [h1], h2⟩
def oInts (F : List Int → Option XV) (t : XV) : Option XV := ((asL t).bind intsX).bind F
def oBls (F : List Bool → XV) (t : XV) : Option XV := ((asL t).bind blsX).map F
theorem pInts {F : List Int → Option XV} {F' : List Int → Option EV} (h : ∀ l r, F l = some r → ∃ u, F' l = some u ∧ ∀ Z M, Dn Z M r u) : Op1 (onInts F') (oInts F) := fun Z M t v r a c => by
  unfold oInts at c
  cases q : asL t with
  | none => rw [q] at c; cases c
  | some ts =>
    rw [q, Option.bind_some] at c
    cases q2 : intsX ts with
    | none => rw [q2] at c; cases c
    | some l =>
      rw [q2, Option.bind_some] at c
      have := asL_eq q
      subst this
      obtain ⟨xs, h1, h2⟩ := getL_dn a
      obtain ⟨u, e, d⟩ := h l r c
      refine okx (u := u) ?_ (d Z M)
      unfold onInts
      rw [h1, Option.bind_some, intsX_dn h2 q2]
      dsimp only
      rw [e]
theorem pBls {F : List Bool → XV} {F' : List Bool → EV} (h : ∀ l Z M, Dn Z M (F l) (F' l)) : Op1 (onBls F') (oBls F) := fun Z M t v r a c => by
  unfold oBls at c
  cases q : asL t with
  | none => rw [q] at c; cases c
  | some ts =>
    rw [q, Option.bind_some] at c
    cases q2 : blsX ts with
    | none => rw [q2] at c; cases c
    | some l =>
      rw [q2] at c
      cases c
      have := asL_eq q
      subst this
      obtain ⟨xs, h1, h2⟩ := getL_dn a
      refine okx (u := F' l) ?_ (h l Z M)
      unfold onBls
      rw [h1, Option.bind_some, blsX_dn h2 q2]
def oMax := oInts fun l => (greatest l).map .int
def oMin := oInts fun l => (least l).map .int
def oSum := oInts fun l => some (.int l.sum)
def oAll := oBls fun l => .bl (l.all id)
def oAny := oBls fun l => .bl (l.any id)
theorem pMax : Op1 maxV oMax := pInts fun l r e => by
  cases q : greatest l with
  | none => rw [q] at e; cases e
  | some i => rw [q] at e; cases e; exact ⟨.int i, rfl, fun _ _ => by simp⟩
theorem pMin : Op1 minV oMin := pInts fun l r e => by
  cases q : least l with
  | none => rw [q] at e; cases e
  | some i => rw [q] at e; cases e; exact ⟨.int i, rfl, fun _ _ => by simp⟩
theorem pSum : Op1 sumV oSum := pInts fun l r e => by cases e; exact ⟨_, rfl, fun _ _ => by simp⟩
theorem pAll : Op1 allV oAll := pBls fun l Z M => by simp
theorem pAny : Op1 anyV oAny := pBls fun l Z M => by simp
def oMax2 := oII fun i j => .int (if j > i then j else i)
def oMin2 := oII fun i j => .int (if j < i then j else i)
theorem pMax2 : Op2 max2V oMax2 := op_II fun _ _ _ _ => by simp
theorem pMin2 : Op2 min2V oMin2 := op_II fun _ _ _ _ => by simp
def oAbs : XV → Option XV
  | .int i => some (.int (if i < 0 then -i else i))
  | _ => none
theorem pAbs : Op1 absV oAbs := fun Z M t v r a c => by
  cases t <;> first | (cases c; done) | skip
  cases c
  rw [dn1_int] at a
  subst a
  exact okx rfl (by simp)
def oInt : XV → Option XV
  | .int i => some (.int i)
  | .bl b => some (.int (if b then 1 else 0))
  | _ => none
theorem pInt : Op1 intV oInt := fun Z M t v r a c => by
  cases t <;> first | (cases c; done) | skip
  · cases c
    rw [dn1_bl] at a
    subst a
    exact okx rfl (by simp)
  · cases c
    rw [dn1_int] at a
    subst a
    exact okx rfl (by simp)
def oStr : XV → Option XV
  | .int i => if i.natAbs.log2 < 1920 then some (.str (toString i)) else none
  | _ => none
theorem pStr : Op1 strV oStr := fun Z M t v r a c => by
  cases t <;> first | (cases c; done) | skip
  rename_i i
  unfold oStr at c
  dsimp only at c
  split at c
  · rename_i h
    cases c
    rw [dn1_int] at a
    subst a
    refine okx (u := .str (toString i)) ?_ (by simp)
    unfold strV
    dsimp only
    rw [if_pos h]
  · cases c
/-! slices -/
theorem dns_cut {ts : List XV} {xs : List EV} {lo hi : Option Int} (d : Dns Z M ts xs) : Dns Z M ((ts.drop (HT.sIx ts.length 0 lo)).take (HT.sIx ts.length ts.length hi - HT.sIx ts.length 0 lo)) (cutE xs lo hi) := by
  unfold cutE
  rw [d.len]
  exact (d.drop _).take _
def cutX (ts : List XV) (lo hi : Option Int) : List XV := (ts.drop (HT.sIx ts.length 0 lo)).take (HT.sIx ts.length ts.length hi - HT.sIx ts.length 0 lo)
def oSlc (lo hi : Option Int) : XV → Option XV
  | .tup ts => if (cutX ts lo hi).length ≤ sizeLine then some (.tup (cutX ts lo hi)) else none
  | .str z => if z.length ≤ sizeLine then some (.str (L2.cutS z lo hi)) else none
  | .lst ts => if (cutX ts lo hi).length ≤ sizeLine then some (.lst (cutX ts lo hi)) else none
  | .sl ts => if (cutX (ts.map .int) lo hi).length ≤ sizeLine then some (.lst (cutX (ts.map .int) lo hi)) else none
  | _ => none
def oSlcL (lo hi : Option Int) : XV → Option XV
  | .lst ts => if (cutX ts lo hi).length ≤ sizeLine then some (.lst (cutX ts lo hi)) else none
  | .sl ts => if (cutX (ts.map .int) lo hi).length ≤ sizeLine then some (.lst (cutX (ts.map .int) lo hi)) else none
  | _ => none
theorem pSlcL (lo hi : Option Int) : Op1F (fun v M => slcV v lo hi M) (oSlcL lo hi) := fun Z M t v r a c => by
  cases t with
  | lst ts =>
    unfold oSlcL at c
    dsimp only at c
    split at c
    · rename_i hz
      cases c
      obtain ⟨xs, h1, h2⟩ := getL_dn a
      obtain ⟨k, rfl, _⟩ := a
      unfold slcV
      dsimp only
      rw [h1]
      exact okF_lst (dns_cut h2) hz
    · cases c
  | sl ts =>
    unfold oSlcL at c
    dsimp only at c
    split at c
    · rename_i hz
      cases c
      rw [dn1_sl] at a
      subst a
      unfold slcV
      have : getL M (.sl ts) = some (ts.map .int) := rfl
      dsimp only
      rw [this]
      exact okF_lst (dns_cut (Dns.map fun _ _ => by simp)) hz
    · cases c
  | _ => cases c
theorem pSlc (lo hi : Option Int) : Op1 (fun v M => slcV v lo hi M) (oSlc lo hi) := fun Z M t v r a c => by
  cases t with
  | lst ts => exact .inr (pSlcL lo hi Z M _ v r a c)
  | sl ts => exact .inr (pSlcL lo hi Z M _ v r a c)
  | tup ts =>
    unfold oSlc at c
    dsimp only at c
    split at c
    · rename_i hz
      cases c
      obtain ⟨xs, rfl, h⟩ := dn1_tup.mp a
      have h2 : Dns Z M (cutX ts lo hi) (cutE xs lo hi) := dns_cut h
      refine okx (u := .tup (cutE xs lo hi)) ?_ (dn_tup.mpr ⟨_, rfl, h2⟩)
      unfold slcV newT
      dsimp only
      rw [if_pos (by rw [h2.len]; exact hz)]
    · cases c
  | str z =>
    unfold oSlc at c
    dsimp only at c
    split at c
    · rename_i hz
      cases c
      rw [dn1_str] at a
      subst a
      refine okx (u := .str (L2.cutS z lo hi)) ?_ (by simp)
      unfold slcV
      dsimp only
      rw [if_pos hz]
    · cases c
  | _ => cases c
abbrev XO := XSt → XR (Option Int)
def QO (e : StE → Mem → Res (Option Int)) (x : XO) : Prop := ∀ Z Wr M σ τ, En Z Wr M σ τ → PostX (fun _ _ _ _ _ a b => b = a) Z Wr M σ τ (x τ) (e σ M)
def xoNone : XO := fun τ => .ok none τ
theorem qoNone : QO oNone xoNone := fun Z Wr M σ τ E => PostX.ok E rfl
def xoSome (f : XE) : XO := fun τ => (f τ).bind fun t τ1 => match asInt t with
  | some i => .ok (some i) τ1
  | none => .bad
theorem qoSome {f : FE} {x : XE} (h : QE f x) : QO (oSome f) (xoSome x) := fun Z Wr M σ τ E => by
  refine PostX.bind (h Z Wr M σ τ E) fun t τ1 v M1 Z1 s E1 r => ?_
  cases q : asInt t with
  | none => exact True.intro
  | some i =>
    have := asInt_eq q
    subst this
    have r : Dn Z1 M1 (.int i) v := r
    rw [dn_int] at r
    subst r
    exact PostX.ok E1 rfl
def xSlc (o : Option Int → Option Int → XV → Option XV) (f : XB) (l u : XO) : XE := fun τ => (f τ).bind fun b τ1 => (l τ1).bind fun lo τ2 => (u τ2).bind fun hi τ3 => ofO ((resB τ3 b).bind (o lo hi)) τ3
theorem qSlc {f : FE} {l u : StE → Mem → Res (Option Int)} {x : XB} {y z : XO} (h : QB f x) (h1 : QO l y) (h2 : QO u z) : QE (eSlc f l u) (xSlc oSlc x y z) := fun Z Wr M σ τ E => by
  refine PostX.bind (h Z Wr M σ τ E) fun b τ1 v M1 Z1 s E1 r => PostX.bind (h1 Z1 Wr M1 σ τ1 E1) fun lo τ2 w M2 Z2 s2 E2 r2 => PostX.bind (h2 Z2 Wr M2 σ τ2 E2) fun hi τ3 w3 M3 Z3 s3 E3 r3 => ?_
  cases r2
  cases r3
  have r := (r.step s2 (τ' := τ2)).step s3 (τ' := τ3)
  cases q : resB τ3 b with
  | none => exact True.intro
  | some t =>
    rw [Option.bind_some]
    cases q2 : oSlc lo hi t with
    | none => exact True.intro
    | some u => exact (pSlc lo hi _ _ _ _ _ (res_dn E3 r q) q2).post E3
theorem qSlcF {f : FE} {l u : StE → Mem → Res (Option Int)} {x : XB} {y z : XO} (h : QB f x) (h1 : QO l y) (h2 : QO u z) : QF (eSlc f l u) (xSlc oSlcL x y z) := fun Z Wr M σ τ E => by
  refine PostX.bind (h Z Wr M σ τ E) fun b τ1 v M1 Z1 s E1 r => PostX.bind (h1 Z1 Wr M1 σ τ1 E1) fun lo τ2 w M2 Z2 s2 E2 r2 => PostX.bind (h2 Z2 Wr M2 σ τ2 E2) fun hi τ3 w3 M3 Z3 s3 E3 r3 => ?_
  cases r2
  cases r3
  have r := (r.step s2 (τ' := τ2)).step s3 (τ' := τ3)
  cases q : resB τ3 b with
  | none => exact True.intro
  | some t =>
    rw [Option.bind_some]
    cases q2 : oSlcL lo hi t with
    | none => exact True.intro
    | some u => exact (pSlcL lo hi _ _ _ _ _ (res_dn E3 r q) q2).post E3
def oRev : XV → Option XV
  | .lst ts => if ts.reverse.length ≤ sizeLine then some (.lst ts.reverse) else none
  | _ => none
theorem pRev : Op1F revV oRev := fun Z M t v r a c => by
  cases t <;> first | (cases c; done) | skip
  unfold oRev at c
  dsimp only at c
  split at c
  · rename_i hz
    cases c
    obtain ⟨xs, h1, h2⟩ := getL_dn a
    unfold revV
    rw [h1]
    exact okF_lst h2.rev hz
  · cases c
/-! dicts made, sets counted, sorting -/
def asPair : XV → Option (XV × XV)
  | .tup [a, b] => some (a, b)
  | _ => none
def pairsX : List XV → Option (List (XV × XV))
  | [] => some []
  | t :: r => (asPair t).bind fun p => (pairsX r).map (p :: ·)
noncomputable def dFoldX (acc kvs : List (XV × XV)) : List (XV × XV) := match kvs with
  | [] => acc
  | p :: r => dFoldX (dPutX acc p.1 p.2) r
theorem asPair_eq {t : XV} {p : XV × XV} (h : asPair t = some p) : t = .tup [p.1, p.2] := by
  unfold asPair at h
  split at h
  · cases h; rfl
  · cases h
theorem pairs_dn : ∀ {ts : List XV} {xs : List EV} {l : List (XV × XV)}, Dns Z M ts xs → pairsX ts = some l → ∃ ps, pairsE xs = some ps ∧ Dnp Z M l ps
  | [], xs, l, d, e => by unfold Dns at d; subst d; cases e; exact ⟨[], rfl, by unfold Dnp; rfl⟩
  | t :: ts, xs, l, d, e => by
    unfold Dns at d
    obtain ⟨x, r, rfl, d1, d2⟩ := d
    unfold pairsX at e
    cases q : asPair t with
    | none => rw [q] at e; cases e
    | some p =>
      rw [q, Option.bind_some] at e
      cases q2 : pairsX ts with
      | none => rw [q2] at e; cases e
      | some l' =>
        rw [q2] at e
        cases e
        have := asPair_eq q
        subst this
        obtain ⟨ys, rfl, d3⟩ := dn_tup.mp d1
        unfold Dns at d3
        obtain ⟨a, r1, rfl, da, d4⟩ := d3
        unfold Dns at d4
        obtain ⟨b, r2, rfl, db, d5⟩ := d4
        unfold Dns at d5
        subst d5
        obtain ⟨ps, e1, d6⟩ := pairs_dn d2 q2
        refine ⟨(a, b) :: ps, by unfold pairsE; rw [e1]; rfl, ?_⟩
        unfold Dnp
        exact ⟨_, _, rfl, by obtain ⟨p1, p2⟩ := p; unfold Dnq; exact ⟨da, db⟩, d6⟩
theorem keysRf_put {k u : XV} (hk : rfX k = true) : ∀ {kvs : List (XV × XV)}, keysRf kvs → keysRf (dPutX kvs k u)
  | [], _, p, hp => by
    unfold dPutX at hp
    rw [List.mem_singleton] at hp
    subst hp
    exact hk
  | q :: r, h, p, hp => by
    unfold dPutX at hp
    by_cases c : q.1 = k
    · rw [if_pos c] at hp
      rcases List.mem_cons.mp hp with e | hp
      · subst e; exact h q List.mem_cons_self
      · exact h p (List.mem_cons_of_mem _ hp)
    · rw [if_neg c] at hp
      rcases List.mem_cons.mp hp with e | hp
      · subst e; exact h _ List.mem_cons_self
      · exact keysRf_put hk (fun p hp => h p (List.mem_cons_of_mem _ hp)) p hp
theorem dFold_dn : ∀ {kvs acc : List (XV × XV)} {ps acc' : List (EV × EV)}, Dnp Z M kvs ps → Dnp Z M acc acc' → keysRf kvs → keysRf acc → Dnp Z M (dFoldX acc kvs) (dFold acc' ps)
  | [], acc, ps, acc', d, da, _, _ => by unfold Dnp at d; subst d; exact da
  | (a, b) :: kvs, acc, ps, acc', d, da, h, ha => by
    unfold Dnp at d
    obtain ⟨y, r, rfl, d1, d2⟩ := d
    unfold Dnq at d1
    have hk := h (a, b) List.mem_cons_self
    have ey := ev_dn hk d1.1
    unfold dFoldX dFold
    rw [ey]
    exact dFold_dn d2 (dPut_dn hk d1.2 da ha) (fun p hp => h p (List.mem_cons_of_mem _ hp)) (keysRf_put hk ha)
noncomputable def oDict (t : XV) : Option XV := ((asL t).bind pairsX).bind fun kvs => if leafsX kvs = true ∨ nestsX kvs = true then some (.dic (dFoldX [] kvs)) else none
theorem pDict : Op1F mkD oDict := fun Z M t v r a c => by
  unfold oDict at c
  cases q : asL t with
  | none => rw [q] at c; cases c
  | some ts =>
    rw [q, Option.bind_some] at c
    cases q2 : pairsX ts with
    | none => rw [q2] at c; cases c
    | some kvs =>
      rw [q2, Option.bind_some] at c
      split at c
      · rename_i hk
        cases c
        have := asL_eq q
        subst this
        obtain ⟨xs, h1, h2⟩ := getL_dn a
        obtain ⟨ps, e1, d1⟩ := pairs_dn h2 q2
        unfold mkD
        rw [h1]
        dsimp only
        rw [e1]
        dsimp only
        rw [if_pos (hk.imp (leafs_dn d1) (nests_dn d1))]
        exact ⟨_, rfl, _, rfl, dFold_dn d1 (by unfold Dnp; rfl) (hk.elim leafs_rf nests_rf) (fun p hp => by cases hp)⟩
      · cases c
def oLenSet (t : XV) : Option XV := ((asL t).bind strsX).bind fun l => if l.length + 1 < 4096 then some (.int (onces [] l).length) else none
theorem pLenSet : Op1 lenSet oLenSet := fun Z M t v r a c => by
  unfold oLenSet at c
  cases q : asL t with
  | none => rw [q] at c; cases c
  | some ts =>
    rw [q, Option.bind_some] at c
    cases q2 : strsX ts with
    | none => rw [q2] at c; cases c
    | some l =>
      rw [q2, Option.bind_some] at c
      split at c
      · rename_i hz
        cases c
        have := asL_eq q
        subst this
        obtain ⟨xs, h1, h2⟩ := getL_dn a
        refine okx (u := .int (onces [] l).length) ?_ (by simp)
        unfold lenSet
        rw [h1]
        dsimp only
        rw [strsX_dn h2 q2]
        dsimp only
        rw [if_pos hz]
      · cases c
def datsX : List XV → Option (List PyData)
  | [] => some []
  | v :: r => match datX v, datsX r with
    | some d, some ds => some (d :: ds)
    | _, _ => none
theorem dats_dn : ∀ {ts : List XV} {xs : List EV} {ds : List PyData}, Dns Z M ts xs → datsX ts = some ds → dats M xs = some ds
  | [], xs, ds, d, e => by unfold Dns at d; subst d; cases e; rfl
  | t :: ts, xs, ds, d, e => by
    unfold Dns at d
    obtain ⟨x, r, rfl, d1, d2⟩ := d
    unfold datsX at e
    cases q : datX t with
    | none => rw [q] at e; cases e
    | some d0 =>
      cases q2 : datsX ts with
      | none => rw [q, q2] at e; cases e
      | some ds' =>
        rw [q, q2] at e
        cases e
        have e1 : dat M x = some d0 := toD_dn d1.one q
        unfold dats
        rw [e1, dats_dn d2 q2]
def datDX (t : XV) : PyData := (datX t).getD .none
def leDX (k : XV → PyData) (a b : XV) : Bool := !dataLt (k b) (k a)
theorem dns_zip : ∀ {ts : List XV} {xs : List EV}, Dns Z M ts xs → ∃ l : List (XV × EV), l.map (·.1) = ts ∧ l.map (·.2) = xs ∧ ∀ p ∈ l, Dn Z M p.1 p.2
  | [], xs, d => by unfold Dns at d; subst d; exact ⟨[], rfl, rfl, fun _ h => by cases h⟩
  | t :: ts, xs, d => by
    unfold Dns at d
    obtain ⟨x, r, rfl, d1, d2⟩ := d
    obtain ⟨l, e1, e2, h⟩ := dns_zip d2
    refine ⟨(t, x) :: l, by rw [List.map_cons, e1], by rw [List.map_cons, e2], fun p hp => ?_⟩
    rcases List.mem_cons.mp hp with e | hp
    · subst e; exact d1
    · exact h p hp
theorem zip_dns : ∀ {l : List (XV × EV)}, (∀ p ∈ l, Dn Z M p.1 p.2) → Dns Z M (l.map (·.1)) (l.map (·.2))
  | [], _ => Dns.nil
  | p :: l, h => .cons (h p List.mem_cons_self) (zip_dns fun q hq => h q (List.mem_cons_of_mem _ hq))
theorem dns_sort {ts : List XV} {xs : List EV} {le : XV → XV → Bool} {le' : EV → EV → Bool} (d : Dns Z M ts xs) (h : ∀ a b x y, a ∈ ts → b ∈ ts → Dn Z M a x → Dn Z M b y → le a b = le' x y) : Dns Z M (ts.mergeSort le) (xs.mergeSort le') := by
  obtain ⟨l, e1, e2, hl⟩ := dns_zip d
  subst e1 e2
  have m : ∀ p ∈ l, p.1 ∈ l.map (·.1) := fun p hp => List.mem_map_of_mem hp
  have s1 : (l.mergeSort (fun p q => le p.1 q.1)).map (·.1) = (l.map (·.1)).mergeSort le := List.map_mergeSort (f := fun (x : XV × EV) => x.1) (fun a _ b _ => rfl)
  have s2 : (l.mergeSort (fun p q => le p.1 q.1)).map (·.2) = (l.map (·.2)).mergeSort le' := List.map_mergeSort (f := fun (x : XV × EV) => x.2) (fun a ha b hb => h _ _ _ _ (m a ha) (m b hb) (hl a ha) (hl b hb))
  rw [← s1, ← s2]
  exact zip_dns fun p hp => hl p ((List.mergeSort_perm _ _).mem_iff.mp hp)
theorem datsX_all : ∀ {ts : List XV} {ds : List PyData}, datsX ts = some ds → ∀ t ∈ ts, ∃ d, datX t = some d
  | [], _, _, t, ht => by cases ht
  | s :: ts, ds, e, t, ht => by
    unfold datsX at e
    cases q : datX s with
    | none => rw [q] at e; cases e
    | some d0 =>
      cases q2 : datsX ts with
      | none => rw [q, q2] at e; cases e
      | some ds' =>
        rcases List.mem_cons.mp ht with z | ht
        · subst z; exact ⟨d0, q⟩
        · exact datsX_all q2 t ht
noncomputable def oSorted (t : XV) : Option XV := (asL t).bind fun ts => (datsX ts).bind fun ds => if ts.length ≤ sizeLine then (if Srt1 ds then some (.lst (ts.mergeSort (leDX datDX))) else if Srt2 ds then some (.lst (ts.mergeSort (leDX fun v => fstD (datDX v)))) else none) else none
theorem pSorted : Op1F sortedV oSorted := fun Z M t v r a c => by
  unfold oSorted at c
  cases q : asL t with
  | none => rw [q] at c; cases c
  | some ts =>
    rw [q, Option.bind_some] at c
    cases q2 : datsX ts with
    | none => rw [q2] at c; cases c
    | some ds =>
      rw [q2, Option.bind_some] at c
      split at c
      · rename_i hz
        have := asL_eq q
        subst this
        obtain ⟨xs, h1, h2⟩ := getL_dn a
        have e2 := dats_dn h2 q2
        have dd : ∀ a x, a ∈ ts → Dn Z M a x → datD M x = datDX a := fun a x ha d => by
          obtain ⟨d0, h0⟩ := datsX_all q2 a ha
          have e1 : dat M x = some d0 := toD_dn d.one h0
          unfold datD datDX
          rw [e1, h0]
        unfold sortedV
        rw [h1]
        dsimp only
        rw [e2]
        dsimp only
        split at c
        · rename_i s1
          cases c
          rw [if_pos s1]
          exact okF_lst (dns_sort h2 fun a b x y ha hb da db => by unfold leDX leD; rw [dd a x ha da, dd b y hb db]) (by rw [List.length_mergeSort]; exact hz)
        · rename_i s1
          rw [if_neg s1]
          split at c
          · rename_i s2
            cases c
            rw [if_pos s2]
            exact okF_lst (dns_sort h2 fun a b x y ha hb da db => by unfold leDX leD; dsimp only; rw [dd a x ha da, dd b y hb db]) (by rw [List.length_mergeSort]; exact hz)
          · cases c
      · cases c
/-! what kind -/
noncomputable def tagX (own : List Addr) : XV → Option Value
  | .non => some (.type "NoneType")
  | .bl _ => some (.type "bool")
  | .int _ => some (.type "int")
  | .str _ => some (.type "str")
  | .tup _ => some (.type "tuple")
  | .sl _ => some (.type "list")
  | .lst _ => some (.type "list")
  | .dic _ => some (.type "dict")
  | .ins C _ => if C ∈ own then some (.ref C) else none
  | _ => none
theorem tag_dn {own : List Addr} {t : XV} {u : Value} (a : Dn1 Z M t v) (e : tagX own t = some u) : tagV own M v = some u := by
  cases t with
  | non => rw [dn1_non] at a; subst a; exact e
  | bl b => rw [dn1_bl] at a; subst a; exact e
  | int b => rw [dn1_int] at a; subst a; exact e
  | str b => rw [dn1_str] at a; subst a; exact e
  | sl b => rw [dn1_sl] at a; subst a; exact e
  | tup ts => obtain ⟨xs, rfl, _⟩ := dn1_tup.mp a; exact e
  | lst ts => obtain ⟨k, rfl, xs, h1, _⟩ := a; unfold tagV; simp only [h1]; exact e
  | dic ts =>
    obtain ⟨k, rfl, xs, h1, _⟩ := a
    unfold tagV
    rcases h1 with h1 | h1 <;> (simp only [h1]; exact e)
  | ins C ts =>
    obtain ⟨k, rfl, xs, h1, _⟩ := a
    unfold tagV
    simp only [h1]
    unfold tagX at e
    dsimp only at e
    by_cases c : C ∈ own
    · rw [if_pos c] at e ⊢; exact e
    · rw [if_neg c] at e; cases e
  | _ => cases e
noncomputable def oIsi (own : List Addr) (ans : Value → Option Bool) (t : XV) : Option XV := ((tagX own t).bind ans).map .bl
theorem pIsi (own : List Addr) (ans : Value → Option Bool) : Op1 (isiV own ans) (oIsi own ans) := fun Z M t v r a c => by
  unfold oIsi at c
  cases q : tagX own t with
  | none => rw [q] at c; cases c
  | some u =>
    rw [q, Option.bind_some] at c
    cases q2 : ans u with
    | none => rw [q2] at c; cases c
    | some b =>
      rw [q2] at c
      cases c
      refine okx (u := .bl b) ?_ (by simp)
      unfold isiV
      rw [tag_dn a q]
      dsimp only
      rw [q2]
/-! d.get -/
noncomputable def xGet2 (f g : XB) (h : XE) : XE := fun τ => (f τ).bind fun d τ1 => match resB τ1 d with
  | some (.dic _) => (g τ1).bind fun k τ2 => (h τ2).bind fun z τ3 => match resB τ3 d, resB τ3 k with
    | some (.dic kvs), some kt => (match dLookX kvs kt with
      | some (some u) => .ok u τ3
      | some none => .ok z τ3
      | none => .bad)
    | _, _ => .bad
  | _ => .bad
theorem qGet2 {f g h : FE} {x y : XB} {z : XE} (hf : QB f x) (hg : QB g y) (hh : QE h z) : QE (eGet2 f g h) (xGet2 x y z) := fun Z Wr M σ τ E => by
  refine PostX.bind (hf Z Wr M σ τ E) fun d τ1 v M1 Z1 s E1 r => ?_
  cases q : resB τ1 d with
  | none => exact True.intro
  | some t =>
    cases t with
    | dic kvs0 =>
      obtain ⟨p, e1, _⟩ := dicAt_dn (res_dn E1 r q)
      dsimp only
      rw [e1]
      refine PostX.bind (hg Z1 Wr M1 σ τ1 E1) fun k τ2 w M2 Z2 s2 E2 r2 => PostX.bind (hh Z2 Wr M2 σ τ2 E2) fun z τ3 w3 M3 Z3 s3 E3 r3 => ?_
      have r := (r.step s2 (τ' := τ2)).step s3 (τ' := τ3)
      have r2 := r2.step s3 (τ' := τ3)
      cases q1 : resB τ3 d with
      | none => exact True.intro
      | some t1 =>
        cases t1 with
        | dic kvs =>
          cases q2 : resB τ3 k with
          | none => exact True.intro
          | some kt =>
            dsimp only
            obtain ⟨g1, g2⟩ := dLook_dn (res_dn E3 r q1) (res_dn E3 r2 q2)
            cases q3 : dLookX kvs kt with
            | none => exact True.intro
            | some o =>
              cases o with
              | none =>
                have : getM v w w3 M3 = .ok w3 M3 := by unfold getM; rw [g1 q3]
                rw [this]
                exact PostX.ok E3 r3
              | some u =>
                obtain ⟨y, g, dy⟩ := g2 u q3
                have : getM v w w3 M3 = .ok y M3 := by unfold getM; rw [g]
                rw [this]
                exact PostX.ok E3 dy
        | _ => exact True.intro
    | _ => exact True.intro
end
end WS

set_option Elab.async false
set_option linter.all false
set_option maxRecDepth 100000
/-! The tree layer: changes, objects, dict walks. -/
namespace WS
open PySem PySem.Spec PyProof.Rows L2
open PySem.W (dataLt dataLe keyToks alike AllAlike Sortable SortsAt sortVals)
open Classical
section
variable {Z Z' Wr : Nat → Prop} {M M' : Mem} {v w : EV} {σ : StE} {τ τ' : XSt}
theorem kp_set {k : Nat} {o : EO} (h : ¬ Z k) : Kp Z M (M.set k o) := fun j p z e => ⟨p, by rw [List.getElem?_set_ne (fun q => h (by rw [q]; exact z))]; exact e, .inl rfl⟩
/-- the cell of an owned name written -/
theorem En.cell (E : En Z Wr M σ τ) {i k : Nat} {s : Slot} {t' : XV} {o' : EO} (e : τ[i]? = some (some s)) (hs : s.own = true) (e2 : σ[i]? = some (some (.ref k))) (n : Nd Z M t' o') : En Z Wr (M.set k o') σ (updS τ i t') ∧ Stp Z Wr M Z (M.set k o') ∧ Pin τ (updS τ i t') := by
  obtain ⟨v, e1, rr⟩ := E.on i s e
  rw [e2] at e1
  cases e1
  have ww : Wr k ∧ ¬ Z k ∧ k < M.length := by
    cases s with
    | ow t => obtain ⟨l, p, q1, q2, q3, q4, _⟩ := rr; cases q1; exact ⟨q2, q3, (List.getElem?_eq_some_iff.mp q4).1⟩
    | mu t => obtain ⟨l, p, q1, q2, q3, q4, _⟩ := rr; cases q1; exact ⟨q2, q3, (List.getElem?_eq_some_iff.mp q4).1⟩
    | sh t => cases hs
    | bo t => cases hs
  have kp : Kp Z M (M.set k o') := kp_set ww.2.1
  have mz : ∀ j, Z j → Z j := fun _ h => h
  refine ⟨⟨fun j h => by rw [List.length_set]; exact E.lt j h, fun j h => E.fr j (by rw [List.length_set] at h; exact h), by rw [updS_len]; exact E.len, fun j s' ej => ?_, fun j j' s1 s2 l n' e1 e2' h1 h2 => ?_⟩, ⟨by rw [List.length_set]; exact Nat.le_refl _, mz, fun _ h => .inl h, fun j hj q => List.getElem?_set_ne fun z => ?_⟩, fun j => updS_mu⟩
  · rcases updS_get ej with ⟨c, ej⟩ | ⟨rfl, s0, a, b⟩
    · obtain ⟨w, f1, r⟩ := E.on j s' ej
      refine ⟨w, f1, ?_⟩
      have nk : ∀ l, s'.own = true → w = .ref l → l ≠ k := fun l ho ew z => by subst ew z; exact E.dis i j _ _ _ (Ne.symm c) e ej hs ho e2 f1
      cases s' with
      | sh t => exact Dn.mono mz kp r
      | bo t => exact ⟨Dn1.mono mz kp r.1 (fun l p el q => ⟨p, by rw [List.getElem?_set_ne (fun z => (r.2 l el).1 (by rw [← z]; exact ww.1))]; exact q, .inl rfl⟩), fun l el => ⟨(r.2 l el).1, by rw [List.length_set]; exact (r.2 l el).2⟩⟩
      | ow t =>
        obtain ⟨l, p, q1, q2, q3, q4, q5⟩ := r
        exact ⟨l, p, q1, q2, q3, by rw [List.getElem?_set_ne (Ne.symm (nk l rfl q1))]; exact q4, q5.mono mz kp⟩
      | mu t =>
        obtain ⟨l, p, q1, q2, q3, q4, q5⟩ := r
        exact ⟨l, p, q1, q2, q3, by rw [List.getElem?_set_ne (Ne.symm (nk l rfl q1))]; exact q4, q5.mono mz kp⟩
    · rw [a] at e
      cases e
      refine ⟨_, e2, ?_⟩
      subst b
      cases s with
      | ow t => exact ⟨k, o', rfl, ww.1, ww.2.1, List.getElem?_set_self ww.2.2, n.mono mz kp⟩
      | mu t => exact ⟨k, o', rfl, ww.1, ww.2.1, List.getElem?_set_self ww.2.2, n.mono mz kp⟩
      | sh t => cases hs
      | bo t => cases hs
  · have d : ∀ (m : Nat) (u : Slot), (updS τ i t')[m]? = some (some u) → u.own = true → ∃ u', τ[m]? = some (some u') ∧ u'.own = true := fun m u em hu => by
      rcases updS_get em with ⟨c, em⟩ | ⟨rfl, s0, a, b⟩
      · exact ⟨u, em, hu⟩
      · rw [e] at a
        cases a
        exact ⟨s, e, hs⟩
    obtain ⟨u1, a1, b1⟩ := d j s1 e1 h1
    obtain ⟨u2, a2, b2⟩ := d j' s2 e2' h2
    exact E.dis j j' u1 u2 l n' a1 a2 b1 b2
  · subst z
    exact q.elim ww.2.1 (fun q => q ww.1)
theorem own_at (E : En Z Wr M σ τ) {i : Nat} {t : XV} (h : muArg τ i = some t) : ∃ s k o, τ[i]? = some (some s) ∧ s.own = true ∧ σ[i]? = some (some (.ref k)) ∧ M[k]? = some o ∧ Nd Z M t o := by
  obtain ⟨s, a, b, c⟩ := muArg_eq h
  subst c
  obtain ⟨v, e1, rr⟩ := E.on i s a
  cases s with
  | ow t => obtain ⟨l, p, q1, q2, q3, q4, q5⟩ := rr; subst q1; exact ⟨_, l, p, a, b, e1, q4, q5⟩
  | mu t => obtain ⟨l, p, q1, q2, q3, q4, q5⟩ := rr; subst q1; exact ⟨_, l, p, a, b, e1, q4, q5⟩
  | sh t => cases b
  | bo t => cases b
/-! methods that change a list -/
abbrev MX := List XV → List XV → Option (List XV × XV)
def MutOk (F : EV → Fn) (o : MX) : Prop := ∀ Z M k ts xs args vs ts' r, M[k]? = some (.lst xs) → Dns Z M ts xs → Dns Z M args vs → o ts args = some (ts', r) → ∃ xs' u, F (.ref k) vs M = .ok u (M.set k (.lst xs')) ∧ Dns Z M ts' xs' ∧ Dn Z M r u
def xMt (i : Nat) (o : MX) (g : XA) : XE := fun τ => match muArg τ i with
  | some (.lst _) => (g τ).bind fun args τ1 => match muArg τ1 i with
    | some (.lst ts) => (match o ts args with
      | some (ts', r) => .ok r (updS τ1 i (.lst ts'))
      | none => .bad)
    | _ => .bad
  | _ => .bad
theorem qMt {i : Nat} {F : EV → Fn} {o : MX} {g : FA} {y : XA} (ho : MutOk F o) (h : QA g y) : QE (eMtL F (eV i) g) (xMt i o y) := fun Z Wr M σ τ E => by
  unfold xMt
  split
  · rename_i t0 q
    obtain ⟨s, k, ob, a1, a2, a3, a4, a5⟩ := own_at E q
    obtain ⟨xs0, q0, _⟩ := a5
    subst q0
    have : eMtL F (eV i) g σ M = (g σ M).bind fun xs M2 => F (.ref k) xs M2 := by
      unfold eMtL eV
      rw [a3]
      simp only [Res.bind]
      have : getL M (.ref k) = some xs0 := by unfold getL; simp only [a4]
      rw [this]
    rw [this]
    refine PostX.bind (h Z Wr M σ τ E) fun args τ1 vs M1 Z1 st E1 r => ?_
    split
    · rename_i ts q1
      obtain ⟨s', k', ob', b1, b2, b3, b4, b5⟩ := own_at E1 q1
      rw [a3] at b3
      cases b3
      obtain ⟨xs1, q2, b6⟩ := b5
      subst q2
      cases q3 : o ts args with
      | none => exact True.intro
      | some p =>
        obtain ⟨ts', r'⟩ := p
        obtain ⟨xs', u, e, d1, d2⟩ := ho Z1 M1 k ts xs1 args vs ts' r' b4 b6 r q3
        dsimp only
        rw [e]
        obtain ⟨E2, s2, p2⟩ := E1.cell b1 b2 a3 (show Nd Z1 M1 (.lst ts') (.lst xs') from ⟨xs', rfl, d1⟩)
        exact ⟨u, _, Z1, rfl, s2, E2, p2, s2.dn d2⟩
    · exact True.intro
  · exact True.intro
theorem modL_ref {k : Nat} {xs ys : List EV} {u : EV} {g : List EV → Option (List EV × EV)} (h : M[k]? = some (.lst xs)) (e : g xs = some (ys, u)) : modL (.ref k) M g = .ok u (M.set k (.lst ys)) := by
  unfold modL isRefL
  simp only [h, e]
def oApp : MX := fun ts args => match args with
  | [y] => if ts.length < sizeLine then some (ts ++ [y], .non) else none
  | _ => none
theorem pApp : MutOk mAppend oApp := fun Z M k ts xs args vs ts' r h d da c => by
  match args, c with
  | [y], c =>
    unfold oApp at c
    dsimp only at c
    split at c
    · rename_i hz
      cases c
      unfold Dns at da
      obtain ⟨x, r1, rfl, d1, d2⟩ := da
      unfold Dns at d2
      subst d2
      refine ⟨xs ++ [x], .non, ?_, d.app (.cons d1 .nil), by simp⟩
      unfold mAppend m1
      exact modL_ref h (if_pos (by rw [d.len]; exact hz))
    · cases c
  | [], c => exact absurd c (by simp [oApp])
  | _ :: _ :: _, c => exact absurd c (by simp [oApp])
def oPopAt : MX := fun ts args => match args with
  | [.int i] => if -(2 ^ 63) ≤ i ∧ i < 2 ^ 63 then (match seqIndex? i ts.length with
    | some k => (match ts[k]? with
      | some v => some (ts.eraseIdx k, v)
      | none => none)
    | none => none) else none
  | _ => none
theorem pPopAt : MutOk mPopAt oPopAt := fun Z M k ts xs args vs ts' r h d da c => by
  match args, c with
  | [y], c =>
    cases y <;> first | (cases c; done) | skip
    rename_i i
    unfold Dns at da
    obtain ⟨x, r1, rfl, d1, d2⟩ := da
    unfold Dns at d2
    subst d2
    rw [dn_int] at d1
    subst d1
    unfold oPopAt at c
    dsimp only at c
    split at c
    · rename_i hz
      cases q : seqIndex? i ts.length with
      | none => rw [q] at c; cases c
      | some j =>
        rw [q] at c
        dsimp only at c
        cases q2 : ts[j]? with
        | none => rw [q2] at c; cases c
        | some u =>
          rw [q2] at c
          cases c
          obtain ⟨y, g1, g2⟩ := d.get q2
          refine ⟨xs.eraseIdx j, y, ?_, d.erase j, g2⟩
          unfold mPopAt m1
          refine modL_ref h ?_
          dsimp only
          split
          · rw [d.len, q]
            dsimp only
            rw [g1]
          · rename_i n
            exact (n hz).elim
    · cases c
  | [], c => exact absurd c (by simp [oPopAt])
  | _ :: _ :: _, c => exact absurd c (by simp [oPopAt])
def oPop : MX := fun ts args => match args with
  | [] => (match ts[ts.length - 1]? with
    | some v => some (ts.dropLast, v)
    | none => none)
  | _ => none
theorem pPop : MutOk mPop oPop := fun Z M k ts xs args vs ts' r h d da c => by
  match args, c with
  | [], c =>
    unfold Dns at da
    subst da
    unfold oPop at c
    dsimp only at c
    cases q2 : ts[ts.length - 1]? with
    | none => rw [q2] at c; cases c
    | some u =>
      rw [q2] at c
      cases c
      obtain ⟨y, g1, g2⟩ := d.get q2
      refine ⟨xs.dropLast, y, ?_, d.dropLast, g2⟩
      unfold mPop m0
      refine modL_ref h ?_
      rw [d.len, g1]
  | _ :: _, c => exact absurd c (by simp [oPop])
def oReverse : MX := fun ts args => match args with
  | [] => some (ts.reverse, .non)
  | _ => none
theorem pReverse : MutOk mReverse oReverse := fun Z M k ts xs args vs ts' r h d da c => by
  match args, c with
  | [], c =>
    unfold Dns at da
    subst da
    cases c
    exact ⟨xs.reverse, .non, by unfold mReverse m0; exact modL_ref h rfl, d.rev, by simp⟩
  | _ :: _, c => exact absurd c (by simp [oReverse])
def oClear : MX := fun ts args => match args with
  | [] => some ([], .non)
  | _ => none
theorem pClear : MutOk mClear oClear := fun Z M k ts xs args vs ts' r h d da c => by
  match args, c with
  | [], c =>
    unfold Dns at da
    subst da
    cases c
    exact ⟨[], .non, by unfold mClear m0; exact modL_ref h rfl, .nil, by simp⟩
  | _ :: _, c => exact absurd c (by simp [oClear])
def oInsert : MX := fun ts args => match args with
  | [.int i, y] => if ts.length < sizeLine ∧ 0 ≤ i ∧ i < 2 ^ 63 then some (ts.take i.toNat ++ [y] ++ ts.drop i.toNat, .non) else none
  | _ => none
theorem pInsert : MutOk mInsert oInsert := fun Z M k ts xs args vs ts' r h d da c => by
  match args, c with
  | [y, z], c =>
    cases y <;> first | (cases c; done) | skip
    rename_i i
    unfold Dns at da
    obtain ⟨x, r1, rfl, d1, d2⟩ := da
    unfold Dns at d2
    obtain ⟨x2, r2, rfl, d2, d3⟩ := d2
    unfold Dns at d3
    subst d3
    rw [dn_int] at d1
    subst d1
    unfold oInsert at c
    dsimp only at c
    split at c
    · rename_i hz
      cases c
      refine ⟨xs.take i.toNat ++ [x2] ++ xs.drop i.toNat, .non, ?_, ((d.take _).app (.cons d2 .nil)).app (d.drop _), by simp⟩
      unfold mInsert
      exact modL_ref h (if_pos (by rw [d.len]; exact hz))
    · cases c
  | [], c => exact absurd c (by simp [oInsert])
  | [_], c => exact absurd c (by simp [oInsert])
  | _ :: _ :: _ :: _, c => exact absurd c (by simp [oInsert])
/-! l.count(x) -/
def oCount (t : XV) (y : XV) : Option XV := match datX t, datX y with
  | some (.list ds), some d => if (PyData.plainAll ds = true ∧ d.plain = true) ∧ PyData.depthAll ds ≤ 60 ∧ ds.length ≤ sizeLine then some (.int (ds.countP fun z => PyData.eqv z d : Nat)) else none
  | _, _ => none
def xCount (f : XB) (g : XE) : XE := fun τ => (f τ).bind fun b τ1 => match resB τ1 b with
  | some (.lst _) => (g τ1).bind fun y τ2 => ofO ((resB τ2 b).bind fun t => oCount t y) τ2
  | _ => .bad
theorem qCount {f g : FE} {x : XB} {y : XE} (h : QB f x) (h2 : QE g y) : QE (eMtL mCount f (aCons g aNil)) (xCount x y) := fun Z Wr M σ τ E => by
  refine PostX.bind (h Z Wr M σ τ E) fun b τ1 v M1 Z1 s E1 r => ?_
  split
  · rename_i ts q
    obtain ⟨xs, h1, _⟩ := getL_dn (res_dn E1 r q)
    rw [h1]
    dsimp only
    have : ((aCons g aNil σ M1).bind fun xs M2 => mCount v xs M2) = (g σ M1).bind fun u M2 => mCount v [u] M2 := by
      unfold aCons aNil
      cases g σ M1 <;> rfl
    rw [this]
    refine PostX.bind (h2 Z1 Wr M1 σ τ1 E1) fun u τ2 w M2 Z2 s2 E2 r2 => ?_
    have r := r.step s2 (τ' := τ2)
    cases q1 : resB τ2 b with
    | none => exact True.intro
    | some t =>
      rw [Option.bind_some]
      have d := res_dn E2 r q1
      unfold oCount
      cases q2 : datX t with
      | none => exact True.intro
      | some dt =>
        cases q3 : datX u with
        | none => cases dt <;> exact True.intro
        | some du =>
          cases dt <;> first | exact True.intro | skip
          rename_i ds
          dsimp only
          split
          · rename_i hc
            have e1 : dat M2 v = some (.list ds) := toD_dn d q2
            have e2 : dat M2 w = some du := toD_dn (Dn.one r2) q3
            have : mCount v [w] M2 = .ok (.int (ds.countP fun z => PyData.eqv z du : Nat)) M2 := by
              unfold mCount m1
              dsimp only
              rw [e1, e2]
              dsimp only
              rw [if_pos hc]
            rw [this]
            exact PostX.ok (R := RE) (t := XV.int (ds.countP fun z => PyData.eqv z du : Nat)) E2 (by show Dn _ _ _ _; simp)
          · exact True.intro
  · exact True.intro
/-! stores -/
noncomputable def putX (t i u : XV) : Option XV := match t with
  | .lst ts => (match i with
    | .int i => (ixE ts.length i).map fun j => .lst (ts.set j u)
    | _ => none)
  | .dic kvs => if KeyOk kvs i ∧ kvs.length < sizeLine then some (.dic (dPutX kvs i u)) else none
  | _ => none
theorem putX_dn {t i u t' : XV} {k : Nat} {o : EO} {wi wu : EV} (h : M[k]? = some o) (n : Nd Z M t o) (di : Dn1 Z M i wi) (du : Dn Z M u wu) (c : putX t i u = some t') : ∃ o', putV (.ref k) wi wu M = some (M.set k o') ∧ Nd Z M t' o' := by
  cases t with
  | lst ts =>
    obtain ⟨xs, rfl, n⟩ := n
    cases i <;> first | (cases c; done) | skip
    rename_i i
    rw [dn1_int] at di
    subst di
    unfold putX at c
    dsimp only at c
    cases q : ixE ts.length i with
    | none => rw [q] at c; cases c
    | some j =>
      rw [q] at c
      cases c
      refine ⟨.lst (xs.set j wu), ?_, _, rfl, n.set j du⟩
      unfold putV altP putLV isRefL
      simp only [h, n.len, q]
  | dic kvs =>
    obtain ⟨xs, rfl, n⟩ := n
    unfold putX at c
    dsimp only at c
    split at c
    · rename_i hc
      cases c
      obtain ⟨r1, r2⟩ := hc.1.rf
      have dk' : Dn Z M i wi := by cases i <;> first | exact di | (cases r1)
      have ex := ev_dn r1 dk'
      subst ex
      refine ⟨.dic (dPut xs (evOf i) wu), ?_, _, rfl, dPut_dn r1 du n r2⟩
      unfold putV altP
      have : putLV (.ref k) (evOf i) wu M = none := by
        unfold putLV isRefL
        simp only [h]
      rw [this]
      unfold putDV
      simp only [h]
      rw [if_pos ⟨hc.1.dn n, by rw [n.len]; exact hc.2⟩]
    · cases c
  | _ => cases c
noncomputable def xSto (i : Nat) (f : XE) (gi : XB) : XS := fun τ => xThen (f τ) fun u τ1 => match muArg τ1 i with
  | none => .bad
  | some _ => xThen (gi τ1) fun b τ2 => match muArg τ2 i, resB τ2 b with
    | some t, some ti => (match putX t ti u with
      | some t' => .nx (updS τ2 i t')
      | none => .bad)
    | _, _ => .bad
theorem eV_own {i k : Nat} (e : σ[i]? = some (some (.ref k))) : eV i σ M = .ok (.ref k) M := by unfold eV; rw [e]
theorem qSto {i : Nat} {f gi : FE} {x : XE} {y : XB} (h : QE f x) (h2 : QB gi y) : QS (sSto putV f (eV i) gi) (xSto i x y) := fun Z Wr M σ τ E => by
  refine PostX.thenS (h Z Wr M σ τ E) fun u τ1 wu M1 Z1 s E1 r => ?_
  cases q0 : muArg τ1 i with
  | none => exact True.intro
  | some t0 =>
    obtain ⟨sl, k, ob, b1, b2, b3, b4, b5⟩ := own_at E1 q0
    rw [eV_own b3]
    simp only [Res.thenS]
    refine PostX.thenS (h2 Z1 Wr M1 σ τ1 E1) fun b τ2 wi M2 Z2 s2 E2 r2 => ?_
    split
    · rename_i t ti q1 q2
      obtain ⟨sl, k', ob, c1, c2, c3, c4, c5⟩ := own_at E2 q1
      rw [b3] at c3
      cases c3
      split
      · rename_i t' q3
        obtain ⟨o', e3, n3⟩ := putX_dn c4 c5 (res_dn E2 r2 q2) (s2.dn r) q3
        rw [e3]
        obtain ⟨E3, s3, p3⟩ := E2.cell c1 c2 b3 n3
        exact ⟨σ, _, Z2, rfl, s3, E3, p3.s⟩
      · exact True.intro
    · exact True.intro
/-! fields, properties, methods -/
def insOf (C : Addr) : XV → Option (List (Str × XV))
  | .ins D fs => if D = C then some fs else none
  | _ => none
theorem insOf_eq {C : Addr} {t : XV} {fs : List (Str × XV)} (h : insOf C t = some fs) : t = .ins C fs := by
  cases t <;> first | (cases h; done) | skip
  unfold insOf at h
  dsimp only at h
  split at h
  · rename_i e; cases h; rw [e]
  · cases h
theorem flds_dn {C : Addr} {fs : List (Str × XV)} (d : Dn1 Z M (.ins C fs) v) : ∃ gs, fldsOf M v = some (C, gs) ∧ Dnf Z M fs gs := by
  obtain ⟨k, rfl, xs, h1, h2⟩ := d
  exact ⟨xs, by unfold fldsOf; simp only [h1], h2⟩
def oFld (C : Addr) (y : Str) (t : XV) : Option XV := (insOf C t).bind fun fs => fs.lookup y
theorem qFld {C : Addr} {y : Str} {f : FE} {x : XB} (h : QB f x) : QE (eFld C y f) (x1 (oFld C y) x) := fun Z Wr M σ τ E => by
  refine PostX.bind (h Z Wr M σ τ E) fun b τ1 v M1 Z1 s E1 r => ?_
  cases q : resB τ1 b with
  | none => exact True.intro
  | some t =>
    rw [Option.bind_some]
    unfold oFld
    cases q1 : insOf C t with
    | none => exact True.intro
    | some fs =>
      rw [Option.bind_some]
      have := insOf_eq q1
      subst this
      obtain ⟨gs, e1, d⟩ := flds_dn (res_dn E1 r q)
      rw [e1]
      dsimp only
      rw [if_pos rfl]
      cases q2 : fs.lookup y with
      | none => exact True.intro
      | some u =>
        obtain ⟨w, e2, dw⟩ := d.look.1 u q2
        rw [e2]
        exact PostX.ok E1 dw
noncomputable def xProp (C : Addr) (md : Md) (p : XFn) (f : XB) : XE := fun τ => (f τ).bind fun b τ1 => match (resB τ1 b).bind (insOf C) with
  | some _ => noE (callX τ1 [md] [b] p)
  | none => .bad
theorem qProp {C : Addr} {m : Fn} {md : Md} {p : XFn} {f : FE} {x : XB} (hf : FnQ [md] m p) (h : QB f x) : QE (eProp C m f) (xProp C md p x) := fun Z Wr M σ τ E => by
  refine PostX.bind (h Z Wr M σ τ E) fun b τ1 v M1 Z1 s E1 r => ?_
  cases q : resB τ1 b with
  | none => exact True.intro
  | some t =>
    rw [Option.bind_some]
    cases q1 : insOf C t with
    | none => exact True.intro
    | some fs =>
      have := insOf_eq q1
      subst this
      obtain ⟨gs, e1, d⟩ := flds_dn (res_dn E1 r q)
      rw [e1]
      dsimp only
      rw [if_pos rfl]
      exact (callX_post E1 (show RBs Z1 Wr M1 σ τ1 [b] [v] from ⟨v, [], rfl, r, rfl⟩) hf).noE
noncomputable def xMeth (C : Addr) (nm : Str) (ms : List Md) (p : XFn) (f : XB) (g : XM) : XE := fun τ => (f τ).bind fun b τ1 => match (resB τ1 b).bind (insOf C) with
  | some fs => if fs.lookup nm = none then (g τ1).bind fun bs τ2 => callX τ2 ms (b :: bs) p else .bad
  | none => .bad
noncomputable def xMethF (C : Addr) (nm : Str) (ms : List Md) (p : XFn) (f : XB) (g : XM) : XE := fun τ => (f τ).bind fun b τ1 => match (resB τ1 b).bind (insOf C) with
  | some fs => if fs.lookup nm = none then (g τ1).bind fun bs τ2 => callF τ2 ms (b :: bs) p else .bad
  | none => .bad
theorem callX_len {ms : List Md} {bs : List BV} {p : XFn} (h : bs.length ≠ ms.length) : callX τ ms bs p = .bad := by
  unfold callX
  cases e : getArgs τ ms bs with
  | none => rfl
  | some ts => exact (h (getArgs_len e)).elim
theorem callF_len {ms : List Md} {bs : List BV} {p : XFn} (h : bs.length ≠ ms.length) : callF τ ms bs p = .bad := by
  unfold callF
  cases e : getArgs τ ms bs with
  | none => rfl
  | some ts => exact (h (getArgs_len e)).elim
theorem qMeth {C : Addr} {nm : Str} {m : Fn} {ms : List Md} {n : Nat} {p : XFn} {f : FE} {x : XB} {g : FA} {y : XM} (hf : FnQ ms m p) (h : QB f x) (h2 : QM g y) (hn : ms.length = n) : QE (eMeth C nm n m f g) (xMeth C nm ms p x y) := fun Z Wr M σ τ E => by
  refine PostX.bind (h Z Wr M σ τ E) fun b τ1 v M1 Z1 s E1 r => ?_
  cases q : resB τ1 b with
  | none => exact True.intro
  | some t =>
    rw [Option.bind_some]
    cases q1 : insOf C t with
    | none => exact True.intro
    | some fs =>
      have := insOf_eq q1
      subst this
      obtain ⟨gs, e1, d⟩ := flds_dn (res_dn E1 r q)
      dsimp only
      split
      · rename_i c
        rw [e1]
        dsimp only
        rw [if_pos ⟨rfl, d.look.2 c⟩]
        refine PostX.bind (h2 Z1 Wr M1 σ τ1 E1) fun bs τ2 vs M2 Z2 s2 E2 r2 => ?_
        have rb : RBs Z2 Wr M2 σ τ2 (b :: bs) (v :: vs) := ⟨v, vs, rfl, r.step s2, r2⟩
        by_cases hl : (b :: bs).length = ms.length
        · rw [if_pos (by rw [rb.len, hl, hn])]
          exact callX_post E2 rb hf
        · rw [callX_len hl]; exact True.intro
      · exact True.intro
theorem qMethF {C : Addr} {nm : Str} {m : Fn} {ms : List Md} {n : Nat} {p : XFn} {f : FE} {x : XB} {g : FA} {y : XM} (hf : FnQ ms m p) (h : QB f x) (h2 : QM g y) (hn : ms.length = n) : QF (eMeth C nm n m f g) (xMethF C nm ms p x y) := fun Z Wr M σ τ E => by
  refine PostX.bind (h Z Wr M σ τ E) fun b τ1 v M1 Z1 s E1 r => ?_
  cases q : resB τ1 b with
  | none => exact True.intro
  | some t =>
    rw [Option.bind_some]
    cases q1 : insOf C t with
    | none => exact True.intro
    | some fs =>
      have := insOf_eq q1
      subst this
      obtain ⟨gs, e1, d⟩ := flds_dn (res_dn E1 r q)
      dsimp only
      split
      · rename_i c
        rw [e1]
        dsimp only
        rw [if_pos ⟨rfl, d.look.2 c⟩]
        refine PostX.bind (h2 Z1 Wr M1 σ τ1 E1) fun bs τ2 vs M2 Z2 s2 E2 r2 => ?_
        have rb : RBs Z2 Wr M2 σ τ2 (b :: bs) (v :: vs) := ⟨v, vs, rfl, r.step s2, r2⟩
        by_cases hl : (b :: bs).length = ms.length
        · rw [if_pos (by rw [rb.len, hl, hn])]
          exact callF_post E2 rb hf
        · rw [callF_len hl]; exact True.intro
      · exact True.intro
noncomputable def xStatI (C : Addr) (nm : Str) (f : XB) (e : XE) : XE := fun τ => (f τ).bind fun b τ1 => match (resB τ1 b).bind (insOf C) with
  | some fs => if fs.lookup nm = none then e τ1 else .bad
  | none => .bad
theorem qStatI {C : Addr} {nm : Str} {m : Fn} {n : Nat} {f : FE} {x : XB} {g : FA} {e : XE} (h : QB f x) (h2 : QE (eCall n m g) e) : QE (eStatI C nm n m f g) (xStatI C nm x e) := fun Z Wr M σ τ E => by
  refine PostX.bind (h Z Wr M σ τ E) fun b τ1 v M1 Z1 s E1 r => ?_
  cases q : resB τ1 b with
  | none => exact True.intro
  | some t =>
    rw [Option.bind_some]
    cases q1 : insOf C t with
    | none => exact True.intro
    | some fs =>
      have := insOf_eq q1
      subst this
      obtain ⟨gs, e1, d⟩ := flds_dn (res_dn E1 r q)
      dsimp only
      split
      · rename_i c
        rw [e1]
        dsimp only
        rw [if_pos ⟨rfl, d.look.2 c⟩]
        exact h2 _ _ _ _ _ E1
      · exact True.intro
/-! an attribute set -/
def putFX (y : Str) (v : XV) : List (Str × XV) → List (Str × XV)
  | [] => [(y, v)]
  | p :: r => if p.1 = y then (p.1, v) :: r else p :: putFX y v r
theorem putF_dn {y : Str} {u : XV} {x : EV} (du : Dn Z M u x) : ∀ {fs : List (Str × XV)} {gs : List (Str × EV)}, Dnf Z M fs gs → Dnf Z M (putFX y u fs) (putFE y x gs)
  | [], _, d => by
    unfold Dnf at d; subst d
    unfold putFX putFE Dnf
    exact ⟨_, _, rfl, by unfold Dng; exact ⟨rfl, du⟩, by unfold Dnf; rfl⟩
  | (a, b) :: fs, _, d => by
    unfold Dnf at d
    obtain ⟨z, r, rfl, d1, d2⟩ := d
    have d1' := d1
    unfold Dng at d1
    obtain ⟨e1, d3⟩ := d1
    unfold putFX putFE
    dsimp only
    rw [e1]
    by_cases c : a = y
    · rw [if_pos c, if_pos c]
      unfold Dnf
      exact ⟨_, _, rfl, by unfold Dng; exact ⟨rfl, du⟩, d2⟩
    · rw [if_neg c, if_neg c]
      unfold Dnf
      exact ⟨_, _, rfl, d1', putF_dn du d2⟩
def xFldSet (C : Addr) (y : Str) (i : Nat) (f : XE) : XS := fun τ => xThen (f τ) fun u τ1 => match (muArg τ1 i).bind (insOf C) with
  | some fs => if fs.length < 1000 then .nx (updS τ1 i (.ins C (putFX y u fs))) else .bad
  | none => .bad
theorem qFldSet {C : Addr} {y : Str} {i : Nat} {f : FE} {x : XE} (h : QE f x) : QS (sFldSet C y f (eV i)) (xFldSet C y i x) := fun Z Wr M σ τ E => by
  refine PostX.thenS (h Z Wr M σ τ E) fun u τ1 wu M1 Z1 s E1 r => ?_
  cases q0 : muArg τ1 i with
  | none => exact True.intro
  | some t0 =>
    rw [Option.bind_some]
    cases q1 : insOf C t0 with
    | none => exact True.intro
    | some fs =>
      have := insOf_eq q1
      subst this
      obtain ⟨sl, k, ob, b1, b2, b3, b4, b5⟩ := own_at E1 q0
      obtain ⟨gs, rfl, b5⟩ := b5
      dsimp only
      split
      · rename_i c
        rw [eV_own b3]
        simp only [Res.thenS, b4]
        rw [if_pos ⟨trivial, by rw [b5.len]; exact c⟩]
        obtain ⟨E3, s3, p3⟩ := E1.cell b1 b2 b3 (show Nd Z1 M1 (.ins C (putFX y u fs)) (.ins C (putFE y wu gs)) from ⟨_, rfl, putF_dn r b5⟩)
        exact ⟨σ, _, Z1, rfl, s3, E3, p3.s⟩
      · exact True.intro
/-! an object made -/
noncomputable def xMake (C : Addr) (ms : List Md) (p : XFn) (g : XM) : XE := fun τ => (g τ).bind fun bs τ1 => match getArgs τ1 ms bs with
  | none => .bad
  | some ts => if (varsOf bs).Nodup then (match p (.ins C [] :: ts) with
    | .ok .non false (t :: outs) => .ok t (putOuts τ1 ms bs outs)
    | .err D fs (_ :: outs) => .err D fs (putOuts τ1 ms bs outs)
    | _ => .bad) else .bad
theorem qMake {C : Addr} {m : Fn} {ms : List Md} {n : Nat} {p : XFn} {g : FA} {y : XM} (hf : FnQ (.mu :: ms) m p) (h : QM g y) (hn : ms.length + 1 = n) : QF (eMake C n m g) (xMake C ms p y) := fun Z Wr M σ τ E => by
  refine PostX.bind (h Z Wr M σ τ E) fun bs τ1 vs M1 Z1 s E1 r => ?_
  cases e : getArgs τ1 ms bs with
  | none => exact True.intro
  | some ts =>
    dsimp only
    split
    · rename_i nd
      rw [if_pos (by rw [r.len, getArgs_len e, hn])]
      obtain ⟨a1, a2⟩ := args_ok E1 r e nd
      obtain ⟨E2, s2⟩ := E1.push (.ins C []) (Z' := Z1) (fun _ h => h) (fun _ h => .inl h)
      have r2 : RBs Z1 Wr (M1 ++ [.ins C []]) σ τ1 bs vs := r.step s2
      have ar := argR_of E2 r2 e
      have ar1 := argR_of E1 r e
      have nk : M1.length ∉ musOf ms vs := fun hk => by
        obtain ⟨i, s', _, b2, b3, b4⟩ := mus_own E1 r e hk
        obtain ⟨w, f1, rr⟩ := E1.on i s' b2
        rw [b4] at f1
        cases f1
        cases s' with
        | ow t => obtain ⟨l, p, q1, _, _, q4, _⟩ := rr; cases q1; exact Nat.lt_irrefl _ (List.getElem?_eq_some_iff.mp q4).1
        | mu t => obtain ⟨l, p, q1, _, _, q4, _⟩ := rr; cases q1; exact Nat.lt_irrefl _ (List.getElem?_eq_some_iff.mp q4).1
        | sh t => cases b3
        | bo t => cases b3
      have nb : ∀ k ∈ bosOf ms vs, k ≠ M1.length := fun k hk z => by
        obtain ⟨i, a, b⟩ := bosOf_inv hk
        obtain ⟨bb, t, c1, d1⟩ := getArgs_get e a
        obtain ⟨bb2, c2, d2⟩ := r.vars b
        rw [c1] at c2
        cases c2
        have d : Dn1 Z1 M1 t (.ref k) := res_dn E1 d2 d1
        have := d.ref_or.elim id (E1.lt k)
        omega
      have nz : ¬ Z1 M1.length := fun z => Nat.lt_irrefl _ (E1.lt _ z)
      have hF := hf Z1 (M1 ++ [.ins C []]) (.ref M1.length :: vs) (.ins C [] :: ts) E2.lt ⟨_, _, _, _, rfl, rfl, ⟨M1.length, .ins C [], rfl, nz, by simp, ⟨[], rfl, by unfold Dnf; rfl⟩⟩, ar⟩ (show (M1.length :: musOf ms vs).Nodup from List.nodup_cons.mpr ⟨nk, a1⟩) (fun k hk hm => by
        have hk : k ∈ bosOf ms vs := hk
        have hm : k ∈ M1.length :: musOf ms vs := hm
        rcases List.mem_cons.mp hm with q | q
        · exact nb k hk q
        · exact a2 k hk q)
      revert hF
      have fst : ∀ M' Z', FStp Z1 (M1 ++ [.ins C []]) Z' M' (musOf (.mu :: ms) (.ref M1.length :: vs)) → FStp Z1 M1 Z' M' (musOf ms vs) := fun M' Z' f => ⟨by have := f.len; simp at this; omega, f.sub, fun k z => (f.new k z).imp id fun q => by simp at q; omega, f.lt, fun k hk q => by
        have := f.keep k (by simp; omega) (show k ∉ M1.length :: musOf ms vs from fun z => by
          rcases List.mem_cons.mp z with q1 | q1
          · omega
          · exact q q1)
        rw [this, List.getElem?_append_left hk]⟩
      cases q : p (.ins C [] :: ts) with
      | bad => exact fun _ => True.intro
      | err D fs outs =>
        cases outs with
        | nil => exact fun _ => True.intro
        | cons t outs =>
          rintro ⟨x, M', Z', e1, f, o, h1, h2⟩
          obtain ⟨k, ob, t', r', vs', q1, q2, q3, q4, o⟩ := o
          cases q1
          cases q2
          rw [e1]
          obtain ⟨E', s', pi⟩ := E1.called r e nd (fst M' Z' f) o
          exact ⟨x, M', Z', rfl, s', E', pi, h1, h2⟩
      | ok t0 fr outs =>
        cases t0 <;> first | exact fun _ => True.intro | skip
        cases fr with
        | true => exact fun _ => True.intro
        | false =>
          cases outs with
          | nil => exact fun _ => True.intro
          | cons t outs =>
            rintro ⟨v, M', Z', e1, f, o, h1, h2⟩
            have h2 := h2 rfl
            rw [dn_non] at h2
            subst h2
            obtain ⟨k, ob, t', r', vs', q1, q2, q3, q4, o⟩ := o
            cases q1
            cases q2
            rw [e1]
            obtain ⟨E', s', pi⟩ := E1.called r e nd (fst M' Z' f) o
            refine ⟨_, M', Z', rfl, s', E', pi, M1.length, ob, rfl, fun z => (f.new _ z).elim nz (by simp), E1.fr _ (Nat.le_refl _), q3, q4, fun i s1 e2 hs e3 => ?_⟩
            have hm : ∀ j : Nat, ms[j]? = some .mu → ∃ i, bs[j]? = some (.var i) := fun j a => by
              obtain ⟨b, t, c, d⟩ := getArgs_get e a
              cases b with
              | val t' => cases d
              | var i => exact ⟨i, c⟩
            have hb : ∀ (j k : Nat), ms[j]? = some .mu → vs[j]? = some (.ref k) → ∀ i, bs[j]? = some (.var i) → σ[i]? = some (some (.ref k)) := fun j k a c i d => by
              obtain ⟨b, d1, d2⟩ := r.vars c
              rw [d] at d1
              cases d1
              exact d2
            have old : ∃ s0, τ1[i]? = some (some s0) ∧ s0.own = true := by
              rcases putOuts_get hm hb o e2 with ⟨a, b⟩ | ⟨s, a, b, c⟩
              · exact ⟨s1, a, hs⟩
              · refine ⟨s, a, ?_⟩
                cases q : s.own with
                | true => rfl
                | false => rw [c q, q] at hs; cases hs
            obtain ⟨s0, a, b⟩ := old
            obtain ⟨w, f1, rr⟩ := E1.on i s0 a
            rw [e3] at f1
            cases f1
            cases s0 with
            | ow t => obtain ⟨l, p, q1, _, _, q4, _⟩ := rr; cases q1; have := (List.getElem?_eq_some_iff.mp q4).1; omega
            | mu t => obtain ⟨l, p, q1, _, _, q4, _⟩ := rr; cases q1; have := (List.getElem?_eq_some_iff.mp q4).1; omega
            | sh t => cases b
            | bo t => cases b
    · exact True.intro
/-! own == -/
noncomputable def xOwn (neg : Bool) (C : Addr) (own : List Addr) (ms : List Md) (p : XFn) (f g : XB) : XE := fun τ => (f τ).bind fun a τ1 => (g τ1).bind fun b τ2 => match (resB τ2 a).bind (insOf C), (resB τ2 b).bind (tagX own) with
  | some _, some _ => (noE (callX τ2 ms [a, b] p)).bind fun t τ3 => match isTrue t with
    | some c => .ok (.bl (if neg = true then !c else c)) τ3
    | none => .bad
  | _, _ => .bad
theorem qOwn {neg : Bool} {C : Addr} {own : List Addr} {ms : List Md} {m : Fn} {p : XFn} {f g : FE} {x y : XB} (hf : FnQ ms m p) (h : QB f x) (h2 : QB g y) : QE (e2 (cOwn neg C own m) f g) (xOwn neg C own ms p x y) := fun Z Wr M σ τ E => by
  refine PostX.bind (h Z Wr M σ τ E) fun a τ1 v M1 Z1 s E1 r => PostX.bind (h2 Z1 Wr M1 σ τ1 E1) fun b τ2 w M2 Z2 s2 E2 r2 => ?_
  have r := r.step s2 (τ' := τ2)
  split
  · rename_i fs tg q1 q2
    cases q3 : resB τ2 a with
    | none => rw [q3] at q1; cases q1
    | some t =>
      rw [q3, Option.bind_some] at q1
      have := insOf_eq q1
      subst this
      cases q4 : resB τ2 b with
      | none => rw [q4] at q2; cases q2
      | some u =>
        rw [q4, Option.bind_some] at q2
        obtain ⟨gs, e1, d⟩ := flds_dn (res_dn E2 r q3)
        have e2 := tag_dn (res_dn E2 r2 q4) q2
        unfold cOwn
        rw [e1, e2]
        dsimp only
        rw [if_pos rfl]
        refine PostX.bind (callX_post E2 (show RBs Z2 Wr M2 σ τ2 [a, b] [v, w] from ⟨v, [w], rfl, r, w, [], rfl, r2, rfl⟩) hf).noE fun t τ3 w3 M3 Z3 s3 E3 r3 => ?_
        cases q : isTrue t with
        | none => exact True.intro
        | some c =>
          have := isTrue_eq q
          subst this
          have r3 : Dn Z3 M3 (.bl c) w3 := r3
          rw [dn_bl] at r3
          subst r3
          exact PostX.ok E3 (by show Dn _ _ _ _; simp)
  · exact True.intro
end
end WS

set_option Elab.async false
set_option linter.all false
set_option maxRecDepth 100000
/-! The tree layer: dicts made and walked, sorting by a key. -/
namespace WS
open PySem PySem.Spec PyProof.Rows L2
open PySem.W (dataLt dataLe keyToks alike AllAlike Sortable SortsAt sortVals)
open Classical
section
variable {Z Z' Wr : Nat → Prop} {M M' : Mem} {v w : EV} {σ : StE} {τ τ' : XSt}
def xDNew : XE := fun τ => .ok (.dic []) τ
theorem qDNew : QF eDNew xDNew := fun Z Wr M σ τ E => (show OkF Z M (.ok (.ref M.length) (M ++ [.dic []])) (.dic []) from ⟨_, rfl, [], rfl, by unfold Dnp; rfl⟩).post E
/-! dict comprehensions -/
def xElD (t : XT) (fk fv : XE) : XSt → XR (Option (XV × XV)) := fun τ => (noE (t τ)).bind fun b τ2 => if b = true then (noE (fk τ2)).bind fun k τ3 => (noE (fv τ3)).bind fun v τ4 => .ok (some (k, v)) τ4 else .ok none τ2
def mElD (t : FT) (fk fv : FE) (σ : StE) (M : Mem) : Res (Option (EV × EV)) := (noerr (t σ M)).bind fun b M1 => if b = true then (noerr (fk σ M1)).bind fun k M2 => (noerr (fv σ M2)).bind fun v M3 => .ok (some (k, v)) M3 else .ok none M1
def RO2 : RelX (Option (XV × XV)) (Option (EV × EV)) := fun Z _ M _ _ t v => match t, v with
  | some t, some v => Dn Z M t.1 v.1 ∧ Dn Z M t.2 v.2
  | none, none => True
  | _, _ => False
theorem qElD {t : FT} {fk fv : FE} {xt : XT} {xk xv : XE} (ht : QT t xt) (hk : QE fk xk) (hv : QE fv xv) (E : En Z Wr M σ τ) : PostX RO2 Z Wr M σ τ (xElD xt xk xv τ) (mElD t fk fv σ M) :=
  PostX.bind (ht Z Wr M σ τ E).noE fun b τ1 v M1 Z1 s E1 r => by
    cases r
    cases b with
    | false => exact PostX.ok E1 True.intro
    | true => exact PostX.bind (hk _ _ _ _ _ E1).noE fun b τ2 v M2 Z2 s E2 r => PostX.bind (hv _ _ _ _ _ E2).noE fun b τ3 v M3 Z3 s3 E3 r3 => PostX.ok E3 ⟨s3.dn r, r3⟩
theorem noErr_elD {t : XT} {fk fv : XE} {C : Addr} {fs : Option (List (Str × XV))} : xElD t fk fv τ ≠ .err C fs τ' := by
  unfold xElD
  cases t τ with
  | err _ _ _ => exact fun z => by cases z
  | bad => exact fun z => by cases z
  | ok b τ1 =>
    cases b with
    | false => exact fun z => by cases z
    | true =>
      show (noE (fk τ1)).bind _ ≠ _
      cases fk τ1 with
      | err _ _ _ => exact fun z => by cases z
      | bad => exact fun z => by cases z
      | ok k τ2 =>
        show (noE (fv τ2)).bind _ ≠ _
        cases fv τ2 <;> exact fun z => by cases z
noncomputable def addD (acc : List (EV × EV)) (o : Option (EV × EV)) : Option (List (EV × EV)) := match o with
  | some p => if acc.length < sizeLine ∧ sortOk acc p.1 then some (dPut acc p.1 p.2) else none
  | none => some acc
noncomputable def addDX (acc : List (XV × XV)) (o : Option (XV × XV)) : Option (List (XV × XV)) := match o with
  | some p => if acc.length < sizeLine ∧ KeyOk acc p.1 then some (dPutX acc p.1 p.2) else none
  | none => some acc
theorem dcGo_cons {gd : Guard} {put : Put} {t : FT} {fk fv : FE} {σ : StE} {x : EV} {r : List EV} {M : Mem} {acc : List (EV × EV)} {l : List (Nat × EV)} (h : okG gd M) (hl : put x M = some l) : dcGo gd put t fk fv σ (x :: r) M acc = (mElD t fk fv (putsE σ l) M).bind fun o M2 => match addD acc o with
  | some acc2 => dcGo gd put t fk fv σ r M2 acc2
  | none => .bad := by
  conv => lhs; unfold dcGo
  rw [if_pos h]
  simp only [hl]
  unfold mElD
  cases noerr (t (putsE σ l) M) with
  | err x M1 => rfl
  | bad => rfl
  | ok b M1 =>
    cases b with
    | false => rfl
    | true =>
      simp only [Res.bind, if_true]
      cases noerr (fk (putsE σ l) M1) with
      | err x M1 => rfl
      | bad => rfl
      | ok k M2 =>
        simp only [Res.bind]
        cases noerr (fv (putsE σ l) M2) with
        | err x M1 => rfl
        | bad => rfl
        | ok v M3 =>
          simp only [Res.bind]
          unfold addD
          dsimp only
          by_cases c : acc.length < sizeLine ∧ sortOk acc k
          · rw [if_pos c, if_pos c]
          · rw [if_neg c, if_neg c]
noncomputable def xDcGo (own : List Nat) (put : XPut) (t : XT) (fk fv : XE) : List XV → XSt → List (XV × XV) → XR (List (XV × XV))
  | [], τ, acc => .ok acc τ
  | x :: r, τ, acc => match put x τ with
    | none => .bad
    | some τ1 => match xElD t fk fv τ1 with
      | .ok o τ2 => (match addDX acc o with
        | some acc2 => xDcGo own put t fk fv r (xwipe τ2 own) acc2
        | none => .bad)
      | _ => .bad
def RA2 : RelX (List (XV × XV)) (List (EV × EV)) := fun Z _ M _ _ t v => Dnp Z M t v
theorem addD_dn {acc acc2 : List (XV × XV)} {acc' : List (EV × EV)} {o : Option (XV × XV)} {o' : Option (EV × EV)} (d : Dnp Z M acc acc') (h : RO2 Z Wr M σ τ o o') (e : addDX acc o = some acc2) : ∃ acc2', addD acc' o' = some acc2' ∧ Dnp Z M acc2 acc2' := by
  cases o with
  | none =>
    cases o' with
    | none => cases e; exact ⟨_, rfl, d⟩
    | some _ => exact h.elim
  | some p =>
    cases o' with
    | none => exact h.elim
    | some p' =>
      unfold addDX at e
      dsimp only at e
      split at e
      · rename_i c
        cases e
        obtain ⟨r1, r2⟩ := c.2.rf
        have ek := ev_dn r1 h.1
        refine ⟨dPut acc' p'.1 p'.2, ?_, ?_⟩
        · unfold addD
          dsimp only
          rw [if_pos ⟨by rw [d.len]; exact c.1, by rw [ek]; exact c.2.dn d⟩]
        · rw [ek]; exact dPut_dn r1 h.2 d r2
      · cases e
theorem qDcGo {own : List Nat} {put : Put} {t : FT} {fk fv : FE} {xp : XPut} {xt : XT} {xk xv : XE} (hp : QP put xp) (ht : QT t xt) (hk : QE fk xk) (hv : QE fv xv) (hin : PutIn put own) {gd : Guard} : ∀ (ts : List XV) (xs : List EV) (acc : List (XV × XV)) (acc' : List (EV × EV)) (Z : Nat → Prop) (M : Mem) (σ : StE) (τ : XSt), En Z Wr M σ τ → NoMu own τ → Dns Z M ts xs → Dnp Z M acc acc' → GdR Z Wr M gd → PostX RA2 Z Wr M σ τ (xDcGo own xp xt xk xv ts τ acc) (dcGo gd put t fk fv σ xs M acc')
  | [], xs, acc, acc', Z, M, σ, τ, E, nm, d, da, g => by
    unfold Dns at d
    subst d
    unfold dcGo xDcGo
    rw [if_pos g.ok]
    exact PostX.ok E da
  | x :: ts, xs, acc, acc', Z, M, σ, τ, E, nm, d, da, g => by
    unfold Dns at d
    obtain ⟨v, r, q, d1, d2⟩ := d
    subst q
    unfold xDcGo
    cases q : xp x τ with
    | none => exact True.intro
    | some τ1 =>
      obtain ⟨l, el, E1, p1⟩ := hp _ _ _ _ _ _ _ _ E d1 q
      rw [dcGo_cons g.ok el]
      have out : ∀ j, j ∉ own → σ[j]? = (putsE σ l)[j]? := fun j hj => (putsE_out fun p hq z => hj (by rw [← z]; exact hin _ _ _ el p hq)).symm
      have p1' : Pin τ τ1 := fun i => (p1 i).1
      have h := qElD ht hk hv E1
      revert h
      dsimp only
      cases q2 : xElD xt xk xv τ1 with
      | err C fs τ2 => exact absurd q2 noErr_elD
      | bad => exact fun _ => True.intro
      | ok o τ2 =>
        rintro ⟨v2, M2, Z2, e2, s2, E2, p2, h⟩
        rw [e2]
        dsimp only
        cases q3 : addDX acc o with
        | none => exact True.intro
        | some acc2 =>
          obtain ⟨acc2', e3, da2⟩ := addD_dn (s2.dnp da) h q3
          simp only [Res.bind]
          rw [e3]
          have nm2 := (nm.pin p1').pin p2
          have E3 : En Z2 Wr M2 σ (xwipe τ2 own) := E2.rewipe putsE_len.symm out
          exact (qDcGo hp ht hk hv hin ts r acc2 acc2' Z2 M2 σ _ E3 (nm2.pin (pin_wipe nm2)) (s2.dns d2) da2 (g.step s2)).shift s2 ((p1'.trans p2).trans (pin_wipe nm2))
noncomputable def xDc (own : List Nat) (fi : XI) (put : XPut) (t : XT) (fk fv : XE) : XE := fun τ => (fi τ).bind fun ts τ1 => if NoMu own τ1 then (match xDcGo own put t fk fv ts (xwipe τ1 own) [] with
  | .ok acc τ2 => .ok (.dic acc) (xwipe τ2 own)
  | _ => .bad) else .bad
theorem qDc {own : List Nat} {fi : FI} {put : Put} {t : FT} {fk fv : FE} {xi : XI} {xp : XPut} {xt : XT} {xk xv : XE} (hi : QI fi xi) (hp : QP put xp) (ht : QT t xt) (hk : QE fk xk) (hv : QE fv xv) (hin : PutIn put own) : QF (eDc own fi put t fk fv) (xDc own xi xp xt xk xv) := fun Z Wr M σ τ E => by
  refine PostX.bind (hi Z Wr M σ τ E) fun ts τ1 v M1 Z1 s E1 r => ?_
  split
  · rename_i c
    have E2 : En Z1 Wr M1 (wipeE σ own) (xwipe τ1 own) := E1.rewipe (wipeE_len _ _) fun j hj => wipeE_out hj
    have h := qDcGo hp ht hk hv hin ts v.1 [] [] Z1 M1 (wipeE σ own) (xwipe τ1 own) E2 (c.pin (pin_wipe c)) r.1 (by unfold Dnp; rfl) r.2
    revert h
    cases q : xDcGo own xp xt xk xv ts (xwipe τ1 own) [] with
    | err C fs τ2 => exact fun _ => True.intro
    | bad => exact fun _ => True.intro
    | ok acc τ2 =>
      rintro ⟨v2, M2, Z2, e2, s2, E3, p2, h⟩
      rw [e2]
      have nm2 := (c.pin (pin_wipe c)).pin p2
      have E4 : En Z2 Wr M2 σ (xwipe τ2 own) := E3.rewipe (wipeE_len _ _).symm fun j hj => (wipeE_out hj).symm
      exact ((show OkF Z2 M2 (newD v2 M2) (.dic acc) from ⟨_, rfl, _, rfl, h⟩).post E4).shift s2 (((pin_wipe c).trans p2).trans (pin_wipe nm2))
  · exact True.intro
/-! locks -/
theorem En.lock (E : En Z Wr M σ τ) (hl : M'.length = M.length) (h : ∀ (j : Nat) o, M[j]? = some o → ∃ o', M'[j]? = some o' ∧ Lck o o') (h2 : ∀ j, Wr j → ¬ Z j → M'[j]? = M[j]?) : En Z Wr M' σ τ where
  lt := fun k z => by rw [hl]; exact E.lt k z
  fr := fun k z => E.fr k (by rw [hl] at z; exact z)
  len := E.len
  on := fun i s e => by
    have kp : Kp Z M M' := fun k o _ e => h k o e
    obtain ⟨v, e1, r⟩ := E.on i s e
    refine ⟨v, e1, ?_⟩
    cases s with
    | sh t => exact Dn.mono (fun _ h => h) kp r
    | bo t => exact ⟨Dn1.mono (fun _ h => h) kp r.1 (fun k o _ e => h k o e), fun k q => ⟨(r.2 k q).1, by rw [hl]; exact (r.2 k q).2⟩⟩
    | ow t =>
      obtain ⟨k, p, q1, q2, q3, q4, q5⟩ := r
      exact ⟨k, p, q1, q2, q3, (h2 k q2 q3).trans q4, q5.mono (fun _ h => h) kp⟩
    | mu t =>
      obtain ⟨k, p, q1, q2, q3, q4, q5⟩ := r
      exact ⟨k, p, q1, q2, q3, (h2 k q2 q3).trans q4, q5.mono (fun _ h => h) kp⟩
  dis := E.dis
theorem unlO_lck (a b : EO) : Lck b (unlO a b) := by
  unfold unlO
  split
  · exact .inr ⟨_, .inr rfl, .inl rfl⟩
  · exact .inl rfl
/-- behind a walk of a dict: the lock is gone -/
theorem unlock {Z1 Z2 : Nat → Prop} {M0 M1 M2 : Mem} {k : Nat} {qs : List (EV × EV)} (s1 : Stp Z Wr M0 Z1 M1) (hk : M1[k]? = some (.dic qs) ∨ M1[k]? = some (.lck qs)) (hz : Z1 k ∨ ¬ Wr k) (s2 : Stp Z1 Wr (M1.set k (.lck qs)) Z2 M2) (E : En Z2 Wr M2 σ τ) : Stp Z Wr M0 Z2 (unlM M0 M2) ∧ En Z2 Wr (unlM M0 M2) σ τ ∧ ∀ {t : XV} {v : EV}, Dn Z2 M2 t v → Dn Z2 (unlM M0 M2) t v := by
  have ln := unlM_length M0 M2
  have kl : k < M1.length := by rcases hk with h | h <;> exact (List.getElem?_eq_some_iff.mp h).1
  have lk : ∀ (j : Nat) o, M2[j]? = some o → ∃ o', (unlM M0 M2)[j]? = some o' ∧ Lck o o' := fun j o e => by
    rw [unlM_get e]
    cases M0[j]? with
    | none => exact ⟨_, rfl, .inl rfl⟩
    | some p => exact ⟨_, rfl, unlO_lck p o⟩
  have l12 : M1.length ≤ M2.length := by have := s2.len; rw [List.length_set] at this; exact this
  refine ⟨⟨by rw [ln]; exact Nat.le_trans s1.len l12, fun j h => s2.sub j (s1.sub j h), fun j h => (s2.new j h).elim (s1.new j) .inr, fun j hj q => ?_⟩, ?_, fun d => Dn.mono (fun _ h => h) (fun j o _ e => lk j o e) d⟩
  · have j1 : j < M1.length := Nat.lt_of_lt_of_le hj s1.len
    have q1 : Z1 j ∨ ¬ Wr j := q.imp (s1.sub j) id
    have e1 := s1.keep j hj q
    have e2 := s2.keep j (by rw [List.length_set]; exact j1) q1
    by_cases c : j = k
    · subst c
      rw [List.getElem?_set_self kl] at e2
      rw [unlM_get e2]
      rw [e1] at hk
      rcases hk with h | h <;> rw [h] <;> rfl
    · rw [List.getElem?_set_ne (Ne.symm c), e1] at e2
      cases q3 : M0[j]? with
      | none => rw [List.getElem?_eq_none_iff] at q3; omega
      | some o =>
        rw [q3] at e2
        rw [unlM_get e2, q3]
        show some (unlO o o) = _
        have : unlO o o = o := by cases o <;> rfl
        rw [this]
  · -- what stands in a cell of its own is no locked dict
    have own_dic : ∀ (i : Nat) s, τ[i]? = some (some s) → s.own = true → ∃ l o, σ[i]? = some (some (.ref l)) ∧ M2[l]? = some o ∧ (∀ q, o ≠ .lck q) ∧ Wr l ∧ ¬ Z2 l ∧ Nd Z2 M2 s.t o := fun i s e hs => by
      obtain ⟨v, e1, r⟩ := E.on i s e
      have nl : ∀ {t o}, Nd Z2 M2 t o → ∀ q, o ≠ .lck q := fun {t o} n q z => by subst z; cases t <;> first | exact n.elim | (obtain ⟨_, n, _⟩ := n; cases n)
      cases s with
      | ow t => obtain ⟨l, p, q1, q2, q3, q4, q5⟩ := r; subst q1; exact ⟨l, p, e1, q4, nl q5, q2, q3, q5⟩
      | mu t => obtain ⟨l, p, q1, q2, q3, q4, q5⟩ := r; subst q1; exact ⟨l, p, e1, q4, nl q5, q2, q3, q5⟩
      | sh t => cases hs
      | bo t => cases hs
    have kp : Kp Z2 M2 (unlM M0 M2) := fun j o _ e => lk j o e
    refine ⟨fun j z => by rw [ln]; exact E.lt j z, fun j z => E.fr j (by rw [ln] at z; exact z), E.len, fun i s e => ?_, E.dis⟩
    obtain ⟨v, e1, r⟩ := E.on i s e
    refine ⟨v, e1, ?_⟩
    cases s with
    | sh t => exact Dn.mono (fun _ h => h) kp r
    | bo t => exact ⟨Dn1.mono (fun _ h => h) kp r.1 (fun k o _ e => lk k o e), fun k q => ⟨(r.2 k q).1, by rw [ln]; exact (r.2 k q).2⟩⟩
    | ow t =>
      obtain ⟨l, o, a1, a2, a3, a4, a5, a6⟩ := own_dic i _ e rfl
      rw [e1] at a1
      cases a1
      refine ⟨l, o, rfl, a4, a5, ?_, a6.mono (fun _ h => h) kp⟩
      rw [unlM_get a2]
      cases M0[l]? with
      | none => rfl
      | some p =>
        show some (unlO p o) = _
        unfold unlO
        split
        · exact (a3 _ rfl).elim
        · rfl
    | mu t =>
      obtain ⟨l, o, a1, a2, a3, a4, a5, a6⟩ := own_dic i _ e rfl
      rw [e1] at a1
      cases a1
      refine ⟨l, o, rfl, a4, a5, ?_, a6.mono (fun _ h => h) kp⟩
      rw [unlM_get a2]
      cases M0[l]? with
      | none => rfl
      | some p =>
        show some (unlO p o) = _
        unfold unlO
        split
        · exact (a3 _ rfl).elim
        · rfl
/-! walks of dicts -/
def RW : RelX XV EV := fun Z Wr M _ _ t v => Dn1 Z M t v ∧ ∀ k, v = .ref k → Z k ∨ ¬ Wr k
def QW (e : FE) (x : XE) : Prop := ∀ Z Wr M σ τ, En Z Wr M σ τ → PostX RW Z Wr M σ τ (x τ) (e σ M)
theorem qWE {e : FE} {x : XE} (h : QE e x) : QW e x := fun Z Wr M σ τ E => by
  have h := h Z Wr M σ τ E
  revert h
  generalize x τ = r
  cases r with
  | ok t τ1 => rintro ⟨v, M1, Z1, e1, s, E1, p, d⟩; exact ⟨v, M1, Z1, e1, s, E1, p, Dn.one d, fun k q => .inl (by subst q; exact Dn.ref_Z d)⟩
  | err C fs τ1 => exact id
  | bad => exact id
def xWN (i : Nat) : XE := fun τ => match τ[i]? with
  | some (some (.bo t)) => .ok t τ
  | _ => xV i τ
theorem qWN (i : Nat) : QW (eV i) (xWN i) := fun Z Wr M σ τ E => by
  unfold xWN
  split
  · rename_i t e
    obtain ⟨v, e1, r⟩ := E.on i _ e
    have : eV i σ M = .ok v M := by unfold eV; rw [e1]
    rw [this]
    exact PostX.ok E ⟨r.1, fun k q => .inr (r.2 k q).1⟩
  · exact qWE (qV i) Z Wr M σ τ E
def asD : XV → Option (List (XV × XV))
  | .dic kvs => some kvs
  | _ => none
theorem asD_eq {t : XV} {kvs : List (XV × XV)} (h : asD t = some kvs) : t = .dic kvs := by cases t <;> cases h; rfl
def SelOk (sx : XV × XV → XV) (s : EV × EV → EV) : Prop := ∀ Z M p q, Dnq Z M p q → Dn Z M (sx p) (s q)
theorem selK : SelOk (fun p => p.1) (fun p => p.1) := fun Z M p q d => by obtain ⟨a, b⟩ := p; unfold Dnq at d; exact d.1
theorem selV : SelOk (fun p => p.2) (fun p => p.2) := fun Z M p q d => by obtain ⟨a, b⟩ := p; unfold Dnq at d; exact d.2
def pairX (p : XV × XV) : XV := .tup [p.1, p.2]
theorem selP : SelOk pairX pairE := fun Z M p q d => by
  obtain ⟨a, b⟩ := p
  unfold Dnq at d
  exact dn_tup.mpr ⟨_, rfl, .cons d.1 (.cons d.2 .nil)⟩
theorem sel_dns {sx : XV × XV → XV} {s : EV × EV → EV} (h : SelOk sx s) : ∀ {kvs : List (XV × XV)} {ps : List (EV × EV)}, Dnp Z M kvs ps → Dns Z M (kvs.map sx) (ps.map s)
  | [], _, d => by unfold Dnp at d; subst d; exact .nil
  | p :: kvs, _, d => by
    unfold Dnp at d
    obtain ⟨y, r, rfl, d1, d2⟩ := d
    exact .cons (h _ _ _ _ d1) (sel_dns h d2)
/-- a dict taken to be walked -/
theorem walk_start (E : En Z Wr M σ τ) {kvs : List (XV × XV)} (d : Dn1 Z M (.dic kvs) v) (hz : ∀ k, v = .ref k → Z k ∨ ¬ Wr k) : ∃ k qs, v = .ref k ∧ dicAt M v = some (k, qs) ∧ (M[k]? = some (.dic qs) ∨ M[k]? = some (.lck qs)) ∧ (Z k ∨ ¬ Wr k) ∧ En Z Wr (M.set k (.lck qs)) σ τ ∧ Dnp Z (M.set k (.lck qs)) kvs qs := by
  obtain ⟨k, rfl, qs, h1, h2⟩ := d
  have lk : ∀ (j : Nat) o, M[j]? = some o → ∃ o', (M.set k (.lck qs))[j]? = some o' ∧ Lck o o' := fun j o e => by
    by_cases c : j = k
    · subst c
      rw [List.getElem?_set_self (List.getElem?_eq_some_iff.mp e).1]
      rcases h1 with h | h <;> (rw [h] at e; cases e)
      · exact ⟨_, rfl, .inr ⟨qs, .inl rfl, .inr rfl⟩⟩
      · exact ⟨_, rfl, .inl rfl⟩
    · rw [List.getElem?_set_ne (Ne.symm c)]
      exact ⟨o, e, .inl rfl⟩
  refine ⟨k, qs, rfl, ?_, h1, hz k rfl, E.lock (by rw [List.length_set]) lk fun j hw hn => ?_, h2.mono (fun _ h => h) (fun j o _ e => lk j o e)⟩
  · unfold dicAt
    rcases h1 with h | h <;> simp only [h]
  · exact List.getElem?_set_ne fun z => by subst z; exact (hz _ rfl).elim hn (fun q => q hw)
def noErrS : XRS → XRS
  | .err _ _ _ => .bad
  | r => r
def xForD (sx : XV × XV → XV) (f : XE) (put : XPut) (body : XS) : XS := fun τ => xThen (f τ) fun t τ1 => match asD t with
  | some kvs => noErrS (xForGo put body (kvs.map sx) τ1)
  | none => .bad
theorem qForD {f : FE} {x : XE} {sx : XV × XV → XV} {sel : EV × EV → EV} {put : Put} {body : FS} {xp : XPut} {xb : XS} (hs : SelOk sx sel) (hf : QW f x) (hp : QP put xp) (hb : QS body xb) : QS (unlS (sFor (iDicF sel f) put body)) (xForD sx x xp xb) := fun Z Wr M σ τ E => by
  have h := hf Z Wr M σ τ E
  unfold xForD
  revert h
  cases x τ with
  | bad => exact fun _ => True.intro
  | err C fs τ1 =>
    rintro ⟨y, M1, Z1, e, s, E1, p, h⟩
    have : unlS (sFor (iDicF sel f) put body) σ M = .err y σ M1 := by unfold unlS sFor iDicF; rw [e]; rfl
    rw [this]
    exact ⟨y, σ, M1, Z1, rfl, s, E1, p.s, h⟩
  | ok t τ1 =>
    rintro ⟨v, M1, Z1, e, s, E1, p, d, hz⟩
    simp only [xThen]
    cases q : asD t with
    | none => exact True.intro
    | some kvs =>
      have := asD_eq q
      subst this
      obtain ⟨k, qs, rfl, h1, h2, h3, E2, d2⟩ := walk_start E1 d hz
      have ef : sFor (iDicF sel f) put body σ M = forGo none put body (qs.map sel) σ (M1.set k (.lck qs)) := by
        unfold sFor iDicF
        rw [e]
        simp only [Res.bind, h1, Res.thenS]
      have hg := qForGo hp hb (gd := none) (kvs.map sx) (qs.map sel) Z1 (M1.set k (.lck qs)) σ τ1 E2 (sel_dns hs d2) True.intro
      unfold unlS
      rw [ef]
      dsimp only
      revert hg
      cases xForGo xp xb (kvs.map sx) τ1 with
      | nx τ2 =>
        rintro ⟨σ3, M3, Z3, e3, s3, E3, p3⟩
        obtain ⟨s4, E4, _⟩ := unlock s h2 h3 s3 E3
        rw [e3]
        exact ⟨σ3, _, Z3, rfl, s4, E4, p.s.trans p3⟩
      | bk τ2 =>
        rintro ⟨σ3, M3, Z3, e3, s3, E3, p3⟩
        obtain ⟨s4, E4, _⟩ := unlock s h2 h3 s3 E3
        rw [e3]
        exact ⟨σ3, _, Z3, rfl, s4, E4, p.s.trans p3⟩
      | ct τ2 =>
        rintro ⟨σ3, M3, Z3, e3, s3, E3, p3⟩
        obtain ⟨s4, E4, _⟩ := unlock s h2 h3 s3 E3
        rw [e3]
        exact ⟨σ3, _, Z3, rfl, s4, E4, p.s.trans p3⟩
      | rt t2 fr τ2 =>
        cases fr with
        | false =>
          rintro ⟨u, σ3, M3, Z3, e3, s3, E3, p3, _, r2⟩
          obtain ⟨s4, E4, c4⟩ := unlock s h2 h3 s3 E3
          rw [e3]
          exact ⟨u, σ3, _, Z3, rfl, s4, E4, p.s.trans p3, fun z => (by cases z), fun _ => c4 (r2 rfl)⟩
        | true =>
          rintro ⟨u, σ3, M3, Z3, e3, s3, E3, p3, r1, _⟩
          obtain ⟨s4, E4, c4⟩ := unlock s h2 h3 s3 E3
          rw [e3]
          refine ⟨u, σ3, _, Z3, rfl, s4, E4, p.s.trans p3, fun _ => ?_, fun z => (by cases z)⟩
          obtain ⟨l, o, q1, q2, q3, q4, q5, q6⟩ := r1 rfl
          have kp : Kp Z3 M3 (unlM M M3) := fun j o _ e => by
            rw [unlM_get e]
            cases M[j]? with
            | none => exact ⟨_, rfl, .inl rfl⟩
            | some p => exact ⟨_, rfl, unlO_lck p o⟩
          refine ⟨l, o, q1, q2, q3, ?_, q5.mono (fun _ h => h) kp, q6⟩
          rw [unlM_get q4]
          have nl : ∀ q, o ≠ .lck q := fun q z => by subst z; cases t2 <;> first | exact q5.elim | (obtain ⟨_, n, _⟩ := q5; cases n)
          cases M[l]? with
          | none => rfl
          | some p =>
            show some (unlO p o) = _
            unfold unlO
            split
            · exact (nl _ rfl).elim
            · rfl
      | err C fs τ2 => exact fun _ => True.intro
      | bad => exact fun _ => True.intro
/-- a walk of a dict inside an expression that makes something new -/
theorem unlE_post {f : FE} {r : XR XV} {τ1 : XSt} {M1 : Mem} {Z1 : Nat → Prop} {k : Nat} {qs : List (EV × EV)} (s : Stp Z Wr M Z1 M1) (p : Pin τ τ1) (h2 : M1[k]? = some (.dic qs) ∨ M1[k]? = some (.lck qs)) (h3 : Z1 k ∨ ¬ Wr k) (h : PostX RF Z1 Wr (M1.set k (.lck qs)) σ τ1 r (f σ M)) (ne : ∀ C fs τ2, r ≠ .err C fs τ2) : PostX RF Z Wr M σ τ r (unlE f σ M) := by
  unfold unlE
  cases r with
  | bad => exact True.intro
  | err C fs τ2 => exact (ne _ _ _ rfl).elim
  | ok t τ2 =>
    obtain ⟨v, M3, Z3, e3, s3, E3, p3, l, o, q1, q2, q3, q4, q5, q6⟩ := h
    obtain ⟨s4, E4, c4⟩ := unlock s h2 h3 s3 E3
    rw [e3]
    refine ⟨v, _, Z3, rfl, s4, E4, p.trans p3, l, o, q1, q2, q3, ?_, ?_, q6⟩
    · rw [unlM_get q4]
      have nl : ∀ q, o ≠ .lck q := fun q z => by subst z; cases t <;> first | exact q5.elim | (obtain ⟨_, n, _⟩ := q5; cases n)
      cases M[l]? with
      | none => rfl
      | some p =>
        show some (unlO p o) = _
        unfold unlO
        split
        · exact (nl _ rfl).elim
        · rfl
    · exact q5.mono (fun _ h => h) fun j o _ e => by
        rw [unlM_get e]
        cases M[j]? with
        | none => exact ⟨_, rfl, .inl rfl⟩
        | some p => exact ⟨_, rfl, unlO_lck p o⟩
/-- a walk of a dict, then a maker -/
theorem unl_start {f : FE} {x : XE} {sx : XV × XV → XV} {sel : EV × EV → EV} (hs : SelOk sx sel) (hf : QW f x) {K : List EV × Guard → Mem → Res EV} {X : List XV → XE} (E : En Z Wr M σ τ)
    (ne : ∀ ts τ1 C fs τ2, X ts τ1 ≠ .err C fs τ2)
    (h : ∀ Z M τ ts xs, En Z Wr M σ τ → Dns Z M ts xs → PostX RF Z Wr M σ τ (X ts τ) (K (xs, none) M)) : PostX RF Z Wr M σ τ ((x τ).bind fun t τ1 => match asD t with
      | some kvs => X (kvs.map sx) τ1
      | none => .bad) (unlE (fun σ M => (iDicF sel f σ M).bind K) σ M) := by
  have hf := hf Z Wr M σ τ E
  revert hf
  cases x τ with
  | bad => exact fun _ => True.intro
  | err C fs τ1 =>
    rintro ⟨y, M1, Z1, e, s, E1, p, h⟩
    have : unlE (fun σ M => (iDicF sel f σ M).bind K) σ M = .err y M1 := by unfold unlE iDicF; dsimp only; rw [e]; rfl
    rw [this]
    exact ⟨y, M1, Z1, rfl, s, E1, p, h⟩
  | ok t τ1 =>
    rintro ⟨v, M1, Z1, e, s, E1, p, d, hz⟩
    simp only [XR.bind]
    cases q : asD t with
    | none => exact True.intro
    | some kvs =>
      have := asD_eq q
      subst this
      obtain ⟨k, qs, rfl, h1, h2, h3, E2, d2⟩ := walk_start E1 d hz
      dsimp only
      have ei : (iDicF sel f σ M).bind K = K (qs.map sel, none) (M1.set k (.lck qs)) := by
        unfold iDicF
        rw [e]
        simp only [Res.bind, h1]
      refine unlE_post (f := fun σ M => (iDicF sel f σ M).bind K) s p h2 h3 ?_ (ne _ _)
      show PostX RF Z1 Wr (M1.set k (.lck qs)) σ τ1 _ ((iDicF sel f σ M).bind K)
      rw [ei]
      exact h _ _ _ _ _ E2 (sel_dns hs d2)
noncomputable def xLcT (own : List Nat) (put : XPut) (t : XT) (e : XE) (ts : List XV) : XE := fun τ1 => if ts.length ≤ sizeLine ∧ NoMu own τ1 then (match xLcGo own put t e ts (xwipe τ1 own) [] with
  | .ok acc τ2 => if acc.length ≤ sizeLine then .ok (.lst acc) (xwipe τ2 own) else .bad
  | _ => .bad) else .bad
theorem qLcT {own : List Nat} {put : Put} {t : FT} {e : FE} {xp : XPut} {xt : XT} {xe : XE} (hp : QP put xp) (ht : QT t xt) (he : QE e xe) (hin : PutIn put own) {ts : List XV} {xs : List EV} {gd : Guard} (E1 : En Z Wr M σ τ) (d : Dns Z M ts xs) (g : GdR Z Wr M gd) : PostX RF Z Wr M σ τ (xLcT own xp xt xe ts τ) (if xs.length ≤ sizeLine then (lcGo gd put t e (wipeE σ own) xs M []).bind fun acc M2 => newL acc M2 else .bad) := by
  unfold xLcT
  split
  · rename_i c
    rw [if_pos (by rw [d.len]; exact c.1)]
    have E2 : En Z Wr M (wipeE σ own) (xwipe τ own) := E1.rewipe (wipeE_len _ _) fun j hj => wipeE_out hj
    have h := qLcGo hp ht he hin ts xs [] [] Z M (wipeE σ own) (xwipe τ own) E2 (c.2.pin (pin_wipe c.2)) d .nil g
    revert h
    cases q : xLcGo own xp xt xe ts (xwipe τ own) [] with
    | err C fs τ2 => exact absurd q lcGo_noerr
    | bad => exact fun _ => True.intro
    | ok acc τ2 =>
      rintro ⟨v2, M2, Z2, e2, s2, E3, p2, h⟩
      rw [e2]
      dsimp only
      split
      · rename_i c2
        have nm2 := (c.2.pin (pin_wipe c.2)).pin p2
        have E4 : En Z2 Wr M2 σ (xwipe τ2 own) := E3.rewipe (wipeE_len _ _).symm fun j hj => (wipeE_out hj).symm
        exact ((okF_lst h c2).post E4).shift s2 (((pin_wipe c.2).trans p2).trans (pin_wipe nm2))
      · exact True.intro
  · exact True.intro
noncomputable def xLcD (sx : XV × XV → XV) (own : List Nat) (f : XE) (put : XPut) (t : XT) (e : XE) : XE := fun τ => (f τ).bind fun tt τ1 => match asD tt with
  | some kvs => xLcT own put t e (kvs.map sx) τ1
  | none => .bad
theorem qLcD {sx : XV × XV → XV} {sel : EV × EV → EV} {own : List Nat} {f : FE} {x : XE} {put : Put} {t : FT} {e : FE} {xp : XPut} {xt : XT} {xe : XE} (hs : SelOk sx sel) (hf : QW f x) (hp : QP put xp) (ht : QT t xt) (he : QE e xe) (hin : PutIn put own) : QF (unlE (eLc own (iDicF sel f) put t e)) (xLcD sx own x xp xt xe) := fun Z Wr M σ τ E =>
  unl_start hs hf (K := fun v M1 => if v.1.length ≤ sizeLine then (lcGo v.2 put t e (wipeE σ own) v.1 M1 []).bind fun acc M2 => newL acc M2 else .bad) (X := xLcT own xp xt xe) E (fun ts τ1 C fs τ2 => by
    unfold xLcT
    split
    · split
      · split <;> exact fun z => by cases z
      · exact fun z => by cases z
    · exact fun z => by cases z) fun Z M τ ts xs E d => qLcT hp ht he hin E d True.intro
noncomputable def xDcT (own : List Nat) (put : XPut) (t : XT) (fk fv : XE) (ts : List XV) : XE := fun τ1 => if NoMu own τ1 then (match xDcGo own put t fk fv ts (xwipe τ1 own) [] with
  | .ok acc τ2 => .ok (.dic acc) (xwipe τ2 own)
  | _ => .bad) else .bad
theorem qDcT {own : List Nat} {put : Put} {t : FT} {fk fv : FE} {xp : XPut} {xt : XT} {xk xv : XE} (hp : QP put xp) (ht : QT t xt) (hk : QE fk xk) (hv : QE fv xv) (hin : PutIn put own) {ts : List XV} {xs : List EV} {gd : Guard} (E1 : En Z Wr M σ τ) (d : Dns Z M ts xs) (g : GdR Z Wr M gd) : PostX RF Z Wr M σ τ (xDcT own xp xt xk xv ts τ) ((dcGo gd put t fk fv (wipeE σ own) xs M []).bind fun acc M2 => newD acc M2) := by
  unfold xDcT
  split
  · rename_i c
    have E2 : En Z Wr M (wipeE σ own) (xwipe τ own) := E1.rewipe (wipeE_len _ _) fun j hj => wipeE_out hj
    have h := qDcGo hp ht hk hv hin ts xs [] [] Z M (wipeE σ own) (xwipe τ own) E2 (c.pin (pin_wipe c)) d (by unfold Dnp; rfl) g
    revert h
    cases q : xDcGo own xp xt xk xv ts (xwipe τ own) [] with
    | err C fs τ2 => exact fun _ => True.intro
    | bad => exact fun _ => True.intro
    | ok acc τ2 =>
      rintro ⟨v2, M2, Z2, e2, s2, E3, p2, h⟩
      rw [e2]
      have nm2 := (c.pin (pin_wipe c)).pin p2
      have E4 : En Z2 Wr M2 σ (xwipe τ2 own) := E3.rewipe (wipeE_len _ _).symm fun j hj => (wipeE_out hj).symm
      exact ((show OkF Z2 M2 (newD v2 M2) (.dic acc) from ⟨_, rfl, _, rfl, h⟩).post E4).shift s2 (((pin_wipe c).trans p2).trans (pin_wipe nm2))
  · exact True.intro
noncomputable def xDcD (sx : XV × XV → XV) (own : List Nat) (f : XE) (put : XPut) (t : XT) (fk fv : XE) : XE := fun τ => (f τ).bind fun tt τ1 => match asD tt with
  | some kvs => xDcT own put t fk fv (kvs.map sx) τ1
  | none => .bad
theorem qDcD {sx : XV × XV → XV} {sel : EV × EV → EV} {own : List Nat} {f : FE} {x : XE} {put : Put} {t : FT} {fk fv : FE} {xp : XPut} {xt : XT} {xk xv : XE} (hs : SelOk sx sel) (hf : QW f x) (hp : QP put xp) (ht : QT t xt) (hk : QE fk xk) (hv : QE fv xv) (hin : PutIn put own) : QF (unlE (eDc own (iDicF sel f) put t fk fv)) (xDcD sx own x xp xt xk xv) := fun Z Wr M σ τ E =>
  unl_start hs hf (K := fun v M1 => (dcGo v.2 put t fk fv (wipeE σ own) v.1 M1 []).bind fun acc M2 => newD acc M2) (X := xDcT own xp xt xk xv) E (fun ts τ1 C fs τ2 => by
    unfold xDcT
    split
    · split <;> exact fun z => by cases z
    · exact fun z => by cases z) fun Z M τ ts xs E d => qDcT hp ht hk hv hin E d True.intro
noncomputable def xLc2T (own vs1 : List Nat) (put : XPut) (t : XT) (fi1 : XI) (put1 : XPut) (t1 : XT) (e : XE) (ts : List XV) : XE := fun τ1 => if NoMu own τ1 then (match xLc2Go own vs1 put t fi1 put1 t1 e ts (xwipe τ1 own) [] with
  | .ok acc τ2 => if acc.length ≤ sizeLine then .ok (.lst acc) (xwipe τ2 own) else .bad
  | _ => .bad) else .bad
theorem qLc2T {own vs1 : List Nat} {put put1 : Put} {t t1 : FT} {fi1 : FI} {e : FE} {xp xp1 : XPut} {xt xt1 : XT} {xi1 : XI} {xe : XE} (hp : QP put xp) (ht : QT t xt) (hi1 : QI fi1 xi1) (hp1 : QP put1 xp1) (ht1 : QT t1 xt1) (he : QE e xe) (hin : PutIn put own) (hin1 : PutIn put1 vs1) (hv : ∀ i ∈ vs1, i ∈ own) {ts : List XV} {xs : List EV} {gd : Guard} (E1 : En Z Wr M σ τ) (d : Dns Z M ts xs) (g : GdR Z Wr M gd) : PostX RF Z Wr M σ τ (xLc2T own vs1 xp xt xi1 xp1 xt1 xe ts τ) ((lc2Go gd put t fi1 put1 t1 e (wipeE σ own) vs1 xs M []).bind fun acc M2 => newL acc M2) := by
  unfold xLc2T
  split
  · rename_i c
    have E2 : En Z Wr M (wipeE σ own) (xwipe τ own) := E1.rewipe (wipeE_len _ _) fun j hj => wipeE_out hj
    have h := qLc2Go hp ht hi1 hp1 ht1 he hin hin1 hv ts xs [] [] Z M (wipeE σ own) (xwipe τ own) E2 (c.pin (pin_wipe c)) d .nil g
    revert h
    cases q : xLc2Go own vs1 xp xt xi1 xp1 xt1 xe ts (xwipe τ own) [] with
    | err C fs τ2 => exact fun _ => True.intro
    | bad => exact fun _ => True.intro
    | ok acc τ2 =>
      rintro ⟨v2, M2, Z2, e2, s2, E3, p2, h⟩
      rw [e2]
      dsimp only
      split
      · rename_i c2
        have nm2 := (c.pin (pin_wipe c)).pin p2
        have E4 : En Z2 Wr M2 σ (xwipe τ2 own) := E3.rewipe (wipeE_len _ _).symm fun j hj => (wipeE_out hj).symm
        exact ((okF_lst h c2).post E4).shift s2 (((pin_wipe c).trans p2).trans (pin_wipe nm2))
      · exact True.intro
  · exact True.intro
noncomputable def xLc2D (sx : XV × XV → XV) (own vs1 : List Nat) (f : XE) (put : XPut) (t : XT) (fi1 : XI) (put1 : XPut) (t1 : XT) (e : XE) : XE := fun τ => (f τ).bind fun tt τ1 => match asD tt with
  | some kvs => xLc2T own vs1 put t fi1 put1 t1 e (kvs.map sx) τ1
  | none => .bad
theorem qLc2D {sx : XV × XV → XV} {sel : EV × EV → EV} {own vs1 : List Nat} {f : FE} {x : XE} {put put1 : Put} {t t1 : FT} {fi1 : FI} {e : FE} {xp xp1 : XPut} {xt xt1 : XT} {xi1 : XI} {xe : XE} (hs : SelOk sx sel) (hf : QW f x) (hp : QP put xp) (ht : QT t xt) (hi1 : QI fi1 xi1) (hp1 : QP put1 xp1) (ht1 : QT t1 xt1) (he : QE e xe) (hin : PutIn put own) (hin1 : PutIn put1 vs1) (hv : ∀ i ∈ vs1, i ∈ own) : QF (unlE (eLc2 own vs1 (iDicF sel f) put t fi1 put1 t1 e)) (xLc2D sx own vs1 x xp xt xi1 xp1 xt1 xe) := fun Z Wr M σ τ E =>
  unl_start hs hf (K := fun v M1 => (lc2Go v.2 put t fi1 put1 t1 e (wipeE σ own) vs1 v.1 M1 []).bind fun acc M2 => newL acc M2) (X := xLc2T own vs1 xp xt xi1 xp1 xt1 xe) E (fun ts τ1 C fs τ2 => by
    unfold xLc2T
    split
    · split
      · split <;> exact fun z => by cases z
      · exact fun z => by cases z
    · exact fun z => by cases z) fun Z M τ ts xs E d => qLc2T hp ht hi1 hp1 ht1 he hin hin1 hv E d True.intro
/-! a comprehension assigned walks a dict under the statement's own lock -/
theorem unlS_put {i : Nat} {f : FE} : unlS (sPut (pN i) f) = sPut (pN i) (unlE f) := by
  funext σ M
  unfold unlS sPut unlE
  cases f σ M <;> rfl
/-! sorted(.., key=..) -/
def walkX (t : XV) : Option (List XV) := match t with
  | .dic kvs => some (kvs.map (·.1))
  | .lst ts => some ts
  | _ => none
def okT : XFR → Option XV
  | .ok k _ _ => some k
  | _ => none
def keysX (p : XFn) : List XV → Option (List XV)
  | [] => some []
  | t :: r => (okT (p [t])).bind fun k => (keysX p r).map (k :: ·)
def leKX (a b : XV × PyData) : Bool := !dataLt b.2 a.2
noncomputable def oSortKey (p : XFn) (t : XV) : Option XV := (walkX t).bind fun ts => (keysX p ts).bind fun ks => (datsX ks).bind fun ds => if ts.length ≤ sizeLine ∧ SrtK ds then some (.lst (((ts.zip ds).mergeSort leKX).map (·.1))) else none
theorem keysX_len {p : XFn} : ∀ {ts ks : List XV}, keysX p ts = some ks → ks.length = ts.length
  | [], ks, e => by cases e; rfl
  | t :: ts, ks, e => by
    unfold keysX at e
    cases q0 : okT (p [t]) with
    | none => rw [q0] at e; cases e
    | some k =>
      rw [q0, Option.bind_some] at e
      cases q : keysX p ts with
      | none => rw [q] at e; cases e
      | some r => rw [q] at e; cases e; rw [List.length_cons, List.length_cons, keysX_len q]
theorem putOuts_sh {t : XV} {outs : List XV} : putOuts τ [.sh] [.val t] outs = τ := by
  unfold putOuts
  unfold putOuts
  rfl
theorem keysGo_dn {m : Fn} {p : XFn} (hf : FnQ [.sh] m p) : ∀ {ts ks : List XV} {xs : List EV} {Z : Nat → Prop} {M : Mem} {τ : XSt}, En Z Wr M σ τ → Dns Z M ts xs → keysX p ts = some ks → PostX RA Z Wr M σ τ (.ok ks τ) (keysGo m xs M)
  | [], ks, xs, Z, M, τ, E, d, e => by
    unfold Dns at d
    subst d
    cases e
    exact PostX.ok E .nil
  | t :: ts, ks, xs, Z, M, τ, E, d, e => by
    unfold Dns at d
    obtain ⟨x, r, rfl, d1, d2⟩ := d
    unfold keysX at e
    have hc := callX_post (Wr := Wr) (ms := [.sh]) (bs := [.val t]) (vs := [x]) E ⟨x, [], rfl, d1, rfl⟩ hf
    unfold callX getArgs getArg getArgs at hc
    cases q : p [t] with
    | bad => rw [q] at e; cases e
    | err C fs outs => rw [q] at e; cases e
    | ok k fr outs =>
      rw [q] at e
      unfold okT at e
      rw [Option.bind_some] at e
      cases q2 : keysX p ts with
      | none => rw [q2] at e; cases e
      | some ks' =>
        rw [q2] at e
        cases e
        have nd : (varsOf [BV.val t]).Nodup := List.nodup_nil
        simp only [nd, if_true, q, putOuts_sh] at hc
        obtain ⟨v, M1, Z1, e1, s1, E1, p1, d3⟩ := hc
        unfold keysGo
        rw [e1]
        simp only [noerr, Res.bind]
        obtain ⟨vs, M2, Z2, e2, s2, E2, p2, d4⟩ := keysGo_dn hf E1 (s1.dns d2) q2
        rw [e2]
        exact ⟨v :: vs, M2, Z2, rfl, s1.trans s2, E2, p1.trans p2, .cons (s2.dn d3) d4⟩
theorem walk_dn {t : XV} {ts : List XV} (d : Dn1 Z M t v) (e : walkX t = some ts) : ∃ xs, walkE M v = some xs ∧ Dns Z M ts xs := by
  cases t <;> first | (cases e; done) | skip
  · cases e
    obtain ⟨xs, h1, h2⟩ := getL_dn d
    refine ⟨xs, ?_, h2⟩
    unfold walkE
    have : dicAt M v = none := by
      obtain ⟨k, rfl, ys, g1, _⟩ := d
      unfold dicAt
      simp only [g1]
    rw [this]
    exact h1
  · cases e
    obtain ⟨p, e1, d2⟩ := dicAt_dn d
    refine ⟨p.2.map (·.1), ?_, sel_dns selK d2⟩
    unfold walkE
    rw [e1]
theorem zip_sort_dns {ts : List XV} {xs : List EV} {ds : List PyData} (d : Dns Z M ts xs) (hl : ds.length = ts.length) : Dns Z M (((ts.zip ds).mergeSort leKX).map (·.1)) (((xs.zip ds).mergeSort leK).map (·.1)) := by
  obtain ⟨l, e1, e2, h⟩ := dns_zip d
  subst e1 e2
  have z1 : (l.zip ds).map (fun p => (p.1.1, p.2)) = (l.map (·.1)).zip ds := by
    rw [List.zip_map_left]
    rfl
  have z2 : (l.zip ds).map (fun p => (p.1.2, p.2)) = (l.map (·.2)).zip ds := by
    rw [List.zip_map_left]
    rfl
  have s1 : ((l.zip ds).mergeSort (fun a b => !dataLt b.2 a.2)).map (fun p => (p.1.1, p.2)) = ((l.zip ds).map (fun p => (p.1.1, p.2))).mergeSort leKX := List.map_mergeSort (f := fun (p : (XV × EV) × PyData) => (p.1.1, p.2)) (fun a _ b _ => rfl)
  have s2 : ((l.zip ds).mergeSort (fun a b => !dataLt b.2 a.2)).map (fun p => (p.1.2, p.2)) = ((l.zip ds).map (fun p => (p.1.2, p.2))).mergeSort leK := List.map_mergeSort (f := fun (p : (XV × EV) × PyData) => (p.1.2, p.2)) (fun a _ b _ => rfl)
  rw [← z1, ← z2, ← s1, ← s2, List.map_map, List.map_map]
  refine Dns.map fun p hp => ?_
  have hp := (List.mergeSort_perm _ _).mem_iff.mp hp
  exact h p.1 (List.of_mem_zip hp).1
theorem datsX_len : ∀ {ts : List XV} {ds : List PyData}, datsX ts = some ds → ds.length = ts.length
  | [], _, e => by cases e; rfl
  | t :: ts, ds, e => by
    unfold datsX at e
    cases q : datX t with
    | none => rw [q] at e; cases e
    | some d0 =>
      cases q2 : datsX ts with
      | none => rw [q, q2] at e; cases e
      | some ds' => rw [q, q2] at e; cases e; rw [List.length_cons, List.length_cons, datsX_len q2]
theorem qSortKey {m : Fn} {p : XFn} {f : FE} {x : XB} (hf : FnQ [.sh] m p) (h : QB f x) : QF (eSortKey m f) (x1 (oSortKey p) x) := fun Z Wr M σ τ E => by
  refine PostX.bind (h Z Wr M σ τ E) fun b τ1 v M1 Z1 s E1 r => ?_
  cases q : resB τ1 b with
  | none => exact True.intro
  | some t =>
    rw [Option.bind_some]
    unfold oSortKey
    cases q1 : walkX t with
    | none => exact True.intro
    | some ts =>
      rw [Option.bind_some]
      cases q2 : keysX p ts with
      | none => exact True.intro
      | some ks =>
        rw [Option.bind_some]
        cases q3 : datsX ks with
        | none => exact True.intro
        | some ds =>
          rw [Option.bind_some]
          split
          · rename_i c
            obtain ⟨xs, e1, d1⟩ := walk_dn (res_dn E1 r q) q1
            obtain ⟨vs, M2, Z2, e2, s2, E2, p2, d2⟩ := keysGo_dn hf E1 d1 q2
            have hl : ds.length = ts.length := by rw [datsX_len q3, keysX_len q2]
            unfold sortKey
            rw [e1]
            dsimp only
            rw [if_pos (by rw [d1.len]; exact c.1), e2]
            simp only [Res.bind]
            unfold keyEnd
            rw [dats_dn d2 q3]
            dsimp only
            rw [if_pos c.2]
            exact ((okF_lst (zip_sort_dns (s2.dns d1) hl) (by rw [List.length_map, List.length_mergeSort, List.length_zip]; omega)).post E2).shift s2 p2
          · exact True.intro
end
end WS

set_option Elab.async false
set_option linter.all false
set_option maxRecDepth 100000
/-! The tree layer: what the printed derivations name; the law by its trees. -/
namespace WS
open PySem PySem.Spec PyProof.Rows L2
open Classical
def xTYes : XT := fun τ => .ok true τ
theorem qTYes : QT tYes xTYes := fun Z Wr M σ τ E => PostX.ok E rfl
def xBad : XS := fun _ => .bad
theorem qBad : QS (fun _ _ => .bad) xBad := fun _ _ _ _ _ _ => True.intro
theorem qLen {f : FE} {x : XB} (h : QB f x) : QE (eB (altF (f1 lenV) (f1 lenD)) (aCons f aNil)) (x1 oLen x) := by
  rw [altF_eq]
  exact qb1 pLen h
/-- the law by its trees -/
theorem plain_of {m : Fn} {p : XFn} {ns : List Int} {fr : Bool} {outs : List XV} (h : FnQ [.sh] m p) (e : p [.sl ns] = .ok (.bl true) fr outs) : ∃ M, m [.sl ns] [] = .ok (.bl true) M := by
  have h := h (fun _ => False) [] [.sl ns] [.sl ns] (fun _ h => h.elim) ⟨_, [], _, [], rfl, rfl, (by show Dn _ _ _ _; simp), rfl, rfl⟩ List.nodup_nil (fun _ h => by cases h)
  rw [e] at h
  obtain ⟨v, M', Z', e1, _, _, h1, h2⟩ := h
  refine ⟨M', ?_⟩
  cases fr with
  | true =>
    obtain ⟨k, o, _, _, _, _, n⟩ := h1 rfl
    exact n.elim
  | false =>
    have := h2 rfl
    rw [dn_bl] at this
    rw [e1, this]
end WS

set_option Elab.async false
set_option linter.all false
set_option maxRecDepth 100000
/-! Running functions on trees. -/
namespace WS
open PySem PySem.Spec PyProof.Rows L2
open Classical
section
variable {α β : Type} {τ τ1 : XSt} {t s : XV} {i : Nat}
@[simp] theorem XR.bind_ok {a : α} {g : α → XSt → XR β} : (XR.ok a τ).bind g = g a τ := (rfl)
@[simp] theorem XR.bind_err {C : Addr} {fs : Option (List (Str × XV))} {g : α → XSt → XR β} : (XR.err C fs τ : XR α).bind g = .err C fs τ := (rfl)
@[simp] theorem xThen_ok {a : α} {g : α → XSt → XRS} : xThen (XR.ok a τ) g = g a τ := (rfl)
@[simp] theorem xThen_err {C : Addr} {fs : Option (List (Str × XV))} {g : α → XSt → XRS} : xThen (XR.err C fs τ : XR α) g = .err C fs τ := (rfl)
@[simp] theorem noE_ok {a : α} : noE (XR.ok a τ) = .ok a τ := (rfl)
def XRS.seq (r : XRS) (g : XS) : XRS := match r with
  | .nx τ1 => g τ1
  | r => r
@[simp] theorem seq_nx {g : XS} : (XRS.nx τ).seq g = g τ := (rfl)
@[simp] theorem seq_rt {g : XS} {fr : Bool} : (XRS.rt t fr τ).seq g = .rt t fr τ := (rfl)
@[simp] theorem seq_bk {g : XS} : (XRS.bk τ).seq g = .bk τ := (rfl)
@[simp] theorem seq_ct {g : XS} : (XRS.ct τ).seq g = .ct τ := (rfl)
@[simp] theorem seq_err {g : XS} {C : Addr} {fs : Option (List (Str × XV))} : (XRS.err C fs τ).seq g = .err C fs τ := (rfl)
@[simp] theorem xSeq_ap {f g : XS} : xSeq f g τ = (f τ).seq g := (rfl)
@[simp] theorem xNil_ap : xNil τ = .nx τ := (rfl)
@[simp] theorem xBrk_ap : xBrk τ = .bk τ := (rfl)
@[simp] theorem xCnt_ap : xCnt τ = .ct τ := (rfl)
@[simp] theorem xDrop_ap {f : XE} : xDrop f τ = xThen (f τ) fun _ τ1 => .nx τ1 := (rfl)
@[simp] theorem xRet_ap {f : XE} : xRet f τ = xThen (f τ) fun t τ1 => .rt t false τ1 := (rfl)
@[simp] theorem xRetF_ap {f : XE} : xRetF f τ = xThen (f τ) fun t τ1 => .rt t true τ1 := (rfl)
@[simp] theorem xRetN_ap : xRetN τ = .rt .non false τ := (rfl)
def retV (i : Nat) (τ : XSt) : Option (Option Slot) → XRS
  | some (some (.sh t)) => .rt t false τ
  | some (some (.ow t)) => .rt t true (τ.set i none)
  | _ => .bad
@[simp] theorem xRetV_ap : xRetV i τ = retV i τ τ[i]? := (rfl)
@[simp] theorem retV_sh : retV i τ (some (some (.sh t))) = .rt t false τ := (rfl)
@[simp] theorem retV_ow : retV i τ (some (some (.ow t))) = .rt t true (τ.set i none) := (rfl)
@[simp] theorem xSIf_ap {c : XT} {f g : XS} : xSIf c f g τ = xThen (c τ) fun b τ1 => if b = true then f τ1 else g τ1 := (rfl)
def ofP : Option XSt → XRS
  | some τ => .nx τ
  | none => .bad
@[simp] theorem ofP_some : ofP (some τ) = .nx τ := (rfl)
@[simp] theorem xPut_ap {p : XPut} {f : XE} : xPut p f τ = xThen (f τ) fun t τ1 => ofP (p t τ1) := by
  unfold xPut
  rfl
@[simp] theorem xPutF_ap {f : XE} : xPutF i f τ = xThen (f τ) fun t τ1 => ofP (setN i (.ow t) τ1) := by
  unfold xPutF
  rfl
@[simp] theorem xPar_ap {is : List Nat} {g : XA} : xPar is g τ = xThen (g τ) fun ts τ1 => ofP (putsX is ts τ1) := by
  unfold xPar
  rfl
@[simp] theorem xpN_ap : xpN i t τ = setN i (.sh t) τ := (rfl)
@[simp] theorem xpT_ap {is : List Nat} : xpT is t τ = (asSeq t).bind fun ts => putsX is ts τ := (rfl)
@[simp] theorem asSeq_lst {ts : List XV} : asSeq (.lst ts) = some ts := (rfl)
@[simp] theorem asSeq_tup {ts : List XV} : asSeq (.tup ts) = some ts := (rfl)
@[simp] theorem putsX_nil : putsX [] [] τ = some τ := (rfl)
@[simp] theorem putsX_cons {is : List Nat} {ts : List XV} : putsX (i :: is) (t :: ts) τ = (setN i (.sh t) τ).bind fun τ1 => putsX is ts τ1 := (rfl)
/-- names set -/
theorem setN_0 {s' : Slot} {s0 : Option Slot} (h : muO (some s0) = false) : setN 0 s' (s0 :: τ) = some (some s' :: τ) := by
  unfold setN
  rw [if_pos ⟨by simp, by simpa using h⟩]
  rfl
@[simp] theorem setN_s {s' : Slot} {s0 : Option Slot} : setN (i + 1) s' (s0 :: τ) = (setN i s' τ).map (s0 :: ·) := by
  unfold setN
  by_cases c : i < τ.length ∧ muO τ[i]? = false
  · rw [if_pos c, if_pos (by simpa using c)]; rfl
  · rw [if_neg c, if_neg (by simpa using c)]; rfl
@[simp] theorem muO_none : muO (some none) = false := (rfl)
@[simp] theorem muO_sh : muO (some (some (.sh t))) = false := (rfl)
@[simp] theorem muO_bo : muO (some (some (.bo t))) = false := (rfl)
@[simp] theorem muO_ow : muO (some (some (.ow t))) = false := (rfl)
@[simp] theorem muO_mu : muO (some (some (.mu t))) = true := (rfl)
@[simp] theorem setN_0n {s' : Slot} : setN 0 s' (none :: τ) = some (some s' :: τ) := setN_0 rfl
@[simp] theorem setN_0s {s' : Slot} : setN 0 s' (some (.sh t) :: τ) = some (some s' :: τ) := setN_0 rfl
@[simp] theorem setN_0b {s' : Slot} : setN 0 s' (some (.bo t) :: τ) = some (some s' :: τ) := setN_0 rfl
@[simp] theorem setN_0o {s' : Slot} : setN 0 s' (some (.ow t) :: τ) = some (some s' :: τ) := setN_0 rfl
/-- names read -/
def rdV (i : Nat) (τ : XSt) : Option (Option Slot) → XR XV
  | some (some (.sh t)) => .ok t τ
  | some (some (.ow t)) => .ok t (τ.set i (some (.sh t)))
  | _ => .bad
@[simp] theorem xV_ap : xV i τ = rdV i τ τ[i]? := (rfl)
@[simp] theorem rdV_sh : rdV i τ (some (some (.sh t))) = .ok t τ := (rfl)
@[simp] theorem rdV_ow : rdV i τ (some (some (.ow t))) = .ok t (τ.set i (some (.sh t))) := (rfl)
def rdN (i : Nat) (τ : XSt) : Option (Option Slot) → XR BV
  | some (some (.sh t)) => .ok (.val t) τ
  | some (some _) => .ok (.var i) τ
  | _ => .bad
@[simp] theorem xN_ap : xN i τ = rdN i τ τ[i]? := by
  unfold xN rdN
  cases τ[i]? with
  | none => rfl
  | some o => cases o with
    | none => rfl
    | some s => cases s <;> rfl
@[simp] theorem rdN_sh : rdN i τ (some (some (.sh t))) = .ok (.val t) τ := (rfl)
@[simp] theorem rdN_bo : rdN i τ (some (some (.bo t))) = .ok (.var i) τ := (rfl)
@[simp] theorem rdN_ow : rdN i τ (some (some (.ow t))) = .ok (.var i) τ := (rfl)
@[simp] theorem rdN_mu : rdN i τ (some (some (.mu t))) = .ok (.var i) τ := (rfl)
@[simp] theorem xB_ap {f : XE} : xB f τ = (f τ).bind fun t τ1 => .ok (.val t) τ1 := (rfl)
@[simp] theorem xC_ap : xC t τ = .ok t τ := (rfl)
@[simp] theorem resB_val : resB τ (.val t) = some t := (rfl)
def slT : Option (Option Slot) → Option XV
  | some (some s) => some s.t
  | _ => none
@[simp] theorem resB_var : resB τ (.var i) = slT τ[i]? := by
  unfold resB slT
  dsimp only
  all_goals (
    cases τ[i]? with
    | none => rfl
    | some o => cases o <;> rfl)
@[simp] theorem slT_sh : slT (some (some (.sh t))) = some t := (rfl)
@[simp] theorem slT_bo : slT (some (some (.bo t))) = some t := (rfl)
@[simp] theorem slT_ow : slT (some (some (.ow t))) = some t := (rfl)
@[simp] theorem slT_mu : slT (some (some (.mu t))) = some t := (rfl)
@[simp] theorem ofO_some : ofO (some t) τ = .ok t τ := (rfl)
@[simp] theorem x1_ap {o : XV → Option XV} {f : XB} : x1 o f τ = (f τ).bind fun a τ1 => ofO ((resB τ1 a).bind o) τ1 := (rfl)
@[simp] theorem x2_ap {o : XV → XV → Option XV} {f g : XB} : x2 o f g τ = (f τ).bind fun a τ1 => (g τ1).bind fun b τ2 => ofO ((resB τ2 a).bind fun t => (resB τ2 b).bind fun s => o t s) τ2 := (rfl)
@[simp] theorem isTrue_bl {b : Bool} : isTrue (.bl b) = some b := (rfl)
def ofT (τ : XSt) : Option Bool → XR Bool
  | some b => .ok b τ
  | none => .bad
@[simp] theorem ofT_some {b : Bool} : ofT τ (some b) = .ok b τ := (rfl)
@[simp] theorem xT_ap {f : XE} : xT f τ = (f τ).bind fun t τ1 => ofT τ1 (isTrue t) := by
  unfold xT
  rfl
@[simp] theorem xTNot_ap {f : XT} : xTNot f τ = (f τ).bind fun b τ1 => .ok (!b) τ1 := (rfl)
@[simp] theorem xTAnd_ap {f g : XT} : xTAnd f g τ = (f τ).bind fun b τ1 => if b = true then g τ1 else .ok false τ1 := (rfl)
@[simp] theorem xTOr_ap {f g : XT} : xTOr f g τ = (f τ).bind fun b τ1 => if b = true then .ok true τ1 else g τ1 := (rfl)
@[simp] theorem xTYes_ap : xTYes τ = .ok true τ := (rfl)
def bAnd (τ : XSt) (g : XE) : Option Bool → XR XV
  | some true => g τ
  | some false => .ok (.bl false) τ
  | none => .bad
def bOr (τ : XSt) (g : XE) : Option Bool → XR XV
  | some false => g τ
  | some true => .ok (.bl true) τ
  | none => .bad
@[simp] theorem bAnd_ap {g : XE} {b : Bool} : bAnd τ g (some b) = if b = true then g τ else .ok (.bl false) τ := by cases b <;> rfl
@[simp] theorem bOr_ap {g : XE} {b : Bool} : bOr τ g (some b) = if b = true then .ok (.bl true) τ else g τ := by cases b <;> rfl
@[simp] theorem xAnd_ap {f g : XE} : xAnd f g τ = (f τ).bind fun t τ1 => bAnd τ1 g (isTrue t) := by
  unfold xAnd
  rfl
@[simp] theorem xOr_ap {f g : XE} : xOr f g τ = (f τ).bind fun t τ1 => bOr τ1 g (isTrue t) := by
  unfold xOr
  rfl
def bNot (τ : XSt) : Option Bool → XR XV
  | some b => .ok (.bl (!b)) τ
  | none => .bad
@[simp] theorem bNot_ap {b : Bool} : bNot τ (some b) = .ok (.bl (!b)) τ := (rfl)
@[simp] theorem xNot_ap {f : XE} : xNot f τ = (f τ).bind fun t τ1 => bNot τ1 (isTrue t) := by
  unfold xNot
  rfl
@[simp] theorem xIf_ap {c : XT} {f g : XSt → XR α} : xIf c f g τ = (c τ).bind fun b τ1 => if b = true then f τ1 else g τ1 := (rfl)
@[simp] theorem xChain_ap {o o' : XV → XV → Option XV} {f g h : XB} : xChain o o' f g h τ = (f τ).bind fun a τ1 => (g τ1).bind fun b τ2 => (ofO ((resB τ2 a).bind fun t => (resB τ2 b).bind fun s => o t s) τ2).bind fun z τ3 => bAnd τ3 (fun τ3 => (h τ3).bind fun c τ4 => ofO ((resB τ4 b).bind fun t => (resB τ4 c).bind fun s => o' t s) τ4) (isTrue z) := by
  unfold xChain
  rfl
@[simp] theorem xANil_ap : xANil τ = .ok [] τ := (rfl)
@[simp] theorem xACons_ap {f : XE} {g : XA} : xACons f g τ = (f τ).bind fun t τ1 => (g τ1).bind fun ts τ2 => .ok (t :: ts) τ2 := (rfl)
@[simp] theorem xMNil_ap : xMNil τ = .ok [] τ := (rfl)
@[simp] theorem xMCons_ap {f : XB} {g : XM} : xMCons f g τ = (f τ).bind fun t τ1 => (g τ1).bind fun ts τ2 => .ok (t :: ts) τ2 := (rfl)
theorem sz {n : Nat} (h : n ≤ 1000) : n ≤ sizeLine := Nat.le_trans h (by decide)
def mkL (τ : XSt) (ts : List XV) : XR XV := if ts.length ≤ sizeLine then .ok (.lst ts) τ else .bad
def mkT (τ : XSt) (ts : List XV) : XR XV := if ts.length ≤ sizeLine then .ok (.tup ts) τ else .bad
@[simp] theorem xLst_ap {g : XA} : xLst g τ = (g τ).bind fun ts τ1 => mkL τ1 ts := (rfl)
@[simp] theorem xTup_ap {g : XA} : xTup g τ = (g τ).bind fun ts τ1 => mkT τ1 ts := (rfl)
theorem mkL_ok {ts : List XV} (h : ts.length ≤ 1000) : mkL τ ts = .ok (.lst ts) τ := if_pos (sz h)
@[simp] theorem mkL_nil : mkL τ [] = .ok (.lst []) τ := mkL_ok (by decide)
@[simp] theorem mkT_0 : mkT τ [] = .ok (.tup []) τ := if_pos (sz (by decide))
@[simp] theorem mkT_1 {a : XV} : mkT τ [a] = .ok (.tup [a]) τ := if_pos (sz (by simp))
@[simp] theorem mkT_2 {a b : XV} : mkT τ [a, b] = .ok (.tup [a, b]) τ := if_pos (sz (by simp))
@[simp] theorem mkT_3 {a b c : XV} : mkT τ [a, b, c] = .ok (.tup [a, b, c]) τ := if_pos (sz (by simp))
@[simp] theorem mkT_4 {a b c d : XV} : mkT τ [a, b, c, d] = .ok (.tup [a, b, c, d]) τ := if_pos (sz (by simp))
theorem mkL_cons {a : XV} {ts : List XV} (h : ts.length < 1000) : mkL τ (a :: ts) = .ok (.lst (a :: ts)) τ := mkL_ok (by rw [List.length_cons]; omega)
@[simp] theorem mkL_1 {a : XV} : mkL τ [a] = .ok (.lst [a]) τ := mkL_ok (by simp)
@[simp] theorem mkL_2 {a b : XV} : mkL τ [a, b] = .ok (.lst [a, b]) τ := mkL_ok (by simp)
@[simp] theorem mkL_3 {a b c : XV} : mkL τ [a, b, c] = .ok (.lst [a, b, c]) τ := mkL_ok (by simp)
@[simp] theorem mkL_4 {a b c d : XV} : mkL τ [a, b, c, d] = .ok (.lst [a, b, c, d]) τ := mkL_ok (by simp)
@[simp] theorem mkL_6 {a b c d e f : XV} : mkL τ [a, b, c, d, e, f] = .ok (.lst [a, b, c, d, e, f]) τ := mkL_ok (by simp)
/-! functions -/
def endX (ms : List Md) : XRS → XFR
  | .rt t fr τ => .ok t fr (outsOf ms τ)
  | .nx τ => .ok .non false (outsOf ms τ)
  | .err C fs τ => .err C fs (outsOf ms τ)
  | _ => .bad
theorem xfn_ap {N : Nat} {ms : List Md} {b : XS} {ts : List XV} : xfn N ms b ts = endX ms (b (slotsOf ms ts ++ List.replicate (N - ts.length) none)) := by
  unfold xfn
  cases b (slotsOf ms ts ++ List.replicate (N - ts.length) none) <;> rfl
@[simp] theorem endX_rt {ms : List Md} {fr : Bool} : endX ms (.rt t fr τ) = .ok t fr (outsOf ms τ) := (rfl)
@[simp] theorem endX_nx {ms : List Md} : endX ms (.nx τ) = .ok .non false (outsOf ms τ) := (rfl)
@[simp] theorem endX_err {ms : List Md} {C : Addr} {fs : Option (List (Str × XV))} : endX ms (.err C fs τ) = .err C fs (outsOf ms τ) := (rfl)
@[simp] theorem slotsOf_nil {ts : List XV} : slotsOf [] ts = [] := by cases ts <;> rfl
@[simp] theorem slotsOf_sh {ms : List Md} {ts : List XV} : slotsOf (.sh :: ms) (t :: ts) = some (.sh t) :: slotsOf ms ts := (rfl)
@[simp] theorem slotsOf_bo {ms : List Md} {ts : List XV} : slotsOf (.bo :: ms) (t :: ts) = some (.bo t) :: slotsOf ms ts := (rfl)
@[simp] theorem slotsOf_mu {ms : List Md} {ts : List XV} : slotsOf (.mu :: ms) (t :: ts) = some (.mu t) :: slotsOf ms ts := (rfl)
@[simp] theorem outsOf_0 : outsOf [] τ = [] := by unfold outsOf; rfl
@[simp] theorem outsOf_sh {ms : List Md} {s : Option Slot} : outsOf (.sh :: ms) (s :: τ) = outsOf ms τ := (rfl)
@[simp] theorem outsOf_bo {ms : List Md} {s : Option Slot} : outsOf (.bo :: ms) (s :: τ) = outsOf ms τ := (rfl)
@[simp] theorem outsOf_mu {ms : List Md} {s : Slot} : outsOf (.mu :: ms) (some s :: τ) = s.t :: outsOf ms τ := (rfl)
@[simp] theorem t_sh : (Slot.sh t).t = t := (rfl)
@[simp] theorem t_bo : (Slot.bo t).t = t := (rfl)
@[simp] theorem t_ow : (Slot.ow t).t = t := (rfl)
@[simp] theorem t_mu : (Slot.mu t).t = t := (rfl)
@[simp] theorem getArgs_nil : getArgs τ [] [] = some [] := (rfl)
@[simp] theorem getArgs_cons {m : Md} {b : BV} {ms : List Md} {bs : List BV} : getArgs τ (m :: ms) (b :: bs) = (getArg τ m b).bind fun t => (getArgs τ ms bs).map (t :: ·) := by
  conv => lhs; unfold getArgs
  cases getArg τ m b with
  | none => rfl
  | some t => cases getArgs τ ms bs <;> rfl
@[simp] theorem getArg_sh : getArg τ .sh (.val t) = some t := (rfl)
@[simp] theorem getArg_bo {b : BV} : getArg τ .bo b = resB τ b := (rfl)
def muS : Option (Option Slot) → Option XV
  | some (some s) => if s.own = true then some s.t else none
  | _ => none
@[simp] theorem muArg_ap : muArg τ i = muS τ[i]? := by
  unfold muArg muS
  rfl
@[simp] theorem getArg_mu : getArg τ .mu (.var i) = muS τ[i]? := muArg_ap
@[simp] theorem muS_ow : muS (some (some (.ow t))) = some t := (rfl)
@[simp] theorem muS_mu : muS (some (some (.mu t))) = some t := (rfl)
@[simp] theorem varsOf_nil : varsOf [] = [] := (rfl)
@[simp] theorem varsOf_val {bs : List BV} : varsOf (.val t :: bs) = varsOf bs := (rfl)
@[simp] theorem varsOf_var {bs : List BV} : varsOf (.var i :: bs) = i :: varsOf bs := (rfl)
@[simp] theorem putOuts_0 {bs : List BV} {outs : List XV} : putOuts τ [] bs outs = τ := by unfold putOuts; rfl
@[simp] theorem putOuts_sh1 {ms : List Md} {b : BV} {bs : List BV} {outs : List XV} : putOuts τ (.sh :: ms) (b :: bs) outs = putOuts τ ms bs outs := by conv => lhs; unfold putOuts
@[simp] theorem putOuts_bo1 {ms : List Md} {b : BV} {bs : List BV} {outs : List XV} : putOuts τ (.bo :: ms) (b :: bs) outs = putOuts τ ms bs outs := by conv => lhs; unfold putOuts
@[simp] theorem putOuts_mu1 {ms : List Md} {bs : List BV} {outs : List XV} : putOuts τ (.mu :: ms) (.var i :: bs) (t :: outs) = putOuts (updS τ i t) ms bs outs := by conv => lhs; unfold putOuts
@[simp] theorem updS_ow {s0 : XV} {r : XSt} : updS (some (.ow s0) :: r) 0 t = some (.ow t) :: r := (rfl)
@[simp] theorem updS_mu0 {s0 : XV} {r : XSt} : updS (some (.mu s0) :: r) 0 t = some (.mu t) :: r := (rfl)
@[simp] theorem updS_s {s0 : Option Slot} {r : XSt} : updS (s0 :: r) (i + 1) t = s0 :: updS r i t := by
  unfold updS
  rw [List.getElem?_cons_succ]
  cases r[i]? with
  | none => rfl
  | some o => cases o <;> rfl
def callK (τ : XSt) (ms : List Md) (bs : List BV) : XFR → XR XV
  | .ok t _ outs => .ok t (putOuts τ ms bs outs)
  | .err C fs outs => .err C fs (putOuts τ ms bs outs)
  | .bad => .bad
def callKF (τ : XSt) (ms : List Md) (bs : List BV) : XFR → XR XV
  | .ok t true outs => .ok t (putOuts τ ms bs outs)
  | .ok _ false _ => .bad
  | .err C fs outs => .err C fs (putOuts τ ms bs outs)
  | .bad => .bad
@[simp] theorem callK_ok {ms : List Md} {bs : List BV} {fr : Bool} {outs : List XV} : callK τ ms bs (.ok t fr outs) = .ok t (putOuts τ ms bs outs) := (rfl)
@[simp] theorem callK_err {ms : List Md} {bs : List BV} {C : Addr} {fs : Option (List (Str × XV))} {outs : List XV} : callK τ ms bs (.err C fs outs) = .err C fs (putOuts τ ms bs outs) := (rfl)
@[simp] theorem callKF_ok {ms : List Md} {bs : List BV} {outs : List XV} : callKF τ ms bs (.ok t true outs) = .ok t (putOuts τ ms bs outs) := (rfl)
@[simp] theorem callKF_err {ms : List Md} {bs : List BV} {C : Addr} {fs : Option (List (Str × XV))} {outs : List XV} : callKF τ ms bs (.err C fs outs) = .err C fs (putOuts τ ms bs outs) := (rfl)
noncomputable def callA (τ : XSt) (ms : List Md) (bs : List BV) (k : XFR → XR XV) (p : XFn) : Option (List XV) → XR XV
  | none => .bad
  | some ts => if (varsOf bs).Nodup then k (p ts) else .bad
@[simp] theorem callA_some {ms : List Md} {bs : List BV} {k : XFR → XR XV} {p : XFn} {ts : List XV} : callA τ ms bs k p (some ts) = if (varsOf bs).Nodup then k (p ts) else .bad := (rfl)
@[simp] theorem callX_ap {ms : List Md} {bs : List BV} {p : XFn} : callX τ ms bs p = callA τ ms bs (callK τ ms bs) p (getArgs τ ms bs) := by
  unfold callX callA
  cases getArgs τ ms bs with
  | none => rfl
  | some ts =>
    dsimp only
    congr 1
@[simp] theorem callF_ap {ms : List Md} {bs : List BV} {p : XFn} : callF τ ms bs p = callA τ ms bs (callKF τ ms bs) p (getArgs τ ms bs) := by
  unfold callF callA
  cases getArgs τ ms bs with
  | none => rfl
  | some ts =>
    dsimp only
    congr 1
@[simp] theorem xCall_ap {ms : List Md} {p : XFn} {g : XM} : xCall ms p g τ = (g τ).bind fun bs τ1 => callX τ1 ms bs p := (rfl)
@[simp] theorem xCallF_ap {ms : List Md} {p : XFn} {g : XM} : xCallF ms p g τ = (g τ).bind fun bs τ1 => callF τ1 ms bs p := (rfl)
/-! operators on known things -/
section
variable {i j : Int} {x y : Str}
@[simp] theorem oAdd_i : oAdd (.int i) (.int j) = some (.int (i + j)) := (rfl)
@[simp] theorem oSub_i : oSub (.int i) (.int j) = some (.int (i - j)) := (rfl)
@[simp] theorem oNeg_i : oNeg (.int i) = some (.int (-i)) := (rfl)
@[simp] theorem oMul_i : oMul (.int i) (.int j) = if CMul i j then some (.int (i * j)) else none := (rfl)
@[simp] theorem oFdiv_i : oFdiv (.int i) (.int j) = if CDiv i j then some (.int (i / j)) else none := (rfl)
@[simp] theorem oMod_i : oMod (.int i) (.int j) = if 0 < j then some (.int (i % j)) else none := by unfold oMod oIIc; dsimp only; by_cases h : 0 < j <;> simp [h]
@[simp] theorem oPow_i : oPow (.int i) (.int j) = if CPow i j then some (.int (i ^ j.toNat)) else none := (rfl)
@[simp] theorem oLt_i : oLt (.int i) (.int j) = some (.bl (decide (i < j))) := (rfl)
@[simp] theorem oLe_i : oLe (.int i) (.int j) = some (.bl (decide (i ≤ j))) := (rfl)
@[simp] theorem oGt_i : oGt (.int i) (.int j) = some (.bl (decide (j < i))) := (rfl)
@[simp] theorem oGe_i : oGe (.int i) (.int j) = some (.bl (decide (j ≤ i))) := (rfl)
@[simp] theorem oIs_non {neg : Bool} : oIs neg t .non = some (.bl (neg ^^ isNonX t)) := (rfl)
@[simp] theorem oIs_bl {neg a b : Bool} : oIs neg (.bl a) (.bl b) = some (.bl (neg ^^ decide (a = b))) := (rfl)
@[simp] theorem isNonX_non : isNonX .non = true := (rfl)
@[simp] theorem isNonX_str : isNonX (.str x) = false := (rfl)
@[simp] theorem isNonX_int : isNonX (.int i) = false := (rfl)
@[simp] theorem isNonX_lst {ts : List XV} : isNonX (.lst ts) = false := (rfl)
@[simp] theorem isNonX_tup {ts : List XV} : isNonX (.tup ts) = false := (rfl)
@[simp] theorem isNonX_dic {ts : List (XV × XV)} : isNonX (.dic ts) = false := (rfl)
@[simp] theorem isNonX_ins {C : Addr} {ts : List (Str × XV)} : isNonX (.ins C ts) = false := (rfl)
@[simp] theorem oMin2_i : oMin2 (.int i) (.int j) = some (.int (if j < i then j else i)) := (rfl)
@[simp] theorem oMax2_i : oMax2 (.int i) (.int j) = some (.int (if j > i then j else i)) := (rfl)
@[simp] theorem oLen_lst {ts : List XV} : oLen (.lst ts) = some (.int ts.length) := (rfl)
@[simp] theorem oLen_tup {ts : List XV} : oLen (.tup ts) = some (.int ts.length) := (rfl)
@[simp] theorem oInt_b {b : Bool} : oInt (.bl b) = some (.int (if b then 1 else 0)) := (rfl)
@[simp] theorem oInt_i : oInt (.int i) = some (.int i) := (rfl)
@[simp] theorem asInt_i : asInt (.int i) = some i := (rfl)
@[simp] theorem asL_l {ts : List XV} : asL (.lst ts) = some ts := (rfl)
@[simp] theorem insOf_self {C : Addr} {fs : List (Str × XV)} : insOf C (.ins C fs) = some fs := if_pos rfl
@[simp] theorem oItm_lst {ts : List XV} : oItm (.lst ts) (.int i) = (ixE ts.length i).bind fun j => ts[j]? := (rfl)
@[simp] theorem oItm_tup {ts : List XV} : oItm (.tup ts) (.int i) = (ixE ts.length i).bind fun j => ts[j]? := (rfl)
theorem ix_nat {n k : Nat} (h : k < n) : ixE n (k : Int) = some k := by
  unfold ixE L2.ixN
  rw [if_pos (by omega), if_pos (by omega)]
  simp
theorem ix_neg1 {n : Nat} (h : 0 < n) : ixE n (-1) = some (n - 1) := by
  unfold ixE L2.ixN
  rw [if_neg (by omega), if_pos (by omega)]
  congr 1
  omega
end
end
end WS

set_option Elab.async false
set_option linter.all false
set_option maxRecDepth 100000
namespace WS
open PySem PySem.Spec PyProof.Rows L2
def top (i : Nat) : Stmt := PySem.Challenge.pw_windowsteps_k05_equal_systems.main.body.getD i (.Pass ⟨0, 0, 0, 0⟩)
/-- where the program's things stand -/
structure Ad where
  f_law_pen : Addr
  f_law_next : Addr
  f_law_draw : Addr
  f_law_some : Addr
  f_law_nyms : Addr
  f_law_key : Addr
  f_law_sorted : Addr
  f_law_at : Addr
  f_law_gaps : Addr
  f_law_goal : Addr
  f_is_name : Addr
  f_is_integer : Addr
  f_is_thing : Addr
  f_System_is_rule : Addr
  f_rule_key : Addr
  f_System_init : Addr
  f_System_eq : Addr
  f_law_others : Addr
  f_law : Addr
  C_System : Addr
  p_System_is_rule : Addr
  t_LETTERS : Tok
  t_MAX_GAP : Tok
  t_MAX_NAME : Tok
structure Txt (K : PySem.W.Frag) (mg : Str → Option Value) (a : Ad) : Prop where
  f_law_pen : mg "_law_pen" = some (.ref a.f_law_pen)
  f_law_next : mg "_law_next" = some (.ref a.f_law_next)
  f_law_draw : mg "_law_draw" = some (.ref a.f_law_draw)
  f_law_some : mg "_law_some" = some (.ref a.f_law_some)
  f_law_nyms : mg "_law_nyms" = some (.ref a.f_law_nyms)
  f_law_key : mg "_law_key" = some (.ref a.f_law_key)
  f_law_sorted : mg "_law_sorted" = some (.ref a.f_law_sorted)
  f_law_at : mg "_law_at" = some (.ref a.f_law_at)
  f_law_gaps : mg "_law_gaps" = some (.ref a.f_law_gaps)
  f_law_goal : mg "_law_goal" = some (.ref a.f_law_goal)
  f_is_name : mg "is_name" = some (.ref a.f_is_name)
  f_is_integer : mg "is_integer" = some (.ref a.f_is_integer)
  f_is_thing : mg "is_thing" = some (.ref a.f_is_thing)
  f_rule_key : mg "rule_key" = some (.ref a.f_rule_key)
  f_law_others : mg "_law_others" = some (.ref a.f_law_others)
  f_law : mg "law" = some (.ref a.f_law)
  cl_System : Cls K a.C_System
  k_System : mg "System" = some (.ref a.C_System)
  n_all : mg "all" = none
  n_bool : mg "bool" = none
  n_dict : mg "dict" = none
  n_int : mg "int" = none
  n_isinstance : mg "isinstance" = none
  n_len : mg "len" = none
  n_list : mg "list" = none
  n_max : mg "max" = none
  n_min : mg "min" = none
  n_range : mg "range" = none
  n_set : mg "set" = none
  n_sorted : mg "sorted" = none
  n_str : mg "str" = none
  n_tuple : mg "tuple" = none
  c_LETTERS : mg "LETTERS" = some (.str "abcdefghijklmnopqrstuvwxyz" a.t_LETTERS)
  c_MAX_GAP : mg "MAX_GAP" = some (.int 999 a.t_MAX_GAP)
  c_MAX_NAME : mg "MAX_NAME" = some (.int 8 a.t_MAX_NAME)
  no_System_gaps : NoAttr K a.C_System "gaps"
  no_System_settings : NoAttr K a.C_System "settings"
  st_System_is_rule : SMet K a.C_System (.type "type") "is_rule" a.p_System_is_rule a.f_System_is_rule
  mk_System : Mk K a.C_System a.f_System_init
  own : ∀ C ∈ [a.C_System], ClsI K C
  ib_bool : ∀ C ∈ [a.C_System], PySem.W.kitOne K (.ref C) (.type "bool") = some false
  ib_int : ∀ C ∈ [a.C_System], PySem.W.kitOne K (.ref C) (.type "int") = some false
  ib_list : ∀ C ∈ [a.C_System], PySem.W.kitOne K (.ref C) (.type "list") = some false
  ib_str : ∀ C ∈ [a.C_System], PySem.W.kitOne K (.ref C) (.type "str") = some false
  ib_tuple : ∀ C ∈ [a.C_System], PySem.W.kitOne K (.ref C) (.type "tuple") = some false
  ic_System : ∀ T ∈ tNames, PySem.W.kitOne K (.type T) (.ref a.C_System) = some false
  id_System : ∀ C ∈ [a.C_System], PySem.W.kitOne K (.ref C) (.ref a.C_System) = some (decide (C = a.C_System))
  oe_System : OwnE K a.C_System a.f_System_eq [a.C_System]
section
variable {P : Program} {w : World} {K : PySem.W.Frag} {mg : Str → Option Value} {base : Heap} {a : Ad}
abbrev s_law_pen : Stmt := top 14
abbrev N_law_pen : List Str := ["_law_script"]
theorem sc_law_pen : FnScope N_law_pen ["_law_script"] (defScope s_law_pen) := ⟨rfl, rfl, rfl, by decide +kernel, rfl, by decide +kernel, by decide +kernel⟩
noncomputable def b_law_pen (a : Ad) : FS := (sRet (eLst (aCons (eB (f1 listV) (aCons (eSlc (eV 0) oNone (oSome (eC (.int 60)))) aNil)) (aCons (eC (.int 0)) (aCons (eC (.int 0)) aNil)))))
noncomputable def m_law_pen (a : Ad) : Fn := fnOf 1 (b_law_pen a)
theorem ok_law_pen {fd : FuncData} (F : Fun K "_law_pen" "_law_pen" s_law_pen a.f_law_pen fd) (T : Txt K mg a) : FnS P w K mg base 1 a.f_law_pen 1 (m_law_pen a) :=
  fn_ok (k := 0) (N := N_law_pen) (ps := ["_law_script"]) (body := b_law_pen a) F sc_law_pen (fun _ _ _ _ _ _ us hl => match us, hl with | [_], _ => rfl) fun cdv A outer s H E hr => by
    have tk := takes_of (X := cxOf (L2.CX P w) P w K mg base N_law_pen "_law_pen" (defScope s_law_pen) a.f_law_pen cdv A outer s H E) (E := E) rfl rfl rfl rfl
    have hu := hr.units
    have hu2 := room65 hr
    have nd := (sc_law_pen).nd
    exact (ssOne (ssRet (sLst (saCons (sCT sbList (saCons (sSlc (sV 0) soNone (soSome sI)) saNil) T.n_list rfl) (saCons sI (saCons sI saNil))))))
abbrev s_law_next : Stmt := top 15
abbrev N_law_next : List Str := ["_law_pen_here", "_law_index", "_law_cell", "_law_some_here", "_law_more", "_law_top"]
theorem sc_law_next : FnScope N_law_next ["_law_pen_here"] (defScope s_law_next) := ⟨rfl, rfl, rfl, by decide +kernel, rfl, by decide +kernel, by decide +kernel⟩
noncomputable def b_law_next (a : Ad) : FS := (sSeq (sPut (pN 1) (e2 itmV (eV 0) (eC (.int 1))))
  (sSeq (sSto putV (e2 opAdd (eV 1) (eC (.int 1))) (eV 0) (eC (.int 1)))
  (sSeq (sPut (pN 2) (e2 opAdd (e2 opMul (eV 1) (eC (.int 1061))) (eC (.int 37))))
  (sSeq (sIf (tOfE (e2 (cEqD true) (e2 itmV (eV 0) (eC (.int 0))) (eLst aNil))) (sPut (pN 2) (e2 itmV (e2 itmV (eV 0) (eC (.int 0))) (e2 opMod (eV 1) (eB (altF (f1 lenV) (f1 lenD)) (aCons (e2 itmV (eV 0) (eC (.int 0))) aNil))))) sNil)
  (sSeq (sIf (tAnd (tOfE (e2 cLt (eV 1) (eB (altF (f1 lenV) (f1 lenD)) (aCons (e2 itmV (eV 0) (eC (.int 0))) aNil)))) (tOfE (e2 cGe (eV 2) (e2 opPow (eC (.int 10)) (eC (.int 18)))))) (sRet (eV 2)) sNil)
  (sSeq (sPut (pN 3) (e2 opMod (e2 opAdd (e2 opAdd (e2 opMod (eV 2) (eC (.int 2147483587))) (e2 opMul (eV 1) (eC (.int 50069)))) (eC (.int 61))) (eC (.int 2147483587))))
  (sSeq (sPut (pN 4) (e2 opMod (e2 opAdd (e2 opAdd (e2 opMul (eV 3) (eV 3)) (e2 opMul (eV 1) (eC (.int 40013)))) (eC (.int 43))) (eC (.int 2147483563))))
  (sSeq (sPut (pN 5) (e2 opMod (e2 opAdd (e2 opAdd (e2 opMul (eV 4) (eV 4)) (eV 3)) (e2 opMul (e2 opMul (eV 1) (eV 1)) (eC (.int 19)))) (eC (.int 2147483549))))
  (sRet (e2 opAdd (e2 opMul (e2 opAdd (e2 opMul (eV 5) (eC (.int 2147483587))) (eV 4)) (eC (.int 2147483563))) (eV 3)))))))))))
noncomputable def m_law_next (a : Ad) : Fn := fnOf 6 (b_law_next a)
theorem ok_law_next {fd : FuncData} (F : Fun K "_law_next" "_law_next" s_law_next a.f_law_next fd) (T : Txt K mg a) : FnS P w K mg base 1 a.f_law_next 1 (m_law_next a) :=
  fn_ok (k := 0) (N := N_law_next) (ps := ["_law_pen_here"]) (body := b_law_next a) F sc_law_next (fun _ _ _ _ _ _ us hl => match us, hl with | [_], _ => rfl) fun cdv A outer s H E hr => by
    have tk := takes_of (X := cxOf (L2.CX P w) P w K mg base N_law_next "_law_next" (defScope s_law_next) a.f_law_next cdv A outer s H E) (E := E) rfl rfl rfl rfl
    have hu := hr.units
    have hu2 := room65 hr
    have nd := (sc_law_next).nd
    exact (ssCons (ssSet (i := 1) nd (sIxV hu (sV 0) sI))
  (ssCons (ssSto (spV hu) (sBin soAdd (sV 1) sI) (sV 0) sI)
  (ssCons (ssSet (i := 2) nd (sBin soAdd (sBin soMul (sV 1) sI) sI))
  (ssCons (ssIf (tCmp (scNeD hr) (sIxV hu (sV 0) sI) (sLst saNil) (nomark _)) (ssOne (ssSet (i := 2) nd (sIxV hu (sIxV hu (sV 0) sI) (sBin soMod (sV 1) (sCB (sbLen.alt sbLenD) (saCons (sIxV hu (sV 0) sI) saNil) T.n_len rfl))))) ssNil)
  (ssCons (ssIf (tAndC (tCmp scLt (sV 1) (sCB (sbLen.alt sbLenD) (saCons (sIxV hu (sV 0) sI) saNil) T.n_len rfl) (nomark _)) (tAnd1 (tCmp scGe (sV 2) (sBin soPow sI sI) (nomark _)))).st (ssOne (ssRet (sV 2))) ssNil)
  (ssCons (ssSet (i := 3) nd (sBin soMod (sBin soAdd (sBin soAdd (sBin soMod (sV 2) sI) (sBin soMul (sV 1) sI)) sI) sI))
  (ssCons (ssSet (i := 4) nd (sBin soMod (sBin soAdd (sBin soAdd (sBin soMul (sV 3) (sV 3)) (sBin soMul (sV 1) sI)) sI) sI))
  (ssCons (ssSet (i := 5) nd (sBin soMod (sBin soAdd (sBin soAdd (sBin soMul (sV 4) (sV 4)) (sV 3)) (sBin soMul (sBin soMul (sV 1) (sV 1)) sI)) sI))
  (ssOne (ssRet (sBin soAdd (sBin soMul (sBin soAdd (sBin soMul (sV 5) sI) (sV 4)) sI) (sV 3))))))))))))
abbrev s_law_draw : Stmt := top 16
abbrev N_law_draw : List Str := ["_law_pen_here", "_law_under", "_law_digit"]
theorem sc_law_draw : FnScope N_law_draw ["_law_pen_here", "_law_under"] (defScope s_law_draw) := ⟨rfl, rfl, rfl, by decide +kernel, rfl, by decide +kernel, by decide +kernel⟩
noncomputable def b_law_draw (a : Ad) : FS := (sSeq (sIf (tOfE (e2 cLt (e2 itmV (eV 0) (eC (.int 2))) (eV 1))) (sSto putV (eCall 1 (m_law_next a) (aCons (eV 0) aNil)) (eV 0) (eC (.int 2))) sNil)
  (sSeq (sPut (pN 2) (e2 opMod (e2 itmV (eV 0) (eC (.int 2))) (eV 1)))
  (sSeq (sSto putV (e2 opFdiv (e2 itmV (eV 0) (eC (.int 2))) (eV 1)) (eV 0) (eC (.int 2)))
  (sRet (eV 2)))))
noncomputable def m_law_draw (a : Ad) : Fn := fnOf 3 (b_law_draw a)
theorem ok_law_draw {fd : FuncData} (F : Fun K "_law_draw" "_law_draw" s_law_draw a.f_law_draw fd) (T : Txt K mg a) (G_law_next : FnS P w K mg base 1 a.f_law_next 1 (m_law_next a)) : FnS P w K mg base 2 a.f_law_draw 2 (m_law_draw a) :=
  fn_ok (k := 1) (N := N_law_draw) (ps := ["_law_pen_here", "_law_under"]) (body := b_law_draw a) F sc_law_draw (fun _ _ _ _ _ _ us hl => match us, hl with | [_, _], _ => rfl) fun cdv A outer s H E hr => by
    have tk := takes_of (X := cxOf (L2.CX P w) P w K mg base N_law_draw "_law_draw" (defScope s_law_draw) a.f_law_draw cdv A outer s H E) (E := E) rfl rfl rfl rfl
    have hu := hr.units
    have hu2 := room65 hr
    have nd := (sc_law_draw).nd
    exact (ssCons (ssIf (tCmp scLt (sIxV hu (sV 0) sI) (sV 1) (nomark _)) (ssOne (ssSto (spV hu) (sCall G_law_next (hr.mono (by decide)) tk T.f_law_next (saCons (sV 0) saNil)) (sV 0) sI)) ssNil)
  (ssCons (ssSet (i := 2) nd (sBin soMod (sIxV hu (sV 0) sI) (sV 1)))
  (ssCons (ssSto (spV hu) (sBin soFdiv (sIxV hu (sV 0) sI) (sV 1)) (sV 0) sI)
  (ssOne (ssRet (sV 2))))))
abbrev s_law_some : Stmt := top 17
abbrev N_law_some : List Str := ["_law_pen_here", "_law_pool", "_law_most", "_law_left", "_law_turn"]
theorem sc_law_some : FnScope N_law_some ["_law_pen_here", "_law_pool", "_law_most"] (defScope s_law_some) := ⟨rfl, rfl, rfl, by decide +kernel, rfl, by decide +kernel, by decide +kernel⟩
noncomputable def b_law_some (a : Ad) : FS := (sSeq (sPut (pN 3) (eB (f1 listV) (aCons (eV 1) aNil)))
  (sRet (eLc [4] (iR1 (aCons (eCall 2 (m_law_draw a) (aCons (eV 0) (aCons (e2 opAdd (eB (f2 min2V) (aCons (eV 2) (aCons (eB (altF (f1 lenV) (f1 lenD)) (aCons (eV 3) aNil)) aNil))) (eC (.int 1))) aNil))) aNil)) (pN 4) tYes (eMtL mPopAt (eV 3) (aCons (eCall 2 (m_law_draw a) (aCons (eV 0) (aCons (eB (altF (f1 lenV) (f1 lenD)) (aCons (eV 3) aNil)) aNil))) aNil)))))
noncomputable def m_law_some (a : Ad) : Fn := fnOf 5 (b_law_some a)
theorem ok_law_some {fd : FuncData} (F : Fun K "_law_some" "_law_some" s_law_some a.f_law_some fd) (T : Txt K mg a) (G_law_draw : FnS P w K mg base 2 a.f_law_draw 2 (m_law_draw a)) : FnS P w K mg base 3 a.f_law_some 3 (m_law_some a) :=
  fn_ok (k := 2) (N := N_law_some) (ps := ["_law_pen_here", "_law_pool", "_law_most"]) (body := b_law_some a) F sc_law_some (fun _ _ _ _ _ _ us hl => match us, hl with | [_, _, _], _ => rfl) fun cdv A outer s H E hr => by
    have tk := takes_of (X := cxOf (L2.CX P w) P w K mg base N_law_some "_law_some" (defScope s_law_some) a.f_law_some cdv A outer s H E) (E := E) rfl rfl rfl rfl
    have hu := hr.units
    have hu2 := room65 hr
    have nd := (sc_law_some).nd
    exact (ssCons (ssSet (i := 3) nd (sCT sbList (saCons (sV 1) saNil) T.n_list rfl))
  (ssOne (ssRet (sLc (own := [("_law_turn", 4)]) rfl nd (siR1 rfl T.n_range (saCons (sCall G_law_draw (hr.mono (by decide)) tk T.f_law_draw (saCons (sV 0) (saCons (sBin soAdd (sCB (sbMin2 rfl) (saCons (sV 2) (saCons (sCB (sbLen.alt sbLenD) (saCons (sV 3) saNil) T.n_len rfl) saNil)) T.n_min rfl) sI) saNil))) saNil)) (blkOk_by (N := N_law_some) (sc := defScope s_law_some) (by decide +kernel)) (fun _ _ _ _ _ => (gN (i := 4) nd)) (fun _ _ _ _ _ => stsNil) (fun _ _ _ _ _ => (sMtL PySem.F.plainAttrs_list PySem.F.slot_list_pop PySem.F.type_list_pop smPopAt (sV 3) (saCons (sCall G_law_draw (hr.mono (by decide)) takes0 T.f_law_draw (saCons (sV 0) (saCons (sCB (sbLen.alt sbLenD) (saCons (sV 3) saNil) T.n_len rfl) saNil))) saNil))) (putIn_pN (by decide))))))
abbrev s_law_nyms : Stmt := top 18
abbrev N_law_nyms : List Str := ["_law_pen_here", "_law_most"]
theorem sc_law_nyms : FnScope N_law_nyms ["_law_pen_here", "_law_most"] (defScope s_law_nyms) := ⟨rfl, rfl, rfl, by decide +kernel, rfl, by decide +kernel, by decide +kernel⟩
noncomputable def b_law_nyms (a : Ad) : FS := (sRet (eCall 3 (m_law_some a) (aCons (eV 0) (aCons (eLst (aCons (eC (.str ("a" : Str))) (aCons (eC (.str ("ab" : Str))) (aCons (eC (.str ("b" : Str))) (aCons (eC (.str ("c" : Str))) (aCons (eC (.str ("none" : Str))) (aCons (eC (.str ("x" : Str))) (aCons (eC (.str ("abcdefgh" : Str))) (aCons (eC (.str ("settings" : Str))) (aCons (eC (.str ("zz" : Str))) aNil)))))))))) (aCons (eV 1) aNil)))))
noncomputable def m_law_nyms (a : Ad) : Fn := fnOf 2 (b_law_nyms a)
theorem ok_law_nyms {fd : FuncData} (F : Fun K "_law_nyms" "_law_nyms" s_law_nyms a.f_law_nyms fd) (T : Txt K mg a) (G_law_some : FnS P w K mg base 3 a.f_law_some 3 (m_law_some a)) : FnS P w K mg base 4 a.f_law_nyms 2 (m_law_nyms a) :=
  fn_ok (k := 3) (N := N_law_nyms) (ps := ["_law_pen_here", "_law_most"]) (body := b_law_nyms a) F sc_law_nyms (fun _ _ _ _ _ _ us hl => match us, hl with | [_, _], _ => rfl) fun cdv A outer s H E hr => by
    have tk := takes_of (X := cxOf (L2.CX P w) P w K mg base N_law_nyms "_law_nyms" (defScope s_law_nyms) a.f_law_nyms cdv A outer s H E) (E := E) rfl rfl rfl rfl
    have hu := hr.units
    have hu2 := room65 hr
    have nd := (sc_law_nyms).nd
    exact (ssOne (ssRet (sCall G_law_some (hr.mono (by decide)) tk T.f_law_some (saCons (sV 0) (saCons (sLst (saCons sS (saCons sS (saCons sS (saCons sS (saCons sS (saCons sS (saCons sS (saCons sS (saCons sS saNil)))))))))) (saCons (sV 1) saNil))))))
abbrev s_law_key : Stmt := top 22
abbrev N_law_key : List Str := ["_law_ask"]
theorem sc_law_key : FnScope N_law_key ["_law_ask"] (defScope s_law_key) := ⟨rfl, rfl, rfl, by decide +kernel, rfl, by decide +kernel, by decide +kernel⟩
noncomputable def b_law_key (a : Ad) : FS := (sRet (eTup (aCons (eIf (tOfE (e2 cIs (e2 itmV (eV 0) (eC (.int 0))) (eC .non))) (eC (.str ("" : Str))) (e2 itmV (eV 0) (eC (.int 0)))) (aCons (eIf (tOfE (e2 cIs (e2 itmV (eV 0) (eC (.int 1))) (eC .non))) (eC (.str ("" : Str))) (e2 itmV (eV 0) (eC (.int 1)))) (aCons (e2 itmV (eV 0) (eC (.int 2))) aNil)))))
noncomputable def m_law_key (a : Ad) : Fn := fnOf 1 (b_law_key a)
theorem ok_law_key {fd : FuncData} (F : Fun K "_law_key" "_law_key" s_law_key a.f_law_key fd) (T : Txt K mg a) : FnS P w K mg base 1 a.f_law_key 1 (m_law_key a) :=
  fn_ok (k := 0) (N := N_law_key) (ps := ["_law_ask"]) (body := b_law_key a) F sc_law_key (fun _ _ _ _ _ _ us hl => match us, hl with | [_], _ => rfl) fun cdv A outer s H E hr => by
    have tk := takes_of (X := cxOf (L2.CX P w) P w K mg base N_law_key "_law_key" (defScope s_law_key) a.f_law_key cdv A outer s H E) (E := E) rfl rfl rfl rfl
    have hu := hr.units
    have hu2 := room65 hr
    have nd := (sc_law_key).nd
    exact (ssOne (ssRet (sTup (saCons (sIfE (tCmp scIs (sIxV hu (sV 0) sI) sN (nomark _)) sS (sIxV hu (sV 0) sI)) (saCons (sIfE (tCmp scIs (sIxV hu (sV 0) sI) sN (nomark _)) sS (sIxV hu (sV 0) sI)) (saCons (sIxV hu (sV 0) sI) saNil))))))
abbrev s_law_sorted : Stmt := top 23
abbrev N_law_sorted : List Str := ["_law_gaps_here", "_law_different", "_law_ask", "_law_pair"]
theorem sc_law_sorted : FnScope N_law_sorted ["_law_gaps_here"] (defScope s_law_sorted) := ⟨rfl, rfl, rfl, by decide +kernel, rfl, by decide +kernel, by decide +kernel⟩
noncomputable def b_law_sorted (a : Ad) : FS := (sSeq (sPut (pN 1) (eB (f1 mkD) (aCons (eLc [2] (iSeq (eV 0)) (pN 2) tYes (eTup (aCons (eV 2) (aCons (eC (.bl true)) aNil)))) aNil)))
  (sRet (eLc [3] (iSeq (eB (f1 sortedV) (aCons (unlE (eLc [2] (iDicF (fun p => p.1) (eV 1)) (pN 2) tYes (eTup (aCons (eCall 1 (m_law_key a) (aCons (eV 2) aNil)) (aCons (eV 2) aNil))))) aNil))) (pN 3) tYes (e2 itmV (eV 3) (eC (.int 1))))))
noncomputable def m_law_sorted (a : Ad) : Fn := fnOf 4 (b_law_sorted a)
theorem ok_law_sorted {fd : FuncData} (F : Fun K "_law_sorted" "_law_sorted" s_law_sorted a.f_law_sorted fd) (T : Txt K mg a) (G_law_key : FnS P w K mg base 1 a.f_law_key 1 (m_law_key a)) : FnS P w K mg base 2 a.f_law_sorted 1 (m_law_sorted a) :=
  fn_ok (k := 1) (N := N_law_sorted) (ps := ["_law_gaps_here"]) (body := b_law_sorted a) F sc_law_sorted (fun _ _ _ _ _ _ us hl => match us, hl with | [_], _ => rfl) fun cdv A outer s H E hr => by
    have tk := takes_of (X := cxOf (L2.CX P w) P w K mg base N_law_sorted "_law_sorted" (defScope s_law_sorted) a.f_law_sorted cdv A outer s H E) (E := E) rfl rfl rfl rfl
    have hu := hr.units
    have hu2 := room65 hr
    have nd := (sc_law_sorted).nd
    exact (ssCons (ssSet (i := 1) nd (sCT (sbDict hu rfl) (saCons (sLc (own := [("_law_ask", 2)]) rfl nd (siSeq (sV 0)) (blkOk_by (N := N_law_sorted) (sc := defScope s_law_sorted) (by decide +kernel)) (fun _ _ _ _ _ => (gN (i := 2) nd)) (fun _ _ _ _ _ => stsNil) (fun _ _ _ _ _ => (sTup (saCons (sV 2) (saCons sB saNil)))) (putIn_pN (by decide))) saNil) T.n_dict rfl))
  (ssOne (ssRet (sLc (own := [("_law_pair", 3)]) rfl nd (siSeq (sCB (sbSorted hu) (saCons (sLc (own := [("_law_ask", 2)]) rfl nd (siD (sV 1)) (blkOk_by (N := N_law_sorted) (sc := defScope s_law_sorted) (by decide +kernel)) (fun _ _ _ _ _ => (gN (i := 2) nd)) (fun _ _ _ _ _ => stsNil) (fun _ _ _ _ _ => (sTup (saCons (sCall G_law_key (hr.mono (by decide)) takes0 T.f_law_key (saCons (sV 2) saNil)) (saCons (sV 2) saNil)))) (putIn_pN (by decide))).unl saNil) T.n_sorted rfl)) (blkOk_by (N := N_law_sorted) (sc := defScope s_law_sorted) (by decide +kernel)) (fun _ _ _ _ _ => (gN (i := 3) nd)) (fun _ _ _ _ _ => stsNil) (fun _ _ _ _ _ => (sIxV hu (sV 3) sI)) (putIn_pN (by decide))))))
abbrev s_law_at : Stmt := top 20
abbrev N_law_at : List Str := ["_law_held", "_law_thing"]
theorem sc_law_at : FnScope N_law_at ["_law_held", "_law_thing"] (defScope s_law_at) := ⟨rfl, rfl, rfl, by decide +kernel, rfl, by decide +kernel, by decide +kernel⟩
noncomputable def b_law_at (a : Ad) : FS := (sRet (eIf (tOfE (e2 cIs (eV 1) (eC .non))) (eC (.int 0)) (e2 itmV (eV 0) (eV 1))))
noncomputable def m_law_at (a : Ad) : Fn := fnOf 2 (b_law_at a)
theorem ok_law_at {fd : FuncData} (F : Fun K "_law_at" "_law_at" s_law_at a.f_law_at fd) (T : Txt K mg a) : FnS P w K mg base 1 a.f_law_at 2 (m_law_at a) :=
  fn_ok (k := 0) (N := N_law_at) (ps := ["_law_held", "_law_thing"]) (body := b_law_at a) F sc_law_at (fun _ _ _ _ _ _ us hl => match us, hl with | [_, _], _ => rfl) fun cdv A outer s H E hr => by
    have tk := takes_of (X := cxOf (L2.CX P w) P w K mg base N_law_at "_law_at" (defScope s_law_at) a.f_law_at cdv A outer s H E) (E := E) rfl rfl rfl rfl
    have hu := hr.units
    have hu2 := room65 hr
    have nd := (sc_law_at).nd
    exact (ssOne (ssRet (sIfE (tCmp scIs (sV 1) sN (nomark _)) sI (sIxV hu (sV 0) (sV 1)))))
abbrev s_law_gaps : Stmt := top 21
abbrev N_law_gaps : List Str := ["_law_pen_here", "_law_nyms_here", "_law_goals", "_law_most", "_law_found", "_law_things", "_law_turn", "_law_left", "_law_first", "_law_second", "_law_spans", "_law_goal_here", "_law_gap"]
theorem sc_law_gaps : FnScope N_law_gaps ["_law_pen_here", "_law_nyms_here", "_law_goals", "_law_most"] (defScope s_law_gaps) := ⟨rfl, rfl, rfl, by decide +kernel, rfl, by decide +kernel, by decide +kernel⟩
noncomputable def b_law_gaps (a : Ad) : FS := (sSeq (sPut (pN 4) (eLst aNil))
  (sSeq (sPut (pN 5) (e2 opAdd (eLst (aCons (eC .non) aNil)) (eB (f1 listV) (aCons (eV 1) aNil))))
  (sSeq (sFor (iR1 (aCons (eIf (tOfE (e2 (cEqD true) (eV 1) (eLst aNil))) (eCall 2 (m_law_draw a) (aCons (eV 0) (aCons (e2 opAdd (eV 3) (eC (.int 1))) aNil))) (eC (.int 0))) aNil)) (pN 6) (sSeq (sPut (pN 7) (eB (f1 listV) (aCons (eV 5) aNil)))
  (sSeq (sPut (pT [8, 9]) (eTup (aCons (eMtL mPopAt (eV 7) (aCons (eCall 2 (m_law_draw a) (aCons (eV 0) (aCons (eB (altF (f1 lenV) (f1 lenD)) (aCons (eV 7) aNil)) aNil))) aNil)) (aCons (e2 itmV (eV 7) (eCall 2 (m_law_draw a) (aCons (eV 0) (aCons (eB (altF (f1 lenV) (f1 lenD)) (aCons (eV 7) aNil)) aNil)))) aNil))))
  (sSeq (sPut (pN 10) (eLc [11] (iSeq (eV 2)) (pN 11) tYes (e2 opSub (eCall 2 (m_law_at a) (aCons (eV 11) (aCons (eV 9) aNil))) (eCall 2 (m_law_at a) (aCons (eV 11) (aCons (eV 8) aNil))))))
  (sSeq (sPut (pN 12) (eB (f2 max2V) (aCons (e1 negV (eC (.int 999))) (aCons (e2 opSub (eB (f1 minV) (aCons (eV 10) aNil)) (e2 itmV (eLst (aCons (eC (.int 0)) (aCons (eC (.int 0)) (aCons (eC (.int 0)) (aCons (eC (.int 1)) (aCons (eC (.int 3)) (aCons (eC (.int 60)) aNil))))))) (eCall 2 (m_law_draw a) (aCons (eV 0) (aCons (eC (.int 6)) aNil))))) aNil))))
  (sSeq (sIf (tAnd (tOfE (e2 cLe (eV 12) (eC (.int 999)))) (tOfE (e2 cLe (eV 12) (eB (f1 minV) (aCons (eV 10) aNil))))) (sDrop (eMtL mAppend (eV 4) (aCons (eTup (aCons (eV 8) (aCons (eV 9) (aCons (eV 12) aNil)))) aNil))) sNil)
  (sIf (tAnd (tOfE (e2 (cEqD false) (eCall 2 (m_law_draw a) (aCons (eV 0) (aCons (eC (.int 3)) aNil))) (eC (.int 0)))) (tOfE (eChain cLe cLe (e1 negV (eC (.int 999))) (eB (f1 maxV) (aCons (eV 10) aNil)) (eC (.int 999))))) (sDrop (eMtL mAppend (eV 4) (aCons (eTup (aCons (eV 9) (aCons (eV 8) (aCons (e2 opSub (eC (.int 0)) (eB (f1 maxV) (aCons (eV 10) aNil))) aNil)))) aNil))) sNil)))))))
  (sRet (eV 4)))))
noncomputable def m_law_gaps (a : Ad) : Fn := fnOf 13 (b_law_gaps a)
theorem ok_law_gaps {fd : FuncData} (F : Fun K "_law_gaps" "_law_gaps" s_law_gaps a.f_law_gaps fd) (T : Txt K mg a) (G_law_draw : FnS P w K mg base 2 a.f_law_draw 2 (m_law_draw a)) (G_law_at : FnS P w K mg base 1 a.f_law_at 2 (m_law_at a)) : FnS P w K mg base 3 a.f_law_gaps 4 (m_law_gaps a) :=
  fn_ok (k := 2) (N := N_law_gaps) (ps := ["_law_pen_here", "_law_nyms_here", "_law_goals", "_law_most"]) (body := b_law_gaps a) F sc_law_gaps (fun _ _ _ _ _ _ us hl => match us, hl with | [_, _, _, _], _ => rfl) fun cdv A outer s H E hr => by
    have tk := takes_of (X := cxOf (L2.CX P w) P w K mg base N_law_gaps "_law_gaps" (defScope s_law_gaps) a.f_law_gaps cdv A outer s H E) (E := E) rfl rfl rfl rfl
    have hu := hr.units
    have hu2 := room65 hr
    have nd := (sc_law_gaps).nd
    exact (ssCons (ssSet (i := 4) nd (sLst saNil))
  (ssCons (ssSet (i := 5) nd (sBin soAdd (sLst (saCons sN saNil)) (sCT sbList (saCons (sV 1) saNil) T.n_list rfl)))
  (ssCons (ssFor (passes_of rfl) rfl (siR1 rfl T.n_range (saCons (sIfE (tCmp (scNeD hr) (sV 1) (sLst saNil) (nomark _)) (sCall G_law_draw (hr.mono (by decide)) tk T.f_law_draw (saCons (sV 0) (saCons (sBin soAdd (sV 3) sI) saNil))) sI) saNil)) (gN (i := 6) nd) (ssCons (ssSet (i := 7) nd (sCT sbList (saCons (sV 5) saNil) T.n_list rfl))
  (ssCons (ssPut (sTup (saCons (sMtL PySem.F.plainAttrs_list PySem.F.slot_list_pop PySem.F.type_list_pop smPopAt (sV 7) (saCons (sCall G_law_draw (hr.mono (by decide)) tk T.f_law_draw (saCons (sV 0) (saCons (sCB (sbLen.alt sbLenD) (saCons (sV 7) saNil) T.n_len rfl) saNil))) saNil)) (saCons (sIxV hu (sV 7) (sCall G_law_draw (hr.mono (by decide)) tk T.f_law_draw (saCons (sV 0) (saCons (sCB (sbLen.alt sbLenD) (saCons (sV 7) saNil) T.n_len rfl) saNil)))) saNil))) (gT rfl (gsCons (i := 8) nd (gsCons (i := 9) nd gsNil))))
  (ssCons (ssSetLc (i := 10) (own := [("_law_goal_here", 11)]) rfl nd (sw_true rfl rfl rfl (by decide +kernel)) (siSeq (sV 2)) (blkOk_by (N := N_law_gaps) (sc := defScope s_law_gaps) (by decide +kernel)) (fun _ _ _ _ _ => (gN (i := 11) nd)) (fun _ _ _ _ _ => stsNil) (fun _ _ _ _ _ => (sBin soSubV (sCall G_law_at (hr.mono (by decide)) takes0 T.f_law_at (saCons (sV 11) (saCons (sV 9) saNil))) (sCall G_law_at (hr.mono (by decide)) takes0 T.f_law_at (saCons (sV 11) (saCons (sV 8) saNil))))) (putIn_pN (by decide)))
  (ssCons (ssSet (i := 12) nd (sCB (sbMax2 rfl) (saCons (sUn suNegV sI) (saCons (sBin soSubV (sCB (sbMinV rfl) (saCons (sV 10) saNil) T.n_min rfl) (sIxV hu (sLst (saCons sI (saCons sI (saCons sI (saCons sI (saCons sI (saCons sI saNil))))))) (sCall G_law_draw (hr.mono (by decide)) tk T.f_law_draw (saCons (sV 0) (saCons sI saNil))))) saNil)) T.n_max rfl))
  (ssCons (ssIf (tAndC (tCmp scLe (sV 12) sI (nomark _)) (tAnd1 (tCmp scLe (sV 12) (sCB (sbMinV rfl) (saCons (sV 10) saNil) T.n_min rfl) (nomark _)))).st (ssOne (ssExpr (sMtL PySem.F.plainAttrs_list PySem.F.slot_list_append PySem.F.type_list_append smAppend (sV 4) (saCons (sTup (saCons (sV 8) (saCons (sV 9) (saCons (sV 12) saNil)))) saNil)))) ssNil)
  (ssOne (ssIf (tAndC (tCmp (scEqD hr) (sCall G_law_draw (hr.mono (by decide)) tk T.f_law_draw (saCons (sV 0) (saCons sI saNil))) sI (nomark _)) (tAnd1 (tChainC scLe scLe (sUn suNegV sI) (sCB (sbMaxV rfl) (saCons (sV 10) saNil) T.n_max rfl) sI))).st (ssOne (ssExpr (sMtL PySem.F.plainAttrs_list PySem.F.slot_list_append PySem.F.type_list_append smAppend (sV 4) (saCons (sTup (saCons (sV 9) (saCons (sV 8) (saCons (sBin soSubV sI (sCB (sbMaxV rfl) (saCons (sV 10) saNil) T.n_max rfl)) saNil)))) saNil)))) ssNil))))))))
  (ssOne (ssRet (sV 4))))))
abbrev s_law_goal : Stmt := top 19
abbrev N_law_goal : List Str := ["_law_pen_here", "_law_nyms_here", "_law_wide", "_law_nym"]
theorem sc_law_goal : FnScope N_law_goal ["_law_pen_here", "_law_nyms_here"] (defScope s_law_goal) := ⟨rfl, rfl, rfl, by decide +kernel, rfl, by decide +kernel, by decide +kernel⟩
noncomputable def b_law_goal (a : Ad) : FS := (sSeq (sPut (pN 2) (e2 itmV (eLst (aCons (eC (.int 3)) (aCons (eC (.int 5)) (aCons (eC (.int 11)) (aCons (eC (.int 1801)) aNil))))) (eCall 2 (m_law_draw a) (aCons (eV 0) (aCons (eC (.int 4)) aNil)))))
  (sRet (eB (f1 mkD) (aCons (eLc [3] (iSeq (eV 1)) (pN 3) tYes (eTup (aCons (eV 3) (aCons (e2 opSub (eCall 2 (m_law_draw a) (aCons (eV 0) (aCons (eV 2) aNil))) (e2 opFdiv (eV 2) (eC (.int 2)))) aNil)))) aNil))))
noncomputable def m_law_goal (a : Ad) : Fn := fnOf 4 (b_law_goal a)
theorem ok_law_goal {fd : FuncData} (F : Fun K "_law_goal" "_law_goal" s_law_goal a.f_law_goal fd) (T : Txt K mg a) (G_law_draw : FnS P w K mg base 2 a.f_law_draw 2 (m_law_draw a)) : FnS P w K mg base 3 a.f_law_goal 2 (m_law_goal a) :=
  fn_ok (k := 2) (N := N_law_goal) (ps := ["_law_pen_here", "_law_nyms_here"]) (body := b_law_goal a) F sc_law_goal (fun _ _ _ _ _ _ us hl => match us, hl with | [_, _], _ => rfl) fun cdv A outer s H E hr => by
    have tk := takes_of (X := cxOf (L2.CX P w) P w K mg base N_law_goal "_law_goal" (defScope s_law_goal) a.f_law_goal cdv A outer s H E) (E := E) rfl rfl rfl rfl
    have hu := hr.units
    have hu2 := room65 hr
    have nd := (sc_law_goal).nd
    exact (ssCons (ssSet (i := 2) nd (sIxV hu (sLst (saCons sI (saCons sI (saCons sI (saCons sI saNil))))) (sCall G_law_draw (hr.mono (by decide)) tk T.f_law_draw (saCons (sV 0) (saCons sI saNil)))))
  (ssOne (ssRet (sCT (sbDict hu rfl) (saCons (sLc (own := [("_law_nym", 3)]) rfl nd (siSeq (sV 1)) (blkOk_by (N := N_law_goal) (sc := defScope s_law_goal) (by decide +kernel)) (fun _ _ _ _ _ => (gN (i := 3) nd)) (fun _ _ _ _ _ => stsNil) (fun _ _ _ _ _ => (sTup (saCons (sV 3) (saCons (sBin soSubV (sCall G_law_draw (hr.mono (by decide)) takes0 T.f_law_draw (saCons (sV 0) (saCons (sV 2) saNil))) (sBin soFdiv (sV 2) sI)) saNil)))) (putIn_pN (by decide))) saNil) T.n_dict rfl))))
abbrev s_is_name : Stmt := top 9
abbrev N_is_name : List Str := ["thing", "sign"]
theorem sc_is_name : FnScope N_is_name ["thing"] (defScope s_is_name) := ⟨rfl, rfl, rfl, by decide +kernel, rfl, by decide +kernel, by decide +kernel⟩
noncomputable def b_is_name (a : Ad) : FS := (sRet (eAnd (e1 (isiV [a.C_System] (ansB "str" [a.C_System])) (eV 0)) (eAnd (eChain cLe cLe (eC (.int 1)) (eB (altF (f1 lenV) (f1 lenD)) (aCons (eV 0) aNil)) (eC (.int 8))) (eB (f1 allV) (aCons (eLc [1] (iStr (eV 0)) (pN 1) tYes (e2 cInV (eV 1) (eC (.str ("abcdefghijklmnopqrstuvwxyz" : Str))))) aNil)))))
noncomputable def m_is_name (a : Ad) : Fn := fnOf 2 (b_is_name a)
theorem ok_is_name {fd : FuncData} (F : Fun K "is_name" "is_name" s_is_name a.f_is_name fd) (T : Txt K mg a) : FnS P w K mg base 1 a.f_is_name 1 (m_is_name a) :=
  fn_ok (k := 0) (N := N_is_name) (ps := ["thing"]) (body := b_is_name a) F sc_is_name (fun _ _ _ _ _ _ us hl => match us, hl with | [_], _ => rfl) fun cdv A outer s H E hr => by
    have tk := takes_of (X := cxOf (L2.CX P w) P w K mg base N_is_name "is_name" (defScope s_is_name) a.f_is_name cdv A outer s H E) (E := E) rfl rfl rfl rfl
    have hu := hr.units
    have hu2 := room65 hr
    have nd := (sc_is_name).nd
    exact (ssOne (ssRet (sAnd (sIsiB T.own T.ib_str (sV 0) T.n_str rfl T.n_isinstance) (sAnd (sChain scLe scLe sI (sCB (sbLen.alt sbLenD) (saCons (sV 0) saNil) T.n_len rfl) (sGI (by rfl) T.c_MAX_NAME)) (sOne (sCB (sbAllV rfl) (saCons (sLc (own := [("sign", 1)]) rfl nd (siStr (sV 0)) (blkOk_by (N := N_is_name) (sc := defScope s_is_name) (by decide +kernel)) (fun _ _ _ _ _ => (gN (i := 1) nd)) (fun _ _ _ _ _ => stsNil) (fun _ _ _ _ _ => (sCmp (scInV hu2) (sV 1) (sGS (by rfl) T.c_LETTERS) (by rfl))) (putIn_pN (by decide))) saNil) T.n_all rfl))))))
abbrev s_is_integer : Stmt := top 8
abbrev N_is_integer : List Str := ["thing", "low", "high"]
theorem sc_is_integer : FnScope N_is_integer ["thing", "low", "high"] (defScope s_is_integer) := ⟨rfl, rfl, rfl, by decide +kernel, rfl, by decide +kernel, by decide +kernel⟩
noncomputable def b_is_integer (a : Ad) : FS := (sRet (eAnd (e1 (isiV [a.C_System] (ansB "int" [a.C_System])) (eV 0)) (eAnd (eNot (e1 (isiV [a.C_System] (ansB "bool" [a.C_System])) (eV 0))) (eChain cLe cLe (eV 1) (eV 0) (eV 2)))))
noncomputable def m_is_integer (a : Ad) : Fn := fnOf 3 (b_is_integer a)
theorem ok_is_integer {fd : FuncData} (F : Fun K "is_integer" "is_integer" s_is_integer a.f_is_integer fd) (T : Txt K mg a) : FnS P w K mg base 1 a.f_is_integer 3 (m_is_integer a) :=
  fn_ok (k := 0) (N := N_is_integer) (ps := ["thing", "low", "high"]) (body := b_is_integer a) F sc_is_integer (fun _ _ _ _ _ _ us hl => match us, hl with | [_, _, _], _ => rfl) fun cdv A outer s H E hr => by
    have tk := takes_of (X := cxOf (L2.CX P w) P w K mg base N_is_integer "is_integer" (defScope s_is_integer) a.f_is_integer cdv A outer s H E) (E := E) rfl rfl rfl rfl
    have hu := hr.units
    have hu2 := room65 hr
    have nd := (sc_is_integer).nd
    exact (ssOne (ssRet (sAnd (sIsiB T.own T.ib_int (sV 0) T.n_int rfl T.n_isinstance) (sAnd (sNot (sIsiB T.own T.ib_bool (sV 0) T.n_bool rfl T.n_isinstance)) (sOne (sChain scLe scLe (sV 1) (sV 0) (sV 2)))))))
abbrev s_is_thing : Stmt := top 11
abbrev N_is_thing : List Str := ["thing"]
theorem sc_is_thing : FnScope N_is_thing ["thing"] (defScope s_is_thing) := ⟨rfl, rfl, rfl, by decide +kernel, rfl, by decide +kernel, by decide +kernel⟩
noncomputable def b_is_thing (a : Ad) : FS := (sRet (eOr (e2 cIs (eV 0) (eC .non)) (eCall 1 (m_is_name a) (aCons (eV 0) aNil))))
noncomputable def m_is_thing (a : Ad) : Fn := fnOf 1 (b_is_thing a)
theorem ok_is_thing {fd : FuncData} (F : Fun K "is_thing" "is_thing" s_is_thing a.f_is_thing fd) (T : Txt K mg a) (G_is_name : FnS P w K mg base 1 a.f_is_name 1 (m_is_name a)) : FnS P w K mg base 2 a.f_is_thing 1 (m_is_thing a) :=
  fn_ok (k := 1) (N := N_is_thing) (ps := ["thing"]) (body := b_is_thing a) F sc_is_thing (fun _ _ _ _ _ _ us hl => match us, hl with | [_], _ => rfl) fun cdv A outer s H E hr => by
    have tk := takes_of (X := cxOf (L2.CX P w) P w K mg base N_is_thing "is_thing" (defScope s_is_thing) a.f_is_thing cdv A outer s H E) (E := E) rfl rfl rfl rfl
    have hu := hr.units
    have hu2 := room65 hr
    have nd := (sc_is_thing).nd
    exact (ssOne (ssRet (sOr (sCmp scIs (sV 0) sN (nomark _)) (sOne (sCall G_is_name (hr.mono (by decide)) tk T.f_is_name (saCons (sV 0) saNil))))))
abbrev s_System_is_rule : Stmt := inClass (top 12) 1
abbrev N_System_is_rule : List Str := ["thing"]
theorem sc_System_is_rule : FnScope N_System_is_rule ["thing"] (defScope s_System_is_rule) := ⟨rfl, rfl, rfl, by decide +kernel, rfl, by decide +kernel, by decide +kernel⟩
noncomputable def b_System_is_rule (a : Ad) : FS := (sSeq (sIf (tOr (tNot (tOfE (e1 (isiV [a.C_System] (ansB "tuple" [a.C_System])) (eV 0)))) (tOr (tOfE (e2 (cEqD true) (eB (altF (f1 lenV) (f1 lenD)) (aCons (eV 0) aNil)) (eC (.int 3)))) (tNot (tOfE (eCall 3 (m_is_integer a) (aCons (e2 itmV (eV 0) (eC (.int 2))) (aCons (e1 negV (eC (.int 999))) (aCons (eC (.int 999)) aNil)))))))) (sRet (eC (.bl false))) sNil)
  (sRet (eAnd (eCall 1 (m_is_thing a) (aCons (e2 itmV (eV 0) (eC (.int 0))) aNil)) (eAnd (eCall 1 (m_is_thing a) (aCons (e2 itmV (eV 0) (eC (.int 1))) aNil)) (e2 (cEqD true) (e2 itmV (eV 0) (eC (.int 0))) (e2 itmV (eV 0) (eC (.int 1))))))))
noncomputable def m_System_is_rule (a : Ad) : Fn := fnOf 1 (b_System_is_rule a)
theorem ok_System_is_rule {fd : FuncData} (F : Fun K "is_rule" "System.is_rule" s_System_is_rule a.f_System_is_rule fd) (T : Txt K mg a) (G_is_integer : FnS P w K mg base 1 a.f_is_integer 3 (m_is_integer a)) (G_is_thing : FnS P w K mg base 2 a.f_is_thing 1 (m_is_thing a)) : FnS P w K mg base 3 a.f_System_is_rule 1 (m_System_is_rule a) :=
  fn_ok (k := 2) (N := N_System_is_rule) (ps := ["thing"]) (body := b_System_is_rule a) F sc_System_is_rule (fun _ _ _ _ _ _ us hl => match us, hl with | [_], _ => rfl) fun cdv A outer s H E hr => by
    have tk := takes_of (X := cxOf (L2.CX P w) P w K mg base N_System_is_rule "System.is_rule" (defScope s_System_is_rule) a.f_System_is_rule cdv A outer s H E) (E := E) rfl rfl rfl rfl
    have hu := hr.units
    have hu2 := room65 hr
    have nd := (sc_System_is_rule).nd
    exact (ssCons (ssIf (tOrC (tNot' (tVal (sIsiB T.own T.ib_tuple (sV 0) T.n_tuple rfl T.n_isinstance))) (tOrC (tCmp (scNeD hr) (sCB (sbLen.alt sbLenD) (saCons (sV 0) saNil) T.n_len rfl) sI (nomark _)) (tOr1 (tNot' (tVal (sCall G_is_integer (hr.mono (by decide)) tk T.f_is_integer (saCons (sIxV hu (sV 0) sI) (saCons (sUn suNegV (sGI (by rfl) T.c_MAX_GAP)) (saCons (sGI (by rfl) T.c_MAX_GAP) saNil))))))))).st (ssOne (ssRet sB)) ssNil)
  (ssOne (ssRet (sAnd (sCall G_is_thing (hr.mono (by decide)) tk T.f_is_thing (saCons (sIxV hu (sV 0) sI) saNil)) (sAnd (sCall G_is_thing (hr.mono (by decide)) tk T.f_is_thing (saCons (sIxV hu (sV 0) sI) saNil)) (sOne (sCmp (scNeD hr) (sIxV hu (sV 0) sI) (sIxV hu (sV 0) sI) (nomark _))))))))
abbrev s_rule_key : Stmt := top 10
abbrev N_rule_key : List Str := ["rule"]
theorem sc_rule_key : FnScope N_rule_key ["rule"] (defScope s_rule_key) := ⟨rfl, rfl, rfl, by decide +kernel, rfl, by decide +kernel, by decide +kernel⟩
noncomputable def b_rule_key (a : Ad) : FS := (sRet (eTup (aCons (eIf (tOfE (e2 cIs (e2 itmV (eV 0) (eC (.int 0))) (eC .non))) (eC (.str ("" : Str))) (e2 itmV (eV 0) (eC (.int 0)))) (aCons (eIf (tOfE (e2 cIs (e2 itmV (eV 0) (eC (.int 1))) (eC .non))) (eC (.str ("" : Str))) (e2 itmV (eV 0) (eC (.int 1)))) (aCons (e2 itmV (eV 0) (eC (.int 2))) aNil)))))
noncomputable def m_rule_key (a : Ad) : Fn := fnOf 1 (b_rule_key a)
theorem ok_rule_key {fd : FuncData} (F : Fun K "rule_key" "rule_key" s_rule_key a.f_rule_key fd) (T : Txt K mg a) : FnS P w K mg base 1 a.f_rule_key 1 (m_rule_key a) :=
  fn_ok (k := 0) (N := N_rule_key) (ps := ["rule"]) (body := b_rule_key a) F sc_rule_key (fun _ _ _ _ _ _ us hl => match us, hl with | [_], _ => rfl) fun cdv A outer s H E hr => by
    have tk := takes_of (X := cxOf (L2.CX P w) P w K mg base N_rule_key "rule_key" (defScope s_rule_key) a.f_rule_key cdv A outer s H E) (E := E) rfl rfl rfl rfl
    have hu := hr.units
    have hu2 := room65 hr
    have nd := (sc_rule_key).nd
    exact (ssOne (ssRet (sTup (saCons (sIfE (tCmp scIs (sIxV hu (sV 0) sI) sN (nomark _)) sS (sIxV hu (sV 0) sI)) (saCons (sIfE (tCmp scIs (sIxV hu (sV 0) sI) sN (nomark _)) sS (sIxV hu (sV 0) sI)) (saCons (sIxV hu (sV 0) sI) saNil))))))
abbrev s_System_init : Stmt := inClass (top 12) 0
abbrev N_System_init : List Str := ["self", "names", "rules", "name", "rule", "thing"]
theorem sc_System_init : FnScope N_System_init ["self", "names", "rules"] (defScope s_System_init) := ⟨rfl, rfl, rfl, by decide +kernel, rfl, by decide +kernel, by decide +kernel⟩
noncomputable def b_System_init (a : Ad) : FS := (sSeq (sIf (tOr (tNot (tOfE (e1 (isiV [a.C_System] (ansB "list" [a.C_System])) (eV 1)))) (tOr (tNot (tOfE (eB (f1 allV) (aCons (eLc [3] (iSeq (eV 1)) (pN 3) tYes (eCall 1 (m_is_name a) (aCons (eV 3) aNil))) aNil)))) (tOfE (e2 cLt (e1 lenSet (eV 1)) (eB (altF (f1 lenV) (f1 lenD)) (aCons (eV 1) aNil)))))) (fun _ _ => .bad) sNil)
  (sSeq (sIf (tOr (tNot (tOfE (e1 (isiV [a.C_System] (ansB "list" [a.C_System])) (eV 2)))) (tNot (tOfE (eB (f1 allV) (aCons (eLc [4] (iSeq (eV 2)) (pN 4) tYes (eCall 1 (m_System_is_rule a) (aCons (eV 4) aNil))) aNil))))) (fun _ _ => .bad) sNil)
  (sSeq (sIf (tNot (tOfE (eB (f1 allV) (aCons (eLc2 [4, 5] [5] (iSeq (eV 2)) (pN 4) tYes (iSeq (eSlc (eV 4) oNone (oSome (eC (.int 2))))) (pN 5) tYes (eOr (e2 cIs (eV 5) (eC .non)) (e2 cInV (eV 5) (eV 1)))) aNil)))) (fun _ _ => .bad) sNil)
  (sSeq (sFldSet a.C_System ("settings" : Str) (eB (f1 sortedV) (aCons (eV 1) aNil)) (eV 0))
  (sFldSet a.C_System ("gaps" : Str) (eSortKey (m_rule_key a) (eDc [4] (iSeq (eV 2)) (pN 4) tYes (eV 4) (eC (.bl true)))) (eV 0))))))
noncomputable def m_System_init (a : Ad) : Fn := fnOf 6 (b_System_init a)
theorem ok_System_init {fd : FuncData} (F : Fun K "__init__" "System.__init__" s_System_init a.f_System_init fd) (T : Txt K mg a) (G_is_name : FnS P w K mg base 1 a.f_is_name 1 (m_is_name a)) (G_System_is_rule : FnS P w K mg base 3 a.f_System_is_rule 1 (m_System_is_rule a)) (G_rule_key : FnS P w K mg base 1 a.f_rule_key 1 (m_rule_key a)) : FnS P w K mg base 4 a.f_System_init 3 (m_System_init a) :=
  fn_ok (k := 3) (N := N_System_init) (ps := ["self", "names", "rules"]) (body := b_System_init a) F sc_System_init (fun _ _ _ _ _ _ us hl => match us, hl with | [_, _, _], _ => rfl) fun cdv A outer s H E hr => by
    have tk := takes_of (X := cxOf (L2.CX P w) P w K mg base N_System_init "System.__init__" (defScope s_System_init) a.f_System_init cdv A outer s H E) (E := E) rfl rfl rfl rfl
    have hu := hr.units
    have hu2 := room65 hr
    have nd := (sc_System_init).nd
    exact (ssCons (ssIf (tOrC (tNot' (tVal (sIsiB T.own T.ib_list (sV 1) T.n_list rfl T.n_isinstance))) (tOrC (tNot' (tVal (sCB (sbAllV rfl) (saCons (sLc (own := [("name", 3)]) rfl nd (siSeq (sV 1)) (blkOk_by (N := N_System_init) (sc := defScope s_System_init) (by decide +kernel)) (fun _ _ _ _ _ => (gN (i := 3) nd)) (fun _ _ _ _ _ => stsNil) (fun _ _ _ _ _ => (sCall G_is_name (hr.mono (by decide)) takes0 T.f_is_name (saCons (sV 3) saNil))) (putIn_pN (by decide))) saNil) T.n_all rfl))) (tOr1 (tCmp scLt (sLenSet rfl T.n_len T.n_set (sV 1)) (sCB (sbLen.alt sbLenD) (saCons (sV 1) saNil) T.n_len rfl) (nomark _))))).st (ssOne ssNever) ssNil)
  (ssCons (ssIf (tOrC (tNot' (tVal (sIsiB T.own T.ib_list (sV 2) T.n_list rfl T.n_isinstance))) (tOr1 (tNot' (tVal (sCB (sbAllV rfl) (saCons (sLc (own := [("rule", 4)]) rfl nd (siSeq (sV 2)) (blkOk_by (N := N_System_init) (sc := defScope s_System_init) (by decide +kernel)) (fun _ _ _ _ _ => (gN (i := 4) nd)) (fun _ _ _ _ _ => stsNil) (fun _ _ _ _ _ => (sStat T.st_System_is_rule G_System_is_rule (hr.mono (by decide)) takes0 T.k_System (saCons (sV 4) saNil))) (putIn_pN (by decide))) saNil) T.n_all rfl))))).st (ssOne ssNever) ssNil)
  (ssCons (ssIf (tNot' (tVal (sCB (sbAllV rfl) (saCons (sLc2 (own := [("rule", 4), ("thing", 5)]) (vs1 := [5]) rfl nd (siSeq (sV 2)) (blkOk_by (N := N_System_init) (sc := defScope s_System_init) (by decide +kernel)) (by decide) (fun _ _ _ _ _ => (gN (i := 4) nd)) (fun _ _ _ _ _ => stsNil) (fun _ _ _ _ _ => (siSeq (sSlc (sV 4) soNone (soSome sI)))) (fun _ _ _ _ _ => (gN (i := 5) nd)) (fun _ _ _ _ _ => stsNil) (fun _ _ _ _ _ => (sOr (sCmp scIs (sV 5) sN (nomark _)) (sOne (sCmp (scInV hu2) (sV 5) (sV 1) (by rfl))))) (putIn_pN (by decide)) (putIn_pN (by decide))) saNil) T.n_all rfl))) (ssOne ssNever) ssNil)
  (ssCons (ssFld T.cl_System T.no_System_settings (sV 0) (sCB (sbSorted hu) (saCons (sV 1) saNil) T.n_sorted rfl))
  (ssOne (ssFld T.cl_System T.no_System_gaps (sV 0) (sSortKey G_rule_key (hr.mono (by decide)) (sDc (own := [("rule", 4)]) hu rfl nd (siSeq (sV 2)) (blkOk_by (N := N_System_init) (sc := defScope s_System_init) (by decide +kernel)) (fun _ _ _ _ _ => (gN (i := 4) nd)) (fun _ _ _ _ _ => stsNil) (fun _ _ _ _ _ => (sV 4)) (fun _ _ _ _ _ => sB) (putIn_pN (by decide))) T.f_rule_key T.n_sorted)))))))
abbrev s_System_eq : Stmt := inClass (top 12) 8
abbrev N_System_eq : List Str := ["self", "other"]
theorem sc_System_eq : FnScope N_System_eq ["self", "other"] (defScope s_System_eq) := ⟨rfl, rfl, rfl, by decide +kernel, rfl, by decide +kernel, by decide +kernel⟩
noncomputable def b_System_eq (a : Ad) : FS := (sRet (eAnd (e1 (isiV [a.C_System] (ansC a.C_System [a.C_System])) (eV 1)) (eAnd (e2 (cEqD false) (eFld a.C_System ("settings" : Str) (eV 0)) (eFld a.C_System ("settings" : Str) (eV 1))) (e2 (cEqD false) (eFld a.C_System ("gaps" : Str) (eV 0)) (eFld a.C_System ("gaps" : Str) (eV 1))))))
noncomputable def m_System_eq (a : Ad) : Fn := fnOf 2 (b_System_eq a)
theorem ok_System_eq {fd : FuncData} (F : Fun K "__eq__" "System.__eq__" s_System_eq a.f_System_eq fd) (T : Txt K mg a) : FnS P w K mg base 1 a.f_System_eq 2 (m_System_eq a) :=
  fn_ok (k := 0) (N := N_System_eq) (ps := ["self", "other"]) (body := b_System_eq a) F sc_System_eq (fun _ _ _ _ _ _ us hl => match us, hl with | [_, _], _ => rfl) fun cdv A outer s H E hr => by
    have tk := takes_of (X := cxOf (L2.CX P w) P w K mg base N_System_eq "System.__eq__" (defScope s_System_eq) a.f_System_eq cdv A outer s H E) (E := E) rfl rfl rfl rfl
    have hu := hr.units
    have hu2 := room65 hr
    have nd := (sc_System_eq).nd
    exact (ssOne (ssRet (sAnd (sIsiC T.own T.ic_System T.id_System (sV 1) T.k_System T.n_isinstance) (sAnd (sCmp (scEqD hr) (sFld T.cl_System T.no_System_settings (sV 0)) (sFld T.cl_System T.no_System_settings (sV 1)) (nomark _)) (sOne (sCmp (scEqD hr) (sFld T.cl_System T.no_System_gaps (sV 0)) (sFld T.cl_System T.no_System_gaps (sV 1)) (nomark _)))))))
abbrev s_law_others : Stmt := top 24
abbrev N_law_others : List Str := ["_law_nyms_here", "_law_gaps_here", "_law_found", "_law_k", "_law_low", "_law_high", "_law_gap", "_law_less", "_law_ask"]
theorem sc_law_others : FnScope N_law_others ["_law_nyms_here", "_law_gaps_here"] (defScope s_law_others) := ⟨rfl, rfl, rfl, by decide +kernel, rfl, by decide +kernel, by decide +kernel⟩
noncomputable def b_law_others (a : Ad) : FS := (sSeq (sPut (pN 2) (eLst (aCons (eLst (aCons (e2 opAdd (eV 0) (eLst (aCons (eC (.str ("late" : Str))) aNil))) (aCons (eV 1) aNil))) (aCons (eLst (aCons (eV 0) (aCons (e2 opAdd (eV 1) (eLst (aCons (eTup (aCons (eC (.str ("mid" : Str))) (aCons (eC .non) (aCons (eC (.int 77)) aNil)))) aNil))) aNil))) aNil))))
  (sSeq (sFor (iR1 (aCons (eB (altF (f1 lenV) (f1 lenD)) (aCons (eV 1) aNil)) aNil)) (pN 3) (sSeq (sPut (pT [4, 5, 6]) (e2 itmV (eV 1) (eV 3)))
  (sSeq (sPut (pN 7) (eLc [8] (iSeq (eV 1)) (pN 8) (tOfE (e2 (cEqD true) (eV 8) (e2 itmV (eV 1) (eV 3)))) (eV 8)))
  (sSeq (sPut (pN 2) (e2 opAdd (eV 2) (eLst (aCons (eLst (aCons (eV 0) (aCons (eV 7) aNil))) (aCons (eLst (aCons (eV 0) (aCons (e2 opAdd (eV 7) (eLst (aCons (eTup (aCons (eV 4) (aCons (eV 5) (aCons (e2 opAdd (eV 6) (e2 itmV (eLst (aCons (eC (.int 1)) (aCons (e1 negV (eC (.int 1))) aNil))) (eB (f1 intV) (aCons (e2 (cEqD false) (eV 6) (eC (.int 999))) aNil)))) aNil)))) aNil))) aNil))) aNil)))))
  (sIf (tOfE (e2 (cEqD false) (eMtL mCount (eV 1) (aCons (eTup (aCons (eV 5) (aCons (eV 4) (aCons (eV 6) aNil)))) aNil)) (eC (.int 0)))) (sDrop (eMtL mAppend (eV 2) (aCons (eLst (aCons (eV 0) (aCons (e2 opAdd (eV 7) (eLst (aCons (eTup (aCons (eV 5) (aCons (eV 4) (aCons (eV 6) aNil)))) aNil))) aNil))) aNil))) sNil)))))
  (sRet (eV 2))))
noncomputable def m_law_others (a : Ad) : Fn := fnOf 9 (b_law_others a)
theorem ok_law_others {fd : FuncData} (F : Fun K "_law_others" "_law_others" s_law_others a.f_law_others fd) (T : Txt K mg a) : FnS P w K mg base 1 a.f_law_others 2 (m_law_others a) :=
  fn_ok (k := 0) (N := N_law_others) (ps := ["_law_nyms_here", "_law_gaps_here"]) (body := b_law_others a) F sc_law_others (fun _ _ _ _ _ _ us hl => match us, hl with | [_, _], _ => rfl) fun cdv A outer s H E hr => by
    have tk := takes_of (X := cxOf (L2.CX P w) P w K mg base N_law_others "_law_others" (defScope s_law_others) a.f_law_others cdv A outer s H E) (E := E) rfl rfl rfl rfl
    have hu := hr.units
    have hu2 := room65 hr
    have nd := (sc_law_others).nd
    exact (ssCons (ssSet (i := 2) nd (sLst (saCons (sLst (saCons (sBin soAdd (sV 0) (sLst (saCons sS saNil))) (saCons (sV 1) saNil))) (saCons (sLst (saCons (sV 0) (saCons (sBin soAdd (sV 1) (sLst (saCons (sTup (saCons sS (saCons sN (saCons sI saNil)))) saNil))) saNil))) saNil))))
  (ssCons (ssFor (passes_of rfl) rfl (siR1 rfl T.n_range (saCons (sCB (sbLen.alt sbLenD) (saCons (sV 1) saNil) T.n_len rfl) saNil)) (gN (i := 3) nd) (ssCons (ssPut (sIxV hu (sV 1) (sV 3)) (gT rfl (gsCons (i := 4) nd (gsCons (i := 5) nd (gsCons (i := 6) nd gsNil)))))
  (ssCons (ssSetLc (i := 7) (own := [("_law_ask", 8)]) rfl nd (sw_true rfl rfl rfl (by decide +kernel)) (siSeq (sV 1)) (blkOk_by (N := N_law_others) (sc := defScope s_law_others) (by decide +kernel)) (fun _ _ _ _ _ => (gN (i := 8) nd)) (fun _ _ _ _ _ => (stsOne (tCmp (scNeD hr) (sV 8) (sIxV hu (sV 1) (sV 3)) (nomark _)))) (fun _ _ _ _ _ => (sV 8)) (putIn_pN (by decide)))
  (ssCons (ssSet (i := 2) nd (sBin soAdd (sV 2) (sLst (saCons (sLst (saCons (sV 0) (saCons (sV 7) saNil))) (saCons (sLst (saCons (sV 0) (saCons (sBin soAdd (sV 7) (sLst (saCons (sTup (saCons (sV 4) (saCons (sV 5) (saCons (sBin soAdd (sV 6) (sIxV hu (sLst (saCons sI (saCons (sUn suNegV sI) saNil))) (sCT sbInt (saCons (sCmp (scEqD hr) (sV 6) sI (nomark _)) saNil) T.n_int rfl))) saNil)))) saNil))) saNil))) saNil)))))
  (ssOne (ssIf (tCmp (scEqD hr) (sMtL PySem.F.plainAttrs_list PySem.F.slot_list_count PySem.F.type_list_count (smCount hu) (sV 1) (saCons (sTup (saCons (sV 5) (saCons (sV 4) (saCons (sV 6) saNil)))) saNil)) sI (nomark _)) (ssOne (ssExpr (sMtL PySem.F.plainAttrs_list PySem.F.slot_list_append PySem.F.type_list_append smAppend (sV 2) (saCons (sLst (saCons (sV 0) (saCons (sBin soAdd (sV 7) (sLst (saCons (sTup (saCons (sV 5) (saCons (sV 4) (saCons (sV 6) saNil)))) saNil))) saNil))) saNil)))) ssNil))))))
  (ssOne (ssRet (sV 2)))))
abbrev s_law : Stmt := top 25
abbrev N_law : List Str := ["_law_script", "_law_pen_here", "_law_turn", "_law_nyms_here", "_law_gaps_here", "_law_made", "_law_other_nyms", "_law_other_gaps", "_law_other", "_law_same", "_law_thing"]
theorem sc_law : FnScope N_law ["_law_script"] (defScope s_law) := ⟨rfl, rfl, rfl, by decide +kernel, rfl, by decide +kernel, by decide +kernel⟩
noncomputable def b_law (a : Ad) : FS := (sSeq (sPut (pN 1) (eCall 1 (m_law_pen a) (aCons (eV 0) aNil)))
  (sSeq (sFor (iR1 (aCons (eC (.int 6)) aNil)) (pN 2) (sSeq (sPut (pN 3) (e2 opAdd (eLst (aCons (eC (.str ("mid" : Str))) aNil)) (eCall 2 (m_law_nyms a) (aCons (eV 1) (aCons (eC (.int 5)) aNil)))))
  (sSeq (sPut (pN 4) (eCall 1 (m_law_sorted a) (aCons (eCall 4 (m_law_gaps a) (aCons (eV 1) (aCons (eV 3) (aCons (eLst (aCons (eCall 2 (m_law_goal a) (aCons (eV 1) (aCons (eV 3) aNil))) aNil)) (aCons (eC (.int 8)) aNil))))) aNil)))
  (sSeq (sPut (pN 5) (eMake a.C_System 3 (m_System_init a) (aCons (eV 3) (aCons (eV 4) aNil))))
  (sSeq (sIf (tOr (tOfE (e2 cIsNot (e2 (cOwn false a.C_System [a.C_System] (m_System_eq a)) (eV 5) (eMake a.C_System 3 (m_System_init a) (aCons (e1 revV (eV 3)) (aCons (e1 revV (eV 4)) aNil)))) (eC (.bl true)))) (tOfE (e2 cIsNot (e2 (cOwn true a.C_System [a.C_System] (m_System_eq a)) (eV 5) (eMake a.C_System 3 (m_System_init a) (aCons (eV 3) (aCons (eV 4) aNil)))) (eC (.bl false))))) (sRet (eC (.bl false))) sNil)
  (sSeq (sFor (iSeq (eCall 2 (m_law_others a) (aCons (eV 3) (aCons (eV 4) aNil)))) (pT [6, 7]) (sSeq (sPut (pN 8) (eMake a.C_System 3 (m_System_init a) (aCons (eV 6) (aCons (eV 7) aNil))))
  (sSeq (sPut (pN 9) (eAnd (e2 (cEqD false) (eB (f1 sortedV) (aCons (eV 6) aNil)) (eB (f1 sortedV) (aCons (eV 3) aNil))) (e2 (cEqD false) (eCall 1 (m_law_sorted a) (aCons (eV 7) aNil)) (eV 4))))
  (sIf (tOr (tOfE (e2 (cEqD true) (e2 (cOwn false a.C_System [a.C_System] (m_System_eq a)) (eV 5) (eV 8)) (eV 9))) (tOr (tOfE (e2 (cEqD true) (e2 (cOwn false a.C_System [a.C_System] (m_System_eq a)) (eV 8) (eV 5)) (eV 9))) (tOfE (e2 (cEqD false) (e2 (cOwn true a.C_System [a.C_System] (m_System_eq a)) (eV 5) (eV 8)) (eV 9))))) (sRet (eC (.bl false))) sNil))))
  (sFor (iSeq (eLst (aCons (eV 4) (aCons (eV 3) (aCons (eC .non) (aCons (eC (.str ("" : Str))) (aCons (eC (.int 5)) (aCons (eTup (aCons (eV 3) (aCons (eV 4) aNil))) (aCons (eLst (aCons (eV 5) aNil)) aNil))))))))) (pN 10) (sIf (tOr (tOfE (e2 cIsNot (e2 (cOwn false a.C_System [a.C_System] (m_System_eq a)) (eV 5) (eV 10)) (eC (.bl false)))) (tOfE (e2 cIsNot (e2 (cOwn true a.C_System [a.C_System] (m_System_eq a)) (eV 5) (eV 10)) (eC (.bl true))))) (sRet (eC (.bl false))) sNil))))))))
  (sRet (e2 (cOwn false a.C_System [a.C_System] (m_System_eq a)) (eMake a.C_System 3 (m_System_init a) (aCons (eLst aNil) (aCons (eLst aNil) aNil))) (eMake a.C_System 3 (m_System_init a) (aCons (eLst aNil) (aCons (eLst aNil) aNil)))))))
noncomputable def m_law (a : Ad) : Fn := fnOf 11 (b_law a)
theorem ok_law {fd : FuncData} (F : Fun K "law" "law" s_law a.f_law fd) (T : Txt K mg a) (G_law_pen : FnS P w K mg base 1 a.f_law_pen 1 (m_law_pen a)) (G_law_nyms : FnS P w K mg base 4 a.f_law_nyms 2 (m_law_nyms a)) (G_law_sorted : FnS P w K mg base 2 a.f_law_sorted 1 (m_law_sorted a)) (G_law_gaps : FnS P w K mg base 3 a.f_law_gaps 4 (m_law_gaps a)) (G_law_goal : FnS P w K mg base 3 a.f_law_goal 2 (m_law_goal a)) (G_System_init : FnS P w K mg base 4 a.f_System_init 3 (m_System_init a)) (G_System_eq : FnS P w K mg base 1 a.f_System_eq 2 (m_System_eq a)) (G_law_others : FnS P w K mg base 1 a.f_law_others 2 (m_law_others a)) : FnOk P w K mg base (L2.CX P w) 6 a.f_law fd ["_law_script"] (spF ⟨P, w, K⟩ 1 (m_law a)) :=
  fn_okD (k := 5) (N := N_law) (ps := ["_law_script"]) (body := b_law a) F sc_law fun cdv A outer s H E hr => by
    have tk := takes_of (X := cxOf (L2.CX P w) P w K mg base N_law "law" (defScope s_law) a.f_law cdv A outer s H E) (E := E) rfl rfl rfl rfl
    have hu := hr.units
    have hu2 := room65 hr
    have nd := (sc_law).nd
    exact (ssCons (ssSet (i := 1) nd (sCall G_law_pen (hr.mono (by decide)) tk T.f_law_pen (saCons (sV 0) saNil)))
  (ssCons (ssFor (passes_of rfl) rfl (siR1 rfl T.n_range (saCons sI saNil)) (gN (i := 2) nd) (ssCons (ssSet (i := 3) nd (sBin soAdd (sLst (saCons sS saNil)) (sCall G_law_nyms (hr.mono (by decide)) tk T.f_law_nyms (saCons (sV 1) (saCons sI saNil)))))
  (ssCons (ssSet (i := 4) nd (sCall G_law_sorted (hr.mono (by decide)) tk T.f_law_sorted (saCons (sCall G_law_gaps (hr.mono (by decide)) tk T.f_law_gaps (saCons (sV 1) (saCons (sV 3) (saCons (sLst (saCons (sCall G_law_goal (hr.mono (by decide)) tk T.f_law_goal (saCons (sV 1) (saCons (sV 3) saNil))) saNil)) (saCons sI saNil))))) saNil)))
  (ssCons (ssSet (i := 5) nd (sMake T.mk_System G_System_init (hr.mono (by decide)) tk T.k_System (saCons (sV 3) (saCons (sV 4) saNil))))
  (ssCons (ssIf (tOrC (tCmp scIsNot (sCmp (scOwnEq G_System_eq (hr.mono (by decide)) T.oe_System T.own) (sV 5) (sMake T.mk_System G_System_init (hr.mono (by decide)) tk T.k_System (saCons (sRev (sV 3)) (saCons (sRev (sV 4)) saNil))) (nomark _)) sB (nomark _)) (tOr1 (tCmp scIsNot (sCmp (scOwnNe G_System_eq (hr.mono (by decide)) T.oe_System T.own) (sV 5) (sMake T.mk_System G_System_init (hr.mono (by decide)) tk T.k_System (saCons (sV 3) (saCons (sV 4) saNil))) (nomark _)) sB (nomark _)))).st (ssOne (ssRet sB)) ssNil)
  (ssCons (ssFor (passes_of rfl) rfl (siSeq (sCall G_law_others (hr.mono (by decide)) tk T.f_law_others (saCons (sV 3) (saCons (sV 4) saNil)))) (gT rfl (gsCons (i := 6) nd (gsCons (i := 7) nd gsNil))) (ssCons (ssSet (i := 8) nd (sMake T.mk_System G_System_init (hr.mono (by decide)) tk T.k_System (saCons (sV 6) (saCons (sV 7) saNil))))
  (ssCons (ssSet (i := 9) nd (sAnd (sCmp (scEqD hr) (sCB (sbSorted hu) (saCons (sV 6) saNil) T.n_sorted rfl) (sCB (sbSorted hu) (saCons (sV 3) saNil) T.n_sorted rfl) (nomark _)) (sOne (sCmp (scEqD hr) (sCall G_law_sorted (hr.mono (by decide)) tk T.f_law_sorted (saCons (sV 7) saNil)) (sV 4) (nomark _)))))
  (ssOne (ssIf (tOrC (tCmp (scNeD hr) (sCmp (scOwnEq G_System_eq (hr.mono (by decide)) T.oe_System T.own) (sV 5) (sV 8) (nomark _)) (sV 9) (nomark _)) (tOrC (tCmp (scNeD hr) (sCmp (scOwnEq G_System_eq (hr.mono (by decide)) T.oe_System T.own) (sV 8) (sV 5) (nomark _)) (sV 9) (nomark _)) (tOr1 (tCmp (scEqD hr) (sCmp (scOwnNe G_System_eq (hr.mono (by decide)) T.oe_System T.own) (sV 5) (sV 8) (nomark _)) (sV 9) (nomark _))))).st (ssOne (ssRet sB)) ssNil)))))
  (ssOne (ssFor (passes_of rfl) rfl (siSeq (sLst (saCons (sV 4) (saCons (sV 3) (saCons sN (saCons sS (saCons sI (saCons (sTup (saCons (sV 3) (saCons (sV 4) saNil))) (saCons (sLst (saCons (sV 5) saNil)) saNil))))))))) (gN (i := 10) nd) (ssOne (ssIf (tOrC (tCmp scIsNot (sCmp (scOwnEq G_System_eq (hr.mono (by decide)) T.oe_System T.own) (sV 5) (sV 10) (nomark _)) sB (nomark _)) (tOr1 (tCmp scIsNot (sCmp (scOwnNe G_System_eq (hr.mono (by decide)) T.oe_System T.own) (sV 5) (sV 10) (nomark _)) sB (nomark _)))).st (ssOne (ssRet sB)) ssNil))))))))))
  (ssOne (ssRet (sCmp (scOwnEq G_System_eq (hr.mono (by decide)) T.oe_System T.own) (sMake T.mk_System G_System_init (hr.mono (by decide)) tk T.k_System (saCons (sLst saNil) (saCons (sLst saNil) saNil))) (sMake T.mk_System G_System_init (hr.mono (by decide)) tk T.k_System (saCons (sLst saNil) (saCons (sLst saNil) saNil))) (nomark _))))))
end

end WS

set_option Elab.async false
set_option linter.all false
set_option maxRecDepth 100000
namespace WS
open PySem PySem.Spec PyProof.Rows L2
noncomputable def x_law_pen (a : Ad) : XFn := xfn 1 [.sh] (xRetF (xLst (xACons (x1 oList (xB (xSlc oSlc (xN 0) xoNone (xoSome (xC (.int 60)))))) (xACons (xC (.int 0)) (xACons (xC (.int 0)) xANil)))))
theorem k_law_pen (a : Ad) : FnQ [.sh] (m_law_pen a) (x_law_pen a) := by
  unfold m_law_pen x_law_pen b_law_pen
  exact fnQ_of (qRetF (qLst (qACons ((qb1F pList (qB (qSlc (qN 0) qoNone (qoSome (qInt _)))))).e (qACons (qInt _) (qACons (qInt _) qANil)))))
noncomputable def x_law_next (a : Ad) : XFn := xfn 6 [.mu] (xSeq (xPut (xpN 1) (x2 oItm (xN 0) (xB (xC (.int 1)))))
  (xSeq (xSto 0 (x2 oAdd (xN 1) (xB (xC (.int 1)))) (xB (xC (.int 1))))
  (xSeq (xPut (xpN 2) (x2 oAdd (xB (x2 oMul (xN 1) (xB (xC (.int 1061))))) (xB (xC (.int 37)))))
  (xSeq (xSIf (xT (x2 (oEqD true) (xB (x2 oItm (xN 0) (xB (xC (.int 0))))) (xB (xLst xANil)))) (xPut (xpN 2) (x2 oItm (xB (x2 oItm (xN 0) (xB (xC (.int 0))))) (xB (x2 oMod (xN 1) (xB (x1 oLen (xB (x2 oItm (xN 0) (xB (xC (.int 0))))))))))) xNil)
  (xSeq (xSIf (xTAnd (xT (x2 oLt (xN 1) (xB (x1 oLen (xB (x2 oItm (xN 0) (xB (xC (.int 0))))))))) (xT (x2 oGe (xN 2) (xB (x2 oPow (xB (xC (.int 10))) (xB (xC (.int 18)))))))) (xRetV 2) xNil)
  (xSeq (xPut (xpN 3) (x2 oMod (xB (x2 oAdd (xB (x2 oAdd (xB (x2 oMod (xN 2) (xB (xC (.int 2147483587))))) (xB (x2 oMul (xN 1) (xB (xC (.int 50069))))))) (xB (xC (.int 61))))) (xB (xC (.int 2147483587)))))
  (xSeq (xPut (xpN 4) (x2 oMod (xB (x2 oAdd (xB (x2 oAdd (xB (x2 oMul (xN 3) (xN 3))) (xB (x2 oMul (xN 1) (xB (xC (.int 40013))))))) (xB (xC (.int 43))))) (xB (xC (.int 2147483563)))))
  (xSeq (xPut (xpN 5) (x2 oMod (xB (x2 oAdd (xB (x2 oAdd (xB (x2 oMul (xN 4) (xN 4))) (xN 3))) (xB (x2 oMul (xB (x2 oMul (xN 1) (xN 1))) (xB (xC (.int 19))))))) (xB (xC (.int 2147483549)))))
  (xRet (x2 oAdd (xB (x2 oMul (xB (x2 oAdd (xB (x2 oMul (xN 5) (xB (xC (.int 2147483587))))) (xN 4))) (xB (xC (.int 2147483563))))) (xN 3)))))))))))
theorem k_law_next (a : Ad) : FnQ [.mu] (m_law_next a) (x_law_next a) := by
  unfold m_law_next x_law_next b_law_next
  exact fnQ_of (qSeq (qPut (qpN 1) (q2 pItm (qN 0) (qB (qInt _))))
  (qSeq (qSto (q2 pAdd (qN 1) (qB (qInt _))) (qB (qInt _)))
  (qSeq (qPut (qpN 2) (q2 pAdd (qB (q2 pMul (qN 1) (qB (qInt _)))) (qB (qInt _))))
  (qSeq (qSIf (qT (q2 (pEqD true) (qB (q2 pItm (qN 0) (qB (qInt _)))) (qB ((qLst qANil)).e))) (qPut (qpN 2) (q2 pItm (qB (q2 pItm (qN 0) (qB (qInt _)))) (qB (q2 pMod (qN 1) (qB (qLen (qB (q2 pItm (qN 0) (qB (qInt _)))))))))) qNil)
  (qSeq (qSIf (qTAnd (qT (q2 pLt (qN 1) (qB (qLen (qB (q2 pItm (qN 0) (qB (qInt _)))))))) (qT (q2 pGe (qN 2) (qB (q2 pPow (qB (qInt _)) (qB (qInt _))))))) (qRetV 2) qNil)
  (qSeq (qPut (qpN 3) (q2 pMod (qB (q2 pAdd (qB (q2 pAdd (qB (q2 pMod (qN 2) (qB (qInt _)))) (qB (q2 pMul (qN 1) (qB (qInt _)))))) (qB (qInt _)))) (qB (qInt _))))
  (qSeq (qPut (qpN 4) (q2 pMod (qB (q2 pAdd (qB (q2 pAdd (qB (q2 pMul (qN 3) (qN 3))) (qB (q2 pMul (qN 1) (qB (qInt _)))))) (qB (qInt _)))) (qB (qInt _))))
  (qSeq (qPut (qpN 5) (q2 pMod (qB (q2 pAdd (qB (q2 pAdd (qB (q2 pMul (qN 4) (qN 4))) (qN 3))) (qB (q2 pMul (qB (q2 pMul (qN 1) (qN 1))) (qB (qInt _)))))) (qB (qInt _))))
  (qRet (q2 pAdd (qB (q2 pMul (qB (q2 pAdd (qB (q2 pMul (qN 5) (qB (qInt _)))) (qN 4))) (qB (qInt _)))) (qN 3)))))))))))
noncomputable def x_law_draw (a : Ad) : XFn := xfn 3 [.mu, .sh] (xSeq (xSIf (xT (x2 oLt (xB (x2 oItm (xN 0) (xB (xC (.int 2))))) (xN 1))) (xSto 0 (xCall [.mu] (x_law_next a) (xMCons (xN 0) xMNil)) (xB (xC (.int 2)))) xNil)
  (xSeq (xPut (xpN 2) (x2 oMod (xB (x2 oItm (xN 0) (xB (xC (.int 2))))) (xN 1)))
  (xSeq (xSto 0 (x2 oFdiv (xB (x2 oItm (xN 0) (xB (xC (.int 2))))) (xN 1)) (xB (xC (.int 2))))
  (xRetV 2))))
theorem k_law_draw (a : Ad) : FnQ [.mu, .sh] (m_law_draw a) (x_law_draw a) := by
  unfold m_law_draw x_law_draw b_law_draw
  exact fnQ_of (qSeq (qSIf (qT (q2 pLt (qB (q2 pItm (qN 0) (qB (qInt _)))) (qN 1))) (qSto (qCall (k_law_next a) (qMCons (qN 0) qMNil) rfl) (qB (qInt _))) qNil)
  (qSeq (qPut (qpN 2) (q2 pMod (qB (q2 pItm (qN 0) (qB (qInt _)))) (qN 1)))
  (qSeq (qSto (q2 pFdiv (qB (q2 pItm (qN 0) (qB (qInt _)))) (qN 1)) (qB (qInt _)))
  (qRetV 2))))
noncomputable def x_law_some (a : Ad) : XFn := xfn 5 [.mu, .sh, .sh] (xSeq (xPutF 3 (x1 oList (xN 1)))
  (xRetF (xLc [4] (xR1 (xCall [.mu, .sh] (x_law_draw a) (xMCons (xN 0) (xMCons (xB (x2 oAdd (xB (x2 oMin2 (xN 2) (xB (x1 oLen (xN 3))))) (xB (xC (.int 1))))) xMNil)))) (xpN 4) xTYes (xMt 3 oPopAt (xACons (xCall [.mu, .sh] (x_law_draw a) (xMCons (xN 0) (xMCons (xB (x1 oLen (xN 3))) xMNil))) xANil)))))
theorem k_law_some (a : Ad) : FnQ [.mu, .sh, .sh] (m_law_some a) (x_law_some a) := by
  unfold m_law_some x_law_some b_law_some
  exact fnQ_of (qSeq (qPutF (qb1F pList (qN 1)))
  (qRetF (qLc (qR1 (qCall (k_law_draw a) (qMCons (qN 0) (qMCons (qB (q2 pAdd (qB (qb2 pMin2 (qN 2) (qB (qLen (qN 3))))) (qB (qInt _)))) qMNil)) rfl)) (qpN 4) qTYes (qMt pPopAt (qACons (qCall (k_law_draw a) (qMCons (qN 0) (qMCons (qB (qLen (qN 3))) qMNil)) rfl) qANil)) (putIn_pN (by decide)))))
noncomputable def x_law_nyms (a : Ad) : XFn := xfn 2 [.mu, .sh] (xRetF (xCallF [.mu, .sh, .sh] (x_law_some a) (xMCons (xN 0) (xMCons (xB (xLst (xACons (xC (.str ("a" : Str))) (xACons (xC (.str ("ab" : Str))) (xACons (xC (.str ("b" : Str))) (xACons (xC (.str ("c" : Str))) (xACons (xC (.str ("none" : Str))) (xACons (xC (.str ("x" : Str))) (xACons (xC (.str ("abcdefgh" : Str))) (xACons (xC (.str ("settings" : Str))) (xACons (xC (.str ("zz" : Str))) xANil))))))))))) (xMCons (xB (xV 1)) xMNil)))))
theorem k_law_nyms (a : Ad) : FnQ [.mu, .sh] (m_law_nyms a) (x_law_nyms a) := by
  unfold m_law_nyms x_law_nyms b_law_nyms
  exact fnQ_of (qRetF (qCallF (k_law_some a) (qMCons (qN 0) (qMCons (qB ((qLst (qACons (qStr _) (qACons (qStr _) (qACons (qStr _) (qACons (qStr _) (qACons (qStr _) (qACons (qStr _) (qACons (qStr _) (qACons (qStr _) (qACons (qStr _) qANil))))))))))).e) (qMCons (qB (qV 1)) qMNil))) rfl))
noncomputable def x_law_key (a : Ad) : XFn := xfn 1 [.sh] (xRet (xTup (xACons (xIf (xT (x2 (oIs false) (xB (x2 oItm (xN 0) (xB (xC (.int 0))))) (xB (xC .non)))) (xC (.str ("" : Str))) (x2 oItm (xN 0) (xB (xC (.int 0))))) (xACons (xIf (xT (x2 (oIs false) (xB (x2 oItm (xN 0) (xB (xC (.int 1))))) (xB (xC .non)))) (xC (.str ("" : Str))) (x2 oItm (xN 0) (xB (xC (.int 1))))) (xACons (x2 oItm (xN 0) (xB (xC (.int 2)))) xANil)))))
theorem k_law_key (a : Ad) : FnQ [.sh] (m_law_key a) (x_law_key a) := by
  unfold m_law_key x_law_key b_law_key
  exact fnQ_of (qRet (qTup (qACons (qIf (qT (q2 pIs (qB (q2 pItm (qN 0) (qB (qInt _)))) (qB qNon))) (qStr _) (q2 pItm (qN 0) (qB (qInt _)))) (qACons (qIf (qT (q2 pIs (qB (q2 pItm (qN 0) (qB (qInt _)))) (qB qNon))) (qStr _) (q2 pItm (qN 0) (qB (qInt _)))) (qACons (q2 pItm (qN 0) (qB (qInt _))) qANil)))))
noncomputable def x_law_sorted (a : Ad) : XFn := xfn 4 [.sh] (xSeq (xPut (xpN 1) (x1 oDict (xB (xLc [2] (xSeqN 0) (xpN 2) xTYes (xTup (xACons (xV 2) (xACons (xC (.bl true)) xANil)))))))
  (xRetF (xLc [3] (xSeqE (x1 oSorted (xB (xLcD (fun p => p.1) [2] (xWN 1) (xpN 2) xTYes (xTup (xACons (xCall [.sh] (x_law_key a) (xMCons (xB (xV 2)) xMNil)) (xACons (xV 2) xANil))))))) (xpN 3) xTYes (x2 oItm (xN 3) (xB (xC (.int 1)))))))
theorem k_law_sorted (a : Ad) : FnQ [.sh] (m_law_sorted a) (x_law_sorted a) := by
  unfold m_law_sorted x_law_sorted b_law_sorted
  exact fnQ_of (qSeq (qPut (qpN 1) ((qb1F pDict (qB ((qLc (qSeqN 0) (qpN 2) qTYes (qTup (qACons (qV 2) (qACons (qBl _) qANil))) (putIn_pN (by decide)))).e))).e)
  (qRetF (qLc (qSeqE ((qb1F pSorted (qB ((qLcD selK (qWN 1) (qpN 2) qTYes (qTup (qACons (qCall (k_law_key a) (qMCons (qB (qV 2)) qMNil) rfl) (qACons (qV 2) qANil))) (putIn_pN (by decide)))).e))).e) (qpN 3) qTYes (q2 pItm (qN 3) (qB (qInt _))) (putIn_pN (by decide)))))
noncomputable def x_law_at (a : Ad) : XFn := xfn 2 [.sh, .sh] (xRet (xIf (xT (x2 (oIs false) (xN 1) (xB (xC .non)))) (xC (.int 0)) (x2 oItm (xN 0) (xN 1))))
theorem k_law_at (a : Ad) : FnQ [.sh, .sh] (m_law_at a) (x_law_at a) := by
  unfold m_law_at x_law_at b_law_at
  exact fnQ_of (qRet (qIf (qT (q2 pIs (qN 1) (qB qNon))) (qInt _) (q2 pItm (qN 0) (qN 1))))
noncomputable def x_law_gaps (a : Ad) : XFn := xfn 13 [.mu, .sh, .sh, .sh] (xSeq (xPutF 4 (xLst xANil))
  (xSeq (xPut (xpN 5) (x2 oAdd (xB (xLst (xACons (xC .non) xANil))) (xB (x1 oList (xN 1)))))
  (xSeq (xFor (xR1 (xIf (xT (x2 (oEqD true) (xN 1) (xB (xLst xANil)))) (xCall [.mu, .sh] (x_law_draw a) (xMCons (xN 0) (xMCons (xB (x2 oAdd (xN 3) (xB (xC (.int 1))))) xMNil))) (xC (.int 0)))) (xpN 6) (xSeq (xPutF 7 (x1 oList (xN 5)))
  (xSeq (xPut (xpT [8, 9]) (xTup (xACons (xMt 7 oPopAt (xACons (xCall [.mu, .sh] (x_law_draw a) (xMCons (xN 0) (xMCons (xB (x1 oLen (xN 7))) xMNil))) xANil)) (xACons (x2 oItm (xN 7) (xB (xCall [.mu, .sh] (x_law_draw a) (xMCons (xN 0) (xMCons (xB (x1 oLen (xN 7))) xMNil))))) xANil))))
  (xSeq (xPut (xpN 10) (xLc [11] (xSeqN 2) (xpN 11) xTYes (x2 oSub (xB (xCall [.sh, .sh] (x_law_at a) (xMCons (xB (xV 11)) (xMCons (xB (xV 9)) xMNil)))) (xB (xCall [.sh, .sh] (x_law_at a) (xMCons (xB (xV 11)) (xMCons (xB (xV 8)) xMNil)))))))
  (xSeq (xPut (xpN 12) (x2 oMax2 (xB (x1 oNeg (xB (xC (.int 999))))) (xB (x2 oSub (xB (x1 oMin (xN 10))) (xB (x2 oItm (xB (xLst (xACons (xC (.int 0)) (xACons (xC (.int 0)) (xACons (xC (.int 0)) (xACons (xC (.int 1)) (xACons (xC (.int 3)) (xACons (xC (.int 60)) xANil)))))))) (xB (xCall [.mu, .sh] (x_law_draw a) (xMCons (xN 0) (xMCons (xB (xC (.int 6))) xMNil))))))))))
  (xSeq (xSIf (xTAnd (xT (x2 oLe (xN 12) (xB (xC (.int 999))))) (xT (x2 oLe (xN 12) (xB (x1 oMin (xN 10)))))) (xDrop (xMt 4 oApp (xACons (xTup (xACons (xV 8) (xACons (xV 9) (xACons (xV 12) xANil)))) xANil))) xNil)
  (xSIf (xTAnd (xT (x2 (oEqD false) (xB (xCall [.mu, .sh] (x_law_draw a) (xMCons (xN 0) (xMCons (xB (xC (.int 3))) xMNil)))) (xB (xC (.int 0))))) (xT (xChain oLe oLe (xB (x1 oNeg (xB (xC (.int 999))))) (xB (x1 oMax (xN 10))) (xB (xC (.int 999)))))) (xDrop (xMt 4 oApp (xACons (xTup (xACons (xV 9) (xACons (xV 8) (xACons (x2 oSub (xB (xC (.int 0))) (xB (x1 oMax (xN 10)))) xANil)))) xANil))) xNil)))))))
  (xRetV 4))))
theorem k_law_gaps (a : Ad) : FnQ [.mu, .sh, .sh, .sh] (m_law_gaps a) (x_law_gaps a) := by
  unfold m_law_gaps x_law_gaps b_law_gaps
  exact fnQ_of (qSeq (qPutF (qLst qANil))
  (qSeq (qPut (qpN 5) (q2 pAdd (qB ((qLst (qACons qNon qANil))).e) (qB ((qb1F pList (qN 1))).e)))
  (qSeq (qFor (qR1 (qIf (qT (q2 (pEqD true) (qN 1) (qB ((qLst qANil)).e))) (qCall (k_law_draw a) (qMCons (qN 0) (qMCons (qB (q2 pAdd (qN 3) (qB (qInt _)))) qMNil)) rfl) (qInt _))) (qpN 6) (qSeq (qPutF (qb1F pList (qN 5)))
  (qSeq (qPut (qpT [8, 9]) (qTup (qACons (qMt pPopAt (qACons (qCall (k_law_draw a) (qMCons (qN 0) (qMCons (qB (qLen (qN 7))) qMNil)) rfl) qANil)) (qACons (q2 pItm (qN 7) (qB (qCall (k_law_draw a) (qMCons (qN 0) (qMCons (qB (qLen (qN 7))) qMNil)) rfl))) qANil))))
  (qSeq (qPut (qpN 10) ((qLc (qSeqN 2) (qpN 11) qTYes (q2 pSub (qB (qCall (k_law_at a) (qMCons (qB (qV 11)) (qMCons (qB (qV 9)) qMNil)) rfl)) (qB (qCall (k_law_at a) (qMCons (qB (qV 11)) (qMCons (qB (qV 8)) qMNil)) rfl))) (putIn_pN (by decide)))).e)
  (qSeq (qPut (qpN 12) (qb2 pMax2 (qB (q1 pNeg (qB (qInt _)))) (qB (q2 pSub (qB (qb1 pMin (qN 10))) (qB (q2 pItm (qB ((qLst (qACons (qInt _) (qACons (qInt _) (qACons (qInt _) (qACons (qInt _) (qACons (qInt _) (qACons (qInt _) qANil)))))))).e) (qB (qCall (k_law_draw a) (qMCons (qN 0) (qMCons (qB (qInt _)) qMNil)) rfl))))))))
  (qSeq (qSIf (qTAnd (qT (q2 pLe (qN 12) (qB (qInt _)))) (qT (q2 pLe (qN 12) (qB (qb1 pMin (qN 10)))))) (qDrop (qMt pApp (qACons (qTup (qACons (qV 8) (qACons (qV 9) (qACons (qV 12) qANil)))) qANil))) qNil)
  (qSIf (qTAnd (qT (q2 (pEqD false) (qB (qCall (k_law_draw a) (qMCons (qN 0) (qMCons (qB (qInt _)) qMNil)) rfl)) (qB (qInt _)))) (qT (qChain pLe pLe (qB (q1 pNeg (qB (qInt _)))) (qB (qb1 pMax (qN 10))) (qB (qInt _))))) (qDrop (qMt pApp (qACons (qTup (qACons (qV 9) (qACons (qV 8) (qACons (q2 pSub (qB (qInt _)) (qB (qb1 pMax (qN 10)))) qANil)))) qANil))) qNil)))))))
  (qRetV 4))))
noncomputable def x_law_goal (a : Ad) : XFn := xfn 4 [.mu, .sh] (xSeq (xPut (xpN 2) (x2 oItm (xB (xLst (xACons (xC (.int 3)) (xACons (xC (.int 5)) (xACons (xC (.int 11)) (xACons (xC (.int 1801)) xANil)))))) (xB (xCall [.mu, .sh] (x_law_draw a) (xMCons (xN 0) (xMCons (xB (xC (.int 4))) xMNil))))))
  (xRetF (x1 oDict (xB (xLc [3] (xSeqN 1) (xpN 3) xTYes (xTup (xACons (xV 3) (xACons (x2 oSub (xB (xCall [.mu, .sh] (x_law_draw a) (xMCons (xN 0) (xMCons (xB (xV 2)) xMNil)))) (xB (x2 oFdiv (xN 2) (xB (xC (.int 2)))))) xANil))))))))
theorem k_law_goal (a : Ad) : FnQ [.mu, .sh] (m_law_goal a) (x_law_goal a) := by
  unfold m_law_goal x_law_goal b_law_goal
  exact fnQ_of (qSeq (qPut (qpN 2) (q2 pItm (qB ((qLst (qACons (qInt _) (qACons (qInt _) (qACons (qInt _) (qACons (qInt _) qANil)))))).e) (qB (qCall (k_law_draw a) (qMCons (qN 0) (qMCons (qB (qInt _)) qMNil)) rfl))))
  (qRetF (qb1F pDict (qB ((qLc (qSeqN 1) (qpN 3) qTYes (qTup (qACons (qV 3) (qACons (q2 pSub (qB (qCall (k_law_draw a) (qMCons (qN 0) (qMCons (qB (qV 2)) qMNil)) rfl)) (qB (q2 pFdiv (qN 2) (qB (qInt _))))) qANil))) (putIn_pN (by decide)))).e))))
noncomputable def x_is_name (a : Ad) : XFn := xfn 2 [.sh] (xRet (xAnd (x1 (oIsi [a.C_System] (ansB "str" [a.C_System])) (xN 0)) (xAnd (xChain oLe oLe (xB (xC (.int 1))) (xB (x1 oLen (xN 0))) (xB (xC (.int 8)))) (x1 oAll (xB (xLc [1] (xStr (xV 0)) (xpN 1) xTYes (x2 (oIn false) (xN 1) (xB (xC (.str ("abcdefghijklmnopqrstuvwxyz" : Str)))))))))))
theorem k_is_name (a : Ad) : FnQ [.sh] (m_is_name a) (x_is_name a) := by
  unfold m_is_name x_is_name b_is_name
  exact fnQ_of (qRet (qAnd (q1 (pIsi _ _) (qN 0)) (qAnd (qChain pLe pLe (qB (qInt _)) (qB (qLen (qN 0))) (qB (qInt _))) (qb1 pAll (qB ((qLc (qIStr (qV 0)) (qpN 1) qTYes (q2 pIn (qN 1) (qB (qStr _))) (putIn_pN (by decide)))).e)))))
noncomputable def x_is_integer (a : Ad) : XFn := xfn 3 [.sh, .sh, .sh] (xRet (xAnd (x1 (oIsi [a.C_System] (ansB "int" [a.C_System])) (xN 0)) (xAnd (xNot (x1 (oIsi [a.C_System] (ansB "bool" [a.C_System])) (xN 0))) (xChain oLe oLe (xN 1) (xN 0) (xN 2)))))
theorem k_is_integer (a : Ad) : FnQ [.sh, .sh, .sh] (m_is_integer a) (x_is_integer a) := by
  unfold m_is_integer x_is_integer b_is_integer
  exact fnQ_of (qRet (qAnd (q1 (pIsi _ _) (qN 0)) (qAnd (qNot (q1 (pIsi _ _) (qN 0))) (qChain pLe pLe (qN 1) (qN 0) (qN 2)))))
noncomputable def x_is_thing (a : Ad) : XFn := xfn 1 [.sh] (xRet (xOr (x2 (oIs false) (xN 0) (xB (xC .non))) (xCall [.sh] (x_is_name a) (xMCons (xB (xV 0)) xMNil))))
theorem k_is_thing (a : Ad) : FnQ [.sh] (m_is_thing a) (x_is_thing a) := by
  unfold m_is_thing x_is_thing b_is_thing
  exact fnQ_of (qRet (qOr (q2 pIs (qN 0) (qB qNon)) (qCall (k_is_name a) (qMCons (qB (qV 0)) qMNil) rfl)))
noncomputable def x_System_is_rule (a : Ad) : XFn := xfn 1 [.sh] (xSeq (xSIf (xTOr (xTNot (xT (x1 (oIsi [a.C_System] (ansB "tuple" [a.C_System])) (xN 0)))) (xTOr (xT (x2 (oEqD true) (xB (x1 oLen (xN 0))) (xB (xC (.int 3))))) (xTNot (xT (xCall [.sh, .sh, .sh] (x_is_integer a) (xMCons (xB (x2 oItm (xN 0) (xB (xC (.int 2))))) (xMCons (xB (x1 oNeg (xB (xC (.int 999))))) (xMCons (xB (xC (.int 999))) xMNil)))))))) (xRet (xC (.bl false))) xNil)
  (xRet (xAnd (xCall [.sh] (x_is_thing a) (xMCons (xB (x2 oItm (xN 0) (xB (xC (.int 0))))) xMNil)) (xAnd (xCall [.sh] (x_is_thing a) (xMCons (xB (x2 oItm (xN 0) (xB (xC (.int 1))))) xMNil)) (x2 (oEqD true) (xB (x2 oItm (xN 0) (xB (xC (.int 0))))) (xB (x2 oItm (xN 0) (xB (xC (.int 1))))))))))
theorem k_System_is_rule (a : Ad) : FnQ [.sh] (m_System_is_rule a) (x_System_is_rule a) := by
  unfold m_System_is_rule x_System_is_rule b_System_is_rule
  exact fnQ_of (qSeq (qSIf (qTOr (qTNot (qT (q1 (pIsi _ _) (qN 0)))) (qTOr (qT (q2 (pEqD true) (qB (qLen (qN 0))) (qB (qInt _)))) (qTNot (qT (qCall (k_is_integer a) (qMCons (qB (q2 pItm (qN 0) (qB (qInt _)))) (qMCons (qB (q1 pNeg (qB (qInt _)))) (qMCons (qB (qInt _)) qMNil))) rfl))))) (qRet (qBl _)) qNil)
  (qRet (qAnd (qCall (k_is_thing a) (qMCons (qB (q2 pItm (qN 0) (qB (qInt _)))) qMNil) rfl) (qAnd (qCall (k_is_thing a) (qMCons (qB (q2 pItm (qN 0) (qB (qInt _)))) qMNil) rfl) (q2 (pEqD true) (qB (q2 pItm (qN 0) (qB (qInt _)))) (qB (q2 pItm (qN 0) (qB (qInt _)))))))))
noncomputable def x_rule_key (a : Ad) : XFn := xfn 1 [.sh] (xRet (xTup (xACons (xIf (xT (x2 (oIs false) (xB (x2 oItm (xN 0) (xB (xC (.int 0))))) (xB (xC .non)))) (xC (.str ("" : Str))) (x2 oItm (xN 0) (xB (xC (.int 0))))) (xACons (xIf (xT (x2 (oIs false) (xB (x2 oItm (xN 0) (xB (xC (.int 1))))) (xB (xC .non)))) (xC (.str ("" : Str))) (x2 oItm (xN 0) (xB (xC (.int 1))))) (xACons (x2 oItm (xN 0) (xB (xC (.int 2)))) xANil)))))
theorem k_rule_key (a : Ad) : FnQ [.sh] (m_rule_key a) (x_rule_key a) := by
  unfold m_rule_key x_rule_key b_rule_key
  exact fnQ_of (qRet (qTup (qACons (qIf (qT (q2 pIs (qB (q2 pItm (qN 0) (qB (qInt _)))) (qB qNon))) (qStr _) (q2 pItm (qN 0) (qB (qInt _)))) (qACons (qIf (qT (q2 pIs (qB (q2 pItm (qN 0) (qB (qInt _)))) (qB qNon))) (qStr _) (q2 pItm (qN 0) (qB (qInt _)))) (qACons (q2 pItm (qN 0) (qB (qInt _))) qANil)))))
noncomputable def x_System_init (a : Ad) : XFn := xfn 6 [.mu, .sh, .sh] (xSeq (xSIf (xTOr (xTNot (xT (x1 (oIsi [a.C_System] (ansB "list" [a.C_System])) (xN 1)))) (xTOr (xTNot (xT (x1 oAll (xB (xLc [3] (xSeqN 1) (xpN 3) xTYes (xCall [.sh] (x_is_name a) (xMCons (xB (xV 3)) xMNil))))))) (xT (x2 oLt (xB (x1 oLenSet (xN 1))) (xB (x1 oLen (xN 1))))))) xBad xNil)
  (xSeq (xSIf (xTOr (xTNot (xT (x1 (oIsi [a.C_System] (ansB "list" [a.C_System])) (xN 2)))) (xTNot (xT (x1 oAll (xB (xLc [4] (xSeqN 2) (xpN 4) xTYes (xCall [.sh] (x_System_is_rule a) (xMCons (xB (xV 4)) xMNil)))))))) xBad xNil)
  (xSeq (xSIf (xTNot (xT (x1 oAll (xB (xLc2 [4, 5] [5] (xSeqN 2) (xpN 4) xTYes (xSeqE (xSlc oSlc (xN 4) xoNone (xoSome (xC (.int 2))))) (xpN 5) xTYes (xOr (x2 (oIs false) (xN 5) (xB (xC .non))) (x2 (oIn false) (xN 5) (xN 1)))))))) xBad xNil)
  (xSeq (xFldSet a.C_System ("settings" : Str) 0 (x1 oSorted (xN 1)))
  (xFldSet a.C_System ("gaps" : Str) 0 (x1 (oSortKey (x_rule_key a)) (xB (xDc [4] (xSeqN 2) (xpN 4) xTYes (xV 4) (xC (.bl true))))))))))
theorem k_System_init (a : Ad) : FnQ [.mu, .sh, .sh] (m_System_init a) (x_System_init a) := by
  unfold m_System_init x_System_init b_System_init
  exact fnQ_of (qSeq (qSIf (qTOr (qTNot (qT (q1 (pIsi _ _) (qN 1)))) (qTOr (qTNot (qT (qb1 pAll (qB ((qLc (qSeqN 1) (qpN 3) qTYes (qCall (k_is_name a) (qMCons (qB (qV 3)) qMNil) rfl) (putIn_pN (by decide)))).e)))) (qT (q2 pLt (qB (q1 pLenSet (qN 1))) (qB (qLen (qN 1))))))) qBad qNil)
  (qSeq (qSIf (qTOr (qTNot (qT (q1 (pIsi _ _) (qN 2)))) (qTNot (qT (qb1 pAll (qB ((qLc (qSeqN 2) (qpN 4) qTYes (qCall (k_System_is_rule a) (qMCons (qB (qV 4)) qMNil) rfl) (putIn_pN (by decide)))).e))))) qBad qNil)
  (qSeq (qSIf (qTNot (qT (qb1 pAll (qB ((qLc2 (qSeqN 2) (qpN 4) qTYes (qSeqE (qSlc (qN 4) qoNone (qoSome (qInt _)))) (qpN 5) qTYes (qOr (q2 pIs (qN 5) (qB qNon)) (q2 pIn (qN 5) (qN 1))) (putIn_pN (by decide)) (putIn_pN (by decide)) (by decide))).e)))) qBad qNil)
  (qSeq (qFldSet ((qb1F pSorted (qN 1))).e)
  (qFldSet ((qSortKey (k_rule_key a) (qB ((qDc (qSeqN 2) (qpN 4) qTYes (qV 4) (qBl _) (putIn_pN (by decide)))).e))).e)))))
noncomputable def x_System_eq (a : Ad) : XFn := xfn 2 [.sh, .sh] (xRet (xAnd (x1 (oIsi [a.C_System] (ansC a.C_System [a.C_System])) (xN 1)) (xAnd (x2 (oEqD false) (xB (x1 (oFld a.C_System ("settings" : Str)) (xN 0))) (xB (x1 (oFld a.C_System ("settings" : Str)) (xN 1)))) (x2 (oEqD false) (xB (x1 (oFld a.C_System ("gaps" : Str)) (xN 0))) (xB (x1 (oFld a.C_System ("gaps" : Str)) (xN 1)))))))
theorem k_System_eq (a : Ad) : FnQ [.sh, .sh] (m_System_eq a) (x_System_eq a) := by
  unfold m_System_eq x_System_eq b_System_eq
  exact fnQ_of (qRet (qAnd (q1 (pIsi _ _) (qN 1)) (qAnd (q2 (pEqD false) (qB (qFld (qN 0))) (qB (qFld (qN 1)))) (q2 (pEqD false) (qB (qFld (qN 0))) (qB (qFld (qN 1)))))))
noncomputable def x_law_others (a : Ad) : XFn := xfn 9 [.sh, .sh] (xSeq (xPutF 2 (xLst (xACons (xLst (xACons (x2 oAdd (xN 0) (xB (xLst (xACons (xC (.str ("late" : Str))) xANil)))) (xACons (xV 1) xANil))) (xACons (xLst (xACons (xV 0) (xACons (x2 oAdd (xN 1) (xB (xLst (xACons (xTup (xACons (xC (.str ("mid" : Str))) (xACons (xC .non) (xACons (xC (.int 77)) xANil)))) xANil)))) xANil))) xANil))))
  (xSeq (xFor (xR1 (x1 oLen (xN 1))) (xpN 3) (xSeq (xPut (xpT [4, 5, 6]) (x2 oItm (xN 1) (xN 3)))
  (xSeq (xPut (xpN 7) (xLc [8] (xSeqN 1) (xpN 8) (xT (x2 (oEqD true) (xN 8) (xB (x2 oItm (xN 1) (xN 3))))) (xV 8)))
  (xSeq (xPutF 2 (x2 oAddL (xN 2) (xB (xLst (xACons (xLst (xACons (xV 0) (xACons (xV 7) xANil))) (xACons (xLst (xACons (xV 0) (xACons (x2 oAdd (xN 7) (xB (xLst (xACons (xTup (xACons (xV 4) (xACons (xV 5) (xACons (x2 oAdd (xN 6) (xB (x2 oItm (xB (xLst (xACons (xC (.int 1)) (xACons (x1 oNeg (xB (xC (.int 1)))) xANil)))) (xB (x1 oInt (xB (x2 (oEqD false) (xN 6) (xB (xC (.int 999)))))))))) xANil)))) xANil)))) xANil))) xANil))))))
  (xSIf (xT (x2 (oEqD false) (xB (xCount (xN 1) (xTup (xACons (xV 5) (xACons (xV 4) (xACons (xV 6) xANil)))))) (xB (xC (.int 0))))) (xDrop (xMt 2 oApp (xACons (xLst (xACons (xV 0) (xACons (x2 oAdd (xN 7) (xB (xLst (xACons (xTup (xACons (xV 5) (xACons (xV 4) (xACons (xV 6) xANil)))) xANil)))) xANil))) xANil))) xNil)))))
  (xRetV 2)))
theorem k_law_others (a : Ad) : FnQ [.sh, .sh] (m_law_others a) (x_law_others a) := by
  unfold m_law_others x_law_others b_law_others
  exact fnQ_of (qSeq (qPutF (qLst (qACons ((qLst (qACons (q2 pAdd (qN 0) (qB ((qLst (qACons (qStr _) qANil))).e)) (qACons (qV 1) qANil)))).e (qACons ((qLst (qACons (qV 0) (qACons (q2 pAdd (qN 1) (qB ((qLst (qACons (qTup (qACons (qStr _) (qACons qNon (qACons (qInt _) qANil)))) qANil))).e)) qANil)))).e qANil))))
  (qSeq (qFor (qR1 (qLen (qN 1))) (qpN 3) (qSeq (qPut (qpT [4, 5, 6]) (q2 pItm (qN 1) (qN 3)))
  (qSeq (qPut (qpN 7) ((qLc (qSeqN 1) (qpN 8) (qT (q2 (pEqD true) (qN 8) (qB (q2 pItm (qN 1) (qN 3))))) (qV 8) (putIn_pN (by decide)))).e)
  (qSeq (qPutF (q2F pAddL (qN 2) (qB ((qLst (qACons ((qLst (qACons (qV 0) (qACons (qV 7) qANil)))).e (qACons ((qLst (qACons (qV 0) (qACons (q2 pAdd (qN 7) (qB ((qLst (qACons (qTup (qACons (qV 4) (qACons (qV 5) (qACons (q2 pAdd (qN 6) (qB (q2 pItm (qB ((qLst (qACons (qInt _) (qACons (q1 pNeg (qB (qInt _))) qANil)))).e) (qB (qb1 pInt (qB (q2 (pEqD false) (qN 6) (qB (qInt _))))))))) qANil)))) qANil))).e)) qANil)))).e qANil)))).e)))
  (qSIf (qT (q2 (pEqD false) (qB (qCount (qN 1) (qTup (qACons (qV 5) (qACons (qV 4) (qACons (qV 6) qANil)))))) (qB (qInt _)))) (qDrop (qMt pApp (qACons ((qLst (qACons (qV 0) (qACons (q2 pAdd (qN 7) (qB ((qLst (qACons (qTup (qACons (qV 5) (qACons (qV 4) (qACons (qV 6) qANil)))) qANil))).e)) qANil)))).e qANil))) qNil)))))
  (qRetV 2)))
noncomputable def x_law (a : Ad) : XFn := xfn 11 [.sh] (xSeq (xPutF 1 (xCallF [.sh] (x_law_pen a) (xMCons (xB (xV 0)) xMNil)))
  (xSeq (xFor (xR1 (xC (.int 6))) (xpN 2) (xSeq (xPut (xpN 3) (x2 oAdd (xB (xLst (xACons (xC (.str ("mid" : Str))) xANil))) (xB (xCall [.mu, .sh] (x_law_nyms a) (xMCons (xN 1) (xMCons (xB (xC (.int 5))) xMNil))))))
  (xSeq (xPut (xpN 4) (xCall [.sh] (x_law_sorted a) (xMCons (xB (xCall [.mu, .sh, .sh, .sh] (x_law_gaps a) (xMCons (xN 1) (xMCons (xB (xV 3)) (xMCons (xB (xLst (xACons (xCall [.mu, .sh] (x_law_goal a) (xMCons (xN 1) (xMCons (xB (xV 3)) xMNil))) xANil))) (xMCons (xB (xC (.int 8))) xMNil)))))) xMNil)))
  (xSeq (xPut (xpN 5) (xMake a.C_System [.sh, .sh] (x_System_init a) (xMCons (xB (xV 3)) (xMCons (xB (xV 4)) xMNil))))
  (xSeq (xSIf (xTOr (xT (x2 (oIs true) (xB (xOwn false a.C_System [a.C_System] [.sh, .sh] (x_System_eq a) (xN 5) (xB (xMake a.C_System [.sh, .sh] (x_System_init a) (xMCons (xB (x1 oRev (xN 3))) (xMCons (xB (x1 oRev (xN 4))) xMNil)))))) (xB (xC (.bl true))))) (xT (x2 (oIs true) (xB (xOwn true a.C_System [a.C_System] [.sh, .sh] (x_System_eq a) (xN 5) (xB (xMake a.C_System [.sh, .sh] (x_System_init a) (xMCons (xB (xV 3)) (xMCons (xB (xV 4)) xMNil)))))) (xB (xC (.bl false)))))) (xRet (xC (.bl false))) xNil)
  (xSeq (xFor (xSeqE (xCall [.sh, .sh] (x_law_others a) (xMCons (xB (xV 3)) (xMCons (xB (xV 4)) xMNil)))) (xpT [6, 7]) (xSeq (xPut (xpN 8) (xMake a.C_System [.sh, .sh] (x_System_init a) (xMCons (xB (xV 6)) (xMCons (xB (xV 7)) xMNil))))
  (xSeq (xPut (xpN 9) (xAnd (x2 (oEqD false) (xB (x1 oSorted (xN 6))) (xB (x1 oSorted (xN 3)))) (x2 (oEqD false) (xB (xCall [.sh] (x_law_sorted a) (xMCons (xB (xV 7)) xMNil))) (xN 4))))
  (xSIf (xTOr (xT (x2 (oEqD true) (xB (xOwn false a.C_System [a.C_System] [.sh, .sh] (x_System_eq a) (xN 5) (xN 8))) (xN 9))) (xTOr (xT (x2 (oEqD true) (xB (xOwn false a.C_System [a.C_System] [.sh, .sh] (x_System_eq a) (xN 8) (xN 5))) (xN 9))) (xT (x2 (oEqD false) (xB (xOwn true a.C_System [a.C_System] [.sh, .sh] (x_System_eq a) (xN 5) (xN 8))) (xN 9))))) (xRet (xC (.bl false))) xNil))))
  (xFor (xSeqE (xLst (xACons (xV 4) (xACons (xV 3) (xACons (xC .non) (xACons (xC (.str ("" : Str))) (xACons (xC (.int 5)) (xACons (xTup (xACons (xV 3) (xACons (xV 4) xANil))) (xACons (xLst (xACons (xV 5) xANil)) xANil))))))))) (xpN 10) (xSIf (xTOr (xT (x2 (oIs true) (xB (xOwn false a.C_System [a.C_System] [.sh, .sh] (x_System_eq a) (xN 5) (xN 10))) (xB (xC (.bl false))))) (xT (x2 (oIs true) (xB (xOwn true a.C_System [a.C_System] [.sh, .sh] (x_System_eq a) (xN 5) (xN 10))) (xB (xC (.bl true)))))) (xRet (xC (.bl false))) xNil))))))))
  (xRet (xOwn false a.C_System [a.C_System] [.sh, .sh] (x_System_eq a) (xB (xMake a.C_System [.sh, .sh] (x_System_init a) (xMCons (xB (xLst xANil)) (xMCons (xB (xLst xANil)) xMNil)))) (xB (xMake a.C_System [.sh, .sh] (x_System_init a) (xMCons (xB (xLst xANil)) (xMCons (xB (xLst xANil)) xMNil))))))))
theorem k_law (a : Ad) : FnQ [.sh] (m_law a) (x_law a) := by
  unfold m_law x_law b_law
  exact fnQ_of (qSeq (qPutF (qCallF (k_law_pen a) (qMCons (qB (qV 0)) qMNil) rfl))
  (qSeq (qFor (qR1 (qInt _)) (qpN 2) (qSeq (qPut (qpN 3) (q2 pAdd (qB ((qLst (qACons (qStr _) qANil))).e) (qB (qCall (k_law_nyms a) (qMCons (qN 1) (qMCons (qB (qInt _)) qMNil)) rfl))))
  (qSeq (qPut (qpN 4) (qCall (k_law_sorted a) (qMCons (qB (qCall (k_law_gaps a) (qMCons (qN 1) (qMCons (qB (qV 3)) (qMCons (qB ((qLst (qACons (qCall (k_law_goal a) (qMCons (qN 1) (qMCons (qB (qV 3)) qMNil)) rfl) qANil))).e) (qMCons (qB (qInt _)) qMNil)))) rfl)) qMNil) rfl))
  (qSeq (qPut (qpN 5) ((qMake (k_System_init a) (qMCons (qB (qV 3)) (qMCons (qB (qV 4)) qMNil)) rfl)).e)
  (qSeq (qSIf (qTOr (qT (q2 pIsNot (qB (qOwn (k_System_eq a) (qN 5) (qB ((qMake (k_System_init a) (qMCons (qB (q1F pRev (qN 3)).e) (qMCons (qB (q1F pRev (qN 4)).e) qMNil)) rfl)).e))) (qB (qBl _)))) (qT (q2 pIsNot (qB (qOwn (k_System_eq a) (qN 5) (qB ((qMake (k_System_init a) (qMCons (qB (qV 3)) (qMCons (qB (qV 4)) qMNil)) rfl)).e))) (qB (qBl _))))) (qRet (qBl _)) qNil)
  (qSeq (qFor (qSeqE (qCall (k_law_others a) (qMCons (qB (qV 3)) (qMCons (qB (qV 4)) qMNil)) rfl)) (qpT [6, 7]) (qSeq (qPut (qpN 8) ((qMake (k_System_init a) (qMCons (qB (qV 6)) (qMCons (qB (qV 7)) qMNil)) rfl)).e)
  (qSeq (qPut (qpN 9) (qAnd (q2 (pEqD false) (qB ((qb1F pSorted (qN 6))).e) (qB ((qb1F pSorted (qN 3))).e)) (q2 (pEqD false) (qB (qCall (k_law_sorted a) (qMCons (qB (qV 7)) qMNil) rfl)) (qN 4))))
  (qSIf (qTOr (qT (q2 (pEqD true) (qB (qOwn (k_System_eq a) (qN 5) (qN 8))) (qN 9))) (qTOr (qT (q2 (pEqD true) (qB (qOwn (k_System_eq a) (qN 8) (qN 5))) (qN 9))) (qT (q2 (pEqD false) (qB (qOwn (k_System_eq a) (qN 5) (qN 8))) (qN 9))))) (qRet (qBl _)) qNil))))
  (qFor (qSeqE ((qLst (qACons (qV 4) (qACons (qV 3) (qACons qNon (qACons (qStr _) (qACons (qInt _) (qACons (qTup (qACons (qV 3) (qACons (qV 4) qANil))) (qACons ((qLst (qACons (qV 5) qANil))).e qANil))))))))).e) (qpN 10) (qSIf (qTOr (qT (q2 pIsNot (qB (qOwn (k_System_eq a) (qN 5) (qN 10))) (qB (qBl _)))) (qT (q2 pIsNot (qB (qOwn (k_System_eq a) (qN 5) (qN 10))) (qB (qBl _))))) (qRet (qBl _)) qNil))))))))
  (qRet (qOwn (k_System_eq a) (qB ((qMake (k_System_init a) (qMCons (qB ((qLst qANil)).e) (qMCons (qB ((qLst qANil)).e) qMNil)) rfl)).e) (qB ((qMake (k_System_init a) (qMCons (qB ((qLst qANil)).e) (qMCons (qB ((qLst qANil)).e) qMNil)) rfl)).e)))))
end WS

set_option Elab.async false
set_option linter.all false
set_option maxRecDepth 100000
/-! The law's pen, on trees. -/
namespace WS
open PySem PySem.Spec PyProof.Rows L2
open Classical
theorem cmul_l {i j : Int} (h : -18446744073709551616 < i) (h2 : i < 18446744073709551616) : CMul i j := .inl ⟨h, h2⟩
theorem cmul_r {i j : Int} (h : -18446744073709551616 < j) (h2 : j < 18446744073709551616) : CMul i j := .inr ⟨h, h2⟩
theorem ix0 {n : Nat} : ixE (n + 1) 0 = some 0 := ix_nat (k := 0) (by omega)
theorem ix1 {n : Nat} : ixE (n + 2) 1 = some 1 := ix_nat (k := 1) (by omega)
theorem ix2 {n : Nat} : ixE (n + 3) 2 = some 2 := ix_nat (k := 2) (by omega)
@[simp] theorem ix0' : ixE 1 0 = some 0 := ix0
@[simp] theorem ix02 : ixE 2 0 = some 0 := ix0
@[simp] theorem ix12 : ixE 2 1 = some 1 := ix1
@[simp] theorem ix03 : ixE 3 0 = some 0 := ix0
@[simp] theorem ix13 : ixE 3 1 = some 1 := ix1
@[simp] theorem ix23 : ixE 3 2 = some 2 := ix2
theorem toDXs_map {α : Type} {f : α → XV} {g : α → PyData} {n : Nat} : ∀ {l : List α}, (∀ x ∈ l, toDX (f x) n = some (g x)) → toDXs (l.map f) n = some (l.map g)
  | [], _ => rfl
  | x :: l, h => by
    rw [List.map_cons, List.map_cons]
    unfold toDXs
    rw [h x List.mem_cons_self, toDXs_map fun y hy => h y (List.mem_cons_of_mem _ hy)]
@[simp] theorem toDX_int {i : Int} {n : Nat} : toDX (.int i) n = some (.int i) := by unfold toDX; rfl
@[simp] theorem toDX_str {i : Str} {n : Nat} : toDX (.str i) n = some (.str i) := by unfold toDX; rfl
@[simp] theorem toDX_non {n : Nat} : toDX .non n = some .none := by unfold toDX; rfl
@[simp] theorem toDX_bl {i : Bool} {n : Nat} : toDX (.bl i) n = some (.bool i) := by unfold toDX; rfl
theorem toDX_lst {ts : List XV} {ds : List PyData} {n : Nat} (h : toDXs ts n = some ds) : toDX (.lst ts) (n + 1) = some (.list ds) := by unfold toDX; dsimp only; rw [h]; rfl
theorem toDX_tup {ts : List XV} {ds : List PyData} {n : Nat} (h : toDXs ts n = some ds) : toDX (.tup ts) (n + 1) = some (.tuple ds) := by unfold toDX; dsimp only; rw [h]; rfl
theorem oEqD_of {neg : Bool} {t s : XV} {d e : PyData} (h1 : datX t = some d) (h2 : datX s = some e) (h3 : SeqAt.shaped d = true) (h4 : SeqAt.shaped e = true) : oEqD neg t s = some (.bl (if neg = true then !PyData.eqv d e else PyData.eqv d e)) := by
  unfold oEqD
  rw [h1, h2]
  dsimp only
  rw [if_pos ⟨h3, h4⟩]
theorem oEqD_int {neg : Bool} {i j : Int} : oEqD neg (.int i) (.int j) = some (.bl (neg ^^ decide (i = j))) := by
  rw [oEqD_of (d := .int i) (e := .int j) toDX_int toDX_int rfl rfl]
  by_cases h : i = j <;> cases neg <;> simp [PyData.eqv, h]
theorem dat_ints {l : List Int} : datX (.lst (l.map .int)) = some (.list (l.map .int)) := toDX_lst (toDXs_map fun _ _ => toDX_int)
theorem shaped_ints (l : List Int) : SeqAt.shaped (.list (l.map .int)) = true := by
  have h1 : ∀ l : List Int, PyData.canLayAll0 (l.map .int) = true := by
    intro l
    induction l with
    | nil => rfl
    | cons i l ih => simp [PyData.canLayAll0, PyData.canLay0, ih]
  have h2 : ∀ l : List Int, PyData.depthAll (l.map .int) = 0 := PySem.W.depth_ints
  unfold SeqAt.shaped
  simp [PyData.canLay0, PyData.depth, h1, h2]
theorem eqv_none (l : List Int) : PyData.eqv (.list (l.map PyData.int)) (.list (([] : List Int).map PyData.int)) = l.isEmpty := by cases l <;> simp [PyData.eqv, PyData.eqvAll]
/-- the pen behind n draws at most -/
def PenX (t : XV) (n : Int) : Prop := ∃ (i v : Int) (cells : List Int), t = .lst [.lst (cells.map .int), .int i, .int v] ∧ cells.length ≤ 60 ∧ 0 ≤ i ∧ i ≤ n ∧ 0 ≤ v
theorem PenX.le {t : XV} {n m : Int} (h : PenX t n) (a : n ≤ m) : PenX t m := by
  obtain ⟨i, v, cells, h1, h2, h3, h4, h5⟩ := h
  exact ⟨i, v, cells, h1, h2, h3, by omega, h5⟩
@[simp] theorem xSto_ap {i : Nat} {f : XE} {gi : XB} {τ : XSt} : xSto i f gi τ = xThen (f τ) fun u τ1 => (match muArg τ1 i with
  | none => .bad
  | some _ => xThen (gi τ1) fun b τ2 => match muArg τ2 i, resB τ2 b with
    | some t, some ti => (match putX t ti u with
      | some t' => .nx (updS τ2 i t')
      | none => .bad)
    | _, _ => .bad) := (rfl)
theorem putX_nat {ts : List XV} {k : Nat} {u : XV} (h : k < ts.length) : putX (.lst ts) (.int (k : Int)) u = some (.lst (ts.set k u)) := by
  unfold putX
  dsimp only
  rw [ix_nat h]
  rfl
theorem putX_0 {t u : XV} {ts : List XV} : putX (.lst (t :: ts)) (.int 0) u = some (.lst (u :: ts)) := putX_nat (k := 0) (by simp)
theorem putX_1 {t t1 u : XV} {ts : List XV} : putX (.lst (t :: t1 :: ts)) (.int 1) u = some (.lst (t :: u :: ts)) := putX_nat (k := 1) (by simp)
theorem putX_2 {t t1 t2 u : XV} {ts : List XV} : putX (.lst (t :: t1 :: t2 :: ts)) (.int 2) u = some (.lst (t :: t1 :: u :: ts)) := putX_nat (k := 2) (by simp)
theorem cmK {i j : Int} (h : -18446744073709551616 < j ∧ j < 18446744073709551616) : CMul i j := .inr h
theorem cmM1 (a b : Int) : CMul (a % 2147483587) b := by
  have := Int.emod_nonneg a (b := 2147483587) (by decide)
  have := Int.emod_lt_of_pos a (b := 2147483587) (by decide)
  exact cmul_l (by omega) (by omega)
theorem cmM2 (a b : Int) : CMul (a % 2147483563) b := by
  have := Int.emod_nonneg a (b := 2147483563) (by decide)
  have := Int.emod_lt_of_pos a (b := 2147483563) (by decide)
  exact cmul_l (by omega) (by omega)
def mixX (z i : Int) : Int := (z % 2147483587 + i * 50069 + 61) % 2147483587
def mixY (z i : Int) : Int := (mixX z i * mixX z i + i * 40013 + 43) % 2147483563
def mixW (z i : Int) : Int := (mixY z i * mixY z i + mixX z i + i * i * 19) % 2147483549
def mix (z i : Int) : Int := (mixW z i * 2147483587 + mixY z i) * 2147483563 + mixX z i
theorem mix_0 (z i : Int) : 0 ≤ mix z i := by
  have h1 : 0 ≤ mixX z i := Int.emod_nonneg _ (by decide)
  have h2 : 0 ≤ mixY z i := Int.emod_nonneg _ (by decide)
  have h3 : 0 ≤ mixW z i := Int.emod_nonneg _ (by decide)
  unfold mix
  omega
theorem next_q (a : Ad) {p : XV} {n : Int} (h : PenX p n) (hn : n < 1000000000) : ∃ z p', x_law_next a [p] = .ok (.int z) false [p'] ∧ 0 ≤ z ∧ PenX p' (n + 1) := by
  obtain ⟨i, v, cells, rfl, h2, h3, h4, h5⟩ := h
  have c4 : CMul i i := cmul_r (by omega) (by omega)
  have c10 : CPow 10 18 := ⟨by decide, by decide, by decide⟩
  have k1 : ∀ a : Int, CMul a 1061 := fun a => cmK (by decide)
  have k2 : ∀ a : Int, CMul a 50069 := fun a => cmK (by decide)
  have k3 : ∀ a : Int, CMul a 40013 := fun a => cmK (by decide)
  have k4 : ∀ a : Int, CMul a 19 := fun a => cmK (by decide)
  have k5 : ∀ a : Int, CMul a 2147483587 := fun a => cmK (by decide)
  have k6 : ∀ a : Int, CMul a 2147483563 := fun a => cmK (by decide)
  have fin : PenX (.lst [.lst (cells.map .int), .int (i + 1), .int v]) (n + 1) := ⟨i + 1, v, cells, rfl, h2, by omega, by omega, h5⟩
  have e0 : oEqD true (.lst (cells.map .int)) (.lst []) = some (.bl (!cells.isEmpty)) := by
    have := oEqD_of (neg := true) dat_ints (dat_ints (l := [])) (shaped_ints cells) (shaped_ints [])
    rw [eqv_none] at this
    exact this
  unfold x_law_next
  rw [xfn_ap]
  by_cases c0 : cells = []
  · subst c0
    refine ⟨mix (i * 1061 + 37) i, _, ?_, mix_0 _ _, fin⟩
    have ni : ¬ i < 0 := by omega
    have e0 : oEqD true (.lst []) (.lst []) = some (.bl false) := e0
    simp [putX_1, e0, k1, k2, k3, k4, k5, k6, c4, c10, cmM1, cmM2, ni, mix, mixX, mixY, mixW]
  · have lp : 0 < cells.length := List.length_pos_iff.mpr c0
    have e1 : 0 ≤ i % (cells.length : Int) := Int.emod_nonneg _ (by omega)
    have e2 : i % (cells.length : Int) < cells.length := Int.emod_lt_of_pos _ (by omega)
    obtain ⟨k, hk⟩ := Int.eq_ofNat_of_zero_le e1
    rw [hk] at e2
    have hk2 : k < cells.length := by omega
    have ne : cells.isEmpty = false := by cases cells with
      | nil => exact (c0 rfl).elim
      | cons _ _ => rfl
    have lpi : (0 : Int) < cells.length := by omega
    by_cases c1 : i < (cells.length : Int)
    · by_cases c2 : (1000000000000000000 : Int) ≤ cells[k]
      · refine ⟨cells[k], _, ?_, by omega, fin⟩
        simp [putX_1, e0, ne, k1, lp, hk, ix_nat hk2, hk2, c1, c10, c2]
      · refine ⟨mix cells[k] i, _, ?_, mix_0 _ _, fin⟩
        simp [putX_1, e0, ne, k1, lp, hk, ix_nat hk2, hk2, c1, c10, c2, k2, k3, k4, k5, k6, c4, cmM1, cmM2, mix, mixX, mixY, mixW]
    · refine ⟨mix cells[k] i, _, ?_, mix_0 _ _, fin⟩
      simp [putX_1, e0, ne, k1, lp, hk, ix_nat hk2, hk2, c1, c10, k2, k3, k4, k5, k6, c4, cmM1, cmM2, mix, mixX, mixY, mixW]
end WS

set_option Elab.async false
set_option linter.all false
set_option maxRecDepth 100000
/-! Comprehensions and loops on trees; draws and choices. -/
namespace WS
open PySem PySem.Spec PyProof.Rows L2
open Classical
section
variable {α β : Type} {τ τ0 τ1 : XSt} {own vs1 : List Nat} {put put1 : XPut} {t t1 : XT} {e fk fv : XE}
@[simp] theorem xEl_ap : xEl t e τ = (noE (t τ)).bind fun b τ2 => if b = true then (noE (e τ2)).bind fun v τ3 => .ok (some v) τ3 else .ok none τ2 := (rfl)
@[simp] theorem xElD_ap : xElD t fk fv τ = (noE (t τ)).bind fun b τ2 => if b = true then (noE (fk τ2)).bind fun k τ3 => (noE (fv τ3)).bind fun v τ4 => .ok (some (k, v)) τ4 else .ok none τ2 := (rfl)
@[simp] theorem xLc_ap {fi : XI} : xLc own fi put t e τ = (fi τ).bind fun ts τ1 => xLcT own put t e ts τ1 := (rfl)
@[simp] theorem xDc_ap {fi : XI} : xDc own fi put t fk fv τ = (fi τ).bind fun ts τ1 => xDcT own put t fk fv ts τ1 := (rfl)
@[simp] theorem xLc2_ap {fi fi1 : XI} : xLc2 own vs1 fi put t fi1 put1 t1 e τ = (fi τ).bind fun ts τ1 => xLc2T own vs1 put t fi1 put1 t1 e ts τ1 := (rfl)
@[simp] theorem xwipe_0 : xwipe τ [] = τ := (rfl)
@[simp] theorem xwipe_c {i : Nat} {r : List Nat} : xwipe τ (i :: r) = (xwipe τ r).set i none := (rfl)
@[simp] theorem NoMu_0 : NoMu [] τ := fun _ h => by cases h
@[simp] theorem NoMu_c {i : Nat} {r : List Nat} : NoMu (i :: r) τ ↔ muO τ[i]? = false ∧ NoMu r τ := by
  unfold NoMu
  simp
theorem lcGo_inv {ts : List XV} {acc : List XV} (I : Nat → XSt → List XV → Prop) (h0 : I 0 τ acc)
    (step : ∀ i x τ acc, ts[i]? = some x → I i τ acc → ∃ τ1 τ2 o, put x τ = some τ1 ∧ xEl t e τ1 = .ok o τ2 ∧ I (i + 1) (xwipe τ2 own) (addO acc o)) : ∃ τ' acc', xLcGo own put t e ts τ acc = .ok acc' τ' ∧ I ts.length τ' acc' := by
  have go : ∀ (ys : List XV) (i : Nat) (τ : XSt) (acc : List XV), ts.drop i = ys → i ≤ ts.length → I i τ acc → ∃ τ' acc', xLcGo own put t e ys τ acc = .ok acc' τ' ∧ I ts.length τ' acc' := by
    intro ys
    induction ys with
    | nil =>
      intro i τ acc e1 hi h
      have : i = ts.length := by
        have := congrArg List.length e1
        rw [List.length_drop] at this
        simp at this
        omega
      subst this
      exact ⟨τ, acc, rfl, h⟩
    | cons x ys ih =>
      intro i τ acc e1 hi h
      have hi' : i < ts.length := by
        have := congrArg List.length e1
        rw [List.length_drop, List.length_cons] at this
        omega
      rw [List.drop_eq_getElem_cons hi'] at e1
      injection e1 with e1 e2
      have ex : ts[i]? = some x := by rw [List.getElem?_eq_getElem hi', e1]
      obtain ⟨τ1, τ2, o, h1, h2, h3⟩ := step i x τ acc ex h
      unfold xLcGo
      rw [h1]
      dsimp only
      rw [h2]
      exact ih (i + 1) _ _ e2 hi' h3
  exact go ts 0 τ acc rfl (Nat.zero_le _) h0
theorem lcGo_fm {f : α → XV} (g : α → Option XV) : ∀ {l : List α} {acc : List XV}, (∀ x ∈ l, ∃ τ1 τ2, put (f x) τ = some τ1 ∧ xEl t e τ1 = .ok (g x) τ2 ∧ xwipe τ2 own = τ) → xLcGo own put t e (l.map f) τ acc = .ok (acc ++ l.filterMap g) τ
  | [], acc, _ => by simp [xLcGo]
  | x :: l, acc, h => by
    obtain ⟨τ1, τ2, h1, h2, h3⟩ := h x List.mem_cons_self
    rw [List.map_cons]
    unfold xLcGo
    rw [h1]
    dsimp only
    rw [h2]
    dsimp only
    rw [h3, lcGo_fm g fun y hy => h y (List.mem_cons_of_mem _ hy)]
    cases q : g x with
    | none => rw [List.filterMap_cons_none q]; rfl
    | some v => rw [List.filterMap_cons_some q]; simp [addO]
theorem lcT_fm {f : α → XV} (g : α → Option XV) {l : List α} (hl : l.length ≤ 1000) (nm : NoMu own τ) (hw : xwipe τ own = τ) (h : ∀ x ∈ l, ∃ τ1 τ2, put (f x) τ = some τ1 ∧ xEl t e τ1 = .ok (g x) τ2 ∧ xwipe τ2 own = τ) : xLcT own put t e (l.map f) τ = .ok (.lst (l.filterMap g)) τ := by
  unfold xLcT
  rw [if_pos ⟨by rw [List.length_map]; exact sz hl, nm⟩, hw, lcGo_fm g h]
  dsimp only
  rw [List.nil_append, if_pos (sz (Nat.le_trans (List.length_filterMap_le _ _) hl)), hw]
theorem lcT_map {f : α → XV} (g : α → XV) {l : List α} (hl : l.length ≤ 1000) (nm : NoMu own τ) (hw : xwipe τ own = τ) (h : ∀ x ∈ l, ∃ τ1 τ2, put (f x) τ = some τ1 ∧ xEl t e τ1 = .ok (some (g x)) τ2 ∧ xwipe τ2 own = τ) : xLcT own put t e (l.map f) τ = .ok (.lst (l.map g)) τ := by
  rw [lcT_fm (fun x => some (g x)) hl nm hw h]
  congr 2
  rw [List.filterMap_eq_map']
theorem lcN_fm {i : Nat} {f : α → XV} (g : α → Option XV) {l : List α} (hl : l.length ≤ 1000) (h0 : τ[i]? = some none) (h : ∀ x ∈ l, xEl t e (τ.set i (some (.sh (f x)))) = .ok (g x) (τ.set i (some (.sh (f x))))) : xLcT [i] (xpN i) t e (l.map f) τ = .ok (.lst (l.filterMap g)) τ := by
  have hi : i < τ.length := (List.getElem?_eq_some_iff.mp h0).1
  have back : ∀ s, (τ.set i s).set i none = τ := fun s => by
    rw [List.set_set]
    apply List.ext_getElem?
    intro j
    by_cases c : j = i
    · subst c; rw [List.getElem?_set_self hi, h0]
    · rw [List.getElem?_set_ne (Ne.symm c)]
  refine lcT_fm g hl ?_ ?_ fun x hx => ⟨τ.set i (some (.sh (f x))), τ.set i (some (.sh (f x))), ?_, h x hx, by rw [xwipe_c, xwipe_0]; exact back _⟩
  · simp [h0]
  · have := back none
    rw [List.set_set] at this
    simpa using this
  · unfold xpN setN
    rw [if_pos ⟨hi, by rw [h0]; rfl⟩]
theorem lcN_map {i : Nat} {f : α → XV} (g : α → XV) {l : List α} (hl : l.length ≤ 1000) (h0 : τ[i]? = some none) (h : ∀ x ∈ l, xEl t e (τ.set i (some (.sh (f x)))) = .ok (some (g x)) (τ.set i (some (.sh (f x))))) : xLcT [i] (xpN i) t e (l.map f) τ = .ok (.lst (l.map g)) τ := by
  rw [lcN_fm (fun x => some (g x)) hl h0 h]
  congr 2
  rw [List.filterMap_eq_map']
def NxI (P : XSt → Prop) : XRS → Prop
  | .nx τ => P τ
  | .ct τ => P τ
  | _ => False
@[simp] theorem NxI_nx {P : XSt → Prop} : NxI P (.nx τ) = P τ := (rfl)
@[simp] theorem NxI_ct {P : XSt → Prop} : NxI P (.ct τ) = P τ := (rfl)
theorem forGo_inv2 {body : XS} {ts : List XV} (I : Nat → XSt → Prop) (h0 : I 0 τ) (step : ∀ i x τ, ts[i]? = some x → I i τ → ∃ τ1, put x τ = some τ1 ∧ NxI (I (i + 1)) (body τ1)) : ∃ τ', xForGo put body ts τ = .nx τ' ∧ I ts.length τ' := by
  have go : ∀ (ys : List XV) (i : Nat) (τ : XSt), ts.drop i = ys → i ≤ ts.length → I i τ → ∃ τ', xForGo put body ys τ = .nx τ' ∧ I ts.length τ' := by
    intro ys
    induction ys with
    | nil =>
      intro i τ e1 hi h
      have : i = ts.length := by
        have := congrArg List.length e1
        rw [List.length_drop] at this
        simp at this
        omega
      subst this
      exact ⟨τ, rfl, h⟩
    | cons x ys ih =>
      intro i τ e1 hi h
      have hi' : i < ts.length := by
        have := congrArg List.length e1
        rw [List.length_drop, List.length_cons] at this
        omega
      rw [List.drop_eq_getElem_cons hi'] at e1
      injection e1 with e1 e2
      have ex : ts[i]? = some x := by rw [List.getElem?_eq_getElem hi', e1]
      obtain ⟨τ1, h1, h2⟩ := step i x τ ex h
      unfold xForGo
      rw [h1]
      dsimp only
      cases q : body τ1 with
      | nx τ2 => rw [q] at h2; exact ih (i + 1) _ e2 hi' h2
      | ct τ2 => rw [q] at h2; exact ih (i + 1) _ e2 hi' h2
      | bk τ2 => rw [q] at h2; exact h2.elim
      | rt t fr τ2 => rw [q] at h2; exact h2.elim
      | err C fs τ2 => rw [q] at h2; exact h2.elim
      | bad => rw [q] at h2; exact h2.elim
  exact go ts 0 τ rfl (Nat.zero_le _) h0
theorem for_seq {body g : XS} {ts : List XV} {P : XRS → Prop} (I : Nat → XSt → Prop) (h0 : I 0 τ) (step : ∀ i x τ, ts[i]? = some x → I i τ → ∃ τ1, put x τ = some τ1 ∧ NxI (I (i + 1)) (body τ1)) (fin : ∀ τ', I ts.length τ' → P (g τ')) : P ((xForGo put body ts τ).seq g) := by
  obtain ⟨τ', e, h⟩ := forGo_inv2 I h0 step
  rw [e]
  exact fin τ' h
theorem forGo_inv {body : XS} {ts : List XV} (I : Nat → XSt → Prop) (h0 : I 0 τ) (step : ∀ i x τ, ts[i]? = some x → I i τ → ∃ τ1 τ2, put x τ = some τ1 ∧ body τ1 = .nx τ2 ∧ I (i + 1) τ2) : ∃ τ', xForGo put body ts τ = .nx τ' ∧ I ts.length τ' := by
  have go : ∀ (ys : List XV) (i : Nat) (τ : XSt), ts.drop i = ys → i ≤ ts.length → I i τ → ∃ τ', xForGo put body ys τ = .nx τ' ∧ I ts.length τ' := by
    intro ys
    induction ys with
    | nil =>
      intro i τ e1 hi h
      have : i = ts.length := by
        have := congrArg List.length e1
        rw [List.length_drop] at this
        simp at this
        omega
      subst this
      exact ⟨τ, rfl, h⟩
    | cons x ys ih =>
      intro i τ e1 hi h
      have hi' : i < ts.length := by
        have := congrArg List.length e1
        rw [List.length_drop, List.length_cons] at this
        omega
      rw [List.drop_eq_getElem_cons hi'] at e1
      injection e1 with e1 e2
      have ex : ts[i]? = some x := by rw [List.getElem?_eq_getElem hi', e1]
      obtain ⟨τ1, τ2, h1, h2, h3⟩ := step i x τ ex h
      unfold xForGo
      rw [h1]
      dsimp only
      rw [h2]
      exact ih (i + 1) _ e2 hi' h3
  exact go ts 0 τ rfl (Nat.zero_le _) h0
@[simp] theorem xFor_ap {fi : XI} {body : XS} : xFor fi put body τ = xThen (fi τ) fun ts τ1 => xForGo put body ts τ1 := (rfl)
def ofS (τ : XSt) : Option (List XV) → XR (List XV)
  | some ts => .ok ts τ
  | none => .bad
@[simp] theorem ofS_some {ts : List XV} : ofS τ (some ts) = .ok ts τ := (rfl)
@[simp] theorem xSeqE_ap {f : XE} : xSeqE f τ = (f τ).bind fun t τ1 => ofS τ1 (asSeq t) := by
  unfold xSeqE
  cases f τ with
  | ok a τ1 => simp only [XR.bind_ok]; unfold ofI ofS; cases asSeq a <;> rfl
  | err _ _ _ => rfl
  | bad => rfl
def sqN (i : Nat) (τ : XSt) : Option (Option Slot) → XR (List XV)
  | some (some (.bo t)) => ofS τ (asSeq t)
  | some (some (.sh t)) => ofS τ (asSeq t)
  | some (some (.ow t)) => ofS (τ.set i (some (.sh t))) (asSeq t)
  | _ => .bad
@[simp] theorem xSeqN_ap {i : Nat} : xSeqN i τ = sqN i τ τ[i]? := by
  unfold xSeqN sqN
  cases q : τ[i]? with
  | none => simp [q, rdV, XR.bind]
  | some o => cases o with
    | none => simp [q, rdV, XR.bind]
    | some s => cases s <;> simp [q, rdV, XR.bind, ofI, ofS] <;> (rename_i t; cases asSeq t <;> rfl)
@[simp] theorem sqN_bo {i : Nat} {x : XV} : sqN i τ (some (some (.bo x))) = ofS τ (asSeq x) := (rfl)
@[simp] theorem sqN_sh {i : Nat} {x : XV} : sqN i τ (some (some (.sh x))) = ofS τ (asSeq x) := (rfl)
@[simp] theorem sqN_ow {i : Nat} {x : XV} : sqN i τ (some (some (.ow x))) = ofS (τ.set i (some (.sh x))) (asSeq x) := (rfl)
noncomputable def rg1 (τ : XSt) : Option Int → XR (List XV)
  | some j => if In62 j then .ok (rngX 0 j.toNat) τ else .bad
  | none => .bad
@[simp] theorem xR1_ap {f : XE} : xR1 f τ = (f τ).bind fun t τ1 => rg1 τ1 (asInt t) := by
  exact (rfl)
theorem in62 {n : Nat} (h : n < 1000000) : In62 (n : Int) := ⟨by omega, by omega⟩
theorem rg1_nat {n : Nat} (h : n < 1000000) : rg1 τ (some (n : Int)) = .ok (rngX 0 n) τ := by
  unfold rg1
  dsimp only
  rw [if_pos (in62 h)]
  rfl
theorem rng_len {i : Int} {n : Nat} : (rngX i n).length = n := by unfold rngX; simp
theorem rng_map {n : Nat} : rngX 0 n = (List.range n).map fun (k : Nat) => XV.int k := by unfold rngX; simp
theorem rng_get {n i : Nat} (h : i < n) : (rngX 0 n)[i]? = some (.int i) := by
  rw [rng_map, List.getElem?_map, List.getElem?_range h]
  rfl
def mtK (i : Nat) (o : MX) (args : List XV) (τ1 : XSt) : Option XV → XR XV
  | some (.lst ts) => (match o ts args with
      | some (ts', r) => .ok r (updS τ1 i (.lst ts'))
      | none => .bad)
  | _ => .bad
def mtS : Option XV → XR XV → XR XV
  | some (.lst _), r => r
  | _, _ => .bad
@[simp] theorem xMt_ap {i : Nat} {o : MX} {g : XA} : xMt i o g τ = mtS (muArg τ i) ((g τ).bind fun args τ1 => mtK i o args τ1 (muArg τ1 i)) := by
  unfold xMt mtS
  cases muArg τ i with
  | none => rfl
  | some t => cases t <;> rfl
@[simp] theorem mtS_l {ts : List XV} {r : XR XV} : mtS (some (.lst ts)) r = r := (rfl)
def mtR (i : Nat) (τ1 : XSt) : Option (List XV × XV) → XR XV
  | some p => .ok p.2 (updS τ1 i (.lst p.1))
  | none => .bad
@[simp] theorem mtK_l {i : Nat} {o : MX} {args ts : List XV} : mtK i o args τ (some (.lst ts)) = mtR i τ (o ts args) := by
  unfold mtK mtR
  dsimp only
  cases o ts args <;> rfl
@[simp] theorem mtR_some {i : Nat} {p : List XV × XV} : mtR i τ (some p) = .ok p.2 (updS τ i (.lst p.1)) := (rfl)
theorem oApp_ok {ts : List XV} {y : XV} (h : ts.length < 1000) : oApp ts [y] = some (ts ++ [y], .non) := if_pos (Nat.lt_of_lt_of_le h (sz (Nat.le_refl _)))
theorem oPopAt_ok {ts : List XV} {d : Nat} (h : d < ts.length) (hz : ts.length < 1000000) : oPopAt ts [.int d] = some (ts.eraseIdx d, ts[d]) := by
  unfold oPopAt
  dsimp only
  rw [if_pos ⟨by omega, by omega⟩, (L2.ixN_seq (ix_nat h)).1]
  dsimp only
  rw [List.getElem?_eq_getElem h]
end
/-! draws -/
theorem draw_q (a : Ad) {p : XV} {n u : Int} (h : PenX p n) (hn : n < 1000000000) (hu : 0 < u) (hu2 : u < 1073741824) : ∃ (d : Nat) (p' : XV), x_law_draw a [p, .int u] = .ok (.int d) false [p'] ∧ (d : Int) < u ∧ PenX p' (n + 1) := by
  have h0 := h
  obtain ⟨i, v, cells, rfl, h2, h3, h4, h5⟩ := h
  have cd : ∀ a, CDiv a u := fun a => ⟨hu, hu2⟩
  unfold x_law_draw
  rw [xfn_ap]
  by_cases c : v < u
  · obtain ⟨z, p', e1, z0, pn⟩ := next_q a h0 hn
    obtain ⟨i', v', cells', rfl, g2, g3, g4, g5⟩ := pn
    obtain ⟨d, hd⟩ := Int.eq_ofNat_of_zero_le (Int.emod_nonneg z (Int.ne_of_gt hu))
    have := Int.emod_lt_of_pos z hu
    refine ⟨d, _, ?_, by omega, i', z / u, cells', rfl, g2, g3, g4, Int.ediv_nonneg z0 (by omega)⟩
    simp [c, e1, putX_2, hu, cd, hd]
  · obtain ⟨d, hd⟩ := Int.eq_ofNat_of_zero_le (Int.emod_nonneg v (Int.ne_of_gt hu))
    have := Int.emod_lt_of_pos v hu
    refine ⟨d, _, ?_, by omega, i, v / u, cells, rfl, h2, h3, by omega, Int.ediv_nonneg h5 (by omega)⟩
    simp [c, putX_2, hu, cd, hd]
theorem cutX_upto {ts : List XV} {k : Nat} : cutX ts none (some (k : Int)) = ts.take k := by
  unfold cutX
  rw [HT.sIx_none, HT.sIx_nat, List.drop_zero, Nat.sub_zero, Nat.min_def]
  split
  · rfl
  · rw [List.take_of_length_le (Nat.le_refl _), List.take_of_length_le (by omega)]
theorem pen_q (a : Ad) (ns : List Int) : ∃ p, x_law_pen a [.sl ns] = .ok p true [] ∧ PenX p 0 := by
  refine ⟨.lst [.lst ((ns.take 60).map .int), .int 0, .int 0], ?_, 0, 0, ns.take 60, rfl, by simp; omega, by omega, by omega, by omega⟩
  unfold x_law_pen
  rw [xfn_ap]
  have e : cutX (ns.map XV.int) none (some 60) = (ns.map .int).take 60 := by
    rw [show (60 : Int) = ((60 : Nat) : Int) from rfl, cutX_upto]
  have l : min 60 ns.length ≤ sizeLine := sz (by omega)
  simp [xSlc, xoNone, xoSome, oSlc, oList, asSeqL, e, l]
theorem eraseIdx_perm {α : Type} : ∀ {l : List α} {k : Nat} (h : k < l.length), (l[k] :: l.eraseIdx k).Perm l
  | x :: l, 0, h => by simp
  | x :: l, k + 1, h => by
    have ih := eraseIdx_perm (l := l) (k := k) (by simpa using h)
    simp only [List.getElem_cons_succ, List.eraseIdx_cons_succ]
    exact (List.Perm.swap x _ _).trans (ih.cons x)
/-- what is chosen of a pool -/
theorem some_q (a : Ad) {p pool : XV} {n most : Int} {xs : List XV} (h : PenX p n) (hs : asSeqL pool = some xs) (hz : xs.length ≤ 1000) (hm : 0 ≤ most) (hm2 : most ≤ 1000) (hn : n + most < 900000000) :
    ∃ (ys rest : List XV) (p' : XV), x_law_some a [p, pool, .int most] = .ok (.lst ys) true [p'] ∧ (ys ++ rest).Perm xs ∧ (ys.length : Int) ≤ most ∧ PenX p' (n + 1 + most) := by
  obtain ⟨d, p1, e1, hd, pn1⟩ := draw_q a (u := (if (xs.length : Int) < most then (xs.length : Int) else most) + 1) h (by omega) (by split <;> omega) (by split <;> omega)
  have hd' : d ≤ xs.length ∧ (d : Int) ≤ most := by split at hd <;> omega
  have lst : oList pool = some (.lst xs) := by unfold oList; rw [hs, Option.bind_some, if_pos (sz hz)]
  unfold x_law_some
  rw [xfn_ap]
  have key := lcGo_inv (own := [4]) (put := xpN 4) (t := xTYes) (e := xMt 3 oPopAt (xACons (xCall [.mu, .sh] (x_law_draw a) (xMCons (xN 0) (xMCons (xB (x1 oLen (xN 3))) xMNil))) xANil)) (ts := rngX 0 d) (τ := [some (.mu p1), some (.sh pool), some (.sh (.int most)), some (.ow (.lst xs)), none]) (acc := [])
    (fun i τ acc => ∃ left p2, τ = [some (.mu p2), some (.sh pool), some (.sh (.int most)), some (.ow (.lst left)), none] ∧ (acc ++ left).Perm xs ∧ acc.length = i ∧ PenX p2 (n + 1 + i)) ⟨xs, p1, rfl, by simp, rfl, by simpa using pn1⟩ (by
      rintro i x τ acc hx ⟨left, p2, rfl, l2, l3, pn2⟩
      have hi : i < d := by
        have := (List.getElem?_eq_some_iff.mp hx).1
        rw [rng_len] at this
        exact this
      have hlen : acc.length + left.length = xs.length := by rw [← List.length_append]; exact l2.length_eq
      obtain ⟨d2, p3, e3, hd2, pn3⟩ := draw_q a (u := (left.length : Int)) pn2 (by omega) (by omega) (by omega)
      have hk : d2 < left.length := by omega
      refine ⟨[some (.mu p2), some (.sh pool), some (.sh (.int most)), some (.ow (.lst left)), some (.sh x)], [some (.mu p3), some (.sh pool), some (.sh (.int most)), some (.ow (.lst (left.eraseIdx d2))), some (.sh x)], some left[d2], ?_, ?_, left.eraseIdx d2, p3, ?_, ?_, ?_, ?_⟩
      · simp
      · simp [e3, oPopAt_ok hk (by omega)]
      · simp
      · show (acc ++ [left[d2]] ++ left.eraseIdx d2).Perm xs
        rw [List.append_assoc]
        exact (List.Perm.append_left acc (eraseIdx_perm hk)).trans l2
      · show (acc ++ [left[d2]]).length = i + 1
        simp [l3]
      · exact pn3.le (by push_cast; omega))
  obtain ⟨τ', ys, e2, left, p2, rfl, l2, l3, pn2⟩ := key
  rw [rng_len] at l3 pn2
  refine ⟨ys, left, p2, ?_, l2, by omega, pn2.le (by omega)⟩
  have l4 : (rngX 0 d).length ≤ sizeLine := by rw [rng_len]; exact sz (by omega)
  have l5 : ys.length ≤ sizeLine := sz (by omega)
  simp [lst, e1, rg1_nat (show d < 1000000 by omega), xLcT, l4, e2, l5]
end WS

set_option Elab.async false
set_option linter.all false
set_option maxRecDepth 100000
/-! Names, goals, asks drawn. -/
namespace WS
open PySem PySem.Spec PyProof.Rows L2
open Classical
theorem nodup_map {α β : Type} {f : α → β} (inj : ∀ x y, f x = f y → x = y) : ∀ {l : List α}, l.Nodup → (l.map f).Nodup
  | [], _ => List.nodup_nil
  | x :: l, h => by
    rw [List.nodup_cons] at h
    rw [List.map_cons, List.nodup_cons]
    refine ⟨fun z => ?_, nodup_map inj h.2⟩
    obtain ⟨y, hy, e⟩ := List.mem_map.mp z
    exact h.1 (by rw [← inj _ _ e]; exact hy)
/-! dicts -/
theorem dPutX_new {k v : XV} : ∀ {kvs : List (XV × XV)}, k ∉ kvs.map (·.1) → dPutX kvs k v = kvs ++ [(k, v)]
  | [], _ => rfl
  | p :: r, h => by
    rw [List.map_cons, List.mem_cons, not_or] at h
    unfold dPutX
    rw [if_neg (Ne.symm h.1), dPutX_new h.2]
    rfl
theorem dFoldX_new : ∀ {kvs acc : List (XV × XV)}, ((acc ++ kvs).map (·.1)).Nodup → dFoldX acc kvs = acc ++ kvs
  | [], acc, _ => by unfold dFoldX; simp
  | p :: r, acc, h => by
    unfold dFoldX
    have h1 : p.1 ∉ acc.map (·.1) := by
      rw [List.map_append, List.nodup_append] at h
      intro z
      exact h.2.2 p.1 z p.1 (by simp) rfl
    rw [dPutX_new h1, dFoldX_new (by simpa using h)]
    simp
theorem dGetX_in {k v : XV} : ∀ {kvs : List (XV × XV)}, (kvs.map (·.1)).Nodup → (k, v) ∈ kvs → dGetX kvs k = some v
  | [], _, h => by cases h
  | p :: r, nd, h => by
    rw [List.map_cons, List.nodup_cons] at nd
    unfold dGetX
    rcases List.mem_cons.mp h with z | z
    · subst z; rw [if_pos rfl]
    · rw [if_neg (fun e => nd.1 (by rw [e]; exact List.mem_map.mpr ⟨_, z, rfl⟩)), dGetX_in nd.2 z]
theorem dGetX_out {k : XV} : ∀ {kvs : List (XV × XV)}, k ∉ kvs.map (·.1) → dGetX kvs k = none
  | [], _ => rfl
  | p :: r, h => by
    rw [List.map_cons, List.mem_cons, not_or] at h
    unfold dGetX
    rw [if_neg (Ne.symm h.1), dGetX_out h.2]
theorem pairsX_map : ∀ {kvs : List (XV × XV)}, pairsX (kvs.map fun p => .tup [p.1, p.2]) = some kvs
  | [] => rfl
  | p :: r => by
    rw [List.map_cons]
    unfold pairsX
    rw [pairsX_map]
    rfl
theorem oDict_of {kvs : List (XV × XV)} (hk : leafsX kvs = true ∨ nestsX kvs = true) : oDict (.lst (kvs.map fun p => .tup [p.1, p.2])) = some (.dic (dFoldX [] kvs)) := by
  unfold oDict
  rw [asL_l, Option.bind_some, pairsX_map, Option.bind_some, if_pos hk]
/-! names -/
def strsT (l : List Str) : XV := .lst (l.map .str)
def nine : List Str := ["a", "ab", "b", "c", "none", "x", "abcdefgh", "settings", "zz"]
theorem nine_nd : nine.Nodup := by decide
def unStr : XV → Str
  | .str x => x
  | _ => ("" : Str)
theorem sub_strs {ys rest : List XV} {l : List Str} (h : (ys ++ rest).Perm (l.map XV.str)) (nd : l.Nodup) : ∃ k : List Str, ys = k.map XV.str ∧ k.Nodup ∧ ∀ x ∈ k, x ∈ l := by
  have mem : ∀ y ∈ ys, ∃ x ∈ l, y = .str x := fun y hy => by
    obtain ⟨x, h1, h2⟩ := List.mem_map.mp (h.mem_iff.mp (List.mem_append_left rest hy))
    exact ⟨x, h1, h2.symm⟩
  have back : (ys.map unStr).map XV.str = ys := by
    rw [List.map_map]
    conv => rhs; rw [← List.map_id ys]
    refine List.map_congr_left fun y hy => ?_
    obtain ⟨x, _, e⟩ := mem y hy
    subst e
    rfl
  have n1 : (ys ++ rest).Nodup := h.nodup_iff.mpr (nodup_map (fun _ _ e => (by cases e; rfl)) nd)
  have n2 : ys.Nodup := (List.nodup_append.mp n1).1
  refine ⟨ys.map unStr, back.symm, ?_, fun x hx => ?_⟩
  · rw [← back] at n2
    have := List.pairwise_map.mp n2
    exact this.imp fun h e => h (by rw [e])
  · obtain ⟨y, h1, h2⟩ := List.mem_map.mp hx
    obtain ⟨z, h3, e⟩ := mem y h1
    subst e
    rw [← h2]
    exact h3
theorem mkL_9 {τ : XSt} {a b c d e f g h i : XV} : mkL τ [a, b, c, d, e, f, g, h, i] = .ok (.lst [a, b, c, d, e, f, g, h, i]) τ := mkL_ok (by simp)
theorem nyms_q (a : Ad) {p : XV} {n most : Int} (h : PenX p n) (h0 : 0 ≤ most) (h1 : most ≤ 100) (hn : n < 800000000) : ∃ (l : List Str) (p' : XV), x_law_nyms a [p, .int most] = .ok (strsT l) true [p'] ∧ l.Nodup ∧ (∀ x ∈ l, x ∈ nine) ∧ (l.length : Int) ≤ most ∧ PenX p' (n + 1 + most) := by
  obtain ⟨ys, rest, p', e, pm, hl, pn⟩ := some_q a (pool := .lst (nine.map .str)) (most := most) h rfl (by decide) h0 (by omega) (by omega)
  obtain ⟨l, rfl, nd, ml⟩ := sub_strs pm nine_nd
  refine ⟨l, p', ?_, nd, ml, by simpa using hl, pn⟩
  unfold x_law_nyms
  rw [xfn_ap]
  simp only [nine, List.map_cons, List.map_nil] at e
  simp [mkL_9, e]
  rfl
/-! goals -/
def goalT (ps : List (Str × Int)) : XV := .dic (ps.map fun q => (.str q.1, .int q.2))
theorem leafs_goal (ps : List (Str × Int)) : leafsX (ps.map fun q => (XV.str q.1, XV.int q.2)) = true := by unfold leafsX; simp [List.all_eq_true, isLeafX]
theorem goal_keys {ps : List (Str × Int)} (nd : (ps.map (·.1)).Nodup) : ((ps.map fun q => (XV.str q.1, XV.int q.2)).map (·.1)).Nodup := by
  have : (ps.map fun q => (XV.str q.1, XV.int q.2)).map (·.1) = (ps.map (·.1)).map XV.str := by simp
  rw [this]
  exact nodup_map (fun _ _ z => (by cases z; rfl)) nd
theorem wide_q {w : Nat} (h : w < 4) : ∃ i : Int, ([.int 3, .int 5, .int 11, .int 1801] : List XV)[w]? = some (.int i) ∧ 0 < i ∧ i ≤ 1801 := by
  match w, h with
  | 0, _ => exact ⟨3, rfl, by decide, by decide⟩
  | 1, _ => exact ⟨5, rfl, by decide, by decide⟩
  | 2, _ => exact ⟨11, rfl, by decide, by decide⟩
  | 3, _ => exact ⟨1801, rfl, by decide, by decide⟩
theorem goal_q (a : Ad) {p : XV} {n : Int} {nyms : List Str} (h : PenX p n) (nd : nyms.Nodup) (hz : nyms.length ≤ 500) (hn : n < 800000000) :
    ∃ (ps : List (Str × Int)) (p' : XV), x_law_goal a [p, strsT nyms] = .ok (goalT ps) true [p'] ∧ ps.map (·.1) = nyms ∧ (∀ q ∈ ps, -900 ≤ q.2 ∧ q.2 ≤ 900) ∧ PenX p' (n + 1 + nyms.length) := by
  obtain ⟨d, p1, e1, hd, pn1⟩ := draw_q a (u := 4) h (by omega) (by decide) (by decide)
  obtain ⟨wd, w1, w2, w3⟩ := wide_q (w := d) (by omega)
  have cd : CDiv wd 2 := ⟨by decide, by decide⟩
  unfold x_law_goal
  rw [xfn_ap]
  obtain ⟨τ', acc, e2, ps, p2, rfl, rfl, e4, e5, pn2⟩ := lcGo_inv (own := [3]) (put := xpN 3) (t := xTYes) (e := xTup (xACons (xV 3) (xACons (x2 oSub (xB (xCall [.mu, .sh] (x_law_draw a) (xMCons (xN 0) (xMCons (xB (xV 2)) xMNil)))) (xB (x2 oFdiv (xN 2) (xB (xC (.int 2)))))) xANil))) (ts := nyms.map .str) (τ := [some (.mu p1), some (.sh (strsT nyms)), some (.sh (.int wd)), none]) (acc := [])
    (fun i τ acc => ∃ (ps : List (Str × Int)) (p2 : XV), τ = [some (.mu p2), some (.sh (strsT nyms)), some (.sh (.int wd)), none] ∧ acc = (ps.map fun q => (XV.str q.1, XV.int q.2)).map (fun p => .tup [p.1, p.2]) ∧ ps.map (·.1) = nyms.take i ∧ (∀ q ∈ ps, -900 ≤ q.2 ∧ q.2 ≤ 900) ∧ PenX p2 (n + 1 + i)) ⟨[], p1, rfl, rfl, rfl, (fun _ z => (nomatch z)), by simpa using pn1⟩ (by
      rintro i x τ acc hx ⟨ps, p2, rfl, rfl, q2, q3, pn2⟩
      rw [List.getElem?_map] at hx
      cases qx : nyms[i]? with
      | none => rw [qx] at hx; cases hx
      | some z =>
        rw [qx] at hx
        cases hx
        have hi : i < nyms.length := (List.getElem?_eq_some_iff.mp qx).1
        obtain ⟨d2, p3, e3, hd2, pn3⟩ := draw_q a (u := wd) pn2 (by omega) w2 (by omega)
        refine ⟨[some (.mu p2), some (.sh (strsT nyms)), some (.sh (.int wd)), some (.sh (.str z))], [some (.mu p3), some (.sh (strsT nyms)), some (.sh (.int wd)), some (.sh (.str z))], some (.tup [.str z, .int ((d2 : Int) - wd / 2)]), by simp, by simp [e3, cd], ps ++ [(z, (d2 : Int) - wd / 2)], p3, by simp, by simp [addO], ?_, ?_, pn3.le (by push_cast; omega)⟩
        · rw [List.map_append, q2, List.take_add_one, qx]; rfl
        · intro q hq
          rcases List.mem_append.mp hq with hq | hq
          · exact q3 q hq
          · rw [List.mem_singleton] at hq
            subst hq
            dsimp only
            omega)
  rw [List.length_map] at e4 pn2
  rw [List.take_length] at e4
  have lp : ps.length = nyms.length := by rw [← e4, List.length_map]
  refine ⟨ps, p2, ?_, e4, e5, pn2⟩
  have s1 : nyms.length ≤ sizeLine := sz (by omega)
  have s2 : ps.length ≤ sizeLine := sz (by omega)
  have e6 := oDict_of (kvs := ps.map fun q => (XV.str q.1, XV.int q.2)) (.inl (leafs_goal ps))
  rw [dFoldX_new (by simpa using goal_keys (ps := ps) (by rw [e4]; exact nd))] at e6
  simp only [List.map_map] at e2 e6
  simp only [strsT] at e2
  simp [e1, w1, ix_nat (show d < 4 by omega), strsT, xLcT, s1, e2, s2, e6]
  rfl
end WS

set_option Elab.async false
set_option linter.all false
set_option maxRecDepth 100000
/-! Asks: drawn. -/
namespace WS
open PySem PySem.Spec PyProof.Rows L2
open Classical
abbrev Ask := Option Str × Option Str × Int
def oX : Option Str → XV
  | none => .non
  | some x => .str x
def Ask.x (k : Ask) : XV := .tup [oX k.1, oX k.2.1, .int k.2.2]
def asksT (l : List Ask) : XV := .lst (l.map Ask.x)
theorem isNon_oX (o : Option Str) : isNonX (oX o) = o.isNone := by cases o <;> rfl
def EndOk (nyms : List Str) (o : Option Str) : Prop := ∀ x, o = some x → x ∈ nyms
structure AskOk (nyms : List Str) (k : Ask) : Prop where
  lo : EndOk nyms k.1
  hi : EndOk nyms k.2.1
  ne : k.1 ≠ k.2.1
  g1 : -999 ≤ k.2.2
  g2 : k.2.2 ≤ 999
/-- texts as the data's laws want them -/
def Txs (l : List Str) : Prop := ∀ x ∈ l, PyData.strOk x = true
theorem dat_strs {l : List Str} : datX (strsT l) = some (.list (l.map .str)) := toDX_lst (toDXs_map fun _ _ => toDX_str)
theorem shaped_strs {l : List Str} (h : Txs l) : SeqAt.shaped (.list (l.map .str)) = true := by
  have h1 : ∀ l : List Str, Txs l → PyData.canLayAll0 (l.map .str) = true := by
    intro l
    induction l with
    | nil => exact fun _ => rfl
    | cons i l ih => intro h; simp [PyData.canLayAll0, PyData.canLay0, h i List.mem_cons_self, ih fun x hx => h x (List.mem_cons_of_mem _ hx)]
  have h2 : ∀ l : List Str, PyData.depthAll (l.map .str) = 0 := by
    intro l
    induction l with
    | nil => rfl
    | cons i l ih => simp [PyData.depthAll, PyData.depth, ih]
  unfold SeqAt.shaped
  simp [PyData.canLay0, PyData.depth, h1 l h, h2]
theorem oEqD_strs {neg : Bool} {l m : List Str} (h : Txs l) (h2 : Txs m) : oEqD neg (strsT l) (strsT m) = some (.bl (if neg = true then !PyData.eqv (.list (l.map .str)) (.list (m.map .str)) else PyData.eqv (.list (l.map .str)) (.list (m.map .str)))) := oEqD_of dat_strs dat_strs (shaped_strs h) (shaped_strs h2)
theorem eqv_strs : ∀ (l m : List Str), PyData.eqv (.list (l.map .str)) (.list (m.map .str)) = decide (l = m) := by
  have h : ∀ (l m : List Str), PyData.eqvAll (l.map .str) (m.map .str) = decide (l = m) := by
    intro l
    induction l with
    | nil => intro m; cases m <;> simp [PyData.eqvAll]
    | cons x l ih => intro m; cases m with
      | nil => simp [PyData.eqvAll]
      | cons y m => by_cases c : x = y <;> simp [PyData.eqvAll, PyData.eqv, ih, c]
  intro l m
  simp [PyData.eqv, h]
theorem key_str {kvs : List (XV × XV)} {x : Str} (h : leafsX kvs = true) : KeyOk kvs (.str x) := .inl ⟨rfl, h⟩
theorem dLook_goal {ps : List (Str × Int)} (nd : (ps.map (·.1)).Nodup) {q : Str × Int} (hq : q ∈ ps) : dLookX (ps.map fun q => (.str q.1, .int q.2)) (.str q.1) = some (some (.int q.2)) := by
  unfold dLookX
  rw [if_pos (key_str (leafs_goal ps)), dGetX_in (goal_keys nd) (List.mem_map.mpr ⟨q, hq, rfl⟩)]
theorem oItm_dic {kvs : List (XV × XV)} {k : XV} : oItm (.dic kvs) k = (dLookX kvs k).bind id := rfl
def atG (ps : List (Str × Int)) : Option Str → Int
  | none => 0
  | some x => ((ps.find? fun q => decide (q.1 = x)).map (·.2)).getD 0
theorem find_mem {ps : List (Str × Int)} (nd : (ps.map (·.1)).Nodup) {q : Str × Int} (hq : q ∈ ps) : (ps.find? fun r => decide (r.1 = q.1)) = some q := by
  induction ps with
  | nil => cases hq
  | cons p r ih =>
    rw [List.map_cons, List.nodup_cons] at nd
    rw [List.find?_cons]
    rcases List.mem_cons.mp hq with e | h
    · subst e; simp
    · have : ¬ p.1 = q.1 := fun e => nd.1 (by rw [e]; exact List.mem_map_of_mem h)
      simp only [decide_eq_false this]
      exact ih nd.2 h
theorem at_q (a : Ad) {ps : List (Str × Int)} {o : Option Str} (nd : (ps.map (·.1)).Nodup) (ho : EndOk (ps.map (·.1)) o) : x_law_at a [goalT ps, oX o] = .ok (.int (atG ps o)) false [] := by
  unfold x_law_at
  rw [xfn_ap]
  cases o with
  | none => simp [oX, atG]
  | some x =>
    obtain ⟨q, hq, rfl⟩ := List.mem_map.mp (ho x rfl)
    simp [oX, goalT, oItm_dic, dLook_goal nd hq, atG, find_mem nd hq]
theorem atG_bound {ps : List (Str × Int)} (h : ∀ q ∈ ps, -900 ≤ q.2 ∧ q.2 ≤ 900) (o : Option Str) : -900 ≤ atG ps o ∧ atG ps o ≤ 900 := by
  cases o with
  | none => exact ⟨(by show (-900 : Int) ≤ 0; omega), (by show (0 : Int) ≤ 900; omega)⟩
  | some x =>
    unfold atG
    dsimp only
    cases q : ps.find? fun r => decide (r.1 = x) with
    | none => exact ⟨(by show (-900 : Int) ≤ 0; omega), (by show (0 : Int) ≤ 900; omega)⟩
    | some r => exact h r (List.mem_of_find?_eq_some q)
theorem intsX_map {l : List Int} : intsX (l.map .int) = some l := by
  induction l with
  | nil => rfl
  | cons i l ih => rw [List.map_cons]; unfold intsX; rw [ih]; rfl
theorem oMin_of {l : List Int} (h : l ≠ []) : ∃ m, m ∈ l ∧ (∀ x ∈ l, m ≤ x) ∧ oMin (.lst (l.map .int)) = some (.int m) := by
  obtain ⟨m, hm⟩ : ∃ m, least l = some m := by
    cases l with
    | nil => exact (h rfl).elim
    | cons i r => exact ⟨_, rfl⟩
  refine ⟨m, (least_is hm).1, (least_is hm).2, ?_⟩
  unfold oMin oInts
  rw [asL_l, Option.bind_some, intsX_map, Option.bind_some, hm]
  rfl
theorem oMax_of {l : List Int} (h : l ≠ []) : ∃ m, m ∈ l ∧ (∀ x ∈ l, x ≤ m) ∧ oMax (.lst (l.map .int)) = some (.int m) := by
  obtain ⟨m, hm⟩ : ∃ m, greatest l = some m := by
    cases l with
    | nil => exact (h rfl).elim
    | cons i r => exact ⟨_, rfl⟩
  refine ⟨m, (greatest_is hm).1, (greatest_is hm).2, ?_⟩
  unfold oMax oInts
  rw [asL_l, Option.bind_some, intsX_map, Option.bind_some, hm]
  rfl
def endsOf (nyms : List Str) : List (Option Str) := none :: nyms.map some
theorem ends_x (nyms : List Str) : (endsOf nyms).map oX = .non :: nyms.map .str := by simp [endsOf, oX, Function.comp_def]
theorem ends_nd {nyms : List Str} (nd : nyms.Nodup) : (endsOf nyms).Nodup := by
  unfold endsOf
  rw [List.nodup_cons]
  exact ⟨by simp, nodup_map (fun _ _ e => (by cases e; rfl)) nd⟩
theorem ends_ok {nyms : List Str} {o : Option Str} (h : o ∈ endsOf nyms) : EndOk nyms o := fun x e => by
  subst e
  unfold endsOf at h
  simpa using h
theorem eraseIdx_map {α β : Type} (f : α → β) : ∀ (l : List α) (k : Nat), (l.map f).eraseIdx k = (l.eraseIdx k).map f
  | [], _ => by simp
  | x :: l, 0 => by simp
  | x :: l, k + 1 => by simp [eraseIdx_map f l k]
theorem two_ends {nyms : List Str} (nd : nyms.Nodup) {i j : Nat} {x y : Option Str} (hx : (endsOf nyms)[i]? = some x) (hy : ((endsOf nyms).eraseIdx i)[j]? = some y) : EndOk nyms x ∧ EndOk nyms y ∧ x ≠ y := by
  have hi : i < (endsOf nyms).length := (List.getElem?_eq_some_iff.mp hx).1
  have p := eraseIdx_perm hi
  have ex : (endsOf nyms)[i] = x := (List.getElem?_eq_some_iff.mp hx).2
  rw [ex] at p
  have nd2 := (p.nodup_iff).mpr (ends_nd nd)
  rw [List.nodup_cons] at nd2
  have my := List.mem_of_getElem? hy
  exact ⟨ends_ok (p.mem_iff.mp List.mem_cons_self), ends_ok (p.mem_iff.mp (List.mem_cons_of_mem _ my)), fun e => nd2.1 (by rw [e]; exact my)⟩
theorem step_q {w : Nat} (h : w < 6) : ∃ i : Int, ([.int 0, .int 0, .int 0, .int 1, .int 3, .int 60] : List XV)[w]? = some (.int i) ∧ 0 ≤ i ∧ i ≤ 60 := by
  match w, h with
  | 0, _ => exact ⟨0, rfl, by decide, by decide⟩
  | 1, _ => exact ⟨0, rfl, by decide, by decide⟩
  | 2, _ => exact ⟨0, rfl, by decide, by decide⟩
  | 3, _ => exact ⟨1, rfl, by decide, by decide⟩
  | 4, _ => exact ⟨3, rfl, by decide, by decide⟩
  | 5, _ => exact ⟨60, rfl, by decide, by decide⟩
/-- the rules that a goal keeps -/
def KeptBy (g : List (Str × Int)) (k : Ask) : Prop := atG g k.1 + k.2.2 ≤ atG g k.2.1
theorem asks_app {l : List Ask} {k : Ask} : (l.map Ask.x) ++ [Ask.x k] = (l ++ [k]).map Ask.x := by simp
set_option maxHeartbeats 2000000 in
theorem gaps_q (a : Ad) {p : XV} {n most : Int} {nyms : List Str} {gs : List (List (Str × Int))} (h : PenX p n) (gz : gs.length ≤ 100) (g0 : gs ≠ []) (go : ∀ g ∈ gs, g.map (·.1) = nyms ∧ ∀ q ∈ g, -900 ≤ q.2 ∧ q.2 ≤ 900) (nd : nyms.Nodup) (tx : Txs nyms) (hz : nyms.length ≤ 500) (hm : 0 ≤ most) (hm2 : most ≤ 200) (hn : n < 800000000) :
    ∃ (asks : List Ask) (p' : XV), x_law_gaps a [p, strsT nyms, .lst (gs.map goalT), .int most] = .ok (asksT asks) true [p'] ∧ (asks.length : Int) ≤ 2 * most ∧ (∀ k ∈ asks, AskOk nyms k ∧ ∀ g ∈ gs, KeptBy g k) ∧ PenX p' (n + 1 + 4 * most) := by
  unfold x_law_gaps
  rw [xfn_ap]
  have nine9 : CMul 1 1 := cmK (by decide)
  have eL : oList (strsT nyms) = some (strsT nyms) := by unfold oList strsT asSeqL; simp only [Option.bind_some]; rw [if_pos (by rw [List.length_map]; exact sz (by omega))]
  have eE : oEqD true (strsT nyms) (.lst []) = some (.bl (!decide (nyms = []))) := by
    have := oEqD_strs (neg := true) tx (m := []) (fun x hx => by cases hx)
    rw [eqv_strs] at this
    exact this
  have eA : oAdd (.lst [.non]) (strsT nyms) = some (.lst ((endsOf nyms).map oX)) := by
    rw [ends_x]
    unfold oAdd strsT
    dsimp only
    rw [if_pos (by simp; exact sz (by omega))]
    rfl
  have eT : oList (.lst ((endsOf nyms).map oX)) = some (.lst ((endsOf nyms).map oX)) := by
    unfold oList asSeqL
    simp only [Option.bind_some]
    rw [if_pos (by simp [endsOf]; exact sz (by omega))]
  have le1 : (endsOf nyms).length = nyms.length + 1 := by simp [endsOf]
  -- the number of turns
  obtain ⟨t, p1, ht, h0, pn1, et⟩ : ∃ (t : Nat) (p1 : XV), (t : Int) ≤ most ∧ (0 < t → nyms ≠ []) ∧ PenX p1 (n + 1) ∧ ∀ τ : XSt, (xIf (xT (x2 (oEqD true) (xN 1) (xB (xLst xANil)))) (xCall [.mu, .sh] (x_law_draw a) (xMCons (xN 0) (xMCons (xB (x2 oAdd (xN 3) (xB (xC (.int 1))))) xMNil))) (xC (.int 0))) (some (.mu p) :: some (.sh (strsT nyms)) :: some (.sh (.lst (gs.map goalT))) :: some (.sh (.int most)) :: τ) = .ok (.int t) (some (.mu p1) :: some (.sh (strsT nyms)) :: some (.sh (.lst (gs.map goalT))) :: some (.sh (.int most)) :: τ) := by
    by_cases c : nyms = []
    · subst c
      exact ⟨0, p, by omega, fun z => by omega, h.le (by omega), fun τ => by simp [eE]⟩
    · obtain ⟨d, p1, e1, hd, pn1⟩ := draw_q a (u := most + 1) h (by omega) (by omega) (by omega)
      exact ⟨d, p1, by omega, fun _ => c, pn1, fun τ => by simp [eE, c, e1]⟩
  have ht0 : t < 1000000 := by omega
  obtain ⟨Q, hQ⟩ : ∃ Q : List Ask → XV → Prop, Q = fun asks p' => (asks.length : Int) ≤ 2 * most ∧ (∀ k ∈ asks, AskOk nyms k ∧ ∀ g ∈ gs, KeptBy g k) ∧ PenX p' (n + 1 + 4 * most) := ⟨_, rfl⟩
  suffices hs : ∃ (asks : List Ask) (p' : XV), endX [.mu, .sh, .sh, .sh] _ = .ok (asksT asks) true [p'] ∧ Q asks p' by subst hQ; exact hs
  simp [-xIf_ap, eL, eA, et, rg1_nat ht0]
  obtain ⟨I, hI⟩ : ∃ I : Nat → XSt → Prop, I = fun i τ => ∃ (asks : List Ask) (p2 : XV) (x6 x7 x8 x9 x10 x12 : Option Slot), τ = [some (.mu p2), some (.sh (strsT nyms)), some (.sh (.lst (gs.map goalT))), some (.sh (.int most)), some (.ow (asksT asks)), some (.sh (.lst ((endsOf nyms).map oX))), x6, x7, x8, x9, x10, none, x12] ∧
      (muO (some x6) = false ∧ muO (some x7) = false ∧ muO (some x8) = false ∧ muO (some x9) = false ∧ muO (some x10) = false ∧ muO (some x12) = false) ∧ asks.length ≤ 2 * i ∧ (∀ k ∈ asks, AskOk nyms k ∧ ∀ g ∈ gs, KeptBy g k) ∧ PenX p2 (n + 1 + 4 * i) := ⟨_, rfl⟩
  refine for_seq (P := fun r => ∃ (asks : List Ask) (p' : XV), endX [.mu, .sh, .sh, .sh] r = .ok (asksT asks) true [p'] ∧ Q asks p') I ?_ ?_ ?_
  · subst hI
    exact ⟨[], p1, none, none, none, none, none, none, rfl, ⟨rfl, rfl, rfl, rfl, rfl, rfl⟩, by simp, (fun _ z => (nomatch z)), by simpa using pn1⟩
  · intro i x τ hx hIi
    have hIi' := hIi
    rw [hI] at hIi'
    obtain ⟨asks, p2, x6, x7, x8, x9, x10, x12, rfl, ⟨h6, h7, h8, h9, h10, h12⟩, la, ka, pn2⟩ := hIi'
    have hi : i < t := by
      have := (List.getElem?_eq_some_iff.mp hx).1
      rw [rng_len] at this
      exact this
    have n0 := h0 (by omega)
    have l1 : 0 < nyms.length := List.length_pos_iff.mpr n0
    obtain ⟨d1, p3, e3, hd1, pn3⟩ := draw_q a (u := (nyms.length : Int) + 1) pn2 (by omega) (by omega) (by omega)
    obtain ⟨d2, p4, e4, hd2, pn4⟩ := draw_q a (u := (nyms.length : Int)) pn3 (by omega) (by omega) (by omega)
    obtain ⟨d3, p5, e5, hd3, pn5⟩ := draw_q a (u := 6) pn4 (by omega) (by omega) (by omega)
    obtain ⟨d4, p6, e6, hd4, pn6⟩ := draw_q a (u := 3) pn5 (by omega) (by omega) (by omega)
    have k1 : d1 < (endsOf nyms).length := by omega
    have k2 : d2 < ((endsOf nyms).eraseIdx d1).length := by rw [List.length_eraseIdx_of_lt k1]; omega
    obtain ⟨o1, ho1⟩ : ∃ o, (endsOf nyms)[d1]? = some o := ⟨_, List.getElem?_eq_getElem k1⟩
    obtain ⟨o2, ho2⟩ : ∃ o, ((endsOf nyms).eraseIdx d1)[d2]? = some o := ⟨_, List.getElem?_eq_getElem k2⟩
    obtain ⟨q1, q2, q3⟩ := two_ends nd ho1 ho2
    obtain ⟨st, hst, st0, st1⟩ := step_q (w := d3) (by omega)
    have pop : oPopAt ((endsOf nyms).map oX) [.int d1] = some (((endsOf nyms).eraseIdx d1).map oX, oX o1) := by
      have := oPopAt_ok (ts := (endsOf nyms).map oX) (d := d1) (by rw [List.length_map]; exact k1) (by rw [List.length_map]; omega)
      rw [this, eraseIdx_map, List.getElem_map]
      have : (endsOf nyms)[d1] = o1 := (List.getElem?_eq_some_iff.mp ho1).2
      rw [this]
    have le2 : ((endsOf nyms).eraseIdx d1).length = nyms.length := by rw [List.length_eraseIdx_of_lt k1]; omega
    have spans : ∀ τ : XSt, τ[8]? = some (some (.sh (oX o1))) → τ[9]? = some (some (.sh (oX o2))) → τ[11]? = some none → xLcT [11] (xpN 11) xTYes (x2 oSub (xB (xCall [.sh, .sh] (x_law_at a) (xMCons (xB (xV 11)) (xMCons (xB (xV 9)) xMNil)))) (xB (xCall [.sh, .sh] (x_law_at a) (xMCons (xB (xV 11)) (xMCons (xB (xV 8)) xMNil))))) (gs.map goalT) τ = .ok (.lst ((gs.map fun g => atG g o2 - atG g o1).map .int)) τ := by
      intro τ t8 t9 t11
      rw [List.map_map]
      refine lcN_map _ (by omega) t11 fun g hg => ?_
      obtain ⟨g1, g2⟩ := go g hg
      have a1 := at_q a (ps := g) (o := o1) (by rw [g1]; exact nd) (by rw [g1]; exact q1)
      have a2 := at_q a (ps := g) (o := o2) (by rw [g1]; exact nd) (by rw [g1]; exact q2)
      have hl := (List.getElem?_eq_some_iff.mp t11).1
      simp [a1, a2, List.getElem?_set, hl, t8, t9]
    obtain ⟨m, mm, ml, em⟩ := oMin_of (l := gs.map fun g => atG g o2 - atG g o1) (by simpa using g0)
    obtain ⟨w, wm, wl, ew⟩ := oMax_of (l := gs.map fun g => atG g o2 - atG g o1) (by simpa using g0)
    have ml' : ∀ g ∈ gs, m ≤ atG g o2 - atG g o1 := fun g hg => ml _ (List.mem_map_of_mem hg)
    have wl' : ∀ g ∈ gs, atG g o2 - atG g o1 ≤ w := fun g hg => wl _ (List.mem_map_of_mem hg)
    obtain ⟨L, hL⟩ : ∃ L : List Int, L = gs.map fun g => atG g o2 - atG g o1 := ⟨_, rfl⟩
    rw [← hL] at em ew
    simp only [← hL] at spans
    have app : ∀ (l : List Ask) (o o' : Option Str) (i : Int), l.length < 1000 → oApp (l.map Ask.x) [.tup [oX o, oX o', .int i]] = some ((l ++ [(o, o', i)]).map Ask.x, .non) := fun l o o' i hl => by
      rw [oApp_ok (by rw [List.length_map]; exact hl)]
      simp [Ask.x]
    refine ⟨[some (.mu p2), some (.sh (strsT nyms)), some (.sh (.lst (gs.map goalT))), some (.sh (.int most)), some (.ow (asksT asks)), some (.sh (.lst ((endsOf nyms).map oX))), some (.sh x), x7, x8, x9, x10, none, x12], by simp [setN_0 h6], ?_⟩
    have fin : ∀ (asks' : List Ask) (x7 x8 x9 x10 x12 : Option Slot), (muO (some x7) = false ∧ muO (some x8) = false ∧ muO (some x9) = false ∧ muO (some x10) = false ∧ muO (some x12) = false) → asks'.length ≤ 2 * i + 2 → (∀ k ∈ asks', AskOk nyms k ∧ ∀ g ∈ gs, KeptBy g k) → I (i + 1) [some (.mu p6), some (.sh (strsT nyms)), some (.sh (.lst (gs.map goalT))), some (.sh (.int most)), some (.ow (asksT asks')), some (.sh (.lst ((endsOf nyms).map oX))), some (.sh x), x7, x8, x9, x10, none, x12] := fun asks' x7 x8 x9 x10 x12 hh l k => by
      subst hI
      exact ⟨asks', p6, _, _, _, _, _, _, rfl, ⟨rfl, hh⟩, by omega, k, pn6.le (by push_cast; omega)⟩
    have lt : (if m - st > -999 then m - st else -999) = (if m - st > -999 then m - st else -999) := rfl
    generalize hG : (if m - st > -999 then m - st else -999) = G
    have G0 : -999 ≤ G := by rw [← hG]; split <;> omega
    have hG' : (if -999 < m - st then m - st else -999) = G := hG
    have run : ∀ (P : XRS → Prop) (b1 b2 : Bool), decide (G ≤ 999 ∧ G ≤ m) = b1 → decide (d4 = 0 ∧ -999 ≤ w ∧ w ≤ 999) = b2 → True := fun _ _ _ _ _ => True.intro
    have ka1 : G ≤ 999 → G ≤ m → ∀ k ∈ asks ++ [(o1, o2, G)], AskOk nyms k ∧ ∀ g ∈ gs, KeptBy g k := fun c1 c2 k hk => by
      rcases List.mem_append.mp hk with hk | hk
      · exact ka k hk
      · rw [List.mem_singleton] at hk
        subst hk
        exact ⟨⟨q1, q2, q3, G0, c1⟩, fun g hg => by have := ml' g hg; show atG g o1 + G ≤ atG g o2; omega⟩
    have ka2 : ∀ as : List Ask, (∀ k ∈ as, AskOk nyms k ∧ ∀ g ∈ gs, KeptBy g k) → -999 ≤ w → w ≤ 999 → ∀ k ∈ as ++ [(o2, o1, -w)], AskOk nyms k ∧ ∀ g ∈ gs, KeptBy g k := fun as ha c1 c2 k hk => by
      rcases List.mem_append.mp hk with hk | hk
      · exact ha k hk
      · rw [List.mem_singleton] at hk
        subst hk
        exact ⟨⟨q2, q1, fun z => q3 z.symm, by show -999 ≤ -w; omega, by show -w ≤ 999; omega⟩, fun g hg => by have := wl' g hg; show atG g o2 + (-w) ≤ atG g o1; omega⟩
    have tt : oList (.lst ((endsOf nyms).map oX)) = some (.lst ((endsOf nyms).map oX)) := eT
    have i2 : ixE nyms.length (d2 : Int) = some d2 := ix_nat (by omega)
    have i3 : ixE 6 (d3 : Int) = some d3 := ix_nat (by omega)
    have la1 : asks.length < 900 := by omega
    obtain ⟨A1, hA1⟩ : ∃ A : List Ask, A = asks ++ [(o1, o2, G)] := ⟨_, rfl⟩
    have lA1 : A1.length = asks.length + 1 := by rw [hA1]; simp
    obtain ⟨A2, hA2⟩ : ∃ A : List Ask, A = asks ++ [(o2, o1, -w)] := ⟨_, rfl⟩
    have lA2 : A2.length = asks.length + 1 := by rw [hA2]; simp
    obtain ⟨A3, hA3⟩ : ∃ A : List Ask, A = A1 ++ [(o2, o1, -w)] := ⟨_, rfl⟩
    have lA3 : A3.length = asks.length + 2 := by rw [hA3]; simp; omega
    have ap1 := app asks o1 o2 G (by omega)
    have ap2 := app asks o2 o1 (-w) (by omega)
    have ap3 := app A1 o2 o1 (-w) (by omega)
    rw [← hA1] at ap1 ka1
    rw [← hA2] at ap2
    rw [← hA3] at ap3
    have kA2 := ka2 asks ka
    rw [← hA2] at kA2
    have kA3 : G ≤ 999 → G ≤ m → -999 ≤ w → w ≤ 999 → ∀ k ∈ A3, AskOk nyms k ∧ ∀ g ∈ gs, KeptBy g k := fun c1 c2 c4 c5 => by rw [hA3]; exact ka2 A1 (ka1 c1 c2) c4 c5
    by_cases cA : G ≤ 999 ∧ G ≤ m
    · obtain ⟨c1, c2⟩ := cA
      by_cases c3 : d4 = 0
      · by_cases c4 : -999 ≤ w
        · by_cases c5 : w ≤ 999
          · simp [setN_0 h7, setN_0 h8, setN_0 h9, setN_0 h10, setN_0 h12, eT, e3, pop, e4, e5, e6, k1, le1, le2, spans, i2, ho2, i3, hst, em, ew, hG', asksT, oEqD_int, c1, c2, c3, c4, c5, ap1, ap3]
            refine fin A3 _ _ _ _ _ ?_ (by omega) (kA3 c1 c2 c4 c5); exact ⟨rfl, rfl, rfl, rfl, rfl⟩
          · simp [setN_0 h7, setN_0 h8, setN_0 h9, setN_0 h10, setN_0 h12, eT, e3, pop, e4, e5, e6, k1, le1, le2, spans, i2, ho2, i3, hst, em, ew, hG', asksT, oEqD_int, c1, c2, c3, c4, c5, ap1]
            refine fin A1 _ _ _ _ _ ?_ (by omega) (ka1 c1 c2); exact ⟨rfl, rfl, rfl, rfl, rfl⟩
        · simp [setN_0 h7, setN_0 h8, setN_0 h9, setN_0 h10, setN_0 h12, eT, e3, pop, e4, e5, e6, k1, le1, le2, spans, i2, ho2, i3, hst, em, ew, hG', asksT, oEqD_int, c1, c2, c3, c4, ap1]
          refine fin A1 _ _ _ _ _ ?_ (by omega) (ka1 c1 c2); exact ⟨rfl, rfl, rfl, rfl, rfl⟩
      · simp [setN_0 h7, setN_0 h8, setN_0 h9, setN_0 h10, setN_0 h12, eT, e3, pop, e4, e5, e6, k1, le1, le2, spans, i2, ho2, i3, hst, em, ew, hG', asksT, oEqD_int, c1, c2, c3, ap1]
        refine fin A1 _ _ _ _ _ ?_ (by omega) (ka1 c1 c2); exact ⟨rfl, rfl, rfl, rfl, rfl⟩
    · have cB : G ≤ 999 → ¬ G ≤ m := fun q z => cA ⟨q, z⟩
      have sk : ∀ {P : Prop → Prop}, True := fun {_} => True.intro
      by_cases c1 : G ≤ 999
      · have c2 := cB c1
        by_cases c3 : d4 = 0
        · by_cases c4 : -999 ≤ w
          · by_cases c5 : w ≤ 999
            · simp [setN_0 h7, setN_0 h8, setN_0 h9, setN_0 h10, setN_0 h12, eT, e3, pop, e4, e5, e6, k1, le1, le2, spans, i2, ho2, i3, hst, em, ew, hG', asksT, oEqD_int, c1, c2, c3, c4, c5, ap2]
              refine fin A2 _ _ _ _ _ ?_ (by omega) (kA2 c4 c5); exact ⟨rfl, rfl, rfl, rfl, rfl⟩
            · simp [setN_0 h7, setN_0 h8, setN_0 h9, setN_0 h10, setN_0 h12, eT, e3, pop, e4, e5, e6, k1, le1, le2, spans, i2, ho2, i3, hst, em, ew, hG', asksT, oEqD_int, c1, c2, c3, c4, c5]
              refine fin asks _ _ _ _ _ ?_ (by omega) ka; exact ⟨rfl, rfl, rfl, rfl, rfl⟩
          · simp [setN_0 h7, setN_0 h8, setN_0 h9, setN_0 h10, setN_0 h12, eT, e3, pop, e4, e5, e6, k1, le1, le2, spans, i2, ho2, i3, hst, em, ew, hG', asksT, oEqD_int, c1, c2, c3, c4]
            refine fin asks _ _ _ _ _ ?_ (by omega) ka; exact ⟨rfl, rfl, rfl, rfl, rfl⟩
        · simp [setN_0 h7, setN_0 h8, setN_0 h9, setN_0 h10, setN_0 h12, eT, e3, pop, e4, e5, e6, k1, le1, le2, spans, i2, ho2, i3, hst, em, ew, hG', asksT, oEqD_int, c1, c2, c3]
          refine fin asks _ _ _ _ _ ?_ (by omega) ka; exact ⟨rfl, rfl, rfl, rfl, rfl⟩
      · by_cases c3 : d4 = 0
        · by_cases c4 : -999 ≤ w
          · by_cases c5 : w ≤ 999
            · simp [setN_0 h7, setN_0 h8, setN_0 h9, setN_0 h10, setN_0 h12, eT, e3, pop, e4, e5, e6, k1, le1, le2, spans, i2, ho2, i3, hst, em, ew, hG', asksT, oEqD_int, c1, c3, c4, c5, ap2]
              refine fin A2 _ _ _ _ _ ?_ (by omega) (kA2 c4 c5); exact ⟨rfl, rfl, rfl, rfl, rfl⟩
            · simp [setN_0 h7, setN_0 h8, setN_0 h9, setN_0 h10, setN_0 h12, eT, e3, pop, e4, e5, e6, k1, le1, le2, spans, i2, ho2, i3, hst, em, ew, hG', asksT, oEqD_int, c1, c3, c4, c5]
              refine fin asks _ _ _ _ _ ?_ (by omega) ka; exact ⟨rfl, rfl, rfl, rfl, rfl⟩
          · simp [setN_0 h7, setN_0 h8, setN_0 h9, setN_0 h10, setN_0 h12, eT, e3, pop, e4, e5, e6, k1, le1, le2, spans, i2, ho2, i3, hst, em, ew, hG', asksT, oEqD_int, c1, c3, c4]
            refine fin asks _ _ _ _ _ ?_ (by omega) ka; exact ⟨rfl, rfl, rfl, rfl, rfl⟩
        · simp [setN_0 h7, setN_0 h8, setN_0 h9, setN_0 h10, setN_0 h12, eT, e3, pop, e4, e5, e6, k1, le1, le2, spans, i2, ho2, i3, hst, em, ew, hG', asksT, oEqD_int, c1, c3]
          refine fin asks _ _ _ _ _ ?_ (by omega) ka; exact ⟨rfl, rfl, rfl, rfl, rfl⟩
  · intro τ' hIt
    subst hI
    obtain ⟨asks, p2, x6, x7, x8, x9, x10, x12, rfl, _, la, ka, pn2⟩ := hIt
    rw [rng_len] at la pn2
    subst hQ
    refine ⟨asks, p2, by simp, by omega, ka, pn2.le (by omega)⟩
end WS

set_option Elab.async false
set_option linter.all false
set_option maxRecDepth 100000
/-! Asks without doubles, sorted. -/
namespace WS
open PySem PySem.Spec PyProof.Rows L2
open PySem.W (dataLt dataLe keyToks alike AllAlike Sortable SortsAt sortVals)
open Classical
theorem ltD_irr (d : PyData) : dataLt d d = false := (PyProof.Rows.listOrd PyProof.Rows.itemOrd).irrefl _
theorem ltD_tr {a b c : PyData} (h : dataLt a b = true) (h2 : dataLt b c = true) : dataLt a c = true := (PyProof.Rows.listOrd PyProof.Rows.itemOrd).trans _ _ _ h h2
theorem ltD_neg {a c : PyData} (b : PyData) (h : dataLt a c = true) : dataLt a b = true ∨ dataLt b c = true := (PyProof.Rows.listOrd PyProof.Rows.itemOrd).negTrans _ _ _ h
theorem ltD_tot {a b : PyData} (h : dataLt a b = false) (h2 : dataLt b a = false) : keyToks a = keyToks b := (PyProof.Rows.listOrd PyProof.Rows.itemOrd).total _ _ h h2
section
variable {α : Type} {k : α → PyData}
def leA (k : α → PyData) (a b : α) : Bool := !dataLt (k b) (k a)
theorem leA_tr (a b c : α) (h : leA k a b = true) (h2 : leA k b c = true) : leA k a c = true := by
  unfold leA at *
  simp only [Bool.not_eq_true'] at *
  cases q : dataLt (k c) (k a) with
  | false => rfl
  | true => rcases ltD_neg (k b) q with z | z <;> simp_all
theorem leA_tot (a b : α) : (leA k a b || leA k b a) = true := by
  unfold leA
  cases q : dataLt (k b) (k a) with
  | false => rfl
  | true =>
    cases q2 : dataLt (k a) (k b) with
    | false => rfl
    | true => have := ltD_tr q q2; rw [ltD_irr] at this; cases this
theorem sort_perm_eq {l1 l2 : List α} (p : l1.Perm l2) (inj : ∀ a ∈ l1, ∀ b ∈ l1, keyToks (k a) = keyToks (k b) → a = b) : l1.mergeSort (leA k) = l2.mergeSort (leA k) := by
  have p1 := List.mergeSort_perm l1 (leA k)
  have p2 := List.mergeSort_perm l2 (leA k)
  refine List.Perm.eq_of_pairwise (le := fun a b => leA k a b = true) ?_ (List.pairwise_mergeSort leA_tr leA_tot l1) (List.pairwise_mergeSort leA_tr leA_tot l2) (p1.trans (p.trans p2.symm))
  intro a b ha hb h1 h2
  have hb' : b ∈ l1 := p.mem_iff.mpr (p2.mem_iff.mp hb)
  unfold leA at h1 h2
  simp only [Bool.not_eq_true'] at h1 h2
  exact inj a (p1.mem_iff.mp ha) b hb' (ltD_tot h2 h1)
theorem sort_idem (l : List α) : (l.mergeSort (leA k)).mergeSort (leA k) = l.mergeSort (leA k) := List.mergeSort_of_pairwise (List.pairwise_mergeSort leA_tr leA_tot l)
end
def addIn (ks : List Ask) (x : Ask) : List Ask := if x ∈ ks then ks else ks ++ [x]
def dd (l : List Ask) : List Ask := l.foldl addIn []
theorem addIn_mem {ks : List Ask} {x y : Ask} : y ∈ addIn ks x ↔ y ∈ ks ∨ y = x := by
  unfold addIn
  split
  · constructor
    · exact .inl
    · rintro (h | h)
      · exact h
      · subst h; assumption
  · simp
theorem addIn_nd {ks : List Ask} {x : Ask} (h : ks.Nodup) : (addIn ks x).Nodup := by
  unfold addIn
  split
  · exact h
  · rw [List.nodup_append]
    refine ⟨h, by simp, fun a ha b hb e => ?_⟩
    rw [List.mem_singleton] at hb
    subst hb e
    contradiction
theorem fold_mem {y : Ask} : ∀ {l ks : List Ask}, y ∈ l.foldl addIn ks ↔ y ∈ ks ∨ y ∈ l
  | [], ks => by simp
  | x :: l, ks => by
    rw [List.foldl_cons, fold_mem, addIn_mem, List.mem_cons]
    constructor
    · rintro ((h | h) | h) <;> simp [h]
    · rintro (h | h | h) <;> simp [h]
theorem fold_nd : ∀ {l ks : List Ask}, ks.Nodup → (l.foldl addIn ks).Nodup
  | [], _, h => h
  | x :: l, ks, h => by
    rw [List.foldl_cons]
    exact fold_nd (addIn_nd h)
theorem fold_self : ∀ {l ks : List Ask}, (ks ++ l).Nodup → l.foldl addIn ks = ks ++ l
  | [], ks, _ => by simp
  | x :: l, ks, h => by
    have hx : x ∉ ks := fun q => (List.nodup_append.mp h).2.2 x q x List.mem_cons_self rfl
    have e : addIn ks x = ks ++ [x] := by unfold addIn; rw [if_neg hx]
    rw [List.foldl_cons, e, fold_self (by rw [List.append_assoc]; exact h), List.append_assoc]
    rfl
theorem dd_mem {l : List Ask} {y : Ask} : y ∈ dd l ↔ y ∈ l := by unfold dd; rw [fold_mem]; simp
theorem dd_nd (l : List Ask) : (dd l).Nodup := fold_nd (by simp)
theorem dd_self {l : List Ask} (h : l.Nodup) : dd l = l := by unfold dd; rw [fold_self (by simpa using h)]; rfl
theorem dd_perm {l1 l2 : List Ask} (h : ∀ x, x ∈ l1 ↔ x ∈ l2) : (dd l1).Perm (dd l2) := (List.perm_ext_iff_of_nodup (dd_nd _) (dd_nd _)).mpr fun x => by rw [dd_mem, dd_mem]; exact h x
theorem dd_len (l : List Ask) : (dd l).length ≤ l.length := by
  have : ∀ (l ks : List Ask), (l.foldl addIn ks).length ≤ ks.length + l.length := by
    intro l
    induction l with
    | nil => intro ks; simp
    | cons x l ih =>
      intro ks
      have h1 := ih (addIn ks x)
      have h2 : (addIn ks x).length ≤ ks.length + 1 := by unfold addIn; split <;> simp
      rw [List.foldl_cons, List.length_cons]
      omega
  simpa [dd] using this l []
def txt : Option Str → Str
  | none => ""
  | some x => x
def Ask.kd (k : Ask) : PyData := .tuple [.str (txt k.1), .str (txt k.2.1), .int k.2.2]
def Ask.kx (k : Ask) : XV := .tup [.str (txt k.1), .str (txt k.2.1), .int k.2.2]
def oD : Option Str → PyData
  | none => .none
  | some x => .str x
def Ask.d (k : Ask) : PyData := .tuple [oD k.1, oD k.2.1, .int k.2.2]
def rowX (k : Ask) : XV := .tup [k.kx, k.x]
def rowD (k : Ask) : PyData := .tuple [k.kd, k.d]
def Name1 (o : Option Str) : Prop := ∀ x, o = some x → x ≠ ""
structure AskN (k : Ask) : Prop where
  l : Name1 k.1
  r : Name1 k.2.1
theorem txt_inj {o o' : Option Str} (h : Name1 o) (h' : Name1 o') (e : txt o = txt o') : o = o' := by
  cases o with
  | none =>
    cases o' with
    | none => rfl
    | some y => exact absurd e.symm (h' y rfl)
  | some x =>
    cases o' with
    | none => exact absurd e (h x rfl)
    | some y => exact congrArg some e
theorem kd_alike (a b : Ask) : alike a.kd b.kd = true := by simp [Ask.kd, alike, PySem.W.alikeAll]
theorem kd_inj {a b : Ask} (ha : AskN a) (hb : AskN b) (e : PyData.eqv a.kd b.kd = true) : a = b := by
  obtain ⟨x, y, i⟩ := a
  obtain ⟨x', y', j⟩ := b
  simp [Ask.kd, PyData.eqv, PyData.eqvAll] at e
  obtain ⟨e1, e2, e3⟩ := e
  have := txt_inj ha.l hb.l e1
  have := txt_inj ha.r hb.r e2
  simp_all
theorem kd_toks {a b : Ask} (ha : AskN a) (hb : AskN b) (e : keyToks a.kd = keyToks b.kd) : a = b := by
  cases q : PyData.eqv a.kd b.kd with
  | true => exact kd_inj ha hb q
  | false =>
    have z := (PySem.W.toks_eqv a.kd b.kd (kd_alike a b)).2 q [] [.inl 0]
    rw [e, PySem.W.lex_pre, PyProof.Rows.lex_irrefl] at z
    cases z
noncomputable def srt (l : List Ask) : List Ask := l.mergeSort (leA Ask.kd)
theorem srt_perm_eq {l1 l2 : List Ask} (p : l1.Perm l2) (n : ∀ k ∈ l1, AskN k) : srt l1 = srt l2 := sort_perm_eq p fun a ha b hb e => kd_toks (n a ha) (n b hb) e
theorem srt2_rows {l : List Ask} (n : ∀ k ∈ l, AskN k) (hz : l.length ≤ 1000) : Srt2 (l.map rowD) := by
  refine ⟨?_, ?_, ?_, ?_, ?_, by rw [List.length_map]; exact sz hz⟩
  · intro d hd
    obtain ⟨k, _, rfl⟩ := List.mem_map.mp hd
    exact ⟨_, _, _, rfl⟩
  · intro d hd e he
    obtain ⟨k, _, rfl⟩ := List.mem_map.mp hd
    obtain ⟨k', _, rfl⟩ := List.mem_map.mp he
    exact kd_alike k k'
  · intro d hd e he q
    obtain ⟨k, hk, rfl⟩ := List.mem_map.mp hd
    obtain ⟨k', hk', rfl⟩ := List.mem_map.mp he
    rw [kd_inj (n k hk) (n k' hk') q]
  · intro d hd
    obtain ⟨⟨x, y, i⟩, _, rfl⟩ := List.mem_map.mp hd
    cases x <;> cases y <;> rfl
  · intro d hd
    obtain ⟨⟨x, y, i⟩, _, rfl⟩ := List.mem_map.mp hd
    cases x <;> cases y <;> simp [rowD, Ask.kd, Ask.d, oD, PyData.depth, PyData.depthAll]

theorem oX_inj : ∀ x y : Option Str, oX x = oX y → x = y
  | none, none, _ => rfl
  | some x, some y, e => by cases e; rfl
  | none, some y, e => by cases e
  | some x, none, e => by cases e
theorem Ask.x_inj : ∀ x y : Ask, x.x = y.x → x = y := by
  rintro ⟨a, b, i⟩ ⟨a', b', j⟩ h
  unfold Ask.x at h
  simp only [XV.tup.injEq, List.cons.injEq, XV.int.injEq, and_true] at h
  obtain ⟨h1, h2, h3⟩ := h
  rw [oX_inj _ _ h1, oX_inj _ _ h2, h3]
def markX (k : Ask) : XV × XV := (k.x, .bl true)
theorem dPutX_mark (x : Ask) : ∀ ks : List Ask, dPutX (ks.map markX) x.x (.bl true) = (addIn ks x).map markX
  | [] => by simp [addIn, markX, dPutX]
  | k :: ks => by
    rw [List.map_cons]
    unfold dPutX
    by_cases h : x = k
    · subst h
      have : addIn (x :: ks) x = x :: ks := by simp [addIn]
      rw [this, if_pos (show (markX x).1 = x.x from rfl)]
      rfl
    · rw [if_neg (show ¬(markX k).1 = x.x from fun z => h (Ask.x_inj _ _ z).symm), dPutX_mark x ks]
      unfold addIn
      by_cases q : x ∈ ks
      · rw [if_pos q, if_pos (List.mem_cons_of_mem _ q)]; rfl
      · rw [if_neg q, if_neg (by simp [h, q])]; rfl
theorem dFoldX_mark : ∀ (l ks : List Ask), dFoldX (ks.map markX) (l.map markX) = (l.foldl addIn ks).map markX
  | [], ks => rfl
  | x :: l, ks => by
    rw [List.map_cons]
    unfold dFoldX
    show dFoldX (dPutX (ks.map markX) x.x (.bl true)) (l.map markX) = _
    rw [dPutX_mark, dFoldX_mark l]
    rfl
theorem ask_nestX (k : Ask) : isNestX k.x = true := by
  obtain ⟨a, b, i⟩ := k
  cases a <;> cases b <;> rfl
theorem asks_nestsX (l : List Ask) : nestsX (l.map markX) = true := by
  unfold nestsX
  simp only [List.all_map, List.all_eq_true]
  exact fun x _ => ask_nestX x
theorem toDX_ask (k : Ask) (n : Nat) : toDX k.x (n + 1) = some k.d := by
  obtain ⟨x, y, i⟩ := k
  unfold Ask.x Ask.d
  cases x <;> cases y <;> simp [toDX, toDXs, oX, oD]
theorem toDX_key (k : Ask) (n : Nat) : toDX k.kx (n + 1) = some k.kd := by
  obtain ⟨x, y, i⟩ := k
  unfold Ask.kx Ask.kd
  simp [toDX, toDXs]
theorem dat_rowX (k : Ask) : datX (rowX k) = some (rowD k) := by
  show toDX (rowX k) (59 + 1) = _
  unfold rowX rowD
  exact toDX_tup (by unfold toDXs toDXs toDXs; rw [show (59 : Nat) = 58 + 1 from rfl, toDX_key, toDX_ask])
theorem datsX_map {α : Type} {f : α → XV} {g : α → PyData} (h : ∀ x, datX (f x) = some (g x)) : ∀ l : List α, datsX (l.map f) = some (l.map g)
  | [] => rfl
  | k :: l => by
    rw [List.map_cons, List.map_cons]
    unfold datsX
    rw [h, datsX_map h l]
theorem leDX_row (a b : Ask) : leDX (fun v => fstD (datDX v)) (rowX a) (rowX b) = leA Ask.kd a b := by
  show (!dataLt (fstD ((datX (rowX b)).getD .none)) (fstD ((datX (rowX a)).getD .none))) = _
  rw [dat_rowX, dat_rowX]
  rfl
theorem leDX_row1 {a b : Ask} (ha : AskN a) (hb : AskN b) (q : alike (rowD b) (rowD a) = true) : leDX datDX (rowX a) (rowX b) = leA Ask.kd a b := by
  unfold leDX leA datDX
  rw [dat_rowX, dat_rowX]
  show (!dataLt (rowD b) (rowD a)) = !dataLt b.kd a.kd
  have q1 : alike b.kd a.kd = true := kd_alike b a
  have q2 : alike b.d a.d = true := (PySem.W.alike_all_cons (PySem.W.alike_all_cons (show PySem.W.alikeAll [b.kd, b.d] [a.kd, a.d] = true by simpa [rowD, alike] using q)).2).1
  unfold rowD
  rw [PySem.W.dataLt_pair q1 q2]
  cases z : PyData.eqv b.kd a.kd with
  | false => rfl
  | true =>
    have e := kd_inj hb ha z
    subst e
    simp [PySem.W.eqv_refl_alike b.d q2, ltD_irr]
theorem oSorted_rows {l : List Ask} (n : ∀ k ∈ l, AskN k) (hz : l.length ≤ 1000) : oSorted (.lst (l.map rowX)) = some (.lst ((srt l).map rowX)) := by
  unfold oSorted
  rw [asL_l, Option.bind_some, datsX_map dat_rowX, Option.bind_some, if_pos (by rw [List.length_map]; exact sz hz)]
  have fin : ∀ le : XV → XV → Bool, (∀ a ∈ l, ∀ b ∈ l, leA Ask.kd a b = le (rowX a) (rowX b)) → (l.map rowX).mergeSort le = (srt l).map rowX := fun le e => by
    rw [← List.map_mergeSort e]
    rfl
  by_cases s1 : Srt1 (l.map rowD)
  · rw [if_pos s1, fin _ fun a ha b hb => (leDX_row1 (n a ha) (n b hb) (s1.1 _ (List.mem_map_of_mem hb) _ (List.mem_map_of_mem ha))).symm]
  · rw [if_neg s1, if_pos (srt2_rows n hz), fin _ fun a _ b _ => (leDX_row a b).symm]
theorem key_q (a : Ad) (k : Ask) : x_law_key a [k.x] = .ok k.kx false [] := by
  obtain ⟨x, y, i⟩ := k
  unfold x_law_key Ask.x
  rw [xfn_ap]
  cases x <;> cases y <;> simp [oX, txt, Ask.kx]
@[simp] theorem xLcD_ap {sx : XV × XV → XV} {own : List Nat} {f : XE} {put : XPut} {t : XT} {e : XE} {τ : XSt} : xLcD sx own f put t e τ = (f τ).bind fun tt τ1 => (match asD tt with
  | some kvs => xLcT own put t e (kvs.map sx) τ1
  | none => .bad) := (rfl)
@[simp] theorem asD_d {kvs : List (XV × XV)} : asD (.dic kvs) = some kvs := (rfl)
def wN (i : Nat) (τ : XSt) : Option (Option Slot) → XR XV
  | some (some (.bo t)) => .ok t τ
  | o => rdV i τ o
@[simp] theorem xWN_ap {i : Nat} {τ : XSt} : xWN i τ = wN i τ τ[i]? := by
  unfold xWN wN
  cases q : τ[i]? with
  | none => simp [q]
  | some o => cases o with
    | none => simp [q]
    | some s => cases s <;> simp [q]
@[simp] theorem wN_bo {i : Nat} {τ : XSt} {t : XV} : wN i τ (some (some (.bo t))) = .ok t τ := (rfl)
@[simp] theorem wN_sh {i : Nat} {τ : XSt} {t : XV} : wN i τ (some (some (.sh t))) = .ok t τ := (rfl)
theorem sorted_q (a : Ad) {l : List Ask} (n : ∀ k ∈ l, AskN k) (hz : l.length ≤ 900) : x_law_sorted a [asksT l] = .ok (asksT (srt (dd l))) true [] := by
  unfold x_law_sorted
  rw [xfn_ap]
  have hz2 := dd_len l
  have nd : ∀ k ∈ dd l, AskN k := fun k hk => n k (dd_mem.mp hk)
  have c1 : ∀ τ : XSt, τ[2]? = some none → xLcT [2] (xpN 2) xTYes (xTup (xACons (xV 2) (xACons (xC (.bl true)) xANil))) (l.map Ask.x) τ = .ok (.lst ((l.map markX).map fun p => .tup [p.1, p.2])) τ := fun τ h => by
    have hl := (List.getElem?_eq_some_iff.mp h).1
    rw [List.map_map]
    exact lcN_map _ (by omega) h fun k hk => by simp [hl, markX]
  have e1 := oDict_of (kvs := l.map markX) (.inr (asks_nestsX l))
  rw [show ([] : List (XV × XV)) = ([] : List Ask).map markX from rfl, dFoldX_mark] at e1
  have c2 : ∀ τ : XSt, τ[2]? = some none → xLcT [2] (xpN 2) xTYes (xTup (xACons (xCall [.sh] (x_law_key a) (xMCons (xB (xV 2)) xMNil)) (xACons (xV 2) xANil))) (((dd l).map markX).map fun p => p.1) τ = .ok (.lst ((dd l).map rowX)) τ := fun τ h => by
    have hl := (List.getElem?_eq_some_iff.mp h).1
    rw [List.map_map]
    refine lcN_map _ (by omega) h fun k hk => by simp [hl, markX, key_q, rowX]
  have c3 : ∀ τ : XSt, τ[3]? = some none → xLcT [3] (xpN 3) xTYes (x2 oItm (xN 3) (xB (xC (.int 1)))) ((srt (dd l)).map rowX) τ = .ok (.lst ((srt (dd l)).map Ask.x)) τ := fun τ h => by
    have hl := (List.getElem?_eq_some_iff.mp h).1
    exact lcN_map _ (by unfold srt; rw [List.length_mergeSort]; omega) h fun k hk => by simp [hl, rowX]
  have e2 := oSorted_rows nd (by omega)
  have ed : l.foldl addIn [] = dd l := rfl
  rw [ed] at e1
  obtain ⟨L1, h1⟩ : ∃ L, L = (l.map markX).map fun p => XV.tup [p.1, p.2] := ⟨_, rfl⟩
  obtain ⟨L2, h2⟩ : ∃ L, L = ((dd l).map markX).map fun p => p.1 := ⟨_, rfl⟩
  rw [← h1] at e1
  simp only [← h1] at c1
  simp only [← h2] at c2
  simp [asksT, c1, e1]
  rw [← List.map_map, ← h2]
  simp [c2, e2, c3]
end WS

set_option Elab.async false
set_option linter.all false
set_option maxRecDepth 100000
/-! The program's systems, on trees. -/
namespace WS
open PySem PySem.Spec PyProof.Rows L2
open PySem.W (dataLt dataLe keyToks alike AllAlike Sortable SortsAt sortVals)
open Classical
/-! kinds -/
section
variable {own : List Addr} {C : Addr}
@[simp] theorem isi_non {T : String} : oIsi own (ansB T own) .non = (kitB "NoneType" T).map .bl := (rfl)
@[simp] theorem isi_bl {T : String} {b : Bool} : oIsi own (ansB T own) (.bl b) = (kitB "bool" T).map .bl := (rfl)
@[simp] theorem isi_int {T : String} {b : Int} : oIsi own (ansB T own) (.int b) = (kitB "int" T).map .bl := (rfl)
@[simp] theorem isi_str {T : String} {b : Str} : oIsi own (ansB T own) (.str b) = (kitB "str" T).map .bl := (rfl)
@[simp] theorem isi_tup {T : String} {b : List XV} : oIsi own (ansB T own) (.tup b) = (kitB "tuple" T).map .bl := (rfl)
@[simp] theorem isi_lst {T : String} {b : List XV} : oIsi own (ansB T own) (.lst b) = (kitB "list" T).map .bl := (rfl)
@[simp] theorem isi_dic {T : String} {b : List (XV × XV)} : oIsi own (ansB T own) (.dic b) = (kitB "dict" T).map .bl := (rfl)
theorem isi_ins {T : String} {fs : List (Str × XV)} (h : C ∈ own) : oIsi own (ansB T own) (.ins C fs) = some (.bl false) := by
  unfold oIsi tagX ansB
  dsimp only
  rw [if_pos h, Option.bind_some]
  dsimp only
  rw [if_pos h]
  rfl
theorem isc_ins {D : Addr} {fs : List (Str × XV)} (h : C ∈ own) : oIsi own (ansC D own) (.ins C fs) = some (.bl (decide (C = D))) := by
  unfold oIsi tagX ansC
  dsimp only
  rw [if_pos h, Option.bind_some]
  dsimp only
  rw [if_pos h]
  rfl
theorem isc_other {D : Addr} {t : XV} {u : String} (h : tagX own t = some (.type u)) (hu : u ∈ tNames) : oIsi own (ansC D own) t = some (.bl false) := by
  unfold oIsi ansC
  rw [h, Option.bind_some]
  dsimp only
  rw [if_pos hu]
  rfl
end
@[simp] theorem kB1 : kitB "int" "int" = some true := by decide
@[simp] theorem kB2 : kitB "int" "bool" = some false := by decide
@[simp] theorem kB3 : kitB "str" "str" = some true := by decide
@[simp] theorem kB4 : kitB "tuple" "tuple" = some true := by decide
@[simp] theorem kB5 : kitB "list" "list" = some true := by decide
@[simp] theorem kB6 : kitB "NoneType" "str" = some false := by decide
@[simp] theorem kB7 : kitB "dict" "dict" = some true := by decide
/-! dict comprehensions -/
theorem dcGo_map {α : Type} {τ : XSt} {own : List Nat} {put : XPut} {t : XT} {fk fv : XE} {f kf vf : α → XV} : ∀ {l : List α} {acc : List (XV × XV)}, (∀ x ∈ l, ∃ τ1 τ2, put (f x) τ = some τ1 ∧ xElD t fk fv τ1 = .ok (some (kf x, vf x)) τ2 ∧ xwipe τ2 own = τ) →
    ((∀ x ∈ l, isLeafX (kf x) = true) ∧ leafsX acc = true ∨ (∀ x ∈ l, isNestX (kf x) = true) ∧ nestsX acc = true) → acc.length + l.length ≤ 1000 → xDcGo own put t fk fv (l.map f) τ acc = .ok (dFoldX acc (l.map fun x => (kf x, vf x))) τ
  | [], acc, _, _, _ => by simp [xDcGo, dFoldX]
  | x :: l, acc, h, hk, hl => by
    obtain ⟨τ1, τ2, h1, h2, h3⟩ := h x List.mem_cons_self
    have ko : KeyOk acc (kf x) := hk.imp (fun q => ⟨q.1 x List.mem_cons_self, q.2⟩) (fun q => ⟨q.1 x List.mem_cons_self, q.2⟩)
    rw [List.length_cons] at hl
    have e : addDX acc (some (kf x, vf x)) = some (dPutX acc (kf x) (vf x)) := by
      unfold addDX
      dsimp only
      rw [if_pos ⟨Nat.lt_of_lt_of_le (by omega : acc.length < 1000) (sz (Nat.le_refl _)), ko⟩]
    have pl : ∀ (acc : List (XV × XV)) (k v : XV), (dPutX acc k v).length ≤ acc.length + 1 := fun acc k v => by
      induction acc with
      | nil => simp [dPutX]
      | cons p r ih => unfold dPutX; split <;> simp <;> omega
    have pa : ∀ (P : XV → Bool) (acc : List (XV × XV)) (k v : XV), P k = true → (acc.all fun p => P p.1) = true → ((dPutX acc k v).all fun p => P p.1) = true := fun P acc k v hp ha => by
      induction acc with
      | nil => simp [dPutX, hp]
      | cons p r ih =>
        rw [List.all_cons, Bool.and_eq_true] at ha
        unfold dPutX
        split
        · simpa using ha
        · rw [List.all_cons, Bool.and_eq_true]; exact ⟨ha.1, ih ha.2⟩
    rw [List.map_cons]
    unfold xDcGo
    rw [h1]
    dsimp only
    rw [h2]
    dsimp only
    rw [e]
    dsimp only
    rw [h3, dcGo_map (fun y hy => h y (List.mem_cons_of_mem _ hy)) (hk.imp (fun q => ⟨fun y hy => q.1 y (List.mem_cons_of_mem _ hy), pa isLeafX _ _ _ (q.1 x List.mem_cons_self) q.2⟩) (fun q => ⟨fun y hy => q.1 y (List.mem_cons_of_mem _ hy), pa isNestX _ _ _ (q.1 x List.mem_cons_self) q.2⟩)) (by have := pl acc (kf x) (vf x); omega)]
    rw [List.map_cons, dFoldX]
theorem dcN_map {α : Type} {τ : XSt} {i : Nat} {t : XT} {fk fv : XE} {f : α → XV} (kf vf : α → XV) {l : List α} (hl : l.length ≤ 1000) (h0 : τ[i]? = some none) (h : ∀ x ∈ l, xElD t fk fv (τ.set i (some (.sh (f x)))) = .ok (some (kf x, vf x)) (τ.set i (some (.sh (f x)))))
    (hk : (∀ x ∈ l, isLeafX (kf x) = true) ∨ ∀ x ∈ l, isNestX (kf x) = true) : xDcT [i] (xpN i) t fk fv (l.map f) τ = .ok (.dic (dFoldX [] (l.map fun x => (kf x, vf x)))) τ := by
  have hi : i < τ.length := (List.getElem?_eq_some_iff.mp h0).1
  have back : ∀ s, (τ.set i s).set i none = τ := fun s => by
    rw [List.set_set]
    apply List.ext_getElem?
    intro j
    by_cases c : j = i
    · subst c; rw [List.getElem?_set_self hi, h0]
    · rw [List.getElem?_set_ne (Ne.symm c)]
  have hw : xwipe τ [i] = τ := by
    have := back none
    rw [List.set_set] at this
    simpa using this
  unfold xDcT
  rw [if_pos (by simp [h0]), hw, dcGo_map (kf := kf) (vf := vf) (fun x hx => ⟨τ.set i (some (.sh (f x))), τ.set i (some (.sh (f x))), ?_, h x hx, by rw [xwipe_c, xwipe_0]; exact back _⟩) (hk.imp (fun q => ⟨q, rfl⟩) (fun q => ⟨q, rfl⟩)) (by simpa using hl)]
  · dsimp only
    rw [hw]
  · unfold xpN setN
    rw [if_pos ⟨hi, by rw [h0]; rfl⟩]
/-! sets counted -/
theorem onces_len : ∀ {l acc : List Str}, (acc ++ l).Nodup → (onces acc l).length = acc.length + l.length
  | [], acc, _ => by simp [onces]
  | x :: l, acc, h => by
    have hx : ¬ (acc.any (· == x) = true) := fun q => by
      obtain ⟨y, hy, e⟩ := List.any_eq_true.mp q
      have e : y = x := by simpa using e
      subst e
      exact (List.nodup_append.mp h).2.2 y hy y List.mem_cons_self rfl
    unfold onces addOnce
    rw [if_neg hx, onces_len (by rw [List.append_assoc]; exact h)]
    simp
    omega
theorem strsX_map : ∀ {l : List Str}, strsX (l.map .str) = some l
  | [] => rfl
  | x :: l => by rw [List.map_cons]; unfold strsX; rw [strsX_map]; rfl
theorem oLenSet_nd {l : List Str} (nd : l.Nodup) (hz : l.length ≤ 1000) : oLenSet (strsT l) = some (.int l.length) := by
  unfold oLenSet strsT
  rw [asL_l, Option.bind_some, strsX_map, Option.bind_some, if_pos (by omega)]
  rw [onces_len (by simpa using nd)]
  simp only [List.length_nil, Nat.zero_add]
/-! texts sorted -/
noncomputable def srtS (l : List Str) : List Str := l.mergeSort (leA PyData.str)
theorem alike_str (x y : Str) : alike (.str x) (.str y) = true := by simp [alike]
theorem oSorted_strs {l : List Str} (hz : l.length ≤ 1000) : oSorted (strsT l) = some (strsT (srtS l)) := by
  have dx : ∀ x : Str, datX (.str x) = some (.str x) := fun _ => toDX_str
  have hS : Srt1 (l.map PyData.str) := by
    refine ⟨?_, ?_, ?_, ?_⟩
    · intro d hd e he
      obtain ⟨x, _, rfl⟩ := List.mem_map.mp hd
      obtain ⟨y, _, rfl⟩ := List.mem_map.mp he
      exact alike_str x y
    · refine .inr fun d hd => ?_
      obtain ⟨x, _, rfl⟩ := List.mem_map.mp hd
      exact ⟨fun z => (by cases z), fun _ z => (by cases z)⟩
    · rw [List.length_map]; exact sz hz
    · intro d hd
      obtain ⟨x, _, rfl⟩ := List.mem_map.mp hd
      simp [PyData.depth]
  unfold oSorted strsT
  rw [asL_l, Option.bind_some, datsX_map dx, Option.bind_some, if_pos (by rw [List.length_map]; exact sz hz), if_pos hS]
  · rw [← List.map_mergeSort (r := leA PyData.str)]
    · rfl
    · intro a _ b _
      unfold leDX leA datDX
      rw [dx, dx]
      rfl
theorem str_toks {x y : Str} (e : keyToks (.str x) = keyToks (.str y)) : x = y := by
  cases q : PyData.eqv (.str x) (.str y) with
  | true => simpa [PyData.eqv] using q
  | false =>
    have z := (PySem.W.toks_eqv (.str x) (.str y) (alike_str x y)).2 q [] [.inl 0]
    rw [e, PySem.W.lex_pre, PyProof.Rows.lex_irrefl] at z
    cases z
theorem srtS_perm {l m : List Str} (p : l.Perm m) : srtS l = srtS m := sort_perm_eq p fun a _ b _ e => str_toks e
theorem srtS_mem {l : List Str} {x : Str} : x ∈ srtS l ↔ x ∈ l := (List.mergeSort_perm _ _).mem_iff
theorem srtS_len {l : List Str} : (srtS l).length = l.length := List.length_mergeSort _
/-! the program's functions -/
theorem is_integer_q (a : Ad) {i lo hi : Int} : x_is_integer a [.int i, .int lo, .int hi] = .ok (.bl (decide (lo ≤ i) && decide (i ≤ hi))) false [] := by
  unfold x_is_integer
  rw [xfn_ap]
  by_cases c : lo ≤ i <;> simp [c]
def letters : Str := "abcdefghijklmnopqrstuvwxyz"
def inLetters (c : Nat) : Bool := !(Builtin.Str.occurrences letters ⟨#[c]⟩ 0 letters.length 1).isEmpty
def isNameS (x : Str) : Bool := decide (1 ≤ x.length) && decide (x.length ≤ 8) && x.cps.toList.all inLetters
theorem blsX_map : ∀ {l : List Bool}, blsX (l.map .bl) = some l
  | [] => rfl
  | x :: l => by rw [List.map_cons]; unfold blsX; rw [blsX_map]; rfl
theorem oAll_of {α : Type} {l : List α} {p : α → Bool} : oAll (.lst (l.map fun x => .bl (p x))) = some (.bl (l.all p)) := by
  have : (l.map fun x => XV.bl (p x)) = (l.map p).map .bl := by rw [List.map_map]; rfl
  unfold oAll oBls
  rw [asL_l, Option.bind_some, this, blsX_map]
  simp [List.all_map]
@[simp] theorem xStr_ap {f : XE} {τ : XSt} : xStr f τ = (f τ).bind fun t τ1 => (match asStr t with
  | some x => .ok (charsX x) τ1
  | none => .bad) := (rfl)
@[simp] theorem asStr_s {x : Str} : asStr (.str x) = some x := (rfl)
theorem is_name_q (a : Ad) {x : Str} (h : x.length ≤ 1000) : x_is_name a [.str x] = .ok (.bl (isNameS x)) false [] := by
  unfold x_is_name
  rw [xfn_ap]
  have el : oLen (.str x) = some (.int x.length) := if_pos (sz h)
  by_cases c1 : 1 ≤ x.length
  · by_cases c2 : x.length ≤ 8
    · have c3 : ∀ τ : XSt, τ[1]? = some none → xLcT [1] (xpN 1) xTYes (x2 (oIn false) (xN 1) (xB (xC (.str ("abcdefghijklmnopqrstuvwxyz" : Str))))) (charsX x) τ = .ok (.lst (x.cps.toList.map fun c => .bl (inLetters c))) τ := fun τ h => by
        have hl := (List.getElem?_eq_some_iff.mp h).1
        unfold charsX
        refine lcN_map _ (by rw [Array.length_toList]; show x.length ≤ 1000; omega) h fun c hc => ?_
        have : oIn false (.str ⟨#[c]⟩) (.str ("abcdefghijklmnopqrstuvwxyz" : Str)) = some (.bl (inLetters c)) := (rfl)
        simp [hl, this]
      have ci1 : (1 : Int) ≤ x.length := by omega
      have ci2 : (x.length : Int) ≤ 8 := by omega
      have c1' : 0 < x.length := c1
      simp [el, ci1, ci2, c3, oAll_of, isNameS, c1, c2]
    · have ci1 : (1 : Int) ≤ x.length := by omega
      have ci2 : ¬ (x.length : Int) ≤ 8 := by omega
      simp [el, ci1, ci2, isNameS, c2]
  · have ci1 : ¬ (1 : Int) ≤ x.length := by omega
    simp [el, ci1, isNameS, c1]
theorem is_thing_q (a : Ad) {o : Option Str} (h : ∀ x, o = some x → x.length ≤ 1000) : x_is_thing a [oX o] = .ok (.bl (o.all isNameS)) false [] := by
  unfold x_is_thing
  rw [xfn_ap]
  cases o with
  | none => simp [oX]
  | some x => simp [oX, is_name_q a (h x rfl)]
/-- a name as the program has them, and one that the model can compare -/
structure NameOk (x : Str) : Prop where
  nm : isNameS x = true
  ok : PyData.strOk x = true
theorem NameOk.len {x : Str} (h : NameOk x) : x.length ≤ 8 := by
  have := h.nm
  unfold isNameS at this
  simp at this
  exact this.1.2
theorem NameOk.ne {x : Str} (h : NameOk x) : x ≠ "" := fun e => by
  have := h.nm
  rw [e] at this
  exact absurd this (by decide)
structure AskW (k : Ask) : Prop where
  l : ∀ x, k.1 = some x → NameOk x
  r : ∀ x, k.2.1 = some x → NameOk x
  ne : k.1 ≠ k.2.1
  g1 : -999 ≤ k.2.2
  g2 : k.2.2 ≤ 999
theorem AskW.n {k : Ask} (h : AskW k) : AskN k := ⟨fun x e => (h.l x e).ne, fun x e => (h.r x e).ne⟩
theorem dat_oX (o : Option Str) : datX (oX o) = some (oD o) := by cases o <;> simp [oX, oD]
theorem shaped_oD {o : Option Str} (h : ∀ x, o = some x → PyData.strOk x = true) : SeqAt.shaped (oD o) = true := by
  cases o with
  | none => rfl
  | some x => simp [SeqAt.shaped, oD, PyData.canLay0, PyData.depth, h x rfl]
theorem eqv_oD (o o' : Option Str) : PyData.eqv (oD o) (oD o') = decide (o = o') := by
  cases o <;> cases o' <;> simp [oD, PyData.eqv]
  rename_i x y
  by_cases c : x = y <;> simp [c]
theorem oEqD_oX {neg : Bool} {o o' : Option Str} (h : ∀ x, o = some x → PyData.strOk x = true) (h' : ∀ x, o' = some x → PyData.strOk x = true) : oEqD neg (oX o) (oX o') = some (.bl (neg ^^ decide (o = o'))) := by
  rw [oEqD_of (dat_oX o) (dat_oX o') (shaped_oD h) (shaped_oD h'), eqv_oD]
  cases neg <;> simp
theorem is_rule_q (a : Ad) {k : Ask} (h : AskW k) : x_System_is_rule a [k.x] = .ok (.bl true) false [] := by
  obtain ⟨x, y, i⟩ := k
  unfold x_System_is_rule Ask.x
  rw [xfn_ap]
  have t1 := is_thing_q a (o := x) fun z e => Nat.le_trans (h.l z e).len (by decide)
  have t2 := is_thing_q a (o := y) fun z e => Nat.le_trans (h.r z e).len (by decide)
  have n1 : x.all isNameS = true := by cases x with
    | none => rfl
    | some z => exact (h.l z rfl).nm
  have n2 : y.all isNameS = true := by cases y with
    | none => rfl
    | some z => exact (h.r z rfl).nm
  have e3 := oEqD_oX (neg := true) (o := x) (o' := y) (fun z e => (h.l z e).ok) (fun z e => (h.r z e).ok)
  have g1 : -999 ≤ i := h.g1
  have g2 : i ≤ 999 := h.g2
  have ne : x ≠ y := h.ne
  have ii := is_integer_q a (i := i) (lo := -999) (hi := 999)
  simp [oEqD_int, ii, g1, g2, t1, t2, n1, n2, e3, ne]
theorem rule_key_q (a : Ad) (k : Ask) : x_rule_key a [k.x] = .ok k.kx false [] := by
  obtain ⟨x, y, i⟩ := k
  unfold x_rule_key Ask.x
  rw [xfn_ap]
  cases x <;> cases y <;> simp [oX, txt, Ask.kx]
theorem keysX_map {α : Type} {p : XFn} {f g : α → XV} (h : ∀ x, ∃ fr outs, p [f x] = .ok (g x) fr outs) : ∀ l : List α, keysX p (l.map f) = some (l.map g)
  | [] => rfl
  | x :: l => by
    obtain ⟨fr, outs, e⟩ := h x
    rw [List.map_cons, List.map_cons]
    unfold keysX
    rw [e, keysX_map h l]
    rfl
theorem oSortKey_asks (a : Ad) {l : List Ask} (hz : l.length ≤ 1000) : oSortKey (x_rule_key a) (.dic (l.map markX)) = some (asksT (srt l)) := by
  have dk : ∀ k : Ask, datX k.kx = some k.kd := fun k => toDX_key k 59
  have ew : walkX (.dic (l.map markX)) = some (l.map Ask.x) := by
    unfold walkX
    simp [markX]
  have hS : SrtK (l.map Ask.kd) := by
    refine ⟨fun d hd e he => ?_, .inl fun d hd => ?_, fun d hd => ?_⟩
    · obtain ⟨x, _, rfl⟩ := List.mem_map.mp hd
      obtain ⟨y, _, rfl⟩ := List.mem_map.mp he
      exact kd_alike x y
    · obtain ⟨x, _, rfl⟩ := List.mem_map.mp hd
      exact ⟨_, _, rfl⟩
    · obtain ⟨x, _, rfl⟩ := List.mem_map.mp hd
      simp [Ask.kd, PyData.depth, PyData.depthAll]
  unfold oSortKey
  rw [ew, Option.bind_some, keysX_map (f := Ask.x) (g := Ask.kx) (fun k => ⟨_, _, rule_key_q a k⟩), Option.bind_some, datsX_map dk, Option.bind_some, if_pos ⟨by rw [List.length_map]; exact sz hz, hS⟩]
  · have z1 : (l.map Ask.x).zip (l.map Ask.kd) = l.map fun k => (k.x, k.kd) := by
      rw [List.zip_map']
    have z2 : (l.mergeSort (leA Ask.kd)).map (fun k => (k.x, k.kd)) = (l.map fun k => (k.x, k.kd)).mergeSort leKX := List.map_mergeSort (f := fun (k : Ask) => (k.x, k.kd)) (fun a _ b _ => rfl)
    rw [z1, ← z2, List.map_map]
    rfl
/-- a system -/
noncomputable def sysT (a : Ad) (names : List Str) (rules : List Ask) : XV := .ins a.C_System [("settings", strsT (srtS names)), ("gaps", asksT (srt (dd rules)))]
structure SysOk (names : List Str) (rules : List Ask) : Prop where
  nm : ∀ x ∈ names, NameOk x
  nd : names.Nodup
  nl : names.length ≤ 500
  rl : rules.length ≤ 900
  rw : ∀ k ∈ rules, AskW k
  re : ∀ k ∈ rules, EndOk names k.1 ∧ EndOk names k.2.1
@[simp] theorem xSlc_ap {o : Option Int → Option Int → XV → Option XV} {f : XB} {l u : XO} {τ : XSt} : xSlc o f l u τ = (f τ).bind fun b τ1 => (l τ1).bind fun lo τ2 => (u τ2).bind fun hi τ3 => ofO ((resB τ3 b).bind (o lo hi)) τ3 := (rfl)
@[simp] theorem xoNone_ap {τ : XSt} : xoNone τ = .ok none τ := (rfl)
def soI (τ : XSt) : Option Int → XR (Option Int)
  | some i => .ok (some i) τ
  | none => .bad
@[simp] theorem soI_some {τ : XSt} {i : Int} : soI τ (some i) = .ok (some i) τ := (rfl)
@[simp] theorem xoSome_ap {f : XE} {τ : XSt} : xoSome f τ = (f τ).bind fun t τ1 => soI τ1 (asInt t) := by
  unfold xoSome
  cases f τ with
  | ok a τ1 => simp only [XR.bind_ok]; unfold soI; cases asInt a <;> rfl
  | err _ _ _ => rfl
  | bad => rfl
def fsK (C : Addr) (y : Str) (i : Nat) (u : XV) (τ : XSt) : Option (List (Str × XV)) → XRS
  | some fs => if fs.length < 1000 then .nx (updS τ i (.ins C (putFX y u fs))) else .bad
  | none => .bad
@[simp] theorem xFldSet_ap {C : Addr} {y : Str} {i : Nat} {f : XE} {τ : XSt} : xFldSet C y i f τ = xThen (f τ) fun u τ1 => fsK C y i u τ1 ((muArg τ1 i).bind (insOf C)) := by
  unfold xFldSet
  cases f τ with
  | ok a τ1 => simp only [xThen_ok]; unfold fsK; rfl
  | err _ _ _ => rfl
  | bad => rfl
@[simp] theorem fsK_some {C : Addr} {y : Str} {i : Nat} {u : XV} {τ : XSt} {fs : List (Str × XV)} : fsK C y i u τ (some fs) = if fs.length < 1000 then .nx (updS τ i (.ins C (putFX y u fs))) else .bad := (rfl)
@[simp] theorem putFX_nil {y : Str} {v : XV} : putFX y v [] = [(y, v)] := (rfl)
@[simp] theorem putFX_cons {y : Str} {v : XV} {p : Str × XV} {r : List (Str × XV)} : putFX y v (p :: r) = if p.1 = y then (p.1, v) :: r else p :: putFX y v r := (rfl)
@[simp] theorem xDcD_ap {sx : XV × XV → XV} {own : List Nat} {f : XE} {put : XPut} {t : XT} {fk fv : XE} {τ : XSt} : xDcD sx own f put t fk fv τ = (f τ).bind fun tt τ1 => (match asD tt with
  | some kvs => xDcT own put t fk fv (kvs.map sx) τ1
  | none => .bad) := (rfl)
end WS

set_option Elab.async false
set_option linter.all false
set_option maxRecDepth 100000
/-! Systems made and compared, on trees. -/
namespace WS
open PySem PySem.Spec PyProof.Rows L2
open PySem.W (dataLt dataLe keyToks alike AllAlike Sortable SortsAt sortVals)
open Classical
theorem oIn_strs {neg : Bool} {x : Str} {l : List Str} (h : PyData.strOk x = true) (hl : Txs l) : oIn neg (.str x) (strsT l) = some (.bl (neg ^^ decide (x ∈ l))) := by
  have e1 : datX (.str x) = some (.str x) := toDX_str
  have e2 : datX (.lst (l.map .str)) = some (.list (l.map .str)) := dat_strs
  have s1 : SeqAt.shaped (.str x) = true := by simp [SeqAt.shaped, PyData.canLay0, PyData.depth, h]
  have an : ((l.map PyData.str).any fun z => PyData.eqv z (.str x)) = decide (x ∈ l) := by
    rw [List.any_map]
    by_cases c : x ∈ l
    · rw [decide_eq_true c]
      exact List.any_eq_true.mpr ⟨x, c, by simp [PyData.eqv]⟩
    · rw [decide_eq_false c]
      refine List.any_eq_false.mpr fun y hy e => c ?_
      have : y = x := by simpa [PyData.eqv] using e
      rw [← this]; exact hy
  unfold oIn strsT
  dsimp only
  rw [e1, e2]
  dsimp only
  rw [if_pos ⟨s1, shaped_strs hl⟩, an]
  cases neg <;> simp
/-- a comprehension of two fors over the first two things of rows, both kept -/
theorem lc2_two {α : Type} {i j : Nat} {e : XE} {f : α → XV} {g1 g2 : α → XV} {τ : XSt} (hij : i ≠ j) (h0 : τ[i]? = some none) (h1 : τ[j]? = some none) {fi1 : XI} {u1 u2 : α → XV} : ∀ {l : List α} {acc : List XV}, acc.length + 2 * l.length ≤ 2000 →
    (∀ x ∈ l, fi1 (τ.set i (some (.sh (f x)))) = .ok [u1 x, u2 x] (τ.set i (some (.sh (f x)))) ∧ e ((τ.set i (some (.sh (f x)))).set j (some (.sh (u1 x)))) = .ok (g1 x) ((τ.set i (some (.sh (f x)))).set j (some (.sh (u1 x)))) ∧ e ((τ.set i (some (.sh (f x)))).set j (some (.sh (u2 x)))) = .ok (g2 x) ((τ.set i (some (.sh (f x)))).set j (some (.sh (u2 x))))) →
    xLc2Go [i, j] [j] (xpN i) xTYes fi1 (xpN j) xTYes e (l.map f) τ acc = .ok (acc ++ l.flatMap fun x => [g1 x, g2 x]) τ
  | [], acc, _, _ => by simp [xLc2Go]
  | x :: l, acc, hl, h => by
    have hi : i < τ.length := (List.getElem?_eq_some_iff.mp h0).1
    have hj : j < τ.length := (List.getElem?_eq_some_iff.mp h1).1
    obtain ⟨a1, a2, a3⟩ := h x List.mem_cons_self
    rw [List.length_cons] at hl
    obtain ⟨T, hT⟩ : ∃ T, T = τ.set i (some (.sh (f x))) := ⟨_, rfl⟩
    rw [← hT] at a1 a2 a3
    have tj : T[j]? = some none := by rw [hT, List.getElem?_set_ne hij]; exact h1
    have jT : j < T.length := (List.getElem?_eq_some_iff.mp tj).1
    have back : ∀ s, (T.set j s).set j none = T := fun s => by
      rw [List.set_set]
      apply List.ext_getElem?
      intro k
      by_cases c : k = j
      · subst c; rw [List.getElem?_set_self jT, tj]
      · rw [List.getElem?_set_ne (Ne.symm c)]
    have Tj : T.set j none = T := by have := back none; rwa [List.set_set] at this
    have Tb : (T.set j none).set i none = τ := by
      rw [Tj, hT, List.set_set]
      apply List.ext_getElem?
      intro k
      by_cases c : k = i
      · subst c; rw [List.getElem?_set_self hi, h0]
      · rw [List.getElem?_set_ne (Ne.symm c)]
    have p1 : ∀ t, xpN j t T = some (T.set j (some (.sh t))) := fun t => by unfold xpN setN; rw [if_pos ⟨jT, by rw [tj]; rfl⟩]
    have inner : xLcGo [j] (xpN j) xTYes e [u1 x, u2 x] T acc = .ok (acc ++ [g1 x] ++ [g2 x]) T := by
      unfold xLcGo
      rw [p1]
      dsimp only
      rw [show xEl xTYes e (T.set j (some (.sh (u1 x)))) = .ok (some (g1 x)) (T.set j (some (.sh (u1 x)))) by simp [a2]]
      dsimp only
      rw [xwipe_c, xwipe_0, back]
      unfold xLcGo
      rw [p1]
      dsimp only
      rw [show xEl xTYes e (T.set j (some (.sh (u2 x)))) = .ok (some (g2 x)) (T.set j (some (.sh (u2 x)))) by simp [a3]]
      dsimp only
      rw [xwipe_c, xwipe_0, back]
      unfold xLcGo
      rfl
    rw [List.map_cons]
    unfold xLc2Go
    rw [show xpN i (f x) τ = some T by unfold xpN setN; rw [if_pos ⟨hi, by rw [h0]; rfl⟩, hT]]
    dsimp only
    rw [xTYes_ap]
    dsimp only
    rw [a1]
    dsimp only
    rw [if_pos (Nat.le_trans (show acc.length + [u1 x, u2 x].length ≤ 2002 by simp; omega) (by decide)), xwipe_c, xwipe_0, Tj, inner]
    dsimp only
    rw [xwipe_c, xwipe_c, xwipe_0, Tb, lc2_two hij h0 h1 (by simp; omega) fun y hy => h y (List.mem_cons_of_mem _ hy)]
    simp
theorem cutX_2 {ts : List XV} : cutX ts none (some 2) = ts.take 2 := cutX_upto (k := 2)
theorem all_true {l : List Ask} : oAll (.lst (l.flatMap fun _ => [XV.bl true, XV.bl true])) = some (.bl true) := by
  have : (l.flatMap fun _ => [XV.bl true, XV.bl true]) = (l.flatMap fun _ => [true, true]).map .bl := by
    rw [List.map_flatMap]
    rfl
  unfold oAll oBls
  rw [asL_l, Option.bind_some, this, blsX_map]
  simp
theorem fm_len {α β : Type} {a b : β} : ∀ {l : List α}, (l.flatMap fun _ => [a, b]).length = 2 * l.length
  | [] => rfl
  | x :: l => by rw [List.flatMap_cons, List.length_append, fm_len]; simp; omega
theorem init_q (a : Ad) {names : List Str} {rules : List Ask} (h : SysOk names rules) : x_System_init a [.ins a.C_System [], strsT names, asksT rules] = .ok .non false [sysT a names rules] := by
  have nl := h.nl
  have rl := h.rl
  have tx : Txs names := fun x hx => (h.nm x hx).ok
  have e1 : ∀ τ : XSt, τ[3]? = some none → xLcT [3] (xpN 3) xTYes (xCall [.sh] (x_is_name a) (xMCons (xB (xV 3)) xMNil)) (names.map .str) τ = .ok (.lst (names.map fun _ => .bl true)) τ := fun τ h3 => by
    have hl := (List.getElem?_eq_some_iff.mp h3).1
    refine lcN_map _ (by omega) h3 fun x hx => ?_
    have := is_name_q a (x := x) (Nat.le_trans (h.nm x hx).len (by decide))
    simp [hl, this, (h.nm x hx).nm]
  have e2 : ∀ τ : XSt, τ[4]? = some none → xLcT [4] (xpN 4) xTYes (xCall [.sh] (x_System_is_rule a) (xMCons (xB (xV 4)) xMNil)) (rules.map Ask.x) τ = .ok (.lst (rules.map fun _ => .bl true)) τ := fun τ h3 => by
    have hl := (List.getElem?_eq_some_iff.mp h3).1
    refine lcN_map _ (by omega) h3 fun x hx => ?_
    have := is_rule_q a (h.rw x hx)
    simp [hl, this]
  have e3 : ∀ (x : XV) (y : XV) (z : XSt), xLc2T [4, 5] [5] (xpN 4) xTYes (xSeqE (xSlc oSlc (xN 4) xoNone (xoSome (xC (.int 2))))) (xpN 5) xTYes (xOr (x2 (oIs false) (xN 5) (xB (xC .non))) (x2 (oIn false) (xN 5) (xN 1))) (rules.map Ask.x) [some (.mu x), some (.sh (strsT names)), some (.sh y), none, none, none] = .ok (.lst (rules.flatMap fun _ => [.bl true, .bl true])) [some (.mu x), some (.sh (strsT names)), some (.sh y), none, none, none] := fun x y z => by
    have key := lc2_two (i := 4) (j := 5) (e := xOr (x2 (oIs false) (xN 5) (xB (xC .non))) (x2 (oIn false) (xN 5) (xN 1))) (f := Ask.x) (g1 := fun _ => .bl true) (g2 := fun _ => .bl true) (τ := [some (.mu x), some (.sh (strsT names)), some (.sh y), none, none, none]) (by decide) rfl rfl (fi1 := xSeqE (xSlc oSlc (xN 4) xoNone (xoSome (xC (.int 2))))) (u1 := fun k : Ask => oX k.1) (u2 := fun k : Ask => oX k.2.1) (l := rules) (acc := []) (by simp; omega) (fun k hk => by
      have ends : ∀ o : Option Str, EndOk names o → (∀ x, o = some x → NameOk x) → ∀ τ : XSt, τ[5]? = some (some (.sh (oX o))) → τ[1]? = some (some (.sh (strsT names))) → xOr (x2 (oIs false) (xN 5) (xB (xC .non))) (x2 (oIn false) (xN 5) (xN 1)) τ = .ok (.bl true) τ := fun o ho hn τ t5 t1 => by
        cases o with
        | none => simp [t5, oX]
        | some w =>
          have := oIn_strs (neg := false) (hn w rfl).ok tx
          simp [t5, t1, oX, this, ho w rfl]
      obtain ⟨r1, r2⟩ := h.re k hk
      have w := h.rw k hk
      have sl : oSlc none (some 2) k.x = some (.tup [oX k.1, oX k.2.1]) := by
        unfold Ask.x oSlc
        dsimp only
        rw [cutX_2]
        exact if_pos (sz (by simp))
      exact ⟨by simp [sl], ends _ r1 w.l _ rfl rfl, ends _ r2 w.r _ rfl rfl⟩)
    unfold xLc2T
    rw [if_pos (by simp)]
    simp only [xwipe_c, xwipe_0, List.set_cons_succ, List.set_cons_zero] at key ⊢
    rw [key]
    dsimp only
    rw [List.nil_append, if_pos (Nat.le_trans (show (rules.flatMap fun _ => [XV.bl true, XV.bl true]).length ≤ 2000 by rw [fm_len]; omega) (by decide))]
    rfl
  have e4 : ∀ τ : XSt, τ[4]? = some none → xDcT [4] (xpN 4) xTYes (xV 4) (xC (.bl true)) (rules.map Ask.x) τ = .ok (.dic ((dd rules).map markX)) τ := fun τ h3 => by
    have hl := (List.getElem?_eq_some_iff.mp h3).1
    rw [dcN_map Ask.x (fun _ => .bl true) (by omega) h3 (fun k hk => by simp [hl]) (.inr fun k _ => ask_nestX k)]
    have := dFoldX_mark rules []
    rw [show (rules.map fun x => (x.x, XV.bl true)) = rules.map markX from rfl, show ([] : List (XV × XV)) = ([] : List Ask).map markX from rfl, this]
    rfl
  have a1 : oAll (.lst (names.map fun _ => .bl true)) = some (.bl true) := by
    rw [oAll_of (p := fun _ => true)]; simp
  have a2 : oAll (.lst (rules.map fun _ => .bl true)) = some (.bl true) := by
    rw [oAll_of (p := fun _ => true)]; simp
  have l1 := oLenSet_nd h.nd (by omega)
  have s1 := oSorted_strs (l := names) (by omega)
  have s2 := oSortKey_asks a (l := dd rules) (by have := dd_len rules; omega)
  have ln : oLen (strsT names) = some (.int names.length) := by unfold strsT; rw [oLen_lst, List.length_map]
  have q1 : asSeq (strsT names) = some (names.map .str) := rfl
  have q2 : asSeq (asksT rules) = some (rules.map Ask.x) := rfl
  have k1 : oIsi [a.C_System] (ansB "list" [a.C_System]) (strsT names) = some (.bl true) := by unfold strsT; simp
  have k2 : oIsi [a.C_System] (ansB "list" [a.C_System]) (asksT rules) = some (.bl true) := by unfold asksT; simp
  have tl : 4 ≤ 6 := by decide
  unfold x_System_init
  rw [xfn_ap]
  have ne : ¬ ("settings" : Str) = "gaps" := by decide
  simp [k1, k2, q1, q2, e1, e2, e3 _ _ [], e4, a1, a2, all_true, l1, ln, s1, s2, sysT, ne]
end WS

set_option Elab.async false
set_option linter.all false
set_option maxRecDepth 100000
/-! Systems compared; systems that differ in one thing. -/
namespace WS
open PySem PySem.Spec PyProof.Rows L2
open PySem.W (dataLt dataLe keyToks alike AllAlike Sortable SortsAt sortVals)
open Classical
theorem for_end {put : XPut} {body : XS} {ts : List XV} {τ : XSt} {P : XRS → Prop} (I : Nat → XSt → Prop) (h0 : I 0 τ) (step : ∀ i x τ, ts[i]? = some x → I i τ → ∃ τ1, put x τ = some τ1 ∧ NxI (I (i + 1)) (body τ1)) (fin : ∀ τ', I ts.length τ' → P (.nx τ')) : P (xForGo put body ts τ) := by
  obtain ⟨τ', e, h⟩ := forGo_inv2 I h0 step
  rw [e]
  exact fin τ' h
/-! asks as data -/
theorem AskW.txs {k : Ask} (h : AskW k) : PyData.canLay0 k.d = true := by
  obtain ⟨x, y, i⟩ := k
  have h1 : PyData.canLay0 (oD x) = true := by cases x with
    | none => rfl
    | some z => simp [oD, PyData.canLay0, (h.l z rfl).ok]
  have h2 : PyData.canLay0 (oD y) = true := by cases y with
    | none => rfl
    | some z => simp [oD, PyData.canLay0, (h.r z rfl).ok]
  simp [Ask.d, PyData.canLay0, PyData.canLayAll0, h1, h2]
theorem ask_depth (k : Ask) : k.d.depth = 1 := by
  obtain ⟨x, y, i⟩ := k
  cases x <;> cases y <;> simp [Ask.d, oD, PyData.depth, PyData.depthAll]
theorem dat_asks (l : List Ask) : datX (asksT l) = some (.list (l.map Ask.d)) := toDX_lst (n := 59) (toDXs_map fun k _ => toDX_ask k 58)
theorem dat_ask (k : Ask) : datX k.x = some k.d := toDX_ask k 59
theorem shaped_asks {l : List Ask} (h : ∀ k ∈ l, AskW k) : SeqAt.shaped (.list (l.map Ask.d)) = true := by
  have h1 : ∀ l : List Ask, (∀ k ∈ l, AskW k) → PyData.canLayAll0 (l.map Ask.d) = true := by
    intro l
    induction l with
    | nil => exact fun _ => rfl
    | cons i l ih => intro h; simp [PyData.canLayAll0, (h i List.mem_cons_self).txs, ih fun x hx => h x (List.mem_cons_of_mem _ hx)]
  have h2 : ∀ l : List Ask, PyData.depthAll (l.map Ask.d) ≤ 1 := by
    intro l
    induction l with
    | nil => simp [PyData.depthAll]
    | cons i l ih => simp only [List.map_cons, PyData.depthAll, ask_depth]; omega
  have h3 := h2 l
  have h4 : PyData.depth (.list (l.map Ask.d)) ≤ 64 := by
    unfold PyData.depth
    omega
  unfold SeqAt.shaped
  rw [decide_eq_true h4, show PyData.canLay0 (.list (l.map Ask.d)) = true by unfold PyData.canLay0; exact h1 l h]
  rfl
theorem shaped_ask {k : Ask} (h : AskW k) : SeqAt.shaped k.d = true := by
  unfold SeqAt.shaped
  rw [h.txs, ask_depth]
  rfl
theorem eqv_ask (k k' : Ask) : PyData.eqv k.d k'.d = decide (k = k') := by
  obtain ⟨x, y, i⟩ := k
  obtain ⟨x', y', i'⟩ := k'
  simp only [Ask.d, PyData.eqv, PyData.eqvAll, eqv_oD, Bool.and_true]
  by_cases c1 : x = x' <;> by_cases c2 : y = y' <;> by_cases c3 : i = i' <;> simp [c1, c2, c3]
theorem eqv_asks : ∀ (l m : List Ask), PyData.eqv (.list (l.map Ask.d)) (.list (m.map Ask.d)) = decide (l = m) := by
  have h : ∀ (l m : List Ask), PyData.eqvAll (l.map Ask.d) (m.map Ask.d) = decide (l = m) := by
    intro l
    induction l with
    | nil => intro m; cases m <;> simp [PyData.eqvAll]
    | cons x l ih => intro m; cases m with
      | nil => simp [PyData.eqvAll]
      | cons y m => by_cases c : x = y <;> simp [PyData.eqvAll, eqv_ask, ih, c]
  intro l m
  simp [PyData.eqv, h]
theorem oEqD_asks {neg : Bool} {l m : List Ask} (h : ∀ k ∈ l, AskW k) (h2 : ∀ k ∈ m, AskW k) : oEqD neg (asksT l) (asksT m) = some (.bl (neg ^^ decide (l = m))) := by
  rw [oEqD_of (dat_asks l) (dat_asks m) (shaped_asks h) (shaped_asks h2), eqv_asks]
  cases neg <;> simp
theorem oEqD_strs' {neg : Bool} {l m : List Str} (h : Txs l) (h2 : Txs m) : oEqD neg (strsT l) (strsT m) = some (.bl (neg ^^ decide (l = m))) := by
  rw [oEqD_strs h h2, eqv_strs]
  cases neg <;> simp
theorem oEqD_ask {neg : Bool} {k k' : Ask} (h : AskW k) (h2 : AskW k') : oEqD neg k.x k'.x = some (.bl (neg ^^ decide (k = k'))) := by
  rw [oEqD_of (dat_ask k) (dat_ask k') (shaped_ask h) (shaped_ask h2), eqv_ask]
  cases neg <;> simp
theorem oEqD_bl {neg a b : Bool} : oEqD neg (.bl a) (.bl b) = some (.bl (neg ^^ decide (a = b))) := by
  rw [oEqD_of (d := .bool a) (e := .bool b) toDX_bl toDX_bl rfl rfl]
  cases a <;> cases b <;> cases neg <;> rfl
theorem srt_mem {l : List Ask} {k : Ask} : k ∈ srt l ↔ k ∈ l := (List.mergeSort_perm _ _).mem_iff
/-- what == says of two systems -/
noncomputable def sameS (n n' : List Str) (r r' : List Ask) : Bool := decide (srtS n = srtS n') && decide (srt (dd r) = srt (dd r'))
theorem eq_q (a : Ad) {n n' : List Str} {r r' : List Ask} (h : SysOk n r) (h' : SysOk n' r') : x_System_eq a [sysT a n r, sysT a n' r'] = .ok (.bl (sameS n n' r r')) false [] := by
  have e1 := oEqD_strs' (neg := false) (l := srtS n) (m := srtS n') (fun x hx => (h.nm x (srtS_mem.mp hx)).ok) (fun x hx => (h'.nm x (srtS_mem.mp hx)).ok)
  have e2 := oEqD_asks (neg := false) (l := srt (dd r)) (m := srt (dd r')) (fun k hk => h.rw k (dd_mem.mp (srt_mem.mp hk))) (fun k hk => h'.rw k (dd_mem.mp (srt_mem.mp hk)))
  have i1 : oIsi [a.C_System] (ansC a.C_System [a.C_System]) (.ins a.C_System [("settings", strsT (srtS n')), ("gaps", asksT (srt (dd r')))]) = some (.bl true) := by
    rw [isc_ins (List.mem_singleton.mpr rfl)]; simp
  have ne : ¬ ("settings" : Str) = "gaps" := by decide
  have nb : (("gaps" : Str) == ("settings" : Str)) = false := by decide
  unfold x_System_eq sysT
  rw [xfn_ap]
  unfold sameS
  by_cases c : srtS n = srtS n'
  · rw [c] at e1
    simp [i1, oFld, List.lookup_cons, nb, e1, e2, c]
  · rw [decide_eq_false c] at e1
    simp [i1, oFld, List.lookup_cons, nb, e1, c]
theorem eq_other (a : Ad) {n : List Str} {r : List Ask} {t : XV} {u : String} (h : tagX [a.C_System] t = some (.type u)) (hu : u ∈ tNames) : x_System_eq a [sysT a n r, t] = .ok (.bl false) false [] := by
  have i1 := isc_other (D := a.C_System) h hu
  unfold x_System_eq
  rw [xfn_ap]
  simp [i1]
noncomputable def ownK (neg : Bool) (C : Addr) (own : List Addr) (ms : List Md) (p : XFn) (a b : BV) (τ2 : XSt) : Option (List (Str × XV)) → Option Value → XR XV
  | some _, some _ => (noE (callX τ2 ms [a, b] p)).bind fun t τ3 => (match isTrue t with
    | some c => .ok (.bl (if neg = true then !c else c)) τ3
    | none => .bad)
  | _, _ => .bad
@[simp] theorem xOwn_ap {neg : Bool} {C : Addr} {own : List Addr} {ms : List Md} {p : XFn} {f g : XB} {τ : XSt} : xOwn neg C own ms p f g τ = (f τ).bind fun a τ1 => (g τ1).bind fun b τ2 => ownK neg C own ms p a b τ2 ((resB τ2 a).bind (insOf C)) ((resB τ2 b).bind (tagX own)) := (rfl)
@[simp] theorem ownK_some {neg : Bool} {C : Addr} {own : List Addr} {ms : List Md} {p : XFn} {a b : BV} {τ2 : XSt} {fs : List (Str × XV)} {u : Value} : ownK neg C own ms p a b τ2 (some fs) (some u) = (noE (callX τ2 ms [a, b] p)).bind fun t τ3 => (match isTrue t with
    | some c => .ok (.bl (if neg = true then !c else c)) τ3
    | none => .bad) := (rfl)
theorem insOf_sys (a : Ad) {n : List Str} {r : List Ask} : insOf a.C_System (sysT a n r) = some [(("settings" : Str), strsT (srtS n)), (("gaps" : Str), asksT (srt (dd r)))] := insOf_self
theorem tag_sys (a : Ad) {n : List Str} {r : List Ask} : tagX [a.C_System] (sysT a n r) = some (.ref a.C_System) := if_pos (List.mem_singleton.mpr rfl)
noncomputable def makeK (C : Addr) (ms : List Md) (p : XFn) (bs : List BV) (τ1 : XSt) : XFR → XR XV
  | .ok .non false (t :: outs) => .ok t (putOuts τ1 ms bs outs)
  | .err D fs (_ :: outs) => .err D fs (putOuts τ1 ms bs outs)
  | _ => .bad
noncomputable def makeA (C : Addr) (ms : List Md) (p : XFn) (bs : List BV) (τ1 : XSt) : Option (List XV) → XR XV
  | none => .bad
  | some ts => if (varsOf bs).Nodup then makeK C ms p bs τ1 (p (.ins C [] :: ts)) else .bad
@[simp] theorem xMake_ap {C : Addr} {ms : List Md} {p : XFn} {g : XM} {τ : XSt} : xMake C ms p g τ = (g τ).bind fun bs τ1 => makeA C ms p bs τ1 (getArgs τ1 ms bs) := by
  unfold xMake
  cases g τ with
  | ok bs τ1 =>
    simp only [XR.bind_ok]
    unfold makeA
    cases getArgs τ1 ms bs with
    | none => rfl
    | some ts =>
      dsimp only
      split
      · unfold makeK
        split <;> simp_all
      · rfl
  | err _ _ _ => rfl
  | bad => rfl
@[simp] theorem makeA_some {C : Addr} {ms : List Md} {p : XFn} {bs : List BV} {τ1 : XSt} {ts : List XV} : makeA C ms p bs τ1 (some ts) = if (varsOf bs).Nodup then makeK C ms p bs τ1 (p (.ins C [] :: ts)) else .bad := (rfl)
@[simp] theorem makeK_ok {C : Addr} {ms : List Md} {p : XFn} {bs : List BV} {τ1 : XSt} {t : XV} {outs : List XV} : makeK C ms p bs τ1 (.ok .non false (t :: outs)) = .ok t (putOuts τ1 ms bs outs) := (rfl)
/-! systems that differ in one thing -/
def pairT (p : List Str × List Ask) : XV := .lst [strsT p.1, asksT p.2]
theorem oAdd_l {A B : List XV} (h : A.length + B.length ≤ 1000) : oAdd (.lst A) (.lst B) = some (.lst (A ++ B)) := by
  unfold oAdd
  dsimp only
  rw [if_pos (by rw [List.length_append]; exact sz h)]
theorem oAddL_l {A B : List XV} (h : A.length + B.length ≤ 1000) : oAddL (.lst A) (.lst B) = some (.lst (A ++ B)) := by
  unfold oAddL
  dsimp only
  rw [if_pos (by rw [List.length_append]; exact sz h)]
def cntK (b : BV) (g : XE) (τ1 : XSt) : Option XV → XR XV
  | some (.lst _) => (g τ1).bind fun y τ2 => ofO ((resB τ2 b).bind fun t => oCount t y) τ2
  | _ => .bad
@[simp] theorem xCount_ap {f : XB} {g : XE} {τ : XSt} : xCount f g τ = (f τ).bind fun b τ1 => cntK b g τ1 (resB τ1 b) := by
  unfold xCount
  cases f τ with
  | ok b τ1 =>
    simp only [XR.bind_ok]
    cases resB τ1 b with
    | none => rfl
    | some t => cases t <;> rfl
  | err _ _ _ => rfl
  | bad => rfl
@[simp] theorem cntK_l {b : BV} {g : XE} {τ1 : XSt} {ts : List XV} : cntK b g τ1 (some (.lst ts)) = (g τ1).bind fun y τ2 => ofO ((resB τ2 b).bind fun t => oCount t y) τ2 := (rfl)
theorem ask_plain (k : Ask) : k.d.plain = true := by
  obtain ⟨x, y, i⟩ := k
  cases x <;> cases y <;> rfl
theorem oCount_asks {l : List Ask} {k : Ask} (hl : l.length ≤ 1000) : ∃ c : Nat, oCount (asksT l) k.x = some (.int c) := by
  have h1 : ∀ l : List Ask, PyData.plainAll (l.map Ask.d) = true := by
    intro l
    induction l with
    | nil => rfl
    | cons i l ih => simp only [List.map_cons, PyData.plainAll, ask_plain, ih, Bool.and_self]
  have h2 : ∀ l : List Ask, PyData.depthAll (l.map Ask.d) ≤ 1 := by
    intro l
    induction l with
    | nil => simp [PyData.depthAll]
    | cons i l ih => simp only [List.map_cons, PyData.depthAll, ask_depth]; omega
  unfold oCount
  rw [dat_asks, dat_ask]
  dsimp only
  have := h2 l
  rw [if_pos ⟨⟨h1 l, ask_plain k⟩, by omega, by rw [List.length_map]; exact sz hl⟩]
  exact ⟨_, rfl⟩
end WS

set_option Elab.async false
set_option linter.all false
set_option maxRecDepth 100000
/-! Systems that differ in one thing: drawn. -/
namespace WS
open PySem PySem.Spec PyProof.Rows L2
open PySem.W (dataLt dataLe keyToks alike AllAlike Sortable SortsAt sortVals)
open Classical
theorem nameOk_mid : NameOk "mid" := ⟨by decide +kernel, by decide +kernel⟩
theorem nameOk_late : NameOk "late" := ⟨by decide +kernel, by decide +kernel⟩
theorem nameOk_nine : ∀ x ∈ nine, NameOk x := by
  have h : (nine.all fun x => isNameS x && PyData.strOk x) = true := by decide +kernel
  intro x hx
  have := List.all_eq_true.mp h x hx
  rw [Bool.and_eq_true] at this
  exact ⟨this.1, this.2⟩
theorem filterMap_ne {k : Ask} : ∀ l : List Ask, (l.filterMap fun x => if x = k then none else some x.x) = (l.filter fun x => !decide (x = k)).map Ask.x
  | [] => rfl
  | x :: l => by
    by_cases c : x = k
    · rw [List.filterMap_cons_none (by simp [c]), List.filter_cons_of_neg (by simp [c]), filterMap_ne l]
    · rw [List.filterMap_cons_some (b := x.x) (by simp [c]), List.filter_cons_of_pos (by simp [c]), filterMap_ne l]; rfl
theorem SysOk.sub {n : List Str} {r r' : List Ask} (h : SysOk n r) (hl : r'.length ≤ 900) (s : ∀ k ∈ r', AskW k ∧ EndOk n k.1 ∧ EndOk n k.2.1) : SysOk n r' := ⟨h.nm, h.nd, h.nl, hl, fun k hk => (s k hk).1, fun k hk => (s k hk).2⟩
set_option maxHeartbeats 1000000 in
theorem others_q (a : Ad) {nyms : List Str} {gaps : List Ask} (h : SysOk nyms gaps) (hn : nyms.length ≤ 100) (hg : gaps.length ≤ 100) (mid : ("mid" : Str) ∈ nyms) (late : ("late" : Str) ∉ nyms) :
    ∃ ps : List (List Str × List Ask), x_law_others a [strsT nyms, asksT gaps] = .ok (.lst (ps.map pairT)) true [] ∧ ps.length ≤ 900 ∧ ∀ p ∈ ps, SysOk p.1 p.2 ∧ p.1.length ≤ 101 ∧ p.2.length ≤ 101 := by
  obtain ⟨Q, hQ⟩ : ∃ Q : List (List Str × List Ask) → Prop, Q = fun ps => ps.length ≤ 900 ∧ ∀ p ∈ ps, SysOk p.1 p.2 ∧ p.1.length ≤ 101 ∧ p.2.length ≤ 101 := ⟨_, rfl⟩
  suffices hs : ∃ ps : List (List Str × List Ask), x_law_others a [strsT nyms, asksT gaps] = .ok (.lst (ps.map pairT)) true [] ∧ Q ps by subst hQ; exact hs
  have nm1 : ∀ {n : List Str}, (∀ x ∈ n, NameOk x) → ∀ x ∈ n ++ [("late" : Str)], NameOk x := fun h x hx => by
    rcases List.mem_append.mp hx with hx | hx
    · exact h x hx
    · rw [List.mem_singleton] at hx; subst hx; exact nameOk_late
  have s0 : SysOk (nyms ++ [("late" : Str)]) gaps := ⟨nm1 h.nm, List.nodup_append.mpr ⟨h.nd, by simp, fun x hx y hy e => late (by rw [List.mem_singleton] at hy; rw [← hy, ← e]; exact hx)⟩, by simp; omega, by omega, h.rw, fun k hk => ⟨fun x e => List.mem_append_left _ ((h.re k hk).1 x e), fun x e => List.mem_append_left _ ((h.re k hk).2 x e)⟩⟩
  have k77 : AskW ((some "mid", none, 77) : Ask) := ⟨fun x e => (by cases e; exact nameOk_mid), fun x e => (by cases e), by simp, by decide, by decide⟩
  have add : ∀ {r : List Ask} {k : Ask}, (∀ k ∈ r, AskW k ∧ EndOk nyms k.1 ∧ EndOk nyms k.2.1) → AskW k → EndOk nyms k.1 → EndOk nyms k.2.1 → r.length ≤ 899 → SysOk nyms (r ++ [k]) := fun hr hk e1 e2 l => h.sub (by simp; omega) fun x hx => by
    rcases List.mem_append.mp hx with hx | hx
    · exact hr x hx
    · rw [List.mem_singleton] at hx; subst hx; exact ⟨hk, e1, e2⟩
  have all0 : ∀ k ∈ gaps, AskW k ∧ EndOk nyms k.1 ∧ EndOk nyms k.2.1 := fun k hk => ⟨h.rw k hk, h.re k hk⟩
  have s1 : SysOk nyms (gaps ++ [((some "mid", none, 77) : Ask)]) := add all0 k77 (fun x e => (by cases e; exact mid)) (fun x e => (by cases e)) (by omega)
  obtain ⟨N1, hN1⟩ : ∃ N, N = nyms ++ [("late" : Str)] := ⟨_, rfl⟩
  obtain ⟨G1, hG1⟩ : ∃ G, G = gaps ++ [((some "mid", none, 77) : Ask)] := ⟨_, rfl⟩
  have e1 : oAdd (strsT nyms) (.lst [.str ("late" : Str)]) = some (strsT N1) := by
    unfold strsT
    rw [oAdd_l (by simp; omega), hN1]; simp
  have e2 : oAdd (asksT gaps) (.lst [.tup [.str ("mid" : Str), .non, .int 77]]) = some (asksT G1) := by
    unfold asksT
    rw [oAdd_l (by simp; omega), hG1]; simp [Ask.x, oX]
  have e3 : oLen (asksT gaps) = some (.int gaps.length) := by unfold asksT; rw [oLen_lst, List.length_map]
  unfold x_law_others
  rw [xfn_ap]
  simp [e1, e2, e3, rg1_nat (show gaps.length < 1000000 by omega)]
  obtain ⟨I, hI⟩ : ∃ I : Nat → XSt → Prop, I = fun i τ => ∃ (ps : List (List Str × List Ask)) (x3 x4 x5 x6 x7 : Option Slot), τ = [some (.sh (strsT nyms)), some (.sh (asksT gaps)), some (.ow (.lst (ps.map pairT))), x3, x4, x5, x6, x7, none] ∧
      (muO (some x3) = false ∧ muO (some x4) = false ∧ muO (some x5) = false ∧ muO (some x6) = false ∧ muO (some x7) = false) ∧ ps.length ≤ 2 + 3 * i ∧ ∀ p ∈ ps, SysOk p.1 p.2 ∧ p.1.length ≤ 101 ∧ p.2.length ≤ 101 := ⟨_, rfl⟩
  refine for_seq (P := fun r => ∃ ps : List (List Str × List Ask), endX [.sh, .sh] r = .ok (.lst (ps.map pairT)) true [] ∧ Q ps) I ?_ ?_ ?_
  · subst hI
    refine ⟨[(N1, gaps), (nyms, G1)], none, none, none, none, none, rfl, ⟨rfl, rfl, rfl, rfl, rfl⟩, by simp, fun p hp => ?_⟩
    rcases List.mem_cons.mp hp with e | hp
    · subst e hN1; exact ⟨s0, by simp; omega, by simp; omega⟩
    · rw [List.mem_singleton] at hp; subst hp hG1; exact ⟨s1, by simp; omega, by simp; omega⟩
  · intro i x τ hx hIi
    rw [hI] at hIi
    obtain ⟨ps, x3, x4, x5, x6, x7, rfl, ⟨h3, h4, h5, h6, h7⟩, lp, kp⟩ := hIi
    have hi : i < gaps.length := by
      have := (List.getElem?_eq_some_iff.mp hx).1
      rw [rng_len] at this
      exact this
    rw [rng_get hi] at hx
    cases hx
    obtain ⟨k, hk⟩ : ∃ k, gaps[i]? = some k := ⟨_, List.getElem?_eq_getElem hi⟩
    have mk : k ∈ gaps := List.mem_of_getElem? hk
    have wk := h.rw k mk
    obtain ⟨r1, r2⟩ := h.re k mk
    have it : oItm (asksT gaps) (.int (i : Int)) = some k.x := by
      unfold asksT
      rw [oItm_lst, ix_nat (by rw [List.length_map]; exact hi), Option.bind_some, List.getElem?_map, hk]
      rfl
    have ask0 : asSeq (asksT gaps) = some (gaps.map Ask.x) := rfl
    obtain ⟨L, hL⟩ : ∃ L, L = gaps.filter fun x => !decide (x = k) := ⟨_, rfl⟩
    have hLl : L.length ≤ gaps.length := by rw [hL]; exact List.length_filter_le _ _
    have hLm : ∀ x ∈ L, AskW x ∧ EndOk nyms x.1 ∧ EndOk nyms x.2.1 := fun x hx => all0 x (by rw [hL] at hx; exact (List.mem_filter.mp hx).1)
    have less : ∀ τ : XSt, τ[8]? = some none → τ[1]? = some (some (.sh (asksT gaps))) → τ[3]? = some (some (.sh (.int i))) → xLcT [8] (xpN 8) (xT (x2 (oEqD true) (xN 8) (xB (x2 oItm (xN 1) (xN 3))))) (xV 8) (gaps.map Ask.x) τ = .ok (asksT L) τ := fun τ t8 t1 t3 => by
      have hl := (List.getElem?_eq_some_iff.mp t8).1
      rw [lcN_fm (fun x => if x = k then none else some x.x) (by omega) t8 fun x hx => ?_, filterMap_ne, ← hL]
      · rfl
      · have := oEqD_ask (neg := true) (h.rw x hx) wk
        by_cases c : x = k
        · subst c
          simp [hl, t1, t3, it, this]
        · simp [hl, t1, t3, it, this, c]
    obtain ⟨lo, hi', g⟩ := k
    have g1 : -999 ≤ g := wk.g1
    have g2 : g ≤ 999 := wk.g2
    obtain ⟨c, hc⟩ := oCount_asks (l := gaps) (k := (hi', lo, g)) (by omega)
    have hc' : oCount (asksT gaps) (.tup [oX hi', oX lo, .int g]) = some (.int c) := hc
    obtain ⟨g', b9, w9, hb9, hw9, hg', b1, b2⟩ : ∃ (g' : Int) (b9 : Bool) (w9 : Int), oEqD false (.int g) (.int 999) = some (.bl b9) ∧ oItm (.lst [.int 1, .int (-1)]) (.int (if b9 = true then 1 else 0)) = some (.int w9) ∧ oAdd (.int g) (.int w9) = some (.int g') ∧ -999 ≤ g' ∧ g' ≤ 999 := by
      by_cases c9 : g = 999
      · exact ⟨g + -1, true, -1, by rw [oEqD_int, decide_eq_true c9]; rfl, by simp, rfl, by omega, by omega⟩
      · exact ⟨g + 1, false, 1, by rw [oEqD_int, decide_eq_false c9]; rfl, by simp, rfl, by omega, by omega⟩
    obtain ⟨L1, hL1⟩ : ∃ l, l = L ++ [((lo, hi', g') : Ask)] := ⟨_, rfl⟩
    obtain ⟨L2, hL2⟩ : ∃ l, l = L ++ [((hi', lo, g) : Ask)] := ⟨_, rfl⟩
    have w1 : AskW ((lo, hi', g') : Ask) := ⟨wk.l, wk.r, wk.ne, b1, b2⟩
    have w2 : AskW ((hi', lo, g) : Ask) := ⟨wk.r, wk.l, fun e => wk.ne e.symm, g1, g2⟩
    have a1 : oAdd (asksT L) (.lst [.tup [oX lo, oX hi', .int g']]) = some (asksT L1) := by
      unfold asksT
      rw [oAdd_l (by simp; omega), hL1]; simp [Ask.x]
    have a2 : oAdd (asksT L) (.lst [.tup [oX hi', oX lo, .int g]]) = some (asksT L2) := by
      unfold asksT
      rw [oAdd_l (by simp; omega), hL2]; simp [Ask.x]
    obtain ⟨P1, hP1⟩ : ∃ P : List (List Str × List Ask), P = ps ++ [(nyms, L), (nyms, L1)] := ⟨_, rfl⟩
    have a3 : oAddL (.lst (ps.map pairT)) (.lst [.lst [strsT nyms, asksT L], .lst [strsT nyms, asksT L1]]) = some (.lst (P1.map pairT)) := by
      rw [oAddL_l (by simp; omega), hP1]; simp [pairT]
    obtain ⟨P2, hP2⟩ : ∃ P : List (List Str × List Ask), P = P1 ++ [(nyms, L2)] := ⟨_, rfl⟩
    have lP1 : P1.length = ps.length + 2 := by rw [hP1]; simp
    have a4 : oApp (P1.map pairT) [.lst [strsT nyms, asksT L2]] = some (P2.map pairT, .non) := by
      rw [oApp_ok (by rw [List.length_map]; omega), hP2]; simp [pairT]
    have kp1 : ∀ p ∈ P1, SysOk p.1 p.2 ∧ p.1.length ≤ 101 ∧ p.2.length ≤ 101 := fun p hp => by
      rw [hP1] at hp
      rcases List.mem_append.mp hp with hp | hp
      · exact kp p hp
      · rcases List.mem_cons.mp hp with e | hp
        · subst e; exact ⟨h.sub (show L.length ≤ 900 by omega) hLm, by show nyms.length ≤ 101; omega, by show L.length ≤ 101; omega⟩
        · rw [List.mem_singleton] at hp; subst hp hL1
          exact ⟨add hLm w1 r1 r2 (by omega), by show nyms.length ≤ 101; omega, by simp; omega⟩
    have kp2 : ∀ p ∈ P2, SysOk p.1 p.2 ∧ p.1.length ≤ 101 ∧ p.2.length ≤ 101 := fun p hp => by
      rw [hP2] at hp
      rcases List.mem_append.mp hp with hp | hp
      · exact kp1 p hp
      · rw [List.mem_singleton] at hp; subst hp hL2
        exact ⟨add hLm w2 r2 r1 (by omega), by show nyms.length ≤ 101; omega, by simp; omega⟩
    refine ⟨[some (.sh (strsT nyms)), some (.sh (asksT gaps)), some (.ow (.lst (ps.map pairT))), some (.sh (.int i)), x4, x5, x6, x7, none], by simp [setN_0 h3], ?_⟩
    have kx : Ask.x (lo, hi', g) = .tup [oX lo, oX hi', .int g] := rfl
    rw [kx] at it
    have aq : (asksT gaps) = .lst (gaps.map Ask.x) := rfl
    have sl : slT (some (some (.sh (asksT gaps)))) = some (.lst (gaps.map Ask.x)) := rfl
    have hcl : ∀ b : BV, ∀ g0 : XE, ∀ τ1 : XSt, cntK b g0 τ1 (some (asksT gaps)) = (g0 τ1).bind fun y τ2 => ofO ((resB τ2 b).bind fun t => oCount t y) τ2 := fun _ _ _ => rfl
    have fin : ∀ (P : List (List Str × List Ask)) (x4 x5 x6 x7 : Option Slot), (muO (some x4) = false ∧ muO (some x5) = false ∧ muO (some x6) = false ∧ muO (some x7) = false) → P.length ≤ ps.length + 3 → (∀ p ∈ P, SysOk p.1 p.2 ∧ p.1.length ≤ 101 ∧ p.2.length ≤ 101) → I (i + 1) [some (.sh (strsT nyms)), some (.sh (asksT gaps)), some (.ow (.lst (P.map pairT))), some (.sh (.int i)), x4, x5, x6, x7, none] := fun P x4 x5 x6 x7 hh hl hp => by
      subst hI
      exact ⟨P, _, _, _, _, _, rfl, ⟨rfl, hh⟩, by omega, hp⟩
    have i2 : oInt (.bl b9) = some (.int (if b9 = true then 1 else 0)) := rfl
    obtain ⟨J, hJ⟩ : ∃ J, J = (if b9 = true then (1 : Int) else 0) := ⟨_, rfl⟩
    rw [← hJ] at hw9 i2
    have q0 : oEqD false (.int (c : Int)) (.int 0) = some (.bl (decide (c = 0))) := by rw [oEqD_int]; simp
    by_cases c0 : c = 0
    · rw [decide_eq_true c0] at q0
      simp [setN_0 h4, setN_0 h5, setN_0 h6, setN_0 h7, it, ask0, less, hb9, hw9, hg', i2, a1, a3, hcl, hc', q0, a2, a4, -oAdd_i, -oInt_b, -oItm_lst]
      refine fin P2 _ _ _ _ ?_ (by rw [hP2]; simp; omega) kp2
      exact ⟨rfl, rfl, rfl, rfl⟩
    · rw [decide_eq_false c0] at q0
      simp [setN_0 h4, setN_0 h5, setN_0 h6, setN_0 h7, it, ask0, less, hb9, hw9, hg', i2, a1, a3, hcl, hc', q0, a2, a4, -oAdd_i, -oInt_b, -oItm_lst]
      refine fin P1 _ _ _ _ ?_ (by omega) kp1
      exact ⟨rfl, rfl, rfl, rfl⟩
  · intro τ' hIt
    subst hI
    obtain ⟨ps, x3, x4, x5, x6, x7, rfl, _, lp, kp⟩ := hIt
    rw [rng_len] at lp
    subst hQ
    exact ⟨ps, by simp, by omega, kp⟩
end WS

set_option Elab.async false
set_option linter.all false
set_option maxRecDepth 100000
/-! The law itself. -/
namespace WS
open PySem PySem.Spec PyProof.Rows L2
open PySem.W (dataLt dataLe keyToks alike AllAlike Sortable SortsAt sortVals)
open Classical
theorem dd_srt (l : List Ask) : dd (srt l) = (if (srt l).Nodup then srt l else dd (srt l)) := by
  split
  · rename_i h; exact dd_self h
  · rfl
theorem srt_dd_self (l : List Ask) : srt (dd (srt (dd l))) = srt (dd l) := by
  have h : (srt (dd l)).Nodup := (List.mergeSort_perm _ _).nodup_iff.mpr (dd_nd l)
  rw [dd_self h]
  exact sort_idem (dd l)
theorem oRev_strs {l : List Str} (h : l.length ≤ 1000) : oRev (strsT l) = some (strsT l.reverse) := by
  unfold oRev strsT
  dsimp only
  rw [if_pos (by simp; exact sz h)]
  simp
theorem oRev_asks {l : List Ask} (h : l.length ≤ 1000) : oRev (asksT l) = some (asksT l.reverse) := by
  unfold oRev asksT
  dsimp only
  rw [if_pos (by simp; exact sz h)]
  simp
theorem mkL_7 {τ : XSt} {a b c d e f g : XV} : mkL τ [a, b, c, d, e, f, g] = .ok (.lst [a, b, c, d, e, f, g]) τ := mkL_ok (by simp)
theorem SysOk.rev {n : List Str} {r : List Ask} (h : SysOk n r) : SysOk n.reverse r.reverse := ⟨fun x hx => h.nm x (List.mem_reverse.mp hx), (List.reverse_perm n).nodup_iff.mpr h.nd, by simpa using h.nl, by simpa using h.rl, fun k hk => h.rw k (List.mem_reverse.mp hk), fun k hk => ⟨fun x e => List.mem_reverse.mpr ((h.re k (List.mem_reverse.mp hk)).1 x e), fun x e => List.mem_reverse.mpr ((h.re k (List.mem_reverse.mp hk)).2 x e)⟩⟩
theorem sameS_rev {n : List Str} {r : List Ask} (h : SysOk n r) : sameS n n.reverse r r.reverse = true := by
  unfold sameS
  rw [srtS_perm (List.reverse_perm n).symm, srt_perm_eq (dd_perm fun x => (List.mem_reverse (as := r)).symm) fun k hk => (h.rw k (dd_mem.mp hk)).n]
  simp
theorem sameS_self {n : List Str} {r : List Ask} : sameS n n r r = true := by unfold sameS; simp
theorem sysOk_nil : SysOk [] [] := ⟨fun _ h => (by cases h), by simp, by simp, by simp, fun _ h => (by cases h), fun _ h => (by cases h)⟩
set_option maxHeartbeats 1000000 in
theorem law_q (a : Ad) (ns : List Int) : ∃ outs, x_law a [.sl ns] = .ok (.bl true) false outs := by
  obtain ⟨p0, e0, pn0⟩ := pen_q a ns
  unfold x_law
  rw [xfn_ap]
  have r6 : ∀ τ : XSt, rg1 τ (some 6) = .ok (rngX 0 6) τ := fun τ => rg1_nat (n := 6) (by decide)
  simp [e0, r6]
  obtain ⟨I, hI⟩ : ∃ I : Nat → XSt → Prop, I = fun (i : Nat) (τ : XSt) => ∃ (p : XV) (x2 x3 x4 x5 x6 x7 x8 x9 x10 : Option Slot), τ = [some (.sh (.sl ns)), some (.ow p), x2, x3, x4, x5, x6, x7, x8, x9, x10] ∧
      (muO (some x2) = false ∧ muO (some x3) = false ∧ muO (some x4) = false ∧ muO (some x5) = false ∧ muO (some x6) = false ∧ muO (some x7) = false ∧ muO (some x8) = false ∧ muO (some x9) = false ∧ muO (some x10) = false) ∧ PenX p (100 * (i : Int)) := ⟨_, rfl⟩
  refine for_seq (P := fun r => ∃ outs, endX [.sh] r = .ok (.bl true) false outs) I ?_ ?_ ?_
  · subst hI
    exact ⟨p0, none, none, none, none, none, none, none, none, none, rfl, ⟨rfl, rfl, rfl, rfl, rfl, rfl, rfl, rfl, rfl⟩, by simpa using pn0⟩
  · intro i x τ hx hIi
    rw [hI] at hIi
    obtain ⟨p, x2, x3, x4, x5, x6, x7, x8, x9, x10, rfl, ⟨h2, h3, h4, h5, h6, h7, h8, h9, h10⟩, pn⟩ := hIi
    have hi : i < 6 := by
      have := (List.getElem?_eq_some_iff.mp hx).1
      rw [rng_len] at this
      exact this
    obtain ⟨l, p1, e1, nd1, ml, ll, pn1⟩ := nyms_q a (most := 5) pn (by omega) (by omega) (by omega)
    have nmid : ("mid" : Str) ∉ l := fun h => absurd (ml _ h) (by decide)
    obtain ⟨N, hN⟩ : ∃ N, N = ("mid" : Str) :: l := ⟨_, rfl⟩
    have ndN : N.Nodup := by rw [hN]; exact List.nodup_cons.mpr ⟨nmid, nd1⟩
    have lN : N.length ≤ 6 := by rw [hN, List.length_cons]; omega
    have okN : ∀ x ∈ N, NameOk x := fun x hx => by
      rw [hN] at hx
      rcases List.mem_cons.mp hx with e | hx
      · subst e; exact nameOk_mid
      · exact nameOk_nine x (ml x hx)
    have late : ("late" : Str) ∉ N := fun h => by
      rw [hN] at h
      rcases List.mem_cons.mp h with e | h
      · exact absurd e (by decide)
      · exact absurd (ml _ h) (by decide)
    have a1 : oAdd (.lst [.str ("mid" : Str)]) (strsT l) = some (strsT N) := by
      unfold strsT
      rw [oAdd_l (by simp; omega), hN]
      rfl
    obtain ⟨g, p2, e2, gk, gb, pn2⟩ := goal_q a (nyms := N) pn1 ndN (by omega) (by omega)
    obtain ⟨A, p3, e3, lA, kA, pn3⟩ := gaps_q a (nyms := N) (gs := [g]) (most := 8) pn2 (by simp) (by simp) (fun g' hg => by rw [List.mem_singleton] at hg; subst hg; exact ⟨gk, gb⟩) ndN (fun x hx => (okN x hx).ok) (by omega) (by omega) (by omega) (by omega)
    have wA : ∀ k ∈ A, AskW k := fun k hk => ⟨fun x e => okN x ((kA k hk).1.lo x e), fun x e => okN x ((kA k hk).1.hi x e), (kA k hk).1.ne, (kA k hk).1.g1, (kA k hk).1.g2⟩
    have lA' : A.length ≤ 16 := by omega
    have e4 := sorted_q a (l := A) (fun k hk => (wA k hk).n) (by omega)
    obtain ⟨G, hG⟩ : ∃ G, G = srt (dd A) := ⟨_, rfl⟩
    rw [← hG] at e4
    have mG : ∀ k, k ∈ G ↔ k ∈ A := fun k => by rw [hG, srt_mem, dd_mem]
    have lG : G.length ≤ 16 := by
      rw [hG]
      unfold srt
      rw [List.length_mergeSort]
      exact Nat.le_trans (dd_len A) lA'
    have GG : srt (dd G) = G := by rw [hG]; exact srt_dd_self A
    have ok : SysOk N G := ⟨okN, ndN, by omega, by omega, fun k hk => wA k ((mG k).mp hk), fun k hk => ⟨(kA k ((mG k).mp hk)).1.lo, (kA k ((mG k).mp hk)).1.hi⟩⟩
    have i1 := init_q a ok
    have i2 := init_q a ok.rev
    have q1 := eq_q a ok ok.rev
    rw [sameS_rev ok] at q1
    have q2 := eq_q a ok ok
    rw [sameS_self] at q2
    have rv1 := oRev_strs (l := N) (by omega)
    have rv2 := oRev_asks (l := G) (by omega)
    obtain ⟨ps, e5, lps, kps⟩ := others_q a ok (by omega) (by omega) (by rw [hN]; exact List.mem_cons_self) late
    refine ⟨[some (.sh (.sl ns)), some (.ow p), some (.sh x), x3, x4, x5, x6, x7, x8, x9, x10], by simp [setN_0 h2], ?_⟩
    have pn3' : PenX p3 (100 * ((i + 1 : Nat) : Int)) := pn3.le (by push_cast; omega)
    have goals : ([g].map goalT) = [goalT g] := rfl
    rw [goals] at e3
    simp [setN_0 h3, setN_0 h4, setN_0 h5, e1, a1, e2, e3, e4, i1, i2, q1, q2, rv1, rv2, insOf_sys, tag_sys, e5]
    obtain ⟨J, hJ⟩ : ∃ J : Nat → XSt → Prop, J = fun _ τ => ∃ (x6 x7 x8 x9 : Option Slot), τ = [some (.sh (.sl ns)), some (.ow p3), some (.sh x), some (.sh (strsT N)), some (.sh (asksT G)), some (.sh (sysT a N G)), x6, x7, x8, x9, x10] ∧
        (muO (some x6) = false ∧ muO (some x7) = false ∧ muO (some x8) = false ∧ muO (some x9) = false) := ⟨_, rfl⟩
    refine for_seq (P := fun r => NxI (I (i + 1)) r) J ?_ ?_ ?_
    · subst hJ
      exact ⟨x6, x7, x8, x9, rfl, h6, h7, h8, h9⟩
    · intro j y τ hy hJj
      rw [hJ] at hJj
      obtain ⟨y6, y7, y8, y9, rfl, g6, g7, g8, g9⟩ := hJj
      rw [List.getElem?_map] at hy
      cases qy : ps[j]? with
      | none => rw [qy] at hy; cases hy
      | some w =>
        rw [qy] at hy
        cases hy
        obtain ⟨n', r'⟩ := w
        obtain ⟨ok', ln', lr'⟩ := kps _ (List.mem_of_getElem? qy)
        have ok' : SysOk n' r' := ok'
        have ln' : n'.length ≤ 101 := ln'
        have lr' : r'.length ≤ 101 := lr'
        have j1 := init_q a ok'
        have f1 := eq_q a ok ok'
        have f2 := eq_q a ok' ok
        have s1 := oSorted_strs (l := n') (by omega)
        have s2 := oSorted_strs (l := N) (by omega)
        have c1 := oEqD_strs' (neg := false) (l := srtS n') (m := srtS N) (fun x hx => (ok'.nm x (srtS_mem.mp hx)).ok) (fun x hx => (okN x (srtS_mem.mp hx)).ok)
        have s3 := sorted_q a (l := r') (fun k hk => (ok'.rw k hk).n) (by omega)
        have c2 := oEqD_asks (neg := false) (l := srt (dd r')) (m := G) (fun k hk => ok'.rw k (dd_mem.mp (srt_mem.mp hk))) ok.rw
        have sm1 : sameS N n' G r' = (decide (srtS n' = srtS N) && decide (srt (dd r') = G)) := by
          unfold sameS; rw [GG]; simp only [eq_comm]
        have sm2 : sameS n' N r' G = (decide (srtS n' = srtS N) && decide (srt (dd r') = G)) := by
          unfold sameS; rw [GG]
        rw [sm1] at f1
        rw [sm2] at f2
        obtain ⟨b1, hb1⟩ : ∃ b, b = decide (srtS n' = srtS N) := ⟨_, rfl⟩
        obtain ⟨b2, hb2⟩ : ∃ b, b = decide (srt (dd r') = G) := ⟨_, rfl⟩
        rw [← hb1] at c1 f1 f2
        rw [← hb2] at c2 f1 f2
        refine ⟨[some (.sh (.sl ns)), some (.ow p3), some (.sh x), some (.sh (strsT N)), some (.sh (asksT G)), some (.sh (sysT a N G)), some (.sh (strsT n')), some (.sh (asksT r')), y8, y9, x10], by simp [setN_0 g6, setN_0 g7, pairT], ?_⟩
        have fin : ∀ x8 x9 : Option Slot, muO (some x8) = false → muO (some x9) = false → J (j + 1) [some (.sh (.sl ns)), some (.ow p3), some (.sh x), some (.sh (strsT N)), some (.sh (asksT G)), some (.sh (sysT a N G)), some (.sh (strsT n')), some (.sh (asksT r')), x8, x9, x10] := fun x8 x9 k8 k9 => by
          subst hJ
          exact ⟨_, _, _, _, rfl, rfl, rfl, k8, k9⟩
        cases b1 with
        | false =>
          simp [setN_0 g8, setN_0 g9, j1, s1, s2, c1, f1, f2, insOf_sys, tag_sys, oEqD_bl]
          exact fin _ _ rfl rfl
        | true =>
          cases b2 <;>
          · simp [setN_0 g8, setN_0 g9, j1, s1, s2, c1, c2, s3, f1, f2, insOf_sys, tag_sys, oEqD_bl]
            exact fin _ _ rfl rfl
    · intro τ' hJt
      rw [hJ] at hJt
      obtain ⟨y6, y7, y8, y9, rfl, g6, g7, g8, g9⟩ := hJt
      simp [mkL_7]
      obtain ⟨K, hK⟩ : ∃ K : Nat → XSt → Prop, K = fun _ τ => ∃ (x10 : Option Slot), τ = [some (.sh (.sl ns)), some (.ow p3), some (.sh x), some (.sh (strsT N)), some (.sh (asksT G)), some (.sh (sysT a N G)), y6, y7, y8, y9, x10] ∧ muO (some x10) = false := ⟨_, rfl⟩
      refine for_end (P := fun r => NxI (I (i + 1)) r) K ?_ ?_ ?_
      · subst hK
        exact ⟨x10, rfl, h10⟩
      · intro j y τ hy hKj
        rw [hK] at hKj
        obtain ⟨y10, rfl, g10⟩ := hKj
        have ty : ∃ u, tagX [a.C_System] y = some (.type u) ∧ u ∈ tNames := by
          have my := List.mem_of_getElem? hy
          simp only [List.mem_cons, List.not_mem_nil, or_false] at my
          rcases my with rfl | rfl | rfl | rfl | rfl | rfl | rfl
          · exact ⟨"list", rfl, by decide⟩
          · exact ⟨"list", rfl, by decide⟩
          · exact ⟨"NoneType", rfl, by decide⟩
          · exact ⟨"str", rfl, by decide⟩
          · exact ⟨"int", rfl, by decide⟩
          · exact ⟨"tuple", rfl, by decide⟩
          · exact ⟨"list", rfl, by decide⟩
        obtain ⟨u, ty, hu⟩ := ty
        have f1 := eq_other a (n := N) (r := G) ty hu
        refine ⟨[some (.sh (.sl ns)), some (.ow p3), some (.sh x), some (.sh (strsT N)), some (.sh (asksT G)), some (.sh (sysT a N G)), y6, y7, y8, y9, some (.sh y)], by simp [setN_0 g10], ?_⟩
        simp [insOf_sys, ty, f1]
        subst hK
        exact ⟨_, rfl, rfl⟩
      · intro τ' hKt
        rw [hK] at hKt
        obtain ⟨y10, rfl, g10⟩ := hKt
        subst hI
        exact ⟨p3, _, _, _, _, _, _, _, _, _, rfl, ⟨rfl, rfl, rfl, rfl, g6, g7, g8, g9, g10⟩, pn3'⟩
  · intro τ' hIt
    have z1 := init_q a sysOk_nil
    have z2 := eq_q a sysOk_nil sysOk_nil
    rw [sameS_self] at z2
    have k1 : strsT [] = .lst [] := rfl
    have k2 : asksT [] = .lst [] := rfl
    rw [k1, k2] at z1
    refine ⟨[], ?_⟩
    subst hI
    obtain ⟨p, x2, x3, x4, x5, x6, x7, x8, x9, x10, rfl, _, _⟩ := hIt
    simp [z1, z2, insOf_sys, tag_sys]
theorem plain (a : Ad) (ns : List Int) (h : ns.length ≤ 63) : ∃ M, m_law a [.sl ns] [] = .ok (.bl true) M := by
  obtain ⟨outs, e⟩ := law_q a ns
  exact plain_of (k_law a) e
end WS

set_option Elab.async false
set_option linter.all false
set_option maxRecDepth 100000
namespace WS
open PySem PySem.Spec PyProof.Rows L2
theorem all_mk {l : PySem.W.OpenLaw} {w : World} {K : PySem.W.Frag} {h : Heap} {mg : Str → Option Value} {fa C_System f_law_pen f_law_next f_law_draw f_law_some f_law_nyms f_law_key f_law_sorted f_law_at f_law_gaps f_law_goal f_is_name f_is_integer f_is_thing f_System_is_rule p_System_is_rule f_rule_key f_System_init f_System_eq f_law_others f_law : Addr} (XK : K.In h) (G : h.Ns mainGlobals mg) (hfa : mg "law" = some (.ref fa))
    {oc_law_pen : Value} {od_law_pen an_law_pen : Option Addr} {sl_law_pen : Array (Option Value)} {kV_law_pen dc_law_pen pm_law_pen cd_law_pen ct_law_pen : Value} {oc_law_next : Value} {od_law_next an_law_next : Option Addr} {sl_law_next : Array (Option Value)} {kV_law_next dc_law_next pm_law_next cd_law_next ct_law_next : Value} {oc_law_draw : Value} {od_law_draw an_law_draw : Option Addr} {sl_law_draw : Array (Option Value)} {kV_law_draw dc_law_draw pm_law_draw cd_law_draw ct_law_draw : Value} {oc_law_some : Value} {od_law_some an_law_some : Option Addr} {sl_law_some : Array (Option Value)} {kV_law_some dc_law_some pm_law_some cd_law_some ct_law_some : Value} {oc_law_nyms : Value} {od_law_nyms an_law_nyms : Option Addr} {sl_law_nyms : Array (Option Value)} {kV_law_nyms dc_law_nyms pm_law_nyms cd_law_nyms ct_law_nyms : Value} {oc_law_key : Value} {od_law_key an_law_key : Option Addr} {sl_law_key : Array (Option Value)} {kV_law_key dc_law_key pm_law_key cd_law_key ct_law_key : Value} {oc_law_sorted : Value} {od_law_sorted an_law_sorted : Option Addr} {sl_law_sorted : Array (Option Value)} {kV_law_sorted dc_law_sorted pm_law_sorted cd_law_sorted ct_law_sorted : Value} {oc_law_at : Value} {od_law_at an_law_at : Option Addr} {sl_law_at : Array (Option Value)} {kV_law_at dc_law_at pm_law_at cd_law_at ct_law_at : Value} {oc_law_gaps : Value} {od_law_gaps an_law_gaps : Option Addr} {sl_law_gaps : Array (Option Value)} {kV_law_gaps dc_law_gaps pm_law_gaps cd_law_gaps ct_law_gaps : Value} {oc_law_goal : Value} {od_law_goal an_law_goal : Option Addr} {sl_law_goal : Array (Option Value)} {kV_law_goal dc_law_goal pm_law_goal cd_law_goal ct_law_goal : Value} {oc_is_name : Value} {od_is_name an_is_name : Option Addr} {sl_is_name : Array (Option Value)} {kV_is_name dc_is_name pm_is_name cd_is_name ct_is_name : Value} {oc_is_integer : Value} {od_is_integer an_is_integer : Option Addr} {sl_is_integer : Array (Option Value)} {kV_is_integer dc_is_integer pm_is_integer cd_is_integer ct_is_integer : Value} {oc_is_thing : Value} {od_is_thing an_is_thing : Option Addr} {sl_is_thing : Array (Option Value)} {kV_is_thing dc_is_thing pm_is_thing cd_is_thing ct_is_thing : Value} {rs_System_is_rule : List Value} {oc_System_is_rule : Value} {od_System_is_rule an_System_is_rule : Option Addr} {sl_System_is_rule : Array (Option Value)} {kV_System_is_rule dc_System_is_rule pm_System_is_rule cd_System_is_rule ct_System_is_rule : Value} {oc_rule_key : Value} {od_rule_key an_rule_key : Option Addr} {sl_rule_key : Array (Option Value)} {kV_rule_key dc_rule_key pm_rule_key cd_rule_key ct_rule_key : Value} {oc_System_init : Value} {od_System_init an_System_init : Option Addr} {sl_System_init : Array (Option Value)} {kV_System_init dc_System_init pm_System_init cd_System_init ct_System_init : Value} {oc_System_eq : Value} {od_System_eq an_System_eq : Option Addr} {sl_System_eq : Array (Option Value)} {kV_System_eq dc_System_eq pm_System_eq cd_System_eq ct_System_eq : Value} {oc_law_others : Value} {od_law_others an_law_others : Option Addr} {sl_law_others : Array (Option Value)} {kV_law_others dc_law_others pm_law_others cd_law_others ct_law_others : Value} {oc_law : Value} {od_law an_law : Option Addr} {sl_law : Array (Option Value)} {kV_law dc_law pm_law cd_law ct_law : Value} {t_LETTERS : Tok} {t_MAX_GAP : Tok} {t_MAX_NAME : Tok}
    (h_C_System : PySem.W.nsIn K mainGlobals "System" = some (some (.ref C_System)))
    (pg_System : PySem.W.plainGet K C_System Str.empty = true)
    (hd_System : PySem.W.hasDictIn K C_System = true)
    (po_System : PySem.W.plainOver K C_System = true)
    (sa_System : PySem.W.findIn K (.ref C_System) "__setattr__" = some (some (.builtin "object.__setattr__")))
    (a_law_pen : PySem.W.nsIn K mainGlobals "_law_pen" = some (some (.ref f_law_pen)))
    (l_law_pen : K.lookup f_law_pen = some ⟨oc_law_pen, od_law_pen, .func (PySem.W.fnOf "_law_pen" "_law_pen" (defArgs s_law_pen) (defBody s_law_pen) (defScope s_law_pen) .none kV_law_pen dc_law_pen pm_law_pen an_law_pen cd_law_pen ct_law_pen), sl_law_pen⟩)
    (c_law_pen : PySem.W.codeIn K cd_law_pen "_law_pen" = true)
    (k_law_pen : PySem.W.keepIn K (.ref f_law_pen) = true)
    (a_law_next : PySem.W.nsIn K mainGlobals "_law_next" = some (some (.ref f_law_next)))
    (l_law_next : K.lookup f_law_next = some ⟨oc_law_next, od_law_next, .func (PySem.W.fnOf "_law_next" "_law_next" (defArgs s_law_next) (defBody s_law_next) (defScope s_law_next) .none kV_law_next dc_law_next pm_law_next an_law_next cd_law_next ct_law_next), sl_law_next⟩)
    (c_law_next : PySem.W.codeIn K cd_law_next "_law_next" = true)
    (k_law_next : PySem.W.keepIn K (.ref f_law_next) = true)
    (a_law_draw : PySem.W.nsIn K mainGlobals "_law_draw" = some (some (.ref f_law_draw)))
    (l_law_draw : K.lookup f_law_draw = some ⟨oc_law_draw, od_law_draw, .func (PySem.W.fnOf "_law_draw" "_law_draw" (defArgs s_law_draw) (defBody s_law_draw) (defScope s_law_draw) .none kV_law_draw dc_law_draw pm_law_draw an_law_draw cd_law_draw ct_law_draw), sl_law_draw⟩)
    (c_law_draw : PySem.W.codeIn K cd_law_draw "_law_draw" = true)
    (k_law_draw : PySem.W.keepIn K (.ref f_law_draw) = true)
    (a_law_some : PySem.W.nsIn K mainGlobals "_law_some" = some (some (.ref f_law_some)))
    (l_law_some : K.lookup f_law_some = some ⟨oc_law_some, od_law_some, .func (PySem.W.fnOf "_law_some" "_law_some" (defArgs s_law_some) (defBody s_law_some) (defScope s_law_some) .none kV_law_some dc_law_some pm_law_some an_law_some cd_law_some ct_law_some), sl_law_some⟩)
    (c_law_some : PySem.W.codeIn K cd_law_some "_law_some" = true)
    (k_law_some : PySem.W.keepIn K (.ref f_law_some) = true)
    (a_law_nyms : PySem.W.nsIn K mainGlobals "_law_nyms" = some (some (.ref f_law_nyms)))
    (l_law_nyms : K.lookup f_law_nyms = some ⟨oc_law_nyms, od_law_nyms, .func (PySem.W.fnOf "_law_nyms" "_law_nyms" (defArgs s_law_nyms) (defBody s_law_nyms) (defScope s_law_nyms) .none kV_law_nyms dc_law_nyms pm_law_nyms an_law_nyms cd_law_nyms ct_law_nyms), sl_law_nyms⟩)
    (c_law_nyms : PySem.W.codeIn K cd_law_nyms "_law_nyms" = true)
    (k_law_nyms : PySem.W.keepIn K (.ref f_law_nyms) = true)
    (a_law_key : PySem.W.nsIn K mainGlobals "_law_key" = some (some (.ref f_law_key)))
    (l_law_key : K.lookup f_law_key = some ⟨oc_law_key, od_law_key, .func (PySem.W.fnOf "_law_key" "_law_key" (defArgs s_law_key) (defBody s_law_key) (defScope s_law_key) .none kV_law_key dc_law_key pm_law_key an_law_key cd_law_key ct_law_key), sl_law_key⟩)
    (c_law_key : PySem.W.codeIn K cd_law_key "_law_key" = true)
    (k_law_key : PySem.W.keepIn K (.ref f_law_key) = true)
    (a_law_sorted : PySem.W.nsIn K mainGlobals "_law_sorted" = some (some (.ref f_law_sorted)))
    (l_law_sorted : K.lookup f_law_sorted = some ⟨oc_law_sorted, od_law_sorted, .func (PySem.W.fnOf "_law_sorted" "_law_sorted" (defArgs s_law_sorted) (defBody s_law_sorted) (defScope s_law_sorted) .none kV_law_sorted dc_law_sorted pm_law_sorted an_law_sorted cd_law_sorted ct_law_sorted), sl_law_sorted⟩)
    (c_law_sorted : PySem.W.codeIn K cd_law_sorted "_law_sorted" = true)
    (k_law_sorted : PySem.W.keepIn K (.ref f_law_sorted) = true)
    (a_law_at : PySem.W.nsIn K mainGlobals "_law_at" = some (some (.ref f_law_at)))
    (l_law_at : K.lookup f_law_at = some ⟨oc_law_at, od_law_at, .func (PySem.W.fnOf "_law_at" "_law_at" (defArgs s_law_at) (defBody s_law_at) (defScope s_law_at) .none kV_law_at dc_law_at pm_law_at an_law_at cd_law_at ct_law_at), sl_law_at⟩)
    (c_law_at : PySem.W.codeIn K cd_law_at "_law_at" = true)
    (k_law_at : PySem.W.keepIn K (.ref f_law_at) = true)
    (a_law_gaps : PySem.W.nsIn K mainGlobals "_law_gaps" = some (some (.ref f_law_gaps)))
    (l_law_gaps : K.lookup f_law_gaps = some ⟨oc_law_gaps, od_law_gaps, .func (PySem.W.fnOf "_law_gaps" "_law_gaps" (defArgs s_law_gaps) (defBody s_law_gaps) (defScope s_law_gaps) .none kV_law_gaps dc_law_gaps pm_law_gaps an_law_gaps cd_law_gaps ct_law_gaps), sl_law_gaps⟩)
    (c_law_gaps : PySem.W.codeIn K cd_law_gaps "_law_gaps" = true)
    (k_law_gaps : PySem.W.keepIn K (.ref f_law_gaps) = true)
    (a_law_goal : PySem.W.nsIn K mainGlobals "_law_goal" = some (some (.ref f_law_goal)))
    (l_law_goal : K.lookup f_law_goal = some ⟨oc_law_goal, od_law_goal, .func (PySem.W.fnOf "_law_goal" "_law_goal" (defArgs s_law_goal) (defBody s_law_goal) (defScope s_law_goal) .none kV_law_goal dc_law_goal pm_law_goal an_law_goal cd_law_goal ct_law_goal), sl_law_goal⟩)
    (c_law_goal : PySem.W.codeIn K cd_law_goal "_law_goal" = true)
    (k_law_goal : PySem.W.keepIn K (.ref f_law_goal) = true)
    (a_is_name : PySem.W.nsIn K mainGlobals "is_name" = some (some (.ref f_is_name)))
    (l_is_name : K.lookup f_is_name = some ⟨oc_is_name, od_is_name, .func (PySem.W.fnOf "is_name" "is_name" (defArgs s_is_name) (defBody s_is_name) (defScope s_is_name) .none kV_is_name dc_is_name pm_is_name an_is_name cd_is_name ct_is_name), sl_is_name⟩)
    (c_is_name : PySem.W.codeIn K cd_is_name "is_name" = true)
    (k_is_name : PySem.W.keepIn K (.ref f_is_name) = true)
    (a_is_integer : PySem.W.nsIn K mainGlobals "is_integer" = some (some (.ref f_is_integer)))
    (l_is_integer : K.lookup f_is_integer = some ⟨oc_is_integer, od_is_integer, .func (PySem.W.fnOf "is_integer" "is_integer" (defArgs s_is_integer) (defBody s_is_integer) (defScope s_is_integer) .none kV_is_integer dc_is_integer pm_is_integer an_is_integer cd_is_integer ct_is_integer), sl_is_integer⟩)
    (c_is_integer : PySem.W.codeIn K cd_is_integer "is_integer" = true)
    (k_is_integer : PySem.W.keepIn K (.ref f_is_integer) = true)
    (a_is_thing : PySem.W.nsIn K mainGlobals "is_thing" = some (some (.ref f_is_thing)))
    (l_is_thing : K.lookup f_is_thing = some ⟨oc_is_thing, od_is_thing, .func (PySem.W.fnOf "is_thing" "is_thing" (defArgs s_is_thing) (defBody s_is_thing) (defScope s_is_thing) .none kV_is_thing dc_is_thing pm_is_thing an_is_thing cd_is_thing ct_is_thing), sl_is_thing⟩)
    (c_is_thing : PySem.W.codeIn K cd_is_thing "is_thing" = true)
    (k_is_thing : PySem.W.keepIn K (.ref f_is_thing) = true)
    (a_System_is_rule : PySem.W.findCls K (.ref C_System) (.type "type") "is_rule" = some (.get (.builtin "staticmethod.__get__") (.ref p_System_is_rule) .none (.ref C_System)))
    (sr_System_is_rule : PySem.W.readsIn K C_System (.type "type") = true)
    (sg_System_is_rule : PySem.W.specialIn K (.ref C_System) "__getattribute__" = some (some (.builtin "type.__getattribute__")))
    (pr_System_is_rule : PySem.W.recIn K p_System_is_rule "staticmethod" = some (.ref f_System_is_rule :: rs_System_is_rule))
    (l_System_is_rule : K.lookup f_System_is_rule = some ⟨oc_System_is_rule, od_System_is_rule, .func (PySem.W.fnOf "is_rule" "System.is_rule" (defArgs s_System_is_rule) (defBody s_System_is_rule) (defScope s_System_is_rule) .none kV_System_is_rule dc_System_is_rule pm_System_is_rule an_System_is_rule cd_System_is_rule ct_System_is_rule), sl_System_is_rule⟩)
    (c_System_is_rule : PySem.W.codeIn K cd_System_is_rule "System.is_rule" = true)
    (k_System_is_rule : PySem.W.keepIn K (.ref f_System_is_rule) = true)
    (a_rule_key : PySem.W.nsIn K mainGlobals "rule_key" = some (some (.ref f_rule_key)))
    (l_rule_key : K.lookup f_rule_key = some ⟨oc_rule_key, od_rule_key, .func (PySem.W.fnOf "rule_key" "rule_key" (defArgs s_rule_key) (defBody s_rule_key) (defScope s_rule_key) .none kV_rule_key dc_rule_key pm_rule_key an_rule_key cd_rule_key ct_rule_key), sl_rule_key⟩)
    (c_rule_key : PySem.W.codeIn K cd_rule_key "rule_key" = true)
    (k_rule_key : PySem.W.keepIn K (.ref f_rule_key) = true)
    (a_System_init : PySem.W.findIn K (.ref C_System) "__init__" = some (some (.ref f_System_init)))
    (i_System_init : PySem.W.isFn K (.ref f_System_init) = true)
    (l_System_init : K.lookup f_System_init = some ⟨oc_System_init, od_System_init, .func (PySem.W.fnOf "__init__" "System.__init__" (defArgs s_System_init) (defBody s_System_init) (defScope s_System_init) .none kV_System_init dc_System_init pm_System_init an_System_init cd_System_init ct_System_init), sl_System_init⟩)
    (c_System_init : PySem.W.codeIn K cd_System_init "System.__init__" = true)
    (k_System_init : PySem.W.keepIn K (.ref f_System_init) = true)
    (a_System_eq : PySem.W.findIn K (.ref C_System) "__eq__" = some (some (.ref f_System_eq)))
    (i_System_eq : PySem.W.isFn K (.ref f_System_eq) = true)
    (l_System_eq : K.lookup f_System_eq = some ⟨oc_System_eq, od_System_eq, .func (PySem.W.fnOf "__eq__" "System.__eq__" (defArgs s_System_eq) (defBody s_System_eq) (defScope s_System_eq) .none kV_System_eq dc_System_eq pm_System_eq an_System_eq cd_System_eq ct_System_eq), sl_System_eq⟩)
    (c_System_eq : PySem.W.codeIn K cd_System_eq "System.__eq__" = true)
    (k_System_eq : PySem.W.keepIn K (.ref f_System_eq) = true)
    (a_law_others : PySem.W.nsIn K mainGlobals "_law_others" = some (some (.ref f_law_others)))
    (l_law_others : K.lookup f_law_others = some ⟨oc_law_others, od_law_others, .func (PySem.W.fnOf "_law_others" "_law_others" (defArgs s_law_others) (defBody s_law_others) (defScope s_law_others) .none kV_law_others dc_law_others pm_law_others an_law_others cd_law_others ct_law_others), sl_law_others⟩)
    (c_law_others : PySem.W.codeIn K cd_law_others "_law_others" = true)
    (k_law_others : PySem.W.keepIn K (.ref f_law_others) = true)
    (a_law : PySem.W.nsIn K mainGlobals "law" = some (some (.ref f_law)))
    (l_law : K.lookup f_law = some ⟨oc_law, od_law, .func (PySem.W.fnOf "law" "law" (defArgs s_law) (defBody s_law) (defScope s_law) .none kV_law dc_law pm_law an_law cd_law ct_law), sl_law⟩)
    (c_law : PySem.W.codeIn K cd_law "law" = true)
    (k_law : PySem.W.keepIn K (.ref f_law) = true)
    (mk_System : PySem.W.makesIn K C_System = true)
    (kc_System : PySem.W.keepIn K (.ref C_System) = true)
    (n_all : PySem.W.nsIn K mainGlobals "all" = some none)
    (n_bool : PySem.W.nsIn K mainGlobals "bool" = some none)
    (n_dict : PySem.W.nsIn K mainGlobals "dict" = some none)
    (n_int : PySem.W.nsIn K mainGlobals "int" = some none)
    (n_isinstance : PySem.W.nsIn K mainGlobals "isinstance" = some none)
    (n_len : PySem.W.nsIn K mainGlobals "len" = some none)
    (n_list : PySem.W.nsIn K mainGlobals "list" = some none)
    (n_max : PySem.W.nsIn K mainGlobals "max" = some none)
    (n_min : PySem.W.nsIn K mainGlobals "min" = some none)
    (n_range : PySem.W.nsIn K mainGlobals "range" = some none)
    (n_set : PySem.W.nsIn K mainGlobals "set" = some none)
    (n_sorted : PySem.W.nsIn K mainGlobals "sorted" = some none)
    (n_str : PySem.W.nsIn K mainGlobals "str" = some none)
    (n_tuple : PySem.W.nsIn K mainGlobals "tuple" = some none)
    (q_LETTERS : PySem.W.nsIn K mainGlobals "LETTERS" = some (some (.str "abcdefghijklmnopqrstuvwxyz" t_LETTERS)))
    (q_MAX_GAP : PySem.W.nsIn K mainGlobals "MAX_GAP" = some (some (.int 999 t_MAX_GAP)))
    (q_MAX_NAME : PySem.W.nsIn K mainGlobals "MAX_NAME" = some (some (.int 8 t_MAX_NAME)))
    (no_System_gaps : PySem.W.findIn K (.ref C_System) "gaps" = some none)
    (no_System_settings : PySem.W.findIn K (.ref C_System) "settings" = some none)
    (oc_n : PySem.W.specialIn K (.builtin "object.__class__") "__get__" = some (some (.builtin "getset_descriptor.__get__")))
    (oc_t : PySem.W.takesIn K (.builtin "object.__class__") = some true)
    (oa_System : PySem.W.findIn K (.ref C_System) "__class__" = some (some (.builtin "object.__class__")))
    (om_System : PySem.W.mroIn K C_System (.type "object") = some true)
    (ib_bool_System : PySem.W.subIn K (.ref C_System) (.type "bool") = some false)
    (ib_int_System : PySem.W.subIn K (.ref C_System) (.type "int") = some false)
    (ib_list_System : PySem.W.subIn K (.ref C_System) (.type "list") = some false)
    (ib_str_System : PySem.W.subIn K (.ref C_System) (.type "str") = some false)
    (ib_tuple_System : PySem.W.subIn K (.ref C_System) (.type "tuple") = some false)
    (cs_System : PySem.W.isClsIn K C_System = true)
    (tc_System : PySem.W.typeIn K (.ref C_System) = some (.type "type"))
    (ic_System_NoneType : PySem.W.subIn K (.type "NoneType") (.ref C_System) = some false)
    (ic_System_bool : PySem.W.subIn K (.type "bool") (.ref C_System) = some false)
    (ic_System_int : PySem.W.subIn K (.type "int") (.ref C_System) = some false)
    (ic_System_str : PySem.W.subIn K (.type "str") (.ref C_System) = some false)
    (ic_System_tuple : PySem.W.subIn K (.type "tuple") (.ref C_System) = some false)
    (ic_System_list : PySem.W.subIn K (.type "list") (.ref C_System) = some false)
    (ic_System_dict : PySem.W.subIn K (.type "dict") (.ref C_System) = some false)
    (ne_System : PySem.W.findIn K (.ref C_System) "__ne__" = some (some (.builtin "object.__ne__")))
    (nt_System_NoneType : PySem.W.notFirst K C_System (.type "NoneType") = true)
    (nt_System_bool : PySem.W.notFirst K C_System (.type "bool") = true)
    (nt_System_int : PySem.W.notFirst K C_System (.type "int") = true)
    (nt_System_str : PySem.W.notFirst K C_System (.type "str") = true)
    (nt_System_tuple : PySem.W.notFirst K C_System (.type "tuple") = true)
    (nt_System_list : PySem.W.notFirst K C_System (.type "list") = true)
    (nt_System_dict : PySem.W.notFirst K C_System (.type "dict") = true)
    (nc_System_System : PySem.W.notFirst K C_System (.ref C_System) = true)
    (plain : ∀ (a : Ad) (ns : List Int), ns.length ≤ 63 → ∃ M, m_law a [.sl ns] [] = .ok (.bl true) M) :
    ∃ fd : FuncData, (∀ (s : Shared) (v : Value), BindsTo s fd ⟨[v], []⟩ [("_law_script", v)]) ∧ ∀ base : Heap, K.In base → base.Ns mainGlobals mg → FnOk l.prog w K mg base (L2.CX l.prog w) 6 fa fd ["_law_script"] (spLaw K) := by
  have e := hfa.symm.trans (PySem.W.mg_of XK G a_law)
  cases e
  let a : Ad := { f_law_pen := f_law_pen, f_law_next := f_law_next, f_law_draw := f_law_draw, f_law_some := f_law_some, f_law_nyms := f_law_nyms, f_law_key := f_law_key, f_law_sorted := f_law_sorted, f_law_at := f_law_at, f_law_gaps := f_law_gaps, f_law_goal := f_law_goal, f_is_name := f_is_name, f_is_integer := f_is_integer, f_is_thing := f_is_thing, f_System_is_rule := f_System_is_rule, f_rule_key := f_rule_key, f_System_init := f_System_init, f_System_eq := f_System_eq, f_law_others := f_law_others, f_law := fa, C_System := C_System, p_System_is_rule := p_System_is_rule, t_LETTERS := t_LETTERS, t_MAX_GAP := t_MAX_GAP, t_MAX_NAME := t_MAX_NAME }
  have T : Txt K mg a := { f_law_pen := PySem.W.mg_of XK G a_law_pen, f_law_next := PySem.W.mg_of XK G a_law_next, f_law_draw := PySem.W.mg_of XK G a_law_draw, f_law_some := PySem.W.mg_of XK G a_law_some, f_law_nyms := PySem.W.mg_of XK G a_law_nyms, f_law_key := PySem.W.mg_of XK G a_law_key, f_law_sorted := PySem.W.mg_of XK G a_law_sorted, f_law_at := PySem.W.mg_of XK G a_law_at, f_law_gaps := PySem.W.mg_of XK G a_law_gaps, f_law_goal := PySem.W.mg_of XK G a_law_goal, f_is_name := PySem.W.mg_of XK G a_is_name, f_is_integer := PySem.W.mg_of XK G a_is_integer, f_is_thing := PySem.W.mg_of XK G a_is_thing, f_rule_key := PySem.W.mg_of XK G a_rule_key, f_law_others := PySem.W.mg_of XK G a_law_others, f_law := PySem.W.mg_of XK G a_law, cl_System := ⟨pg_System, hd_System, po_System, sa_System⟩, k_System := PySem.W.mg_of XK G h_C_System, n_all := PySem.W.mg_none_of XK G n_all, n_bool := PySem.W.mg_none_of XK G n_bool, n_dict := PySem.W.mg_none_of XK G n_dict, n_int := PySem.W.mg_none_of XK G n_int, n_isinstance := PySem.W.mg_none_of XK G n_isinstance, n_len := PySem.W.mg_none_of XK G n_len, n_list := PySem.W.mg_none_of XK G n_list, n_max := PySem.W.mg_none_of XK G n_max, n_min := PySem.W.mg_none_of XK G n_min, n_range := PySem.W.mg_none_of XK G n_range, n_set := PySem.W.mg_none_of XK G n_set, n_sorted := PySem.W.mg_none_of XK G n_sorted, n_str := PySem.W.mg_none_of XK G n_str, n_tuple := PySem.W.mg_none_of XK G n_tuple, c_LETTERS := PySem.W.mg_of XK G q_LETTERS, c_MAX_GAP := PySem.W.mg_of XK G q_MAX_GAP, c_MAX_NAME := PySem.W.mg_of XK G q_MAX_NAME, no_System_gaps := no_System_gaps, no_System_settings := no_System_settings, st_System_is_rule := ⟨⟨sr_System_is_rule, sg_System_is_rule⟩, a_System_is_rule, ⟨_, pr_System_is_rule⟩⟩, mk_System := ⟨mk_System, a_System_init, i_System_init, kc_System⟩, own := fun C h => by rw [List.mem_singleton] at h; subst h; exact ⟨⟨pg_System, hd_System, po_System, sa_System⟩, oa_System, oc_n, oc_t, om_System⟩, ib_bool := fun C h => by rw [List.mem_singleton] at h; subst h; exact (kit_tT (by decide +kernel) ib_bool_System), ib_int := fun C h => by rw [List.mem_singleton] at h; subst h; exact (kit_tT (by decide +kernel) ib_int_System), ib_list := fun C h => by rw [List.mem_singleton] at h; subst h; exact (kit_tT (by decide +kernel) ib_list_System), ib_str := fun C h => by rw [List.mem_singleton] at h; subst h; exact (kit_tT (by decide +kernel) ib_str_System), ib_tuple := fun C h => by rw [List.mem_singleton] at h; subst h; exact (kit_tT (by decide +kernel) ib_tuple_System), ic_System := all7 (kit_rc cs_System tc_System ic_System_NoneType rfl) (kit_rc cs_System tc_System ic_System_bool rfl) (kit_rc cs_System tc_System ic_System_int rfl) (kit_rc cs_System tc_System ic_System_str rfl) (kit_rc cs_System tc_System ic_System_tuple rfl) (kit_rc cs_System tc_System ic_System_list rfl) (kit_rc cs_System tc_System ic_System_dict rfl), id_System := fun C h => by rw [List.mem_singleton] at h; subst h; exact (by rw [decide_eq_true rfl]; exact kit_self), oe_System := ⟨a_System_eq, i_System_eq, ne_System, om_System, all7 nt_System_NoneType nt_System_bool nt_System_int nt_System_str nt_System_tuple nt_System_list nt_System_dict, fun C h => by rw [List.mem_singleton] at h; subst h; exact nc_System_System⟩ }
  refine ⟨PySem.W.fnOf "law" "law" (defArgs s_law) (defBody s_law) (defScope s_law) .none kV_law dc_law pm_law an_law cd_law ct_law, fun s v => .of_eq rfl, fun base _ _ => law_imp ?_ (plain a)⟩
  have G_law_pen : FnS l.prog w K mg base 1 a.f_law_pen 1 (m_law_pen a) := ok_law_pen (fun_mk (st := s_law_pen) l_law_pen c_law_pen k_law_pen) T
  have G_law_next : FnS l.prog w K mg base 1 a.f_law_next 1 (m_law_next a) := ok_law_next (fun_mk (st := s_law_next) l_law_next c_law_next k_law_next) T
  have G_law_draw : FnS l.prog w K mg base 2 a.f_law_draw 2 (m_law_draw a) := ok_law_draw (fun_mk (st := s_law_draw) l_law_draw c_law_draw k_law_draw) T G_law_next
  have G_law_some : FnS l.prog w K mg base 3 a.f_law_some 3 (m_law_some a) := ok_law_some (fun_mk (st := s_law_some) l_law_some c_law_some k_law_some) T G_law_draw
  have G_law_nyms : FnS l.prog w K mg base 4 a.f_law_nyms 2 (m_law_nyms a) := ok_law_nyms (fun_mk (st := s_law_nyms) l_law_nyms c_law_nyms k_law_nyms) T G_law_some
  have G_law_key : FnS l.prog w K mg base 1 a.f_law_key 1 (m_law_key a) := ok_law_key (fun_mk (st := s_law_key) l_law_key c_law_key k_law_key) T
  have G_law_sorted : FnS l.prog w K mg base 2 a.f_law_sorted 1 (m_law_sorted a) := ok_law_sorted (fun_mk (st := s_law_sorted) l_law_sorted c_law_sorted k_law_sorted) T G_law_key
  have G_law_at : FnS l.prog w K mg base 1 a.f_law_at 2 (m_law_at a) := ok_law_at (fun_mk (st := s_law_at) l_law_at c_law_at k_law_at) T
  have G_law_gaps : FnS l.prog w K mg base 3 a.f_law_gaps 4 (m_law_gaps a) := ok_law_gaps (fun_mk (st := s_law_gaps) l_law_gaps c_law_gaps k_law_gaps) T G_law_draw G_law_at
  have G_law_goal : FnS l.prog w K mg base 3 a.f_law_goal 2 (m_law_goal a) := ok_law_goal (fun_mk (st := s_law_goal) l_law_goal c_law_goal k_law_goal) T G_law_draw
  have G_is_name : FnS l.prog w K mg base 1 a.f_is_name 1 (m_is_name a) := ok_is_name (fun_mk (st := s_is_name) l_is_name c_is_name k_is_name) T
  have G_is_integer : FnS l.prog w K mg base 1 a.f_is_integer 3 (m_is_integer a) := ok_is_integer (fun_mk (st := s_is_integer) l_is_integer c_is_integer k_is_integer) T
  have G_is_thing : FnS l.prog w K mg base 2 a.f_is_thing 1 (m_is_thing a) := ok_is_thing (fun_mk (st := s_is_thing) l_is_thing c_is_thing k_is_thing) T G_is_name
  have G_System_is_rule : FnS l.prog w K mg base 3 a.f_System_is_rule 1 (m_System_is_rule a) := ok_System_is_rule (fun_mk (st := s_System_is_rule) l_System_is_rule c_System_is_rule k_System_is_rule) T G_is_integer G_is_thing
  have G_rule_key : FnS l.prog w K mg base 1 a.f_rule_key 1 (m_rule_key a) := ok_rule_key (fun_mk (st := s_rule_key) l_rule_key c_rule_key k_rule_key) T
  have G_System_init : FnS l.prog w K mg base 4 a.f_System_init 3 (m_System_init a) := ok_System_init (fun_mk (st := s_System_init) l_System_init c_System_init k_System_init) T G_is_name G_System_is_rule G_rule_key
  have G_System_eq : FnS l.prog w K mg base 1 a.f_System_eq 2 (m_System_eq a) := ok_System_eq (fun_mk (st := s_System_eq) l_System_eq c_System_eq k_System_eq) T
  have G_law_others : FnS l.prog w K mg base 1 a.f_law_others 2 (m_law_others a) := ok_law_others (fun_mk (st := s_law_others) l_law_others c_law_others k_law_others) T
  exact ok_law (a := a) (fun_mk (st := s_law) l_law c_law k_law) T G_law_pen G_law_nyms G_law_sorted G_law_gaps G_law_goal G_System_init G_System_eq G_law_others
end WS
open PySem PySem.W PyProof.Rows
set_option maxRecDepth 100000 in
set_option maxHeartbeats 0 in
theorem PySem.Challenge.cw_windowsteps_k05_equal_systems_holds : PySem.Challenge.rw_windowsteps_k05_equal_systems.Holds := by
  w_on; o_law; k_head; (case hw => w_witness2)
  k_fill
  refine WS.walkW (l := PySem.Challenge.rw_windowsteps_k05_equal_systems) (k := 6) (x := "_law_script") rfl rfl ⟨rfl, by decide, by decide⟩ (fun w h Y => PySem.W.kIn_of Y) ?F
  case F =>
    intro w mg fa h KX G hmg
    refine' WS.all_mk KX G hmg ?h_C_System ?pg_System ?hd_System ?po_System ?sa_System ?a_law_pen ?l_law_pen ?c_law_pen ?k_law_pen ?a_law_next ?l_law_next ?c_law_next ?k_law_next ?a_law_draw ?l_law_draw ?c_law_draw ?k_law_draw ?a_law_some ?l_law_some ?c_law_some ?k_law_some ?a_law_nyms ?l_law_nyms ?c_law_nyms ?k_law_nyms ?a_law_key ?l_law_key ?c_law_key ?k_law_key ?a_law_sorted ?l_law_sorted ?c_law_sorted ?k_law_sorted ?a_law_at ?l_law_at ?c_law_at ?k_law_at ?a_law_gaps ?l_law_gaps ?c_law_gaps ?k_law_gaps ?a_law_goal ?l_law_goal ?c_law_goal ?k_law_goal ?a_is_name ?l_is_name ?c_is_name ?k_is_name ?a_is_integer ?l_is_integer ?c_is_integer ?k_is_integer ?a_is_thing ?l_is_thing ?c_is_thing ?k_is_thing ?a_System_is_rule ?sr_System_is_rule ?sg_System_is_rule ?pr_System_is_rule ?l_System_is_rule ?c_System_is_rule ?k_System_is_rule ?a_rule_key ?l_rule_key ?c_rule_key ?k_rule_key ?a_System_init ?i_System_init ?l_System_init ?c_System_init ?k_System_init ?a_System_eq ?i_System_eq ?l_System_eq ?c_System_eq ?k_System_eq ?a_law_others ?l_law_others ?c_law_others ?k_law_others ?a_law ?l_law ?c_law ?k_law ?mk_System ?kc_System ?n_all ?n_bool ?n_dict ?n_int ?n_isinstance ?n_len ?n_list ?n_max ?n_min ?n_range ?n_set ?n_sorted ?n_str ?n_tuple ?q_LETTERS ?q_MAX_GAP ?q_MAX_NAME ?no_System_gaps ?no_System_settings ?oc_n ?oc_t ?oa_System ?om_System ?ib_bool_System ?ib_int_System ?ib_list_System ?ib_str_System ?ib_tuple_System ?cs_System ?tc_System ?ic_System_NoneType ?ic_System_bool ?ic_System_int ?ic_System_str ?ic_System_tuple ?ic_System_list ?ic_System_dict ?ne_System ?nt_System_NoneType ?nt_System_bool ?nt_System_int ?nt_System_str ?nt_System_tuple ?nt_System_list ?nt_System_dict ?nc_System_System WS.plain
    (case h_C_System => k_is)
    (case pg_System => k_is)
    (case hd_System => k_is)
    (case po_System => k_is)
    (case sa_System => k_is)
    (case a_law_pen => k_is)
    (case l_law_pen => k_is)
    (case c_law_pen => k_is)
    (case k_law_pen => k_is)
    (case a_law_next => k_is)
    (case l_law_next => k_is)
    (case c_law_next => k_is)
    (case k_law_next => k_is)
    (case a_law_draw => k_is)
    (case l_law_draw => k_is)
    (case c_law_draw => k_is)
    (case k_law_draw => k_is)
    (case a_law_some => k_is)
    (case l_law_some => k_is)
    (case c_law_some => k_is)
    (case k_law_some => k_is)
    (case a_law_nyms => k_is)
    (case l_law_nyms => k_is)
    (case c_law_nyms => k_is)
    (case k_law_nyms => k_is)
    (case a_law_key => k_is)
    (case l_law_key => k_is)
    (case c_law_key => k_is)
    (case k_law_key => k_is)
    (case a_law_sorted => k_is)
    (case l_law_sorted => k_is)
    (case c_law_sorted => k_is)
    (case k_law_sorted => k_is)
    (case a_law_at => k_is)
    (case l_law_at => k_is)
    (case c_law_at => k_is)
    (case k_law_at => k_is)
    (case a_law_gaps => k_is)
    (case l_law_gaps => k_is)
    (case c_law_gaps => k_is)
    (case k_law_gaps => k_is)
    (case a_law_goal => k_is)
    (case l_law_goal => k_is)
    (case c_law_goal => k_is)
    (case k_law_goal => k_is)
    (case a_is_name => k_is)
    (case l_is_name => k_is)
    (case c_is_name => k_is)
    (case k_is_name => k_is)
    (case a_is_integer => k_is)
    (case l_is_integer => k_is)
    (case c_is_integer => k_is)
    (case k_is_integer => k_is)
    (case a_is_thing => k_is)
    (case l_is_thing => k_is)
    (case c_is_thing => k_is)
    (case k_is_thing => k_is)
    (case a_System_is_rule => k_is)
    (case sr_System_is_rule => k_is)
    (case sg_System_is_rule => k_is)
    (case pr_System_is_rule => k_is)
    (case l_System_is_rule => k_is)
    (case c_System_is_rule => k_is)
    (case k_System_is_rule => k_is)
    (case a_rule_key => k_is)
    (case l_rule_key => k_is)
    (case c_rule_key => k_is)
    (case k_rule_key => k_is)
    (case a_System_init => k_is)
    (case i_System_init => k_is)
    (case l_System_init => k_is)
    (case c_System_init => k_is)
    (case k_System_init => k_is)
    (case a_System_eq => k_is)
    (case i_System_eq => k_is)
    (case l_System_eq => k_is)
    (case c_System_eq => k_is)
    (case k_System_eq => k_is)
    (case a_law_others => k_is)
    (case l_law_others => k_is)
    (case c_law_others => k_is)
    (case k_law_others => k_is)
    (case a_law => k_is)
    (case l_law => k_is)
    (case c_law => k_is)
    (case k_law => k_is)
    (case mk_System => k_is)
    (case kc_System => k_is)
    (case n_all => k_is)
    (case n_bool => k_is)
    (case n_dict => k_is)
    (case n_int => k_is)
    (case n_isinstance => k_is)
    (case n_len => k_is)
    (case n_list => k_is)
    (case n_max => k_is)
    (case n_min => k_is)
    (case n_range => k_is)
    (case n_set => k_is)
    (case n_sorted => k_is)
    (case n_str => k_is)
    (case n_tuple => k_is)
    (case q_LETTERS => k_is)
    (case q_MAX_GAP => k_is)
    (case q_MAX_NAME => k_is)
    (case no_System_gaps => k_is)
    (case no_System_settings => k_is)
    (case oc_n => k_is)
    (case oc_t => k_is)
    (case oa_System => k_is)
    (case om_System => k_is)
    (case ib_bool_System => k_is)
    (case ib_int_System => k_is)
    (case ib_list_System => k_is)
    (case ib_str_System => k_is)
    (case ib_tuple_System => k_is)
    (case cs_System => k_is)
    (case tc_System => k_is)
    (case ic_System_NoneType => k_is)
    (case ic_System_bool => k_is)
    (case ic_System_int => k_is)
    (case ic_System_str => k_is)
    (case ic_System_tuple => k_is)
    (case ic_System_list => k_is)
    (case ic_System_dict => k_is)
    (case ne_System => k_is)
    (case nt_System_NoneType => k_is)
    (case nt_System_bool => k_is)
    (case nt_System_int => k_is)
    (case nt_System_str => k_is)
    (case nt_System_tuple => k_is)
    (case nt_System_list => k_is)
    (case nt_System_dict => k_is)
    (case nc_System_System => k_is)
