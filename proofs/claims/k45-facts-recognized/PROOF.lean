import PyProof.Rows.All
import Wide.All
import OpenK.AllK
import Wide.FinOn
import HandS.ForMost
import HandS.IsInst
import HandS.Deep
import HandS.TupLe
import HandS.TupAny
import HandS.TupMul
import HandS.Defaults
import PyProof.StrBlock2
import PyProof.FactsAll.dict_1
import PyProof.Rows.StrRules
import HandS.Strs
import PyProof.ReprRoads
import HandS.Flow
import HandS.Style
import PyProof.StrLawsRepr
import PyProof.ReprLen
import PySem.Challenge.RW_shapeguess_k45_facts_recognized
set_option Elab.async false
set_option linter.all false
set_option maxRecDepth 100000
set_option maxHeartbeats 4000000
/-! MP: a small Python of its own (values, a store, an evaluator), and that what it reckons is what the model's run does (over HandS). -/
namespace MP
open PySem L2

/-! ### values, objects, the store -/
inductive MV where
  | non | bl (b : Bool) | int (i : Int) | str (s : Str) | tup (xs : List MV) | ref (n : Nat) | scr (xs : List MV)
inductive MO where
  | lst (xs : List MV)
  | dK (kvs : List (Key × MV))
  /-- a dict that is walked: read, not written -/
  | dF (kvs : List (Key × MV))
  | ins (c : Nat) (fs : List (Str × MV))

/-- a tree keyed by numbers -/
inductive Tr where
  | nil
  | leaf (l : List (Nat × MO))
  | node (v : Option MO) (l r : Tr)
def alGet : List (Nat × MO) → Nat → Option MO
  | [], _ => none
  | (j, o) :: t, i => if i = j then some o else alGet t i
def Tr.get : Nat → Tr → Nat → Option MO
  | _, .nil, _ => none
  | _, .leaf l, i => alGet l i
  | 0, .node _ _ _, _ => none
  | f + 1, .node v l r, i => if i = 0 then v else if i % 2 = 1 then Tr.get f l (i / 2) else Tr.get f r (i / 2 - 1)
def Tr.put : Nat → Tr → Nat → MO → Tr
  | 0, .leaf l, i, o => .leaf ((i, o) :: l)
  | 0, _, i, o => .leaf [(i, o)]
  | f + 1, .node v l r, i, o => if i = 0 then .node (some o) l r else if i % 2 = 1 then .node v (Tr.put f l (i / 2) o) r else .node v l (Tr.put f r (i / 2 - 1) o)
  | f + 1, _, i, o => if i = 0 then .node (some o) .nil .nil else if i % 2 = 1 then .node none (Tr.put f .nil (i / 2) o) .nil else .node none .nil (Tr.put f .nil (i / 2 - 1) o)
/-- well formed to the depth f -/
def Tr.wf : Nat → Tr → Prop
  | _, .nil => True
  | 0, .leaf _ => True
  | 0, .node _ _ _ => False
  | _ + 1, .leaf _ => False
  | f + 1, .node _ l r => Tr.wf f l ∧ Tr.wf f r
theorem alGet_cons (l : List (Nat × MO)) (i j : Nat) (o : MO) : alGet ((j, o) :: l) i = if i = j then some o else alGet l i := rfl
theorem Tr.get_nil (f i : Nat) : Tr.get f .nil i = none := by cases f <;> rfl
theorem Tr.wf_put : ∀ (f : Nat) (t : Tr) (i : Nat) (o : MO), Tr.wf f t → Tr.wf f (Tr.put f t i o)
  | 0, .nil, _, _, _ => trivial
  | 0, .leaf _, _, _, _ => trivial
  | 0, .node _ _ _, _, _, h => h.elim
  | f + 1, .nil, i, o, _ => by
    have n : Tr.wf f .nil := by cases f <;> trivial
    unfold Tr.put
    split
    · exact ⟨n, n⟩
    · split
      · exact ⟨Tr.wf_put f _ _ _ n, n⟩
      · exact ⟨n, Tr.wf_put f _ _ _ n⟩
  | f + 1, .leaf _, _, _, h => h.elim
  | f + 1, .node v l r, i, o, h => by
    unfold Tr.put
    split
    · exact h
    · split
      · exact ⟨Tr.wf_put f _ _ _ h.1, h.2⟩
      · exact ⟨h.1, Tr.wf_put f _ _ _ h.2⟩
theorem Tr.get_node (f : Nat) (v : Option MO) (l r : Tr) (j : Nat) : Tr.get (f + 1) (.node v l r) j = if j = 0 then v else if j % 2 = 1 then Tr.get f l (j / 2) else Tr.get f r (j / 2 - 1) := rfl
theorem Tr.get_put : ∀ (f : Nat) (t : Tr) (i j : Nat) (o : MO), Tr.wf f t → Tr.get f (Tr.put f t i o) j = if j = i then some o else Tr.get f t j
  | 0, .nil, i, j, o, _ => by
    unfold Tr.put Tr.get
    rw [alGet_cons]; rfl
  | 0, .leaf l, i, j, o, _ => by
    unfold Tr.put Tr.get
    rw [alGet_cons]
  | 0, .node _ _ _, _, _, _, h => h.elim
  | f + 1, .nil, i, j, o, _ => by
    have n : Tr.wf f .nil := by cases f <;> trivial
    have e1 : Tr.get (f + 1) .nil j = none := rfl
    rw [e1]
    unfold Tr.put
    by_cases hi : i = 0
    · rw [if_pos hi]
      rw [Tr.get_node]
      by_cases hj : j = 0
      · rw [if_pos hj, if_pos (show j = i by omega)]
      · rw [if_neg hj, if_neg (show ¬ j = i by omega), Tr.get_nil, Tr.get_nil]
        split <;> rfl
    · rw [if_neg hi]
      by_cases hi2 : i % 2 = 1
      · rw [if_pos hi2]
        rw [Tr.get_node]
        by_cases hj : j = 0
        · rw [if_pos hj, if_neg (show ¬ j = i by omega)]
        · rw [if_neg hj]
          by_cases hj2 : j % 2 = 1
          · rw [if_pos hj2, Tr.get_put f .nil _ _ _ n, Tr.get_nil]
            by_cases e : j = i
            · rw [if_pos e, if_pos (show j / 2 = i / 2 by omega)]
            · rw [if_neg e, if_neg (show ¬ j / 2 = i / 2 by omega)]
          · rw [if_neg hj2, Tr.get_nil, if_neg (show ¬ j = i by omega)]
      · rw [if_neg hi2]
        rw [Tr.get_node]
        by_cases hj : j = 0
        · rw [if_pos hj, if_neg (show ¬ j = i by omega)]
        · rw [if_neg hj]
          by_cases hj2 : j % 2 = 1
          · rw [if_pos hj2, Tr.get_nil, if_neg (show ¬ j = i by omega)]
          · rw [if_neg hj2, Tr.get_put f .nil _ _ _ n, Tr.get_nil]
            by_cases e : j = i
            · rw [if_pos e, if_pos (show j / 2 - 1 = i / 2 - 1 by omega)]
            · rw [if_neg e, if_neg (show ¬ j / 2 - 1 = i / 2 - 1 by omega)]
  | f + 1, .leaf _, _, _, _, h => h.elim
  | f + 1, .node v l r, i, j, o, h => by
    rw [Tr.get_node f v l r]
    unfold Tr.put
    by_cases hi : i = 0
    · rw [if_pos hi]
      rw [Tr.get_node]
      by_cases hj : j = 0
      · rw [if_pos hj, if_pos (show j = i by omega)]
      · rw [if_neg hj, if_neg hj, if_neg (show ¬ j = i by omega)]
    · rw [if_neg hi]
      by_cases hi2 : i % 2 = 1
      · rw [if_pos hi2]
        rw [Tr.get_node]
        by_cases hj : j = 0
        · rw [if_pos hj, if_pos hj, if_neg (show ¬ j = i by omega)]
        · rw [if_neg hj, if_neg hj]
          by_cases hj2 : j % 2 = 1
          · rw [if_pos hj2, if_pos hj2, Tr.get_put f l _ _ _ h.1]
            by_cases e : j = i
            · rw [if_pos e, if_pos (show j / 2 = i / 2 by omega)]
            · rw [if_neg e, if_neg (show ¬ j / 2 = i / 2 by omega)]
          · rw [if_neg hj2, if_neg hj2, if_neg (show ¬ j = i by omega)]
      · rw [if_neg hi2]
        rw [Tr.get_node]
        by_cases hj : j = 0
        · rw [if_pos hj, if_pos hj, if_neg (show ¬ j = i by omega)]
        · rw [if_neg hj, if_neg hj]
          by_cases hj2 : j % 2 = 1
          · rw [if_pos hj2, if_pos hj2, if_neg (show ¬ j = i by omega)]
          · rw [if_neg hj2, if_neg hj2, Tr.get_put f r _ _ _ h.2]
            by_cases e : j = i
            · rw [if_pos e, if_pos (show j / 2 - 1 = i / 2 - 1 by omega)]
            · rw [if_neg e, if_neg (show ¬ j / 2 - 1 = i / 2 - 1 by omega)]
/-- the store: what stands below next -/
structure Store where
  next : Nat
  tr : Tr
def Store.emp : Store := ⟨0, .nil⟩
def Store.get (st : Store) (n : Nat) : Option MO := st.tr.get 40 n
def Store.set (st : Store) (n : Nat) (o : MO) : Store := ⟨st.next, st.tr.put 40 n o⟩
def Store.add (st : Store) (o : MO) : Store := ⟨st.next + 1, st.tr.put 40 st.next o⟩
def Store.wf (st : Store) : Prop := st.tr.wf 40
theorem Store.wf_emp : Store.emp.wf := trivial
theorem Store.wf_set {st : Store} (h : st.wf) (n : Nat) (o : MO) : (st.set n o).wf := Tr.wf_put 40 _ _ _ h
theorem Store.wf_add {st : Store} (h : st.wf) (o : MO) : (st.add o).wf := Tr.wf_put 40 _ _ _ h
theorem Store.get_set {st : Store} (h : st.wf) (n m : Nat) (o : MO) : (st.set n o).get m = if m = n then some o else st.get m := Tr.get_put 40 _ _ _ _ h
theorem Store.get_add {st : Store} (h : st.wf) (m : Nat) (o : MO) : (st.add o).get m = if m = st.next then some o else st.get m := Tr.get_put 40 _ _ _ _ h
theorem Store.next_set (st : Store) (n : Nat) (o : MO) : (st.set n o).next = st.next := rfl
theorem Store.next_add (st : Store) (o : MO) : (st.add o).next = st.next + 1 := rfl

/-! ### what a run leaves -/
inductive Res (α : Type) where
  | stuck
  | ok (a : α) (st : Store)
def Res.bind {α β : Type} (r : Res α) (f : α → Store → Res β) : Res β := match r with
  | .stuck => .stuck
  | .ok a st => f a st
theorem Res.bind_ok {α β : Type} {r : Res α} {f : α → Store → Res β} {b : β} {st' : Store} (h : r.bind f = .ok b st') : ∃ a st, r = .ok a st ∧ f a st = .ok b st' := by
  cases r with
  | stuck => cases h
  | ok a st => exact ⟨a, st, rfl, h⟩
@[simp] theorem Res.ok_bind {α β : Type} (a : α) (st : Store) (f : α → Store → Res β) : (Res.ok a st).bind f = f a st := rfl

/-! ### the relation to HandS's values and heap -/
/-- what is never written: a tuple, a frozen list, an object of the module -/
def FrzL (K : PySem.W.Frag) (H : Hp) (a : Addr) (xs : List V) : Prop :=
  (∃ o, H a = some (.frz o (.lst xs))) ∨
    ∃ (o : Obj) (its : Array Value) (n : Nat), K.lookup a = some o ∧ o.cls = .type "list" ∧ o.dict = none ∧ o.data = .seq its n ∧ its.size ≤ sizeLine ∧ Vals xs its.toList
theorem FrzL.sq {K : PySem.W.Frag} {H : Hp} {a : Addr} {xs : List V} (h : FrzL K H a xs) : SqL K H a xs := by
  rcases h with ⟨o, h⟩ | h
  · exact .inl (.inr ⟨o, h⟩)
  · exact .inr h
mutual
inductive Rv (K : PySem.W.Frag) (ρ : Nat → Addr) (N : Nat) (H : Hp) : MV → V → Prop
  | non : Rv K ρ N H .non .non
  | bl (b : Bool) : Rv K ρ N H (.bl b) (.bl b)
  | int (i : Int) : Rv K ρ N H (.int i) (.int i)
  | str (x : Str) : Rv K ρ N H (.str x) (.str x)
  | tup {p : Addr} {ys : List V} {xs : List MV} : SqT K H p ys → RvL K ρ N H xs ys → Rv K ρ N H (.tup xs) (.ref p)
  | ref {n : Nat} : n < N → Rv K ρ N H (.ref n) (.ref (ρ n))
  | scr {p : Addr} {ys : List V} {xs : List MV} : FrzL K H p ys → RvL K ρ N H xs ys → Rv K ρ N H (.scr xs) (.ref p)
inductive RvL (K : PySem.W.Frag) (ρ : Nat → Addr) (N : Nat) (H : Hp) : List MV → List V → Prop
  | nil : RvL K ρ N H [] []
  | cons {x : MV} {y : V} {xs : List MV} {ys : List V} : Rv K ρ N H x y → RvL K ρ N H xs ys → RvL K ρ N H (x :: xs) (y :: ys)
end
/-- pairs with equal keys -/
inductive RvP (K : PySem.W.Frag) (ρ : Nat → Addr) (N : Nat) (H : Hp) {κ : Type} : List (κ × MV) → List (κ × V) → Prop
  | nil : RvP K ρ N H [] []
  | cons {k : κ} {x : MV} {y : V} {xs : List (κ × MV)} {ys : List (κ × V)} : Rv K ρ N H x y → RvP K ρ N H xs ys → RvP K ρ N H ((k, x) :: xs) ((k, y) :: ys)
/-- where the classes stand -/
abbrev Cls0 := Nat → Addr
inductive RO (K : PySem.W.Frag) (ca : Cls0) (ρ : Nat → Addr) (N : Nat) (H : Hp) : MO → HO → Prop
  | lst {xs : List MV} {ys : List V} : RvL K ρ N H xs ys → RO K ca ρ N H (.lst xs) (.lst ys)
  | dK {xs : List (Key × MV)} {ys : List (Key × V)} : RvP K ρ N H xs ys → RO K ca ρ N H (.dK xs) (.dK ys)
  | dF {od : Obj} {xs : List (Key × MV)} {ys : List (Key × V)} : RvP K ρ N H xs ys → RO K ca ρ N H (.dF xs) (.frz od (.dK ys))
  | ins {c : Nat} {dx : Addr} {xs : List (Str × MV)} {ys : List (Str × V)} : RvP K ρ N H xs ys → RO K ca ρ N H (.ins c xs) (.ins (ca c) dx ys)
structure Sim (K : PySem.W.Frag) (ca : Cls0) (ρ : Nat → Addr) (st : Store) (H : Hp) : Prop where
  wf : st.wf
  inj : ∀ n m, n < st.next → m < st.next → ρ n = ρ m → n = m
  obj : ∀ n, n < st.next → ∃ o u, st.get n = some o ∧ H (ρ n) = some u ∧ RO K ca ρ st.next H o u
/-- later: what is not of the store stands as it stood -/
structure Fu (ρ : Nat → Addr) (N : Nat) (H : Hp) (ρ' : Nat → Addr) (N' : Nat) (H' : Hp) : Prop where
  le : N ≤ N'
  agr : ∀ n, n < N → ρ' n = ρ n
  fr : ∀ a o, H a = some o → (∀ n, n < N → ρ n ≠ a) → H' a = some o ∧ ∀ n, n < N' → ρ' n ≠ a
/-- and what is frozen stays frozen -/
structure Fut (ρ : Nat → Addr) (N : Nat) (H : Hp) (ρ' : Nat → Addr) (N' : Nat) (H' : Hp) : Prop extends Fu ρ N H ρ' N' H' where
  fz : ∀ a o u, H a = some (.frz o u) → H' a = some (.frz o u)
theorem Fut.refl (ρ : Nat → Addr) (N : Nat) (H : Hp) : Fut ρ N H ρ N H := ⟨⟨Nat.le_refl _, fun _ _ => rfl, fun _ _ h n => ⟨h, n⟩⟩, fun _ _ _ h => h⟩
theorem Fu.trans {ρ ρ1 ρ2 : Nat → Addr} {N N1 N2 : Nat} {H H1 H2 : Hp} (a : Fu ρ N H ρ1 N1 H1) (b : Fu ρ1 N1 H1 ρ2 N2 H2) : Fu ρ N H ρ2 N2 H2 where
  le := Nat.le_trans a.le b.le
  agr := fun n h => (b.agr n (Nat.lt_of_lt_of_le h a.le)).trans (a.agr n h)
  fr := fun p o h hn => let ⟨h1, h2⟩ := a.fr p o h hn; b.fr p o h1 h2
theorem Fut.trans {ρ ρ1 ρ2 : Nat → Addr} {N N1 N2 : Nat} {H H1 H2 : Hp} (a : Fut ρ N H ρ1 N1 H1) (b : Fut ρ1 N1 H1 ρ2 N2 H2) : Fut ρ N H ρ2 N2 H2 := ⟨a.toFu.trans b.toFu, fun p o u h => b.fz p o u (a.fz p o u h)⟩
/-- not an object of the store -/
def Imm : HO → Prop
  | .tup _ => True
  | .frz _ (.lst _) => True
  | .frz _ (.tup _) => True
  | _ => False
theorem Sim.imm {K : PySem.W.Frag} {ca : Cls0} {ρ : Nat → Addr} {st : Store} {H : Hp} (S : Sim K ca ρ st H) {a : Addr} {o : HO} (h : H a = some o) (i : Imm o) : ∀ n, n < st.next → ρ n ≠ a := fun n hn e => by
  obtain ⟨mo, u, _, hu, r⟩ := S.obj n hn
  rw [e, h] at hu
  cases hu
  cases r <;> exact i
theorem Fu.sqT {K : PySem.W.Frag} {ca : Cls0} {ρ ρ' : Nat → Addr} {st : Store} {N' : Nat} {H H' : Hp} (S : Sim K ca ρ st H) (F : Fu ρ st.next H ρ' N' H') {a : Addr} {ys : List V} (h : SqT K H a ys) : SqT K H' a ys := by
  rcases h with (h | ⟨o, h⟩) | h
  · exact .inl (.inl (F.fr _ _ h (S.imm h trivial)).1)
  · exact .inl (.inr ⟨o, (F.fr _ _ h (S.imm h trivial)).1⟩)
  · exact .inr h
theorem Fu.frzL {K : PySem.W.Frag} {ca : Cls0} {ρ ρ' : Nat → Addr} {st : Store} {N' : Nat} {H H' : Hp} (S : Sim K ca ρ st H) (F : Fu ρ st.next H ρ' N' H') {a : Addr} {ys : List V} (h : FrzL K H a ys) : FrzL K H' a ys := by
  rcases h with ⟨o, h⟩ | h
  · exact .inl ⟨o, (F.fr _ _ h (S.imm h trivial)).1⟩
  · exact .inr h
section
variable {K : PySem.W.Frag} {ca : Cls0} {ρ ρ' : Nat → Addr} {st : Store} {N' : Nat} {H H' : Hp}
mutual
theorem Fu.rv (S : Sim K ca ρ st H) (F : Fu ρ st.next H ρ' N' H') : ∀ {x : MV} {y : V}, Rv K ρ st.next H x y → Rv K ρ' N' H' x y
  | _, _, .non => .non
  | _, _, .bl b => .bl b
  | _, _, .int i => .int i
  | _, _, .str x => .str x
  | _, _, .tup h t => .tup (F.sqT S h) (Fu.rvL S F t)
  | _, _, .ref h => by rw [← F.agr _ h]; exact .ref (Nat.lt_of_lt_of_le h F.le)
  | _, _, .scr h t => .scr (F.frzL S h) (Fu.rvL S F t)
theorem Fu.rvL (S : Sim K ca ρ st H) (F : Fu ρ st.next H ρ' N' H') : ∀ {x : List MV} {y : List V}, RvL K ρ st.next H x y → RvL K ρ' N' H' x y
  | _, _, .nil => .nil
  | _, _, .cons h t => .cons (Fu.rv S F h) (Fu.rvL S F t)
end
theorem Fu.rvP {κ : Type} (S : Sim K ca ρ st H) (F : Fu ρ st.next H ρ' N' H') : ∀ {x : List (κ × MV)} {y : List (κ × V)}, RvP K ρ st.next H x y → RvP K ρ' N' H' x y
  | _, _, .nil => .nil
  | _, _, .cons h t => .cons (F.rv S h) (Fu.rvP S F t)
theorem Fu.ro (S : Sim K ca ρ st H) (F : Fu ρ st.next H ρ' N' H') {o : MO} {u : HO} (r : RO K ca ρ st.next H o u) : RO K ca ρ' N' H' o u := by
  cases r with
  | lst h => exact .lst (F.rvL S h)
  | dK h => exact .dK (F.rvP S h)
  | dF h => exact .dF (F.rvP S h)
  | ins h => exact .ins (F.rvP S h)
/-- slots -/
def SlotsR (K : PySem.W.Frag) (ρ : Nat → Addr) (N : Nat) (H : Hp) (env : List (Option MV)) (σ : St) : Prop :=
  env.length = σ.length ∧ ∀ (i : Nat) (v : MV), env[i]? = some (some v) → ∃ x, σ[i]? = some (some x) ∧ Rv K ρ N H v x
theorem Fu.slots (S : Sim K ca ρ st H) (F : Fu ρ st.next H ρ' N' H') {env : List (Option MV)} {σ : St} (h : SlotsR K ρ st.next H env σ) : SlotsR K ρ' N' H' env σ :=
  ⟨h.1, fun i v e => let ⟨x, h1, h2⟩ := h.2 i v e; ⟨x, h1, F.rv S h2⟩⟩
theorem Fut.sqT (S : Sim K ca ρ st H) (F : Fut ρ st.next H ρ' N' H') {a : Addr} {ys : List V} (h : SqT K H a ys) : SqT K H' a ys := F.toFu.sqT S h
theorem Fut.frzL (S : Sim K ca ρ st H) (F : Fut ρ st.next H ρ' N' H') {a : Addr} {ys : List V} (h : FrzL K H a ys) : FrzL K H' a ys := F.toFu.frzL S h
theorem Fut.rv (S : Sim K ca ρ st H) (F : Fut ρ st.next H ρ' N' H') {x : MV} {y : V} (h : Rv K ρ st.next H x y) : Rv K ρ' N' H' x y := Fu.rv S F.toFu h
theorem Fut.rvL (S : Sim K ca ρ st H) (F : Fut ρ st.next H ρ' N' H') {x : List MV} {y : List V} (h : RvL K ρ st.next H x y) : RvL K ρ' N' H' x y := Fu.rvL S F.toFu h
theorem Fut.rvP {κ : Type} (S : Sim K ca ρ st H) (F : Fut ρ st.next H ρ' N' H') {x : List (κ × MV)} {y : List (κ × V)} (h : RvP K ρ st.next H x y) : RvP K ρ' N' H' x y := Fu.rvP S F.toFu h
theorem Fut.ro (S : Sim K ca ρ st H) (F : Fut ρ st.next H ρ' N' H') {o : MO} {u : HO} (r : RO K ca ρ st.next H o u) : RO K ca ρ' N' H' o u := F.toFu.ro S r
theorem Fut.slots (S : Sim K ca ρ st H) (F : Fut ρ st.next H ρ' N' H') {env : List (Option MV)} {σ : St} (h : SlotsR K ρ st.next H env σ) : SlotsR K ρ' N' H' env σ := F.toFu.slots S h
theorem SlotsR.set {N : Nat} {env : List (Option MV)} {σ : St} (h : SlotsR K ρ N H env σ) {v : MV} {x : V} (i : Nat) (r : Rv K ρ N H v x) : SlotsR K ρ N H (env.set i (some v)) (σ.set i (some x)) := by
  refine ⟨by rw [List.length_set, List.length_set, h.1], fun j w e => ?_⟩
  by_cases hj : i = j
  · subst hj
    by_cases hl : i < env.length
    · rw [List.getElem?_set_self hl] at e
      cases e
      exact ⟨x, List.getElem?_set_self (by rw [← h.1]; exact hl), r⟩
    · rw [List.getElem?_eq_none (by simpa using hl)] at e
      cases e
  · rw [List.getElem?_set_ne hj] at e
    obtain ⟨y, h1, h2⟩ := h.2 j w e
    exact ⟨y, by rw [List.getElem?_set_ne hj]; exact h1, h2⟩
end
section
variable {K : PySem.W.Frag} {ρ : Nat → Addr} {N : Nat} {H : Hp}
theorem RvL.length : ∀ {xs : List MV} {ys : List V}, RvL K ρ N H xs ys → xs.length = ys.length
  | _, _, .nil => rfl
  | _, _, .cons _ t => by rw [List.length_cons, List.length_cons, RvL.length t]
theorem RvL.get : ∀ {xs : List MV} {ys : List V} {i : Nat} {x : MV}, RvL K ρ N H xs ys → xs[i]? = some x → ∃ y, ys[i]? = some y ∧ Rv K ρ N H x y
  | _, _, i, _, .nil, e => by simp at e
  | _, _, 0, _, .cons h _, e => by simp at e; subst e; exact ⟨_, rfl, h⟩
  | _, _, i + 1, x, .cons _ t, e => by
    obtain ⟨y, h1, h2⟩ := RvL.get (i := i) (x := x) t (by simpa using e)
    exact ⟨y, by simpa using h1, h2⟩
theorem RvL.append : ∀ {xs xs' : List MV} {ys ys' : List V}, RvL K ρ N H xs ys → RvL K ρ N H xs' ys' → RvL K ρ N H (xs ++ xs') (ys ++ ys')
  | _, _, _, _, .nil, s => s
  | _, _, _, _, .cons h t, s => .cons h (RvL.append t s)
theorem RvL.take : ∀ {xs : List MV} {ys : List V} (n : Nat), RvL K ρ N H xs ys → RvL K ρ N H (xs.take n) (ys.take n)
  | _, _, 0, _ => .nil
  | _, _, _ + 1, .nil => .nil
  | _, _, n + 1, .cons h t => .cons h (RvL.take n t)
theorem RvL.drop : ∀ {xs : List MV} {ys : List V} (n : Nat), RvL K ρ N H xs ys → RvL K ρ N H (xs.drop n) (ys.drop n)
  | _, _, 0, r => r
  | _, _, _ + 1, .nil => .nil
  | _, _, n + 1, .cons _ t => RvL.drop n t
theorem RvL.set {x : MV} {y : V} (r : Rv K ρ N H x y) : ∀ {xs : List MV} {ys : List V} (n : Nat), RvL K ρ N H xs ys → RvL K ρ N H (xs.set n x) (ys.set n y)
  | _, _, _, .nil => .nil
  | _, _, 0, .cons _ t => .cons r t
  | _, _, n + 1, .cons h t => .cons h (RvL.set r n t)
theorem RvL.dropLast : ∀ {xs : List MV} {ys : List V}, RvL K ρ N H xs ys → RvL K ρ N H xs.dropLast ys.dropLast := fun {xs ys} r => by
  rw [List.dropLast_eq_take, List.dropLast_eq_take, r.length]
  exact r.take _
theorem RvL.erase : ∀ {xs : List MV} {ys : List V} (n : Nat), RvL K ρ N H xs ys → RvL K ρ N H (xs.eraseIdx n) (ys.eraseIdx n)
  | _, _, _, .nil => by simp; exact .nil
  | _, _, 0, .cons _ t => t
  | _, _, n + 1, .cons h t => .cons h (RvL.erase n t)
theorem RvL.nil_iff {xs : List MV} {ys : List V} (r : RvL K ρ N H xs ys) : xs = [] ↔ ys = [] := by
  cases r <;> simp
end
section
variable {K : PySem.W.Frag} {ca : Cls0} {ρ : Nat → Addr} {st : Store} {H : Hp}
/-- a new object of the store at a fresh place -/
def ext (ρ : Nat → Addr) (n : Nat) (p : Addr) : Nat → Addr := fun m => if m = n then p else ρ m
theorem ext_same {n : Nat} {p : Addr} : ext ρ n p n = p := if_pos rfl
theorem ext_ne {n m : Nat} {p : Addr} (h : m ≠ n) : ext ρ n p m = ρ m := if_neg h
/-- the heap may gain what the store has not -/
theorem Fut.grow (S : Sim K ca ρ st H) {p : Addr} {o : HO} (hp : H p = none) : Fut ρ st.next H ρ st.next (upd H p o) :=
  ⟨⟨Nat.le_refl _, fun _ _ => rfl, fun a u h hn => ⟨by rw [upd_ne (ne_of_none h hp)]; exact h, hn⟩⟩, fun a o u h => by rw [upd_ne (ne_of_none h hp)]; exact h⟩
theorem Sim.grow (S : Sim K ca ρ st H) {p : Addr} {o : HO} (hp : H p = none) : Sim K ca ρ st (upd H p o) :=
  ⟨S.wf, S.inj, fun n hn => by
    obtain ⟨mo, u, h1, h2, r⟩ := S.obj n hn
    exact ⟨mo, u, h1, by rw [upd_ne (ne_of_none h2 hp)]; exact h2, (Fut.grow S hp).ro S r⟩⟩
theorem Fut.alloc (S : Sim K ca ρ st H) {p : Addr} {o : HO} (hp : H p = none) : Fut ρ st.next H (ext ρ st.next p) (st.next + 1) (upd H p o) :=
  ⟨⟨Nat.le_succ _, fun n h => ext_ne (Nat.ne_of_lt h), fun a u h hn => ⟨by rw [upd_ne (ne_of_none h hp)]; exact h, fun n hl => by
    by_cases e : n = st.next
    · rw [e, ext_same]; exact fun z => ne_of_none h hp z.symm
    · rw [ext_ne e]; exact hn n (Nat.lt_of_le_of_ne (Nat.le_of_lt_succ hl) e)⟩⟩, fun a o u h => by rw [upd_ne (ne_of_none h hp)]; exact h⟩
theorem Sim.alloc (S : Sim K ca ρ st H) {p : Addr} {o : HO} {mo : MO} (hp : H p = none) (r : RO K ca ρ st.next H mo o) : Sim K ca (ext ρ st.next p) (st.add mo) (upd H p o) := by
  have F : Fut ρ st.next H (ext ρ st.next p) (st.next + 1) (upd H p o) := Fut.alloc S hp
  have fresh : ∀ n, n < st.next → ρ n ≠ p := fun n hn e => by
    obtain ⟨_, u, _, h2, _⟩ := S.obj n hn
    rw [e, hp] at h2; cases h2
  refine ⟨Store.wf_add S.wf _, fun n m hn hm e => ?_, fun n hn => ?_⟩
  · rw [Store.next_add] at hn hm
    by_cases h1 : n = st.next
    · by_cases h2 : m = st.next
      · rw [h1, h2]
      · rw [h1, ext_same, ext_ne h2] at e
        exact absurd e.symm (fresh m (by omega))
    · by_cases h2 : m = st.next
      · rw [h2, ext_same, ext_ne h1] at e
        exact absurd e (fresh n (by omega))
      · rw [ext_ne h1, ext_ne h2] at e
        exact S.inj n m (by omega) (by omega) e
  · rw [Store.next_add] at hn
    rw [Store.get_add S.wf]
    by_cases h1 : n = st.next
    · rw [if_pos h1, h1, ext_same]
      exact ⟨mo, o, rfl, upd_same, F.ro S r⟩
    · rw [if_neg h1, ext_ne h1]
      obtain ⟨mo', u, e1, e2, r'⟩ := S.obj n (by omega)
      exact ⟨mo', u, e1, by rw [upd_ne (ne_of_none e2 hp)]; exact e2, F.ro S r'⟩
/-- an object of the store is written -/
theorem Fu.write (S : Sim K ca ρ st H) {n : Nat} {o : HO} (hn : n < st.next) : Fu ρ st.next H ρ st.next (upd H (ρ n) o) :=
  ⟨Nat.le_refl _, fun _ _ => rfl, fun a u h hx => ⟨by rw [upd_ne (fun e => hx n hn e.symm)]; exact h, hx⟩⟩
theorem Fut.write (S : Sim K ca ρ st H) {n : Nat} {o : HO} (hn : n < st.next) {u : HO} (hu : H (ρ n) = some u) (hz : ∀ o w, u ≠ .frz o w) : Fut ρ st.next H ρ st.next (upd H (ρ n) o) :=
  ⟨Fu.write S hn, fun a o' w h => by
    have : a ≠ ρ n := fun z => by
      rw [z, hu] at h
      exact hz _ _ (Option.some.inj h)
    rw [upd_ne this]; exact h⟩
theorem Sim.write (S : Sim K ca ρ st H) {n : Nat} {o : HO} {mo : MO} (hn : n < st.next) (r : RO K ca ρ st.next H mo o) : Sim K ca ρ (st.set n mo) (upd H (ρ n) o) := by
  refine ⟨Store.wf_set S.wf _ _, S.inj, fun m hm => ?_⟩
  rw [Store.next_set] at hm ⊢
  rw [Store.get_set S.wf]
  by_cases e : m = n
  · rw [if_pos e, e]
    exact ⟨mo, o, rfl, upd_same, (Fu.write S hn).ro S r⟩
  · rw [if_neg e]
    obtain ⟨mo', u, e1, e2, r'⟩ := S.obj m hm
    exact ⟨mo', u, e1, by rw [upd_ne (fun z => e (S.inj _ _ hm hn z))]; exact e2, (Fu.write S hn).ro S r'⟩
theorem Sim.at (S : Sim K ca ρ st H) {n : Nat} {o : MO} (hn : n < st.next) (e : st.get n = some o) : ∃ u, H (ρ n) = some u ∧ RO K ca ρ st.next H o u := by
  obtain ⟨mo, u, h1, h2, r⟩ := S.obj n hn
  rw [e] at h1; cases h1
  exact ⟨u, h2, r⟩
end
end MP

set_option Elab.async false
set_option linter.all false
set_option maxRecDepth 100000
set_option maxHeartbeats 4000000
namespace MP
open PySem L2

inductive BOp where | add | sub | mul | mod | fdiv | pow
inductive COp where | eq | ne | lt | le | gt | ge | isin | notin
inductive TN where | str | int | bool | tuple | list | dict | cls (cs : List Nat)
  deriving DecidableEq
inductive BI where | len | lens | abs | int | repr | list | tuple | str | isi (ts : List TN) | max2 | min2
inductive Mt where | pop | pop1 | append | index
inductive Tg where | one (i : Nat) | many (is : List Nat)

mutual
inductive ME where
  | var (i : Nat)
  | lit (v : MV)
  | bin (op : BOp) (a b : ME)
  | cmp (op : COp) (a b : ME)
  | cmpL (op : COp) (a b : ME)
  | isN (neg : Bool) (a : ME)
  /-- a op b op' c -/
  | chain (o o' : COp) (a b c : ME)
  | isB (c : Bool) (neg : Bool) (a : ME)
  | and (a b : ME)
  | or (a b : ME)
  | not (a : ME)
  | ifx (c a b : ME)
  | idx (a i : ME)
  | slc (a : ME) (lo hi : Option ME)
  | tupD (es : List ME)
  | lstD (es : List ME)
  | comp (elt : ME) (tg : Tg) (it : MI) (conds : List ME) (ws : List Nat)
  | mk (e : ME)
  /-- a comprehension over a dict's keys, the dict in slot i; the list is new -/
  | compK (elt : ME) (tg : Tg) (i : Nat) (conds : List ME) (ws : List Nat)
  | dicD (kvs : List (ME × ME))
  | call (f : Nat) (args : List ME)
  | bi (b : BI) (args : List ME)
  | all (e : ME)
  | any (e : ME)
  | join (s e : ME)
  | tupL (e : ME)
  | neg (a : ME)
  | meth (m : Mt) (o : ME) (args : List ME)
  /-- an attribute -/
  | fld (cs : List Nat) (o : ME) (f : Str)
  /-- a method: which def, by the object's class -/
  | mcall (o : ME) (m : Str) (tab : List (Nat × Nat)) (args : List ME)
  /-- a new instance of class c, whose __init__ is def f -/
  | new (c f : Nat) (args : List ME)
inductive MI where
  | seq (e : ME)
  | tmp (e : ME)
  | rng1 (a : ME)
  | rng2 (a b : ME)
  | enum (e : ME)
end
inductive MS where
  | set (i : Nat) (e : ME)
  | par (i j : Nat) (a b : ME)
  | par3 (i j l : Nat) (a b c : ME)
  | unp (is : List Nat) (e : ME)
  | put (o i e : ME)
  | iff (c : ME) (a b : List MS)
  | ret (e : ME)
  | expr (e : ME)
  | for_ (tg : Tg) (it : MI) (body : List MS)
  | while_ (c : ME) (body : List MS)
  /-- over a dict's keys, the dict in slot i -/
  | forK (tg : Tg) (i : Nat) (body : List MS)
  | pass | brk | cont
  /-- o.f = e -/
  | sfld (cs : List Nat) (o : ME) (f : Str) (e : ME)
  /-- what is never reached -/
  | never

abbrev Env := List (Option MV)
inductive Fl where | nx | bk | ct | rt (v : MV)
structure MFn where
  np : Nat
  ns : Nat
  body : List MS
abbrev Tab := Nat → Option MFn

/-! ### what operators do with values -/
/-- a value as data, to a depth -/
def toD (st : Store) : Nat → MV → Option PyData
  | 0, _ => none
  | f + 1, v => match v with
    | .non => some .none
    | .bl b => some (.bool b)
    | .int i => some (.int i)
    | .str x => some (.str x)
    | .tup xs => (xs.mapM (toD st f)).map .tuple
    | .scr xs => (xs.mapM (toD st f)).map .list
    | .ref n => match st.get n with
      | some (.lst xs) => (xs.mapM (toD st f)).map .list
      | _ => none
/-- a value as data for repr: dicts too -/
def toR (st : Store) : Nat → MV → Option PyData
  | 0, _ => none
  | f + 1, v => match v with
    | .non => some .none
    | .bl b => some (.bool b)
    | .int i => some (.int i)
    | .str x => some (.str x)
    | .tup xs => (xs.mapM (toR st f)).map .tuple
    | .scr xs => (xs.mapM (toR st f)).map .list
    | .ref n => match st.get n with
      | some (.lst xs) => (xs.mapM (toR st f)).map .list
      | some (.dK []) => some (.dict [])
      | _ => none
/-- data that == may be asked of -/
def toS (st : Store) (v : MV) : Option PyData := match toD st 66 v with
  | some d => if SeqAt.shaped d = true then some d else none
  | none => none
/-- a sequence's items -/
def seqV (st : Store) : MV → Option (List MV)
  | .tup xs => some xs
  | .scr xs => some xs
  | .ref n => match st.get n with
    | some (.lst xs) => some xs
    | _ => none
  | _ => none
def lstV (st : Store) : MV → Option (List MV)
  | .scr xs => some xs
  | .ref n => match st.get n with
    | some (.lst xs) => some xs
    | _ => none
  | _ => none
def txtsV : List MV → Option (List Str)
  | [] => some []
  | .str x :: r => match txtsV r with
    | some t => some (x :: t)
    | none => none
  | _ :: _ => none
def newL (xs : List MV) (st : Store) : Res MV := if xs.length ≤ sizeLine then .ok (.ref st.next) (st.add (.lst xs)) else .stuck
def newT (xs : List MV) (st : Store) : Res MV := if xs.length ≤ sizeLine then .ok (.tup xs) st else .stuck
def small (i : Int) : Bool := decide (-(2 ^ 64) < i) && decide (i < 2 ^ 64)
def binV (op : BOp) (a b : MV) (st : Store) : Res MV := match op, a, b with
  | .add, .int i, .int j => .ok (.int (i + j)) st
  | .add, .str x, .str y => if x.length + y.length ≤ sizeLine then .ok (.str (x ++ y)) st else .stuck
  | .add, .tup xs, .tup ys => if xs.length + ys.length ≤ sizeLine then .ok (.tup (xs ++ ys)) st else .stuck
  | .add, .ref n, .ref m => match st.get n, st.get m with
    | some (.lst xs), some (.lst ys) => newL (xs ++ ys) st
    | _, _ => .stuck
  | .sub, .int i, .int j => .ok (.int (i - j)) st
  | .mul, .int i, .int j => if (small i || small j) = true then .ok (.int (i * j)) st else .stuck
  | .mul, .str x, .int k => if 0 ≤ k ∧ k < 1000 ∧ x.length < 1000 then .ok (.str (Txt.mul x k)) st else .stuck
  | .mod, .int i, .int j => if 0 < j then .ok (.int (i % j)) st else .stuck
  | .fdiv, .int i, .int j => if 0 < j ∧ j < 1073741824 then .ok (.int (i / j)) st else .stuck
  | .pow, .int i, .int j => if 0 ≤ j ∧ j ≤ 1000000 ∧ i.natAbs < 2 ^ 64 then .ok (.int (i ^ j.toNat)) st else .stuck
  | _, _, _ => .stuck
def inTxt (x z : Str) : Bool := match x.cps.toList with
  | [c] => decide (c ∈ z.cps.toList)
  | _ => !(Builtin.Str.occurrences z x 0 z.length 1).isEmpty
def keyV : MV → Option Key
  | .int i => some (.inl i)
  | .str x => some (.inr x)
  | _ => none
def kvLook (kvs : List (Key × MV)) (k : Key) : Option MV := (kvs.find? fun kv => decide (kv.1 = k)).map (·.2)
def kvPut (kvs : List (Key × MV)) (k : Key) (v : MV) : List (Key × MV) :=
  if (kvs.any fun kv => decide (kv.1 = k)) = true then kvs.map fun kv => if kv.1 = k then (kv.1, v) else kv else kvs ++ [(k, v)]
/-- is an item a text -/
def itemS (st : Store) (x : MV) (z : Str) : Option Bool := match x with
  | .str y => some (z == y)
  | .ref n => match st.get n with
    | some (.lst _) => some false
    | some (.dK _) => some false
    | _ => none
  | _ => some false
/-- are items texts, one by one -/
def itemsS (st : Store) : List MV → List Str → Option Bool
  | [], [] => some true
  | x :: xs, z :: zs => match itemS st x z, itemsS st xs zs with
    | some a, some b => some (a && b)
    | _, _ => none
  | _, _ => some false
def tupsV : List MV → Option (List (List Str))
  | [] => some []
  | .tup xs :: r => match txtsV xs, tupsV r with
    | some t, some q => some (t :: q)
    | _, _ => none
  | _ :: _ => none
def anyS (st : Store) (xs : List MV) : List (List Str) → Option Bool
  | [] => some false
  | z :: zs => match itemsS st xs z, anyS st xs zs with
    | some a, some b => some (a || b)
    | _, _ => none
def frV (st : Store) : MV → Option (List MV)
  | .tup xs => some xs
  | .ref n => match st.get n with
    | some (.lst xs) => some xs
    | _ => none
  | _ => none
/-- a tuple among tuples of texts -/
def inTS (a b : MV) (st : Store) : Option Bool := match a with
  | .tup xs => match frV st b with
    | some items => match tupsV items with
      | some zss => anyS st xs zss
      | none => none
    | none => none
  | _ => none
def anyX (st : Store) (a : MV) : List Str → Option Bool
  | [] => some false
  | z :: zs => match itemS st a z, anyX st a zs with
    | some k, some q => some (k || q)
    | _, _ => none
/-- any value among texts -/
def inXS (a b : MV) (st : Store) : Option Bool := match frV st b with
  | some items => match txtsV items with
    | some zs => anyX st a zs
    | none => none
  | none => none
/-- x in y -/
def inV (a b : MV) (st : Store) : Option Bool := match b with
  | .str z => match a with
    | .str x => some (inTxt x z)
    | _ => none
  | .ref n => match st.get n with
    | some (.dK kvs) => (keyV a).map fun k => (kvLook kvs k).isSome
    | some (.lst _) => match toS st a, toS st b with
      | some d, some (.list ds) => some (ds.any fun e => PyData.eqv e d)
      | _, _ => none
    | _ => none
  | .scr _ => match toS st a, toS st b with
    | some d, some (.list ds) => some (ds.any fun e => PyData.eqv e d)
    | _, _ => none
  | .tup _ => match toS st a, toS st b with
    | some d, some (.tuple ds) => some (ds.any fun e => PyData.eqv e d)
    | _, _ => none
  | _ => none
def eqV (a b : MV) (st : Store) : Option Bool := match toS st a, toS st b with
  | some d, some e => some (PyData.eqv d e)
  | _, _ => none
/-- a value against a text -/
def eqXS (st : Store) (a b : MV) : Option Bool := match b with
  | .str z => itemS st a z
  | _ => none
/-- a tuple against a tuple of texts -/
def eqXT (st : Store) (a b : MV) : Option Bool := match a, b with
  | .tup xs, .tup ys => match txtsV ys with
    | some zs => itemsS st xs zs
    | none => none
  | _, _ => none
/-- against the empty tuple -/
def eqT0 (a b : MV) : Option Bool := match a, b with
  | .tup xs, .tup [] => some xs.isEmpty
  | _, _ => none
/-- two texts -/
def eqSS (a b : MV) : Option Bool := match a, b with
  | .str x, .str y => some (x == y)
  | _, _ => none
def orO (a b : Option Bool) : Option Bool := match a with
  | some k => some k
  | none => b
def okB (o : Option Bool) (f : Bool → Bool) (st : Store) : Res MV := match o with
  | some k => .ok (.bl (f k)) st
  | none => .stuck
def cmpV (op : COp) (a b : MV) (st : Store) : Res MV := match op with
  | .eq => okB (orO (eqSS a b) (orO (eqT0 a b) (orO (eqXS st a b) (orO (eqXT st a b) (eqV a b st))))) id st
  | .ne => okB (orO (eqSS a b) (eqV a b st)) (!·) st
  | .isin => okB (orO (inTS a b st) (orO (inXS a b st) (inV a b st))) id st
  | .notin => okB (inV a b st) (!·) st
  | .lt => match a, b with
    | .int i, .int j => .ok (.bl (decide (i < j))) st
    | .str x, .str y => .ok (.bl (decide (x.cps.toList < y.cps.toList))) st
    | _, _ => .stuck
  | .le => match a, b with
    | .int i, .int j => .ok (.bl (decide (i ≤ j))) st
    | .str x, .str y => .ok (.bl (!(decide (y.cps.toList < x.cps.toList)))) st
    | _, _ => .stuck
  | .gt => match a, b with
    | .int i, .int j => .ok (.bl (decide (j < i))) st
    | .str x, .str y => .ok (.bl (decide (y.cps.toList < x.cps.toList))) st
    | _, _ => .stuck
  | .ge => match a, b with
    | .int i, .int j => .ok (.bl (decide (j ≤ i))) st
    | .str x, .str y => .ok (.bl (!(decide (x.cps.toList < y.cps.toList)))) st
    | _, _ => .stuck
/-- two lists that were just made, by == -/
def cmpLV (op : COp) (xs ys : List MV) (st : Store) : Res MV :=
  match toS st (.scr xs), toS st (.scr ys) with
  | some d, some e => match op with
    | .eq => .ok (.bl (PyData.eqv d e)) st
    | .ne => .ok (.bl (!PyData.eqv d e)) st
    | _ => .stuck
  | _, _ => .stuck
/-- the place an index means -/
def at_ {α : Type} (xs : List α) (i : Int) : Option α := atI xs i
def idxV (a i : MV) (st : Store) : Res MV := match a, i with
  | .tup xs, .int k => match atI xs k with
    | some v => .ok v st
    | none => .stuck
  | .scr xs, .int k => match atI xs k with
    | some v => .ok v st
    | none => .stuck
  | .str z, .int k => if z.length ≤ sizeLine then (match atI z.cps.toList k with
    | some c => .ok (.str ⟨#[c]⟩) st
    | none => .stuck) else .stuck
  | .ref n, k => match st.get n with
    | some (.lst xs) => (match k with
      | .int k => match atI xs k with
        | some v => .ok v st
        | none => .stuck
      | _ => .stuck)
    | some (.dK kvs) => (match keyV k with
      | some q => match kvLook kvs q with
        | some v => .ok v st
        | none => .stuck
      | none => .stuck)
    | some (.dF kvs) => (match keyV k with
      | some q => match kvLook kvs q with
        | some v => .ok v st
        | none => .stuck
      | none => .stuck)
    | _ => .stuck
  | _, _ => .stuck
/-- a cut -/
def cut {α : Type} (xs : List α) (lo hi : Option Int) : List α := (xs.drop (HT.sIx xs.length 0 lo)).take (HT.sIx xs.length xs.length hi - HT.sIx xs.length 0 lo)
def slcV (a : MV) (lo hi : Option Int) (st : Store) : Res MV := match a with
  | .tup xs => .ok (.tup (cut xs lo hi)) st
  | .scr xs => newL (cut xs lo hi) st
  | .ref n => match st.get n with
    | some (.lst xs) => newL (cut xs lo hi) st
    | _ => .stuck
  | _ => .stuck
def truV (v : MV) (st : Store) : Option Bool := match v with
  | .non => some false
  | .bl b => some b
  | .int i => some (i != 0)
  | .str y => if y.length ≤ sizeLine then some ((y.length : Int) != 0) else none
  | .tup xs => some (!xs.isEmpty)
  | .scr xs => some (!xs.isEmpty)
  | .ref n => match st.get n with
    | some (.lst xs) => some (!xs.isEmpty)
    | some (.dK kvs) => some (!kvs.isEmpty)
    | _ => none
def isT (st : Store) (v : MV) : TN → Option Bool := fun t => match v with
  | .non => match t with
    | .cls _ => none
    | _ => some false
  | .bl _ => match t with
    | .int => some true
    | .bool => some true
    | .cls _ => none
    | _ => some false
  | .int _ => match t with
    | .int => some true
    | .cls _ => none
    | _ => some false
  | .str _ => match t with
    | .str => some true
    | .cls _ => none
    | _ => some false
  | .tup _ => match t with
    | .tuple => some true
    | .cls _ => none
    | _ => some false
  | .scr _ => match t with
    | .list => some true
    | .cls _ => none
    | _ => some false
  | .ref n => match st.get n with
    | some (.lst _) => (match t with
      | .list => some true
      | .cls _ => none
      | _ => some false)
    | some (.dK _) => (match t with
      | .dict => some true
      | .cls _ => none
      | _ => some false)
    | _ => none
def isTs (st : Store) (v : MV) : List TN → Option Bool
  | [] => some false
  | t :: ts => match isT st v t with
    | some true => some true
    | some false => isTs st v ts
    | none => none
/-- is the i-th text among those before it -/
def seen (xs : List Str) (i : Nat) (k : Str) : Bool := (xs.take i).any (· == k)
/-- how many different texts are among the first i -/
def difs (xs : List Str) : Nat → Nat
  | 0 => 0
  | i + 1 => if seen xs i (xs.getD i Str.empty) = true then difs xs i else difs xs i + 1
def biV (b : BI) (vs : List MV) (st : Store) : Res MV := match b, vs with
  | .len, [.str z] => if z.length ≤ sizeLine then .ok (.int z.length) st else .stuck
  | .len, [.tup xs] => .ok (.int xs.length) st
  | .len, [.scr xs] => .ok (.int xs.length) st
  | .len, [.ref n] => match st.get n with
    | some (.lst xs) => .ok (.int xs.length) st
    | some (.dK kvs) => .ok (.int kvs.length) st
    | _ => .stuck
  | .lens, [.tup xs] => match txtsV xs with
    | some zs => if zs.length ≤ 1000 then .ok (.int (difs zs zs.length)) st else .stuck
    | none => .stuck
  | .abs, [.int i] => .ok (.int (if i < 0 then -i else i)) st
  | .int, [.int i] => .ok (.int i) st
  | .int, [.bl k] => .ok (.int (if k then 1 else 0)) st
  | .list, [v] => match seqV st v with
    | some xs => newL xs st
    | none => .stuck
  | .tuple, [.tup xs] => .ok (.tup xs) st
  | .tuple, [v] => match lstV st v with
    | some xs => newT xs st
    | none => .stuck
  | .repr, [v] => match toR st 66 v with
    | some d => if d.showable = true ∧ d.shown.length ≤ sizeLine ∧ d.depth ≤ 64 then .ok (.str d.shown) st else .stuck
    | none => .stuck
  | .str, [.int i] => if i.natAbs.log2 < 1920 then .ok (.str (toString i)) st else .stuck
  | .isi ts, [v] => match isTs st v ts with
    | some k => .ok (.bl k) st
    | none => .stuck
  | .max2, [.int i, .int j] => .ok (.int (if j > i then j else i)) st
  | .min2, [.int i, .int j] => .ok (.int (if j < i then j else i)) st
  | _, _ => .stuck
def methV (m : Mt) (o : MV) (vs : List MV) (st : Store) : Res MV := match m, o, vs with
  | .pop, .ref n, [] => match st.get n with
    | some (.lst xs) => match xs[xs.length - 1]? with
      | some v => .ok v (st.set n (.lst xs.dropLast))
      | none => .stuck
    | _ => .stuck
  | .append, .ref n, [v] => match st.get n with
    | some (.lst xs) => if xs.length < sizeLine then .ok .non (st.set n (.lst (xs ++ [v]))) else .stuck
    | _ => .stuck
  | _, _, _ => .stuck
/-- an instance -/
def insV (st : Store) (v : MV) : Option (Nat × List (Str × MV)) := match v with
  | .ref n => match st.get n with
    | some (.ins c fs) => some (c, fs)
    | _ => none
  | _ => none
def fldV (cs : List Nat) (f : Str) (x : MV) (st : Store) : Res MV := match insV st x with
  | some (c, fs) => if cs.contains c = true then (match fs.lookup f with
    | some v => .ok v st
    | none => .stuck) else .stuck
  | none => .stuck
def methF (m : Str) (tab : List (Nat × Nat)) (x : MV) (st : Store) : Option Nat := match insV st x with
  | some (c, fs) => (match fs.lookup m with
    | none => tab.lookup c
    | some _ => none)
  | none => none
def fldPut (f : Str) (v : MV) : List (Str × MV) → List (Str × MV)
  | [] => [(f, v)]
  | (g, x) :: r => if g = f then (g, v) :: r else (g, x) :: fldPut f v r
/-- x.f = v -/
def setFV (cs : List Nat) (f : Str) (x v : MV) (st : Store) : Option Store := match x with
  | .ref n => match st.get n with
    | some (.ins c fs) => if cs.contains c = true ∧ fs.length < 1000 then some (st.set n (.ins c (fldPut f v fs))) else none
    | _ => none
  | _ => none
def isLst (st : Store) (v : MV) : Bool := match v with
  | .ref n => match st.get n with
    | some (.lst _) => true
    | _ => false
  | _ => false
def putO (ob : MO) (n : Nat) (i v : MV) (st : Store) : Option Store := match ob, i with
  | .lst xs, .int k => match ixN xs.length k with
    | some j => some (st.set n (.lst (xs.set j v)))
    | none => none
  | .dK kvs, q => match keyV q with
    | some q => if kvs.length < sizeLine then some (st.set n (.dK (kvPut kvs q v))) else none
    | none => none
  | _, _ => none
def putV (o i v : MV) (st : Store) : Option Store := match o with
  | .ref n => match st.get n with
    | some ob => putO ob n i v st
    | none => none
  | _ => none
def strsV : List MV → Option (List Str)
  | [] => some []
  | .str x :: r => match strsV r with
    | some t => some (x :: t)
    | none => none
  | _ :: _ => none
def blsV : List MV → Option (List Bool)
  | [] => some []
  | .bl x :: r => match blsV r with
    | some t => some (x :: t)
    | none => none
  | _ :: _ => none
def kvsV : List (MV × MV) → Option (List (Key × MV))
  | [] => some []
  | (k, v) :: r => match keyV k, kvsV r with
    | some q, some t => some ((q, v) :: t)
    | _, _ => none
def kvMerge (acc more : List (Key × MV)) : List (Key × MV) := more.foldl (fun acc kv => kvPut acc kv.1 kv.2) acc

/-! ### what a loop walks -/
inductive Itv where
  | snap (xs : List MV)
  | live (n i : Nat)
  | enum (n i : Nat)
def signs (z : Str) : List MV := z.cps.toList.map fun c => MV.str ⟨#[c]⟩
def rngV (lo : Int) : Nat → List MV
  | 0 => []
  | n + 1 => .int lo :: rngV (lo + 1) n
/-- the next item, if there is one -/
def Itv.next (it : Itv) (st : Store) : Option (Option (MV × Itv)) := match it with
  | .snap [] => some none
  | .snap (x :: xs) => some (some (x, .snap xs))
  | .live n i => match st.get n with
    | some (.lst xs) => some (match xs[i]? with
      | some x => some (x, .live n (i + 1))
      | none => none)
    | _ => none
  | .enum n i => match st.get n with
    | some (.lst xs) => some (match xs[i]? with
      | some x => some (.tup [.int (i : Nat), x], .enum n (i + 1))
      | none => none)
    | _ => none
def setMany : List Nat → List MV → Env → Option Env
  | [], [], env => some env
  | i :: is, v :: vs, env => setMany is vs (env.set i (some v))
  | _, _, _ => none
def Tg.set (t : Tg) (v : MV) (env : Env) : Option Env := match t with
  | .one i => some (env.set i (some v))
  | .many is => match v with
    | .tup vs => setMany is vs env
    | _ => none
def wipeE (env : Env) : List Nat → Env
  | [] => env
  | v :: vs => (wipeE env vs).set v none

/-! ### the evaluator -/
structure Ev where
  e : ME → Env → Store → Res MV
  t : ME → Env → Store → Res Bool
  a : List ME → Env → Store → Res (List MV)
  p : List (ME × ME) → Env → Store → Res (List (MV × MV))
  o : Option ME → Env → Store → Res (Option Int)
  l : ME → Env → Store → Res (List MV)
  i : MI → Env → Store → Res Itv
  ts : List ME → Env → Store → Res Bool
  f : Itv → Tg → List MS → Env → Store → Res (Fl × Env)
  g : Itv → Tg → List ME → ME → Env → List MV → Store → Res (List MV)
  s : MS → Env → Store → Res (Fl × Env)
  b : List MS → Env → Store → Res (Fl × Env)
def Ev.none : Ev where
  e _ _ _ := .stuck
  t _ _ _ := .stuck
  a _ _ _ := .stuck
  p _ _ _ := .stuck
  o _ _ _ := .stuck
  l _ _ _ := .stuck
  i _ _ _ := .stuck
  ts _ _ _ := .stuck
  f _ _ _ _ _ := .stuck
  g _ _ _ _ _ _ _ := .stuck
  s _ _ _ := .stuck
  b _ _ _ := .stuck
def startE (vs : List MV) (ns : Nat) : Env := vs.map some ++ List.replicate (ns - vs.length) none
/-- a call: the body from its start -/
def callB (R : Ev) (fn : MFn) (vs : List MV) (st : Store) : Res MV :=
  if vs.length = fn.np then (R.b fn.body (startE vs fn.ns) st).bind fun r st' => match r.1 with
    | .nx => .ok .non st'
    | .rt v => .ok v st'
    | _ => .stuck
  else .stuck
def stepE (Γ : Tab) (R : Nat → Ev) (d : Nat) (m : ME) (env : Env) (st : Store) : Res MV := match m with
  | .var i => match env[i]? with
    | some (some v) => .ok v st
    | _ => .stuck
  | .lit v => .ok v st
  | .bin op a b => ((R d).e a env st).bind fun x st => ((R d).e b env st).bind fun y st => binV op x y st
  | .cmp op a b => ((R d).e a env st).bind fun x st => ((R d).e b env st).bind fun y st => cmpV op x y st
  | .cmpL op a b => ((R d).l a env st).bind fun x st => ((R d).l b env st).bind fun y st => cmpLV op x y st
  | .isN neg a => ((R d).e a env st).bind fun x st => match x with
    | .non => .ok (.bl (!neg)) st
    | _ => .ok (.bl neg) st
  | .isB c neg a => ((R d).e a env st).bind fun x st => match x with
    | .bl k => .ok (.bl (if neg then !(decide (k = c)) else decide (k = c))) st
    | _ => .stuck
  | .and a b => ((R d).e a env st).bind fun x st => match x with
    | .bl true => (R d).e b env st
    | .bl false => .ok (.bl false) st
    | _ => .stuck
  | .or a b => ((R d).e a env st).bind fun x st => match x with
    | .bl false => (R d).e b env st
    | .bl true => .ok (.bl true) st
    | _ => .stuck
  | .not a => ((R d).t a env st).bind fun k st => .ok (.bl (!k)) st
  | .ifx c a b => ((R d).t c env st).bind fun k st => if k = true then (R d).e a env st else (R d).e b env st
  | .idx a i => ((R d).e a env st).bind fun x st => ((R d).e i env st).bind fun y st => idxV x y st
  | .slc a lo hi => ((R d).e a env st).bind fun x st => ((R d).o lo env st).bind fun l st => ((R d).o hi env st).bind fun h st => slcV x l h st
  | .tupD es => ((R d).a es env st).bind fun vs st => newT vs st
  | .mk e => ((R d).l e env st).bind fun vs st => newL vs st
  | .dicD kvs => if kvs.length ≤ 15 then ((R d).p kvs env st).bind fun ps st => match kvsV ps with
    | some q => .ok (.ref st.next) (st.add (.dK (kvMerge [] q)))
    | none => .stuck else .stuck
  | .call f args => ((R d).a args env st).bind fun vs st => match Γ f, d with
    | some fn, d' + 1 => callB (R d') fn vs st
    | _, _ => .stuck
  | .bi b args => ((R d).a args env st).bind fun vs st => biV b vs st
  | .all e => ((R d).l e env st).bind fun vs st => match blsV vs with
    | some bs => .ok (.bl (bs.all id)) st
    | none => .stuck
  | .any e => ((R d).l e env st).bind fun vs st => match blsV vs with
    | some bs => .ok (.bl (bs.any id)) st
    | none => .stuck
  | .join s e => ((R d).e s env st).bind fun x st => ((R d).l e env st).bind fun vs st => match x, strsV vs with
    | .str a, some ys => if (ys.map (·.length)).sum + ys.length * a.length ≤ 16777216 then .ok (.str (Txt.join a ys)) st else .stuck
    | _, _ => .stuck
  | .tupL e => ((R d).l e env st).bind fun vs st => newT vs st
  | .neg a => ((R d).e a env st).bind fun x st => match x with
    | .int i => .ok (.int (-i)) st
    | _ => .stuck
  | .meth m o args => ((R d).e o env st).bind fun x st => if isLst st x = true then ((R d).a args env st).bind fun vs st => methV m x vs st else .stuck
  | .fld cs o f => ((R d).e o env st).bind fun x st => fldV cs f x st
  | .mcall o m tab args => ((R d).e o env st).bind fun x st => match methF m tab x st with
    | some f => ((R d).a args env st).bind fun vs st => match Γ f, d with
      | some fn, d' + 1 => callB (R d') fn (x :: vs) st
      | _, _ => .stuck
    | none => .stuck
  | .new c f args => ((R d).a args env st).bind fun vs st => match Γ f, d with
    | some fn, d' + 2 => (callB (R d') fn (.ref st.next :: vs) (st.add (.ins c []))).bind fun r st' => (match r with
      | .non => .ok (.ref st.next) st'
      | _ => .stuck)
    | _, _ => .stuck
  | .chain o o' a b c => ((R d).e a env st).bind fun x st => ((R d).e b env st).bind fun y st => (cmpV o x y st).bind fun k st => match k with
    | .bl true => ((R d).e c env st).bind fun z st => cmpV o' y z st
    | .bl false => .ok (.bl false) st
    | _ => .stuck
  | .lstD _ => .stuck
  | .comp _ _ _ _ _ => .stuck
  | .compK _ _ _ _ _ => .stuck
def stepT (R : Ev) (m : ME) (env : Env) (st : Store) : Res Bool := match m with
  | .and a b => (R.t a env st).bind fun k st => if k = true then R.t b env st else .ok false st
  | .or a b => (R.t a env st).bind fun k st => if k = true then .ok true st else R.t b env st
  | .not a => (R.t a env st).bind fun k st => .ok (!k) st
  | m => (R.e m env st).bind fun v st => match truV v st with
    | some k => .ok k st
    | none => .stuck
def keyMV : Key → MV
  | .inl i => .int i
  | .inr x => .str x
def unlockV {α : Type} (n : Nat) (r : α) (st : Store) : Res α := match st.get n with
  | some (.dF kvs) => .ok r (st.set n (.dK kvs))
  | _ => .stuck
def stepL (R : Ev) (m : ME) (env : Env) (st : Store) : Res (List MV) := match m with
  | .lstD es => (R.a es env st).bind fun vs st => if vs.length ≤ sizeLine then .ok vs st else .stuck
  | .comp elt tg it conds ws => (R.i it env st).bind fun w st => R.g w tg conds elt (wipeE env ws) [] st
  | .compK elt tg i conds ws => match env[i]? with
    | some (some (.ref n)) => (match st.get n with
      | some (.dK kvs) => (R.g (.snap (kvs.map fun kv => keyMV kv.1)) tg conds elt (wipeE env ws) [] (st.set n (.dF kvs))).bind fun r st => unlockV n r st
      | _ => .stuck)
    | _ => .stuck
  | m => (R.e m env st).bind fun v st => match lstV st v with
    | some xs => .ok xs st
    | none => .stuck
def stepI (R : Ev) (m : MI) (env : Env) (st : Store) : Res Itv := match m with
  | .seq e => (R.e e env st).bind fun v st => match v with
    | .tup xs => .ok (.snap xs) st
    | .scr xs => .ok (.snap xs) st
    | .str z => .ok (.snap (signs z)) st
    | .ref n => match st.get n with
      | some (.lst _) => .ok (.live n 0) st
      | _ => .stuck
    | _ => .stuck
  | .tmp e => (R.l e env st).bind fun xs st => .ok (.snap xs) st
  | .enum e => (R.e e env st).bind fun v st => match v with
    | .ref n => match st.get n with
      | some (.lst _) => .ok (.enum n 0) st
      | _ => .stuck
    | _ => .stuck
  | .rng1 a => (R.e a env st).bind fun v st => match v with
    | .int j => if -(2 ^ 62) ≤ j ∧ j < 2 ^ 62 then .ok (.snap (rngV 0 j.toNat)) st else .stuck
    | _ => .stuck
  | .rng2 a b => (R.e a env st).bind fun v st => (R.e b env st).bind fun u st => match v, u with
    | .int i, .int j => if -(2 ^ 62) ≤ i ∧ i < 2 ^ 62 ∧ -(2 ^ 62) ≤ j ∧ j < 2 ^ 62 then .ok (.snap (rngV i (j - i).toNat)) st else .stuck
    | _, _ => .stuck
def stepS (R : Ev) (m : MS) (env : Env) (st : Store) : Res (Fl × Env) := match m with
  | .set i e => (R.e e env st).bind fun v st => .ok (.nx, env.set i (some v)) st
  | .par i j a b => (R.e a env st).bind fun v st => (R.e b env st).bind fun u st => .ok (.nx, (env.set i (some v)).set j (some u)) st
  | .par3 i j l a b c => (R.a [a, b, c] env st).bind fun vs st => match vs with
    | [u, v, w] => .ok (.nx, ((env.set i (some u)).set j (some v)).set l (some w)) st
    | _ => .stuck
  | .unp is e => (R.e e env st).bind fun v st => match v with
    | .tup vs => match setMany is vs env with
      | some env' => .ok (.nx, env') st
      | none => .stuck
    | _ => .stuck
  | .put o i e => (R.e e env st).bind fun v st => (R.e o env st).bind fun x st => (R.e i env st).bind fun y st => match putV x y v st with
    | some st' => .ok (.nx, env) st'
    | none => .stuck
  | .iff c a b => (R.t c env st).bind fun k st => if k = true then R.b a env st else R.b b env st
  | .ret e => (R.e e env st).bind fun v st => .ok (.rt v, env) st
  | .expr e => (R.e e env st).bind fun _ st => .ok (.nx, env) st
  | .for_ tg it body => (R.i it env st).bind fun w st => R.f w tg body env st
  | .forK tg i body => match env[i]? with
    | some (some (.ref n)) => (match st.get n with
      | some (.dK kvs) => (R.f (.snap (kvs.map fun kv => keyMV kv.1)) tg body env (st.set n (.dF kvs))).bind fun r st => unlockV n r st
      | _ => .stuck)
    | _ => .stuck
  | .while_ c body => (R.t c env st).bind fun k st => if k = true then (R.b body env st).bind fun r st => (match r.1 with
      | .nx => R.s (.while_ c body) r.2 st
      | .ct => R.s (.while_ c body) r.2 st
      | .bk => .ok (.nx, r.2) st
      | .rt v => .ok (.rt v, r.2) st) else .ok (.nx, env) st
  | .sfld cs o f e => (R.e e env st).bind fun v st => (R.e o env st).bind fun x st => match setFV cs f x v st with
    | some st' => .ok (.nx, env) st'
    | none => .stuck
  | .never => .stuck
  | .pass => .ok (.nx, env) st
  | .brk => .ok (.bk, env) st
  | .cont => .ok (.ct, env) st
def stepEv (Γ : Tab) (R : Nat → Ev) (d : Nat) : Ev where
  e := stepE Γ R d
  t := stepT (R d)
  a := fun es env st => match es with
    | [] => .ok [] st
    | m :: r => ((R d).e m env st).bind fun v st => ((R d).a r env st).bind fun vs st => .ok (v :: vs) st
  p := fun es env st => match es with
    | [] => .ok [] st
    | (k, m) :: r => ((R d).e k env st).bind fun q st => ((R d).e m env st).bind fun v st => ((R d).p r env st).bind fun vs st => .ok ((q, v) :: vs) st
  o := fun m env st => match m with
    | none => .ok none st
    | some m => ((R d).e m env st).bind fun v st => match v with
      | .int i => .ok (some i) st
      | _ => .stuck
  l := stepL (R d)
  i := stepI (R d)
  ts := fun es env st => match es with
    | [] => .ok true st
    | m :: r => ((R d).t m env st).bind fun k st => if k = true then (R d).ts r env st else .ok false st
  f := fun w tg body env st => match w.next st with
    | none => .stuck
    | some none => .ok (.nx, env) st
    | some (some (v, w')) => match tg.set v env with
      | none => .stuck
      | some env1 => ((R d).b body env1 st).bind fun r st => match r.1 with
        | .nx => (R d).f w' tg body r.2 st
        | .ct => (R d).f w' tg body r.2 st
        | .bk => .ok (.nx, r.2) st
        | .rt v => .ok (.rt v, r.2) st
  g := fun w tg conds elt env acc st => match w.next st with
    | none => .stuck
    | some none => .ok acc st
    | some (some (v, w')) => match tg.set v env with
      | none => .stuck
      | some env1 => ((R d).ts conds env1 st).bind fun k st => if k = true then ((R d).e elt env1 st).bind fun y st =>
          if acc.length < sizeLine then (R d).g w' tg conds elt env (acc ++ [y]) st else .stuck
        else (R d).g w' tg conds elt env acc st
  s := stepS (R d)
  b := fun ms env st => match ms with
    | [] => .ok (.nx, env) st
    | m :: r => ((R d).s m env st).bind fun x st => match x.1 with
      | .nx => (R d).b r x.2 st
      | fl => .ok (fl, x.2) st
/-- with n units of fuel, at depth d -/
def ev (Γ : Tab) : Nat → Nat → Ev
  | 0, _ => Ev.none
  | n + 1, d => stepEv Γ (ev Γ n) d
end MP

set_option Elab.async false
set_option linter.all false
set_option maxRecDepth 100000
set_option maxHeartbeats 4000000
namespace MP
open PySem L2

/-! ### readings by the evaluator -/
section
variable (K : PySem.W.Frag) (ca : Cls0)
/-- what a result that came through leaves -/
def Out {α β : Type} (Rel : (Nat → Addr) → Nat → Hp → α → β → Prop) (ρ : Nat → Addr) (st : Store) (H : Hp) (r : Res α) (Q : β → Hp → Prop) : Prop :=
  ∃ a st', r = .ok a st' ∧ ∀ ρ' H' b, Fut ρ st.next H ρ' st'.next H' → Sim K ca ρ' st' H' → Rel ρ' st'.next H' a b → Q b H'
def rd {α β : Type} (Rel : (Nat → Addr) → Nat → Hp → α → β → Prop) (run : Nat → Env → Store → Res α) (σ : St) (H : Hp) (Q : β → Hp → Prop) : Prop :=
  ∃ (n : Nat) (ρ : Nat → Addr) (st : Store) (env : Env), Sim K ca ρ st H ∧ SlotsR K ρ st.next H env σ ∧ Out K ca Rel ρ st H (run n env st) Q
/-- a list that may be read now -/
def RvS (K : PySem.W.Frag) (ρ : Nat → Addr) (N : Nat) (H : Hp) (xs : List MV) (x : V) : Prop := ∃ p ys, x = .ref p ∧ SqL K H p ys ∧ RvL K ρ N H xs ys
variable (Γ : Tab) (d : Nat)
def rE (m : ME) : TE := rd K ca (Rv K) fun n => (ev Γ n d).e m
def rT (m : ME) : TT := rd K ca (fun _ _ _ a b => a = b) fun n => (ev Γ n d).t m
def rA (ms : List ME) : TA := rd K ca (RvL K) fun n => (ev Γ n d).a ms
def rL (m : ME) : TE := rd K ca (RvS K) fun n => (ev Γ n d).l m
/-- statements -/
def EndS (D : Ends) (ρ : Nat → Addr) (N : Nat) (H : Hp) (r : Fl × Env) (σ : St) : Prop := match r.1 with
  | .nx => SlotsR K ρ N H r.2 σ → D.nx σ H
  | .bk => SlotsR K ρ N H r.2 σ → D.bk σ H
  | .ct => SlotsR K ρ N H r.2 σ → D.ct σ H
  | .rt v => ∀ x, Rv K ρ N H v x → D.rt x H
def OutS (ρ : Nat → Addr) (st : Store) (H : Hp) (r : Res (Fl × Env)) (D : Ends) : Prop :=
  ∃ a st', r = .ok a st' ∧ ∀ ρ' H' σ', Fut ρ st.next H ρ' st'.next H' → Sim K ca ρ' st' H' → EndS K D ρ' st'.next H' a σ'
def rS (run : Nat → Env → Store → Res (Fl × Env)) : TS := fun D σ H =>
  ∃ (n : Nat) (ρ : Nat → Addr) (st : Store) (env : Env), Sim K ca ρ st H ∧ SlotsR K ρ st.next H env σ ∧ OutS K ca ρ st H (run n env st) D
def rS1 (m : MS) : TS := rS K ca fun n => (ev Γ n d).s m
def rSs (ms : List MS) : TS := rS K ca fun n => (ev Γ n d).b ms
end

section
variable {X : Cx} {ca : Cls0} {Γ : Tab} {d : Nat}
theorem PE.wk {e : Expr} {t t' : TE} (h : PE X e t) (w : ∀ σ H Q, t' σ H Q → t σ H Q) : PE X e t' := ⟨fun pins s σ H Q I q => h.run pins s σ H Q I (w σ H Q q)⟩
theorem PT.wk {e : Expr} {t t' : TT} (h : PT X e t) (w : ∀ σ H Q, t' σ H Q → t σ H Q) : PT X e t' := ⟨fun pins s σ H Q I q => h.run pins s σ H Q I (w σ H Q q)⟩
theorem PW.wk {e : Expr} {t t' : TT} (h : PW X e t) (w : ∀ σ H Q, t' σ H Q → t σ H Q) : PW X e t' := ⟨fun wh pins s σ H Q I q => h.run wh pins s σ H Q I (w σ H Q q)⟩
theorem PA.wk {e : List Expr} {t t' : TA} (h : PA X e t) (w : ∀ σ H Q, t' σ H Q → t σ H Q) : PA X e t' := ⟨fun pos pins s σ H Q I q => h.run pos pins s σ H Q I (w σ H Q q)⟩
theorem PS.wk {e : Stmt} {t t' : TS} (h : PS X e t) (w : ∀ D σ H, t' D σ H → t D σ H) : PS X e t' := ⟨fun pins s σ H D I q => h.run pins s σ H D I (w D σ H q)⟩
theorem PSs.wk {e : List Stmt} {t t' : TS} (h : PSs X e t) (w : ∀ D σ H, t' D σ H → t D σ H) : PSs X e t' := ⟨fun pins s σ H D I q => h.run pins s σ H D I (w D σ H q)⟩

/-- a value goes on -/
def Cont (K : PySem.W.Frag) (ca : Cls0) (ρ : Nat → Addr) (st : Store) (H : Hp) (v : MV) (st' : Store) (Q : VK) : Prop :=
  ∀ ρ' H' z, Fut ρ st.next H ρ' st'.next H' → Sim K ca ρ' st' H' → Rv K ρ' st'.next H' v z → Q z H'
theorem Cont.after {K : PySem.W.Frag} {ρ ρ1 : Nat → Addr} {st st1 st' : Store} {H H1 : Hp} {v : MV} {Q : VK} (c : Cont K ca ρ st H v st' Q) (F : Fut ρ st.next H ρ1 st1.next H1) : Cont K ca ρ1 st1 H1 v st' Q :=
  fun ρ' H' z F' S' r => c ρ' H' z (F.trans F') S' r
theorem Cont.here {K : PySem.W.Frag} {ρ : Nat → Addr} {st : Store} {H : Hp} {v : MV} {Q : VK} (c : Cont K ca ρ st H v st Q) (S : Sim K ca ρ st H) {z : V} (r : Rv K ρ st.next H v z) : Q z H := c ρ H z (Fut.refl _ _ _) S r

/-- one expression, then what its value is put to -/
theorem e1_wk {e : Expr} {m a : ME} {r : V → Hp → VK → Prop} {te : TE} {f : Nat → MV → Store → Res MV} (h : PE X e (fun σ H Q => te σ H fun x H1 => r x H1 Q)) (hte : te = rE X.K ca Γ d a)
    (hm : ∀ n env st, (ev Γ (n + 1) d).e m env st = ((ev Γ n d).e a env st).bind fun x st => f n x st)
    (op : ∀ n ρ st H x xv v st' Q, f n x st = .ok v st' → Sim X.K ca ρ st H → Rv X.K ρ st.next H x xv → Cont X.K ca ρ st H v st' Q → r xv H Q) : PE X e (rE X.K ca Γ d m) := by
  subst hte
  refine PE.wk h fun σ H Q q => ?_
  obtain ⟨n, ρ, st, env, S, L, v, st', he, k⟩ := q
  cases n with
  | zero => cases he
  | succ n =>
    have he : (ev Γ (n + 1) d).e m env st = .ok v st' := he
    rw [hm] at he
    obtain ⟨x, st1, e1, e2⟩ := Res.bind_ok he
    exact ⟨n, ρ, st, env, S, L, x, st1, e1, fun ρ1 H1 xv F1 S1 R1 => op n ρ1 st1 H1 x xv v st' Q e2 S1 R1 (Cont.after k F1)⟩
/-- two expressions, then what their values are put to -/
theorem e2_wk {e : Expr} {m a b : ME} {r : R2} {ta tb : TE} {f : MV → MV → Store → Res MV} (h : PE X e (fun σ H Q => ta σ H fun x H1 => tb σ H1 fun y H2 => r x y H2 Q)) (hta : ta = rE X.K ca Γ d a) (htb : tb = rE X.K ca Γ d b)
    (hm : ∀ n env st, (ev Γ (n + 1) d).e m env st = ((ev Γ n d).e a env st).bind fun x st => ((ev Γ n d).e b env st).bind fun y st => f x y st)
    (op : ∀ ρ st H x y xv yv v st' Q, f x y st = .ok v st' → Sim X.K ca ρ st H → Rv X.K ρ st.next H x xv → Rv X.K ρ st.next H y yv → Cont X.K ca ρ st H v st' Q → r xv yv H Q) : PE X e (rE X.K ca Γ d m) := by
  subst hta htb
  refine PE.wk h fun σ H Q q => ?_
  obtain ⟨n, ρ, st, env, S, L, v, st', he, k⟩ := q
  cases n with
  | zero => cases he
  | succ n =>
    have he : (ev Γ (n + 1) d).e m env st = .ok v st' := he
    rw [hm] at he
    obtain ⟨x, st1, e1, e2⟩ := Res.bind_ok he
    obtain ⟨y, st2, e3, e4⟩ := Res.bind_ok e2
    exact ⟨n, ρ, st, env, S, L, x, st1, e1, fun ρ1 H1 xv F1 S1 R1 => ⟨n, ρ1, st1, env, S1, F1.slots S L, y, st2, e3, fun ρ2 H2 yv F2 S2 R2 => op ρ2 st2 H2 x y xv yv v st' Q e4 S2 (F2.rv S1 R1) R2 (Cont.after k (F1.trans F2))⟩⟩

/-! ### names and constants -/
theorem s_var {i : Nat} {e : Expr} (h : PE X e (tVar i)) : PE X e (rE X.K ca Γ d (.var i)) := by
  refine PE.wk h fun σ H Q q => ?_
  obtain ⟨n, ρ, st, env, S, L, v, st', he, k⟩ := q
  cases n with
  | zero => cases he
  | succ n =>
    have he' : (match env[i]? with
      | some (some v) => Res.ok v st
      | _ => .stuck) = .ok v st' := he
    cases hi : env[i]? with
    | none => rw [hi] at he'; cases he'
    | some o =>
      cases o with
      | none => rw [hi] at he'; cases he'
      | some w =>
        rw [hi] at he'
        cases he'
        obtain ⟨x, h1, h2⟩ := L.2 i _ hi
        exact ⟨x, h1, k ρ H x (Fut.refl _ _ _) S h2⟩
theorem s_lit {e : Expr} {v : V} {mv : MV} (h : PE X e (tC v)) (r : ∀ ρ N H, Rv X.K ρ N H mv v) : PE X e (rE X.K ca Γ d (.lit mv)) := by
  refine PE.wk h fun σ H Q q => ?_
  obtain ⟨n, ρ, st, env, S, L, w, st', he, k⟩ := q
  cases n with
  | zero => cases he
  | succ n =>
    cases he
    exact k ρ H v (Fut.refl _ _ _) S (r _ _ _)
theorem s_int {i j pos} : PE X (.Constant (.int i) j pos) (rE X.K ca Γ d (.lit (.int i))) := s_lit pe_int fun _ _ _ => .int _
theorem s_bl {b j pos} : PE X (.Constant (.bool b) j pos) (rE X.K ca Γ d (.lit (.bl b))) := s_lit pe_bl fun _ _ _ => .bl _
theorem s_non {j pos} : PE X (.Constant .none j pos) (rE X.K ca Γ d (.lit .non)) := s_lit pe_non fun _ _ _ => .non
theorem s_str {x j pos} : PE X (.Constant (.str x) j pos) (rE X.K ca Γ d (.lit (.str x))) := s_lit pe_str fun _ _ _ => .str _

/-! ### new things -/
theorem Cont.newL {K : PySem.W.Frag} {ρ : Nat → Addr} {st st' : Store} {H : Hp} {v : MV} {Q : VK} {xs : List MV} {ys : List V} (h : newL xs st = .ok v st') (c : Cont K ca ρ st H v st' Q) (S : Sim K ca ρ st H) (r : RvL K ρ st.next H xs ys) :
    xs.length ≤ sizeLine ∧ ∀ p, H p = none → Q (.ref p) (upd H p (.lst ys)) := by
  unfold MP.newL at h
  split at h
  · cases h
    refine ⟨by assumption, fun p hp => ?_⟩
    have q := c (ext ρ st.next p) (upd H p (.lst ys)) (.ref p) (Fut.alloc S hp) (Sim.alloc S hp (.lst r))
    refine q ?_
    have e : ext ρ st.next p st.next = p := ext_same
    have q2 : Rv K (ext ρ st.next p) (st.add (.lst xs)).next (upd H p (.lst ys)) (.ref st.next) (.ref (ext ρ st.next p st.next)) := .ref (Nat.lt_succ_self _)
    rw [e] at q2
    exact q2
  · cases h
theorem Cont.newT {K : PySem.W.Frag} {ρ : Nat → Addr} {st : Store} {H : Hp} {Q : VK} {xs : List MV} {ys : List V} (c : Cont K ca ρ st H (.tup xs) st Q) (S : Sim K ca ρ st H) (r : RvL K ρ st.next H xs ys) :
    ∀ p, H p = none → Q (.ref p) (upd H p (.tup ys)) := fun p hp =>
  c ρ _ _ (Fut.grow S hp) (Sim.grow S hp) (.tup (SqT.of upd_same) ((Fut.grow S hp).rvL S r))

/-! ### operators -/
theorem add_ok {K : PySem.W.Frag} {ρ : Nat → Addr} {st st' : Store} {H : Hp} {x y v : MV} {xv yv : V} {Q : VK} (h : binV .add x y st = .ok v st') (S : Sim K ca ρ st H) (hx : Rv K ρ st.next H x xv) (hy : Rv K ρ st.next H y yv) (c : Cont K ca ρ st H v st' Q) :
    (rI0 (fun i j => .int (i + j)) xv yv H Q ∨ (∃ i j, xv = .str i ∧ yv = .str j ∧ i.length + j.length ≤ sizeLine ∧ Q (.str (i ++ j)) H)) ∨ (rCatA K xv yv H Q ∨ rCat xv yv H Q) := by
  cases hx with
  | int i =>
    cases hy with
    | int j => cases h; exact .inl (.inl ⟨i, j, rfl, rfl, c.here S (.int _)⟩)
    | _ => cases h
  | str a =>
    cases hy with
    | str b =>
      unfold binV at h
      simp only at h
      split at h
      · cases h; exact .inl (.inr ⟨a, b, rfl, rfl, by assumption, c.here S (.str _)⟩)
      · cases h
    | _ => cases h
  | @tup p ys xs hp hr =>
    cases hy with
    | @tup p' ys' xs' hp' hr' =>
      unfold binV at h
      simp only at h
      split at h
      · cases h
        rename_i hl
        refine .inr (.inl ⟨p, p', ys, ys', rfl, rfl, hp, hp', by rw [← hr.length, ← hr'.length]; exact hl, fun e => ?_, fun _ e => ?_, fun _ _ => c.newT S (hr.append hr')⟩)
        · have e2 := hr.nil_iff.mpr e
          subst e2
          exact c.here S (.tup hp' hr')
        · have e2 := hr'.nil_iff.mpr e
          subst e2
          rw [List.append_nil] at c
          exact c.here S (.tup hp hr)
      · cases h
    | _ => cases h
  | @ref n hn =>
    cases hy with
    | @ref m hm =>
      unfold binV at h
      simp only at h
      split at h
      · rename_i xs ys e1 e2
        obtain ⟨u1, h1, r1⟩ := S.at hn e1
        obtain ⟨u2, h2, r2⟩ := S.at hm e2
        cases r1 with
        | lst r1 =>
          cases r2 with
          | lst r2 =>
            obtain ⟨hl, q⟩ := Cont.newL h c S (r1.append r2)
            refine .inr (.inr ⟨_, _, _, _, rfl, rfl, h1, h2, ?_, q⟩)
            rw [← r1.length, ← r2.length, ← List.length_append]
            exact hl
      · cases h
    | _ => cases h
  | _ => cases h
theorem s_add {a b : Expr} {ma mb : ME} {pos : Pos} (ha : PE X a (rE X.K ca Γ d ma)) (hb : PE X b (rE X.K ca Γ d mb)) : PE X (.BinOp a .Add b pos) (rE X.K ca Γ d (.bin .add ma mb)) :=
  e2_wk (pe_op (OpR.or (OpR.or op_add op_add_str) (OpR.or op_catA op_cat)) ha hb) rfl rfl (fun _ _ _ => rfl) fun ρ st H x y xv yv v st' Q h S hx hy c => add_ok h S hx hy c
theorem s_sub {a b : Expr} {ma mb : ME} {pos : Pos} (ha : PE X a (rE X.K ca Γ d ma)) (hb : PE X b (rE X.K ca Γ d mb)) : PE X (.BinOp a .Sub b pos) (rE X.K ca Γ d (.bin .sub ma mb)) :=
  e2_wk (pe_op op_sub ha hb) rfl rfl (fun _ _ _ => rfl) fun ρ st H x y xv yv v st' Q h S hx hy c => by
    cases hx with
    | int i =>
      cases hy with
      | int j => cases h; exact ⟨i, j, rfl, rfl, c.here S (.int _)⟩
      | _ => cases h
    | _ => cases hy <;> cases h
theorem small_or {i j : Int} (h : (small i || small j) = true) : CMul i j := by
  unfold small at h
  simp only [Bool.or_eq_true, Bool.and_eq_true, decide_eq_true_eq] at h
  exact h
theorem mul_ok {x : Str} {n : Int} (h1 : 0 ≤ n) (h2 : n < 1000) (h3 : x.length < 1000) : MulOk x n := by
  refine ⟨by simp only [Bool.or_eq_false_iff, decide_eq_false_iff_not]; omega, fun q _ => ?_, fun q _ => ?_⟩
  · have h4 : (9223372036854775 : Int) ≤ (2 ^ 63 - 1) / n := by
      rw [Int.le_ediv_iff_mul_le (by omega)]
      have : (9223372036854775 : Int) * n ≤ 9223372036854775 * 999 := Int.mul_le_mul_of_nonneg_left (by omega) (by decide)
      omega
    omega
  · unfold Builtin.Str.tooLong
    have h5 : n.toNat < 1000 := by omega
    have h6 : x.length * n.toNat ≤ 1000 * 1000 := Nat.mul_le_mul (by omega) (by omega)
    have h7 := sizeLine_eq
    simp only [decide_eq_false_iff_not]
    omega
def rMulS : R2 := fun x y H Q => ∃ z k, x = .str z ∧ y = .int k ∧ 0 ≤ k ∧ k < 1000 ∧ z.length < 1000 ∧ Q (.str (Txt.mul z k)) H
theorem op_mulS : OpR X (binaryOp .Mult) rMulS := by
  intro pins s σ H x y v u Q I rx ry h
  obtain ⟨z, k, rfl, rfl, h1, h2, h3, q⟩ := h
  obtain ⟨t, rfl⟩ := rx
  obtain ⟨t2, rfl⟩ := ry
  exact SB.mul (mul_ok h1 h2 h3) fun t' k' => ⟨.str _, H, I.tok _, ⟨_, rfl⟩, q⟩
theorem s_mul {a b : Expr} {ma mb : ME} {pos : Pos} (ha : PE X a (rE X.K ca Γ d ma)) (hb : PE X b (rE X.K ca Γ d mb)) : PE X (.BinOp a .Mult b pos) (rE X.K ca Γ d (.bin .mul ma mb)) :=
  e2_wk (pe_op (OpR.or op_mul op_mulS) ha hb) rfl rfl (fun _ _ _ => rfl) fun ρ st H x y xv yv v st' Q h S hx hy c => by
    cases hx with
    | int i =>
      cases hy with
      | int j =>
        unfold binV at h
        simp only at h
        split at h
        · cases h; exact .inl ⟨i, j, rfl, rfl, small_or (by assumption), c.here S (.int _)⟩
        · cases h
      | _ => cases h
    | str z =>
      cases hy with
      | int j =>
        unfold binV at h
        simp only at h
        split at h
        · rename_i q
          cases h; exact .inr ⟨z, j, rfl, rfl, q.1, q.2.1, q.2.2, c.here S (.str _)⟩
        · cases h
      | _ => cases h
    | _ => cases hy <;> cases h
theorem s_mod {a b : Expr} {ma mb : ME} {pos : Pos} (ha : PE X a (rE X.K ca Γ d ma)) (hb : PE X b (rE X.K ca Γ d mb)) : PE X (.BinOp a .Mod b pos) (rE X.K ca Γ d (.bin .mod ma mb)) :=
  e2_wk (pe_op op_mod ha hb) rfl rfl (fun _ _ _ => rfl) fun ρ st H x y xv yv v st' Q h S hx hy c => by
    cases hx with
    | int i =>
      cases hy with
      | int j =>
        unfold binV at h
        simp only at h
        split at h
        · cases h; exact ⟨i, j, rfl, rfl, by assumption, c.here S (.int _)⟩
        · cases h
      | _ => cases h
    | _ => cases hy <;> cases h
theorem s_fdiv {a b : Expr} {ma mb : ME} {pos : Pos} (ha : PE X a (rE X.K ca Γ d ma)) (hb : PE X b (rE X.K ca Γ d mb)) : PE X (.BinOp a .FloorDiv b pos) (rE X.K ca Γ d (.bin .fdiv ma mb)) :=
  e2_wk (pe_op op_fdiv ha hb) rfl rfl (fun _ _ _ => rfl) fun ρ st H x y xv yv v st' Q h S hx hy c => by
    cases hx with
    | int i =>
      cases hy with
      | int j =>
        unfold binV at h
        simp only at h
        split at h
        · cases h; exact ⟨i, j, rfl, rfl, by assumption, c.here S (.int _)⟩
        · cases h
      | _ => cases h
    | _ => cases hy <;> cases h
theorem s_pow {a b : Expr} {ma mb : ME} {pos : Pos} (ha : PE X a (rE X.K ca Γ d ma)) (hb : PE X b (rE X.K ca Γ d mb)) : PE X (.BinOp a .Pow b pos) (rE X.K ca Γ d (.bin .pow ma mb)) :=
  e2_wk (pe_op op_pow ha hb) rfl rfl (fun _ _ _ => rfl) fun ρ st H x y xv yv v st' Q h S hx hy c => by
    cases hx with
    | int i =>
      cases hy with
      | int j =>
        unfold binV at h
        simp only at h
        split at h
        · cases h; exact ⟨i, j, rfl, rfl, by assumption, c.here S (.int _)⟩
        · cases h
      | _ => cases h
    | _ => cases hy <;> cases h
theorem s_neg {a : Expr} {ma : ME} {pos : Pos} (ha : PE X a (rE X.K ca Γ d ma)) : PE X (.UnaryOp .USub a pos) (rE X.K ca Γ d (.neg ma)) :=
  e1_wk (r := rU fun i => .int (-i)) (te := rE X.K ca Γ d ma) (f := fun _ x st => match x with
    | .int i => .ok (.int (-i)) st
    | _ => .stuck) (pe_un un_neg ha) rfl (fun _ _ _ => rfl) fun n ρ st H x xv v st' Q h S hx c => by
    cases hx with
    | int i => cases h; exact ⟨i, rfl, c.here S (.int _)⟩
    | _ => cases h
end
end MP

set_option Elab.async false
set_option linter.all false
set_option maxRecDepth 100000
set_option maxHeartbeats 4000000
namespace MP
open PySem L2

section
variable {K : PySem.W.Frag} {ca : Cls0} {ρ : Nat → Addr} {st : Store} {H : Hp}
/-! ### data -/
theorem dp_list (f : Nat) (ih : ∀ (v : MV) (x : V) (d : PyData), toD st f v = some d → Rv K ρ st.next H v x → Dp K H x d) : ∀ (xs : List MV) (ys : List V) (ds : List PyData), xs.mapM (toD st f) = some ds → RvL K ρ st.next H xs ys → DpAll K H ys ds
  | [], _, ds, h, r => by
    cases r
    simp at h
    subst h
    exact .nil
  | v :: vs, _, ds, h, r => by
    cases r with
    | cons r1 r2 =>
      rw [List.mapM_cons] at h
      cases e1 : toD st f v with
      | none => rw [e1] at h; cases h
      | some d =>
        rw [e1] at h
        cases e2 : vs.mapM (toD st f) with
        | none => rw [e2] at h; cases h
        | some t =>
          rw [e2] at h
          cases h
          exact .cons (ih v _ d e1 r1) (dp_list f ih vs _ t e2 r2)
theorem dp_of (S : Sim K ca ρ st H) : ∀ (f : Nat) (v : MV) (x : V) (d : PyData), toD st f v = some d → Rv K ρ st.next H v x → Dp K H x d
  | 0, _, _, _, h, _ => by cases h
  | f + 1, v, x, d, h, r => by
    cases r with
    | non => cases h; exact .non
    | bl b => cases h; exact .bl b
    | int i => cases h; exact .int i
    | str x => cases h; exact .str x
    | @tup p ys xs hp hr =>
      have h' : (xs.mapM (toD st f)).map PyData.tuple = some d := h
      cases e : xs.mapM (toD st f) with
      | none => rw [e] at h'; cases h'
      | some ds =>
        rw [e] at h'
        cases h'
        exact .tup hp (dp_list f (dp_of S f) xs ys ds e hr)
    | @scr p ys xs hp hr =>
      have h' : (xs.mapM (toD st f)).map PyData.list = some d := h
      cases e : xs.mapM (toD st f) with
      | none => rw [e] at h'; cases h'
      | some ds =>
        rw [e] at h'
        cases h'
        exact .lst hp.sq (dp_list f (dp_of S f) xs ys ds e hr)
    | @ref n hn =>
      have h' : (match st.get n with
        | some (.lst xs) => (xs.mapM (toD st f)).map PyData.list
        | _ => none) = some d := h
      cases e0 : st.get n with
      | none => rw [e0] at h'; cases h'
      | some o =>
        rw [e0] at h'
        cases o with
        | lst xs =>
          obtain ⟨u, hu, ro⟩ := S.at hn e0
          cases ro with
          | lst hr =>
            have h2 : (xs.mapM (toD st f)).map PyData.list = some d := h'
            cases e : xs.mapM (toD st f) with
            | none => rw [e] at h2; cases h2
            | some ds =>
              rw [e] at h2
              cases h2
              exact .lst (SqL.of hu) (dp_list f (dp_of S f) xs _ ds e hr)
        | dK _ => cases h'
        | dF _ => cases h'
        | ins _ _ => cases h'
theorem dp_toS (S : Sim K ca ρ st H) {v : MV} {x : V} {d : PyData} (h : toS st v = some d) (r : Rv K ρ st.next H v x) : Dp K H x d ∧ SeqAt.shaped d = true := by
  unfold toS at h
  cases e : toD st 66 v with
  | none => rw [e] at h; cases h
  | some d' =>
    rw [e] at h
    simp only at h
    split at h
    · cases h
      exact ⟨dp_of S _ _ _ _ e r, by assumption⟩
    · cases h
/-- a list as data, told by its items -/
theorem dp_scr (S : Sim K ca ρ st H) {xs : List MV} {ys : List V} {d : PyData} {p : Addr} (h : toS st (.scr xs) = some d) (hp : SqL K H p ys) (r : RvL K ρ st.next H xs ys) : Dp K H (.ref p) d ∧ SeqAt.shaped d = true := by
  unfold toS at h
  cases e : toD st 66 (.scr xs) with
  | none => rw [e] at h; cases h
  | some d' =>
    rw [e] at h
    simp only at h
    split at h
    · cases h
      refine ⟨?_, by assumption⟩
      have h' : (xs.mapM (toD st 65)).map PyData.list = some d := e
      cases e2 : xs.mapM (toD st 65) with
      | none => rw [e2] at h'; cases h'
      | some ds =>
        rw [e2] at h'
        cases h'
        exact .lst hp (dp_list 65 (dp_of S 65) xs ys ds e2 r)
    · cases h
/-! ### keys -/
theorem key_rv {v : MV} {x : V} {k : Key} (h : keyV v = some k) (r : Rv K ρ st.next H v x) : x = kV k := by
  cases r <;> first
    | (cases h; rfl)
    | cases h
theorem look_rv {k : Key} : ∀ {kvs : List (Key × MV)} {ys : List (Key × V)}, RvP K ρ st.next H kvs ys → (kvLook kvs k = none ∧ valV ys k = none) ∨ ∃ v x, kvLook kvs k = some v ∧ valV ys k = some x ∧ Rv K ρ st.next H v x
  | _, _, .nil => .inl ⟨rfl, rfl⟩
  | _, _, @RvP.cons _ _ _ _ _ q x y xs ys h t => by
    by_cases e : q = k
    · refine .inr ⟨x, y, ?_, ?_, h⟩
      · simp [kvLook, e]
      · simp [valV, e]
    · have e1 : kvLook ((q, x) :: xs) k = kvLook xs k := by simp [kvLook, e]
      have e2 : valV ((q, y) :: ys) k = valV ys k := by simp [valV, e]
      rw [e1, e2]
      exact look_rv t
theorem any_rv {k : Key} : ∀ {kvs : List (Key × MV)} {ys : List (Key × V)}, RvP K ρ st.next H kvs ys → (kvs.any fun kv => decide (kv.1 = k)) = (ys.any fun kv => decide (kv.1 = k))
  | _, _, .nil => rfl
  | _, _, .cons _ t => by rw [List.any_cons, List.any_cons, any_rv t]
theorem map_rv {k : Key} {v : MV} {x : V} (r : Rv K ρ st.next H v x) : ∀ {kvs : List (Key × MV)} {ys : List (Key × V)}, RvP K ρ st.next H kvs ys →
    RvP K ρ st.next H (kvs.map fun kv => if kv.1 = k then (kv.1, v) else kv) (ys.map fun kv => if kv.1 = k then (kv.1, x) else kv)
  | _, _, .nil => .nil
  | _, _, @RvP.cons _ _ _ _ _ q x' y' xs ys h t => by
    rw [List.map_cons, List.map_cons]
    by_cases e : q = k
    · rw [if_pos e, if_pos e]
      exact .cons r (map_rv r t)
    · rw [if_neg e, if_neg e]
      exact .cons h (map_rv r t)
theorem RvP.append {κ : Type} : ∀ {xs xs' : List (κ × MV)} {ys ys' : List (κ × V)}, RvP K ρ st.next H xs ys → RvP K ρ st.next H xs' ys' → RvP K ρ st.next H (xs ++ xs') (ys ++ ys')
  | _, _, _, _, .nil, s => s
  | _, _, _, _, .cons h t, s => .cons h (RvP.append t s)
theorem put_rv {k : Key} {v : MV} {x : V} (r : Rv K ρ st.next H v x) {kvs : List (Key × MV)} {ys : List (Key × V)} (h : RvP K ρ st.next H kvs ys) : RvP K ρ st.next H (kvPut kvs k v) (putK ys k x) := by
  unfold kvPut putK
  rw [any_rv h]
  split
  · exact map_rv r h
  · exact h.append (.cons r .nil)
theorem merge_rv : ∀ {more : List (Key × MV)} {ys : List (Key × V)} {acc : List (Key × MV)} {zs : List (Key × V)}, RvP K ρ st.next H acc zs → RvP K ρ st.next H more ys → RvP K ρ st.next H (kvMerge acc more) (mergeK zs ys)
  | _, _, _, _, a, .nil => a
  | _, _, acc, zs, a, @RvP.cons _ _ _ _ _ q x y xs ys h t => by
    show RvP K ρ st.next H (kvMerge (kvPut acc q x) xs) (mergeK (putK zs q y) ys)
    exact merge_rv (put_rv h a) t
theorem RvP.length {κ : Type} : ∀ {xs : List (κ × MV)} {ys : List (κ × V)}, RvP K ρ st.next H xs ys → xs.length = ys.length
  | _, _, .nil => rfl
  | _, _, .cons _ t => by rw [List.length_cons, List.length_cons, RvP.length t]
end
end MP

set_option Elab.async false
set_option linter.all false
set_option maxRecDepth 100000
set_option maxHeartbeats 4000000
/-! equality of texts with what is not a text, tuples of texts -/
namespace PySem.SeqAt
open AutoSeq1 (wpAny_loadPart')
open MeetsSeq
theorem mp_str_dict (b : Str) (u : Tok) (l : Addr) (es : Array DictEntry) (n : Nat) (dd : Option Addr) (sl : Array (Option Value)) :
    Meets (Builtin.«str.__eq__» ⟨[.str b u, .ref l], []⟩) (fun _ R s => s.heap.get? l = some { cls := .type "dict", dict := dd, data := .dict es n, slots := sl } ∧ R (.ok (.ret .notImplemented)) s) :=
  .of_wp fun prog w A R s h => by obtain ⟨hp, g, d, tk, os⟩ := s; obtain ⟨hl, h⟩ := h; wp_walk using wpAny_loadPart' hl, wpAny_load hl; exact ⟨_, rfl, h⟩
theorem mp_rc_str_dict {A : Around} {s : Shared} {l : Addr} {es : Array DictEntry} {n : Nat} {o : Obj} (b : Str) (u : Tok) (ho : s.heap.get? l = some o) (hc : o.cls = .type "dict") (hd : o.data = .dict es n) (hu : A.units < cLine) : RcAt A s (.str b u) (.ref l) false := fun prog w E Q h => by
  obtain ⟨cls, dd, data, sl⟩ := o
  simp only at hc hd
  subst hc hd
  exact rc_eq_decline_or (k := false) (typeIs_str s b u) ⟨_, ho, rfl⟩ (by decide) F.sub_dict_str F.slot_str_eq F.slot_dict_eq_refl
    (fun _ hq => call_meets F.slot_str_eq (typeIs_str s b u) F.entry_str_eq (F.args_str_eq_2 _ _) (mp_str_dict b u l es n dd sl) ⟨ho, hq⟩)
    (fun Q' hq => by
      refine wpAny_call_entry F.slot_dict_eq ⟨_, ho, rfl⟩ F.entry_dict_eq ?_ (F.args_dict_eq_2 _ _)
      show wpAny _ _ (Builtin.Dict.dictSlotArgs "__eq__" ⟨[.ref l, .str b u], []⟩ >>= _) _ _ s
      refine wpAny_bind ?_
      unfold Builtin.Dict.dictSlotArgs
      refine wpAny_bind (wpAny_notOrdered_dict ⟨_, ho, rfl⟩ ?_)
      show wpAny _ _ (pure (Value.ref l, Value.str b u)) _ _ s
      refine wpAny_pure ?_
      refine wpAny_bind (wpAny_isInstance (T := "str") (typeIs_str s b u) F.sub_str_dict ?_)
      simp only [Bool.not_false, if_true]
      exact wpAny_bind (wpAny_rule (wpAny_pure ⟨_, rfl, hq⟩)))
    (fun _ hq => wpAny_of_eq (rfl : isSame (.str b u) (.ref l) = pure false) hq) (.inr hu) h
theorem mp_str_dict_eq {A : Around} {s : Shared} {l : Addr} {es : Array DictEntry} {n : Nat} {o : Obj} (b : Str) (u : Tok) (ho : s.heap.get? l = some o) (hc : o.cls = .type "dict") (hd : o.data = .dict es n) (hu : A.units < cLine) : EqAt A s (.str b u) (.ref l) false := fun prog w E Q h => by
  unfold eqBool
  refine wpAny_holding ?_
  refine wpAny_ite_split (fun hab => absurd (eq_of_beq hab) nofun) (fun _ => ?_)
  exact wpAny_bind (mp_rc_str_dict b u ho hc hd hu prog w E _ (wpAny_truthy_bool h))
theorem mp_rc_dict_str {A : Around} {s : Shared} {l : Addr} {es : Array DictEntry} {n : Nat} {o : Obj} (b : Str) (u : Tok) (ho : s.heap.get? l = some o) (hc : o.cls = .type "dict") (hd : o.data = .dict es n) (hu : A.units < cLine) : RcAt A s (.ref l) (.str b u) false := fun prog w E Q h => by
  obtain ⟨cls, dd, data, sl⟩ := o
  simp only at hc hd
  subst hc hd
  exact rc_eq_decline_or (k := false) ⟨_, ho, rfl⟩ (typeIs_str s b u) (by decide) F.sub_str_dict F.slot_dict_eq F.slot_str_eq_refl
    (fun Q' hq => by
      refine wpAny_call_entry F.slot_dict_eq ⟨_, ho, rfl⟩ F.entry_dict_eq ?_ (F.args_dict_eq_2 _ _)
      show wpAny _ _ (Builtin.Dict.dictSlotArgs "__eq__" ⟨[.ref l, .str b u], []⟩ >>= _) _ _ s
      refine wpAny_bind ?_
      unfold Builtin.Dict.dictSlotArgs
      refine wpAny_bind (wpAny_notOrdered_dict ⟨_, ho, rfl⟩ ?_)
      show wpAny _ _ (pure (Value.ref l, Value.str b u)) _ _ s
      refine wpAny_pure ?_
      refine wpAny_bind (wpAny_isInstance (T := "str") (typeIs_str s b u) F.sub_str_dict ?_)
      simp only [Bool.not_false, if_true]
      exact wpAny_bind (wpAny_rule (wpAny_pure ⟨_, rfl, hq⟩)))
    (fun _ hq => call_meets F.slot_str_eq_refl (typeIs_str s b u) F.entry_str_eq (F.args_str_eq_2 _ _) (mp_str_dict b u l es n dd sl) ⟨ho, hq⟩)
    (fun _ hq => wpAny_of_eq (rfl : isSame (.ref l) (.str b u) = pure false) hq) (.inr hu) h
theorem mp_dict_str_eq {A : Around} {s : Shared} {l : Addr} {es : Array DictEntry} {n : Nat} {o : Obj} (b : Str) (u : Tok) (ho : s.heap.get? l = some o) (hc : o.cls = .type "dict") (hd : o.data = .dict es n) (hu : A.units < cLine) : EqAt A s (.ref l) (.str b u) false := fun prog w E Q h => by
  unfold eqBool
  refine wpAny_holding ?_
  refine wpAny_ite_split (fun hab => absurd (eq_of_beq hab) nofun) (fun _ => ?_)
  exact wpAny_bind (mp_rc_dict_str b u ho hc hd hu prog w E _ (wpAny_truthy_bool h))
end PySem.SeqAt
namespace PyProof.Rows
open PySem
section
variable {prog : Program} {w : World} {A : Around} {E : Value → Shared → Prop} {s : Shared} {x y : Str} {t u : Tok}
theorem MP_le {Q : Value → Shared → Prop} (h : Q (.bool (!(decide (y.cps.toList < x.cps.toList)))) s) : wpAny (model prog w) A (compareOp .LtE (.str x t) (.str y u)) Q E s := by
  show wpAny _ _ (richCompare .LtE (.str x t) (.str y u)) Q E s
  exact wpAny_richCompare_same (op := .LtE) (T := "str") (typeIs_str s x t) (typeIs_str s y u) slot_str_le
    (wpAny_call_entry slot_str_le (typeIs_str s x t) entry_str_le (show wpAny _ _ (ret (.bool (!(y.cps.toList < x.cps.toList : Bool)))) _ _ s from wpAny_pure ⟨_, rfl, by simp, by simpa using h⟩) (args_str_le _ _))
theorem MP_gt {Q : Value → Shared → Prop} (h : Q (.bool (decide (y.cps.toList < x.cps.toList))) s) : wpAny (model prog w) A (compareOp .Gt (.str x t) (.str y u)) Q E s := by
  show wpAny _ _ (richCompare .Gt (.str x t) (.str y u)) Q E s
  exact wpAny_richCompare_same (op := .Gt) (T := "str") (typeIs_str s x t) (typeIs_str s y u) slot_str_gt
    (wpAny_call_entry slot_str_gt (typeIs_str s x t) entry_str_gt (show wpAny _ _ (ret (.bool (y.cps.toList < x.cps.toList : Bool))) _ _ s from wpAny_pure ⟨_, rfl, by simp, by simpa using h⟩) (args_str_gt _ _))
theorem MP_ge {Q : Value → Shared → Prop} (h : Q (.bool (!(decide (x.cps.toList < y.cps.toList)))) s) : wpAny (model prog w) A (compareOp .GtE (.str x t) (.str y u)) Q E s := by
  show wpAny _ _ (richCompare .GtE (.str x t) (.str y u)) Q E s
  exact wpAny_richCompare_same (op := .GtE) (T := "str") (typeIs_str s x t) (typeIs_str s y u) slot_str_ge
    (wpAny_call_entry slot_str_ge (typeIs_str s x t) entry_str_ge (show wpAny _ _ (ret (.bool (!(x.cps.toList < y.cps.toList : Bool)))) _ _ s from wpAny_pure ⟨_, rfl, by simp, by simpa using h⟩) (args_str_ge _ _))
end
end PyProof.Rows
namespace MP
open PySem L2
section
variable {X : Cx} {ca : Cls0} {ρ : Nat → Addr} {st : Store} {H : Hp} {pins : List (Addr × Obj)} {σ : L2.St} {s : Shared}
theorem orO_eq {a b : Option Bool} {k : Bool} (h : orO a b = some k) : a = some k ∨ b = some k := by
  cases a with
  | none => exact .inr h
  | some c => exact .inl h
theorem PlainIs {h : Heap} {a : Addr} {its : Array Value} (p : PlainL h a its) : h.IsList a its := let ⟨o, n, e, c, _, d⟩ := p; ⟨o, e, c, n, d⟩
theorem item_eq (I : Inv X pins σ H s) (S : Sim X.K ca ρ st H) {x : MV} {xv : V} {u : Value} {z : Str} {t : Tok} {k : Bool} {A : Around} (h : itemS st x z = some k) (r : Rv X.K ρ st.next H x xv) (rx : RelV xv u) (hu : A.units < cLine) : SeqAt.EqAt A s (.str z t) u k := by
  cases r with
  | non => cases h; cases rx; exact SeqAt.EqAt.str_none _ _
  | bl b => cases h; cases rx; exact SeqAt.EqAt.str_bool _ _ _
  | int i => cases h; obtain ⟨t2, rfl⟩ := rx; exact SeqAt.EqAt.str_int _ _ _ _
  | str y => cases h; obtain ⟨t2, rfl⟩ := rx; exact SeqAt.EqAt.str_str _ _ _ _
  | @tup p ys xs hp hr =>
    cases h
    cases rx
    obtain ⟨its, _, q, _⟩ := I.tuple hp
    exact SeqAt.EqAt.str_tuple _ _ q hu
  | @scr p ys xs hp hr =>
    cases h
    cases rx
    obtain ⟨its, _, q, _⟩ := I.list hp.sq
    exact SeqAt.EqAt.str_list _ _ (PlainIs q) hu
  | @ref n hn =>
    cases rx
    have h' : (match st.get n with
      | some (.lst _) => some false
      | some (.dK _) => some false
      | _ => none) = some k := h
    cases e0 : st.get n with
    | none => rw [e0] at h'; cases h'
    | some o =>
      rw [e0] at h'
      obtain ⟨w, hw, ro⟩ := S.at hn e0
      cases ro with
      | lst hr =>
        cases h'
        obtain ⟨its, _, q, _⟩ := I.list (SqL.of hw)
        exact SeqAt.EqAt.str_list _ _ (PlainIs q) hu
      | dK hr =>
        cases h'
        obtain ⟨_, _, vs, _, o, es, ep, e, c, dd, _⟩ := dk_of I.hok hw
        exact SeqAt.mp_str_dict_eq _ _ e c.1 dd hu
      | dF _ => cases h'
      | ins _ => cases h'
theorem str_beq_comm (a b : Str) : (a == b) = (b == a) := by
  rw [Bool.eq_iff_iff, beq_iff_eq, beq_iff_eq]
  exact ⟨fun h => h.symm, fun h => h.symm⟩
theorem item_eqR (I : Inv X pins σ H s) (S : Sim X.K ca ρ st H) {x : MV} {xv : V} {u : Value} {z : Str} {t : Tok} {k : Bool} {A : Around} (h : itemS st x z = some k) (r : Rv X.K ρ st.next H x xv) (rx : RelV xv u) (hu : A.units < cLine) : SeqAt.EqAt A s u (.str z t) k := by
  cases r with
  | non => cases h; cases rx; exact SeqAt.EqAt.none_str _ _
  | bl b => cases h; cases rx; exact SeqAt.EqAt.bool_str _ _ _
  | int i => cases h; obtain ⟨t2, rfl⟩ := rx; exact SeqAt.EqAt.int_str _ _ _ _
  | str y => cases h; obtain ⟨t2, rfl⟩ := rx; rw [str_beq_comm]; exact SeqAt.EqAt.str_str _ _ _ _
  | @tup p ys xs hp hr =>
    cases h
    cases rx
    obtain ⟨its, _, q, _⟩ := I.tuple hp
    exact SeqAt.EqAt.tuple_str _ _ q hu
  | @scr p ys xs hp hr =>
    cases h
    cases rx
    obtain ⟨its, _, q, _⟩ := I.list hp.sq
    exact SeqAt.EqAt.list_str _ _ (PlainIs q) hu
  | @ref n hn =>
    cases rx
    have h' : (match st.get n with
      | some (.lst _) => some false
      | some (.dK _) => some false
      | _ => none) = some k := h
    cases e0 : st.get n with
    | none => rw [e0] at h'; cases h'
    | some o =>
      rw [e0] at h'
      obtain ⟨w, hw, ro⟩ := S.at hn e0
      cases ro with
      | lst hr =>
        cases h'
        obtain ⟨its, _, q, _⟩ := I.list (SqL.of hw)
        exact SeqAt.EqAt.list_str _ _ (PlainIs q) hu
      | dK hr =>
        cases h'
        obtain ⟨_, _, vs, _, o, es, ep, e, c, dd, _⟩ := dk_of I.hok hw
        exact SeqAt.mp_dict_str_eq _ _ e c.1 dd hu
      | dF _ => cases h'
      | ins _ => cases h'
theorem item_rc (I : Inv X pins σ H s) (S : Sim X.K ca ρ st H) {x : MV} {xv : V} {u : Value} {z : Str} {t : Tok} {k : Bool} {A : Around} (h : itemS st x z = some k) (r : Rv X.K ρ st.next H x xv) (rx : RelV xv u) (hu : A.units < cLine) : SeqAt.RcAt A s u (.str z t) k := by
  cases r with
  | non => cases h; cases rx; exact SeqAt.RcAt.none_str _ _
  | bl b => cases h; cases rx; exact SeqAt.RcAt.bool_str _ _ _
  | int i => cases h; obtain ⟨t2, rfl⟩ := rx; exact SeqAt.RcAt.int_str _ _ _ _
  | str y => cases h; obtain ⟨t2, rfl⟩ := rx; rw [str_beq_comm]; exact SeqAt.RcAt.str_str _ _ _ _
  | @tup p ys xs hp hr =>
    cases h
    cases rx
    obtain ⟨its, _, q, _⟩ := I.tuple hp
    exact SeqAt.RcAt.tuple_str _ _ q hu
  | @scr p ys xs hp hr =>
    cases h
    cases rx
    obtain ⟨its, _, q, _⟩ := I.list hp.sq
    exact SeqAt.RcAt.list_str _ _ (PlainIs q) hu
  | @ref n hn =>
    cases rx
    have h' : (match st.get n with
      | some (.lst _) => some false
      | some (.dK _) => some false
      | _ => none) = some k := h
    cases e0 : st.get n with
    | none => rw [e0] at h'; cases h'
    | some o =>
      rw [e0] at h'
      obtain ⟨w, hw, ro⟩ := S.at hn e0
      cases ro with
      | lst hr =>
        cases h'
        obtain ⟨its, _, q, _⟩ := I.list (SqL.of hw)
        exact SeqAt.RcAt.list_str _ _ (PlainIs q) hu
      | dK hr =>
        cases h'
        obtain ⟨_, _, vs, _, o, es, ep, e, c, dd, _⟩ := dk_of I.hok hw
        exact SeqAt.mp_rc_dict_str _ _ e c.1 dd hu
      | dF _ => cases h'
      | ins _ => cases h'
theorem itemsS_at {st : Store} : ∀ {xs : List MV} {zs : List Str} {k : Bool}, itemsS st xs zs = some k → ∃ e : Nat → Bool, (∀ (j : Nat) (x : MV) (z : Str), xs[j]? = some x → zs[j]? = some z → itemS st x z = some (e j)) ∧
    ((List.range (min zs.length xs.length)).all e && zs.length == xs.length) = k
  | [], [], k, h => by cases h; exact ⟨fun _ => true, fun j x z e => by simp at e, rfl⟩
  | [], z :: zs, k, h => by cases h; exact ⟨fun _ => true, fun j x z e => by simp at e, by simp⟩
  | x :: xs, [], k, h => by cases h; exact ⟨fun _ => true, fun j x z _ e => by simp at e, by simp⟩
  | x :: xs, z :: zs, k, h => by
    have h' : (match itemS st x z, itemsS st xs zs with
      | some a, some b => some (a && b)
      | _, _ => none) = some k := h
    cases e1 : itemS st x z with
    | none => rw [e1] at h'; cases h'
    | some a =>
      cases e2 : itemsS st xs zs with
      | none => rw [e1, e2] at h'; cases h'
      | some b =>
        rw [e1, e2] at h'
        cases h'
        obtain ⟨e, he, hk⟩ := itemsS_at e2
        refine ⟨fun j => match j with | 0 => a | j + 1 => e j, fun j y w h1 h2 => ?_, ?_⟩
        · cases j with
          | zero => simp at h1 h2; subst h1 h2; exact e1
          | succ j => exact he j y w (by simpa using h1) (by simpa using h2)
        · rw [← hk]
          have e3 : min (z :: zs).length (x :: xs).length = min zs.length xs.length + 1 := by simp only [List.length_cons]; omega
          rw [e3, List.range_succ_eq_map, List.all_cons, List.all_map]
          have e4 : ((z :: zs).length == (x :: xs).length) = (zs.length == xs.length) := by simp
          rw [e4, Bool.and_assoc]
          rfl
theorem txts_rv {K : PySem.W.Frag} {N : Nat} : ∀ {xs : List MV} {ys : List V} {zs : List Str}, txtsV xs = some zs → RvL K ρ N H xs ys → ys = zs.map V.str
  | [], _, zs, h, r => by cases r; cases h; rfl
  | x :: xs, _, zs, h, r => by
    cases r with
    | cons r1 r2 =>
      cases x with
      | str w =>
        have h' : (match txtsV xs with
          | some t => some (w :: t)
          | none => none) = some zs := h
        cases e : txtsV xs with
        | none => rw [e] at h'; cases h'
        | some t =>
          rw [e] at h'
          cases h'
          cases r1
          rw [txts_rv e r2]
          rfl
      | _ => cases h
theorem itemsS_same {K : PySem.W.Frag} {N : Nat} : ∀ {xs : List MV} {zs : List Str}, RvL K ρ N H xs (zs.map V.str) → itemsS st xs zs = some true
  | [], [], _ => rfl
  | [], z :: zs, h => by cases h
  | x :: xs, [], h => by cases h
  | x :: xs, z :: zs, h => by
    cases h with
    | cons h1 h2 =>
      cases h1
      show (match some (z == z), itemsS st xs zs with
        | some a, some b => some (a && b)
        | _, _ => none) = some true
      rw [itemsS_same h2]
      simp
/-- a tuple of texts and a tuple, by == -/
theorem tup_eq (I : Inv X pins σ H s) (S : Sim X.K ca ρ st H) {xs : List MV} {ys : List V} {zs : List Str} {p q : Addr} {k : Bool} {A : Around} (h : itemsS st xs zs = some k) (hp : SqT X.K H p (zs.map V.str)) (hq : SqT X.K H q ys) (r : RvL X.K ρ st.next H xs ys) (hu : A.units + 1 < cLine) :
    SeqAt.EqAt A s (.ref p) (.ref q) k := by
  by_cases e : p = q
  · subst e
    have e2 := I.tuple_inj hq hp
    subst e2
    rw [itemsS_same r] at h
    cases h
    exact SeqAt.EqAt.same _
  · obtain ⟨e, he, hk⟩ := itemsS_at h
    obtain ⟨its1, r1, q1, _⟩ := I.tuple hp
    obtain ⟨its2, r2, q2, _⟩ := I.tuple hq
    have l1 : its1.length = zs.length := by have := r1.length; simpa using this.symm
    have l2 : its2.length = xs.length := by rw [← r2.length, ← r.length]
    refine SeqAt.EqAt.of_refs (by assumption) ?_
    have := SeqAt.RcAt.tuples (A := A) (s := s) (e := e) q1 q2 (by omega) fun j h1 h2 => by
      have hj1 : j < zs.length := by rw [← l1]; simpa using h1
      have hj2 : j < xs.length := by rw [← l2]; simpa using h2
      have a1 := he j xs[j] zs[j] (List.getElem?_eq_getElem hj2) (List.getElem?_eq_getElem hj1)
      obtain ⟨y, b1, b2⟩ := r.get (List.getElem?_eq_getElem hj2)
      have c1 : (zs.map V.str)[j]? = some (V.str zs[j]) := by simp [hj1]
      obtain ⟨u1, d1, d2⟩ := Vals.get r1 c1
      obtain ⟨u2, d3, d4⟩ := Vals.get r2 b1
      have f1 : its1.toArray[j] = u1 := by simpa [List.getElem?_eq_some_iff] using (List.getElem?_eq_some_iff.mp d1).2
      have f2 : its2.toArray[j] = u2 := by simpa [List.getElem?_eq_some_iff] using (List.getElem?_eq_some_iff.mp d3).2
      rw [f1, f2]
      obtain ⟨t, rfl⟩ := d2
      exact item_eq I S a1 b2 d4 (by show A.units + 1 < cLine; exact hu)
    rw [← hk, ← l1, ← l2]
    simpa using this
/-! ### the rules -/
def rEqSS (neg : Bool) : R2 := fun x y H Q => ∃ a b, x = .str a ∧ y = .str b ∧ Q (.bl (if neg then !(a == b) else a == b)) H
theorem op_eqSS : OpR X (compareOp .Eq) (rEqSS false) := by
  intro pins s σ H x y v u Q I rx ry h
  obtain ⟨a, b, rfl, rfl, q⟩ := h
  obtain ⟨t, rfl⟩ := rx
  obtain ⟨t2, rfl⟩ := ry
  exact SeqAt.RcAt.str_str a t b t2 _ _ _ _ ⟨.bl _, H, I, rfl, q⟩
theorem op_neSS : OpR X (compareOp .NotEq) (rEqSS true) := by
  intro pins s σ H x y v u Q I rx ry h
  obtain ⟨a, b, rfl, rfl, q⟩ := h
  obtain ⟨t, rfl⟩ := rx
  obtain ⟨t2, rfl⟩ := ry
  exact PyProof.Rows.ne_str ⟨.bl _, H, I, rfl, q⟩
theorem eqSS_ok {K : PySem.W.Frag} {N : Nat} {a b : MV} {x y : V} {k neg : Bool} {Q : VK} (h : eqSS a b = some k) (hx : Rv K ρ N H a x) (hy : Rv K ρ N H b y) (q : Q (.bl (if neg then !k else k)) H) : rEqSS neg x y H Q := by
  cases hx with
  | str x =>
    cases hy with
    | str y => cases h; exact ⟨x, y, rfl, rfl, q⟩
    | _ => cases h
  | _ => cases h
def rEqT0 (K : PySem.W.Frag) : R2 := fun x y H Q => ∃ a b xs, x = .ref a ∧ y = .ref b ∧ SqT K H a xs ∧ SqT K H b [] ∧ Q (.bl xs.isEmpty) H
theorem op_eqT0 (hu : X.A.units + 64 < cLine) : OpR X (compareOp .Eq) (rEqT0 X.K) := by
  intro pins s σ H x y v u Q I rx ry h
  obtain ⟨a, b, xs, rfl, rfl, h1, h2, q⟩ := h
  cases rx
  cases ry
  obtain ⟨its1, r1, q1, _⟩ := I.tuple h1
  obtain ⟨its2, r2, q2, _⟩ := I.tuple h2
  cases r2
  refine SeqAt.eq_tupleAt (e := fun _ => true) q1 q2 (by omega) (fun j _ h2 => by simp at h2) ⟨.bl _, H, I, ?_, q⟩
  cases r1 <;> rfl
theorem eqT0_ok {K : PySem.W.Frag} {N : Nat} {a b : MV} {x y : V} {k : Bool} {Q : VK} (h : eqT0 a b = some k) (hx : Rv K ρ N H a x) (hy : Rv K ρ N H b y) (q : Q (.bl k) H) : rEqT0 K x y H Q := by
  cases hx with
  | @tup p ys xs hp hr =>
    cases hy with
    | @tup p' ys' xs' hp' hr' =>
      cases xs' with
      | nil =>
        cases hr'
        cases h
        refine ⟨p, p', ys, rfl, rfl, hp, hp', ?_⟩
        cases hr <;> exact q
      | cons _ _ => cases h
    | _ => cases h
  | _ => cases h
/-- a tuple among tuples of texts -/
def rInTS (K : PySem.W.Frag) : R2 := fun x y H Q => ∃ k : Bool, Q (.bl k) H ∧ ∃ (ca : Cls0) (ρ : Nat → Addr) (st : Store) (xs : List MV) (ys : List V) (q b : Addr) (zss : List (List Str)) (ps : List Addr),
  Sim K ca ρ st H ∧ x = .ref q ∧ y = .ref b ∧ SqT K H q ys ∧ RvL K ρ st.next H xs ys ∧ (SqL K H b (ps.map V.ref) ∨ SqT K H b (ps.map V.ref)) ∧ Paired (fun p zs => SqT K H p (zs.map V.str)) ps zss ∧ anyS st xs zss = some k
theorem any_at (I : Inv X pins σ H s) (S : Sim X.K ca ρ st H) {xs : List MV} {ys : List V} {q : Addr} {A : Around} (hq : SqT X.K H q ys) (r : RvL X.K ρ st.next H xs ys) (hu : A.units + 2 < cLine) :
    ∃ e : Value → Bool, (∀ (ps : List Addr) (zss : List (List Str)) (k : Bool), Paired (fun p zs => SqT X.K H p (zs.map V.str)) ps zss → anyS st xs zss = some k → (∀ y, y ∈ (ps.map Value.ref) → SeqAt.EqAt A.in1 s y (.ref q) (e y)) ∧ (ps.map Value.ref).any e = k) := by
  classical
  let e : Value → Bool := fun y => match y with
    | .ref p => decide (∃ zs : List Str, SqT X.K H p (zs.map V.str) ∧ itemsS st xs zs = some true)
    | _ => false
  have he : ∀ (p : Addr) (zs : List Str) (k : Bool), SqT X.K H p (zs.map V.str) → itemsS st xs zs = some k → e (.ref p) = k := fun p zs k h1 h2 => by
    show decide (∃ zs : List Str, SqT X.K H p (zs.map V.str) ∧ itemsS st xs zs = some true) = k
    have inj : ∀ {a b : List Str}, a.map V.str = b.map V.str → a = b := fun {a b} z => by
      induction a generalizing b with
      | nil => cases b with
        | nil => rfl
        | cons _ _ => cases z
      | cons x xs ih => cases b with
        | nil => cases z
        | cons y ys =>
          rw [List.map_cons, List.map_cons] at z
          injection z with z1 z2
          injection z1 with z1
          rw [z1, ih z2]
    cases k with
    | true => exact decide_eq_true ⟨zs, h1, h2⟩
    | false =>
      refine decide_eq_false fun ⟨zs', h3, h4⟩ => ?_
      have := inj (I.tuple_inj h1 h3)
      subst this
      rw [h2] at h4
      cases h4
  refine ⟨e, fun ps zss k hp => ?_⟩
  induction hp generalizing k with
  | nil => intro h; cases h; exact ⟨fun y hy => by simp at hy, rfl⟩
  | @cons p zs ps zss h1 h2 ih =>
    intro h
    have h' : (match itemsS st xs zs, anyS st xs zss with
      | some a, some b => some (a || b)
      | _, _ => none) = some k := h
    cases e1 : itemsS st xs zs with
    | none => rw [e1] at h'; cases h'
    | some a =>
      cases e2 : anyS st xs zss with
      | none => rw [e1, e2] at h'; cases h'
      | some b =>
        rw [e1, e2] at h'
        cases h'
        obtain ⟨g1, g2⟩ := ih b e2
        have e3 := he p zs a h1 e1
        refine ⟨fun y hy => ?_, ?_⟩
        · rw [List.map_cons, List.mem_cons] at hy
          rcases hy with rfl | hy
          · rw [e3]
            exact tup_eq I S e1 h1 hq r (by show A.units + 1 + 1 < cLine; exact hu)
          · exact g1 y hy
        · rw [List.map_cons, List.any_cons, e3, g2]
theorem refs_of {ps : List Addr} {us : List Value} (r : Vals (ps.map V.ref) us) : us = ps.map Value.ref := by
  induction ps generalizing us with
  | nil => cases r; rfl
  | cons p ps ih =>
    rw [List.map_cons] at r
    cases r with
    | cons h t =>
      cases h
      rw [ih t]
      rfl
theorem op_inTS (hu : X.A.units + 65 < cLine) : OpR X (compareOp .In) (rInTS X.K) := by
  intro pins s σ H x y v u Q I rx ry h
  obtain ⟨k, q, ca, ρ, st, xs, ys, p, b, zss, ps, S, rfl, rfl, h1, h2, h3, h4, h5⟩ := h
  cases rx
  cases ry
  obtain ⟨e, he⟩ := any_at (A := X.A) I S h1 h2 (by omega)
  obtain ⟨g1, g2⟩ := he ps zss k h4 h5
  rcases h3 with h3 | h3
  · obtain ⟨its, r1, q1, _⟩ := I.list h3
    obtain rfl := refs_of r1
    refine SeqAt.in_listAt e (PlainIs q1) (fun y hy => g1 y (by simpa using hy)) ⟨.bl _, H, I, ?_, q⟩
    rw [← g2]
    simp
    rfl
  · obtain ⟨its, r1, q1, _⟩ := I.tuple h3
    obtain rfl := refs_of r1
    refine SeqAt.in_tupleAt e q1 (fun y hy => g1 y (by simpa using hy)) ⟨.bl _, H, I, ?_, q⟩
    rw [← g2]
    simp
    rfl
theorem tups_rv {K : PySem.W.Frag} {N : Nat} : ∀ {items : List MV} {ys : List V} {zss : List (List Str)}, tupsV items = some zss → RvL K ρ N H items ys → ∃ ps : List Addr, ys = ps.map V.ref ∧ Paired (fun p zs => SqT K H p (zs.map V.str)) ps zss
  | [], _, zss, h, r => by cases r; cases h; exact ⟨[], rfl, .nil⟩
  | x :: xs, _, zss, h, r => by
    cases r with
    | cons r1 r2 =>
      cases x with
      | tup w =>
        have h' : (match txtsV w, tupsV xs with
          | some t, some q => some (t :: q)
          | _, _ => none) = some zss := h
        cases e1 : txtsV w with
        | none => rw [e1] at h'; cases h'
        | some t =>
          cases e2 : tupsV xs with
          | none => rw [e1, e2] at h'; cases h'
          | some z =>
            rw [e1, e2] at h'
            cases h'
            obtain ⟨ps, rfl, hp⟩ := tups_rv e2 r2
            cases r1 with
            | tup hs hr =>
              rw [txts_rv e1 hr] at hs
              exact ⟨_ :: ps, rfl, .cons hs hp⟩
      | _ => cases h
theorem inTS_ok {K : PySem.W.Frag} {a b : MV} {x y : V} {k : Bool} {Q : VK} (h : inTS a b st = some k) (S : Sim K ca ρ st H) (hx : Rv K ρ st.next H a x) (hy : Rv K ρ st.next H b y) (q : Q (.bl k) H) : rInTS K x y H Q := by
  cases hx with
  | @tup p ys xs hp hr =>
    have h' : (match frV st b with
      | some items => match tupsV items with
        | some zss => anyS st xs zss
        | none => none
      | none => none) = some k := h
    cases e1 : frV st b with
    | none => rw [e1] at h'; cases h'
    | some items =>
      rw [e1] at h'
      cases e2 : tupsV items with
      | none => simp only [e2] at h'; cases h'
      | some zss =>
        simp only [e2] at h'
        have main : ∃ (r : Addr) (zs : List V), y = .ref r ∧ (SqL K H r zs ∨ SqT K H r zs) ∧ RvL K ρ st.next H items zs := by
          cases hy with
          | @tup p' ys' xs' hp' hr' => cases e1; exact ⟨p', ys', rfl, .inr hp', hr'⟩
          | @ref n hn =>
            have e3 : (match st.get n with
              | some (.lst xs) => some xs
              | _ => none) = some items := e1
            cases e0 : st.get n with
            | none => rw [e0] at e3; cases e3
            | some o =>
              rw [e0] at e3
              cases o with
              | lst ys2 =>
                cases e3
                obtain ⟨w, hw, ro⟩ := S.at hn e0
                cases ro with
                | lst hr2 => exact ⟨_, _, rfl, .inl (SqL.of hw), hr2⟩
              | dK _ => cases e3
              | dF _ => cases e3
              | ins _ _ => cases e3
          | _ => cases e1
        obtain ⟨r, zs, rfl, h2, h3⟩ := main
        obtain ⟨ps, rfl, hps⟩ := tups_rv e2 h3
        exact ⟨k, q, ca, ρ, st, xs, ys, p, r, zss, ps, S, rfl, rfl, hp, hr, h2, hps, h'⟩
  | _ => cases h
/-! ### any value against a text, a tuple against a tuple of texts, any value among texts -/
def rEqXS (K : PySem.W.Frag) : R2 := fun x y H Q => ∃ (ca : Cls0) (ρ : Nat → Addr) (st : Store) (v : MV) (z : Str) (k : Bool), Sim K ca ρ st H ∧ Rv K ρ st.next H v x ∧ y = .str z ∧ itemS st v z = some k ∧ Q (.bl k) H
theorem op_eqXS (hu : X.A.units + 64 < cLine) : OpR X (compareOp .Eq) (rEqXS X.K) := by
  intro pins s σ H x y v u Q I rx ry h
  obtain ⟨ca, ρ, st, w, z, k, S, r, rfl, e, q⟩ := h
  obtain ⟨t, rfl⟩ := ry
  exact item_rc I S e r rx (by omega) _ _ _ _ ⟨.bl k, H, I, rfl, q⟩
theorem eqXS_ok {K : PySem.W.Frag} {a b : MV} {x y : V} {k : Bool} {Q : VK} (h : eqXS st a b = some k) (S : Sim K ca ρ st H) (hx : Rv K ρ st.next H a x) (hy : Rv K ρ st.next H b y) (q : Q (.bl k) H) : rEqXS K x y H Q := by
  cases hy with
  | str z => exact ⟨ca, ρ, st, a, z, k, S, hx, rfl, h, q⟩
  | _ => cases h
def rEqXT (K : PySem.W.Frag) : R2 := fun x y H Q => ∃ (ca : Cls0) (ρ : Nat → Addr) (st : Store) (xs : List MV) (ys : List V) (zs : List Str) (p p' : Addr) (k : Bool), Sim K ca ρ st H ∧ RvL K ρ st.next H xs ys ∧ x = .ref p ∧ y = .ref p' ∧ SqT K H p ys ∧ SqT K H p' (zs.map V.str) ∧ itemsS st xs zs = some k ∧ Q (.bl k) H
theorem op_eqXT (hu : X.A.units + 64 < cLine) : OpR X (compareOp .Eq) (rEqXT X.K) := by
  intro pins s σ H x y v u Q I rx ry h
  obtain ⟨ca, ρ, st, xs, ys, zs, p, p', k, S, r, rfl, rfl, hp, hq, h, q⟩ := h
  cases rx
  cases ry
  obtain ⟨e, he, hk⟩ := itemsS_at h
  obtain ⟨its1, r1, q1, _⟩ := I.tuple hp
  obtain ⟨its2, r2, q2, _⟩ := I.tuple hq
  have l1 : its1.length = xs.length := by rw [← r1.length, ← r.length]
  have l2 : its2.length = zs.length := by have := r2.length; simpa using this.symm
  refine SeqAt.eq_tupleAt (e := e) q1 q2 (by omega) (fun j h1 h2 => ?_) ⟨.bl k, H, I, ?_, q⟩
  · have hj1 : j < xs.length := by rw [← l1]; simpa using h1
    have hj2 : j < zs.length := by rw [← l2]; simpa using h2
    have a1 := he j xs[j] zs[j] (List.getElem?_eq_getElem hj1) (List.getElem?_eq_getElem hj2)
    obtain ⟨y, b1, b2⟩ := r.get (List.getElem?_eq_getElem hj1)
    have c1 : (zs.map V.str)[j]? = some (V.str zs[j]) := by simp [hj2]
    obtain ⟨u1, d1, d2⟩ := Vals.get r2 c1
    obtain ⟨u2, d3, d4⟩ := Vals.get r1 b1
    have f1 : its2.toArray[j] = u1 := by simpa [List.getElem?_eq_some_iff] using (List.getElem?_eq_some_iff.mp d1).2
    have f2 : its1.toArray[j] = u2 := by simpa [List.getElem?_eq_some_iff] using (List.getElem?_eq_some_iff.mp d3).2
    rw [f1, f2]
    obtain ⟨t, rfl⟩ := d2
    exact item_eqR I S a1 b2 d4 (by show X.A.units + 1 < cLine; omega)
  · show Value.bool _ = Value.bool k
    rw [← hk]
    simp only [List.size_toArray]
    rw [l1, l2, Nat.min_comm]
    congr 2
    rw [Bool.eq_iff_iff, beq_iff_eq, beq_iff_eq]
    exact ⟨fun h => h.symm, fun h => h.symm⟩
theorem eqXT_ok {K : PySem.W.Frag} {a b : MV} {x y : V} {k : Bool} {Q : VK} (h : eqXT st a b = some k) (S : Sim K ca ρ st H) (hx : Rv K ρ st.next H a x) (hy : Rv K ρ st.next H b y) (q : Q (.bl k) H) : rEqXT K x y H Q := by
  cases hx with
  | @tup p ys xs hp hr =>
    cases hy with
    | @tup p' ys' xs' hp' hr' =>
      have h' : (match txtsV xs' with
        | some zs => itemsS st xs zs
        | none => none) = some k := h
      cases e : txtsV xs' with
      | none => rw [e] at h'; cases h'
      | some zs =>
        rw [e] at h'
        have := txts_rv e hr'
        subst this
        exact ⟨ca, ρ, st, xs, ys, zs, p, p', k, S, hr, rfl, rfl, hp, hp', h', q⟩
    | _ => cases h
  | _ => cases h
def rInXS (K : PySem.W.Frag) : R2 := fun x y H Q => ∃ (ca : Cls0) (ρ : Nat → Addr) (st : Store) (v : MV) (zs : List Str) (b : Addr) (k : Bool), Sim K ca ρ st H ∧ Rv K ρ st.next H v x ∧ y = .ref b ∧ (SqL K H b (zs.map V.str) ∨ SqT K H b (zs.map V.str)) ∧ anyX st v zs = some k ∧ Q (.bl k) H
theorem anyX_at {st : Store} {v : MV} : ∀ {zs : List Str} {us : List Value} {k : Bool}, anyX st v zs = some k → Vals (zs.map V.str) us → (us.any fun y => match y with
      | .str z _ => (itemS st v z).getD false
      | _ => false) = k ∧ ∀ y ∈ us, ∃ z t q, y = .str z t ∧ itemS st v z = some q
  | [], _, k, h, r => by cases r; cases h; exact ⟨rfl, fun y hy => by cases hy⟩
  | z :: zs, _, k, h, r => by
    cases r with
    | cons r1 r2 =>
      obtain ⟨t, rfl⟩ := r1
      have h' : (match itemS st v z, anyX st v zs with
        | some k, some q => some (k || q)
        | _, _ => none) = some k := h
      cases e1 : itemS st v z with
      | none => rw [e1] at h'; cases h'
      | some q1 =>
        cases e2 : anyX st v zs with
        | none => rw [e1, e2] at h'; cases h'
        | some q2 =>
          rw [e1, e2] at h'
          cases h'
          obtain ⟨g1, g2⟩ := anyX_at e2 r2
          refine ⟨?_, fun y hy => ?_⟩
          · rw [List.any_cons, g1]
            show ((itemS st v z).getD false || q2) = _
            rw [e1]
            rfl
          · rcases List.mem_cons.mp hy with rfl | hy
            · exact ⟨z, t, q1, rfl, e1⟩
            · exact g2 y hy
theorem op_inXS (hu : X.A.units + 65 < cLine) : OpR X (compareOp .In) (rInXS X.K) := by
  intro pins s σ H x y v u Q I rx ry h
  obtain ⟨ca, ρ, st, w, zs, b, k, S, r, rfl, h3, hk, q⟩ := h
  cases ry
  have eq : ∀ us : List Value, Vals (zs.map V.str) us → ∀ y ∈ us, SeqAt.EqAt X.A.in1 s y v (match y with
      | .str z _ => (itemS st w z).getD false
      | _ => false) := fun us rv y hy => by
    obtain ⟨z, t, q, rfl, e⟩ := (anyX_at hk rv).2 y hy
    show SeqAt.EqAt X.A.in1 s (.str z t) v ((itemS st w z).getD false)
    rw [e]
    exact item_eq I S e r rx (by show X.A.units + 1 < cLine; omega)
  rcases h3 with h3 | h3
  · obtain ⟨its, r1, q1, _⟩ := I.list h3
    refine SeqAt.in_listAt _ (PlainIs q1) (fun y hy => eq its r1 y (by simpa using hy)) ⟨.bl k, H, I, ?_, q⟩
    show Value.bool _ = Value.bool k
    rw [← (anyX_at hk r1).1]
    simp
  · obtain ⟨its, r1, q1, _⟩ := I.tuple h3
    refine SeqAt.in_tupleAt _ q1 (fun y hy => eq its r1 y (by simpa using hy)) ⟨.bl k, H, I, ?_, q⟩
    show Value.bool _ = Value.bool k
    rw [← (anyX_at hk r1).1]
    simp
theorem frV_rv {K : PySem.W.Frag} {b : MV} {y : V} {items : List MV} (e1 : frV st b = some items) (S : Sim K ca ρ st H) (hy : Rv K ρ st.next H b y) : ∃ (r : Addr) (zs : List V), y = .ref r ∧ (SqL K H r zs ∨ SqT K H r zs) ∧ RvL K ρ st.next H items zs := by
  cases hy with
  | @tup p' ys' xs' hp' hr' => cases e1; exact ⟨p', ys', rfl, .inr hp', hr'⟩
  | @ref n hn =>
    have e3 : (match st.get n with
      | some (.lst xs) => some xs
      | _ => none) = some items := e1
    cases e0 : st.get n with
    | none => rw [e0] at e3; cases e3
    | some o =>
      rw [e0] at e3
      obtain ⟨w, hw, ro⟩ := S.at hn e0
      cases ro with
      | lst hr2 => cases e3; exact ⟨_, _, rfl, .inl (SqL.of hw), hr2⟩
      | dK _ => cases e3
      | dF _ => cases e3
      | ins _ => cases e3
  | _ => cases e1
theorem inXS_ok {K : PySem.W.Frag} {a b : MV} {x y : V} {k : Bool} {Q : VK} (h : inXS a b st = some k) (S : Sim K ca ρ st H) (hx : Rv K ρ st.next H a x) (hy : Rv K ρ st.next H b y) (q : Q (.bl k) H) : rInXS K x y H Q := by
  unfold inXS at h
  cases e1 : frV st b with
  | none => rw [e1] at h; cases h
  | some items =>
    rw [e1] at h
    simp only at h
    cases e2 : txtsV items with
    | none => rw [e2] at h; cases h
    | some zs =>
      rw [e2] at h
      obtain ⟨r, ws, rfl, h2, h3⟩ := frV_rv e1 S hy
      have := txts_rv e2 h3
      subst this
      exact ⟨ca, ρ, st, a, zs, r, k, S, hx, rfl, h2, h, q⟩
end
end MP

set_option Elab.async false
set_option linter.all false
set_option maxRecDepth 100000
set_option maxHeartbeats 4000000
namespace MP
open PySem L2

/-! ### membership by values -/
section
variable {X : Cx}
def rInT (K : PySem.W.Frag) (neg : Bool) : R2 := fun x y H Q => ∃ d ds, Dp K H x d ∧ Dp K H y (.tuple ds) ∧ SeqAt.shaped d = true ∧ SeqAt.shaped (.tuple ds) = true ∧ Q (.bl (if neg then !(ds.any fun z => PyData.eqv z d) else ds.any fun z => PyData.eqv z d)) H
theorem room_in_shapedT {A : Around} {ds : List PyData} {d : PyData} (h : SeqAt.shaped d = true) (hu : A.units + 65 < cLine) : A.units + 1 + min (PyData.depthAll ds) d.depth < cLine := by
  have h1 := SeqAt.depth_of_shaped h
  omega
theorem op_inT (hu : X.A.units + 65 < cLine) : OpR X (compareOp .In) (rInT X.K false) := by
  intro pins s σ H x y v u Q I rx ry h
  obtain ⟨d, ds, hd, he, sd, se, q⟩ := h
  obtain ⟨as, r1⟩ := Dp.reads I d x v hd rx
  obtain ⟨bs, r2⟩ := Dp.reads I (.tuple ds) y u he ry
  exact SeqAt.in_tuple_reads r2 r1 (SeqAt.canLay_of_shaped se) (SeqAt.canLay_of_shaped sd) (room_in_shapedT sd hu) ⟨.bl _, H, I, rfl, q⟩
theorem op_notInT (hu : X.A.units + 65 < cLine) : OpR X (compareOp .NotIn) (rInT X.K true) := by
  intro pins s σ H x y v u Q I rx ry h
  obtain ⟨d, ds, hd, he, sd, se, q⟩ := h
  obtain ⟨as, r1⟩ := Dp.reads I d x v hd rx
  obtain ⟨bs, r2⟩ := Dp.reads I (.tuple ds) y u he ry
  exact SeqAt.notIn_tuple_reads r2 r1 (SeqAt.canLay_of_shaped se) (SeqAt.canLay_of_shaped sd) (room_in_shapedT sd hu) ⟨.bl _, H, I, rfl, q⟩
def rInDk (neg : Bool) : R2 := fun y x H Q => ∃ a o, x = .ref a ∧ DGet H a y o ∧ Q (.bl (if neg then !o.isSome else o.isSome)) H
theorem op_inDk (hu : X.A.units + 1 < cLine) : OpR X (compareOp .In) (rInDk false) := by
  intro pins s σ H x y v u Q I rx ry h
  obtain ⟨a, o, rfl, g, q⟩ := h
  obtain rfl : u = Value.ref a := ry
  exact d_in hu I g rx fun s3 I3 => ⟨.bl o.isSome, H, I3, rfl, q⟩
theorem op_notInDk (hu : X.A.units + 1 < cLine) : OpR X (compareOp .NotIn) (rInDk true) := by
  intro pins s σ H x y v u Q I rx ry h
  obtain ⟨a, o, rfl, g, q⟩ := h
  obtain rfl : u = Value.ref a := ry
  exact d_notIn hu I g rx fun s3 I3 => ⟨.bl (!o.isSome), H, I3, rfl, q⟩
/-- x in y, all that is served -/
def rInAll (K : PySem.W.Frag) (neg : Bool) : R2 := fun x y H Q => ∃ k : Bool, Q (.bl (if neg then !k else k)) H ∧
  ((∃ (c : Nat) (z : Str), x = .str ⟨#[c]⟩ ∧ y = .str z ∧ k = decide (c ∈ z.cps.toList)) ∨ (∃ i j, x = .str i ∧ y = .str j ∧ k = !(Builtin.Str.occurrences j i 0 j.length 1).isEmpty) ∨
    (∃ a o, y = .ref a ∧ DGet H a x o ∧ k = o.isSome) ∨ (∃ d ds, Dp K H x d ∧ (Dp K H y (.tuple ds) ∧ SeqAt.shaped (.tuple ds) = true ∨ Dp K H y (.list ds) ∧ SeqAt.shaped (.list ds) = true) ∧ SeqAt.shaped d = true ∧ k = ds.any fun z => PyData.eqv z d))
theorem op_inAll (hu : X.A.units + 65 < cLine) : OpR X (compareOp .In) (rInAll X.K false) := by
  intro pins s σ H x y v u Q I rx ry h
  obtain ⟨k, q, h⟩ := h
  rcases h with ⟨c, z, h1, h2, rfl⟩ | ⟨i, j, h1, h2, rfl⟩ | ⟨a, o, h1, h2, rfl⟩ | ⟨d, ds, h1, h2 | h2, h3, rfl⟩
  · exact op_in_sign pins s σ H x y v u Q I rx ry ⟨c, z, h1, h2, q⟩
  · exact op_in_str pins s σ H x y v u Q I rx ry ⟨i, j, h1, h2, q⟩
  · exact op_inDk (by omega) pins s σ H x y v u Q I rx ry ⟨a, o, h1, h2, q⟩
  · exact op_inT hu pins s σ H x y v u Q I rx ry ⟨d, ds, h1, h2.1, h3, h2.2, q⟩
  · exact op_inD hu pins s σ H x y v u Q I rx ry ⟨d, ds, h1, h2.1, h3, h2.2, q⟩
theorem op_notInAll (hu : X.A.units + 65 < cLine) : OpR X (compareOp .NotIn) (rInAll X.K true) := by
  intro pins s σ H x y v u Q I rx ry h
  obtain ⟨k, q, h⟩ := h
  rcases h with ⟨c, z, h1, h2, rfl⟩ | ⟨i, j, h1, h2, rfl⟩ | ⟨a, o, h1, h2, rfl⟩ | ⟨d, ds, h1, h2 | h2, h3, rfl⟩
  · exact op_notIn_sign pins s σ H x y v u Q I rx ry ⟨c, z, h1, h2, q⟩
  · exact op_notin_str pins s σ H x y v u Q I rx ry ⟨i, j, h1, h2, q⟩
  · exact op_notInDk (by omega) pins s σ H x y v u Q I rx ry ⟨a, o, h1, h2, q⟩
  · exact op_notInT hu pins s σ H x y v u Q I rx ry ⟨d, ds, h1, h2.1, h3, h2.2, q⟩
  · exact op_notInD hu pins s σ H x y v u Q I rx ry ⟨d, ds, h1, h2.1, h3, h2.2, q⟩
end

section
variable {K : PySem.W.Frag} {ca : Cls0} {ρ : Nat → Addr} {st : Store} {H : Hp}
theorem okB_eq {o : Option Bool} {f : Bool → Bool} {v : MV} {st' : Store} (h : okB o f st = .ok v st') : ∃ k, o = some k ∧ v = .bl (f k) ∧ st' = st := by
  cases o with
  | none => cases h
  | some k => cases h; exact ⟨k, rfl, rfl, rfl⟩
theorem inTxt_ok (x z : Str) : (∃ c, x = ⟨#[c]⟩ ∧ inTxt x z = decide (c ∈ z.cps.toList)) ∨ inTxt x z = !(Builtin.Str.occurrences z x 0 z.length 1).isEmpty := by
  unfold inTxt
  split
  · rename_i c e
    refine .inl ⟨c, ?_, rfl⟩
    obtain ⟨⟨l⟩⟩ := x
    have e' : l = [c] := e
    subst e'
    rfl
  · exact .inr rfl
theorem inV_ok {a b : MV} {x y : V} {k : Bool} {neg : Bool} {Q : VK} (h : inV a b st = some k) (S : Sim K ca ρ st H) (hx : Rv K ρ st.next H a x) (hy : Rv K ρ st.next H b y) (q : Q (.bl (if neg then !k else k)) H) : rInAll K neg x y H Q := by
  refine ⟨k, q, ?_⟩
  have dat : ∀ {d : PyData} {e : PyData}, toS st a = some d → toS st b = some e → ∀ ds, (e = .tuple ds ∨ e = .list ds) → k = (ds.any fun z => PyData.eqv z d) →
      ∃ d ds, Dp K H x d ∧ (Dp K H y (.tuple ds) ∧ SeqAt.shaped (.tuple ds) = true ∨ Dp K H y (.list ds) ∧ SeqAt.shaped (.list ds) = true) ∧ SeqAt.shaped d = true ∧ k = ds.any fun z => PyData.eqv z d := fun {d e} e1 e2 ds hd hk => by
    obtain ⟨d1, s1⟩ := dp_toS S e1 hx
    obtain ⟨d2, s2⟩ := dp_toS S e2 hy
    refine ⟨d, ds, d1, ?_, s1, hk⟩
    rcases hd with rfl | rfl
    · exact .inl ⟨d2, s2⟩
    · exact .inr ⟨d2, s2⟩
  cases hy with
  | str z =>
    cases hx with
    | str w =>
      have h' : inTxt w z = k := Option.some.inj h
      rcases inTxt_ok w z with ⟨c, e, e2⟩ | e2
      · exact .inl ⟨c, z, by rw [e], rfl, by rw [← h', e2]⟩
      · exact .inr (.inl ⟨w, z, rfl, rfl, by rw [← h', e2]⟩)
    | _ => cases h
  | @ref n hn =>
    have h' : (match st.get n with
      | some (.dK kvs) => (keyV a).map fun k => (kvLook kvs k).isSome
      | some (.lst _) => (match toS st a, toS st (.ref n) with
        | some d, some (.list ds) => some (ds.any fun e => PyData.eqv e d)
        | _, _ => none)
      | _ => none) = some k := h
    cases e0 : st.get n with
    | none => rw [e0] at h'; cases h'
    | some o =>
      rw [e0] at h'
      cases o with
      | dK kvs =>
        obtain ⟨u, hu, ro⟩ := S.at hn e0
        cases ro with
        | dK rp =>
          rename_i ys
          cases ek : keyV a with
          | none => rw [ek] at h'; cases h'
          | some q =>
            rw [ek] at h'
            have h2 : (kvLook kvs q).isSome = k := Option.some.inj h'
            refine .inr (.inr (.inl ⟨ρ n, valV ys q, rfl, ?_, ?_⟩))
            · rw [key_rv ek hx]; exact DGet.k hu
            · rw [← h2]
              rcases look_rv (k := q) rp with ⟨e1, e2⟩ | ⟨v, x, e1, e2, _⟩ <;> rw [e1, e2] <;> rfl
      | lst xs =>
        simp only at h'
        split at h'
        · rename_i d ds e1 e2
          exact .inr (.inr (.inr (dat e1 e2 ds (.inr rfl) (Option.some.inj h').symm)))
        · cases h'
      | dF _ => cases h'
      | ins _ _ => cases h'
  | @scr p ys xs hp hr =>
    unfold inV at h
    simp only at h
    split at h
    · rename_i d ds e1 e2
      exact .inr (.inr (.inr (dat e1 e2 ds (.inr rfl) (Option.some.inj h).symm)))
    · cases h
  | @tup p ys xs hp hr =>
    unfold inV at h
    simp only at h
    split at h
    · rename_i d ds e1 e2
      exact .inr (.inr (.inr (dat e1 e2 ds (.inl rfl) (Option.some.inj h).symm)))
    · cases h
  | _ => cases hx <;> cases h
theorem eqV_ok {a b : MV} {x y : V} {k : Bool} (h : eqV a b st = some k) (S : Sim K ca ρ st H) (hx : Rv K ρ st.next H a x) (hy : Rv K ρ st.next H b y) :
    ∃ d e, Dp K H x d ∧ Dp K H y e ∧ SeqAt.shaped d = true ∧ SeqAt.shaped e = true ∧ k = PyData.eqv d e := by
  unfold eqV at h
  split at h
  · rename_i d e e1 e2
    obtain ⟨d1, s1⟩ := dp_toS S e1 hx
    obtain ⟨d2, s2⟩ := dp_toS S e2 hy
    exact ⟨d, e, d1, d2, s1, s2, (Option.some.inj h).symm⟩
  · cases h
end

section
variable {X : Cx} {ca : Cls0} {Γ : Tab} {d : Nat} {a b : Expr} {ma mb : ME} {pos : Pos}
/-- the room that a body has -/
theorem hu65 {A : Around} {k : Nat} (hr : Room k A) : A.units + 65 < cLine := by have := hr.un; omega
theorem eq_all {K : PySem.W.Frag} {ρ : Nat → Addr} {st st' : Store} {H : Hp} {x y v : MV} {xv yv : V} {Q : VK} (h : cmpV .eq x y st = .ok v st') (S : Sim K ca ρ st H) (hx : Rv K ρ st.next H x xv) (hy : Rv K ρ st.next H y yv) (c : Cont K ca ρ st H v st' Q) :
    rEqSS false xv yv H Q ∨ (rEqT0 K xv yv H Q ∨ (rEqXS K xv yv H Q ∨ (rEqXT K xv yv H Q ∨ rEqD K xv yv H Q))) := by
  obtain ⟨k, e, rfl, rfl⟩ := okB_eq (show okB (orO (eqSS x y) (orO (eqT0 x y) (orO (eqXS st x y) (orO (eqXT st x y) (eqV x y st))))) id st = .ok v st' from h)
  rcases orO_eq e with e | e
  · exact .inl (eqSS_ok (neg := false) e hx hy (c.here S (.bl _)))
  rcases orO_eq e with e | e
  · exact .inr (.inl (eqT0_ok e hx hy (c.here S (.bl _))))
  rcases orO_eq e with e | e
  · exact .inr (.inr (.inl (eqXS_ok e S hx hy (c.here S (.bl _)))))
  rcases orO_eq e with e | e
  · exact .inr (.inr (.inr (.inl (eqXT_ok e S hx hy (c.here S (.bl _))))))
  · obtain ⟨d1, d2, h1, h2, s1, s2, rfl⟩ := eqV_ok e S hx hy
    exact .inr (.inr (.inr (.inr ⟨d1, d2, h1, h2, s1, s2, c.here S (.bl _)⟩)))
theorem ne_all {K : PySem.W.Frag} {ρ : Nat → Addr} {st st' : Store} {H : Hp} {x y v : MV} {xv yv : V} {Q : VK} (h : cmpV .ne x y st = .ok v st') (S : Sim K ca ρ st H) (hx : Rv K ρ st.next H x xv) (hy : Rv K ρ st.next H y yv) (c : Cont K ca ρ st H v st' Q) :
    rEqSS true xv yv H Q ∨ rNeD K xv yv H Q := by
  obtain ⟨k, e, rfl, rfl⟩ := okB_eq (show okB (orO (eqSS x y) (eqV x y st)) (!·) st = .ok v st' from h)
  rcases orO_eq e with e | e
  · exact .inl (eqSS_ok (neg := true) e hx hy (c.here S (.bl _)))
  · obtain ⟨d1, d2, h1, h2, s1, s2, rfl⟩ := eqV_ok e S hx hy
    exact .inr ⟨d1, d2, h1, h2, s1, s2, c.here S (.bl _)⟩
theorem in_all {K : PySem.W.Frag} {ρ : Nat → Addr} {st st' : Store} {H : Hp} {x y v : MV} {xv yv : V} {Q : VK} (h : cmpV .isin x y st = .ok v st') (S : Sim K ca ρ st H) (hx : Rv K ρ st.next H x xv) (hy : Rv K ρ st.next H y yv) (c : Cont K ca ρ st H v st' Q) :
    rInTS K xv yv H Q ∨ (rInXS K xv yv H Q ∨ rInAll K false xv yv H Q) := by
  obtain ⟨k, e, rfl, rfl⟩ := okB_eq (show okB (orO (inTS x y st) (orO (inXS x y st) (inV x y st))) id st = .ok v st' from h)
  rcases orO_eq e with e | e
  · exact .inl (inTS_ok e S hx hy (c.here S (.bl _)))
  rcases orO_eq e with e | e
  · exact .inr (.inl (inXS_ok e S hx hy (c.here S (.bl _))))
  · exact .inr (.inr (inV_ok (neg := false) e S hx hy (c.here S (.bl _))))
theorem s_eq (hr : Room d X.A) (ha : PE X a (rE X.K ca Γ d ma)) (hb : PE X b (rE X.K ca Γ d mb)) : PE X (.Compare a [.Eq] [b] pos) (rE X.K ca Γ d (.cmp .eq ma mb)) :=
  e2_wk (pe_cmpR (OpR.or op_eqSS (OpR.or (op_eqT0 hr.units) (OpR.or (op_eqXS hr.units) (OpR.or (op_eqXT hr.units) (op_eqD hr.units))))) ha hb (nomark _)) rfl rfl (fun _ _ _ => rfl) fun ρ st H x y xv yv v st' Q h S hx hy c => eq_all h S hx hy c
theorem s_ne (hr : Room d X.A) (ha : PE X a (rE X.K ca Γ d ma)) (hb : PE X b (rE X.K ca Γ d mb)) : PE X (.Compare a [.NotEq] [b] pos) (rE X.K ca Γ d (.cmp .ne ma mb)) :=
  e2_wk (pe_cmpR (OpR.or op_neSS (op_neD hr.units)) ha hb (nomark _)) rfl rfl (fun _ _ _ => rfl) fun ρ st H x y xv yv v st' Q h S hx hy c => ne_all h S hx hy c
theorem s_in (hr : Room d X.A) (ha : PE X a (rE X.K ca Γ d ma)) (hb : PE X b (rE X.K ca Γ d mb)) (hm : behindInMarks .In b = false := by rfl) : PE X (.Compare a [.In] [b] pos) (rE X.K ca Γ d (.cmp .isin ma mb)) :=
  e2_wk (pe_cmpR (OpR.or (op_inTS (hu65 hr)) (OpR.or (op_inXS (hu65 hr)) (op_inAll (hu65 hr)))) ha hb hm) rfl rfl (fun _ _ _ => rfl) fun ρ st H x y xv yv v st' Q h S hx hy c => in_all h S hx hy c
theorem s_notin (hr : Room d X.A) (ha : PE X a (rE X.K ca Γ d ma)) (hb : PE X b (rE X.K ca Γ d mb)) (hm : behindInMarks .NotIn b = false := by rfl) : PE X (.Compare a [.NotIn] [b] pos) (rE X.K ca Γ d (.cmp .notin ma mb)) :=
  e2_wk (pe_cmpR (op_notInAll (hu65 hr)) ha hb hm) rfl rfl (fun _ _ _ => rfl) fun ρ st H x y xv yv v st' Q h S hx hy c => by
    obtain ⟨k, e, rfl, rfl⟩ := okB_eq (show okB (inV x y st) (!·) st = .ok v st' from h)
    exact inV_ok (neg := true) e S hx hy (c.here S (.bl _))
def rS0 (f : Str → Str → Bool) : R2 := fun x y H Q => ∃ a b, x = .str a ∧ y = .str b ∧ Q (.bl (f a b)) H
theorem op_ltS : OpR X (compareOp .Lt) (rS0 fun a b => decide (a.cps.toList < b.cps.toList)) := by
  intro pins s σ H x y v u Q I rx ry h
  obtain ⟨a, b, rfl, rfl, q⟩ := h
  obtain ⟨t, rfl⟩ := rx
  obtain ⟨t2, rfl⟩ := ry
  exact PyProof.Rows.lt_str ⟨.bl _, H, I, rfl, q⟩
theorem op_leS : OpR X (compareOp .LtE) (rS0 fun a b => !(decide (b.cps.toList < a.cps.toList))) := by
  intro pins s σ H x y v u Q I rx ry h
  obtain ⟨a, b, rfl, rfl, q⟩ := h
  obtain ⟨t, rfl⟩ := rx
  obtain ⟨t2, rfl⟩ := ry
  exact PyProof.Rows.MP_le ⟨.bl _, H, I, rfl, q⟩
theorem op_gtS : OpR X (compareOp .Gt) (rS0 fun a b => decide (b.cps.toList < a.cps.toList)) := by
  intro pins s σ H x y v u Q I rx ry h
  obtain ⟨a, b, rfl, rfl, q⟩ := h
  obtain ⟨t, rfl⟩ := rx
  obtain ⟨t2, rfl⟩ := ry
  exact PyProof.Rows.MP_gt ⟨.bl _, H, I, rfl, q⟩
theorem op_geS : OpR X (compareOp .GtE) (rS0 fun a b => !(decide (a.cps.toList < b.cps.toList))) := by
  intro pins s σ H x y v u Q I rx ry h
  obtain ⟨a, b, rfl, rfl, q⟩ := h
  obtain ⟨t, rfl⟩ := rx
  obtain ⟨t2, rfl⟩ := ry
  exact PyProof.Rows.MP_ge ⟨.bl _, H, I, rfl, q⟩
theorem cmpI_ok {p : Int → Int → Bool} {f : Str → Str → Bool} {K : PySem.W.Frag} {ρ : Nat → Addr} {st st' : Store} {H : Hp} {x y v : MV} {xv yv : V} {Q : VK} (S : Sim K ca ρ st H) (hx : Rv K ρ st.next H x xv) (hy : Rv K ρ st.next H y yv) (c : Cont K ca ρ st H v st' Q)
    (h : (match x, y with
      | .int i, .int j => Res.ok (MV.bl (p i j)) st
      | .str i, .str j => Res.ok (MV.bl (f i j)) st
      | _, _ => .stuck) = .ok v st') : rI0 (fun i j => .bl (p i j)) xv yv H Q ∨ rS0 f xv yv H Q := by
  cases hx with
  | int i =>
    cases hy with
    | int j => cases h; exact .inl ⟨i, j, rfl, rfl, c.here S (.bl _)⟩
    | _ => cases h
  | str i =>
    cases hy with
    | str j => cases h; exact .inr ⟨i, j, rfl, rfl, c.here S (.bl _)⟩
    | _ => cases h
  | _ => cases hy <;> cases h
theorem s_lt (ha : PE X a (rE X.K ca Γ d ma)) (hb : PE X b (rE X.K ca Γ d mb)) : PE X (.Compare a [.Lt] [b] pos) (rE X.K ca Γ d (.cmp .lt ma mb)) :=
  e2_wk (pe_cmpR (OpR.or op_lt op_ltS) ha hb (nomark _)) rfl rfl (fun _ _ _ => rfl) fun ρ st H x y xv yv v st' Q h S hx hy c => cmpI_ok (p := fun i j => decide (i < j)) (f := fun i j => decide (i.cps.toList < j.cps.toList)) S hx hy c h
theorem s_le (ha : PE X a (rE X.K ca Γ d ma)) (hb : PE X b (rE X.K ca Γ d mb)) : PE X (.Compare a [.LtE] [b] pos) (rE X.K ca Γ d (.cmp .le ma mb)) :=
  e2_wk (pe_cmpR (OpR.or op_le op_leS) ha hb (nomark _)) rfl rfl (fun _ _ _ => rfl) fun ρ st H x y xv yv v st' Q h S hx hy c => cmpI_ok (p := fun i j => decide (i ≤ j)) (f := fun i j => !(decide (j.cps.toList < i.cps.toList))) S hx hy c h
theorem s_gt (ha : PE X a (rE X.K ca Γ d ma)) (hb : PE X b (rE X.K ca Γ d mb)) : PE X (.Compare a [.Gt] [b] pos) (rE X.K ca Γ d (.cmp .gt ma mb)) :=
  e2_wk (pe_cmpR (OpR.or op_gt op_gtS) ha hb (nomark _)) rfl rfl (fun _ _ _ => rfl) fun ρ st H x y xv yv v st' Q h S hx hy c => cmpI_ok (p := fun i j => decide (j < i)) (f := fun i j => decide (j.cps.toList < i.cps.toList)) S hx hy c h
theorem s_ge (ha : PE X a (rE X.K ca Γ d ma)) (hb : PE X b (rE X.K ca Γ d mb)) : PE X (.Compare a [.GtE] [b] pos) (rE X.K ca Γ d (.cmp .ge ma mb)) :=
  e2_wk (pe_cmpR (OpR.or op_ge op_geS) ha hb (nomark _)) rfl rfl (fun _ _ _ => rfl) fun ρ st H x y xv yv v st' Q h S hx hy c => cmpI_ok (p := fun i j => decide (j ≤ i)) (f := fun i j => !(decide (i.cps.toList < j.cps.toList))) S hx hy c h
/-- .. is None, is not None -/
theorem isN_ok {K : PySem.W.Frag} {ρ : Nat → Addr} {st : Store} {H : Hp} {x : MV} {xv : V} (hx : Rv K ρ st.next H x xv) (neg : Bool) : (match x with
    | .non => Res.ok (MV.bl (!neg)) st
    | _ => .ok (MV.bl neg) st) = .ok (MV.bl (if neg then !(decide (xv = V.non)) else decide (xv = V.non))) st := by
  cases hx <;> cases neg <;> rfl
theorem s_isN {j pos'} (ha : PE X a (rE X.K ca Γ d ma)) : PE X (.Compare a [.Is] [.Constant .none j pos'] pos) (rE X.K ca Γ d (.isN false ma)) :=
  e1_wk (r := fun x H Q => Q (.bl (decide (x = .non))) H) (te := rE X.K ca Γ d ma) (pe_cmp (pc_isN ha)) rfl (fun _ _ _ => rfl) fun n ρ st H x xv v st' Q h S hx c => by
    have h2 := (isN_ok hx false).symm.trans h
    cases h2
    exact c.here S (.bl _)
theorem s_notN {j pos'} (ha : PE X a (rE X.K ca Γ d ma)) : PE X (.Compare a [.IsNot] [.Constant .none j pos'] pos) (rE X.K ca Γ d (.isN true ma)) :=
  e1_wk (r := fun x H Q => Q (.bl (!decide (x = .non))) H) (te := rE X.K ca Γ d ma) (pe_cmp (pc_notN ha)) rfl (fun _ _ _ => rfl) fun n ρ st H x xv v st' Q h S hx c => by
    have h2 := (isN_ok hx true).symm.trans h
    cases h2
    exact c.here S (.bl _)
theorem s_isB {k : Bool} {j pos'} (ha : PE X a (rE X.K ca Γ d ma)) : PE X (.Compare a [.Is] [.Constant (.bool k) j pos'] pos) (rE X.K ca Γ d (.isB k false ma)) :=
  e1_wk (r := fun x H Q => ∃ a b, x = .bl a ∧ V.bl k = .bl b ∧ Q (.bl (decide (a = b))) H) (te := rE X.K ca Γ d ma) (f := fun _ x st => match x with
    | .bl q => .ok (.bl (if false then !(decide (q = k)) else decide (q = k))) st
    | _ => .stuck) (pe_cmpR op_is_bl ha pe_bl (nomark _)) rfl (fun _ _ _ => rfl) fun n ρ st H x xv v st' Q h S hx c => by
    cases hx with
    | bl q => cases h; exact ⟨q, k, rfl, rfl, c.here S (.bl _)⟩
    | _ => cases h
theorem s_notB {k : Bool} {j pos'} (ha : PE X a (rE X.K ca Γ d ma)) : PE X (.Compare a [.IsNot] [.Constant (.bool k) j pos'] pos) (rE X.K ca Γ d (.isB k true ma)) :=
  e1_wk (r := fun x H Q => ∃ a b, x = .bl a ∧ V.bl k = .bl b ∧ Q (.bl (!decide (a = b))) H) (te := rE X.K ca Γ d ma) (f := fun _ x st => match x with
    | .bl q => .ok (.bl (if true then !(decide (q = k)) else decide (q = k))) st
    | _ => .stuck) (pe_cmpR op_isnot_bl ha pe_bl (nomark _)) rfl (fun _ _ _ => rfl) fun n ρ st H x xv v st' Q h S hx c => by
    cases hx with
    | bl q => cases h; exact ⟨q, k, rfl, rfl, c.here S (.bl _)⟩
    | _ => cases h
end
end MP

set_option Elab.async false
set_option linter.all false
set_option maxRecDepth 100000
set_option maxHeartbeats 4000000
namespace MP
open PySem L2

section
variable {K : PySem.W.Frag} {ca : Cls0} {ρ ρ' : Nat → Addr} {st : Store} {N N' : Nat} {H H' : Hp}
mutual
theorem Rv.more (ag : ∀ n, n < N → ρ' n = ρ n) (le : N ≤ N') : ∀ {x : MV} {y : V}, Rv K ρ N H x y → Rv K ρ' N' H x y
  | _, _, .non => .non
  | _, _, .bl b => .bl b
  | _, _, .int i => .int i
  | _, _, .str x => .str x
  | _, _, .tup h t => .tup h (RvL.more ag le t)
  | _, _, .ref h => by rw [← ag _ h]; exact .ref (Nat.lt_of_lt_of_le h le)
  | _, _, .scr h t => .scr h (RvL.more ag le t)
theorem RvL.more (ag : ∀ n, n < N → ρ' n = ρ n) (le : N ≤ N') : ∀ {x : List MV} {y : List V}, RvL K ρ N H x y → RvL K ρ' N' H x y
  | _, _, .nil => .nil
  | _, _, .cons h t => .cons (Rv.more ag le h) (RvL.more ag le t)
end
theorem RvP.more {κ : Type} (ag : ∀ n, n < N → ρ' n = ρ n) (le : N ≤ N') : ∀ {x : List (κ × MV)} {y : List (κ × V)}, RvP K ρ N H x y → RvP K ρ' N' H x y
  | _, _, .nil => .nil
  | _, _, .cons h t => .cons (h.more ag le) (RvP.more ag le t)
theorem RO.more (ag : ∀ n, n < N → ρ' n = ρ n) (le : N ≤ N') {o : MO} {u : HO} (r : RO K ca ρ N H o u) : RO K ca ρ' N' H o u := by
  cases r with
  | lst h => exact .lst (h.more ag le)
  | dK h => exact .dK (h.more ag le)
  | dF h => exact .dF (h.more ag le)
  | ins h => exact .ins (h.more ag le)
/-- what is free later was free -/
theorem Fut.none (S : Sim K ca ρ st H) (F : Fut ρ st.next H ρ' N' H') (S' : ∀ n, n < st.next → ∃ u, H' (ρ' n) = some u) {a : Addr} (h : H' a = Option.none) : H a = Option.none := by
  cases e : H a with
  | none => rfl
  | some o =>
    by_cases hx : ∃ n, n < st.next ∧ ρ n = a
    · obtain ⟨n, hn, rfl⟩ := hx
      obtain ⟨u, hu⟩ := S' n hn
      rw [F.agr n hn, h] at hu
      cases hu
    · have q := (F.fr a o e fun n hn z => hx ⟨n, hn, z⟩).1
      rw [h] at q; cases q
theorem Fut.none' {st' : Store} (S : Sim K ca ρ st H) (F : Fut ρ st.next H ρ' st'.next H') (S' : Sim K ca ρ' st' H') {a : Addr} (h : H' a = Option.none) : H a = Option.none :=
  F.none S (fun n hn => let ⟨_, u, _, hu, _⟩ := S'.obj n (Nat.lt_of_lt_of_le hn F.le); ⟨u, hu⟩) h
/-- a list that was just made comes to the store -/
theorem Sim.adopt (S : Sim K ca ρ st H) {p : Addr} {o : HO} {mo : MO} (hp : H p = some o) (hx : ∀ n, n < st.next → ρ n ≠ p) (r : RO K ca ρ st.next H mo o) : Sim K ca (ext ρ st.next p) (st.add mo) H := by
  have ag : ∀ n, n < st.next → ext ρ st.next p n = ρ n := fun n h => ext_ne (Nat.ne_of_lt h)
  refine ⟨Store.wf_add S.wf _, fun n m hn hm e => ?_, fun n hn => ?_⟩
  · rw [Store.next_add] at hn hm
    by_cases h1 : n = st.next
    · by_cases h2 : m = st.next
      · rw [h1, h2]
      · rw [h1, ext_same, ext_ne h2] at e
        exact absurd e.symm (hx m (by omega))
    · by_cases h2 : m = st.next
      · rw [h2, ext_same, ext_ne h1] at e
        exact absurd e (hx n (by omega))
      · rw [ext_ne h1, ext_ne h2] at e
        exact S.inj n m (by omega) (by omega) e
  · rw [Store.next_add] at hn ⊢
    rw [Store.get_add S.wf]
    by_cases h1 : n = st.next
    · rw [if_pos h1, h1, ext_same]
      exact ⟨mo, o, rfl, hp, r.more ag (Nat.le_succ _)⟩
    · rw [if_neg h1, ext_ne h1]
      obtain ⟨mo', u, e1, e2, r'⟩ := S.obj n (by omega)
      exact ⟨mo', u, e1, e2, r'.more ag (Nat.le_succ _)⟩
theorem Fut.adopt {st' : Store} (S : Sim K ca ρ st H) (F : Fut ρ st.next H ρ' st'.next H') {p : Addr} (h0 : H p = Option.none) : Fut ρ st.next H (ext ρ' st'.next p) (st'.next + 1) H' :=
  ⟨⟨Nat.le_succ_of_le F.le, fun n h => (ext_ne (Nat.ne_of_lt (Nat.lt_of_lt_of_le h F.le))).trans (F.agr n h), fun a o e hx => by
    obtain ⟨h1, h2⟩ := F.fr a o e hx
    refine ⟨h1, fun n hn => ?_⟩
    by_cases e2 : n = st'.next
    · rw [e2, ext_same]; exact fun z => by rw [z, e] at h0; cases h0
    · rw [ext_ne e2]; exact h2 n (by omega)⟩, F.fz⟩
end

/-- a list that was just made -/
def rF (K : PySem.W.Frag) (ca : Cls0) (Γ : Tab) (d : Nat) (m : ME) : TE := fun σ H Q =>
  ∃ (n : Nat) (ρ : Nat → Addr) (st : Store) (env : Env), Sim K ca ρ st H ∧ SlotsR K ρ st.next H env σ ∧ ∃ xs st', (ev Γ n d).l m env st = .ok xs st' ∧
    ∀ ρ' H' p ys, Fut ρ st.next H ρ' st'.next H' → Sim K ca ρ' st' H' → H p = none → H' p = some (.lst ys) → (∀ n, n < st'.next → ρ' n ≠ p) → RvL K ρ' st'.next H' xs ys → Q (.ref p) H'

section
variable {X : Cx} {ca : Cls0} {Γ : Tab} {d : Nat} {a b e : Expr} {ma mb m : ME} {pos : Pos}
theorem l_of_f (h : PE X e (rF X.K ca Γ d m)) : PE X e (rL X.K ca Γ d m) :=
  PE.wk h fun σ H Q ⟨n, ρ, st, env, S, L, xs, st', he, k⟩ => ⟨n, ρ, st, env, S, L, xs, st', he, fun ρ' H' p ys F S' _ hp _ r => k ρ' H' (.ref p) F S' ⟨p, ys, rfl, SqL.of hp, r⟩⟩
theorem s_mk (h : PE X e (rF X.K ca Γ d m)) : PE X e (rE X.K ca Γ d (.mk m)) := by
  refine PE.wk h fun σ H Q q => ?_
  obtain ⟨n, ρ, st, env, S, L, v, st', he, k⟩ := q
  cases n with
  | zero => cases he
  | succ n =>
    have he : ((ev Γ n d).l m env st).bind (fun vs st => newL vs st) = .ok v st' := he
    obtain ⟨xs, st1, e1, e2⟩ := Res.bind_ok he
    refine ⟨n, ρ, st, env, S, L, xs, st1, e1, fun ρ' H' p ys F S' h0 hp hx r => ?_⟩
    unfold newL at e2
    split at e2
    · cases e2
      have q := k (ext ρ' st1.next p) H' (.ref p) (Fut.adopt S F h0) (Sim.adopt S' hp hx (.lst r))
      refine q ?_
      have q2 : Rv X.K (ext ρ' st1.next p) (st1.add (.lst xs)).next H' (.ref st1.next) (.ref (ext ρ' st1.next p st1.next)) := .ref (Nat.lt_succ_self _)
      rw [ext_same] at q2
      exact q2
    · cases e2
/-- a list that stands, as a list -/
theorem s_lv (h : PE X e (rE X.K ca Γ d m)) (hm : ∀ n env st, (ev Γ (n + 1) d).l m env st = ((ev Γ n d).e m env st).bind fun v st => match lstV st v with
    | some xs => .ok xs st
    | none => .stuck) : PE X e (rL X.K ca Γ d m) := by
  refine PE.wk h fun σ H Q q => ?_
  obtain ⟨n, ρ, st, env, S, L, xs, st', he, k⟩ := q
  cases n with
  | zero => cases he
  | succ n =>
    have he : (ev Γ (n + 1) d).l m env st = .ok xs st' := he
    rw [hm] at he
    obtain ⟨v, st1, e1, e2⟩ := Res.bind_ok he
    refine ⟨n, ρ, st, env, S, L, v, st1, e1, fun ρ' H' x F S' r => ?_⟩
    cases r with
    | @scr p ys xs' hp hr => cases e2; exact k ρ' H' _ F S' ⟨p, ys, rfl, hp.sq, hr⟩
    | @ref n hn =>
      have e3 : (match (match st1.get n with
        | some (.lst xs) => some xs
        | _ => none) with
        | some xs => Res.ok xs st1
        | none => .stuck) = .ok xs st' := e2
      cases e0 : st1.get n with
      | none => rw [e0] at e3; cases e3
      | some o =>
        rw [e0] at e3
        cases o with
        | lst ys' =>
          cases e3
          obtain ⟨u, hu, ro⟩ := S'.at hn e0
          cases ro with
          | lst hr => exact k ρ' H' _ F S' ⟨_, _, rfl, SqL.of hu, hr⟩
        | dK _ => cases e3
        | dF _ => cases e3
        | ins _ _ => cases e3
    | _ => cases e2

/-! ### arguments, displays -/
theorem s_nil : PA X [] (rA X.K ca Γ d []) := PA.wk pa_nil fun σ H Q q => by
  obtain ⟨n, ρ, st, env, S, L, vs, st', he, k⟩ := q
  cases n with
  | zero => cases he
  | succ n => cases he; exact k ρ H [] (Fut.refl _ _ _) S .nil
theorem s_cons {es : List Expr} {ms : List ME} (ha : PE X a (rE X.K ca Γ d ma)) (hr : PA X es (rA X.K ca Γ d ms)) (hs : starEach (a :: es) X.env = (false, eval a X.env) :: starEach es X.env := by rfl) : PA X (a :: es) (rA X.K ca Γ d (ma :: ms)) :=
  PA.wk (pa_cons ha hr hs) fun σ H Q q => by
    obtain ⟨n, ρ, st, env, S, L, vs, st', he, k⟩ := q
    cases n with
    | zero => cases he
    | succ n =>
      have he : ((ev Γ n d).e ma env st).bind (fun v st => ((ev Γ n d).a ms env st).bind fun vs st => .ok (v :: vs) st) = .ok vs st' := he
      obtain ⟨x, st1, e1, e2⟩ := Res.bind_ok he
      obtain ⟨xs, st2, e3, e4⟩ := Res.bind_ok e2
      cases e4
      exact ⟨n, ρ, st, env, S, L, x, st1, e1, fun ρ1 H1 xv F1 S1 R1 => ⟨n, ρ1, st1, env, S1, F1.slots S L, xs, _, e3, fun ρ2 H2 ys F2 S2 R2 => k ρ2 H2 (xv :: ys) (F1.trans F2) S2 (.cons (F2.rv S1 R1) R2)⟩⟩
theorem s_tup {es : List Expr} {ms : List ME} {x1} (h : PA X es (rA X.K ca Γ d ms)) : PE X (.Tuple es x1 pos) (rE X.K ca Γ d (.tupD ms)) :=
  PE.wk (pe_tup h) fun σ H Q q => by
    obtain ⟨n, ρ, st, env, S, L, v, st', he, k⟩ := q
    cases n with
    | zero => cases he
    | succ n =>
      have he : ((ev Γ n d).a ms env st).bind (fun vs st => newT vs st) = .ok v st' := he
      obtain ⟨xs, st1, e1, e2⟩ := Res.bind_ok he
      refine ⟨n, ρ, st, env, S, L, xs, st1, e1, fun ρ1 H1 ys F1 S1 R1 => ?_⟩
      unfold newT at e2
      split at e2
      · cases e2
        exact ⟨by rw [← R1.length]; assumption, Cont.newT (Cont.after k F1) S1 R1⟩
      · cases e2
theorem s_lstD {es : List Expr} {ms : List ME} (h : PA X es (rA X.K ca Γ d ms)) : PE X (.List es pos) (rF X.K ca Γ d (.lstD ms)) :=
  PE.wk (pe_lst h) fun σ H Q q => by
    obtain ⟨n, ρ, st, env, S, L, xs, st', he, k⟩ := q
    cases n with
    | zero => cases he
    | succ n =>
      have he : ((ev Γ n d).a ms env st).bind (fun vs st => if vs.length ≤ sizeLine then .ok vs st else .stuck) = .ok xs st' := he
      obtain ⟨xs, st1, e1, e2⟩ := Res.bind_ok he
      refine ⟨n, ρ, st, env, S, L, xs, st1, e1, fun ρ1 H1 ys F1 S1 R1 => ?_⟩
      split at e2
      · cases e2
        refine ⟨by rw [← R1.length]; assumption, fun p hp => ?_⟩
        exact k ρ1 _ p ys (F1.trans (Fut.grow S1 hp)) (Sim.grow S1 hp) (Fut.none' S F1 S1 hp) upd_same (fun n hn z => by
          obtain ⟨_, u, _, hu, _⟩ := S1.obj n hn
          rw [z, hp] at hu; cases hu) ((Fut.grow S1 hp).rvL S1 R1)
      · cases e2

/-! ### and, or, not, if -/
theorem s_one {op m'} (h : PE X a (rE X.K ca Γ d m')) : PE X (.BoolOp op [a] pos) (rE X.K ca Γ d m') := pe_one h
theorem s_and {rest : List Expr} (ha : PE X a (rE X.K ca Γ d ma)) (hb : PE X (.BoolOp .And (b :: rest) pos) (rE X.K ca Γ d mb)) : PE X (.BoolOp .And (a :: b :: rest) pos) (rE X.K ca Γ d (.and ma mb)) :=
  PE.wk (pe_and ha hb) fun σ H Q q => by
    obtain ⟨n, ρ, st, env, S, L, v, st', he, k⟩ := q
    cases n with
    | zero => cases he
    | succ n =>
      have he : ((ev Γ n d).e ma env st).bind (fun x st => match x with
        | .bl true => (ev Γ n d).e mb env st
        | .bl false => .ok (.bl false) st
        | _ => .stuck) = .ok v st' := he
      obtain ⟨x, st1, e1, e2⟩ := Res.bind_ok he
      refine ⟨n, ρ, st, env, S, L, x, st1, e1, fun ρ1 H1 xv F1 S1 R1 => ?_⟩
      cases R1 with
      | bl c =>
        refine ⟨c, rfl, ?_⟩
        cases c with
        | true =>
          refine iteT ?_
          exact ⟨n, ρ1, st1, env, S1, F1.slots S L, v, st', e2, fun ρ2 H2 z F2 S2 R2 => k ρ2 H2 z (F1.trans F2) S2 R2⟩
        | false =>
          refine iteF ?_
          cases e2
          exact k ρ1 H1 _ F1 S1 (.bl _)
      | _ => cases e2
theorem s_or {rest : List Expr} (ha : PE X a (rE X.K ca Γ d ma)) (hb : PE X (.BoolOp .Or (b :: rest) pos) (rE X.K ca Γ d mb)) : PE X (.BoolOp .Or (a :: b :: rest) pos) (rE X.K ca Γ d (.or ma mb)) :=
  PE.wk (pe_or ha hb) fun σ H Q q => by
    obtain ⟨n, ρ, st, env, S, L, v, st', he, k⟩ := q
    cases n with
    | zero => cases he
    | succ n =>
      have he : ((ev Γ n d).e ma env st).bind (fun x st => match x with
        | .bl false => (ev Γ n d).e mb env st
        | .bl true => .ok (.bl true) st
        | _ => .stuck) = .ok v st' := he
      obtain ⟨x, st1, e1, e2⟩ := Res.bind_ok he
      refine ⟨n, ρ, st, env, S, L, x, st1, e1, fun ρ1 H1 xv F1 S1 R1 => ?_⟩
      cases R1 with
      | bl c =>
        refine ⟨c, rfl, ?_⟩
        cases c with
        | false =>
          refine iteF ?_
          exact ⟨n, ρ1, st1, env, S1, F1.slots S L, v, st', e2, fun ρ2 H2 z F2 S2 R2 => k ρ2 H2 z (F1.trans F2) S2 R2⟩
        | true =>
          refine iteT ?_
          cases e2
          exact k ρ1 H1 _ F1 S1 (.bl _)
      | _ => cases e2
theorem s_ifx {c : Expr} {mc : ME} (hc : PT X c (rT X.K ca Γ d mc)) (ha : PE X a (rE X.K ca Γ d ma)) (hb : PE X b (rE X.K ca Γ d mb)) : PE X (.IfExp c a b pos) (rE X.K ca Γ d (.ifx mc ma mb)) :=
  PE.wk (pe_ifExp hc ha hb) fun σ H Q q => by
    obtain ⟨n, ρ, st, env, S, L, v, st', he, k⟩ := q
    cases n with
    | zero => cases he
    | succ n =>
      have he : ((ev Γ n d).t mc env st).bind (fun k st => if k = true then (ev Γ n d).e ma env st else (ev Γ n d).e mb env st) = .ok v st' := he
      obtain ⟨x, st1, e1, e2⟩ := Res.bind_ok he
      refine ⟨n, ρ, st, env, S, L, x, st1, e1, fun ρ1 H1 c F1 S1 R1 => ?_⟩
      subst R1
      cases x with
      | true =>
        refine iteT ?_
        rw [if_pos rfl] at e2
        exact ⟨n, ρ1, st1, env, S1, F1.slots S L, v, st', e2, fun ρ2 H2 z F2 S2 R2 => k ρ2 H2 z (F1.trans F2) S2 R2⟩
      | false =>
        refine iteF ?_
        rw [if_neg Bool.false_ne_true] at e2
        exact ⟨n, ρ1, st1, env, S1, F1.slots S L, v, st', e2, fun ρ2 H2 z F2 S2 R2 => k ρ2 H2 z (F1.trans F2) S2 R2⟩
/-! ### tests -/
theorem tru_rv {K : PySem.W.Frag} {ρ : Nat → Addr} {st : Store} {H : Hp} {v : MV} {x : V} {k : Bool} (S : Sim K ca ρ st H) (r : Rv K ρ st.next H v x) (h : truV v st = some k) : TruV K x H k := by
  cases r with
  | non => cases h; rfl
  | bl b => cases h; rfl
  | int i => cases h; rfl
  | str y =>
    unfold truV at h
    simp only at h
    split at h
    · cases h; exact ⟨by assumption, rfl⟩
    · cases h
  | @tup p ys xs hp hr =>
    cases h
    refine .inr (.inl ⟨ys, hp, ?_⟩)
    cases hr <;> rfl
  | @scr p ys xs hp hr =>
    cases h
    refine .inl ⟨ys, hp.sq, ?_⟩
    cases hr <;> rfl
  | @ref n hn =>
    have h' : (match st.get n with
      | some (.lst xs) => some (!xs.isEmpty)
      | some (.dK kvs) => some (!kvs.isEmpty)
      | _ => none) = some k := h
    cases e0 : st.get n with
    | none => rw [e0] at h'; cases h'
    | some o =>
      rw [e0] at h'
      obtain ⟨u, hu, ro⟩ := S.at hn e0
      cases ro with
      | lst hr =>
        cases h'
        refine .inl ⟨_, SqL.of hu, ?_⟩
        cases hr <;> rfl
      | dK hr =>
        cases h'
        refine .inr (.inr ⟨_, hu, ?_⟩)
        cases hr <;> rfl
      | dF _ => cases h'
      | ins _ => cases h'
/-- a value by its truth -/
theorem t_val (ha : PE X a (rE X.K ca Γ d ma)) (hm : ∀ n env st, (ev Γ (n + 1) d).t ma env st = ((ev Γ n d).e ma env st).bind fun v st => match truV v st with
      | some k => .ok k st
      | none => .stuck) (he : ∀ whole, isTrue a X.env whole = (do let v ← whole; standAt a.pos; holding [v] (truthy v)) := by intro _; rfl) : PT X a (rT X.K ca Γ d ma) :=
  PT.wk (pt_truth ha he) fun σ H Q q => by
    obtain ⟨n, ρ, st, env, S, L, v, st', he, k⟩ := q
    cases n with
    | zero => cases he
    | succ n =>
      have he : (ev Γ (n + 1) d).t ma env st = .ok v st' := he
      rw [hm] at he
      obtain ⟨x, st1, e1, e2⟩ := Res.bind_ok he
      refine ⟨n, ρ, st, env, S, L, x, st1, e1, fun ρ1 H1 xv F1 S1 R1 => ?_⟩
      cases e3 : truV x st1 with
      | none => rw [e3] at e2; cases e2
      | some b =>
        rw [e3] at e2
        cases e2
        exact ⟨_, tru_rv S1 R1 e3, k ρ1 H1 _ F1 S1 rfl⟩
/-- a comparison as a test -/
theorem t_cmp {op : CmpOp} {r : R2} (ho : OpR X (compareOp op) r) (hm : behindInMarks op b = false) {cop : COp} (ha : PE X a (rE X.K ca Γ d ma)) (hb : PE X b (rE X.K ca Γ d mb))
    (hr : ∀ (x y : V) (H : Hp) (Q Q' : VK), (∀ v H', Q v H' → Q' v H') → r x y H Q → r x y H Q')
    (ok : ∀ ρ st H x y xv yv v st' Q, cmpV cop x y st = .ok v st' → Sim X.K ca ρ st H → Rv X.K ρ st.next H x xv → Rv X.K ρ st.next H y yv → Cont X.K ca ρ st H v st' Q → r xv yv H Q) : PT X (.Compare a [op] [b] pos) (rT X.K ca Γ d (.cmp cop ma mb)) :=
  PT.wk (pt_cmpR ho ha hb hm) fun σ H Q q => by
    obtain ⟨n, ρ, st, env, S, L, v, st', he, k⟩ := q
    cases n with
    | zero => cases he
    | succ n =>
      have he : ((ev Γ n d).e (.cmp cop ma mb) env st).bind (fun v st => match truV v st with
        | some k => .ok k st
        | none => .stuck) = .ok v st' := he
      obtain ⟨z, st3, e0, e9⟩ := Res.bind_ok he
      cases n with
      | zero => cases e0
      | succ n =>
        have e0 : ((ev Γ n d).e ma env st).bind (fun x st => ((ev Γ n d).e mb env st).bind fun y st => cmpV cop x y st) = .ok z st3 := e0
        obtain ⟨x, st1, e1, e2⟩ := Res.bind_ok e0
        obtain ⟨y, st2, e3, e4⟩ := Res.bind_ok e2
        refine ⟨n, ρ, st, env, S, L, x, st1, e1, fun ρ1 H1 xv F1 S1 R1 => ⟨n, ρ1, st1, env, S1, F1.slots S L, y, st2, e3, fun ρ2 H2 yv F2 S2 R2 => ?_⟩⟩
        refine ok ρ2 st2 H2 x y xv yv z st3 _ e4 S2 (F2.rv S1 R1) R2 fun ρ3 H3 w F3 S3 R3 => ?_
        have bz : ∃ q, z = .bl q := by
          cases cop <;> simp only [cmpV] at e4
          · obtain ⟨q, _, rfl, _⟩ := okB_eq e4; exact ⟨_, rfl⟩
          · obtain ⟨q, _, rfl, _⟩ := okB_eq e4; exact ⟨_, rfl⟩
          all_goals first
            | (obtain ⟨q, _, rfl, _⟩ := okB_eq e4; exact ⟨_, rfl⟩)
            | (split at e4 <;> first
                | (cases e4; exact ⟨_, rfl⟩)
                | cases e4)
        obtain ⟨q, rfl⟩ := bz
        cases R3 with
        | bl q =>
          cases e9
          exact ⟨_, rfl, k ρ3 H3 _ ((F1.trans F2).trans F3) S3 rfl⟩
end
end MP

set_option Elab.async false
set_option linter.all false
set_option maxRecDepth 100000
set_option maxHeartbeats 4000000
namespace MP
open PySem PySem.Spec PyProof.Rows L2

section
variable {X : Cx} {ca : Cls0} {Γ : Tab} {d : Nat} {a b e : Expr} {ma mb m : ME} {pos : Pos}
/-! ### and, or, not as tests -/
theorem w_one {op} (h : PT X a (rT X.K ca Γ d m)) : PW X (.BoolOp op [a] pos) (rT X.K ca Γ d m) := by
  cases op with
  | And => exact pw_and1 h
  | Or => exact pw_or1 h
theorem w_and {rest : List Expr} (ha : PT X a (rT X.K ca Γ d ma)) (hb : PW X (.BoolOp .And (b :: rest) pos) (rT X.K ca Γ d mb)) : PW X (.BoolOp .And (a :: b :: rest) pos) (rT X.K ca Γ d (.and ma mb)) :=
  PW.wk (pw_and ha hb) fun σ H Q q => by
    obtain ⟨n, ρ, st, env, S, L, v, st', he, k⟩ := q
    cases n with
    | zero => cases he
    | succ n =>
      have he : ((ev Γ n d).t ma env st).bind (fun k st => if k = true then (ev Γ n d).t mb env st else .ok false st) = .ok v st' := he
      obtain ⟨x, st1, e1, e2⟩ := Res.bind_ok he
      refine ⟨n, ρ, st, env, S, L, x, st1, e1, fun ρ1 H1 c F1 S1 R1 => ?_⟩
      subst R1
      cases x with
      | true =>
        refine iteT ?_
        rw [if_pos rfl] at e2
        exact ⟨n, ρ1, st1, env, S1, F1.slots S L, v, st', e2, fun ρ2 H2 z F2 S2 R2 => k ρ2 H2 z (F1.trans F2) S2 R2⟩
      | false =>
        refine iteF ?_
        rw [if_neg Bool.false_ne_true] at e2
        cases e2
        exact k ρ1 H1 _ F1 S1 rfl
theorem w_or {rest : List Expr} (ha : PT X a (rT X.K ca Γ d ma)) (hb : PW X (.BoolOp .Or (b :: rest) pos) (rT X.K ca Γ d mb)) : PW X (.BoolOp .Or (a :: b :: rest) pos) (rT X.K ca Γ d (.or ma mb)) :=
  PW.wk (pw_or ha hb) fun σ H Q q => by
    obtain ⟨n, ρ, st, env, S, L, v, st', he, k⟩ := q
    cases n with
    | zero => cases he
    | succ n =>
      have he : ((ev Γ n d).t ma env st).bind (fun k st => if k = true then .ok true st else (ev Γ n d).t mb env st) = .ok v st' := he
      obtain ⟨x, st1, e1, e2⟩ := Res.bind_ok he
      refine ⟨n, ρ, st, env, S, L, x, st1, e1, fun ρ1 H1 c F1 S1 R1 => ?_⟩
      subst R1
      cases x with
      | true =>
        refine iteT ?_
        rw [if_pos rfl] at e2
        cases e2
        exact k ρ1 H1 _ F1 S1 rfl
      | false =>
        refine iteF ?_
        rw [if_neg Bool.false_ne_true] at e2
        exact ⟨n, ρ1, st1, env, S1, F1.slots S L, v, st', e2, fun ρ2 H2 z F2 S2 R2 => k ρ2 H2 z (F1.trans F2) S2 R2⟩
theorem t_not (ha : PT X a (rT X.K ca Γ d ma)) : PT X (.UnaryOp .Not a pos) (rT X.K ca Γ d (.not ma)) :=
  PT.wk (pt_not ha) fun σ H Q q => by
    obtain ⟨n, ρ, st, env, S, L, v, st', he, k⟩ := q
    cases n with
    | zero => cases he
    | succ n =>
      have he : ((ev Γ n d).t ma env st).bind (fun k st => .ok (!k) st) = .ok v st' := he
      obtain ⟨x, st1, e1, e2⟩ := Res.bind_ok he
      cases e2
      exact ⟨n, ρ, st, env, S, L, x, st', e1, fun ρ1 H1 c F1 S1 R1 => by subst R1; exact k ρ1 H1 _ F1 S1 rfl⟩
/-- comparisons as tests -/
theorem tb_of {r : V → Hp → VK → Prop} {te : TE} {f : Nat → MV → Store → Res MV} (h : PT X e (fun σ H Q => te σ H fun x H1 => r x H1 fun z H2 => ∃ k, z = .bl k ∧ Q k H2)) (hte : te = rE X.K ca Γ d a')
    (hm : ∀ n env st, (ev Γ (n + 1) d).e m env st = ((ev Γ n d).e a' env st).bind fun x st => f n x st)
    (ht : ∀ n env st, (ev Γ (n + 1) d).t m env st = ((ev Γ n d).e m env st).bind fun v st => match truV v st with
      | some k => .ok k st
      | none => .stuck)
    (bl : ∀ n x st v st', f n x st = .ok v st' → ∃ q, v = .bl q)
    (op : ∀ n ρ st H x xv v st' Q, f n x st = .ok v st' → Sim X.K ca ρ st H → Rv X.K ρ st.next H x xv → Cont X.K ca ρ st H v st' Q → r xv H Q) : PT X e (rT X.K ca Γ d m) := by
  subst hte
  refine PT.wk h fun σ H Q q => ?_
  obtain ⟨n, ρ, st, env, S, L, v, st', he, k⟩ := q
  cases n with
  | zero => cases he
  | succ n =>
    have he : (ev Γ (n + 1) d).t m env st = .ok v st' := he
    rw [ht] at he
    obtain ⟨z, st3, e0, e9⟩ := Res.bind_ok he
    cases n with
    | zero => cases e0
    | succ n =>
      have e0 : (ev Γ (n + 1) d).e m env st = .ok z st3 := e0
      rw [hm] at e0
      obtain ⟨x, st1, e1, e2⟩ := Res.bind_ok e0
      refine ⟨n, ρ, st, env, S, L, x, st1, e1, fun ρ1 H1 xv F1 S1 R1 => ?_⟩
      refine op n ρ1 st1 H1 x xv z st3 _ e2 S1 R1 fun ρ3 H3 w F3 S3 R3 => ?_
      obtain ⟨q, rfl⟩ := bl _ _ _ _ _ e2
      cases R3 with
      | bl q =>
        cases e9
        exact ⟨_, rfl, k ρ3 H3 _ (F1.trans F3) S3 rfl⟩
end

section
variable {X : Cx} {ca : Cls0} {Γ : Tab} {d : Nat} {a b e : Expr} {ma mb m : ME} {pos : Pos}
theorem t_eq (hr : Room d X.A) (ha : PE X a (rE X.K ca Γ d ma)) (hb : PE X b (rE X.K ca Γ d mb)) : PT X (.Compare a [.Eq] [b] pos) (rT X.K ca Γ d (.cmp .eq ma mb)) :=
  t_cmp (OpR.or op_eqSS (OpR.or (op_eqT0 hr.units) (OpR.or (op_eqXS hr.units) (OpR.or (op_eqXT hr.units) (op_eqD hr.units))))) (nomark _) ha hb (fun _ _ _ _ _ hq h => by
    rcases h with ⟨a, b, h1, h2, q⟩ | ⟨a, b, xs, h1, h2, h3, h4, q⟩ | ⟨ca, ρ, st, v, z, k, h1, h2, h3, h4, q⟩ | ⟨ca, ρ, st, xs, ys, zs, p, p', k, h1, h2, h3, h4, h5, h6, h7, q⟩ | ⟨d1, d2, h1, h2, h3, h4, q⟩
    · exact .inl ⟨a, b, h1, h2, hq _ _ q⟩
    · exact .inr (.inl ⟨a, b, xs, h1, h2, h3, h4, hq _ _ q⟩)
    · exact .inr (.inr (.inl ⟨ca, ρ, st, v, z, k, h1, h2, h3, h4, hq _ _ q⟩))
    · exact .inr (.inr (.inr (.inl ⟨ca, ρ, st, xs, ys, zs, p, p', k, h1, h2, h3, h4, h5, h6, h7, hq _ _ q⟩)))
    · exact .inr (.inr (.inr (.inr ⟨d1, d2, h1, h2, h3, h4, hq _ _ q⟩)))) fun ρ st H x y xv yv v st' Q h S hx hy c => eq_all h S hx hy c
theorem t_ne (hr : Room d X.A) (ha : PE X a (rE X.K ca Γ d ma)) (hb : PE X b (rE X.K ca Γ d mb)) : PT X (.Compare a [.NotEq] [b] pos) (rT X.K ca Γ d (.cmp .ne ma mb)) :=
  t_cmp (OpR.or op_neSS (op_neD hr.units)) (nomark _) ha hb (fun _ _ _ _ _ hq h => h.elim (fun ⟨a, b, h1, h2, q⟩ => .inl ⟨a, b, h1, h2, hq _ _ q⟩) (fun ⟨d1, d2, h1, h2, h3, h4, q⟩ => .inr ⟨d1, d2, h1, h2, h3, h4, hq _ _ q⟩)) fun ρ st H x y xv yv v st' Q h S hx hy c => ne_all h S hx hy c
theorem t_in (hr : Room d X.A) (ha : PE X a (rE X.K ca Γ d ma)) (hb : PE X b (rE X.K ca Γ d mb)) (hm : behindInMarks .In b = false := by rfl) : PT X (.Compare a [.In] [b] pos) (rT X.K ca Γ d (.cmp .isin ma mb)) :=
  t_cmp (OpR.or (op_inTS (hu65 hr)) (OpR.or (op_inXS (hu65 hr)) (op_inAll (hu65 hr)))) hm ha hb (fun _ _ _ _ _ hq h => by
    rcases h with ⟨k, q, h⟩ | ⟨ca, ρ, st, v, zs, b, k, h1, h2, h3, h4, h5, q⟩ | ⟨k, q, h⟩
    · exact .inl ⟨k, hq _ _ q, h⟩
    · exact .inr (.inl ⟨ca, ρ, st, v, zs, b, k, h1, h2, h3, h4, h5, hq _ _ q⟩)
    · exact .inr (.inr ⟨k, hq _ _ q, h⟩)) fun ρ st H x y xv yv v st' Q h S hx hy c => in_all h S hx hy c
theorem t_notin (hr : Room d X.A) (ha : PE X a (rE X.K ca Γ d ma)) (hb : PE X b (rE X.K ca Γ d mb)) (hm : behindInMarks .NotIn b = false := by rfl) : PT X (.Compare a [.NotIn] [b] pos) (rT X.K ca Γ d (.cmp .notin ma mb)) :=
  t_cmp (op_notInAll (hu65 hr)) hm ha hb (fun _ _ _ _ _ hq ⟨k, q, h⟩ => ⟨k, hq _ _ q, h⟩) fun ρ st H x y xv yv v st' Q h S hx hy c => by
    obtain ⟨k, e, rfl, rfl⟩ := okB_eq (show okB (inV x y st) (!·) st = .ok v st' from h)
    exact inV_ok (neg := true) e S hx hy (c.here S (.bl _))
theorem rI0_mono {g : Int → Int → V} : ∀ (x y : V) (H : Hp) (Q Q' : VK), (∀ v H', Q v H' → Q' v H') → rI0 g x y H Q → rI0 g x y H Q' := fun _ _ _ _ _ hq ⟨i, j, h1, h2, q⟩ => ⟨i, j, h1, h2, hq _ _ q⟩
theorem rIS_mono {g : Int → Int → V} {f : Str → Str → Bool} : ∀ (x y : V) (H : Hp) (Q Q' : VK), (∀ v H', Q v H' → Q' v H') → (rI0 g x y H Q ∨ rS0 f x y H Q) → (rI0 g x y H Q' ∨ rS0 f x y H Q') := fun _ _ _ _ _ hq h => h.elim (fun ⟨i, j, h1, h2, q⟩ => .inl ⟨i, j, h1, h2, hq _ _ q⟩) (fun ⟨i, j, h1, h2, q⟩ => .inr ⟨i, j, h1, h2, hq _ _ q⟩)
theorem t_lt (ha : PE X a (rE X.K ca Γ d ma)) (hb : PE X b (rE X.K ca Γ d mb)) : PT X (.Compare a [.Lt] [b] pos) (rT X.K ca Γ d (.cmp .lt ma mb)) :=
  t_cmp (OpR.or op_lt op_ltS) (nomark _) ha hb rIS_mono fun ρ st H x y xv yv v st' Q h S hx hy c => cmpI_ok (p := fun i j => decide (i < j)) (f := fun i j => decide (i.cps.toList < j.cps.toList)) S hx hy c h
theorem t_le (ha : PE X a (rE X.K ca Γ d ma)) (hb : PE X b (rE X.K ca Γ d mb)) : PT X (.Compare a [.LtE] [b] pos) (rT X.K ca Γ d (.cmp .le ma mb)) :=
  t_cmp (OpR.or op_le op_leS) (nomark _) ha hb rIS_mono fun ρ st H x y xv yv v st' Q h S hx hy c => cmpI_ok (p := fun i j => decide (i ≤ j)) (f := fun i j => !(decide (j.cps.toList < i.cps.toList))) S hx hy c h
theorem t_gt (ha : PE X a (rE X.K ca Γ d ma)) (hb : PE X b (rE X.K ca Γ d mb)) : PT X (.Compare a [.Gt] [b] pos) (rT X.K ca Γ d (.cmp .gt ma mb)) :=
  t_cmp (OpR.or op_gt op_gtS) (nomark _) ha hb rIS_mono fun ρ st H x y xv yv v st' Q h S hx hy c => cmpI_ok (p := fun i j => decide (j < i)) (f := fun i j => decide (j.cps.toList < i.cps.toList)) S hx hy c h
theorem t_ge (ha : PE X a (rE X.K ca Γ d ma)) (hb : PE X b (rE X.K ca Γ d mb)) : PT X (.Compare a [.GtE] [b] pos) (rT X.K ca Γ d (.cmp .ge ma mb)) :=
  t_cmp (OpR.or op_ge op_geS) (nomark _) ha hb rIS_mono fun ρ st H x y xv yv v st' Q h S hx hy c => cmpI_ok (p := fun i j => decide (j ≤ i)) (f := fun i j => !(decide (i.cps.toList < j.cps.toList))) S hx hy c h
theorem isN_bl {neg : Bool} {x v : MV} {st st' : Store} (h : (match x with
    | .non => Res.ok (MV.bl (!neg)) st
    | _ => .ok (MV.bl neg) st) = .ok v st') : ∃ q, v = .bl q := by
  split at h <;> (cases h; exact ⟨_, rfl⟩)
theorem t_isN {j pos'} (ha : PE X a (rE X.K ca Γ d ma)) : PT X (.Compare a [.Is] [.Constant .none j pos'] pos) (rT X.K ca Γ d (.isN false ma)) :=
  tb_of (a' := ma) (r := fun x H Q => Q (.bl (decide (x = .non))) H) (te := rE X.K ca Γ d ma) (pt_cmp (pc_isN ha)) rfl (fun _ _ _ => rfl) (fun _ _ _ => rfl) (fun _ _ _ _ _ h => isN_bl h) fun n ρ st H x xv v st' Q h S hx c => by
    have h2 := (isN_ok hx false).symm.trans h
    cases h2
    exact c.here S (.bl _)
theorem t_notN {j pos'} (ha : PE X a (rE X.K ca Γ d ma)) : PT X (.Compare a [.IsNot] [.Constant .none j pos'] pos) (rT X.K ca Γ d (.isN true ma)) :=
  tb_of (a' := ma) (r := fun x H Q => Q (.bl (!decide (x = .non))) H) (te := rE X.K ca Γ d ma) (pt_cmp (pc_notN ha)) rfl (fun _ _ _ => rfl) (fun _ _ _ => rfl) (fun _ _ _ _ _ h => isN_bl h) fun n ρ st H x xv v st' Q h S hx c => by
    have h2 := (isN_ok hx true).symm.trans h
    cases h2
    exact c.here S (.bl _)
theorem isB_bl {neg k : Bool} {x v : MV} {st st' : Store} (h : (match x with
    | .bl q => Res.ok (MV.bl (if neg then !(decide (q = k)) else decide (q = k))) st
    | _ => .stuck) = .ok v st') : ∃ q, v = .bl q := by
  split at h
  · cases h; exact ⟨_, rfl⟩
  · cases h
theorem t_isB {k : Bool} {j pos'} (ha : PE X a (rE X.K ca Γ d ma)) : PT X (.Compare a [.Is] [.Constant (.bool k) j pos'] pos) (rT X.K ca Γ d (.isB k false ma)) :=
  tb_of (a' := ma) (r := fun x H Q => ∃ a b, x = .bl a ∧ V.bl k = .bl b ∧ Q (.bl (decide (a = b))) H) (te := rE X.K ca Γ d ma) (f := fun _ x st => match x with
    | .bl q => .ok (.bl (if false then !(decide (q = k)) else decide (q = k))) st
    | _ => .stuck) (pt_cmpR op_is_bl ha pe_bl (nomark _)) rfl (fun _ _ _ => rfl) (fun _ _ _ => rfl) (fun _ _ _ _ _ h => isB_bl h) fun n ρ st H x xv v st' Q h S hx c => by
    cases hx with
    | bl q => cases h; exact ⟨q, k, rfl, rfl, c.here S (.bl _)⟩
    | _ => cases h
theorem t_notB {k : Bool} {j pos'} (ha : PE X a (rE X.K ca Γ d ma)) : PT X (.Compare a [.IsNot] [.Constant (.bool k) j pos'] pos) (rT X.K ca Γ d (.isB k true ma)) :=
  tb_of (a' := ma) (r := fun x H Q => ∃ a b, x = .bl a ∧ V.bl k = .bl b ∧ Q (.bl (!decide (a = b))) H) (te := rE X.K ca Γ d ma) (f := fun _ x st => match x with
    | .bl q => .ok (.bl (if true then !(decide (q = k)) else decide (q = k))) st
    | _ => .stuck) (pt_cmpR op_isnot_bl ha pe_bl (nomark _)) rfl (fun _ _ _ => rfl) (fun _ _ _ => rfl) (fun _ _ _ _ _ h => isB_bl h) fun n ρ st H x xv v st' Q h S hx c => by
    cases hx with
    | bl q => cases h; exact ⟨q, k, rfl, rfl, c.here S (.bl _)⟩
    | _ => cases h

/-! ### lists just made, compared -/
theorem cmpL_ok {K : PySem.W.Frag} {ρ : Nat → Addr} {st st' : Store} {H : Hp} {op : COp} {xs ys : List MV} {v : MV} {xv yv : V} (h : cmpLV op xs ys st = .ok v st') (S : Sim K ca ρ st H) (hx : RvS K ρ st.next H xs xv) (hy : RvS K ρ st.next H ys yv) :
    ∃ d e, Dp K H xv d ∧ Dp K H yv e ∧ SeqAt.shaped d = true ∧ SeqAt.shaped e = true ∧ st' = st ∧ ((op = .eq ∧ v = .bl (PyData.eqv d e)) ∨ (op = .ne ∧ v = .bl (!PyData.eqv d e))) := by
  obtain ⟨p, ps, rfl, hp, rp⟩ := hx
  obtain ⟨q, qs, rfl, hq, rq⟩ := hy
  unfold cmpLV at h
  split at h
  · rename_i d e e1 e2
    obtain ⟨d1, s1⟩ := dp_scr S e1 hp rp
    obtain ⟨d2, s2⟩ := dp_scr S e2 hq rq
    refine ⟨d, e, d1, d2, s1, s2, ?_⟩
    cases op <;> simp only at h
    · cases h; exact ⟨rfl, .inl ⟨rfl, rfl⟩⟩
    · cases h; exact ⟨rfl, .inr ⟨rfl, rfl⟩⟩
    all_goals cases h
  · cases h
theorem RvS.mono {K : PySem.W.Frag} {ρ ρ' : Nat → Addr} {st : Store} {N' : Nat} {H H' : Hp} {xs : List MV} {x : V} (S : Sim K ca ρ st H) (F : Fut ρ st.next H ρ' N' H') (h : RvS K ρ st.next H xs x) (hs : ∀ p ys, SqL K H p ys → SqL K H' p ys) : RvS K ρ' N' H' xs x :=
  let ⟨p, ys, e, hp, r⟩ := h; ⟨p, ys, e, hs p ys hp, F.rvL S r⟩
/-- the left list stands while the right one is made: it was just made -/
theorem e2L {op : CmpOp} {cop : COp} {neg : Bool} {r : R2} (h : PE X (.Compare a [op] [b] pos) (tOp r (rF X.K ca Γ d ma) (rL X.K ca Γ d mb)))
    (hop : ∀ ρ st H xs ys xv yv v st' Q, cmpLV cop xs ys st = .ok v st' → Sim X.K ca ρ st H → RvS X.K ρ st.next H xs xv → RvS X.K ρ st.next H ys yv → Cont X.K ca ρ st H v st' Q → r xv yv H Q) : PE X (.Compare a [op] [b] pos) (rE X.K ca Γ d (.cmpL cop ma mb)) :=
  PE.wk h fun σ H Q q => by
    obtain ⟨n, ρ, st, env, S, L, v, st', he, k⟩ := q
    cases n with
    | zero => cases he
    | succ n =>
      have he : ((ev Γ n d).l ma env st).bind (fun x st => ((ev Γ n d).l mb env st).bind fun y st => cmpLV cop x y st) = .ok v st' := he
      obtain ⟨xs, st1, e1, e2⟩ := Res.bind_ok he
      obtain ⟨ys, st2, e3, e4⟩ := Res.bind_ok e2
      refine ⟨n, ρ, st, env, S, L, xs, st1, e1, fun ρ1 H1 p ps F1 S1 h0 hp hx R1 => ⟨n, ρ1, st1, env, S1, F1.slots S L, ys, st2, e3, fun ρ2 H2 yv F2 S2 R2 => ?_⟩⟩
      exact hop ρ2 st2 H2 xs ys (.ref p) yv v st' Q e4 S2 ⟨p, ps, rfl, SqL.of (F2.fr p _ hp hx).1, F2.rvL S1 R1⟩ R2 (Cont.after k (F1.trans F2))
theorem s_eqL (hr : Room d X.A) (ha : PE X a (rF X.K ca Γ d ma)) (hb : PE X b (rL X.K ca Γ d mb)) : PE X (.Compare a [.Eq] [b] pos) (rE X.K ca Γ d (.cmpL .eq ma mb)) :=
  e2L (neg := false) (pe_cmpR (op_eqD (hr.units)) ha hb (nomark _)) fun ρ st H xs ys xv yv v st' Q h S hx hy c => by
    obtain ⟨d1, d2, h1, h2, s1, s2, rfl, ⟨_, rfl⟩ | ⟨z, _⟩⟩ := cmpL_ok h S hx hy
    · exact ⟨d1, d2, h1, h2, s1, s2, c.here S (.bl _)⟩
    · cases z
theorem s_neL (hr : Room d X.A) (ha : PE X a (rF X.K ca Γ d ma)) (hb : PE X b (rL X.K ca Γ d mb)) : PE X (.Compare a [.NotEq] [b] pos) (rE X.K ca Γ d (.cmpL .ne ma mb)) :=
  e2L (neg := false) (pe_cmpR (op_neD (hr.units)) ha hb (nomark _)) fun ρ st H xs ys xv yv v st' Q h S hx hy c => by
    obtain ⟨d1, d2, h1, h2, s1, s2, rfl, ⟨z, _⟩ | ⟨_, rfl⟩⟩ := cmpL_ok h S hx hy
    · cases z
    · exact ⟨d1, d2, h1, h2, s1, s2, c.here S (.bl _)⟩

/-! ### places and cuts -/
theorem ix_dict (hu : X.A.units + 1 < cLine) : IxR X (fun x y H Q => ∃ a v, x = .ref a ∧ DGet H a y (some v) ∧ Q v H) := by
  intro value slice pins s σ H x y v u Q I rx ry h hs
  obtain ⟨a, z, rfl, g, q⟩ := h
  obtain rfl : v = Value.ref a := rx
  have hT := dict_typeIs I g
  unfold subscriptTail
  refine wpAny_bind ?_
  rw [getitemInPython_of_ne hT.not_modules]
  refine wpAny_bind (wpAny_specialOf hT PySem.F.slot_dict_getitem.lookup ?_)
  have fin : wpAny (model X.prog X.w) X.A (subscripted slice false (Value.ref a) u) (fun r s₃ => wpAny (model X.prog X.w) X.A (letTemporaryGo value (Value.ref a) r >>= fun _ => pure r) (EP X pins σ Q) X.xe s₃) X.xe s := by
    rw [hs]
    exact wpAny_operating (d_getItem hu I g ry fun w' s3 I3 rw' => wpAny_bind (wpAny_letTemporaryGo (wpAny_pure ⟨z, H, I3, rw', q⟩)))
  first
    | exact wpAny_pure (wpAny_bind fin)
    | exact wpAny_bind (wpAny_pure (wpAny_bind fin))
    | exact wpAny_bind fin
theorem atI_rv {K : PySem.W.Frag} {ρ : Nat → Addr} {N : Nat} {H : Hp} {xs : List MV} {ys : List V} {k : Int} {v : MV} (r : RvL K ρ N H xs ys) (h : atI xs k = some v) : ∃ x, atI ys k = some x ∧ Rv K ρ N H v x := by
  unfold atI at h ⊢
  rw [← r.length]
  cases e : ixN xs.length k with
  | none => rw [e] at h; cases h
  | some j =>
    rw [e] at h
    have h' : xs[j]? = some v := h
    obtain ⟨y, h1, h2⟩ := r.get h'
    exact ⟨y, h1, h2⟩
theorem idx_ok {K : PySem.W.Frag} {ρ : Nat → Addr} {st st' : Store} {H : Hp} {x y v : MV} {xv yv : V} {Q : VK} (h : idxV x y st = .ok v st') (S : Sim K ca ρ st H) (hx : Rv K ρ st.next H x xv) (hy : Rv K ρ st.next H y yv) (c : Cont K ca ρ st H v st' Q) :
    rIx K xv yv H Q ∨ (∃ a v, xv = .ref a ∧ DGet H a yv (some v) ∧ Q v H) := by
  cases hx with
  | @tup p ys xs hp hr =>
    cases hy with
    | int k =>
      unfold idxV at h
      simp only at h
      split at h
      · cases h
        rename_i e
        obtain ⟨z, h1, h2⟩ := atI_rv hr e
        exact .inl (.inr (.inl ⟨p, ys, k, z, rfl, rfl, hp, h1, c.here S h2⟩))
      · cases h
    | _ => cases h
  | @scr p ys xs hp hr =>
    cases hy with
    | int k =>
      unfold idxV at h
      simp only at h
      split at h
      · cases h
        rename_i e
        obtain ⟨z, h1, h2⟩ := atI_rv hr e
        exact .inl (.inl ⟨p, ys, k, z, rfl, rfl, hp.sq, h1, c.here S h2⟩)
      · cases h
    | _ => cases h
  | str z =>
    cases hy with
    | int k =>
      unfold idxV at h
      simp only at h
      split at h
      · split at h
        · cases h
          exact .inl (.inr (.inr ⟨z, k, _, rfl, rfl, by assumption, by assumption, c.here S (.str _)⟩))
        · cases h
      · cases h
    | _ => cases h
  | @ref n hn =>
    have h' : (match st.get n with
      | some (.lst xs) => (match y with
        | .int k => match atI xs k with
          | some v => Res.ok v st
          | none => .stuck
        | _ => .stuck)
      | some (.dK kvs) => (match keyV y with
        | some q => match kvLook kvs q with
          | some v => .ok v st
          | none => .stuck
        | none => .stuck)
      | some (.dF kvs) => (match keyV y with
        | some q => match kvLook kvs q with
          | some v => .ok v st
          | none => .stuck
        | none => .stuck)
      | _ => .stuck) = .ok v st' := h
    cases e0 : st.get n with
    | none => rw [e0] at h'; cases h'
    | some o =>
      rw [e0] at h'
      obtain ⟨u, hu, ro⟩ := S.at hn e0
      cases ro with
      | lst hr =>
        cases hy with
        | int k =>
          simp only at h'
          split at h'
          · cases h'
            rename_i e
            obtain ⟨z, h1, h2⟩ := atI_rv hr e
            exact .inl (.inl ⟨ρ n, _, k, z, rfl, rfl, SqL.of hu, h1, c.here S h2⟩)
          · cases h'
        | _ => cases h'
      | dK hr =>
        simp only at h'
        split at h'
        · rename_i q eq
          split at h'
          · cases h'
            rename_i e
            refine .inr ⟨ρ n, ?_⟩
            rw [key_rv eq hy]
            rcases look_rv (k := q) hr with ⟨e1, e2⟩ | ⟨w, x, e1, e2, r⟩
            · rw [e1] at e; cases e
            · rw [e1] at e; cases e
              refine ⟨x, rfl, ?_, c.here S r⟩
              rw [← e2]
              exact DGet.k hu
          · cases h'
        · cases h'
      | dF hr =>
        simp only at h'
        split at h'
        · rename_i q eq
          split at h'
          · cases h'
            rename_i e
            refine .inr ⟨ρ n, ?_⟩
            rw [key_rv eq hy]
            rcases look_rv (k := q) hr with ⟨e1, e2⟩ | ⟨w, x, e1, e2, r⟩
            · rw [e1] at e; cases e
            · rw [e1] at e; cases e
              refine ⟨x, rfl, ?_, c.here S r⟩
              rw [← e2]
              exact .inl ⟨_, q, .inr ⟨_, hu⟩, rfl, rfl⟩
          · cases h'
        · cases h'
      | ins _ => cases h'
  | _ => cases h
theorem s_idx (hr : Room d X.A) (ha : PE X a (rE X.K ca Γ d ma)) (hb : PE X b (rE X.K ca Γ d mb)) (hs : PlainIx b := by exact fun _ _ => rfl) : PE X (.Subscript a b pos) (rE X.K ca Γ d (.idx ma mb)) :=
  e2_wk (pe_ix (IxR.or ix_seq (ix_dict (hu_of hr))) ha hb hs) rfl rfl (fun _ _ _ => rfl) fun ρ st H x y xv yv v st' Q h S hx hy c => idx_ok h S hx hy c
def rO (K : PySem.W.Frag) (ca : Cls0) (Γ : Tab) (d : Nat) (m : Option ME) : TO := rd K ca (fun _ _ _ a b => a = b) fun n => (ev Γ n d).o m
theorem o_none : PO X none (rO X.K ca Γ d none) := ⟨fun pins s σ H Q I q => by
  obtain ⟨n, ρ, st, env, S, L, v, st', he, k⟩ := q
  cases n with
  | zero => cases he
  | succ n =>
    cases he
    exact po_none.run pins s σ H Q I (k ρ H none (Fut.refl _ _ _) S rfl)⟩
theorem o_some (ha : PE X a (rE X.K ca Γ d ma)) : PO X (some a) (rO X.K ca Γ d (some ma)) := ⟨fun pins s σ H Q I q => by
  obtain ⟨n, ρ, st, env, S, L, v, st', he, k⟩ := q
  cases n with
  | zero => cases he
  | succ n =>
    have he : ((ev Γ n d).e ma env st).bind (fun v st => match v with
      | .int i => .ok (some i) st
      | _ => .stuck) = .ok v st' := he
    obtain ⟨x, st1, e1, e2⟩ := Res.bind_ok he
    refine (po_some ha).run pins s σ H Q I ⟨n, ρ, st, env, S, L, x, st1, e1, fun ρ1 H1 xv F1 S1 R1 => ?_⟩
    cases R1 with
    | int i => cases e2; exact ⟨i, rfl, k ρ1 H1 _ F1 S1 rfl⟩
    | _ => cases e2⟩
theorem cut_rv {K : PySem.W.Frag} {ρ : Nat → Addr} {N : Nat} {H : Hp} {xs : List MV} {ys : List V} {lo hi : Option Int} (r : RvL K ρ N H xs ys) : RvL K ρ N H (cut xs lo hi) (cutV ys lo hi) := by
  unfold cut cutV
  rw [← r.length]
  exact (r.drop _).take _
theorem slc_ok {K : PySem.W.Frag} {ρ : Nat → Addr} {st st' : Store} {H : Hp} {x v : MV} {xv : V} {lo hi : Option Int} {Q : VK} (h : slcV x lo hi st = .ok v st') (S : Sim K ca ρ st H) (hx : Rv K ρ st.next H x xv) (c : Cont K ca ρ st H v st' Q) :
    rSlL K xv lo hi H Q ∨ rSlA K xv lo hi H Q := by
  cases hx with
  | @tup p ys xs hp hr =>
    cases h
    refine .inr ⟨p, ys, rfl, hp, fun ⟨e1, e2⟩ => ?_, fun _ => c.newT S (cut_rv hr)⟩
    refine c.here S ?_
    have e : cut xs lo hi = xs := by
      unfold cut
      rw [hr.length, e1, e2, List.drop_zero, Nat.sub_zero, ← hr.length, List.take_length]
    rw [e]
    exact .tup hp hr
  | @scr p ys xs hp hr =>
    obtain ⟨_, q⟩ := Cont.newL (show newL (cut xs lo hi) st = .ok v st' from h) c S (cut_rv hr)
    exact .inl ⟨p, ys, rfl, hp.sq, q⟩
  | @ref n hn =>
    have h' : (match st.get n with
      | some (.lst xs) => newL (cut xs lo hi) st
      | _ => .stuck) = .ok v st' := h
    cases e0 : st.get n with
    | none => rw [e0] at h'; cases h'
    | some o =>
      rw [e0] at h'
      obtain ⟨u, hu, ro⟩ := S.at hn e0
      cases ro with
      | lst hr =>
        obtain ⟨_, q⟩ := Cont.newL h' c S (cut_rv hr)
        exact .inl ⟨_, _, rfl, SqL.of hu, q⟩
      | dK _ => cases h'
      | dF _ => cases h'
      | ins _ => cases h'
  | _ => cases h
theorem s_slc {lo hi : Option Expr} {ml mh : Option ME} {p2 : Pos} (ha : PE X a (rE X.K ca Γ d ma)) (hl : PO X lo (rO X.K ca Γ d ml)) (hh : PO X hi (rO X.K ca Γ d mh)) : PE X (.Subscript a (.Slice lo hi none p2) pos) (rE X.K ca Γ d (.slc ma ml mh)) :=
  PE.wk (pe_slice (SlR.or sl_list sl_tupA) ha hl hh) fun σ H Q q => by
    obtain ⟨n, ρ, st, env, S, L, v, st', he, k⟩ := q
    cases n with
    | zero => cases he
    | succ n =>
      have he : ((ev Γ n d).e ma env st).bind (fun x st => ((ev Γ n d).o ml env st).bind fun l st => ((ev Γ n d).o mh env st).bind fun h st => slcV x l h st) = .ok v st' := he
      obtain ⟨x, st1, e1, e2⟩ := Res.bind_ok he
      obtain ⟨l, st2, e3, e4⟩ := Res.bind_ok e2
      obtain ⟨h, st3, e5, e6⟩ := Res.bind_ok e4
      refine ⟨n, ρ, st, env, S, L, x, st1, e1, fun ρ1 H1 xv F1 S1 R1 => ⟨n, ρ1, st1, env, S1, F1.slots S L, l, st2, e3, fun ρ2 H2 lv F2 S2 R2 => ?_⟩⟩
      refine ⟨n, ρ2, st2, env, S2, (F1.trans F2).slots S L, h, st3, e5, fun ρ3 H3 hv F3 S3 R3 => ?_⟩
      subst R2 R3
      exact slc_ok e6 S3 ((F2.trans F3).rv S1 R1) (Cont.after k ((F1.trans F2).trans F3))
end
end MP

set_option Elab.async false
set_option linter.all false
set_option maxRecDepth 100000
set_option maxHeartbeats 4000000
namespace MP
open PySem PySem.Spec PyProof.Rows L2

/-- no star -/
def ns : Expr → Bool
  | .Starred .. => false
  | _ => true
theorem star_cons {e : Expr} {es : List Expr} {env : PySem.Env} (h : ns e = true) : starEach (e :: es) env = (false, eval e env) :: starEach es env := by
  cases e <;> first
    | rfl
    | cases h
theorem star_any {es : List Expr} {env : PySem.Env} {pos : Pos} (h : es.all ns = true) : (backTo pos (starEach es env)).any (·.1) = false := by
  induction es with
  | nil => rfl
  | cons e es ih =>
    rw [List.all_cons, Bool.and_eq_true] at h
    rw [star_cons h.1]
    show (false || (backTo pos (starEach es env)).any (·.1)) = false
    rw [ih h.2]
    rfl
theorem star_all {es : List Expr} {env : PySem.Env} {pos : Pos} (h : es.all ns = true) : (backTo pos (starEach es env)).all (fun x => !x.1) = true := by
  induction es with
  | nil => rfl
  | cons e es ih =>
    rw [List.all_cons, Bool.and_eq_true] at h
    rw [star_cons h.1]
    show (true && (backTo pos (starEach es env)).all (fun x => !x.1)) = true
    rw [ih h.2]
    rfl
section
variable {X : Cx} {ca : Cls0} {Γ : Tab} {d : Nat} {a b e : Expr} {ma mb m : ME} {pos : Pos}
/-- arguments, then what their values are put to -/
theorem eA_wk {e : Expr} {m : ME} {ms : List ME} {r : List V → Hp → VK → Prop} {f : List MV → Store → Res MV} (h : PE X e (tCB r (rA X.K ca Γ d ms)))
    (hm : ∀ n env st, (ev Γ (n + 1) d).e m env st = ((ev Γ n d).a ms env st).bind fun x st => f x st)
    (op : ∀ ρ st H x xv v st' Q, f x st = .ok v st' → Sim X.K ca ρ st H → RvL X.K ρ st.next H x xv → Cont X.K ca ρ st H v st' Q → r xv H Q) : PE X e (rE X.K ca Γ d m) := by
  refine PE.wk h fun σ H Q q => ?_
  obtain ⟨n, ρ, st, env, S, L, v, st', he, k⟩ := q
  cases n with
  | zero => cases he
  | succ n =>
    have he : (ev Γ (n + 1) d).e m env st = .ok v st' := he
    rw [hm] at he
    obtain ⟨x, st1, e1, e2⟩ := Res.bind_ok he
    exact ⟨n, ρ, st, env, S, L, x, st1, e1, fun ρ1 H1 xv F1 S1 R1 => op ρ1 st1 H1 x xv v st' Q e2 S1 R1 (Cont.after k F1)⟩
/-- a list, then what it is put to -/
theorem eL_wk {e : Expr} {m ml : ME} {r : List V → Hp → VK → Prop} {f : List MV → Store → Res MV} (h : PE X e (tCB r (tCons (rL X.K ca Γ d ml) tNil)))
    (hm : ∀ n env st, (ev Γ (n + 1) d).e m env st = ((ev Γ n d).l ml env st).bind fun x st => f x st)
    (op : ∀ ρ st H x xv v st' Q, f x st = .ok v st' → Sim X.K ca ρ st H → RvS X.K ρ st.next H x xv → Cont X.K ca ρ st H v st' Q → r [xv] H Q) : PE X e (rE X.K ca Γ d m) := by
  refine PE.wk h fun σ H Q q => ?_
  obtain ⟨n, ρ, st, env, S, L, v, st', he, k⟩ := q
  cases n with
  | zero => cases he
  | succ n =>
    have he : (ev Γ (n + 1) d).e m env st = .ok v st' := he
    rw [hm] at he
    obtain ⟨x, st1, e1, e2⟩ := Res.bind_ok he
    exact ⟨n, ρ, st, env, S, L, x, st1, e1, fun ρ1 H1 xv F1 S1 R1 => op ρ1 st1 H1 x xv v st' Q e2 S1 R1 (Cont.after k F1)⟩
theorem rv1 {K : PySem.W.Frag} {ρ : Nat → Addr} {N : Nat} {H : Hp} {x : MV} {ys : List V} (r : RvL K ρ N H [x] ys) : ∃ y, ys = [y] ∧ Rv K ρ N H x y := by
  cases r with
  | cons h t => cases t; exact ⟨_, rfl, h⟩
theorem rv2 {K : PySem.W.Frag} {ρ : Nat → Addr} {N : Nat} {H : Hp} {x x' : MV} {ys : List V} (r : RvL K ρ N H [x, x'] ys) : ∃ y y', ys = [y, y'] ∧ Rv K ρ N H x y ∧ Rv K ρ N H x' y' := by
  cases r with
  | cons h t => cases t with
    | cons h' t' => cases t'; exact ⟨_, _, rfl, h, h'⟩
/-! ### built-in functions -/
def rLen (K : PySem.W.Frag) : List V → Hp → VK → Prop := fun xs H Q => (∃ x n, xs = [x] ∧ LenV K x H n ∧ Q (.int n) H) ∨ ∃ a kvs, xs = [V.ref a] ∧ H a = some (.dK kvs) ∧ Q (.int kvs.length) H
theorem s_len {p : Pos} (hg : Gl X "len") (hm : X.mg "len" = none) (ha : PA X [a] (rA X.K ca Γ d [ma])) (na : ns a = true := by rfl) : PE X (.Call (.Name "len" p) [a] [] pos) (rE X.K ca Γ d (.bi .len [ma])) :=
  eA_wk (r := rLen X.K) (pe_callB (CallR.or call_len call_lenD) hg hm boot_len ha (by decide) (by decide) (star_cons na) rfl) (fun _ _ _ => rfl) fun ρ st H x xv v st' Q h S hx c => by
    cases hx with
    | nil => cases h
    | cons h1 t =>
      cases t with
      | cons _ _ => cases h1 <;> cases h
      | nil =>
        cases h1 with
        | str z =>
          unfold biV at h
          simp only at h
          split at h
          · cases h; exact .inl ⟨_, _, rfl, ⟨by assumption, rfl⟩, c.here S (.int _)⟩
          · cases h
        | tup hp hr => cases h; exact .inl ⟨_, _, rfl, .inr ⟨_, hp, rfl⟩, by rw [← hr.length]; exact c.here S (.int _)⟩
        | scr hp hr => cases h; exact .inl ⟨_, _, rfl, .inl ⟨_, hp.sq, rfl⟩, by rw [← hr.length]; exact c.here S (.int _)⟩
        | @ref n hn =>
          have h' : (match st.get n with
            | some (.lst xs) => Res.ok (MV.int xs.length) st
            | some (.dK kvs) => .ok (MV.int kvs.length) st
            | _ => .stuck) = .ok v st' := h
          cases e0 : st.get n with
          | none => rw [e0] at h'; cases h'
          | some o =>
            rw [e0] at h'
            obtain ⟨u, hu, ro⟩ := S.at hn e0
            cases ro with
            | lst hr => cases h'; exact .inl ⟨_, _, rfl, .inl ⟨_, SqL.of hu, rfl⟩, by rw [← hr.length]; exact c.here S (.int _)⟩
            | dK hr => cases h'; exact .inr ⟨_, _, rfl, hu, by rw [← hr.length]; exact c.here S (.int _)⟩
            | dF _ => cases h'
            | ins _ => cases h'
        | _ => cases h
theorem s_abs {p : Pos} (hg : Gl X "abs") (hm : X.mg "abs" = none) (ha : PA X [a] (rA X.K ca Γ d [ma])) (na : ns a = true := by rfl) : PE X (.Call (.Name "abs" p) [a] [] pos) (rE X.K ca Γ d (.bi .abs [ma])) :=
  eA_wk (pe_callB call_abs hg hm (by decide +kernel) ha (by decide) (by decide) (star_cons na) rfl) (fun _ _ _ => rfl) fun ρ st H x xv v st' Q h S hx c => by
    cases hx with
    | nil => cases h
    | cons h1 t =>
      cases t with
      | cons _ _ => cases h1 <;> cases h
      | nil =>
        cases h1 with
        | int i => cases h; exact ⟨i, rfl, c.here S (.int _)⟩
        | _ => cases h
theorem s_int1 {p : Pos} (hg : Gl X "int") (hm : X.mg "int" = none) (ha : PA X [a] (rA X.K ca Γ d [ma])) (na : ns a = true := by rfl) : PE X (.Call (.Name "int" p) [a] [] pos) (rE X.K ca Γ d (.bi .int [ma])) :=
  eA_wk (pe_callTy call_int1 hg hm boot_int ha (by decide) (by decide) (star_cons na) rfl) (fun _ _ _ => rfl) fun ρ st H x xv v st' Q h S hx c => by
    cases hx with
    | nil => cases h
    | cons h1 t =>
      cases t with
      | cons _ _ => cases h1 <;> cases h
      | nil =>
        cases h1 with
        | int i => cases h; exact .inl ⟨i, rfl, c.here S (.int _)⟩
        | bl k => cases h; exact .inr ⟨k, rfl, c.here S (.int _)⟩
        | _ => cases h
theorem s_str1 {p : Pos} (hg : Gl X "str") (hm : X.mg "str" = none) (ha : PA X [a] (rA X.K ca Γ d [ma])) (na : ns a = true := by rfl) : PE X (.Call (.Name "str" p) [a] [] pos) (rE X.K ca Γ d (.bi .str [ma])) :=
  eA_wk (pe_callTy call_str_int hg hm (by decide +kernel) ha (by decide) (by decide) (star_cons na) rfl) (fun _ _ _ => rfl) fun ρ st H x xv v st' Q h S hx c => by
    cases hx with
    | nil => cases h
    | cons h1 t =>
      cases t with
      | cons _ _ => cases h1 <;> cases h
      | nil =>
        cases h1 with
        | int i =>
          unfold biV at h
          simp only at h
          split at h
          · cases h; exact ⟨i, rfl, by assumption, c.here S (.str _)⟩
          · cases h
        | _ => cases h
theorem s_max2 {p : Pos} (hc : X.calm = true) (hg : Gl X "max") (hm : X.mg "max" = none) (ha : PA X [a, b] (rA X.K ca Γ d [ma, mb])) (na : ns a = true := by rfl) (nb : ns b = true := by rfl) : PE X (.Call (.Name "max" p) [a, b] [] pos) (rE X.K ca Γ d (.bi .max2 [ma, mb])) :=
  eA_wk (pe_callB (call_max2 hc) hg hm (by decide +kernel) ha (by decide) (by decide) (star_cons na) (star_any (by rw [List.all_cons, nb]; rfl))) (fun _ _ _ => rfl) fun ρ st H x xv v st' Q h S hx c => by
    cases hx with
    | nil => cases h
    | cons h1 t =>
      cases t with
      | nil => cases h1 <;> cases h
      | cons h2 t =>
        cases t with
        | cons _ _ => cases h1 <;> cases h2 <;> cases h
        | nil =>
          cases h1 with
          | int i =>
            cases h2 with
            | int j => cases h; exact ⟨i, j, rfl, c.here S (.int _)⟩
            | _ => cases h
          | _ => cases h2 <;> cases h
/-- list(x) of a list or tuple -/
theorem seqV_rv {K : PySem.W.Frag} {ρ : Nat → Addr} {st : Store} {H : Hp} {v : MV} {x : V} {xs : List MV} (S : Sim K ca ρ st H) (r : Rv K ρ st.next H v x) (h : seqV st v = some xs) : ∃ p ys, x = .ref p ∧ (SqL K H p ys ∨ SqT K H p ys) ∧ RvL K ρ st.next H xs ys := by
  cases r with
  | tup hp hr => cases h; exact ⟨_, _, rfl, .inr hp, hr⟩
  | scr hp hr => cases h; exact ⟨_, _, rfl, .inl hp.sq, hr⟩
  | @ref n hn =>
    have h' : (match st.get n with
      | some (.lst xs) => some xs
      | _ => none) = some xs := h
    cases e0 : st.get n with
    | none => rw [e0] at h'; cases h'
    | some o =>
      rw [e0] at h'
      obtain ⟨u, hu, ro⟩ := S.at hn e0
      cases ro with
      | lst hr => cases h'; exact ⟨_, _, rfl, .inl (SqL.of hu), hr⟩
      | dK _ => cases h'
      | dF _ => cases h'
      | ins _ => cases h'
  | _ => cases h
theorem lstV_rv {K : PySem.W.Frag} {ρ : Nat → Addr} {st : Store} {H : Hp} {v : MV} {x : V} {xs : List MV} (S : Sim K ca ρ st H) (r : Rv K ρ st.next H v x) (h : lstV st v = some xs) : RvS K ρ st.next H xs x := by
  cases r with
  | scr hp hr => cases h; exact ⟨_, _, rfl, hp.sq, hr⟩
  | @ref n hn =>
    have h' : (match st.get n with
      | some (.lst xs) => some xs
      | _ => none) = some xs := h
    cases e0 : st.get n with
    | none => rw [e0] at h'; cases h'
    | some o =>
      rw [e0] at h'
      obtain ⟨u, hu, ro⟩ := S.at hn e0
      cases ro with
      | lst hr => cases h'; exact ⟨_, _, rfl, SqL.of hu, hr⟩
      | dK _ => cases h'
      | dF _ => cases h'
      | ins _ => cases h'
  | _ => cases h
theorem s_list1 {p : Pos} (hg : Gl X "list") (hm : X.mg "list" = none) (ha : PA X [a] (rA X.K ca Γ d [ma])) (na : ns a = true := by rfl) : PE X (.Call (.Name "list" p) [a] [] pos) (rE X.K ca Γ d (.bi .list [ma])) :=
  eA_wk (pe_callTy call_list_of hg hm (by decide +kernel) ha (by decide) (by decide) (star_cons na) rfl) (fun _ _ _ => rfl) fun ρ st H x xv v st' Q h S hx c => by
    cases hx with
    | nil => cases h
    | @cons x y xs ys h1 t =>
      cases t with
      | cons _ _ => cases h
      | nil =>
        have h' : (match seqV st x with
          | some xs => newL xs st
          | none => .stuck) = .ok v st' := h
        cases e0 : seqV st x with
        | none => rw [e0] at h'; cases h'
        | some xs =>
          rw [e0] at h'
          obtain ⟨p, ys, rfl, hp, hr⟩ := seqV_rv S h1 e0
          obtain ⟨_, q⟩ := Cont.newL h' c S hr
          exact ⟨p, ys, rfl, hp, q⟩
theorem s_tuple1 {p : Pos} (hg : Gl X "tuple") (hm : X.mg "tuple" = none) (ha : PA X [a] (rA X.K ca Γ d [ma])) (na : ns a = true := by rfl) : PE X (.Call (.Name "tuple" p) [a] [] pos) (rE X.K ca Γ d (.bi .tuple [ma])) :=
  eA_wk (pe_callTy call_tuple_of hg hm (by decide +kernel) ha (by decide) (by decide) (star_cons na) rfl) (fun _ _ _ => rfl) fun ρ st H x xv v st' Q h S hx c => by
    cases hx with
    | nil => cases h
    | @cons x y xs ys h1 t =>
      cases t with
      | cons _ _ => cases h1 <;> cases h
      | nil =>
        have fin : (match lstV st x with
          | some xs => newT xs st
          | none => .stuck) = .ok v st' → ∃ p ys, [y] = [V.ref p] ∧ ((SqL X.K H p ys ∧ ∀ l, H l = none → Q (.ref l) (upd H l (.tup ys))) ∨ (SqT X.K H p ys ∧ Q (.ref p) H)) := fun h' => by
          cases e0 : lstV st x with
          | none => rw [e0] at h'; cases h'
          | some xs =>
            rw [e0] at h'
            obtain ⟨p, ys, rfl, hp, hr⟩ := lstV_rv S h1 e0
            unfold newT at h'
            simp only at h'
            split at h'
            · cases h'
              exact ⟨p, ys, rfl, .inl ⟨hp, c.newT S hr⟩⟩
            · cases h'
        cases h1 with
        | tup hp hr => cases h; exact ⟨_, _, rfl, .inr ⟨hp, c.here S (.tup hp hr)⟩⟩
        | _ => exact fin h
theorem bls_rv {K : PySem.W.Frag} {ρ : Nat → Addr} {N : Nat} {H : Hp} : ∀ {xs : List MV} {ys : List V} {bs : List Bool}, blsV xs = some bs → RvL K ρ N H xs ys → ys = bs.map V.bl := by
  intro xs
  induction xs with
  | nil =>
    intro ys bs h r
    cases r
    cases h
    rfl
  | cons x xs ih =>
    intro ys bs h r
    cases r with
    | cons r t =>
      cases r with
      | bl k =>
        have h' : (match blsV xs with
          | some t => some (k :: t)
          | none => none) = some bs := h
        cases e : blsV xs with
        | none => rw [e] at h'; cases h'
        | some u =>
          rw [e] at h'
          cases h'
          rw [ih e t]
          rfl
      | _ => cases h
theorem strs_rv {K : PySem.W.Frag} {ρ : Nat → Addr} {N : Nat} {H : Hp} : ∀ {xs : List MV} {ys : List V} {bs : List Str}, strsV xs = some bs → RvL K ρ N H xs ys → ys = bs.map V.str := by
  intro xs
  induction xs with
  | nil =>
    intro ys bs h r
    cases r
    cases h
    rfl
  | cons x xs ih =>
    intro ys bs h r
    cases r with
    | cons r t =>
      cases r with
      | str k =>
        have h' : (match strsV xs with
          | some t => some (k :: t)
          | none => none) = some bs := h
        cases e : strsV xs with
        | none => rw [e] at h'; cases h'
        | some u =>
          rw [e] at h'
          cases h'
          rw [ih e t]
          rfl
      | _ => cases h
theorem s_all {p : Pos} (hc : X.calm = true) (hg : Gl X "all") (hm : X.mg "all" = none) (ha : PE X a (rL X.K ca Γ d ma)) (na : ns a = true := by rfl) : PE X (.Call (.Name "all" p) [a] [] pos) (rE X.K ca Γ d (.all ma)) :=
  eL_wk (pe_callB (cr_all hc) hg hm (by decide +kernel) (pa_cons ha pa_nil (star_cons na)) (by decide) (by decide) (star_cons na) rfl) (fun _ _ _ => rfl) fun ρ st H x xv v st' Q h S hx c => by
    obtain ⟨p, ys, rfl, hp, hr⟩ := hx
    split at h
    · cases h
      rename_i bs e
      exact ⟨p, bs, rfl, by rw [← bls_rv e hr]; exact hp, c.here S (.bl _)⟩
    · cases h
theorem s_any {p : Pos} (hc : X.calm = true) (hg : Gl X "any") (hm : X.mg "any" = none) (ha : PE X a (rL X.K ca Γ d ma)) (na : ns a = true := by rfl) : PE X (.Call (.Name "any" p) [a] [] pos) (rE X.K ca Γ d (.any ma)) :=
  eL_wk (pe_callB (cr_any hc) hg hm (by decide +kernel) (pa_cons ha pa_nil (star_cons na)) (by decide) (by decide) (star_cons na) rfl) (fun _ _ _ => rfl) fun ρ st H x xv v st' Q h S hx c => by
    obtain ⟨p, ys, rfl, hp, hr⟩ := hx
    split at h
    · cases h
      rename_i bs e
      exact ⟨p, bs, rfl, by rw [← bls_rv e hr]; exact hp, c.here S (.bl _)⟩
    · cases h
theorem s_tupL {p : Pos} (hg : Gl X "tuple") (hm : X.mg "tuple" = none) (ha : PE X a (rL X.K ca Γ d ma)) (na : ns a = true := by rfl) : PE X (.Call (.Name "tuple" p) [a] [] pos) (rE X.K ca Γ d (.tupL ma)) :=
  eL_wk (pe_callTy call_tuple_of hg hm (by decide +kernel) (pa_cons ha pa_nil (star_cons na)) (by decide) (by decide) (star_cons na) rfl) (fun _ _ _ => rfl) fun ρ st H x xv v st' Q h S hx c => by
    obtain ⟨p, ys, rfl, hp, hr⟩ := hx
    unfold newT at h
    split at h
    · cases h
      exact ⟨p, ys, rfl, .inl ⟨hp, c.newT S hr⟩⟩
    · cases h
theorem s_join {apos : Pos} {o : Expr} {mo : ME} (ho : PE X o (rE X.K ca Γ d mo)) (ha : PE X a (rL X.K ca Γ d ma)) (na : ns a = true := by rfl)
    (hbase : attributeBase o "join" X.env (eval o X.env) = eval o X.env := by rfl) (hline : (apos.endLine == pos.line) = true := by rfl) : PE X (.Call (.Attribute o "join" apos) [a] [] pos) (rE X.K ca Γ d (.join mo ma)) :=
  PE.wk (pe_join ho ha (star_cons na) hbase hline) fun σ H Q q => by
    obtain ⟨n, ρ, st, env, S, L, v, st', he, k⟩ := q
    cases n with
    | zero => cases he
    | succ n =>
      have he : ((ev Γ n d).e mo env st).bind (fun x st => ((ev Γ n d).l ma env st).bind fun vs st => match x, strsV vs with
        | .str a, some ys => if (ys.map (·.length)).sum + ys.length * a.length ≤ 16777216 then .ok (.str (Txt.join a ys)) st else .stuck
        | _, _ => .stuck) = .ok v st' := he
      obtain ⟨x, st1, e1, e2⟩ := Res.bind_ok he
      obtain ⟨xs, st2, e3, e4⟩ := Res.bind_ok e2
      split at e4
      · rename_i a' ys e5
        split at e4
        · cases e4
          refine ⟨n, ρ, st, env, S, L, _, st1, e1, fun ρ1 H1 xv F1 S1 R1 => ?_⟩
          cases R1 with
          | str _ =>
            refine ⟨⟨_, rfl⟩, n, ρ1, st1, env, S1, F1.slots S L, xs, _, e3, fun ρ2 H2 yv F2 S2 R2 => ?_⟩
            obtain ⟨p, zs, rfl, hp, hr⟩ := R2
            refine ⟨_, p, ys, rfl, rfl, .inl ?_, by assumption, k ρ2 H2 _ (F1.trans F2) S2 (.str _)⟩
            rw [← strs_rv e5 hr]
            exact hp
        · cases e4
      · cases e4
/-! ### isinstance -/
def tyS : TN → String
  | .str => "str"
  | .int => "int"
  | .bool => "bool"
  | .tuple => "tuple"
  | .list => "list"
  | .dict => "dict"
  | .cls _ => "object"
def tab0 : List (String × TN × Bool) :=
  [("NoneType", .str, false), ("NoneType", .int, false), ("NoneType", .bool, false), ("NoneType", .tuple, false), ("NoneType", .list, false), ("NoneType", .dict, false),
   ("bool", .str, false), ("bool", .int, true), ("bool", .bool, true), ("bool", .tuple, false), ("bool", .list, false), ("bool", .dict, false),
   ("int", .str, false), ("int", .int, true), ("int", .bool, false), ("int", .tuple, false), ("int", .list, false), ("int", .dict, false),
   ("str", .str, true), ("str", .int, false), ("str", .bool, false), ("str", .tuple, false), ("str", .list, false), ("str", .dict, false),
   ("tuple", .str, false), ("tuple", .int, false), ("tuple", .bool, false), ("tuple", .tuple, true), ("tuple", .list, false), ("tuple", .dict, false),
   ("list", .str, false), ("list", .int, false), ("list", .bool, false), ("list", .tuple, false), ("list", .list, true), ("list", .dict, false),
   ("dict", .str, false), ("dict", .int, false), ("dict", .bool, false), ("dict", .tuple, false), ("dict", .list, false), ("dict", .dict, true)]
theorem tab0_ok : ∀ x ∈ tab0, kitB x.1 (tyS x.2.1) = some x.2.2 := by
  have h : (tab0.all fun x => decide (kitB x.1 (tyS x.2.1) = some x.2.2)) = true := by decide +kernel
  intro x hx
  exact of_decide_eq_true (List.all_eq_true.mp h x hx)
theorem tyX_tup {K : PySem.W.Frag} {H : Hp} {p : Addr} {ys : List V} (h : SqT K H p ys) : TyX K H (.ref p) (.type "tuple") := by
  rcases h with (h | ⟨o, h⟩) | ⟨o, its, n, h, hc, _⟩
  · exact .base (.tup h)
  · exact .fTuple h
  · exact .kTuple h hc
theorem tyX_lst {K : PySem.W.Frag} {H : Hp} {p : Addr} {ys : List V} (h : SqL K H p ys) : TyX K H (.ref p) (.type "list") := by
  rcases h with (h | ⟨o, h⟩) | ⟨o, its, n, h, hc, _⟩
  · exact .base (.lst h)
  · exact .base (.frz h)
  · exact .kList h hc
theorem isT_ok {K : PySem.W.Frag} {ρ : Nat → Addr} {st : Store} {H : Hp} {v : MV} {x : V} (S : Sim K ca ρ st H) (r : Rv K ρ st.next H v x) : ∀ (c : TN) (k : Bool), isT st v c = some k → ∃ t, TyX K H x (.type t) ∧ ∀ (c : TN) (k : Bool), isT st v c = some k → PySem.W.kitOne K (.type t) (.type (tyS c)) = some k := by
  intro c0 k0 h0
  have go : ∀ t, TyX K H x (.type t) → (∀ (c : TN) (k : Bool), isT st v c = some k → (t, c, k) ∈ tab0) → ∃ t, TyX K H x (.type t) ∧ ∀ (c : TN) (k : Bool), isT st v c = some k → PySem.W.kitOne K (.type t) (.type (tyS c)) = some k :=
    fun t ht hh => ⟨t, ht, fun c k h => kit_ty (tab0_ok _ (hh c k h))⟩
  cases r with
  | non => exact go "NoneType" (.base .non) fun c k h => by cases c <;> cases h <;> decide
  | bl b => exact go "bool" (.base (.bl _)) fun c k h => by cases c <;> cases h <;> decide
  | int i => exact go "int" (.base (.int _)) fun c k h => by cases c <;> cases h <;> decide
  | str z => exact go "str" (.base (.str _)) fun c k h => by cases c <;> cases h <;> decide
  | tup hp hr => exact go "tuple" (tyX_tup hp) fun c k h => by cases c <;> cases h <;> decide
  | scr hp hr => exact go "list" (tyX_lst hp.sq) fun c k h => by cases c <;> cases h <;> decide
  | @ref n hn =>
    cases e0 : st.get n with
    | none =>
      simp only [isT, e0] at h0
      cases h0
    | some o =>
      obtain ⟨u, hu, ro⟩ := S.at hn e0
      cases ro with
      | lst hr => exact go "list" (.base (.lst hu)) fun c k h => by simp only [isT, e0] at h; cases c <;> cases h <;> decide
      | dK hr => exact go "dict" (.base (.dK hu)) fun c k h => by simp only [isT, e0] at h; cases c <;> cases h <;> decide
      | dF _ =>
        simp only [isT, e0] at h0
        cases h0
      | ins _ =>
        simp only [isT, e0] at h0
        cases h0
/-- a built-in class's name -/
structure TyNm (X : Cx) (c : Expr) (t : TN) : Prop where
  pe : PE X c (tC (.ty (tyS t)))
theorem tyNm {x : Str} {t : TN} {p : Pos} (hg : Gl X x) (hm : X.mg x = none) (hv : bootBuiltins x = some (.type (tyS t))) (hn : x ≠ "__name__" := by decide) (hd : (x == ("__debug__" : Str)) = false := by decide) : TyNm X (.Name x p) t :=
  ⟨pe_bltn hg hm hv rfl hn hd⟩
theorem s_isi {p : Pos} {c : Expr} {t : TN} (hg : Gl X "isinstance") (hm : X.mg "isinstance" = none) (ha : PE X a (rE X.K ca Γ d ma)) (hc : TyNm X c t) (na : ns a = true := by rfl) (nc : ns c = true := by rfl) : PE X (.Call (.Name "isinstance" p) [a, c] [] pos) (rE X.K ca Γ d (.bi (.isi [t]) [ma])) := by
  refine PE.wk (pe_callB call_isi hg hm (by decide +kernel) (pa_cons ha (pa_cons hc.pe pa_nil (star_cons nc)) (star_cons na)) (by decide) (by decide) (star_cons na) (star_any (by rw [List.all_cons, nc]; rfl))) fun σ H Q q => ?_
  obtain ⟨n, ρ, st, env, S, L, v, st', he, k⟩ := q
  cases n with
  | zero => cases he
  | succ n =>
    have he : ((ev Γ n d).a [ma] env st).bind (fun vs st => biV (.isi [t]) vs st) = .ok v st' := he
    obtain ⟨xs, st1, e1, e2⟩ := Res.bind_ok he
    cases n with
    | zero => cases e1
    | succ n =>
      have e1 : ((ev Γ n d).e ma env st).bind (fun v st => ((ev Γ n d).a [] env st).bind fun vs st => .ok (v :: vs) st) = .ok xs st1 := e1
      obtain ⟨x, st2, e3, e4⟩ := Res.bind_ok e1
      cases n with
      | zero => cases e3
      | succ n =>
        cases e4
        refine ⟨n + 1, ρ, st, env, S, L, x, st1, e3, fun ρ1 H1 xv F1 S1 R1 => ?_⟩
        have e5 : (match isTs st1 x [t] with
          | some k => Res.ok (MV.bl k) st1
          | none => .stuck) = .ok v st' := e2
        cases e6 : isT st1 x t with
        | none =>
          have : isTs st1 x [t] = none := by unfold isTs; rw [e6]
          rw [this] at e5; cases e5
        | some q =>
          have e7 : isTs st1 x [t] = some q := by unfold isTs; rw [e6]; cases q <;> rfl
          rw [e7] at e5
          cases e5
          obtain ⟨ty, h1, h2⟩ := isT_ok S1 R1 t q e6
          exact ⟨xv, .ty (tyS t), .type ty, .type (tyS t), q, rfl, .ty _, h1, h2 t q e6, k ρ1 H1 _ F1 S1 (.bl _)⟩
/-! ### methods of lists -/
theorem isLst_rv {K : PySem.W.Frag} {ρ : Nat → Addr} {st : Store} {H : Hp} {v : MV} {x : V} (S : Sim K ca ρ st H) (r : Rv K ρ st.next H v x) (h : isLst st v = true) : ∃ n xs ys, v = .ref n ∧ n < st.next ∧ st.get n = some (.lst xs) ∧ x = .ref (ρ n) ∧ H (ρ n) = some (.lst ys) ∧ RvL K ρ st.next H xs ys := by
  cases r with
  | @ref n hn =>
    have h' : (match st.get n with
      | some (.lst _) => true
      | _ => false) = true := h
    cases e0 : st.get n with
    | none => rw [e0] at h'; cases h'
    | some o =>
      rw [e0] at h'
      obtain ⟨u, hu, ro⟩ := S.at hn e0
      cases ro with
      | lst hr => exact ⟨n, _, _, rfl, hn, e0, rfl, hu, hr⟩
      | dK _ => cases h'
      | dF _ => cases h'
      | ins _ => cases h'
  | _ => cases h
theorem s_pop {apos : Pos} {o : Expr} {mo : ME} (ho : PE X o (rE X.K ca Γ d mo)) (hbase : attributeBase o "pop" X.env (eval o X.env) = eval o X.env := by rfl) (hline : (apos.endLine == pos.line) = true := by rfl) :
    PE X (.Call (.Attribute o "pop" apos) [] [] pos) (rE X.K ca Γ d (.meth .pop mo [])) :=
  PE.wk (pe_bm0 PySem.F.plainAttrs_list PySem.F.slot_list_pop PySem.F.type_list_pop mt_pop ho hbase hline) fun σ H Q q => by
    obtain ⟨n, ρ, st, env, S, L, v, st', he, k⟩ := q
    cases n with
    | zero => cases he
    | succ n =>
      have he : ((ev Γ n d).e mo env st).bind (fun x st => if isLst st x = true then ((ev Γ n d).a [] env st).bind fun vs st => methV .pop x vs st else .stuck) = .ok v st' := he
      obtain ⟨x, st1, e1, e2⟩ := Res.bind_ok he
      refine ⟨n, ρ, st, env, S, L, x, st1, e1, fun ρ1 H1 xv F1 S1 R1 => ?_⟩
      split at e2
      · rename_i hl
        obtain ⟨a, xs, ys, rfl, hn, e0, rfl, hu, hr⟩ := isLst_rv S1 R1 hl
        cases n with
        | zero => cases e1
        | succ n =>
          have e3 : (match st1.get a with
            | some (.lst xs) => match xs[xs.length - 1]? with
              | some v => Res.ok v (st1.set a (.lst xs.dropLast))
              | none => .stuck
            | _ => .stuck) = .ok v st' := e2
          rw [e0] at e3
          simp only at e3
          split at e3
          · rename_i w ew
            cases e3
            obtain ⟨z, hz, rz⟩ := hr.get ew
            refine ⟨.inl ⟨rfl, ys, SqL.of hu⟩, ρ1 a, ys, z, rfl, rfl, hu, by rw [← hr.length]; exact hz, ?_⟩
            exact k ρ1 _ z (F1.trans (Fut.write S1 hn hu (fun _ _ z => nomatch z))) (Sim.write S1 hn (.lst hr.dropLast)) ((Fu.write S1 hn).rv S1 rz)
          · cases e3
      · cases e2
theorem s_append {apos : Pos} {o : Expr} {mo : ME} (ho : PE X o (rE X.K ca Γ d mo)) (ha : PA X [a] (rA X.K ca Γ d [ma])) (hbase : attributeBase o "append" X.env (eval o X.env) = eval o X.env := by rfl) (na : ns a = true := by rfl) (hline : (apos.endLine == pos.line) = true := by rfl) :
    PE X (.Call (.Attribute o "append" apos) [a] [] pos) (rE X.K ca Γ d (.meth .append mo [ma])) :=
  PE.wk (pe_bm PySem.F.plainAttrs_list PySem.F.slot_list_append PySem.F.type_list_append mt_append ho ha hbase (by rw [star_all (by rw [List.all_cons, na]; rfl)]; rfl) hline (star_cons na) rfl) fun σ H Q q => by
    obtain ⟨n, ρ, st, env, S, L, v, st', he, k⟩ := q
    cases n with
    | zero => cases he
    | succ n =>
      have he : ((ev Γ n d).e mo env st).bind (fun x st => if isLst st x = true then ((ev Γ n d).a [ma] env st).bind fun vs st => methV .append x vs st else .stuck) = .ok v st' := he
      obtain ⟨x, st1, e1, e2⟩ := Res.bind_ok he
      refine ⟨n, ρ, st, env, S, L, x, st1, e1, fun ρ1 H1 xv F1 S1 R1 => ?_⟩
      split at e2
      · rename_i hl
        obtain ⟨a', xs, ys, rfl, hn, e0, rfl, hu, hr⟩ := isLst_rv S1 R1 hl
        obtain ⟨vs, st2, e3, e4⟩ := Res.bind_ok e2
        refine ⟨.inl ⟨rfl, ys, SqL.of hu⟩, n, ρ1, st1, env, S1, F1.slots S L, vs, st2, e3, fun ρ2 H2 zs F2 S2 R2 => ?_⟩
        cases R2 with
        | nil => cases e4
        | @cons w z ws zs r t =>
          cases t with
          | cons _ _ => cases e4
          | nil =>
            have e5 : (match st2.get a' with
              | some (.lst xs) => if xs.length < sizeLine then Res.ok MV.non (st2.set a' (.lst (xs ++ [w]))) else .stuck
              | _ => .stuck) = .ok v st' := e4
            have hn2 : a' < st2.next := Nat.lt_of_lt_of_le hn F2.le
            cases e6 : st2.get a' with
            | none => rw [e6] at e5; cases e5
            | some o2 =>
              rw [e6] at e5
              obtain ⟨u2, hu2, ro2⟩ := S2.at hn2 e6
              cases ro2 with
              | @lst xs2 ys2 hr2 =>
                simp only at e5
                split at e5
                · cases e5
                  refine ⟨ρ2 a', ys2, z, by rw [F2.agr _ hn], rfl, hu2, by rw [← hr2.length]; assumption, ?_⟩
                  exact k ρ2 _ .non ((F1.trans F2).trans (Fut.write S2 hn2 hu2 (fun _ _ z => nomatch z))) (Sim.write S2 hn2 (.lst (hr2.append (.cons r .nil)))) .non
                · cases e5
              | dK _ => cases e5
              | dF _ => cases e5
              | ins _ => cases e5
      · cases e2
end
end MP

set_option Elab.async false
set_option linter.all false
set_option maxRecDepth 100000
set_option maxHeartbeats 4000000
namespace MP
open PySem PySem.Spec PyProof.Rows L2

theorem difs_le (xs : List Str) : ∀ i, difs xs i ≤ i
  | 0 => Nat.le_refl 0
  | i + 1 => by
    have h := difs_le xs i
    unfold difs
    split <;> omega
theorem seen_step {xs : List Str} {i : Nat} (hi : i < xs.length) (k : Str) : (seen xs i k || decide (k = xs.getD i Str.empty)) = seen xs (i + 1) k := by
  unfold seen
  have e : xs.getD i Str.empty = xs[i] := by simp [List.getD_eq_getElem?_getD, List.getElem?_eq_getElem hi]
  rw [e, List.take_add_one, List.getElem?_eq_getElem hi, List.any_append]
  congr 1
  by_cases c : k = xs[i]
  · subst c; simp
  · have hb : (xs[i] == k) = false := beq_eq_false_iff_ne.mpr fun e => c e.symm
    simp [c, hb]
section
variable {prog : Program} {w : World} {A : Around} {R : Result → Shared → Prop} {I S : Addr} {fp wr : List Addr} {G : Array GenState → Array GenState → Prop} {P : Nat → Value → Prop} {St : Nat → Shared → Prop} {xs : List Str}
theorem at_of {a : Addr} {h h' : Heap} {T : Str → Bool} {c : Nat} (hS : h.SetOf (PySem.strKind prog w) a T c) (k : ∀ o, h.get? a = some o → h'.get? a = some o) : h'.SetOf (PySem.strKind prog w) a T c := by
  obtain ⟨o, es, ep, t, ho, r⟩ := hS
  exact ⟨o, es, ep, t, k o ho, r⟩
/-- the loop that fills a set with the texts of a walk: left ones first -/
theorem fill (W : WalksS prog w A.in1 I fp wr G xs.length P St) (hSf : S ∉ fp) (hb : xs.length + 1 < scanBound) (hval : ∀ i v, P i v → ∃ t, v = .str (xs.getD i Str.empty) t)
    (left : Nat) : ∀ (i : Nat) (s : Shared), i + left = xs.length → St i s → s.heap.SetOf (PySem.strKind prog w) S (seen xs i) (difs xs i) →
      (∀ s', Moved (S :: wr) G s s' → s'.heap.SetOf (PySem.strKind prog w) S (seen xs xs.length) (difs xs xs.length) → R (.ok (.ret .none)) s') →
      codeAny (model prog w) A (.builtin "set.update.loop" ⟨[.ref S, .ref I], []⟩) R s := by
  have hSw : S ∉ wr := fun h => hSf (W.sub _ h)
  have up : ∀ b ∈ wr, b ∈ S :: wr := fun b hb => List.mem_cons_of_mem _ hb
  induction left with
  | zero =>
    intro i s e hst hS hR
    obtain rfl : i = xs.length := by omega
    refine codeAny_builtin F.entry_set_update_loop ?_
    rw [Around.under_plainId F.plain_set_update_loop _]
    show wpAny _ A.in1 (pyNext (.ref I) >>= _) _ _ s
    exact wpAny_bind (W.done s _ _ hst fun s' hm => wpAny_pure (hR s' (hm.mono up) (at_of hS fun o e => hm.heap S o hSw e)))
  | succ left ih =>
    intro i s e hst hS hR
    have hlt : i < xs.length := by omega
    refine codeAny_builtin F.entry_set_update_loop ?_
    rw [Around.under_plainId F.plain_set_update_loop _]
    show wpAny _ A.in1 (pyNext (.ref I) >>= _) _ _ s
    refine wpAny_bind (W.item i s _ _ hlt hst fun v s' hP hst' hm => ?_)
    obtain ⟨t, rfl⟩ := hval i v hP
    show wpAny _ A.in1 (holding [Value.str (xs.getD i Str.empty) t] (setAdd S (.str (xs.getD i Str.empty) t)) >>= _) _ _ s'
    refine wpAny_bind (wpAny_holding ?_)
    unfold setAdd
    refine wpAny_holding (wpAny_bind ((PySem.strKind prog w).pyHash (k := xs.getD i Str.empty) (strKind_is _ _ _ _) ?_))
    have room : difs xs i + 1 < scanBound := by have := difs_le xs i; omega
    refine wpAny_setAddHashed_of (knd := PySem.strKind prog w) (s := { s' with toks := s'.toks + 1 }) (strKind_is _ _ _ _) rfl (at_of hS fun o e => hm.heap S o hSw e) room fun h' sb hS2 => ?_
    refine wpAny_pure ⟨plainId_quiet F.plain_set_update_loop _, ih (i + 1) _ (by omega) (W.frame _ s' _ _ hst' (Nat.le_succ _) fun b hb o e => ?_) (SetOf_congr hS2 (fun k => seen_step hlt k) rfl) fun s'' hm'' hS'' => hR s'' (Moved.trans W.gtrans ((hm.mono up).then_heap (Nat.le_succ _) fun b o hb e => ?_) hm'') hS''⟩
    · exact (sb.2 b (fun h : b = S => hSf (h ▸ hb))).trans e
    · exact (sb.2 b (fun h : b = S => hb (by rw [h]; exact List.mem_cons_self))).trans e
end
end MP

set_option Elab.async false
set_option linter.all false
set_option maxRecDepth 100000
set_option maxHeartbeats 4000000
namespace MP
open PySem PySem.Spec PyProof.Rows L2
section
variable {prog : Program} {w : World} {A : Around} {E : Value → Shared → Prop} {s : Shared} {xs : List Str}
/-- a set just made -/
def freshSet (led : Bool) : Obj := { cls := .type "set", dict := none, data := .set #[] 0 (.fresh 0 0 led) }
/-- what set(t) leaves: the set at a, all else kept -/
def Filled (prog : Program) (w : World) (s : Shared) (xs : List Str) (h' : Heap) : Prop :=
  h'.SetOf (PySem.strKind prog w) s.heap.objs.size (seen xs xs.length) (difs xs xs.length) ∧ ∀ b o, s.heap.get? b = some o → h'.get? b = some o
/-- set(t) of a tuple of texts -/
theorem call_set_texts {l : Addr} {its : Array Value} {Q : Value → Shared → Prop} (hh : A.handled = none) (hl : s.heap.IsTuple l its) (hi : StrsAre its.toList xs) (hb : xs.length + 1 < scanBound)
    (h : ∀ h' tk, Filled prog w s xs h' → Q (.ref s.heap.objs.size) { s with heap := h', toks := tk }) :
    wpAny (model prog w) A (call (.type "set") [.ref l]) Q E s := by
  have hn : its.size = xs.length := by rw [← StrsAre.len_eq hi, Array.length_toList]
  obtain ⟨c, tl, hmro⟩ := PySem.F.called_set.mro
  have hmade := PySem.F.called_set.made
  have hsub := PySem.F.called_set.sub
  have h1 := PySem.F.called_set.notType
  have h2 := PySem.F.called_set.canCreate
  have hct := PySem.F.typeCall_set_1 (.ref l)
  refine wpAny_call (codeAny_of_tree ?_)
  show wpAny _ _ (callAny (.type "set") _) _ _ _
  refine wpAny_pure ⟨Code.quiet_builtin _ (by decide +kernel), codeAny_builtin PySem.F.entry_type_call ?_⟩
  rw [Around.under_plain (weight_type_call_type "set" [.ref l] []) rfl]
  repeat (any_goals (first | assumption | wp_step))
  refine codeAny_mono (code_set_new_1 (.ref l) (E := E) (Q₁ := fun obj s₁ => ∃ led : Bool, obj = .ref s.heap.objs.size ∧ s₁ = { s with heap := s.heap.push (freshSet led) }) fun led => ⟨led, rfl, rfl⟩) fun r s₁ hr => ?_
  match r, hr with
  | .error _, hr => exact hr
  | .ok (.ret _), ⟨led, e1, e2⟩ =>
    subst e1 e2
    have at0 : (s.heap.push (freshSet led)).get? s.heap.objs.size = some (freshSet led) := Heap.get?_push_size _ rfl
    have isSet : Shared.TypeIs { s with heap := s.heap.push (freshSet led) } (.ref s.heap.objs.size) "set" := ⟨_, at0, rfl⟩
    have hli := PySem.F.called_set.init.lookup
    have hbi := PySem.F.called_set.init.bind (.ref s.heap.objs.size)
    repeat (any_goals (first | assumption | wp_step))
    refine codeAny_mono (codeAny_call_builtin (R := wants (fun r s₂ => r = .none ∧ ∃ h' tk, s₂ = { s with heap := h', toks := tk } ∧ Filled prog w s xs h') E) PySem.F.called_set.init.plain PySem.F.entry_set_init (check_set_init_1 isSet ?_)) fun r₂ s₂ hr₂ => ?_
    · have hsls := PySem.F.sub_tuple_set
      have hslf := PySem.F.sub_tuple_frozenset
      have hne : (Value.type "tuple" == Value.type "dict") = false := by decide
      obtain ⟨⟨oc, od, oda, osl⟩, hol, hcl, nl, hdl⟩ := hl
      simp only at hcl hdl
      subst hcl hdl
      have hol' : (s.heap.push (freshSet led)).get? l = some { cls := .type "tuple", dict := od, data := .seq its nl, slots := osl } := Heap.get?_push_of_some _ hol
      have isTup : (s.heap.push (freshSet led)).IsTuple l its := ⟨_, hol', rfl, nl, rfl⟩
      have ll : l < s.heap.objs.size := Heap.lt_size hol
      have sz : (s.heap.push (freshSet led)).objs.size = s.heap.objs.size + 1 := Heap.size_push ..
      unfold Builtin.«set.__init__» noKeywords Builtin.Frozenset.updateFrom
      generalize hPI : pyIter = PI
      wp_walk
      subst hPI
      refine wpAny_pyIter_tuple isTup (wpAny_bind (wpAny_runValue ?_))
      have quiet : A.in1.in1.in1.handled = none := by simp [hh]
      have l1 : l ≠ (s.heap.push (freshSet led)).objs.size := by rw [sz]; exact Nat.ne_of_lt (Nat.lt_succ_of_lt ll)
      have off : s.heap.objs.size ∉ [(s.heap.push (freshSet led)).objs.size, l] := by
        rw [sz]
        simp only [List.mem_cons, List.not_mem_nil, or_false, not_or]
        exact ⟨Nat.ne_of_lt (Nat.lt_succ_self _), Nat.ne_of_gt ll⟩
      have W := (Walks.tuple (prog := prog) (w := w) quiet _ l l1 its).toS
      rw [hn] at W
      refine fill W off hb (fun i v hv => SS.strs_at hi i v (by rw [Array.getElem?_toList]; exact hv)) xs.length 0 _ (Nat.zero_add _) ⟨⟨_, Heap.get?_push_size _ rfl, rfl, rfl⟩, isTup.push _⟩ ?_ ?_
      · exact SetOf_congr ((setObjOf_fresh (knd := PySem.strKind prog w) led).setOf (Heap.get?_push_of_some _ at0) (by decide)) (fun _ => rfl) rfl
      · intro s' hm hS'
        obtain ⟨h', g', d', tk', os'⟩ := s'
        obtain rfl : g' = s.gens := hm.gens
        obtain rfl : d' = s.drawn := hm.drawn
        obtain rfl : os' = s.os := hm.os
        refine wpAny_pure (wpAny_pure ⟨rfl, h', tk', rfl, hS', fun b o e => ?_⟩)
        have lb : b < s.heap.objs.size := Heap.lt_size e
        refine hm.heap b o ?_ (Heap.get?_push_of_some _ (Heap.get?_push_of_some _ e))
        rw [sz]
        simp only [List.mem_cons, List.not_mem_nil, or_false, not_or]
        exact ⟨Nat.ne_of_lt lb, Nat.ne_of_lt (Nat.lt_succ_of_lt lb)⟩
    · match r₂, hr₂ with
      | .error _, hr₂ => exact hr₂
      | .ok (.ret _), ⟨e1, h', tk, e2, f⟩ =>
        subst e1 e2
        repeat (any_goals (first | assumption | wp_step))
        exact h _ _ f
end
end MP

set_option Elab.async false
set_option linter.all false
set_option maxRecDepth 100000
set_option maxHeartbeats 4000000
namespace MP
open PySem PySem.Spec PyProof.Rows L2
section
variable {X : Cx} {ca : Cls0} {Γ : Tab} {d : Nat} {a : Expr} {ma : ME} {p p2 q pos : Pos}
/-- len(set(t)), t a tuple of texts -/
def rLens (K : PySem.W.Frag) : List V → Hp → VK → Prop := fun xs H Q => ∃ l zs, xs = [V.ref l] ∧ SqT K H l (zs.map V.str) ∧ zs.length ≤ 1000 ∧ Q (.int (difs zs zs.length)) H
theorem pe_lens {ta : TA} (hc : X.calm = true) (hg : Gl X "len") (hm : X.mg "len" = none) (hg2 : Gl X "set") (hm2 : X.mg "set" = none) (ha : PA X [a] ta) (na : ns a = true) :
    PE X (.Call (.Name "len" p) [.Call (.Name "set" p2) [a] [] q] [] pos) (tCB (rLens X.K) ta) := by
  refine ⟨fun pins s σ H Q I h => ?_⟩
  refine Call_ (ld_blt I hg hm boot_len (callWith_builtin1 (args_cons ?_ rfl) rfl rfl))
  refine Call_ (ld_blt I hg2 hm2 PyProof.Rows.boot_set (callWith_type1 (thn (ha.run q pins s σ H _ I h) fun us s1 ⟨vs, H1, I1, r1, q1⟩ => ?_) (star_cons na) rfl))
  obtain ⟨l, zs, rfl, ht, hl, k⟩ := q1
  obtain ⟨u, rfl, ru⟩ := vals1 r1
  obtain rfl : u = Value.ref l := ru
  obtain ⟨its, r, pt, hz⟩ := I1.tuple ht
  refine call_set_texts (xs := zs) (I1.ok.hd hc) (show s1.heap.IsTuple l its.toArray from pt) (by simpa using strsAre_of r) (by unfold scanBound; omega) fun h' tk f => args_nil ?_
  obtain ⟨⟨o, es, ep, t, ho, hex, hd, _, _, _, hf, hn⟩, keep⟩ := f
  have I2 : Inv X pins σ H1 { s1 with heap := h', toks := tk } := I1.kept keep
  have small := difs_le zs zs.length
  exact call_len_set ho hex hd hf (by rw [hn]; omega) ⟨.int (difs zs zs.length), H1, I2.tok _, ⟨_, by rw [hn]⟩, k⟩
theorem s_lens (hc : X.calm = true) (hg : Gl X "len") (hm : X.mg "len" = none) (hg2 : Gl X "set") (hm2 : X.mg "set" = none) (ha : PA X [a] (rA X.K ca Γ d [ma])) (na : ns a = true := by rfl) :
    PE X (.Call (.Name "len" p) [.Call (.Name "set" p2) [a] [] q] [] pos) (rE X.K ca Γ d (.bi .lens [ma])) :=
  eA_wk (pe_lens hc hg hm hg2 hm2 ha na) (fun _ _ _ => rfl) fun ρ st H x xv v st' Q h S hx c => by
    cases hx with
    | nil => cases h
    | cons h1 t =>
      cases t with
      | cons _ _ => cases h1 <;> cases h
      | nil =>
        cases h1 with
        | @tup l ys xs hp hr =>
          have h' : (match txtsV xs with
            | some zs => if zs.length ≤ 1000 then Res.ok (MV.int (difs zs zs.length)) st else .stuck
            | none => .stuck) = .ok v st' := h
          cases e0 : txtsV xs with
          | none => rw [e0] at h'; cases h'
          | some zs =>
            rw [e0] at h'
            simp only at h'
            split at h'
            · cases h'
              obtain rfl := txts_rv e0 hr
              exact ⟨l, zs, rfl, hp, by assumption, c.here S (.int _)⟩
            · cases h'
        | _ => cases h
end
end MP

set_option Elab.async false
set_option linter.all false
set_option maxRecDepth 100000
set_option maxHeartbeats 4000000
namespace MP
open PySem PySem.Spec PyProof.Rows L2

/-! ### what is walked -/
/-- J goes as the turns wf tell, from now on -/
def IterP (K : PySem.W.Frag) (ca : Cls0) (J : It) (wf : Nat → Itv) (ρ : Nat → Addr) (st : Store) (H : Hp) : Prop :=
  ∀ i ρ' st' H', Fut ρ st.next H ρ' st'.next H' → Sim K ca ρ' st' H' → match (wf i).next st' with
    | none => True
    | some none => J.stop i H'
    | some (some (v, w')) => w' = wf (i + 1) ∧ J.go i H' ∧ ∀ x H'', J.yld i H' x H'' → Fut ρ' st'.next H' ρ' st'.next H'' ∧ Sim K ca ρ' st' H'' ∧ Rv K ρ' st'.next H'' v x
def rI (K : PySem.W.Frag) (ca : Cls0) (Γ : Tab) (d : Nat) (m : MI) : TI := fun σ H R =>
  ∃ (n : Nat) (ρ : Nat → Addr) (st : Store) (env : Env), Sim K ca ρ st H ∧ SlotsR K ρ st.next H env σ ∧ ∃ w st', (ev Γ n d).i m env st = .ok w st' ∧
    ∀ ρ' H' J wf, Fut ρ st.next H ρ' st'.next H' → Sim K ca ρ' st' H' → wf 0 = w → IterP K ca J wf ρ' st' H' → R J H'
theorem PI.wk {X : Cx} {tg iter : Expr} {w w' : TI} (h : PI X tg iter w) (k : ∀ σ H R, w' σ H R → w σ H R) : PI X tg iter w' := ⟨fun pins s σ H R I q => h.run pins s σ H R I (k σ H R q)⟩
theorem PI.or {X : Cx} {tg iter : Expr} {w w' : TI} (h : PI X tg iter w) (h' : PI X tg iter w') : PI X tg iter (fun σ H R => w σ H R ∨ w' σ H R) := ⟨fun pins s σ H R I q => q.elim (h.run pins s σ H R I) (h'.run pins s σ H R I)⟩
section
variable {K : PySem.W.Frag} {ca : Cls0} {ρ : Nat → Addr} {st : Store} {H : Hp}
theorem snap_next (xs : List MV) (i : Nat) (st : Store) : (Itv.snap (xs.drop i)).next st = match xs[i]? with
    | some x => some (some (x, .snap (xs.drop (i + 1))))
    | none => some none := by
  by_cases h : i < xs.length
  · rw [List.getElem?_eq_getElem h, List.drop_eq_getElem_cons h]
    rfl
  · rw [List.getElem?_eq_none (by omega), List.drop_of_length_le (by omega)]
    rfl
/-- a snapshot of what stands at p and stays -/
theorem iter_snap {J : It} {xs : List MV} (f : ∀ i ρ' st' H', Fut ρ st.next H ρ' st'.next H' → Sim K ca ρ' st' H' →
    (∀ x, xs[i]? = some x → J.go i H' ∧ ∀ y H'', J.yld i H' y H'' → H'' = H' ∧ Rv K ρ' st'.next H' x y) ∧ (xs[i]? = none → J.stop i H')) : IterP K ca J (fun i => .snap (xs.drop i)) ρ st H := by
  intro i ρ' st' H' F S
  rw [snap_next]
  obtain ⟨f1, f2⟩ := f i ρ' st' H' F S
  cases e : xs[i]? with
  | none => exact f2 e
  | some x =>
    refine ⟨rfl, (f1 x e).1, fun y H'' hy => ?_⟩
    obtain ⟨e2, r⟩ := (f1 x e).2 y H'' hy
    subst e2
    exact ⟨Fut.refl _ _ _, S, r⟩
end

section
variable {X : Cx} {ca : Cls0} {Γ : Tab} {d : Nat} {a b e tg : Expr} {ma mb m : ME} {pos : Pos}
/-- over a tuple, a list, a text -/
theorem i_seq (ha : PE X a (rE X.K ca Γ d ma)) : PI X tg a (rI X.K ca Γ d (.seq ma)) := by
  refine PI.wk (PI.or (PI.or (pi_list ha) (pi_tup ha)) (pi_str ha)) fun σ H R q => ?_
  obtain ⟨n, ρ, st, env, S, L, w, st', he, k⟩ := q
  cases n with
  | zero => cases he
  | succ n =>
    have he : ((ev Γ n d).e ma env st).bind (fun v st => match v with
      | .tup xs => .ok (.snap xs) st
      | .scr xs => .ok (.snap xs) st
      | .str z => .ok (.snap (signs z)) st
      | .ref n => match st.get n with
        | some (.lst _) => .ok (.live n 0) st
        | _ => .stuck
      | _ => .stuck) = .ok w st' := he
    obtain ⟨v, st1, e1, e2⟩ := Res.bind_ok he
    cases v with
    | tup xs =>
      cases e2
      refine .inl (.inr ⟨n, ρ, st, env, S, L, _, _, e1, fun ρ1 H1 x F1 S1 R1 => ?_⟩)
      cases R1 with
      | @tup p ys _ hp hr =>
        refine ⟨p, rfl, ⟨ys, hp⟩, k ρ1 H1 _ (fun i => .snap (xs.drop i)) F1 S1 rfl (iter_snap fun i ρ' st2 H' F S2 => ⟨fun x e => ?_, fun e => ?_⟩)⟩
        · have hp2 := F.sqT S1 hp
          obtain ⟨y, hy, ry⟩ := (F.rvL S1 hr).get e
          refine ⟨⟨ys, y, hp2, hy⟩, fun z H'' hz => ⟨hz.1, ?_⟩⟩
          have h3 := hz.2 ys hp2
          rw [hy] at h3
          cases h3
          exact ry
        · exact ⟨ys, F.sqT S1 hp, by rw [← hr.length]; exact List.getElem?_eq_none_iff.mp e⟩
    | scr xs =>
      cases e2
      refine .inl (.inl ⟨n, ρ, st, env, S, L, _, _, e1, fun ρ1 H1 x F1 S1 R1 => ?_⟩)
      cases R1 with
      | @scr p ys _ hp hr =>
        refine ⟨p, rfl, ⟨ys, hp.sq⟩, k ρ1 H1 _ (fun i => .snap (xs.drop i)) F1 S1 rfl (iter_snap fun i ρ' st2 H' F S2 => ⟨fun x e => ?_, fun e => ?_⟩)⟩
        · have hp2 := (F.frzL S1 hp).sq
          obtain ⟨y, hy, ry⟩ := (F.rvL S1 hr).get e
          refine ⟨⟨ys, y, hp2, hy⟩, fun z H'' hz => ⟨hz.1, ?_⟩⟩
          have h3 := hz.2 ys hp2
          rw [hy] at h3
          cases h3
          exact ry
        · exact ⟨ys, (F.frzL S1 hp).sq, by rw [← hr.length]; exact List.getElem?_eq_none_iff.mp e⟩
    | str z =>
      cases e2
      refine .inr ⟨n, ρ, st, env, S, L, _, _, e1, fun ρ1 H1 x F1 S1 R1 => ?_⟩
      cases R1 with
      | str z =>
        refine ⟨z, rfl, k ρ1 H1 _ (fun i => .snap ((signs z).drop i)) F1 S1 rfl (iter_snap fun i ρ' st2 H' F S2 => ⟨fun x e => ?_, fun e => ?_⟩)⟩
        · unfold signs at e
          rw [List.getElem?_map] at e
          cases ec : z.cps.toList[i]? with
          | none => rw [ec] at e; cases e
          | some c =>
            rw [ec] at e
            cases e
            have ec2 : z.cps[i]? = some c := by rw [← Array.getElem?_toList]; exact ec
            have hi : i < z.cps.size := by
              have := (List.getElem?_eq_some_iff.mp ec).1
              simpa using this
            refine ⟨hi, fun y H'' hy => ⟨hy.1, ?_⟩⟩
            obtain ⟨_, c', hc, rfl⟩ := hy
            rw [ec2] at hc
            cases hc
            exact .str _
        · have := List.getElem?_eq_none_iff.mp e
          unfold signs at this
          rw [List.length_map, Array.length_toList] at this
          exact this
    | ref a' =>
      have e3 : (match st1.get a' with
        | some (.lst _) => Res.ok (Itv.live a' 0) st1
        | _ => .stuck) = .ok w st' := e2
      cases e0 : st1.get a' with
      | none => rw [e0] at e3; cases e3
      | some o =>
        rw [e0] at e3
        cases o with
        | lst xs =>
          cases e3
          refine .inl (.inl ⟨n, ρ, st, env, S, L, _, _, e1, fun ρ1 H1 x F1 S1 R1 => ?_⟩)
          cases R1 with
          | ref hn =>
            obtain ⟨u, hu, ro⟩ := S1.at hn e0
            cases ro with
            | lst hr =>
              refine ⟨ρ1 a', rfl, ⟨_, SqL.of hu⟩, k ρ1 H1 _ (fun i => .live a' i) F1 S1 rfl ?_⟩
              intro i ρ' st2 H' F S2
              have hn2 := Nat.lt_of_lt_of_le hn F.le
              have e5 : (Itv.live a' i).next st2 = match st2.get a' with
                | some (.lst xs) => some (match xs[i]? with
                  | some x => some (x, .live a' (i + 1))
                  | none => none)
                | _ => none := rfl
              rw [e5]
              cases e6 : st2.get a' with
              | none => trivial
              | some o2 =>
                cases o2 with
                | dK _ => trivial
                | dF _ => trivial
                | ins _ _ => trivial
                | lst xs2 =>
                  obtain ⟨u2, hu2, ro2⟩ := S2.at hn2 e6
                  rw [F.agr _ hn] at hu2
                  cases ro2 with
                  | @lst _ ys2 hr2 =>
                    simp only
                    cases e7 : xs2[i]? with
                    | none => exact ⟨ys2, SqL.of hu2, by rw [← hr2.length]; exact List.getElem?_eq_none_iff.mp e7⟩
                    | some x =>
                      obtain ⟨y, hy, ry⟩ := hr2.get e7
                      refine ⟨rfl, ⟨ys2, y, SqL.of hu2, hy⟩, fun z H'' hz => ?_⟩
                      obtain ⟨rfl, hz⟩ := hz
                      have h3 := hz ys2 (SqL.of hu2)
                      rw [hy] at h3
                      cases h3
                      exact ⟨Fut.refl _ _ _, S2, ry⟩
        | dK _ => cases e3
        | dF _ => cases e3
        | ins _ _ => cases e3
    | _ => cases e2
/-- enumerate(list) -/
theorem i_enum {p tpos : Pos} {elts : List Expr} {kk : Nat} (hg : Gl X "enumerate") (hm : X.mg "enumerate" = none) (ha : PE X a (rE X.K ca Γ d ma)) (na : ns a = true := by rfl) : PI X (.Tuple elts kk tpos) (.Call (.Name "enumerate" p) [a] [] pos) (rI X.K ca Γ d (.enum ma)) := by
  refine PI.wk (pi_enum hg hm (pa_cons ha pa_nil (star_cons na)) (star_cons na)) fun σ H R q => ?_
  obtain ⟨n, ρ, st, env, S, L, w, st', he, k⟩ := q
  cases n with
  | zero => cases he
  | succ n =>
    have he : ((ev Γ n d).e ma env st).bind (fun v st => match v with
      | .ref n => match st.get n with
        | some (.lst _) => .ok (.enum n 0) st
        | _ => .stuck
      | _ => .stuck) = .ok w st' := he
    obtain ⟨v, st1, e1, e2⟩ := Res.bind_ok he
    refine ⟨n, ρ, st, env, S, L, _, _, e1, fun ρ1 H1 x F1 S1 R1 => ?_⟩
    cases R1 with
    | @ref a' hn =>
      have e3 : (match st1.get a' with
        | some (.lst _) => Res.ok (Itv.enum a' 0) st1
        | _ => .stuck) = .ok w st' := e2
      cases e0 : st1.get a' with
      | none => rw [e0] at e3; cases e3
      | some o =>
        rw [e0] at e3
        obtain ⟨u, hu, ro⟩ := S1.at hn e0
        cases ro with
        | dK _ => cases e3
        | dF _ => cases e3
        | ins _ => cases e3
        | @lst xs ys hr =>
          cases e3
          refine ⟨ρ1 a', ys, rfl, SqL.of hu, k ρ1 H1 _ (fun i => .enum a' i) F1 S1 rfl ?_⟩
          intro i ρ' st2 H' F S2
          have hn2 := Nat.lt_of_lt_of_le hn F.le
          have e5 : (Itv.enum a' i).next st2 = match st2.get a' with
            | some (.lst xs) => some (match xs[i]? with
              | some x => some (.tup [.int (i : Nat), x], .enum a' (i + 1))
              | none => none)
            | _ => none := rfl
          rw [e5]
          cases e6 : st2.get a' with
          | none => trivial
          | some o2 =>
            cases o2 with
            | dK _ => trivial
            | dF _ => trivial
            | ins _ _ => trivial
            | lst xs2 =>
              obtain ⟨u2, hu2, ro2⟩ := S2.at hn2 e6
              rw [F.agr _ hn] at hu2
              cases ro2 with
              | @lst _ ys2 hr2 =>
                simp only
                cases e7 : xs2[i]? with
                | none => exact ⟨ys2, SqL.of hu2, by rw [← hr2.length]; exact List.getElem?_eq_none_iff.mp e7⟩
                | some x =>
                  obtain ⟨y, hy, ry⟩ := hr2.get e7
                  refine ⟨rfl, ⟨ys2, y, SqL.of hu2, hy⟩, fun z H'' hz => ?_⟩
                  obtain ⟨T, y', rfl, hT, rfl, hz⟩ := hz
                  have h3 := hz ys2 (SqL.of hu2)
                  rw [hy] at h3
                  cases h3
                  exact ⟨Fut.grow S2 hT, Sim.grow S2 hT, .tup (SqT.of upd_same) (.cons (.int _) (.cons ((Fut.grow S2 hT).rv S2 ry) .nil))⟩
    | _ => cases e2
/-- over a list that was just made -/
theorem i_tmp (ha : PE X a (rF X.K ca Γ d ma)) : PI X tg a (rI X.K ca Γ d (.tmp ma)) := by
  refine PI.wk (pi_list ha) fun σ H R q => ?_
  obtain ⟨n, ρ, st, env, S, L, w, st', he, k⟩ := q
  cases n with
  | zero => cases he
  | succ n =>
    have he : ((ev Γ n d).l ma env st).bind (fun xs st => .ok (.snap xs) st) = .ok w st' := he
    obtain ⟨xs, st1, e1, e2⟩ := Res.bind_ok he
    cases e2
    refine ⟨n, ρ, st, env, S, L, xs, _, e1, fun ρ1 H1 p ys F1 S1 _ hp hx hr => ?_⟩
    refine ⟨p, rfl, ⟨ys, SqL.of hp⟩, k ρ1 H1 _ (fun i => .snap (xs.drop i)) F1 S1 rfl (iter_snap fun i ρ' st2 H' F S2 => ⟨fun x e => ?_, fun e => ?_⟩)⟩
    · have hp2 : SqL X.K H' p ys := SqL.of (F.fr p _ hp hx).1
      obtain ⟨y, hy, ry⟩ := (F.rvL S1 hr).get e
      refine ⟨⟨ys, y, hp2, hy⟩, fun z H'' hz => ⟨hz.1, ?_⟩⟩
      have h3 := hz.2 ys hp2
      rw [hy] at h3
      cases h3
      exact ry
    · exact ⟨ys, SqL.of (F.fr p _ hp hx).1, by rw [← hr.length]; exact List.getElem?_eq_none_iff.mp e⟩
theorem rngV_get (lo : Int) (m : Nat) : ∀ i, (rngV lo m)[i]? = if i < m then some (MV.int (lo + (i : Nat))) else none := by
  induction m generalizing lo with
  | zero => intro i; simp [rngV]
  | succ m ih =>
    intro i
    cases i with
    | zero => simp [rngV]
    | succ i =>
      show (rngV (lo + 1) m)[i]? = _
      rw [ih (lo + 1) i]
      by_cases h : i < m
      · rw [if_pos h, if_pos (show i + 1 < m + 1 by omega)]
        congr 2
        omega
      · rw [if_neg h, if_neg (show ¬ i + 1 < m + 1 by omega)]
theorem iter_rng {K : PySem.W.Frag} {ρ : Nat → Addr} {st : Store} {H : Hp} (lo : Int) (m : Nat) : IterP K ca (Itr lo m) (fun i => .snap ((rngV lo m).drop i)) ρ st H := by
  refine iter_snap fun i ρ' st2 H' F S2 => ⟨fun x e => ?_, fun e => ?_⟩
  · rw [rngV_get] at e
    split at e
    · rename_i h
      cases e
      refine ⟨h, fun y H'' hy => ⟨hy.1, ?_⟩⟩
      obtain ⟨_, rfl⟩ := hy
      exact .int _
    · cases e
  · rw [rngV_get] at e
    split at e
    · cases e
    · rename_i h
      show m ≤ i
      omega
theorem i_rng1 {p : Pos} (hg : Gl X "range") (hm : X.mg "range" = none) (ha : PE X a (rE X.K ca Γ d ma)) (na : ns a = true := by rfl) : PI X tg (.Call (.Name "range" p) [a] [] pos) (rI X.K ca Γ d (.rng1 ma)) := by
  refine PI.wk (pi_range1 hg hm (pa_cons ha pa_nil (star_cons na)) (star_cons na)) fun σ H R q => ?_
  obtain ⟨n, ρ, st, env, S, L, w, st', he, k⟩ := q
  cases n with
  | zero => cases he
  | succ n =>
    have he : ((ev Γ n d).e ma env st).bind (fun v st => match v with
      | .int j => if -(2 ^ 62) ≤ j ∧ j < 2 ^ 62 then .ok (.snap (rngV 0 j.toNat)) st else .stuck
      | _ => .stuck) = .ok w st' := he
    obtain ⟨v, st1, e1, e2⟩ := Res.bind_ok he
    refine ⟨n, ρ, st, env, S, L, v, st1, e1, fun ρ1 H1 x F1 S1 R1 => ?_⟩
    cases R1 with
    | int j =>
      simp only at e2
      split at e2
      · rename_i hj
        cases e2
        exact ⟨j, rfl, hj.1, hj.2, k ρ1 H1 _ (fun i => .snap ((rngV 0 j.toNat).drop i)) F1 S1 rfl (iter_rng _ _)⟩
      · cases e2
    | _ => cases e2
theorem i_rng2 {p : Pos} (hg : Gl X "range") (hm : X.mg "range" = none) (ha : PE X a (rE X.K ca Γ d ma)) (hb : PE X b (rE X.K ca Γ d mb)) (na : ns a = true := by rfl) (nb : ns b = true := by rfl) : PI X tg (.Call (.Name "range" p) [a, b] [] pos) (rI X.K ca Γ d (.rng2 ma mb)) := by
  refine PI.wk (pi_range2 hg hm (pa_cons ha (pa_cons hb pa_nil (star_cons nb)) (star_cons na)) (by rw [star_cons na, star_cons nb]; rfl) (star_cons nb)) fun σ H R q => ?_
  obtain ⟨n, ρ, st, env, S, L, w, st', he, k⟩ := q
  cases n with
  | zero => cases he
  | succ n =>
    have he : ((ev Γ n d).e ma env st).bind (fun v st => ((ev Γ n d).e mb env st).bind fun u st => match v, u with
      | .int i, .int j => if -(2 ^ 62) ≤ i ∧ i < 2 ^ 62 ∧ -(2 ^ 62) ≤ j ∧ j < 2 ^ 62 then .ok (.snap (rngV i (j - i).toNat)) st else .stuck
      | _, _ => .stuck) = .ok w st' := he
    obtain ⟨v, st1, e1, e2⟩ := Res.bind_ok he
    obtain ⟨u, st2, e3, e4⟩ := Res.bind_ok e2
    refine ⟨n, ρ, st, env, S, L, v, st1, e1, fun ρ1 H1 x F1 S1 R1 => ⟨n, ρ1, st1, env, S1, F1.slots S L, u, st2, e3, fun ρ2 H2 y F2 S2 R2 => ?_⟩⟩
    cases R1 with
    | int i =>
      cases R2 with
      | int j =>
        simp only at e4
        split at e4
        · rename_i hj
          cases e4
          exact ⟨i, j, rfl, hj, k ρ2 H2 _ (fun q => .snap ((rngV i (j - i).toNat).drop q)) (F1.trans F2) S2 rfl (iter_rng _ _)⟩
        · cases e4
      | _ => cases e4
    | _ => cases R2 <;> cases e4

/-! ### targets -/
/-- a target's reading serves the evaluator's -/
def TgOk (K : PySem.W.Frag) (t : Tg) (g : TG) : Prop := ∀ (ca : Cls0) (ρ : Nat → Addr) (st : Store) (H : Hp) (v : MV) (x : V) (env env1 : Env) (σ : L2.St) (Q : L2.St → Hp → Prop), Sim K ca ρ st H → t.set v env = some env1 → Rv K ρ st.next H v x → SlotsR K ρ st.next H env σ →
  (∀ σ1, SlotsR K ρ st.next H env1 σ1 → (∀ vs, (∀ i, i ∈ (match t with | .one i => [i] | .many is => is) → i ∈ vs) → wipe σ1 vs = wipe σ vs) → Q σ1 H) → g x σ H Q
theorem wipe_set {σ : L2.St} {vs : List Nat} {j : Nat} {x : V} (h : j ∈ vs) : wipe (σ.set j (some x)) vs = wipe σ vs := by
  induction vs with
  | nil => cases h
  | cons v vs ih =>
    unfold wipe
    by_cases e : v = j
    · subst e
      by_cases h2 : v ∈ vs
      · rw [ih h2]
      · clear ih h
        have comm : ∀ (ws : List Nat) (τ : L2.St), v ∉ ws → wipe (τ.set v (some x)) ws = (wipe τ ws).set v (some x) := by
          intro ws
          induction ws with
          | nil => intro τ _; rfl
          | cons w ws ih2 =>
            intro τ hw
            unfold wipe
            rw [ih2 τ (fun z => hw (List.mem_cons_of_mem _ z)), List.set_comm]
            exact fun z => hw (z ▸ List.mem_cons_self)
        rw [comm vs σ h2, List.set_set]
    · rcases List.mem_cons.mp h with z | z
      · exact absurd z.symm e
      · rw [ih z]
theorem tg_one (K : PySem.W.Frag) (i : Nat) : TgOk K (.one i) (gName i) := fun ca ρ st H v x env env1 σ Q S h r L k => by
  cases h
  exact k _ (L.set i r) fun vs hv => wipe_set (hv i (List.mem_singleton.mpr rfl))
theorem setMany_ok {K : PySem.W.Frag} {ρ : Nat → Addr} {N : Nat} {H : Hp} : ∀ (is : List Nat) (vs : List MV) (xs : List V) (env env1 : Env) (σ : L2.St) (Q : L2.St → Hp → Prop), setMany is vs env = some env1 → RvL K ρ N H vs xs → SlotsR K ρ N H env σ →
    (∀ σ1, SlotsR K ρ N H env1 σ1 → (∀ ws, (∀ i, i ∈ is → i ∈ ws) → wipe σ1 ws = wipe σ ws) → Q σ1 H) → (is.foldr (fun i u => gCons (gName i) u) gNil) xs σ H Q
  | [], [], _, env, env1, σ, Q, h, r, L, k => by
    cases r
    cases h
    exact ⟨rfl, k σ L fun _ _ => rfl⟩
  | [], _ :: _, _, _, _, _, _, h, _, _, _ => by cases h
  | _ :: _, [], _, _, _, _, _, h, _, _, _ => by cases h
  | i :: is, v :: vs, _, env, env1, σ, Q, h, r, L, k => by
    cases r with
    | cons r t =>
      refine ⟨_, _, rfl, ?_⟩
      exact setMany_ok is vs _ (env.set i (some v)) env1 _ Q h t (L.set i r) fun σ1 L1 w1 => k σ1 L1 fun ws hw => (w1 ws fun j hj => hw j (List.mem_cons_of_mem _ hj)).trans (wipe_set (hw i List.mem_cons_self))
theorem setMany_len : ∀ (is : List Nat) (vs : List MV) (env env1 : Env), setMany is vs env = some env1 → vs.length = is.length
  | [], [], _, _, _ => rfl
  | [], _ :: _, _, _, h => by cases h
  | _ :: _, [], _, _, h => by cases h
  | i :: is, v :: vs, env, env1, h => by rw [List.length_cons, List.length_cons, setMany_len is vs _ _ h]
theorem tg_many (K : PySem.W.Frag) (is : List Nat) : TgOk K (.many is) (gTup K is.length (is.foldr (fun i u => gCons (gName i) u) gNil)) := fun ca ρ st H v x env env1 σ Q S h r L k => by
  cases r with
  | @tup p ys xs hp hr => exact ⟨p, ys, rfl, hp, by rw [← hr.length]; exact setMany_len is xs _ _ h, setMany_ok is xs ys env env1 σ Q h hr L k⟩
  | _ => cases h
end
end MP

set_option Elab.async false
set_option linter.all false
set_option maxRecDepth 100000
set_option maxHeartbeats 4000000
namespace MP
open PySem PySem.Spec PyProof.Rows L2

section
variable {K : PySem.W.Frag} {ca : Cls0} {ρ ρ1 : Nat → Addr} {st st1 : Store} {H H1 : Hp}
theorem OutS.after {r : Res (Fl × Env)} {D : Ends} (h : OutS K ca ρ st H r D) (F : Fut ρ st.next H ρ1 st1.next H1) : OutS K ca ρ1 st1 H1 r D :=
  let ⟨a, st', e, k⟩ := h; ⟨a, st', e, fun ρ' H' σ' F' S' => k ρ' H' σ' (F.trans F') S'⟩
theorem OutS.of {r r' : Res (Fl × Env)} {D : Ends} (h : OutS K ca ρ st H r D) (e : r = r') : OutS K ca ρ st H r' D := e ▸ h
end

section
variable {X : Cx} {ca : Cls0} {Γ : Tab} {d : Nat} {a b e : Expr} {ma mb m : ME} {pos : Pos}
/-! ### statements -/
/-- a statement that evaluates one thing and goes on -/
theorem s1_wk {s : Stmt} {m : MS} {t : TS} (h : PS X s t)
    (k : ∀ n ρ st env σ H D, Sim X.K ca ρ st H → SlotsR X.K ρ st.next H env σ → OutS X.K ca ρ st H ((ev Γ (n + 1) d).s m env st) D → t D σ H) : PS X s (rS1 X.K ca Γ d m) :=
  PS.wk h fun D σ H q => by
    obtain ⟨n, ρ, st, env, S, L, o⟩ := q
    cases n with
    | zero => obtain ⟨_, _, e, _⟩ := o; cases e
    | succ n => exact k n ρ st env σ H D S L o
theorem s_set {s : Stmt} {i : Nat} {te : TE} (h : PS X s (tAsg te (gName i))) (hte : ∀ σ H Q, rE X.K ca Γ d ma σ H Q → te σ H Q) : PS X s (rS1 X.K ca Γ d (.set i ma)) :=
  s1_wk h fun n ρ st env σ H D S L o => by
    obtain ⟨r, st', he, k⟩ := o
    have he : ((ev Γ n d).e ma env st).bind (fun v st => .ok (.nx, env.set i (some v)) st) = .ok r st' := he
    obtain ⟨v, st1, e1, e2⟩ := Res.bind_ok he
    cases e2
    refine hte σ H _ ⟨n, ρ, st, env, S, L, v, _, e1, fun ρ1 H1 x F1 S1 R1 => ?_⟩
    exact k ρ1 H1 _ F1 S1 ((F1.slots S L).set i R1)
theorem s_expr (he : PE X e (rE X.K ca Γ d m)) (hs : swapsWith e none pos.line X.env = pure false := by rfl) : PS X (.Expr e pos) (rS1 X.K ca Γ d (.expr m)) :=
  s1_wk (ps_expr he hs) fun n ρ st env σ H D S L o => by
    obtain ⟨r, st', he, k⟩ := o
    have he : ((ev Γ n d).e m env st).bind (fun _ st => .ok (.nx, env) st) = .ok r st' := he
    obtain ⟨v, st1, e1, e2⟩ := Res.bind_ok he
    cases e2
    exact ⟨n, ρ, st, env, S, L, v, _, e1, fun ρ1 H1 x F1 S1 R1 => k ρ1 H1 _ F1 S1 (F1.slots S L)⟩
theorem s_ret (he : PE X e (rE X.K ca Γ d m)) : PS X (.Return (some e) pos) (rS1 X.K ca Γ d (.ret m)) :=
  s1_wk (ps_ret he) fun n ρ st env σ H D S L o => by
    obtain ⟨r, st', he, k⟩ := o
    have he : ((ev Γ n d).e m env st).bind (fun v st => .ok (.rt v, env) st) = .ok r st' := he
    obtain ⟨v, st1, e1, e2⟩ := Res.bind_ok he
    cases e2
    exact ⟨n, ρ, st, env, S, L, v, _, e1, fun ρ1 H1 x F1 S1 R1 => k ρ1 H1 σ F1 S1 x R1⟩
theorem s_pass : PS X (.Pass pos) (rS1 X.K ca Γ d .pass) :=
  s1_wk ps_pass fun n ρ st env σ H D S L o => by
    obtain ⟨r, st', he, k⟩ := o
    cases he
    exact k ρ H σ (Fut.refl _ _ _) S L
theorem s_brk : PS X (.Break pos) (rS1 X.K ca Γ d .brk) :=
  s1_wk ps_break fun n ρ st env σ H D S L o => by
    obtain ⟨r, st', he, k⟩ := o
    cases he
    exact k ρ H σ (Fut.refl _ _ _) S L
theorem s_cont : PS X (.Continue pos) (rS1 X.K ca Γ d .cont) :=
  s1_wk ps_continue fun n ρ st env σ H D S L o => by
    obtain ⟨r, st', he, k⟩ := o
    cases he
    exact k ρ H σ (Fut.refl _ _ _) S L
theorem s_par {i j : Nat} {x y : Str} {px py pt : Pos} {kt k2 pt2} (hc : X.calm = true) (hN : X.N.Nodup) (hi : X.N[i]? = some x) (hj : X.N[j]? = some y) (hij : i ≠ j)
    (hx : X.env.scope.names.lookup x = some .local) (hy : X.env.scope.names.lookup y = some .local) (ha : PE X a (rE X.K ca Γ d ma)) (hb : PE X b (rE X.K ca Γ d mb)) (na : ns a = true) (nb : ns b = true)
    (hw : swappedStores [.Tuple [.Name x px, .Name y py] kt pt] (.Tuple [a, b] k2 pt2) X.env = pure (some [x, y]))
    (hs : swapsWithSole [.Tuple [.Name x px, .Name y py] kt pt] (.Tuple [a, b] k2 pt2) pos.line X.env = pure false := by rfl) :
    PS X (.Assign [.Tuple [.Name x px, .Name y py] kt pt] (.Tuple [a, b] k2 pt2) pos) (rS1 X.K ca Γ d (.par i j ma mb)) :=
  s1_wk (ps_par hc hN hi hj hij hx hy (pa_cons ha (pa_cons hb pa_nil (star_cons nb)) (star_cons na)) hw hs) fun n ρ st env σ H D S L o => by
    obtain ⟨r, st', he, k⟩ := o
    have he : ((ev Γ n d).e ma env st).bind (fun v st => ((ev Γ n d).e mb env st).bind fun u st => .ok (.nx, (env.set i (some v)).set j (some u)) st) = .ok r st' := he
    obtain ⟨v, st1, e1, e2⟩ := Res.bind_ok he
    obtain ⟨u, st2, e3, e4⟩ := Res.bind_ok e2
    cases e4
    exact ⟨n, ρ, st, env, S, L, v, st1, e1, fun ρ1 H1 x F1 S1 R1 => ⟨n, ρ1, st1, env, S1, F1.slots S L, u, _, e3, fun ρ2 H2 y F2 S2 R2 =>
      ⟨x, y, rfl, k ρ2 H2 _ (F1.trans F2) S2 ((((F1.trans F2).slots S L).set i (F2.rv S1 R1)).set j R2)⟩⟩⟩
/-- a, b = e: of a tuple -/
theorem s_unp {s : Stmt} {is : List Nat} (h : PS X s (tAsg (rE X.K ca Γ d ma) (gTup X.K is.length (is.foldr (fun i u => gCons (gName i) u) gNil)))) : PS X s (rS1 X.K ca Γ d (.unp is ma)) :=
  s1_wk h fun n ρ st env σ H D S L o => by
    obtain ⟨r, st', he, k⟩ := o
    have he : ((ev Γ n d).e ma env st).bind (fun v st => match v with
      | .tup vs => match setMany is vs env with
        | some env' => .ok (.nx, env') st
        | none => .stuck
      | _ => .stuck) = .ok r st' := he
    obtain ⟨v, st1, e1, e2⟩ := Res.bind_ok he
    refine ⟨n, ρ, st, env, S, L, v, st1, e1, fun ρ1 H1 x F1 S1 R1 => ?_⟩
    split at e2
    · rename_i vs
      split at e2
      · rename_i env' eS
        cases e2
        exact tg_many X.K is ca ρ1 _ H1 (.tup vs) x env env' σ D.nx S1 eS R1 (F1.slots S L) fun σ1 L1 _ => k ρ1 H1 σ1 F1 S1 L1
      · cases e2
    · cases e2
/-- o[i] = v -/
def rSetAll (t : TSet) : TSet := fun o i v H Q => t o i v H Q ∨ ∃ a H4, o = .ref a ∧ DPut H a i v H4 ∧ Q H4
theorem set_all {t : TSet} (hu : X.A.units + 1 < cLine) (h : PSet X t) : PSet X (rSetAll t) := by
  intro pins s σ H o i v ov iv u Q I ro ri rv q
  rcases q with q | ⟨a, H4, rfl, g, q⟩
  · exact h pins s σ H o i v ov iv u Q I ro ri rv q
  · obtain rfl : ov = Value.ref a := ro
    exact d_setItem hu I g ri rv fun s4 I4 => ⟨H4, I4, q⟩
theorem putV_ok {K : PySem.W.Frag} {ρ : Nat → Addr} {st st' : Store} {H : Hp} {o i v : MV} {ov iv x : V} {Q : Hp → Prop} (h : putV o i v st = some st') (S : Sim K ca ρ st H) (ho : Rv K ρ st.next H o ov) (hi : Rv K ρ st.next H i iv) (hv : Rv K ρ st.next H v x)
    (c : ∀ H', Fut ρ st.next H ρ st'.next H' → Sim K ca ρ st' H' → Q H') : rSetAll rSetL ov iv x H Q := by
  cases ho with
  | @ref n hn =>
    have h' : (match st.get n with
      | some ob => putO ob n i v st
      | none => none) = some st' := h
    cases e0 : st.get n with
    | none => rw [e0] at h'; cases h'
    | some ob =>
      rw [e0] at h'
      have h' : putO ob n i v st = some st' := h'
      obtain ⟨u, hu, ro⟩ := S.at hn e0
      cases ro with
      | lst hr =>
        cases hi with
        | int k =>
          unfold putO at h'
          simp only at h'
          split at h'
          · rename_i j ej
            cases h'
            refine .inl ⟨ρ n, _, k, j, rfl, rfl, hu, by rw [← hr.length]; exact ej, c _ (Fut.write S hn hu (fun _ _ z => nomatch z)) (Sim.write S hn (.lst (RvL.set hv j hr)))⟩
          · cases h'
        | _ => cases h'
      | dK hr =>
        unfold putO at h'
        simp only at h'
        split at h'
        · rename_i q eq
          split at h'
          · rename_i hl
            cases h'
            refine .inr ⟨ρ n, _, rfl, ?_, c _ (Fut.write S hn hu (fun _ _ z => nomatch z)) (Sim.write S hn (.dK (put_rv hv hr)))⟩
            rw [key_rv eq hi]
            exact DPut.k hu (by rw [← hr.length]; exact hl)
          · cases h'
        · cases h'
      | dF _ => cases hi <;> cases h'
      | ins _ => cases hi <;> cases h'
  | _ => cases h
theorem s_put {o i : Expr} {mo mi : ME} {pos' : Pos} (hg : PG X (.Subscript o i pos') (gSub (rE X.K ca Γ d mo) (rE X.K ca Γ d mi) (rSetAll rSetL))) (he : PE X e (rE X.K ca Γ d m)) (hs : swapsWithSole [.Subscript o i pos'] e pos.line X.env = pure false := by rfl)
    (hw : swappedStores [.Subscript o i pos'] e X.env = pure none := by rfl) : PS X (.Assign [.Subscript o i pos'] e pos) (rS1 X.K ca Γ d (.put mo mi m)) :=
  s1_wk (ps_asg he hg hs hw) fun n ρ st env σ H D S L q => by
    obtain ⟨r, st', he, k⟩ := q
    have he : ((ev Γ n d).e m env st).bind (fun v st => ((ev Γ n d).e mo env st).bind fun x st => ((ev Γ n d).e mi env st).bind fun y st => match putV x y v st with
      | some st' => .ok (.nx, env) st'
      | none => .stuck) = .ok r st' := he
    obtain ⟨v, st1, e1, e2⟩ := Res.bind_ok he
    obtain ⟨x, st2, e3, e4⟩ := Res.bind_ok e2
    obtain ⟨y, st3, e5, e6⟩ := Res.bind_ok e4
    refine ⟨n, ρ, st, env, S, L, v, st1, e1, fun ρ1 H1 vv F1 S1 R1 => ⟨n, ρ1, st1, env, S1, F1.slots S L, x, st2, e3, fun ρ2 H2 xv F2 S2 R2 => ?_⟩⟩
    refine ⟨n, ρ2, st2, env, S2, (F1.trans F2).slots S L, y, st3, e5, fun ρ3 H3 yv F3 S3 R3 => ?_⟩
    split at e6
    · rename_i stx ex
      cases e6
      exact putV_ok ex S3 (F3.rv S2 R2) R3 ((F2.trans F3).rv S1 R1) fun H4 F4 S4 => k ρ3 H4 σ (((F1.trans F2).trans F3).trans F4) S4 ((((F1.trans F2).trans F3).trans F4).slots S L)
    · cases e6
/-! ### blocks -/
theorem b_nil : PSs X [] (rSs X.K ca Γ d []) := PSs.wk pss_nil fun D σ H q => by
  obtain ⟨n, ρ, st, env, S, L, r, st', he, k⟩ := q
  cases n with
  | zero => cases he
  | succ n =>
    cases he
    exact k ρ H σ (Fut.refl _ _ _) S L
theorem b_cons {s : Stmt} {ss : List Stmt} {m : MS} {ms : List MS} (h1 : PS X s (rS1 X.K ca Γ d m)) (h2 : PSs X ss (rSs X.K ca Γ d ms)) : PSs X (s :: ss) (rSs X.K ca Γ d (m :: ms)) := PSs.wk (pss_cons h1 h2) fun D σ H q => by
  obtain ⟨n, ρ, st, env, S, L, r, st', he, k⟩ := q
  cases n with
  | zero => cases he
  | succ n =>
    have he : ((ev Γ n d).s m env st).bind (fun x st => match x.1 with
      | .nx => (ev Γ n d).b ms x.2 st
      | fl => .ok (fl, x.2) st) = .ok r st' := he
    obtain ⟨⟨f, env1⟩, st1, e1, e2⟩ := Res.bind_ok he
    refine ⟨n, ρ, st, env, S, L, (f, env1), st1, e1, fun ρ1 H1 σ1 F1 S1 => ?_⟩
    cases f with
    | nx => exact fun L1 => ⟨n, ρ1, st1, env1, S1, L1, r, st', e2, fun ρ' H' σ' F' S' => k ρ' H' σ' (F1.trans F') S'⟩
    | bk => cases e2; exact k ρ1 H1 σ1 F1 S1
    | ct => cases e2; exact k ρ1 H1 σ1 F1 S1
    | rt v => cases e2; exact k ρ1 H1 σ1 F1 S1
theorem s_if {c : Expr} {mc : ME} {sa sb : List Stmt} {msa msb : List MS} (hc : PT X c (rT X.K ca Γ d mc)) (ha : PSs X sa (rSs X.K ca Γ d msa)) (hb : PSs X sb (rSs X.K ca Γ d msb)) : PS X (.If c sa sb pos) (rS1 X.K ca Γ d (.iff mc msa msb)) :=
  s1_wk (ps_if hc ha hb) fun n ρ st env σ H D S L o => by
    obtain ⟨r, st', he, k⟩ := o
    have he : ((ev Γ n d).t mc env st).bind (fun k st => if k = true then (ev Γ n d).b msa env st else (ev Γ n d).b msb env st) = .ok r st' := he
    obtain ⟨x, st1, e1, e2⟩ := Res.bind_ok he
    refine ⟨n, ρ, st, env, S, L, x, st1, e1, fun ρ1 H1 c F1 S1 R1 => ?_⟩
    subst R1
    cases x with
    | true =>
      refine iteT ?_
      rw [if_pos rfl] at e2
      exact ⟨n, ρ1, st1, env, S1, F1.slots S L, r, st', e2, fun ρ' H' σ' F' S' => k ρ' H' σ' (F1.trans F') S'⟩
    | false =>
      refine iteF ?_
      rw [if_neg Bool.false_ne_true] at e2
      exact ⟨n, ρ1, st1, env, S1, F1.slots S L, r, st', e2, fun ρ' H' σ' F' S' => k ρ' H' σ' (F1.trans F') S'⟩
/-! ### loops -/
theorem s_while {c : Expr} {mc : ME} {body : List Stmt} {mb : List MS} (hp : PassesOwn (model X.prog X.w) X.A X.env X.xe) (hc : PT X c (rT X.K ca Γ d mc)) (hb : PSs X body (rSs X.K ca Γ d mb)) : PS X (.While c body [] pos) (rS1 X.K ca Γ d (.while_ mc mb)) :=
  s1_wk (ps_while hp hc hb) fun n ρ0 st0 env0 σ0 H0 D S0 L0 o0 => by
    refine ⟨fun n σ H => ∃ ρ st env, Sim X.K ca ρ st H ∧ SlotsR X.K ρ st.next H env σ ∧ OutS X.K ca ρ st H ((ev Γ n d).s (.while_ mc mb) env st) D, ⟨n + 1, ρ0, st0, env0, S0, L0, o0⟩, ?_⟩
    rintro n σ H ⟨ρ, st, env, S, L, o⟩
    obtain ⟨r, st', he, k⟩ := o
    cases n with
    | zero => cases he
    | succ n =>
      have he : ((ev Γ n d).t mc env st).bind (fun k st => if k = true then ((ev Γ n d).b mb env st).bind fun r st => (match r.1 with
        | .nx => (ev Γ n d).s (.while_ mc mb) r.2 st
        | .ct => (ev Γ n d).s (.while_ mc mb) r.2 st
        | .bk => .ok (.nx, r.2) st
        | .rt v => .ok (.rt v, r.2) st) else .ok (.nx, env) st) = .ok r st' := he
      obtain ⟨x, st1, e1, e2⟩ := Res.bind_ok he
      refine ⟨n, ρ, st, env, S, L, x, st1, e1, fun ρ1 H1 c F1 S1 R1 => ?_⟩
      subst R1
      cases x with
      | false =>
        refine iteF ?_
        rw [if_neg Bool.false_ne_true] at e2
        cases e2
        exact k ρ1 H1 σ F1 S1 (F1.slots S L)
      | true =>
        refine iteT ?_
        rw [if_pos rfl] at e2
        obtain ⟨⟨f, env2⟩, st2, e3, e4⟩ := Res.bind_ok e2
        refine ⟨fun σ' H' => ∃ ρ st env, Sim X.K ca ρ st H' ∧ SlotsR X.K ρ st.next H' env σ' ∧ OutS X.K ca ρ st H' ((ev Γ n d).s (.while_ mc mb) env st) D, fun σ' H' q => ⟨n, Nat.lt_succ_self _, q⟩, ?_⟩
        refine ⟨n, ρ1, st1, env, S1, F1.slots S L, (f, env2), st2, e3, fun ρ2 H2 σ2 F2 S2 => ?_⟩
        cases f with
        | nx => exact fun L2 => ⟨ρ2, st2, env2, S2, L2, r, st', e4, fun ρ' H' σ' F' S' => k ρ' H' σ' ((F1.trans F2).trans F') S'⟩
        | ct => exact fun L2 => ⟨ρ2, st2, env2, S2, L2, r, st', e4, fun ρ' H' σ' F' S' => k ρ' H' σ' ((F1.trans F2).trans F') S'⟩
        | bk => cases e4; exact k ρ2 H2 σ2 (F1.trans F2) S2
        | rt v => cases e4; exact k ρ2 H2 σ2 (F1.trans F2) S2
/-- a loop's turns -/
theorem for_go {K : PySem.W.Frag} {ca : Cls0} {Γ : Tab} {d : Nat} {t : Tg} {g : TG} {mb : List MS} (ht : TgOk K t g) {n : Nat} {J : It} {wf : Nat → Itv} {ρ1 : Nat → Addr} {st1 st' : Store} {env : Env} {σ : L2.St} {H1 : Hp} {r : Fl × Env} {D : Ends} (S1 : Sim K ca ρ1 st1 H1) (L1 : SlotsR K ρ1 st1.next H1 env σ) (P : IterP K ca J wf ρ1 st1 H1)
    (e2 : (ev Γ n d).f (wf 0) t mb env st1 = .ok r st') (k : ∀ ρ' H' σ', Fut ρ1 st1.next H1 ρ' st'.next H' → Sim K ca ρ' st' H' → EndS K D ρ' st'.next H' r σ') :
    ∃ W : Nat → Nat → L2.St → Hp → Prop, (∃ m, W 0 m σ H1) ∧ ∀ i m σ H, W i m σ H →
      (J.stop i H ∧ D.nx σ H) ∨ (J.go i H ∧ ∃ N : L2.St → Hp → Prop, (∀ σ' H', N σ' H' → ∃ m', m' < m ∧ W (i + 1) m' σ' H') ∧ ∀ x H', J.yld i H x H' → g x σ H' fun σ2 H2 => rSs K ca Γ d mb { D with nx := N, ct := N, bk := D.nx } σ2 H2) := by
  refine ⟨fun i m σ H => ∃ ρ st env, Fut ρ1 st1.next H1 ρ st.next H ∧ Sim K ca ρ st H ∧ SlotsR K ρ st.next H env σ ∧ OutS K ca ρ st H ((ev Γ m d).f (wf i) t mb env st) D,
    ⟨n, ρ1, st1, env, Fut.refl _ _ _, S1, L1, r, st', e2, k⟩, ?_⟩
  rintro i m σ2 H2 ⟨ρ2, st2, env2, F2, S2, L2, r2, st3, he2, k2⟩
  cases m with
  | zero => cases he2
  | succ m =>
    have p := P i ρ2 st2 H2 F2 S2
    have he2 : (match (wf i).next st2 with
      | none => .stuck
      | some none => .ok (.nx, env2) st2
      | some (some (v, w')) => match t.set v env2 with
        | none => .stuck
        | some env1 => ((ev Γ m d).b mb env1 st2).bind fun r st => match r.1 with
          | .nx => (ev Γ m d).f w' t mb r.2 st
          | .ct => (ev Γ m d).f w' t mb r.2 st
          | .bk => .ok (.nx, r.2) st
          | .rt v => .ok (.rt v, r.2) st) = Res.ok r2 st3 := he2
    cases ew : (wf i).next st2 with
    | none => rw [ew] at he2; cases he2
    | some q =>
      rw [ew] at he2 p
      cases q with
      | none =>
        cases he2
        exact .inl ⟨p, k2 ρ2 H2 σ2 (Fut.refl _ _ _) S2 L2⟩
      | some q =>
        obtain ⟨v, w'⟩ := q
        obtain ⟨rfl, go, yl⟩ := p
        refine .inr ⟨go, fun σ' H' => ∃ ρ st env, Fut ρ1 st1.next H1 ρ st.next H' ∧ Sim K ca ρ st H' ∧ SlotsR K ρ st.next H' env σ' ∧ OutS K ca ρ st H' ((ev Γ m d).f (wf (i + 1)) t mb env st) D, fun σ' H' q => ⟨m, Nat.lt_succ_self _, q⟩, fun x H3 hy => ?_⟩
        obtain ⟨F3, S3, R3⟩ := yl x H3 hy
        simp only at he2
        cases et : t.set v env2 with
        | none => rw [et] at he2; cases he2
        | some env3 =>
          rw [et] at he2
          obtain ⟨⟨f, env4⟩, st4, e5, e6⟩ := Res.bind_ok he2
          refine ht ca ρ2 st2 H3 v x env2 env3 σ2 _ S3 et R3 (F3.slots S2 L2) fun σ3 L3 _ => ?_
          refine ⟨m, ρ2, st2, env3, S3, L3, (f, env4), st4, e5, fun ρ4 H4 σ4 F4 S4 => ?_⟩
          cases f with
          | nx => exact fun L4 => ⟨ρ4, st4, env4, (F2.trans F3).trans F4, S4, L4, r2, st3, e6, fun ρ' H' σ' F' S' => k2 ρ' H' σ' ((F3.trans F4).trans F') S'⟩
          | ct => exact fun L4 => ⟨ρ4, st4, env4, (F2.trans F3).trans F4, S4, L4, r2, st3, e6, fun ρ' H' σ' F' S' => k2 ρ' H' σ' ((F3.trans F4).trans F') S'⟩
          | bk => cases e6; exact k2 ρ4 H4 σ4 (F3.trans F4) S4
          | rt v => cases e6; exact k2 ρ4 H4 σ4 (F3.trans F4) S4
theorem s_for {tg iter : Expr} {t : Tg} {mi : MI} {g : TG} {body : List Stmt} {mb : List MS} (hp : PassesOwn (model X.prog X.w) X.A X.env X.xe) (hc : X.calm = true) (hi : PI X tg iter (rI X.K ca Γ d mi)) (hg : PG X tg g) (ht : TgOk X.K t g) (hb : PSs X body (rSs X.K ca Γ d mb))
    (hs : ∀ x, foldedSetIterable iter X.env x = pure x := by intro _; rfl) : PS X (.For tg iter body [] pos) (rS1 X.K ca Γ d (.for_ t mi mb)) :=
  s1_wk (ps_for hp hc hi hg hb hs) fun n ρ st env σ H D S L o => by
    obtain ⟨r, st', he, k⟩ := o
    have he : ((ev Γ n d).i mi env st).bind (fun w st => (ev Γ n d).f w t mb env st) = .ok r st' := he
    obtain ⟨w, st1, e1, e2⟩ := Res.bind_ok he
    refine ⟨n, ρ, st, env, S, L, w, st1, e1, fun ρ1 H1 J wf F1 S1 hw P => ?_⟩
    exact for_go ht S1 (F1.slots S L) P (by rw [hw]; exact e2) fun ρ' H' σ' F' S' => k ρ' H' σ' (F1.trans F') S'
theorem key_of_rv {K : PySem.W.Frag} {ρ : Nat → Addr} {N : Nat} {H : Hp} (k : Key) : Rv K ρ N H (keyMV k) (kV k) := by
  cases k with
  | inl i => exact .int i
  | inr x => exact .str x
theorem keys_at {K : PySem.W.Frag} {ρ : Nat → Addr} {N : Nat} {H : Hp} : ∀ {xs : List (Key × MV)} {ys : List (Key × V)} {i : Nat}, RvP K ρ N H xs ys → (∀ x, (xs.map fun kv => keyMV kv.1)[i]? = some x → ∃ k v, ys[i]? = some (k, v) ∧ x = keyMV k) ∧ ((xs.map fun kv => keyMV kv.1)[i]? = none → ys.length ≤ i)
  | _, _, i, .nil => ⟨fun x e => by simp at e, fun _ => Nat.zero_le _⟩
  | _, _, 0, @RvP.cons _ _ _ _ _ q x y xs ys h t => ⟨fun z e => ⟨q, y, rfl, by simpa using e.symm⟩, fun e => by simp at e⟩
  | _, _, i + 1, @RvP.cons _ _ _ _ _ q x y xs ys h t => by
    obtain ⟨h1, h2⟩ := keys_at (i := i) t
    refine ⟨fun z e => h1 z (by simpa using e), fun e => ?_⟩
    have := h2 (by simpa using e)
    rw [List.length_cons]; omega
/-- for k in d: the dict is locked while the loop goes -/
theorem s_forK {tg e : Expr} {t : Tg} {i : Nat} {g : TG} {body : List Stmt} {mb : List MS} (hp : PassesOwn (model X.prog X.w) X.A X.env X.xe) (hc : X.calm = true) (hv : PE X e (tVar i)) (hg : PG X tg g) (ht : TgOk X.K t g) (hb : PSs X body (rSs X.K ca Γ d mb))
    (hs : ∀ x, foldedSetIterable e X.env x = pure x := by intro _; rfl) : PS X (.For tg e body [] pos) (rS1 X.K ca Γ d (.forK t i mb)) :=
  s1_wk (ps_lock (ps_for hp hc (pi_keys hv) hg hb hs)) fun n ρ st env σ H D S L o => by
    obtain ⟨r, st', he, k⟩ := o
    have he : (match env[i]? with
      | some (some (.ref n')) => (match st.get n' with
        | some (.dK kvs) => ((ev Γ n d).f (.snap (kvs.map fun kv => keyMV kv.1)) t mb env (st.set n' (.dF kvs))).bind fun r st => unlockV n' r st
        | _ => .stuck)
      | _ => .stuck) = Res.ok r st' := he
    cases e1 : env[i]? with
    | none => rw [e1] at he; cases he
    | some o1 =>
      cases o1 with
      | none => rw [e1] at he; cases he
      | some v =>
        rw [e1] at he
        obtain ⟨x, hx, rx⟩ := L.2 i v e1
        cases rx with
        | @ref nn hn =>
          simp only at he
          cases e0 : st.get nn with
          | none => rw [e0] at he; cases he
          | some ob =>
            rw [e0] at he
            obtain ⟨u, hu, ro⟩ := S.at hn e0
            cases ro with
            | lst _ => cases he
            | dF _ => cases he
            | ins _ => cases he
            | @dK kvs ys hr =>
              simp only at he
              obtain ⟨r2, st2, e2, e3⟩ := Res.bind_ok he
              refine ⟨ρ nn, .dK ys, hu, trivial, fun od => ?_⟩
              have W0 := Fu.write (o := .frz od (.dK ys)) S hn
              have Sl : Sim X.K ca ρ (st.set nn (.dF kvs)) (upd H (ρ nn) (.frz od (.dK ys))) := Sim.write S hn (.dF hr)
              have at0 : (upd H (ρ nn) (.frz od (.dK ys))) (ρ nn) = some (.frz od (.dK ys)) := upd_same
              refine ⟨.ref (ρ nn), hx, ρ nn, od, rfl, .inl ⟨ys, at0, ?_⟩⟩
              refine for_go ht Sl (W0.slots S L) (wf := fun i => .snap ((kvs.map fun kv => keyMV kv.1).drop i)) (iter_snap fun i ρ' st2 H' F S2 => ?_) e2 fun ρ' H' σ' F' S' => ?_
              · have hz := F.fz _ _ _ at0
                obtain ⟨q1, q2⟩ := keys_at (i := i) hr
                refine ⟨fun z ez => ?_, fun ez => ⟨hz, q2 ez⟩⟩
                obtain ⟨kk, vv, hk, rfl⟩ := q1 z ez
                refine ⟨⟨hz, (List.getElem?_eq_some_iff.mp hk).1⟩, fun y H'' hy => ?_⟩
                obtain ⟨rfl, k2, v2, hk2, rfl⟩ := hy
                rw [hk] at hk2
                cases hk2
                exact ⟨rfl, key_of_rv _⟩
              · have hz := F'.fz _ _ _ at0
                have hn' : nn < st2.next := Nat.lt_of_lt_of_le hn F'.le
                have hρ : ρ' nn = ρ nn := F'.agr nn hn
                unfold unlockV at e3
                cases e4 : st2.get nn with
                | none => rw [e4] at e3; cases e3
                | some ob2 =>
                  rw [e4] at e3
                  obtain ⟨u2, hu2, ro2⟩ := S'.at hn' e4
                  rw [hρ, hz] at hu2
                  cases hu2
                  cases ro2 with
                  | @dF _ kvs2 _ hr2 =>
                    cases e3
                    have W2 := Fu.write (o := .dK ys) S' hn'
                    have Sf := Sim.write S' hn' (.dK hr2)
                    rw [hρ] at W2 Sf
                    have FF : Fut ρ st.next H ρ' st2.next (upd H' (ρ nn) (.dK ys)) := ⟨(W0.trans F'.toFu).trans W2, fun a o w h => by
                      have hne : a ≠ ρ nn := fun z => by rw [z, hu] at h; cases h
                      rw [upd_ne hne]
                      exact F'.fz a o w (by rw [upd_ne hne]; exact h)⟩
                    have kk := k ρ' _ σ' FF Sf
                    obtain ⟨fl, env'⟩ := r
                    cases fl with
                    | nx => exact fun L' => ⟨hz, kk (W2.slots S' L')⟩
                    | bk => exact fun L' => ⟨hz, kk (W2.slots S' L')⟩
                    | ct => exact fun L' => ⟨hz, kk (W2.slots S' L')⟩
                    | rt v => exact fun x rx => ⟨hz, kk x (Fu.rv S' W2 rx)⟩
        | _ => cases he
end
end MP

set_option Elab.async false
set_option linter.all false
set_option maxRecDepth 100000
set_option maxHeartbeats 4000000
namespace MP
open PySem PySem.Spec PyProof.Rows L2

section
variable {K : PySem.W.Frag} {ca : Cls0} {ρ ρ' : Nat → Addr} {st : Store} {N : Nat} {H H' : Hp}
mutual
theorem Rv.keep (k : ∀ a o, Imm o → H a = some o → H' a = some o) : ∀ {x : MV} {y : V}, Rv K ρ N H x y → Rv K ρ N H' x y
  | _, _, .non => .non
  | _, _, .bl b => .bl b
  | _, _, .int i => .int i
  | _, _, .str x => .str x
  | _, _, .tup h t => .tup (by
      rcases h with (h | ⟨o, h⟩) | h
      · exact .inl (.inl (k _ _ trivial h))
      · exact .inl (.inr ⟨o, k _ _ trivial h⟩)
      · exact .inr h) (RvL.keep k t)
  | _, _, .ref h => .ref h
  | _, _, .scr h t => .scr (by
      rcases h with ⟨o, h⟩ | h
      · exact .inl ⟨o, k _ _ trivial h⟩
      · exact .inr h) (RvL.keep k t)
theorem RvL.keep (k : ∀ a o, Imm o → H a = some o → H' a = some o) : ∀ {x : List MV} {y : List V}, RvL K ρ N H x y → RvL K ρ N H' x y
  | _, _, .nil => .nil
  | _, _, .cons h t => .cons (Rv.keep k h) (RvL.keep k t)
end
theorem RvP.keep {κ : Type} (k : ∀ a o, Imm o → H a = some o → H' a = some o) : ∀ {x : List (κ × MV)} {y : List (κ × V)}, RvP K ρ N H x y → RvP K ρ N H' x y
  | _, _, .nil => .nil
  | _, _, .cons h t => .cons (h.keep k) (RvP.keep k t)
theorem RO.keep (k : ∀ a o, Imm o → H a = some o → H' a = some o) {o : MO} {u : HO} (r : RO K ca ρ N H o u) : RO K ca ρ N H' o u := by
  cases r with
  | lst h => exact .lst (h.keep k)
  | dK h => exact .dK (h.keep k)
  | dF h => exact .dF (h.keep k)
  | ins h => exact .ins (h.keep k)
theorem poke_keep {D : Addr} {ys zs : List V} (h : H D = some (.lst ys)) : ∀ a o, Imm o → H a = some o → upd H D (.lst zs) a = some o := fun a o i e => by
  have ne : a ≠ D := fun z => by
    rw [z, h] at e
    cases e
    exact i
  rw [upd_ne ne]
  exact e
/-- the list that is being made grows -/
theorem Sim.poke (S : Sim K ca ρ st H) {D : Addr} {ys zs : List V} (h : H D = some (.lst ys)) (hx : ∀ n, n < st.next → ρ n ≠ D) : Sim K ca ρ st (upd H D (.lst zs)) :=
  ⟨S.wf, S.inj, fun n hn => by
    obtain ⟨o, u, h1, h2, r⟩ := S.obj n hn
    exact ⟨o, u, h1, by rw [upd_ne (hx n hn)]; exact h2, r.keep (poke_keep h)⟩⟩
theorem SlotsR.keep (k : ∀ a o, Imm o → H a = some o → H' a = some o) {env : Env} {σ : L2.St} (h : SlotsR K ρ N H env σ) : SlotsR K ρ N H' env σ :=
  ⟨h.1, fun i v e => let ⟨x, h1, h2⟩ := h.2 i v e; ⟨x, h1, h2.keep k⟩⟩
/-- with regard to what stood before D was there -/
theorem Fut.poke {N' : Nat} (F : Fut ρ N H ρ' N' H') {D : Addr} {o : HO} (h0 : H D = Option.none) : Fut ρ N H ρ' N' (upd H' D o) :=
  ⟨⟨F.le, F.agr, fun a u e hn => by
    obtain ⟨h1, h2⟩ := F.fr a u e hn
    exact ⟨by rw [upd_ne (ne_of_none e h0)]; exact h1, h2⟩⟩, fun a o u h => by rw [upd_ne (ne_of_none h h0)]; exact F.fz a o u h⟩
theorem wipe_setN (σ : L2.St) (j : Nat) : ∀ vs : List Nat, L2.wipe (σ.set j Option.none) vs = (L2.wipe σ vs).set j Option.none
  | [] => rfl
  | v :: vs => by
    unfold L2.wipe
    rw [wipe_setN σ j vs]
    by_cases e : j = v
    · rw [e]
    · rw [List.set_comm _ _ e]
theorem wipe_wipe (σ : L2.St) : ∀ vs : List Nat, L2.wipe (L2.wipe σ vs) vs = L2.wipe σ vs
  | [] => rfl
  | v :: vs => by
    show (L2.wipe ((L2.wipe σ vs).set v Option.none) vs).set v Option.none = (L2.wipe σ vs).set v Option.none
    rw [wipe_setN, wipe_wipe σ vs, List.set_set]
theorem SlotsR.wipe {env : Env} {σ : L2.St} (h : SlotsR K ρ N H env σ) : ∀ vs : List Nat, SlotsR K ρ N H (wipeE env vs) (wipe σ vs)
  | [] => h
  | v :: vs => by
    have ih := SlotsR.wipe h vs
    unfold wipeE L2.wipe
    refine ⟨by rw [List.length_set, List.length_set]; exact ih.1, fun i w e => ?_⟩
    by_cases hi : v = i
    · subst hi
      by_cases hl : v < (wipeE env vs).length
      · rw [List.getElem?_set_self hl] at e; cases e
      · rw [List.getElem?_eq_none (by simpa using hl)] at e; cases e
    · rw [List.getElem?_set_ne hi] at e
      obtain ⟨x, h1, h2⟩ := ih.2 i w e
      exact ⟨x, by rw [List.getElem?_set_ne hi]; exact h1, h2⟩
end

section
variable {X : Cx} {ca : Cls0} {Γ : Tab} {d : Nat} {a b e : Expr} {ma mb m : ME} {pos : Pos}
def rTs (K : PySem.W.Frag) (ca : Cls0) (Γ : Tab) (d : Nat) (ms : List ME) : TT := rd K ca (fun _ _ _ a b => a = b) fun n => (ev Γ n d).ts ms
theorem PTs.wk {X : Cx} {es : List Expr} {t t' : TT} (h : PTs X es t) (w : ∀ σ H Q, t' σ H Q → t σ H Q) : PTs X es t' := ⟨fun pins s σ H Q I q => h.run pins s σ H Q I (w σ H Q q)⟩
theorem ts_nil : PTs X [] (rTs X.K ca Γ d []) := PTs.wk pts_nil fun σ H Q q => by
  obtain ⟨n, ρ, st, env, S, L, v, st', he, k⟩ := q
  cases n with
  | zero => cases he
  | succ n =>
    cases he
    exact k ρ H true (Fut.refl _ _ _) S rfl
theorem ts_one (h : PT X a (rT X.K ca Γ d ma)) : PTs X [a] (rTs X.K ca Γ d [ma]) := PTs.wk (pts_one h) fun σ H Q q => by
  obtain ⟨n, ρ, st, env, S, L, v, st', he, k⟩ := q
  cases n with
  | zero => cases he
  | succ n =>
    have he : ((ev Γ n d).t ma env st).bind (fun k st => if k = true then (ev Γ n d).ts [] env st else .ok false st) = .ok v st' := he
    obtain ⟨x, st1, e1, e2⟩ := Res.bind_ok he
    refine ⟨n, ρ, st, env, S, L, x, st1, e1, fun ρ1 H1 c F1 S1 R1 => ?_⟩
    subst R1
    cases x with
    | true =>
      rw [if_pos rfl] at e2
      cases n with
      | zero => cases e2
      | succ n => cases e2; exact k ρ1 H1 true F1 S1 rfl
    | false =>
      rw [if_neg Bool.false_ne_true] at e2
      cases e2
      exact k ρ1 H1 false F1 S1 rfl
/-- a comprehension's turns -/
theorem comp_go {K : PySem.W.Frag} {t : Tg} {g : TG} {conds : List ME} {elt : ME} {ws : List Nat} (ht : TgOk K t g) (hw : ∀ i, i ∈ (match t with | .one i => [i] | .many is => is) → i ∈ ws) {n : Nat} {J : It} {wf : Nat → Itv} {ρ1 : Nat → Addr} {st1 st' : Store} {env : Env} {σ : L2.St} {H1 : Hp} {xs : List MV} {D : Addr} {Q : VK}
    (S1 : Sim K ca ρ1 st1 H1) (L1 : SlotsR K ρ1 st1.next H1 env σ) (P : IterP K ca J wf ρ1 st1 H1) (e2 : (ev Γ n d).g (wf 0) t conds elt (wipeE env ws) [] st1 = .ok xs st') (hD : H1 D = none)
    (k : ∀ ρ' H' ys, Fut ρ1 st1.next H1 ρ' st'.next H' → Sim K ca ρ' st' H' → H' D = some (.lst ys) → (∀ n, n < st'.next → ρ' n ≠ D) → RvL K ρ' st'.next H' xs ys → Q (.ref D) H') :
    ∃ W : Nat → Nat → Hp → Prop, (∃ m, W 0 m (upd H1 D (.lst []))) ∧ ∀ i m H, W i m H →
      (J.stop i H ∧ Q (.ref D) H) ∨ (J.go i H ∧ ∃ Nx : Hp → Prop, (∀ H', Nx H' → ∃ m', m' < m ∧ W (i + 1) m' H') ∧ ∀ x H', J.yld i H x H' → g x (wipe σ ws) H' fun σ2 H2 => wipe σ2 ws = wipe σ ws ∧ rTs K ca Γ d conds σ2 H2 fun b H3 =>
        if b = true then rE K ca Γ d elt σ2 H3 fun y H4 => ∃ acc, H4 D = some (.lst acc) ∧ acc.length < sizeLine ∧ Nx (upd H4 D (.lst (acc ++ [y]))) else Nx H3) := by
  have hx1 : ∀ n, n < st1.next → ρ1 n ≠ D := fun n hn z => by
    obtain ⟨_, u, _, hu, _⟩ := S1.obj n hn
    rw [z, hD] at hu; cases hu
  refine ⟨fun i m H => ∃ ρ2 st2 acc ys, Fut ρ1 st1.next H1 ρ2 st2.next H ∧ Sim K ca ρ2 st2 H ∧ H D = some (.lst ys) ∧ (∀ n, n < st2.next → ρ2 n ≠ D) ∧ RvL K ρ2 st2.next H acc ys ∧
    SlotsR K ρ2 st2.next H (wipeE env ws) (wipe σ ws) ∧ (ev Γ m d).g (wf i) t conds elt (wipeE env ws) acc st2 = .ok xs st', ⟨n, ρ1, st1, [], [], Fut.poke (Fut.refl _ _ _) hD, Sim.grow S1 hD, upd_same, hx1, .nil,
      (Fut.grow S1 hD).slots S1 (L1.wipe ws), e2⟩, ?_⟩
  rintro i m H2 ⟨ρ2, st2, acc, ys, F2, S2, hD2, hx2, R2, L2, he2⟩
  cases m with
  | zero => cases he2
  | succ m =>
    have p := P i ρ2 st2 H2 F2 S2
    have he2 : (match (wf i).next st2 with
      | none => .stuck
      | some none => .ok acc st2
      | some (some (v, w')) => match t.set v (wipeE env ws) with
        | none => .stuck
        | some env1 => ((ev Γ m d).ts conds env1 st2).bind fun k st => if k = true then ((ev Γ m d).e elt env1 st).bind fun y st =>
            if acc.length < sizeLine then (ev Γ m d).g w' t conds elt (wipeE env ws) (acc ++ [y]) st else .stuck
          else (ev Γ m d).g w' t conds elt (wipeE env ws) acc st) = Res.ok xs st' := he2
    cases ew : (wf i).next st2 with
    | none => rw [ew] at he2; cases he2
    | some q =>
      rw [ew] at he2 p
      cases q with
      | none =>
        cases he2
        exact .inl ⟨p, k ρ2 H2 ys F2 S2 hD2 hx2 R2⟩
      | some q =>
        obtain ⟨v, w'⟩ := q
        obtain ⟨rfl, go, yl⟩ := p
        refine .inr ⟨go, fun H => ∃ ρ2 st2 acc ys, Fut ρ1 st1.next H1 ρ2 st2.next H ∧ Sim K ca ρ2 st2 H ∧ H D = some (.lst ys) ∧ (∀ n, n < st2.next → ρ2 n ≠ D) ∧ RvL K ρ2 st2.next H acc ys ∧
          SlotsR K ρ2 st2.next H (wipeE env ws) (wipe σ ws) ∧ (ev Γ m d).g (wf (i + 1)) t conds elt (wipeE env ws) acc st2 = .ok xs st', fun H' q => ⟨m, Nat.lt_succ_self _, q⟩, fun x H3 hy => ?_⟩
        obtain ⟨F3, S3, R3⟩ := yl x H3 hy
        have hD3 := F3.fr D _ hD2 hx2
        simp only at he2
        cases et : t.set v (wipeE env ws) with
        | none => rw [et] at he2; cases he2
        | some env3 =>
          rw [et] at he2
          obtain ⟨kb, st4, e5, e6⟩ := Res.bind_ok he2
          refine ht ca ρ2 st2 H3 v x (wipeE env ws) env3 _ _ S3 et R3 (F3.slots S2 L2) fun σ3 L3 hw3 => ⟨(hw3 ws hw).trans (wipe_wipe σ ws), ?_⟩
          refine ⟨m, ρ2, st2, env3, S3, L3, kb, st4, e5, fun ρ4 H4 bb F4 S4 R4 => ?_⟩
          subst R4
          have hD4 := F4.fr D _ hD3.1 hD3.2
          cases kb with
          | false =>
            rw [if_neg Bool.false_ne_true] at e6
            refine iteF ?_
            exact ⟨ρ4, st4, acc, ys, (F2.trans F3).trans F4, S4, hD4.1, hD4.2, (F3.trans F4).rvL S2 R2, (F3.trans F4).slots S2 L2, e6⟩
          | true =>
            rw [if_pos rfl] at e6
            refine iteT ?_
            obtain ⟨y, st5, e7, e8⟩ := Res.bind_ok e6
            refine ⟨m, ρ4, st4, env3, S4, F4.slots S3 L3, y, st5, e7, fun ρ5 H5 yv F5 S5 R5 => ?_⟩
            have hD5 := F5.fr D _ hD4.1 hD4.2
            have R2' := ((F3.trans F4).trans F5).rvL S2 R2
            split at e8
            · rename_i hl
              refine ⟨ys, hD5.1, by rw [← R2.length]; exact hl, ρ5, st5, acc ++ [y], ys ++ [yv], (((F2.trans F3).trans F4).trans F5).poke hD, S5.poke hD5.1 hD5.2, upd_same, hD5.2, ?_, ?_, e8⟩
              · exact (R2'.append (.cons R5 .nil)).keep (poke_keep hD5.1)
              · exact (((F3.trans F4).trans F5).slots S2 L2).keep (poke_keep hD5.1)
            · cases e8
/-- a comprehension's reading -/
theorem comp_ok {K : PySem.W.Frag} {t : Tg} {g : TG} {mi : MI} {conds : List ME} {elt : ME} {ws : List Nat} (ht : TgOk K t g) (hw : ∀ i, i ∈ (match t with | .one i => [i] | .many is => is) → i ∈ ws) :
    ∀ σ H Q, rF K ca Γ d (.comp elt t mi conds ws) σ H Q → tLc (rI K ca Γ d mi) g (rTs K ca Γ d conds) (rE K ca Γ d elt) ws σ H Q := by
  intro σ H Q q
  obtain ⟨n, ρ, st, env, S, L, xs, st', he, k⟩ := q
  cases n with
  | zero => cases he
  | succ n =>
    have he : ((ev Γ n d).i mi env st).bind (fun w st => (ev Γ n d).g w t conds elt (wipeE env ws) [] st) = .ok xs st' := he
    obtain ⟨w, st1, e1, e2⟩ := Res.bind_ok he
    refine ⟨n, ρ, st, env, S, L, w, st1, e1, fun ρ1 H1 J wf F1 S1 hwf P D hD => ?_⟩
    have hD0 : H D = none := Fut.none' S F1 S1 hD
    exact comp_go ht hw S1 (F1.slots S L) P (by rw [hwf]; exact e2) hD fun ρ' H' ys F' S' h1 h2 r => k ρ' H' D ys (F1.trans F') S' hD0 h1 h2 r
theorem s_comp {elt tg iter : Expr} {ifs : List Expr} {scope : Scope} {own : List (Str × Nat)} {t : Tg} {g : TG} {mi : MI} {conds : List ME} {me : ME} (hc : X.calm = true) (hN : X.N.Nodup) (hi : PI X tg iter (rI X.K ca Γ d mi)) (ok : BlkOk X.N X.env.scope scope own)
    (hg : ∀ (s : Shared) (H : Hp) (C : Addr) (cl : List (Str × Addr)) (fp : List Addr), PG (X.blk s H scope (compEnvC scope cl C X.env) fp) tg g)
    (ht : ∀ (s : Shared) (H : Hp) (C : Addr) (cl : List (Str × Addr)) (fp : List Addr), PTs (X.blk s H scope (compEnvC scope cl C X.env) fp) ifs (rTs X.K ca Γ d conds))
    (he : ∀ (s : Shared) (H : Hp) (C : Addr) (cl : List (Str × Addr)) (fp : List Addr), PE (X.blk s H scope (compEnvC scope cl C X.env) fp) elt (rE X.K ca Γ d me))
    (htg : TgOk X.K t g) (hw : ∀ i, i ∈ (match t with | .one i => [i] | .many is => is) → i ∈ own.map (·.2)) (hs : ∀ x, foldedSetIterable iter X.env x = pure x := by intro _; rfl) :
    PE X (.ListComp elt [⟨tg, iter, ifs, 0⟩] scope pos) (rF X.K ca Γ d (.comp me t mi conds (own.map (·.2)))) :=
  PE.wk (pe_lc hc hN hi ok hg ht he hs) (comp_ok htg hw)
/-- y = [..] -/
theorem s_setC {i : Nat} {y : Str} {py : Pos} {elt tg iter : Expr} {ifs : List Expr} {scope : Scope} {own : List (Str × Nat)} {spos : Pos} {t : Tg} {g : TG} {mi : MI} {conds : List ME} {me : ME} (hc : X.calm = true) (hN : X.N.Nodup) (hy : X.N[i]? = some y) (hyl : X.env.scope.names.lookup y = some .local)
    (hsw : swapsWith (.ListComp elt [⟨tg, iter, ifs, 0⟩] scope pos) (some (.Name y py)) spos.line X.env = pure true) (hi : PI X tg iter (rI X.K ca Γ d mi)) (ok : BlkOk X.N X.env.scope scope own)
    (hg : ∀ (s : Shared) (H : Hp) (C : Addr) (cl : List (Str × Addr)) (fp : List Addr), PG (X.blk s H scope (compEnvC scope cl C X.env) fp) tg g)
    (ht : ∀ (s : Shared) (H : Hp) (C : Addr) (cl : List (Str × Addr)) (fp : List Addr), PTs (X.blk s H scope (compEnvC scope cl C X.env) fp) ifs (rTs X.K ca Γ d conds))
    (he : ∀ (s : Shared) (H : Hp) (C : Addr) (cl : List (Str × Addr)) (fp : List Addr), PE (X.blk s H scope (compEnvC scope cl C X.env) fp) elt (rE X.K ca Γ d me))
    (htg : TgOk X.K t g) (hw : ∀ i, i ∈ (match t with | .one i => [i] | .many is => is) → i ∈ own.map (·.2)) (hs : ∀ x, foldedSetIterable iter X.env x = pure x := by intro _; rfl) :
    PS X (.Assign [.Name y py] (.ListComp elt [⟨tg, iter, ifs, 0⟩] scope pos) spos) (rS1 X.K ca Γ d (.set i (.mk (.comp me t mi conds (own.map (·.2)))))) :=
  s_set (ps_setLc hc hN hy hyl hsw hi ok hg ht he hs) fun σ H Q q => comp_ok htg hw σ H Q (by
    obtain ⟨n, ρ, st, env, S, L, v, st', he, k⟩ := q
    cases n with
    | zero => cases he
    | succ n =>
      have he : ((ev Γ n d).l (.comp me t mi conds (own.map (·.2))) env st).bind (fun vs st => newL vs st) = .ok v st' := he
      obtain ⟨xs, st1, e1, e2⟩ := Res.bind_ok he
      refine ⟨n, ρ, st, env, S, L, xs, st1, e1, fun ρ' H' p ys F S' h0 hp hx r => ?_⟩
      unfold newL at e2
      split at e2
      · cases e2
        have q := k (ext ρ' st1.next p) H' (.ref p) (Fut.adopt S F h0) (Sim.adopt S' hp hx (.lst r))
        refine q ?_
        have q2 : Rv X.K (ext ρ' st1.next p) (st1.add (.lst xs)).next H' (.ref st1.next) (.ref (ext ρ' st1.next p st1.next)) := .ref (Nat.lt_succ_self _)
        rw [ext_same] at q2
        exact q2
      · cases e2)
/-- [.. for k in d]: the dict is locked -/
theorem s_compK {elt tg e : Expr} {ifs : List Expr} {scope : Scope} {own : List (Str × Nat)} {t : Tg} {i : Nat} {g : TG} {conds : List ME} {me : ME} (hc : X.calm = true) (hN : X.N.Nodup) (hv : PE X e (tVar i)) (ok : BlkOk X.N X.env.scope scope own)
    (hg : ∀ (s : Shared) (H : Hp) (C : Addr) (cl : List (Str × Addr)) (fp : List Addr), PG (X.blk s H scope (compEnvC scope cl C X.env) fp) tg g)
    (ht : ∀ (s : Shared) (H : Hp) (C : Addr) (cl : List (Str × Addr)) (fp : List Addr), PTs (X.blk s H scope (compEnvC scope cl C X.env) fp) ifs (rTs X.K ca Γ d conds))
    (he : ∀ (s : Shared) (H : Hp) (C : Addr) (cl : List (Str × Addr)) (fp : List Addr), PE (X.blk s H scope (compEnvC scope cl C X.env) fp) elt (rE X.K ca Γ d me))
    (htg : TgOk X.K t g) (hw : ∀ i, i ∈ (match t with | .one i => [i] | .many is => is) → i ∈ own.map (·.2)) (hs : ∀ x, foldedSetIterable e X.env x = pure x := by intro _; rfl) :
    PE X (.ListComp elt [⟨tg, e, ifs, 0⟩] scope pos) (rF X.K ca Γ d (.compK me t i conds (own.map (·.2)))) :=
  PE.wk (pe_lock (pe_lc hc hN (pi_keys hv) ok hg ht he hs)) fun σ H Q q => by
    obtain ⟨n, ρ, st, env, S, L, xs, st', he, k⟩ := q
    cases n with
    | zero => cases he
    | succ n =>
      have he : (match env[i]? with
        | some (some (.ref n')) => (match st.get n' with
          | some (.dK kvs) => ((ev Γ n d).g (.snap (kvs.map fun kv => keyMV kv.1)) t conds me (wipeE env (own.map (·.2))) [] (st.set n' (.dF kvs))).bind fun r st => unlockV n' r st
          | _ => .stuck)
        | _ => .stuck) = Res.ok xs st' := he
      cases e1 : env[i]? with
      | none => rw [e1] at he; cases he
      | some o1 =>
        cases o1 with
        | none => rw [e1] at he; cases he
        | some v =>
          rw [e1] at he
          obtain ⟨x, hx, rx⟩ := L.2 i v e1
          cases rx with
          | @ref nn hn =>
            simp only at he
            cases e0 : st.get nn with
            | none => rw [e0] at he; cases he
            | some ob =>
              rw [e0] at he
              obtain ⟨u, hu, ro⟩ := S.at hn e0
              cases ro with
              | lst _ => cases he
              | dF _ => cases he
              | ins _ => cases he
              | @dK kvs ys hr =>
                simp only at he
                obtain ⟨r2, st2, e2, e3⟩ := Res.bind_ok he
                refine ⟨ρ nn, .dK ys, hu, trivial, fun od => ?_⟩
                have W0 := Fu.write (o := .frz od (.dK ys)) S hn
                have Sl : Sim X.K ca ρ (st.set nn (.dF kvs)) (upd H (ρ nn) (.frz od (.dK ys))) := Sim.write S hn (.dF hr)
                have at0 : (upd H (ρ nn) (.frz od (.dK ys))) (ρ nn) = some (.frz od (.dK ys)) := upd_same
                refine ⟨.ref (ρ nn), hx, ρ nn, od, rfl, .inl ⟨ys, at0, fun D hD => ?_⟩⟩
                have hD0 : H D = none := by
                  have hne : D ≠ ρ nn := fun z => by rw [z, at0] at hD; cases hD
                  rw [upd_ne hne] at hD; exact hD
                refine comp_go (J := Itk (ρ nn) od ys) (Q := fun v H' => H' (ρ nn) = some (.frz od (.dK ys)) ∧ Q v (upd H' (ρ nn) (.dK ys))) htg hw Sl (W0.slots S L) (wf := fun i => .snap ((kvs.map fun kv => keyMV kv.1).drop i)) (iter_snap fun i ρ' st2 H' F S2 => ?_) e2 hD fun ρ' H' zs F' S' hDl hDx R' => ?_
                · have hz := F.fz _ _ _ at0
                  obtain ⟨q1, q2⟩ := keys_at (i := i) hr
                  refine ⟨fun z ez => ?_, fun ez => ⟨hz, q2 ez⟩⟩
                  obtain ⟨kk, vv, hk, rfl⟩ := q1 z ez
                  refine ⟨⟨hz, (List.getElem?_eq_some_iff.mp hk).1⟩, fun y H'' hy => ?_⟩
                  obtain ⟨rfl, k2, v2, hk2, rfl⟩ := hy
                  rw [hk] at hk2
                  cases hk2
                  exact ⟨rfl, key_of_rv _⟩
                · have hz := F'.fz _ _ _ at0
                  have hn' : nn < st2.next := Nat.lt_of_lt_of_le hn F'.le
                  have hρ : ρ' nn = ρ nn := F'.agr nn hn
                  unfold unlockV at e3
                  cases e4 : st2.get nn with
                  | none => rw [e4] at e3; cases e3
                  | some ob2 =>
                    rw [e4] at e3
                    obtain ⟨u2, hu2, ro2⟩ := S'.at hn' e4
                    rw [hρ, hz] at hu2
                    cases hu2
                    cases ro2 with
                    | @dF _ kvs2 _ hr2 =>
                      cases e3
                      have W2 := Fu.write (o := .dK ys) S' hn'
                      have Sf := Sim.write S' hn' (.dK hr2)
                      rw [hρ] at W2 Sf
                      have FF : Fut ρ st.next H ρ' st2.next (upd H' (ρ nn) (.dK ys)) := ⟨(W0.trans F'.toFu).trans W2, fun a o w h => by
                        have hne : a ≠ ρ nn := fun z => by rw [z, hu] at h; cases h
                        rw [upd_ne hne]
                        exact F'.fz a o w (by rw [upd_ne hne]; exact h)⟩
                      have hDn : D ≠ ρ nn := fun z => hDx nn hn' (by rw [hρ, z])
                      exact ⟨hz, k ρ' _ D zs FF Sf hD0 (by rw [upd_ne hDn]; exact hDl) hDx (Fu.rvL S' W2 R')⟩
          | _ => cases he
end
end MP

set_option Elab.async false
set_option linter.all false
set_option maxRecDepth 100000
set_option maxHeartbeats 4000000
namespace MP
open PySem PySem.Spec PyProof.Rows L2
section
variable {X : Cx} {ca : Cls0} {ρ : Nat → Addr} {st : Store} {H : Hp} {pins : List (Addr × Obj)} {σ : L2.St} {s : Shared}
/-- what repr asks of a value: it reads as data, and its text is made -/
def ReprV (X : Cx) (h : Heap) (u : Value) (d : PyData) : Prop := (∃ as, Reads h u d as) ∧ ∃ bs, ReadAtMost h d.depth bs ∧ ReprK X.prog X.w bs h d.depth u d.shown
def ReprVs (X : Cx) (h : Heap) (us : List Value) (ds : List PyData) : Prop := (∃ as, ReadsAll h us ds as) ∧ ∃ bs, ReadAtMost h (PyData.depthAll ds) bs ∧ ReprAllK X.prog X.w bs h (PyData.depthAll ds) us (PyData.shownAll ds)
theorem repr_list (f : Nat) (ih : ∀ (v : MV) (x : V) (u : Value) (d : PyData), toR st f v = some d → Rv X.K ρ st.next H v x → RelV x u → d.showable = true → d.shown.length ≤ sizeLine → ReprV X s.heap u d) :
    ∀ (xs : List MV) (ys : List V) (us : List Value) (ds : List PyData), xs.mapM (toR st f) = some ds → RvL X.K ρ st.next H xs ys → Vals ys us → PyData.showableAll ds = true → (∀ t ∈ PyData.shownAll ds, t.length ≤ sizeLine) → ReprVs X s.heap us ds
  | [], _, _, ds, h, r, rv, _, _ => by
    cases r; cases rv
    simp at h
    subst h
    exact ⟨⟨_, .nil⟩, [], (fun _ h => nomatch h), by simp only [PyData.shownAll]; exact .nil⟩
  | v :: vs, _, _, ds, h, r, rv, hs, hz => by
    cases r with
    | cons r1 r2 =>
      cases rv with
      | cons v1 v2 =>
        rw [List.mapM_cons] at h
        cases e1 : toR st f v with
        | none => rw [e1] at h; cases h
        | some d =>
          rw [e1] at h
          cases e2 : vs.mapM (toR st f) with
          | none => rw [e2] at h; cases h
          | some t =>
            rw [e2] at h
            cases h
            have hs' : d.showable = true ∧ PyData.showableAll t = true := by simpa [PyData.showableAll] using hs
            obtain ⟨⟨as1, a1⟩, b1, hb1, k1⟩ := ih v _ _ d e1 r1 v1 hs'.1 (hz _ (by simp only [PyData.shownAll]; exact List.mem_cons_self ..))
            obtain ⟨⟨as2, a2⟩, b2, hb2, k2⟩ := repr_list f ih vs _ _ t e2 r2 v2 hs'.2 (fun q hq => hz q (by simp only [PyData.shownAll]; exact List.mem_cons_of_mem _ hq))
            refine ⟨⟨_, .cons a1 a2⟩, b1 ++ b2, ?_, ?_⟩
            · intro b hm
              simp only [PyData.depthAll]
              rcases List.mem_append.mp hm with hm | hm
              · obtain ⟨d', as', r', hd'⟩ := hb1 b hm
                exact ⟨d', as', r', Nat.le_trans hd' (Nat.le_max_left _ _)⟩
              · obtain ⟨d', as', r', hd'⟩ := hb2 b hm
                exact ⟨d', as', r', Nat.le_trans hd' (Nat.le_max_right _ _)⟩
            · simp only [PyData.depthAll, PyData.shownAll]
              exact .cons ((k1.more fun b hb => List.mem_append_left _ hb).level_le (Nat.le_max_left _ _)) (k2.more_le (fun b hb => List.mem_append_right _ hb) (Nat.le_max_right _ _))
/-- a list's parts -/
theorem repr_lst {a : Addr} {its : List Value} {ds : List PyData} (p : PlainL s.heap a its.toArray) (q : ReprVs X s.heap its ds) (hz : (listText (PyData.shownAll ds)).length ≤ sizeLine) : ReprV X s.heap (.ref a) (.list ds) := by
  obtain ⟨o, n, h1, h2, _, h3⟩ := p
  obtain ⟨⟨as, ha⟩, bs, hb, hk⟩ := q
  have r : Reads s.heap (.ref a) (.list ds) _ := .list h1 h2 h3 ha
  have hna : a ∉ bs := not_mem_of_deeper r (by simp only [PyData.depth]; omega) hb
  refine ⟨⟨_, r⟩, a :: bs, ReadAtMost.cons r (by simp only [PyData.depth]; omega) hb, ?_⟩
  simp only [PyData.depth, PyData.shown]
  cases its with
  | nil =>
    cases ha
    simp only [PyData.shownAll, listText_nil]
    exact ReprK.listEmpty h1 h2 h3
  | cons x l => exact ReprK.list h1 h2 h3 hna (by simpa using hk.length_eq) (fun i y e => hk.item i y (by simpa using e))
theorem repr_tup {a : Addr} {its : List Value} {ds : List PyData} (p : IsTup s.heap a its.toArray) (q : ReprVs X s.heap its ds) : ReprV X s.heap (.ref a) (.tuple ds) := by
  obtain ⟨o, h1, h2, n, h3⟩ := p
  obtain ⟨⟨as, ha⟩, bs, hb, hk⟩ := q
  have r : Reads s.heap (.ref a) (.tuple ds) _ := .tuple h1 h2 h3 ha
  have hna : a ∉ bs := not_mem_of_deeper r (by simp only [PyData.depth]; omega) hb
  refine ⟨⟨_, r⟩, a :: bs, ReadAtMost.cons r (by simp only [PyData.depth]; omega) hb, ?_⟩
  simp only [PyData.depth, PyData.shown]
  exact ReprK.tuple h1 h2 h3 hna hk
/-- an empty dict's object -/
theorem dk0 (I : Inv X pins σ H s) {a : Addr} (e : H a = some (.dK [])) : (a == sysModules) = false ∧ ∃ (o : Obj) (n : Nat), s.heap.get? a = some o ∧ o.cls = .type "dict" ∧ o.data = .dict #[] n := by
  obtain ⟨_, z, vs, r, o, es, ep, h1, h2, h3, _, hp, _⟩ := dk_of I.hok e
  cases r
  obtain ⟨l⟩ := es
  cases hp
  exact ⟨z, o, ep, h1, h2.1, h3⟩
theorem repr_dk {a : Addr} {o : Obj} {n : Nat} (h1 : s.heap.get? a = some o) (h2 : o.cls = .type "dict") (h3 : o.data = .dict #[] n) (hsys : (a == sysModules) = false) : ReprV X s.heap (.ref a) (.dict []) := by
  have r : Reads s.heap (.ref a) (.dict []) _ := .dict h1 h2 h3 .nil .nil
  refine ⟨⟨_, r⟩, [a], ReadAtMost.cons r (Nat.zero_le _) (fun _ h => nomatch h), ?_⟩
  simp only [PyData.depth, PyData.shown, PyData.depthKv]
  exact ReprK.dict h1 h2 h3 hsys (fun h => nomatch h) .nil
theorem repr_rv (I : Inv X pins σ H s) (S : Sim X.K ca ρ st H) : ∀ (f : Nat) (v : MV) (x : V) (u : Value) (d : PyData), toR st f v = some d → Rv X.K ρ st.next H v x → RelV x u → d.showable = true → d.shown.length ≤ sizeLine → ReprV X s.heap u d
  | 0, _, _, _, _, h, _, _, _, _ => by cases h
  | f + 1, v, x, u, d, h, r, ru, hs, hz => by
    cases r with
    | non => cases h; cases ru; exact ⟨⟨_, .none⟩, [], (fun _ h => nomatch h), by simp only [PyData.shown]; exact .of_is ReprIs.none _ _ _⟩
    | bl b => cases h; cases ru; exact ⟨⟨_, .bool b⟩, [], (fun _ h => nomatch h), by simp only [PyData.shown]; exact .of_is (ReprIs.bool b) _ _ _⟩
    | int i => cases h; obtain ⟨t, rfl⟩ := ru; exact ⟨⟨_, .int i t⟩, [], (fun _ h => nomatch h), by simp only [PyData.shown]; exact .of_is (ReprIs.int t (by simpa [PyData.showable] using hs)) _ _ _⟩
    | str x => cases h; obtain ⟨t, rfl⟩ := ru; exact ⟨⟨_, .str x t⟩, [], (fun _ h => nomatch h), by simp only [PyData.shown]; exact .of_is (ReprIs.str x t (by simpa only [PyData.shown] using hz)) _ _ _⟩
    | @tup p ys xs hp hr =>
      cases ru
      have h' : (xs.mapM (toR st f)).map PyData.tuple = some d := h
      cases e : xs.mapM (toR st f) with
      | none => rw [e] at h'; cases h'
      | some ds =>
        rw [e] at h'
        cases h'
        obtain ⟨its, rv, q, _⟩ := I.tuple hp
        have hz' : (tupleText (PyData.shownAll ds)).length ≤ sizeLine := by simpa only [PyData.shown] using hz
        exact repr_tup q (repr_list f (repr_rv I S f) xs ys its ds e hr rv (by simpa [PyData.showable] using hs) (fun t ht => Nat.le_trans (tupleText_mem_le ht) hz'))
    | @scr p ys xs hp hr =>
      cases ru
      have h' : (xs.mapM (toR st f)).map PyData.list = some d := h
      cases e : xs.mapM (toR st f) with
      | none => rw [e] at h'; cases h'
      | some ds =>
        rw [e] at h'
        cases h'
        obtain ⟨its, rv, q, _⟩ := I.list hp.sq
        have hz' : (listText (PyData.shownAll ds)).length ≤ sizeLine := by simpa only [PyData.shown] using hz
        exact repr_lst q (repr_list f (repr_rv I S f) xs ys its ds e hr rv (by simpa [PyData.showable] using hs) (fun t ht => Nat.le_trans (listText_mem_le ht) hz')) hz'
    | @ref n hn =>
      cases ru
      have h' : (match st.get n with
        | some (.lst xs) => (xs.mapM (toR st f)).map PyData.list
        | some (.dK []) => some (.dict [])
        | _ => none) = some d := h
      cases e0 : st.get n with
      | none => rw [e0] at h'; cases h'
      | some o =>
        rw [e0] at h'
        obtain ⟨w, hw, ro⟩ := S.at hn e0
        cases ro with
        | @lst xs ys hr =>
          have h2 : (xs.mapM (toR st f)).map PyData.list = some d := h'
          cases e : xs.mapM (toR st f) with
          | none => rw [e] at h2; cases h2
          | some ds =>
            rw [e] at h2
            cases h2
            obtain ⟨its, rv, q, _⟩ := I.list (SqL.of hw)
            have hz' : (listText (PyData.shownAll ds)).length ≤ sizeLine := by simpa only [PyData.shown] using hz
            exact repr_lst q (repr_list f (repr_rv I S f) xs _ its ds e hr rv (by simpa [PyData.showable] using hs) (fun t ht => Nat.le_trans (listText_mem_le ht) hz')) hz'
        | @dK xs ys hr =>
          cases xs with
          | cons _ _ => cases h'
          | nil =>
            cases h'
            cases hr
            obtain ⟨hsys, o, n, h1, h2, h3⟩ := dk0 I hw
            exact repr_dk h1 h2 h3 hsys
        | dF _ => cases h'
        | ins _ => cases h'
/-- repr's call -/
def rRepr (K : PySem.W.Frag) : List V → Hp → VK → Prop := fun xs H Q => ∃ (ca : Cls0) (ρ : Nat → Addr) (st : Store) (v : MV) (x : V) (d : PyData), xs = [x] ∧ Sim K ca ρ st H ∧ Rv K ρ st.next H v x ∧ toR st 66 v = some d ∧
  (d.showable = true ∧ d.shown.length ≤ sizeLine ∧ d.depth ≤ 64) ∧ Q (.str d.shown) H
theorem call_reprR (hg : X.A.guards = some []) (hu : X.A.units + 67 < cLine) : CallR X (.builtin "repr") (rRepr X.K) := by
  intro pins s σ H xs us Q I rv h
  obtain ⟨ca, ρ, st, v, x, d, rfl, S, r, e, ⟨h1, h2, h3⟩, q⟩ := h
  obtain ⟨u, rfl, ru⟩ := Vals.one rv
  have e' : toR st (65 + 1) v = some d := e
  cases r with
  | non => cases e'; cases ru; exact P.repr_of_none ⟨.str _, H, I.tok _, ⟨_, rfl⟩, by simpa [PyData.shown] using q⟩
  | bl b => cases e'; cases ru; exact P.repr_of_bool ⟨.str _, H, I.tok _, ⟨_, rfl⟩, by simpa [PyData.shown] using q⟩
  | int i => cases e'; obtain ⟨t, rfl⟩ := ru; exact P.repr_of_int (by simpa [PyData.showable] using h1) ⟨.str _, H, I.tok _, ⟨_, rfl⟩, by simpa [PyData.shown] using q⟩
  | str x => cases e'; obtain ⟨t, rfl⟩ := ru; exact P.repr_of_str ⟨.str _, H, I.tok _, ⟨_, rfl⟩, by simpa [PyData.shown] using q⟩ (by simpa [PyData.shown] using h2)
  | @tup p ys xs hp hr =>
    cases ru
    have h' : (xs.mapM (toR st 65)).map PyData.tuple = some d := e'
    cases e2 : xs.mapM (toR st 65) with
    | none => rw [e2] at h'; cases h'
    | some ds =>
      rw [e2] at h'
      cases h'
      obtain ⟨its, rv, pq, _⟩ := I.tuple hp
      have hz' : (tupleText (PyData.shownAll ds)).length ≤ sizeLine := by simpa only [PyData.shown] using h2
      have hq := repr_list (s := s) 65 (repr_rv I S 65) xs ys its ds e2 hr rv (by simpa [PyData.showable] using h1) (fun t ht => Nat.le_trans (tupleText_mem_le ht) hz')
      obtain ⟨o, g1, g2, n, g3⟩ := pq
      obtain ⟨⟨as, ha⟩, bs, hb, hk⟩ := hq
      have hna : p ∉ bs := not_mem_of_deeper (.tuple g1 g2 g3 ha) (by simp only [PyData.depth]; omega) hb
      simp only [PyData.depth] at h3
      refine call_repr_slot (by omega) ⟨o, g1, g2⟩ F.slot_tuple_repr (call_tuple_reprK g1 g2 g3 hna hk hg (fun b _ => Clear.nil b) (by show X.A.units + 1 + (PyData.depthAll ds + 1) < cLine; omega) (fun _ _ e => e) (fun h' u tk hk' => ⟨_, _, rfl, .str _, H, I.kept hk', ⟨_, rfl⟩, by simpa only [PyData.shown] using q⟩) hz')
  | @scr p ys xs hp hr =>
    cases ru
    have h' : (xs.mapM (toR st 65)).map PyData.list = some d := e'
    cases e2 : xs.mapM (toR st 65) with
    | none => rw [e2] at h'; cases h'
    | some ds =>
      rw [e2] at h'
      cases h'
      obtain ⟨its, rv, pq, _⟩ := I.list hp.sq
      have hz' : (listText (PyData.shownAll ds)).length ≤ sizeLine := by simpa only [PyData.shown] using h2
      have hq := repr_list (s := s) 65 (repr_rv I S 65) xs ys its ds e2 hr rv (by simpa [PyData.showable] using h1) (fun t ht => Nat.le_trans (listText_mem_le ht) hz')
      exact repr_top hg hu pq hq h3 hz' I (by simpa only [PyData.shown] using q)
  | @ref n hn =>
    cases ru
    have h' : (match st.get n with
      | some (.lst xs) => (xs.mapM (toR st 65)).map PyData.list
      | some (.dK []) => some (.dict [])
      | _ => none) = some d := e'
    cases e0 : st.get n with
    | none => rw [e0] at h'; cases h'
    | some o =>
      rw [e0] at h'
      obtain ⟨w, hw, ro⟩ := S.at hn e0
      cases ro with
      | @lst xs ys hr =>
        have h5 : (xs.mapM (toR st 65)).map PyData.list = some d := h'
        cases e2 : xs.mapM (toR st 65) with
        | none => rw [e2] at h5; cases h5
        | some ds =>
          rw [e2] at h5
          cases h5
          obtain ⟨its, rv, pq, _⟩ := I.list (SqL.of hw)
          have hz' : (listText (PyData.shownAll ds)).length ≤ sizeLine := by simpa only [PyData.shown] using h2
          have hq := repr_list (s := s) 65 (repr_rv I S 65) xs _ its ds e2 hr rv (by simpa [PyData.showable] using h1) (fun t ht => Nat.le_trans (listText_mem_le ht) hz')
          exact repr_top hg hu pq hq h3 hz' I (by simpa only [PyData.shown] using q)
      | @dK xs ys hr =>
        cases xs with
        | cons _ _ => cases h'
        | nil =>
          cases h'
          cases hr
          obtain ⟨hsys, o, n, g1, g2, g3⟩ := dk0 I hw
          have e3 : (PyData.dict []).shown = dictText [] := by simp only [PyData.shown, PyData.shownKv]
          rw [e3] at q h2
          exact call_repr_slot (by omega) ⟨o, g1, g2⟩ F.slot_dict_repr (call_dict_reprK (as := []) (d := 0) g1 g2 g3 hsys (fun h => nomatch h) .nil hg (fun b _ => Clear.nil b) (by show X.A.units + 1 + (0 + 1) < cLine; omega) (fun _ _ e => e) (fun h' u tk hk' => ⟨_, _, rfl, .str _, H, I.kept hk', ⟨_, rfl⟩, q⟩) h2)
      | dF _ => cases h'
      | ins _ => cases h'
where
  repr_top {X : Cx} {pins : List (Addr × Obj)} {σ : L2.St} {H : Hp} {s : Shared} {a : Addr} {its : List Value} {ds : List PyData} {Q : VK} (hg : X.A.guards = some []) (hu : X.A.units + 67 < cLine) (p : PlainL s.heap a its.toArray) (q : ReprVs X s.heap its ds) (h3 : (PyData.list ds).depth ≤ 64)
      (hz : (listText (PyData.shownAll ds)).length ≤ sizeLine) (I : Inv X pins σ H s) (k : Q (.str (listText (PyData.shownAll ds))) H) : wpAny (model X.prog X.w) X.A (call (.builtin "repr") [.ref a]) (EP X pins σ Q) X.xe s := by
    obtain ⟨o, n, g1, g2, _, g3⟩ := p
    obtain ⟨⟨as, ha⟩, bs, hb, hk⟩ := q
    have hna : a ∉ bs := not_mem_of_deeper (.list g1 g2 g3 ha) (by simp only [PyData.depth]; omega) hb
    simp only [PyData.depth] at h3
    refine call_repr_slot (by omega) ⟨o, g1, g2⟩ F.slot_list_repr.toG ?_
    cases its with
    | nil =>
      cases ha
      simp only [PyData.shownAll, listText_nil] at k
      exact call_list_repr_empty ⟨o, g1, g2⟩ g1 g3 ⟨_, _, rfl, .str _, H, I.tok _, ⟨_, rfl⟩, k⟩
    | cons x l =>
      exact call_list_reprK g1 g2 g3 hna (by simpa using hk.length_eq) (fun i y e => hk.item i y (by simpa using e)) hg (fun b _ => Clear.nil b) (by show X.A.units + 1 + (PyData.depthAll ds + 1) < cLine; omega) (fun _ _ e => e) (fun h' u tk hk' => ⟨_, _, rfl, .str _, H, I.kept hk', ⟨_, rfl⟩, k⟩) hz
end
section
variable {X : Cx} {ca : Cls0} {Γ : Tab} {d : Nat} {a : Expr} {ma : ME} {pos : Pos}
theorem boot_repr : bootBuiltins "repr" = some (.builtin "repr") := by decide +kernel
theorem s_repr {p : Pos} {k : Nat} (hr : Room k X.A) (hgd : X.A.guards = some []) (hg : Gl X "repr") (hm : X.mg "repr" = none) (ha : PA X [a] (rA X.K ca Γ d [ma])) (na : ns a = true := by rfl) : PE X (.Call (.Name "repr" p) [a] [] pos) (rE X.K ca Γ d (.bi .repr [ma])) :=
  eA_wk (r := rRepr X.K) (pe_callB (call_reprR hgd (by have := hr.un; omega)) hg hm boot_repr ha (by decide) (by decide) (star_cons na) rfl) (fun _ _ _ => rfl) fun ρ st H x xv v st' Q h S hx c => by
    cases hx with
    | nil => cases h
    | @cons w y _ _ h1 t =>
      cases t with
      | cons _ _ => cases h1 <;> cases h
      | nil =>
        have h' : (match toR st 66 w with
          | some d => if d.showable = true ∧ d.shown.length ≤ sizeLine ∧ d.depth ≤ 64 then Res.ok (MV.str d.shown) st else .stuck
          | none => .stuck) = .ok v st' := by
          exact h
        cases e : toR st 66 w with
        | none => rw [e] at h'; cases h'
        | some dd =>
          rw [e] at h'
          simp only at h'
          split at h'
          · cases h'
            exact ⟨ca, ρ, st, w, y, dd, rfl, S, h1, e, by assumption, c.here S (.str _)⟩
          · cases h'
/-! ### a dict's display -/
def readsP (K : PySem.W.Frag) (ca : Cls0) (Γ : Tab) (d : Nat) (kvs : List (ME × ME)) : List (TE × TE) := kvs.map fun kv => (rE K ca Γ d kv.1, rE K ca Γ d kv.2)
theorem p_nil {pos : Pos} : PPs X pos [] [] (readsP X.K ca Γ d []) := pps_nil
theorem p_cons {pos : Pos} {k v : Expr} {ks : List (Option Expr)} {vs : List Expr} {mk mv : ME} {kvs : List (ME × ME)} (hk : PE X k (rE X.K ca Γ d mk)) (hv : PE X v (rE X.K ca Γ d mv)) (hr : PPs X pos ks vs (readsP X.K ca Γ d kvs)) :
    PPs X pos (some k :: ks) (v :: vs) (readsP X.K ca Γ d ((mk, mv) :: kvs)) := pps_cons hk hv hr
theorem pairs_rd {K : PySem.W.Frag} : ∀ (kvs : List (ME × ME)) (n : Nat) (ρ : Nat → Addr) (st : Store) (env : Env) (σ : L2.St) (H : Hp) (ps : List (MV × MV)) (st' : Store) (q : List (Key × MV)) (Q : List (V × V) → Hp → Prop), Sim K ca ρ st H → SlotsR K ρ st.next H env σ →
    (ev Γ n d).p kvs env st = .ok ps st' → kvsV ps = some q →
    (∀ ρ' H' ys, Fut ρ st.next H ρ' st'.next H' → Sim K ca ρ' st' H' → RvP K ρ' st'.next H' q ys → ys.length = kvs.length → Q (ys.map fun kv => (kV kv.1, kv.2)) H') → tPairs (readsP K ca Γ d kvs) σ H Q
  | [], n, ρ, st, env, σ, H, ps, st', q, Q, S, L, he, hq, k => by
    cases n with
    | zero => cases he
    | succ n =>
      cases he
      cases hq
      exact k ρ H [] (Fut.refl _ _ _) S .nil rfl
  | (mk, mv) :: kvs, n, ρ, st, env, σ, H, ps, st', q, Q, S, L, he, hq, k => by
    cases n with
    | zero => cases he
    | succ n =>
      have he : ((ev Γ n d).e mk env st).bind (fun q st => ((ev Γ n d).e mv env st).bind fun v st => ((ev Γ n d).p kvs env st).bind fun vs st => .ok ((q, v) :: vs) st) = .ok ps st' := he
      obtain ⟨x, st1, e1, e2⟩ := Res.bind_ok he
      obtain ⟨y, st2, e3, e4⟩ := Res.bind_ok e2
      obtain ⟨r, st3, e5, e6⟩ := Res.bind_ok e4
      cases e6
      have hq' : (match keyV x, kvsV r with
        | some q, some t => some ((q, y) :: t)
        | _, _ => none) = some q := hq
      cases e7 : keyV x with
      | none => rw [e7] at hq'; cases hq'
      | some kx =>
        cases e8 : kvsV r with
        | none => rw [e7, e8] at hq'; cases hq'
        | some t =>
          rw [e7, e8] at hq'
          cases hq'
          refine ⟨n, ρ, st, env, S, L, x, st1, e1, fun ρ1 H1 xv F1 S1 R1 => ⟨n, ρ1, st1, env, S1, F1.slots S L, y, st2, e3, fun ρ2 H2 yv F2 S2 R2 => ?_⟩⟩
          refine pairs_rd kvs n ρ2 st2 env σ H2 r _ t _ S2 (F2.slots S1 (F1.slots S L)) e5 e8 fun ρ3 H3 ys F3 S3 R3 hl => ?_
          have hx : xv = kV kx := key_rv e7 R1
          have := k ρ3 H3 ((kx, yv) :: ys) ((F1.trans F2).trans F3) S3 (.cons (F3.rv S2 R2) R3) (by simp [hl])
          rw [hx]
          exact this
theorem s_dic {ks : List (Option Expr)} {vs : List Expr} {kvs : List (ME × ME)} (h : PPs X pos ks vs (readsP X.K ca Γ d kvs)) (hall : ks.all (·.isSome) = true := by rfl) (hl : ks.length = vs.length := by rfl) (h0 : ks ≠ [] := by exact List.cons_ne_nil _ _) (h15 : ks.length ≤ 15 := by decide) (hk : kvs.length = ks.length := by rfl) :
    PE X (.Dict ks vs pos) (rE X.K ca Γ d (.dicD kvs)) := by
  refine PE.wk (pe_disp h hall hl h0 h15) fun σ H Q q => ?_
  obtain ⟨n, ρ, st, env, S, L, v, st', he, k⟩ := q
  cases n with
  | zero => cases he
  | succ n =>
    have he : (if kvs.length ≤ 15 then ((ev Γ n d).p kvs env st).bind (fun ps st => match kvsV ps with
      | some q => Res.ok (MV.ref st.next) (st.add (.dK (kvMerge [] q)))
      | none => .stuck) else .stuck) = .ok v st' := he
    rw [if_pos (by rw [hk]; exact h15)] at he
    obtain ⟨ps, st1, e1, e2⟩ := Res.bind_ok he
    cases e3 : kvsV ps with
    | none => rw [e3] at e2; cases e2
    | some t =>
      rw [e3] at e2
      cases e2
      intro p hp
      refine pairs_rd kvs n ρ st env σ _ ps st1 t _ (S.grow hp) ((Fut.grow S hp).slots S L) e1 e3 fun ρ' H' ys F S' R hlen => ?_
      have hpx : ∀ n, n < st.next → ρ n ≠ p := fun n hn z => by
        obtain ⟨_, u, _, hu, _⟩ := S.obj n hn
        rw [z, hp] at hu; cases hu
      obtain ⟨h1, h2⟩ := F.fr p _ (upd_same) hpx
      refine ⟨h1, ys, rfl, by rw [hlen, hk]; exact h15, ?_⟩
      have keep : ∀ a o, Imm o → H' a = some o → (upd H' p (.dK (mergeK [] ys))) a = some o := fun a o i e => by
        have : a ≠ p := fun z => by rw [z, h1] at e; cases e; exact i
        rw [upd_ne this]; exact e
      have Rm : RvP X.K ρ' st1.next H' (kvMerge [] t) (mergeK [] ys) := merge_rv .nil R
      have S2 : Sim X.K ca ρ' st1 (upd H' p (.dK (mergeK [] ys))) := ⟨S'.wf, S'.inj, fun n hn => by
        obtain ⟨mo, u, g1, g2, g3⟩ := S'.obj n hn
        exact ⟨mo, u, g1, by rw [upd_ne (h2 n hn)]; exact g2, RO.keep keep g3⟩⟩
      have S3 := Sim.adopt S2 (p := p) (mo := .dK (kvMerge [] t)) upd_same h2 (.dK (RvP.keep keep Rm))
      have F0 : Fut ρ st.next H ρ' st1.next H' := (Fut.grow S hp).trans F
      have F2 : Fut ρ st.next H ρ' st1.next (upd H' p (.dK (mergeK [] ys))) := ⟨⟨F0.le, F0.agr, fun a o e hx => by
        obtain ⟨g1, g2⟩ := F0.fr a o e hx
        have : a ≠ p := ne_of_none e hp
        exact ⟨by rw [upd_ne this]; exact g1, g2⟩⟩, fun a o u h => by rw [upd_ne (ne_of_none h hp)]; exact F0.fz a o u h⟩
      have F3 := Fut.adopt S F2 hp
      have q := k _ _ (.ref p) F3 S3
      refine q ?_
      have q2 : Rv X.K (ext ρ' st1.next p) (st1.add (.dK (kvMerge [] t))).next (upd H' p (.dK (mergeK [] ys))) (.ref st1.next) (.ref (ext ρ' st1.next p st1.next)) := .ref (Nat.lt_succ_self _)
      rw [ext_same] at q2
      exact q2
theorem s_dic0 : PE X (.Dict [] [] pos) (rE X.K ca Γ d (.dicD [])) := by
  refine PE.wk pe_dnewK fun σ H Q q => ?_
  obtain ⟨n, ρ, st, env, S, L, v, st', he, k⟩ := q
  cases n with
  | zero => cases he
  | succ n =>
    cases n with
    | zero => cases he
    | succ n =>
      have he : Res.ok (MV.ref st.next) (st.add (.dK [])) = .ok v st' := he
      cases he
      intro p hp
      have q := k (ext ρ st.next p) (upd H p (.dK [])) (.ref p) (Fut.alloc S hp) (Sim.alloc S hp (.dK .nil))
      refine q ?_
      have q2 : Rv X.K (ext ρ st.next p) (st.add (.dK [])).next (upd H p (.dK [])) (.ref st.next) (.ref (ext ρ st.next p st.next)) := .ref (Nat.lt_succ_self _)
      rw [ext_same] at q2
      exact q2
end
end MP

set_option Elab.async false
set_option linter.all false
set_option maxRecDepth 100000
set_option maxHeartbeats 4000000
namespace MP
open PySem PySem.Spec PyProof.Rows L2

/-- a def's promise, where no guard is up -/
structure FnG (P : Program) (w : World) (K : PySem.W.Frag) (mg : Str → Option Value) (base : Heap) (k : Nat) (f : Addr) (fd : FuncData) (ps : List Str) (sp : Sp) : Prop where
  len : ∀ vs H Q E, sp vs H Q E → vs.length = ps.length
  go : ∀ (A : Around) (outer : List PySem.Env) (s : Shared) (H : Hp) (args : Args) (us : List Value) (vs : List V) (Q : VK) (E : XK), Room k A → A.guards = some [] →
    Env0 P w K mg base A outer s H → BindsTo s fd args (ps.zip us) → Vals vs us → sp vs H Q E → codeAny (model P w) A (.call (.ref f) args) (CR CX0 outer P w H s Q E) s
/-- what a def of the table promises: what the evaluator reckons of its body -/
def spF (K : PySem.W.Frag) (ca : Cls0) (Γ : Tab) (d f : Nat) : Sp := fun vs H Q _ =>
  ∃ n ρ st mvs fn, Γ f = some fn ∧ Sim K ca ρ st H ∧ RvL K ρ st.next H mvs vs ∧ Out K ca (Rv K) ρ st H (callB (ev Γ n d) fn mvs st) Q
/-- all defs of the table, at all lower depths -/
def Fns (P : Program) (w : World) (K : PySem.W.Frag) (mg : Str → Option Value) (base : Heap) (ca : Cls0) (Γ : Tab) (fa : Nat → Addr) (d : Nat) : Prop :=
  ∀ d', d' < d → ∀ f fn, Γ f = some fn → ∃ fd ps, Binds K fd ps [] ∧ FnG P w K mg base (d' + 1) (fa f) fd ps (spF K ca Γ d' f)
/-- what a body's context bears -/
structure Cg (X : Cx) (ca : Cls0) (Γ : Tab) (fa : Nat → Addr) (d : Nat) : Prop where
  room : Room d X.A
  gd : X.A.guards = some []
  calm : X.calm = true
  fns : Fns X.prog X.w X.K X.mg X.base ca Γ fa d
theorem Cg.blk {X : Cx} {ca : Cls0} {Γ : Tab} {fa : Nat → Addr} {d : Nat} (C : Cg X ca Γ fa d) (s : Shared) (H : Hp) (sc : Scope) (env : PySem.Env) (fp : List Addr) : Cg (X.blk s H sc env fp) ca Γ fa d := ⟨C.room, C.gd, C.calm, C.fns⟩
section
variable {X : Cx} {ca : Cls0} {Γ : Tab} {fa : Nat → Addr} {d : Nat}
theorem FnG.call {k : Nat} {f : Addr} {fd : FuncData} {ps : List Str} {sp : Sp} {pins : List (Addr × Obj)} {σ : L2.St} {H : Hp} {s : Shared} {Q : VK} {us : List Value} {vs : List V} (F : FnG X.prog X.w X.K X.mg X.base k f fd ps sp) (hr : Room k X.A) (hg : X.A.guards = some []) (hb : Binds X.K fd ps [])
    (I : Inv X pins σ H s) (r : Vals vs us) (h : sp vs H Q E0) : wpAny (model X.prog X.w) X.A (PySem.call (.ref f) us) (EP X pins σ Q) X.xe s := by
  have hz : us.length = ps.length := r.length.symm.trans (F.len _ _ _ _ h)
  have bt := hb s us I.kIn (by rw [List.append_nil]; exact hz)
  rw [List.append_nil] at bt
  refine wpAny_call (codeAny_mono (F.go X.A X.stack s H ⟨us, []⟩ us vs Q E0 hr hg I.env0 bt r h) fun res s2 hq => ?_)
  match res, hq with
  | .ok (.ret _), hq => exact I.after hq
  | .ok .next, hq => exact False.elim hq
  | .ok .brk, hq => exact False.elim hq
  | .ok .cont, hq => exact False.elim hq
  | .error _, hq => exact False.elim hq
theorem pe_false {e : Expr} : PE X e (fun _ _ _ => False) := ⟨fun _ _ _ _ _ _ h => h.elim⟩
/-- a call in the table: what it asks of the room -/
theorem call_some {n : Nat} {f : Nat} {vs : List MV} {st st' : Store} {v : MV} (h : (match Γ f, d with
      | some fn, d' + 1 => callB (ev Γ n d') fn vs st
      | _, _ => .stuck) = Res.ok v st') : ∃ fn d', Γ f = some fn ∧ d = d' + 1 ∧ callB (ev Γ n d') fn vs st = .ok v st' := by
  cases hf : Γ f with
  | none => rw [hf] at h; cases h
  | some fn =>
    cases d with
    | zero => rw [hf] at h; cases h
    | succ d' => rw [hf] at h; exact ⟨fn, d', rfl, rfl, h⟩
theorem new_some {n : Nat} {f c : Nat} {vs : List MV} {st st' : Store} {v : MV} (h : (match Γ f, d with
      | some fn, d' + 2 => (callB (ev Γ n d') fn (.ref st.next :: vs) (st.add (.ins c []))).bind fun r st' => (match r with
        | .non => .ok (.ref st.next) st'
        | _ => .stuck)
      | _, _ => .stuck) = Res.ok v st') : ∃ fn d', Γ f = some fn ∧ d = d' + 2 ∧ callB (ev Γ n d') fn (.ref st.next :: vs) (st.add (.ins c [])) = .ok .non st' ∧ v = .ref st.next := by
  cases hf : Γ f with
  | none => rw [hf] at h; cases h
  | some fn =>
    match d with
    | 0 => rw [hf] at h; cases h
    | 1 => rw [hf] at h; cases h
    | d' + 2 =>
      rw [hf] at h
      obtain ⟨r, st2, e1, e2⟩ := Res.bind_ok h
      cases r with
      | non => cases e2; exact ⟨fn, d', rfl, rfl, e1, rfl⟩
      | _ => cases e2
theorem s_call {f : Nat} {x : Str} {p pos : Pos} {e : Expr} {es : List Expr} {ms : List ME} (C : Cg X ca Γ fa d) (hg : Gl X x) (hm : X.mg x = some (.ref (fa f))) (hk : PySem.W.keepIn X.K (.ref (fa f)) = true) (ha : PA X (e :: es) (rA X.K ca Γ d ms)) (hs : (e :: es).all ns = true := by rfl) (hd : (x == ("__debug__" : Str)) = false := by decide) :
    PE X (.Call (.Name x p) (e :: es) [] pos) (rE X.K ca Γ d (.call f ms)) := by
  rw [List.all_cons, Bool.and_eq_true] at hs
  have core : PE X (.Call (.Name x p) (e :: es) [] pos) (fun σ H Q => rA X.K ca Γ d ms σ H fun vs H1 => ∃ d' fn, d = d' + 1 ∧ Γ f = some fn ∧ spF X.K ca Γ d' f vs H1 Q E0) := ⟨fun pins s σ H Q I h => by
    refine wpAny_Call_Name_kw (ld_glob I hg hm ?_ hd)
    refine PySem.W.callWith_K (h₀ := X.base) I.ok.mod.kin hk (thn (ha.run pos pins s σ H _ I h) fun us s1 ⟨vs, H1, I1, r, d', fn, ed, hf, q⟩ => ⟨I1.kIn, ?_⟩) (star_cons hs.1) (star_any hs.2)
    obtain ⟨fd, ps, bd, F⟩ := C.fns d' (by omega) f fn hf
    have hr : Room (d' + 1) X.A := by rw [← ed]; exact C.room
    exact F.call hr C.gd bd I1 r q⟩
  refine PE.wk core fun σ H Q q => ?_
  obtain ⟨n, ρ, st, env, S, L, v, st', he, k⟩ := q
  cases n with
  | zero => cases he
  | succ n =>
    have he : ((ev Γ n d).a ms env st).bind (fun vs st => match Γ f, d with
      | some fn, d' + 1 => callB (ev Γ n d') fn vs st
      | _, _ => .stuck) = .ok v st' := he
    obtain ⟨vs, st1, e1, e2⟩ := Res.bind_ok he
    obtain ⟨fn, d', hf, ed, e3⟩ := call_some e2
    exact ⟨n, ρ, st, env, S, L, vs, st1, e1, fun ρ1 H1 ys F1 S1 R1 => ⟨d', fn, ed, hf, n, ρ1, st1, vs, fn, hf, S1, R1, v, st', e3, fun ρ2 H2 z F2 S2 R2 => k ρ2 H2 z (F1.trans F2) S2 R2⟩⟩
/-- a call without arguments -/
theorem s_call0 {f : Nat} {x : Str} {p pos : Pos} (C : Cg X ca Γ fa d) (hg : Gl X x) (hm : X.mg x = some (.ref (fa f))) (hk : PySem.W.keepIn X.K (.ref (fa f)) = true) (hd : (x == ("__debug__" : Str)) = false := by decide) : PE X (.Call (.Name x p) [] [] pos) (rE X.K ca Γ d (.call f [])) := by
  have core : PE X (.Call (.Name x p) [] [] pos) (fun σ H Q => ∃ d' fn, d = d' + 1 ∧ Γ f = some fn ∧ spF X.K ca Γ d' f [] H Q E0) := ⟨fun pins s σ H Q I ⟨d', fn, ed, hf, q⟩ => by
    refine wpAny_Call_Name_kw (ld_glob I hg hm ?_ hd)
    obtain ⟨fd, ps, bd, F⟩ := C.fns d' (by omega) f fn hf
    have hr : Room (d' + 1) X.A := by rw [← ed]; exact C.room
    exact PySem.W.callWith_K0 I.kIn hk (F.call (us := []) hr C.gd bd I .nil q)⟩
  refine PE.wk core fun σ H Q q => ?_
  obtain ⟨n, ρ, st, env, S, L, v, st', he, k⟩ := q
  cases n with
  | zero => cases he
  | succ n =>
    have he : ((ev Γ n d).a [] env st).bind (fun vs st => match Γ f, d with
      | some fn, d' + 1 => callB (ev Γ n d') fn vs st
      | _, _ => .stuck) = .ok v st' := he
    obtain ⟨vs, st1, e1, e2⟩ := Res.bind_ok he
    obtain ⟨fn, d', hf, ed, e3⟩ := call_some e2
    cases n with
    | zero => cases e1
    | succ n =>
      cases e1
      exact ⟨d', fn, ed, hf, n + 1, ρ, st, [], fn, hf, S, .nil, v, st', e3, k⟩
/-! ### instances -/
theorem lookup_rv {K : PySem.W.Frag} {ρ : Nat → Addr} {N : Nat} {H : Hp} {f : Str} : ∀ {xs : List (Str × MV)} {ys : List (Str × V)}, RvP K ρ N H xs ys → (xs.lookup f = none ∧ ys.lookup f = none) ∨ ∃ v x, xs.lookup f = some v ∧ ys.lookup f = some x ∧ Rv K ρ N H v x
  | _, _, .nil => .inl ⟨rfl, rfl⟩
  | _, _, @RvP.cons _ _ _ _ _ q x y xs ys h t => by
    rw [List.lookup_cons, List.lookup_cons]
    cases f == q with
    | true => exact .inr ⟨x, y, rfl, rfl, h⟩
    | false => exact lookup_rv t
theorem fldPut_rv {K : PySem.W.Frag} {ρ : Nat → Addr} {N : Nat} {H : Hp} {f : Str} {v : MV} {x : V} (r : Rv K ρ N H v x) : ∀ {xs : List (Str × MV)} {ys : List (Str × V)}, RvP K ρ N H xs ys → RvP K ρ N H (fldPut f v xs) (putF f x ys)
  | _, _, .nil => .cons r .nil
  | _, _, @RvP.cons _ _ _ _ _ q x' y xs ys h t => by
    unfold fldPut putF
    by_cases e : q = f
    · rw [if_pos e, if_pos e]; exact .cons r t
    · rw [if_neg e, if_neg e]; exact .cons h (fldPut_rv r t)
theorem ins_rv {K : PySem.W.Frag} {ρ : Nat → Addr} {st : Store} {H : Hp} {v : MV} {x : V} {c : Nat} {fs : List (Str × MV)} (S : Sim K ca ρ st H) (r : Rv K ρ st.next H v x) (h : insV st v = some (c, fs)) :
    ∃ n dx ys, v = .ref n ∧ n < st.next ∧ st.get n = some (.ins c fs) ∧ x = .ref (ρ n) ∧ H (ρ n) = some (.ins (ca c) dx ys) ∧ RvP K ρ st.next H fs ys := by
  cases r with
  | @ref n hn =>
    have h' : (match st.get n with
      | some (.ins c fs) => some (c, fs)
      | _ => none) = some (c, fs) := h
    cases e0 : st.get n with
    | none => rw [e0] at h'; cases h'
    | some o =>
      rw [e0] at h'
      obtain ⟨u, hu, ro⟩ := S.at hn e0
      cases ro with
      | lst _ => cases h'
      | dK _ => cases h'
      | dF _ => cases h'
      | ins hr => cases h'; exact ⟨n, _, _, rfl, hn, e0, rfl, hu, hr⟩
  | _ => cases h
/-- what is asked of the classes that an attribute is read of -/
def FldOk (K : PySem.W.Frag) (ca : Cls0) (cs : List Nat) (f : Str) : Prop := ∀ c ∈ cs, Cls K (ca c) ∧ NoAttr K (ca c) f
theorem s_fld {cs : List Nat} {f : Str} {o : Expr} {mo : ME} {pos : Pos} (ho : PE X o (rE X.K ca Γ d mo)) (hc : FldOk X.K ca cs f) (hb : attributeBase o f X.env (eval o X.env) = eval o X.env := by rfl) : PE X (.Attribute o f pos) (rE X.K ca Γ d (.fld cs mo f)) :=
  e1_wk (r := fun x H1 Q => ∃ a C dx fs v, x = .ref a ∧ H1 a = some (.ins C dx fs) ∧ Cls X.K C ∧ NoAttr X.K C f ∧ fs.lookup f = some v ∧ Q v H1) (te := rE X.K ca Γ d mo) (f := fun _ x st => fldV cs f x st) (pe_fld ho hb) rfl (fun _ _ _ => rfl) fun n ρ st H x xv v st' Q h S hx c => by
    have hh : (match insV st x with
      | some (c, fs) => if cs.contains c = true then (match fs.lookup f with
        | some v => Res.ok v st
        | none => .stuck) else .stuck
      | none => .stuck) = .ok v st' := h
    clear h
    cases e : insV st x with
    | none => rw [e] at hh; cases hh
    | some cf =>
      obtain ⟨cc, fs⟩ := cf
      rw [e] at hh
      simp only at hh
      split at hh
      · rename_i hin
        obtain ⟨n, dx, ys, rfl, hn, hg, rfl, hu, hr⟩ := ins_rv S hx e
        rcases lookup_rv (f := f) hr with ⟨e1, _⟩ | ⟨w, y, e1, e2, rw'⟩
        · rw [e1] at hh; cases hh
        · rw [e1] at hh
          cases hh
          obtain ⟨k1, k2⟩ := hc cc (by simpa using hin)
          exact ⟨ρ n, ca cc, dx, ys, y, rfl, hu, k1, k2, e2, c.here S rw'⟩
      · cases hh
theorem s_sfld {cs : List Nat} {f : Str} {o value : Expr} {mo mv : ME} {pos pos' : Pos} (ho : PE X o (rE X.K ca Γ d mo)) (hv : PE X value (rE X.K ca Γ d mv)) (hc : FldOk X.K ca cs f) (hs : swapsWith value (some (.Attribute o f pos')) pos.line X.env = pure false := by rfl) :
    PS X (.Assign [.Attribute o f pos'] value pos) (rS1 X.K ca Γ d (.sfld cs mo f mv)) :=
  s1_wk (ps_fld ho hv hs) fun n ρ st env σ H D S L q => by
    obtain ⟨r, st', he, k⟩ := q
    have he : ((ev Γ n d).e mv env st).bind (fun v st => ((ev Γ n d).e mo env st).bind fun x st => match setFV cs f x v st with
      | some st' => .ok (.nx, env) st'
      | none => .stuck) = .ok r st' := he
    obtain ⟨v, st1, e1, e2⟩ := Res.bind_ok he
    obtain ⟨x, st2, e3, e4⟩ := Res.bind_ok e2
    refine ⟨n, ρ, st, env, S, L, v, st1, e1, fun ρ1 H1 y F1 S1 R1 => ⟨n, ρ1, st1, env, S1, F1.slots S L, x, st2, e3, fun ρ2 H2 xv F2 S2 R2 => ?_⟩⟩
    cases e5 : setFV cs f x v st2 with
    | none => rw [e5] at e4; cases e4
    | some st3 =>
      rw [e5] at e4
      cases e4
      cases R2 with
      | @ref n hn =>
        have e6 : (match st2.get n with
          | some (.ins c fs) => if cs.contains c = true ∧ fs.length < 1000 then some (st2.set n (.ins c (fldPut f v fs))) else none
          | _ => none) = some st' := e5
        cases e0 : st2.get n with
        | none => rw [e0] at e6; cases e6
        | some ob =>
          rw [e0] at e6
          cases ob with
          | lst _ => cases e6
          | dK _ => cases e6
          | dF _ => cases e6
          | ins cc fs =>
            simp only at e6
            split at e6
            · rename_i hin
              cases e6
              obtain ⟨u, hu, ro⟩ := S2.at hn e0
              cases ro with
              | @ins _ dx _ ys hr =>
                obtain ⟨k1, k2⟩ := hc cc (by simpa using hin.1)
                refine ⟨ρ2 n, ca cc, dx, ys, rfl, hu, k1, k2, by rw [← hr.length]; exact hin.2, ?_⟩
                have ry := F2.rv S1 R1
                have ro2 : RO X.K ca ρ2 st2.next H2 (.ins cc (fldPut f v fs)) (.ins (ca cc) dx (putF f y ys)) := .ins (fldPut_rv ry hr)
                have FF := (F1.trans F2).trans (Fut.write S2 (o := .ins (ca cc) dx (putF f y ys)) hn hu (fun _ _ z => nomatch z))
                exact k ρ2 _ σ FF (Sim.write S2 hn ro2) ((Fu.write S2 hn).slots S2 (F2.slots S1 (F1.slots S L)))
            · cases e6
      | _ => cases e5
/-- what is never reached -/
theorem s_never {s : Stmt} : PS X s (rS1 X.K ca Γ d .never) := ⟨fun pins s σ H D I q => by
  obtain ⟨n, ρ, st, env, S, L, r, st', he, k⟩ := q
  cases n with
  | zero => cases he
  | succ n => cases he⟩
/-- the methods that a table names -/
def MethOk (K : PySem.W.Frag) (ca : Cls0) (fa : Nat → Addr) (m : Str) (tab : List (Nat × Nat)) : Prop := ∀ c f, tab.lookup c = some f → Cls K (ca c) ∧ Meth K (ca c) m (fa f)
theorem meth_rv {K : PySem.W.Frag} {ρ : Nat → Addr} {st : Store} {H : Hp} {v : MV} {x : V} {m : Str} {tab : List (Nat × Nat)} {f : Nat} (S : Sim K ca ρ st H) (r : Rv K ρ st.next H v x) (h : methF m tab v st = some f) :
    ∃ c n dx ys, tab.lookup c = some f ∧ v = .ref n ∧ x = .ref (ρ n) ∧ H (ρ n) = some (.ins (ca c) dx ys) ∧ ys.lookup m = none := by
  unfold methF at h
  cases e : insV st v with
  | none => rw [e] at h; cases h
  | some cf =>
    obtain ⟨c, fs⟩ := cf
    rw [e] at h
    simp only at h
    obtain ⟨n, dx, ys, e1, hn, hg, e2, hu, hr⟩ := ins_rv S r e
    rcases lookup_rv (f := m) hr with ⟨a1, a2⟩ | ⟨w, y, a1, a2, _⟩
    · rw [a1] at h
      exact ⟨c, n, dx, ys, h, e1, e2, hu, a2⟩
    · rw [a1] at h; cases h
theorem s_meth {m : Str} {tab : List (Nat × Nat)} {o e : Expr} {es : List Expr} {mo : ME} {ms : List ME} {pos apos : Pos} {pl : Sem Bool} (C : Cg X ca Γ fa d) (ho : PE X o (rE X.K ca Γ d mo)) (hm : MethOk X.K ca fa m tab) (ha : PA X (e :: es) (rA X.K ca Γ d ms)) (hs : (e :: es).all ns = true := by rfl)
    (ht : eval (.Call (.Attribute o m apos) (e :: es) [] pos) X.env = (do
      let ov ← eval o X.env
      standAt apos.atName
      let (f, first) ← holding [ov] (getMethod ov m pl)
      callWith pos f first (backTo pos (starEach (e :: es) X.env)) (backToKw pos (keywordEach [] X.env))) := by rfl) :
    PE X (.Call (.Attribute o m apos) (e :: es) [] pos) (rE X.K ca Γ d (.mcall mo m tab ms)) := by
  rw [List.all_cons, Bool.and_eq_true] at hs
  have core : PE X (.Call (.Attribute o m apos) (e :: es) [] pos) (fun σ H Q => rE X.K ca Γ d mo σ H fun x H1 => ∃ a C dx fs f fn d', x = .ref a ∧ H1 a = some (.ins C dx fs) ∧ fs.lookup m = none ∧ Cls X.K C ∧ Meth X.K C m (fa f) ∧ Γ f = some fn ∧ d = d' + 1 ∧
      rA X.K ca Γ d ms σ H1 fun vs H2 => spF X.K ca Γ d' f (x :: vs) H2 Q E0) := ⟨fun pins s σ H Q I h => by
    refine PySem.W.methodCall_KW (pl := pl) (thn (ho.run pins s σ H _ I h) fun u s1 ⟨x, H1, I1, rx, a, C', dx, fs, f, fn, d', ex, ea, l, k1, k2, hf, ed, q⟩ => ?_) ht
    subst ex
    obtain rfl : u = Value.ref a := rx
    refine getmeth_ok I1 ea k1 k2 l ?_
    refine PySem.W.callWith_K (first := [.ref a]) (h₀ := X.base) I.ok.mod.kin k2.kp (thn (ha.run pos pins s1 σ H1 _ I1 q) fun us s2 ⟨vs, H2, I2, r, q2⟩ => ⟨I2.kIn, ?_⟩) (star_cons hs.1) (star_any hs.2)
    obtain ⟨fd, ps, bd, F⟩ := C.fns d' (by omega) f fn hf
    have hr : Room (d' + 1) X.A := by rw [← ed]; exact C.room
    exact F.call (us := .ref a :: us) (vs := .ref a :: vs) hr C.gd bd I2 (.cons rfl r) q2⟩
  refine PE.wk core fun σ H Q q => ?_
  obtain ⟨n, ρ, st, env, S, L, v, st', he, k⟩ := q
  cases n with
  | zero => cases he
  | succ n =>
    have he : ((ev Γ n d).e mo env st).bind (fun x st => match methF m tab x st with
      | some f => ((ev Γ n d).a ms env st).bind fun vs st => match Γ f, d with
        | some fn, d' + 1 => callB (ev Γ n d') fn (x :: vs) st
        | _, _ => .stuck
      | none => .stuck) = .ok v st' := he
    obtain ⟨x, st1, e1, e2⟩ := Res.bind_ok he
    refine ⟨n, ρ, st, env, S, L, x, st1, e1, fun ρ1 H1 xv F1 S1 R1 => ?_⟩
    cases e3 : methF m tab x st1 with
    | none => rw [e3] at e2; cases e2
    | some f =>
      rw [e3] at e2
      obtain ⟨vs, st2, e4, e5⟩ := Res.bind_ok e2
      obtain ⟨fn, d', hf, ed, e6⟩ := call_some e5
      obtain ⟨c, n0, dx, ys, hl, rfl, rfl, hu, hno⟩ := meth_rv S1 R1 e3
      obtain ⟨k1, k2⟩ := hm c f hl
      refine ⟨ρ1 n0, ca c, dx, ys, f, fn, d', rfl, hu, hno, k1, k2, hf, ed, n, ρ1, st1, env, S1, F1.slots S L, vs, st2, e4, fun ρ2 H2 ws F2 S2 R2 => ?_⟩
      exact ⟨n, ρ2, st2, _, fn, hf, S2, .cons (F2.rv S1 R1) R2, v, st', e6, fun ρ3 H3 z F3 S3 R3 => k ρ3 H3 z ((F1.trans F2).trans F3) S3 R3⟩
theorem s_meth0 {m : Str} {tab : List (Nat × Nat)} {o : Expr} {mo : ME} {pos apos : Pos} {pl : Sem Bool} (C : Cg X ca Γ fa d) (ho : PE X o (rE X.K ca Γ d mo)) (hm : MethOk X.K ca fa m tab)
    (ht : eval (.Call (.Attribute o m apos) [] [] pos) X.env = (do
      let ov ← eval o X.env
      standAt apos.atName
      let (f, first) ← holding [ov] (getMethod ov m pl)
      callWith pos f first (backTo pos (starEach [] X.env)) (backToKw pos (keywordEach [] X.env))) := by rfl) :
    PE X (.Call (.Attribute o m apos) [] [] pos) (rE X.K ca Γ d (.mcall mo m tab [])) := by
  have core : PE X (.Call (.Attribute o m apos) [] [] pos) (fun σ H Q => rE X.K ca Γ d mo σ H fun x H1 => ∃ a C dx fs f fn d', x = .ref a ∧ H1 a = some (.ins C dx fs) ∧ fs.lookup m = none ∧ Cls X.K C ∧ Meth X.K C m (fa f) ∧ Γ f = some fn ∧ d = d' + 1 ∧
      spF X.K ca Γ d' f [x] H1 Q E0) := ⟨fun pins s σ H Q I h => by
    refine PySem.W.methodCall_KW (pl := pl) (thn (ho.run pins s σ H _ I h) fun u s1 ⟨x, H1, I1, rx, a, C', dx, fs, f, fn, d', ex, ea, l, k1, k2, hf, ed, q⟩ => ?_) ht
    subst ex
    obtain rfl : u = Value.ref a := rx
    refine getmeth_ok I1 ea k1 k2 l ?_
    obtain ⟨fd, ps, bd, F⟩ := C.fns d' (by omega) f fn hf
    have hr : Room (d' + 1) X.A := by rw [← ed]; exact C.room
    exact PySem.W.callWith_K0 (first := [.ref a]) I1.kIn k2.kp (F.call (us := [.ref a]) (vs := [.ref a]) hr C.gd bd I1 (.cons rfl .nil) q)⟩
  refine PE.wk core fun σ H Q q => ?_
  obtain ⟨n, ρ, st, env, S, L, v, st', he, k⟩ := q
  cases n with
  | zero => cases he
  | succ n =>
    have he : ((ev Γ n d).e mo env st).bind (fun x st => match methF m tab x st with
      | some f => ((ev Γ n d).a [] env st).bind fun vs st => match Γ f, d with
        | some fn, d' + 1 => callB (ev Γ n d') fn (x :: vs) st
        | _, _ => .stuck
      | none => .stuck) = .ok v st' := he
    obtain ⟨x, st1, e1, e2⟩ := Res.bind_ok he
    refine ⟨n, ρ, st, env, S, L, x, st1, e1, fun ρ1 H1 xv F1 S1 R1 => ?_⟩
    cases e3 : methF m tab x st1 with
    | none => rw [e3] at e2; cases e2
    | some f =>
      rw [e3] at e2
      obtain ⟨vs, st2, e4, e5⟩ := Res.bind_ok e2
      obtain ⟨fn, d', hf, ed, e6⟩ := call_some e5
      obtain ⟨c, n0, dx, ys, hl, rfl, rfl, hu, hno⟩ := meth_rv S1 R1 e3
      obtain ⟨k1, k2⟩ := hm c f hl
      cases n with
      | zero => cases e4
      | succ n =>
        cases e4
        exact ⟨ρ1 n0, ca c, dx, ys, f, fn, d', rfl, hu, hno, k1, k2, hf, ed, n + 1, ρ1, st1, _, fn, hf, S1, .cons R1 .nil, v, st', e6, fun ρ3 H3 z F3 S3 R3 => k ρ3 H3 z (F1.trans F3) S3 R3⟩
/-- a new instance -/
theorem run_new {k : Nat} {f C : Addr} {fd : FuncData} {ps : List Str} {sp : Sp} {pins : List (Addr × Obj)} {σ : L2.St} {H : Hp} {s : Shared} {Q : VK} {us : List Value} {vs : List V} (M : Mk X.K C f) (F : FnG X.prog X.w X.K X.mg X.base k f fd ps sp) (hr : Room (k + 1) X.A) (hgd : X.A.guards = some []) (hb : Binds X.K fd ps [])
    (I : Inv X pins σ H s) (r : Vals vs us)
    (h : ∀ x dx, H x = none → H dx = none → dx ≠ x → sp (.ref x :: vs) (upd (upd H dx (.own x)) x (.ins C dx [])) (fun v H2 => v = .non ∧ Q (.ref x) H2) E0) :
    wpAny (model X.prog X.w) X.A (PySem.call (.ref C) us) (EP X pins σ Q) X.xe s := by
  have hq := h (s.heap.objs.size + 1) s.heap.objs.size (I.hok.fresh (Nat.le_succ _)) (I.hok.fresh (Nat.le_refl _)) (Nat.ne_of_lt (Nat.lt_succ_self _))
  have I2 := Inv.made (C := C) I
  have r2 : Vals (V.ref (s.heap.objs.size + 1) :: vs) (Value.ref (s.heap.objs.size + 1) :: us) := .cons rfl r
  have hl : (Value.ref (s.heap.objs.size + 1) :: us).length = ps.length := by
    have e := r2.length
    rw [F.len _ _ _ _ hq] at e
    exact e.symm
  have hbb := hb _ (Value.ref (s.heap.objs.size + 1) :: us) I2.kIn (by rw [List.append_nil]; exact hl)
  rw [List.append_nil] at hbb
  refine wpAny_call (make_map (f := f) I.kIn M.makes M.init (beq_iff_eq.mp M.fn) (codeAny_mono (F.go _ X.stack _ _ ⟨Value.ref (s.heap.objs.size + 1) :: us, []⟩ (Value.ref (s.heap.objs.size + 1) :: us) _ _ E0 (hr.make C us []) (make_gd hgd)
    (I2.env0.make C us []) hbb r2 hq) fun r s' hq' => ?_))
  cases r with
  | error e => exact False.elim hq'
  | ok fl =>
    cases fl with
    | ret u =>
      obtain ⟨v, H', I3, rv, ev, q3⟩ := I2.after hq'
      subst ev
      exact ⟨rv, ⟨V.ref (s.heap.objs.size + 1), H', I3, rfl, q3⟩⟩
    | next => exact False.elim hq'
    | brk => exact False.elim hq'
    | cont => exact False.elim hq'
where
  make_gd {A : Around} {C : Addr} {us : List Value} {kw : List (Str × Value)} (h : A.guards = some []) : (A.under (.builtin "type.__call__" ⟨.ref C :: us, kw⟩)).guards = some [] := by
    first
      | exact h
      | simp [Around.under, Code.weight, Code.isCreation, Code.isGuard, Code.isCaller, Code.frames, Code.isFrame, guardIds, h]
theorem new_sim {K : PySem.W.Frag} {ρ : Nat → Addr} {st : Store} {H : Hp} (S : Sim K ca ρ st H) {c : Nat} {x dx : Addr} (h1 : H x = none) (h2 : H dx = none) (hne : dx ≠ x) :
    Sim K ca (ext ρ st.next x) (st.add (.ins c [])) (upd (upd H dx (.own x)) x (.ins (ca c) dx [])) ∧ Fut ρ st.next H (ext ρ st.next x) (st.next + 1) (upd (upd H dx (.own x)) x (.ins (ca c) dx [])) := by
  have S1 := Sim.grow (o := .own x) S h2
  have e : (upd H dx (.own x)) x = none := by rw [upd_ne hne.symm]; exact h1
  exact ⟨Sim.alloc S1 e (.ins .nil), (Fut.grow S h2).trans (Fut.alloc S1 e)⟩
theorem new_done {K : PySem.W.Frag} {ρ : Nat → Addr} {st st' : Store} {H : Hp} {n f c d' : Nat} {fn : MFn} {vs : List MV} {ys : List V} {Q : VK} (S : Sim K ca ρ st H) (R : RvL K ρ st.next H vs ys) (hf : Γ f = some fn)
    (e : callB (ev Γ n d') fn (.ref st.next :: vs) (st.add (.ins c [])) = .ok .non st') (k : Cont K ca ρ st H (.ref st.next) st' Q) :
    ∀ x dx, H x = none → H dx = none → dx ≠ x → spF K ca Γ d' f (.ref x :: ys) (upd (upd H dx (.own x)) x (.ins (ca c) dx [])) (fun v H2 => v = .non ∧ Q (.ref x) H2) E0 := by
  intro x dx h1 h2 hne
  obtain ⟨S2, F2⟩ := new_sim (c := c) S h1 h2 hne
  have rx : Rv K (ext ρ st.next x) (st.add (.ins c [])).next (upd (upd H dx (.own x)) x (.ins (ca c) dx [])) (.ref st.next) (.ref x) := by
    have q : Rv K (ext ρ st.next x) (st.add (.ins c [])).next (upd (upd H dx (.own x)) x (.ins (ca c) dx [])) (.ref st.next) (.ref (ext ρ st.next x st.next)) := .ref (Nat.lt_succ_self _)
    rw [ext_same] at q
    exact q
  refine ⟨n, ext ρ st.next x, st.add (.ins c []), .ref st.next :: vs, fn, hf, S2, .cons rx (F2.rvL S R), .non, st', e, fun ρ3 H3 z F3 S3 R3 => ?_⟩
  cases R3
  exact ⟨rfl, k ρ3 H3 (.ref x) (F2.trans F3) S3 (F3.rv S2 rx)⟩
theorem s_new {c f : Nat} {x : Str} {p pos : Pos} {e : Expr} {es : List Expr} {ms : List ME} (C : Cg X ca Γ fa d) (M : Mk X.K (ca c) (fa f)) (hg : Gl X x) (hm : X.mg x = some (.ref (ca c))) (ha : PA X (e :: es) (rA X.K ca Γ d ms)) (hs : (e :: es).all ns = true := by rfl) (hd : (x == ("__debug__" : Str)) = false := by decide) :
    PE X (.Call (.Name x p) (e :: es) [] pos) (rE X.K ca Γ d (.new c f ms)) := by
  rw [List.all_cons, Bool.and_eq_true] at hs
  have core : PE X (.Call (.Name x p) (e :: es) [] pos) (fun σ H Q => rA X.K ca Γ d ms σ H fun vs H1 => ∃ d' fn, d = d' + 2 ∧ Γ f = some fn ∧ ∀ x dx, H1 x = none → H1 dx = none → dx ≠ x → spF X.K ca Γ d' f (.ref x :: vs) (upd (upd H1 dx (.own x)) x (.ins (ca c) dx [])) (fun v H2 => v = .non ∧ Q (.ref x) H2) E0) := ⟨fun pins s σ H Q I h => by
    refine wpAny_Call_Name_kw (ld_glob I hg hm ?_ hd)
    refine PySem.W.callWith_K (h₀ := X.base) I.ok.mod.kin M.kp (thn (ha.run pos pins s σ H _ I h) fun us s1 ⟨vs, H1, I1, r, d', fn, ed, hf, q⟩ => ⟨I1.kIn, ?_⟩) (star_cons hs.1) (star_any hs.2)
    obtain ⟨fd, ps, bd, F⟩ := C.fns d' (by omega) f fn hf
    have hr : Room (d' + 1 + 1) X.A := by rw [← ed]; exact C.room
    exact run_new M F hr C.gd bd I1 r q⟩
  refine PE.wk core fun σ H Q q => ?_
  obtain ⟨n, ρ, st, env, S, L, v, st', he, k⟩ := q
  cases n with
  | zero => cases he
  | succ n =>
    have he : ((ev Γ n d).a ms env st).bind (fun vs st => match Γ f, d with
      | some fn, d' + 2 => (callB (ev Γ n d') fn (.ref st.next :: vs) (st.add (.ins c []))).bind fun r st' => (match r with
        | .non => .ok (.ref st.next) st'
        | _ => .stuck)
      | _, _ => .stuck) = .ok v st' := he
    obtain ⟨vs, st1, e1, e2⟩ := Res.bind_ok he
    obtain ⟨fn, d', hf, ed, e3, rfl⟩ := new_some e2
    exact ⟨n, ρ, st, env, S, L, vs, st1, e1, fun ρ1 H1 ys F1 S1 R1 => ⟨d', fn, ed, hf, new_done S1 R1 hf e3 (Cont.after k F1)⟩⟩
theorem s_new0 {c f : Nat} {x : Str} {p pos : Pos} (C : Cg X ca Γ fa d) (M : Mk X.K (ca c) (fa f)) (hg : Gl X x) (hm : X.mg x = some (.ref (ca c))) (hd : (x == ("__debug__" : Str)) = false := by decide) :
    PE X (.Call (.Name x p) [] [] pos) (rE X.K ca Γ d (.new c f [])) := by
  have core : PE X (.Call (.Name x p) [] [] pos) (fun σ H Q => ∃ d' fn, d = d' + 2 ∧ Γ f = some fn ∧ ∀ x dx, H x = none → H dx = none → dx ≠ x → spF X.K ca Γ d' f [.ref x] (upd (upd H dx (.own x)) x (.ins (ca c) dx [])) (fun v H2 => v = .non ∧ Q (.ref x) H2) E0) := ⟨fun pins s σ H Q I ⟨d', fn, ed, hf, q⟩ => by
    refine wpAny_Call_Name_kw (ld_glob I hg hm ?_ hd)
    obtain ⟨fd, ps, bd, F⟩ := C.fns d' (by omega) f fn hf
    have hr : Room (d' + 1 + 1) X.A := by rw [← ed]; exact C.room
    exact PySem.W.callWith_K0 I.kIn M.kp (run_new (us := []) M F hr C.gd bd I .nil q)⟩
  refine PE.wk core fun σ H Q q => ?_
  obtain ⟨n, ρ, st, env, S, L, v, st', he, k⟩ := q
  cases n with
  | zero => cases he
  | succ n =>
    have he : ((ev Γ n d).a [] env st).bind (fun vs st => match Γ f, d with
      | some fn, d' + 2 => (callB (ev Γ n d') fn (.ref st.next :: vs) (st.add (.ins c []))).bind fun r st' => (match r with
        | .non => .ok (.ref st.next) st'
        | _ => .stuck)
      | _, _ => .stuck) = .ok v st' := he
    obtain ⟨vs, st1, e1, e2⟩ := Res.bind_ok he
    cases n with
    | zero => cases e1
    | succ n =>
      cases e1
      obtain ⟨fn, d', hf, ed, e3, rfl⟩ := new_some e2
      exact ⟨d', fn, ed, hf, new_done S .nil hf e3 k⟩
end

/-! ### a def by its body -/
section
variable {P : Program} {w : World} {K : PySem.W.Frag} {mg : Str → Option Value} {base : Heap} {ca : Cls0} {Γ : Tab} {fa : Nat → Addr} {d : Nat}
/-- the body's derivation, at every entry -/
def BodyOk (P : Program) (w : World) (K : PySem.W.Frag) (mg : Str → Option Value) (base : Heap) (ca : Cls0) (Γ : Tab) (fa : Nat → Addr) (d : Nat) (N : List Str) (qual : Str) (st : Stmt) (ms : List MS) : Prop :=
  ∀ (f : Addr) (cdv : Value) (A : Around) (outer : List PySem.Env) (s : Shared) (H : Hp) (E : XK), Cg (cxOf CX0 P w K mg base N qual (defScope st) f cdv A outer s H E).nox ca Γ fa d →
    PSs (cxOf CX0 P w K mg base N qual (defScope st) f cdv A outer s H E).nox (defBody st) (rSs K ca Γ d ms)
theorem start_slots {ρ : Nat → Addr} {N0 : Nat} {H : Hp} {mvs : List MV} {vs : List V} {N : List Str} {k : Nat} (r : RvL K ρ N0 H mvs vs) (hk : N.length = k) : SlotsR K ρ N0 H (startE mvs k) (L2.start N vs) := by
  subst hk
  unfold startE L2.start
  refine ⟨by simp [r.length], fun i v e => ?_⟩
  by_cases hi : i < mvs.length
  · rw [List.getElem?_append_left (by rw [List.length_map]; exact hi), List.getElem?_map] at e
    cases e2 : mvs[i]? with
    | none => rw [e2] at e; cases e
    | some u =>
      rw [e2] at e
      cases e
      obtain ⟨y, h1, h2⟩ := r.get e2
      refine ⟨y, ?_, h2⟩
      rw [List.getElem?_append_left (by rw [List.length_map, ← r.length]; exact hi), List.getElem?_map, h1]
      rfl
  · rw [List.getElem?_append_right (by rw [List.length_map]; omega), List.getElem?_replicate] at e
    split at e <;> cases e
theorem fn_sound {f : Nat} {fn : MFn} {x qual : Str} {st : Stmt} {fd : FuncData} {N ps : List Str} (F : Fun K x qual st (fa f) fd) (S : FnScope N ps (defScope st)) (hΓ : Γ f = some fn) (hp : ps.length = fn.np) (hn : N.length = fn.ns)
    (B : BodyOk P w K mg base ca Γ fa d N qual st fn.body) (C : Fns P w K mg base ca Γ fa d) : FnG P w K mg base (d + 1) (fa f) fd ps (spF K ca Γ d f) := by
  obtain ⟨oc, od, kV, doc, pm, an, cdv, ct, osl, rfl, lk, hcd⟩ := F.ex
  refine ⟨fun vs H Q E h => ?_, fun A outer s H args us vs Q E hr hg e0 hb r hsp => ?_⟩
  · obtain ⟨n, ρ, st', mvs, fn', h1, S', R, v, st2, he, _⟩ := h
    rw [hΓ] at h1
    cases h1
    unfold callB at he
    split at he
    · rw [← R.length, hp]; assumption
    · cases he
  · obtain ⟨n, ρ, st0, mvs, fn', h1, S0, R, v, st2, he, k⟩ := hsp
    rw [hΓ] at h1
    cases h1
    have hl : vs.length = ps.length := by
      unfold callB at he
      split at he
      · rw [← R.length, hp]; assumption
      · cases he
    have keepB : ∀ b o, base.get? b = some o → s.heap.get? b = some o := fun b o q => (e0.bs b o q).1
    have KX : K.In s.heap := e0.mod.kin.keeps keepB
    have lim : s.heap.NoLimit := e0.mod.nolimit.keeps keepB
    refine codeAny_call_function hr.depth (KX _ _ lk) rfl S.co S.gen rfl (PySem.W.codeRec_of KX hcd) (hb _ _ _ _ ?_)
    refine wpAny_newFunctionEnv_cells S.kind (fun y hy => ?_) fun env he' s1 x => ?_
    · obtain ⟨nm', u⟩ := y
      rcases S.par nm' (List.of_mem_zip hy).1 with q | q
      · exact .inl q
      · exact .inr ⟨q, PySem.W.cellsFrom_some _ _ _ (.inl q)⟩
    · subst he'
      refine ⟨lim.keeps x.toInCall.keep, codeAny_func ?_⟩
      have hroom : Room d (A.deeper (envOfC qual (defScope st) s.heap.objs.size (fa f) cdv)) := hr.deeper _
      have D := B (fa f) cdv A outer s H E ⟨hroom, hg, rfl, C⟩
      have I : Inv (cxOf CX0 P w K mg base N qual (defScope st) (fa f) cdv A outer s H E) [] (L2.start N vs) H s1 := inv_start S hr.hd e0 hl r x
      unfold callB at he
      split at he
      · obtain ⟨⟨fl, env2⟩, st3, e1, e2⟩ := Res.bind_ok he
        have T : rSs K ca Γ d fn.body { nx := fun _ H' => Q .non H', rt := Q } (L2.start N vs) H := by
          refine ⟨n, ρ, st0, startE mvs fn.ns, S0, start_slots R hn, (fl, env2), st3, e1, fun ρ' H' σ' F' S' => ?_⟩
          cases fl with
          | nx => cases e2; exact fun _ => k ρ' H' .non F' S' .non
          | rt v' => cases e2; exact fun x rx => k ρ' H' x F' S' rx
          | bk => cases e2
          | ct => cases e2
        refine wpAny_mono (D.nox.run [] s1 (L2.start N vs) H _ I T) (fun res s3 hs => ?_) fun e s3 hs => hs
        match res, hs with
        | .ret u, ⟨v', σ', H', J, rv, q⟩ => exact ⟨v', H', J.os, J.bare, J.base, J.hok, rv, q⟩
        | .next, ⟨σ', H', J, q⟩ => exact ⟨V.non, H', J.os, J.bare, J.base, J.hok, (rfl : Value.none = Value.none), q⟩
        | .brk, ⟨_, _, _, q⟩ => exact False.elim q
        | .cont, ⟨_, _, _, q⟩ => exact False.elim q
      · cases he
/-- all depths -/
theorem fns_all (h : ∀ d, Fns P w K mg base ca Γ fa d → ∀ f fn, Γ f = some fn → ∃ fd ps, Binds K fd ps [] ∧ FnG P w K mg base (d + 1) (fa f) fd ps (spF K ca Γ d f)) : ∀ d, Fns P w K mg base ca Γ fa d
  | 0 => fun d' e => absurd e (Nat.not_lt_zero _)
  | d + 1 => fun d' e f fn hf => by
    by_cases h2 : d' < d
    · exact fns_all h d d' h2 f fn hf
    · have : d' = d := by omega
      subst this
      exact h d' (fns_all h d') f fn hf
end

/-! ### the end of a law -/
/-- nothing but the script is tracked at first -/
theorem sim_start {K : PySem.W.Frag} {ca : Cls0} {H : Hp} : Sim K ca (fun _ => 0) Store.emp H := ⟨Store.wf_emp, fun n m h => absurd h (Nat.not_lt_zero _), fun n h => absurd h (Nat.not_lt_zero _)⟩
theorem law_go {P : Program} {w : World} {K : PySem.W.Frag} {mg mb : Str → Option Value} {k : Nat} {fa a : Addr} {fd : FuncData} {x : Str} {sp : Sp} {s₁ : Shared} {vs : List Value} {ns' : List Int}
    (KX : K.In s₁.heap) (hns : s₁.heap.Ns mainGlobals mg) (hb : s₁.heap.Ns builtinsNs mb) (hbb : ∀ x : Str, x ≠ "__name__" → mb x = bootBuiltins x) (hlim : s₁.heap.NoLimit) (hg : s₁.gens = #[])
    (ha : s₁.heap.get? a = some { cls := .type "list", data := .seq vs.toArray }) (hi : IntsAre vs ns') (hl : ns'.length ≤ sizeLine) (hr : Room k callerA)
    (F : ∀ base : Heap, K.In base → base.Ns mainGlobals mg → FnG P w K mg base k fa fd [x] sp) (hbind : ∀ (s : Shared) (u : Value), BindsTo s fd ⟨[u], []⟩ [(x, u)])
    (hsp : ∀ H : Hp, FrzL K H a (ns'.map V.int) → sp [.ref a] H (fun v _ => v = .bl true) fun _ _ _ => False) :
    codeAny (model P w) callerA (.call (.ref fa) ⟨[.ref a], []⟩) (fun r s' => r = .ok (.ret (.bool true)) ∧ OldK s₁.heap s'.heap ∧ s'.os = s₁.os ∧ AllBare s'.gens) s₁ := by
  have rv := vals_ints hi
  have core : ∀ H : Hp, (∀ b, H b = none ∨ b = a ∧ K.lookup a = none ∧ H b = some (.frz { cls := .type "list", data := .seq vs.toArray } (.lst (ns'.map V.int)))) → FrzL K H a (ns'.map V.int) → HOk P w H s₁.heap →
      codeAny (model P w) callerA (.call (.ref fa) ⟨[.ref a], []⟩) (fun r s' => r = .ok (.ret (.bool true)) ∧ OldK s₁.heap s'.heap ∧ s'.os = s₁.os ∧ AllBare s'.gens) s₁ := by
    intro H hO hS hok
    have plain : ∀ {b : Addr} {o : Obj}, s₁.heap.get? b = some o → o ≠ { cls := .type "list", data := .seq vs.toArray } → H b = none := fun {b o} e hne => by
      rcases hO b with z | ⟨z, _, _⟩
      · exact z
      · subst z; rw [ha] at e; exact absurd (Option.some.inj e).symm hne
    have lay : ∀ {b : Addr} {m : Str → Option Value}, s₁.heap.Ns b m → (hidT s₁.heap H).Ns b m := fun {b m} ⟨o, es, ep, e, d, r⟩ => ⟨o, es, ep, hidT_get e (plain e fun z => by rw [z] at d; cases d), d, r⟩
    have hKb : K.In (hidT s₁.heap H) := fun b o e => hidT_get (KX b o e) (by
      rcases hO b with z | ⟨z, hk, _⟩
      · exact z
      · subst z; rw [hk] at e; cases e)
    have hM : Mod K mg (hidT s₁.heap H) := ⟨hKb, lay hns, ⟨mb, lay hb, hbb⟩, let ⟨mc, h1, h2⟩ := hlim; ⟨mc, lay h1, h2⟩⟩
    have e0 : Env0 P w K mg (hidT s₁.heap H) callerA [] s₁ H := ⟨rfl, hM, fun b o e => of_hidT e, Nat.le_of_eq (hidT_size _ _), trivial, fun b hb => absurd hb List.not_mem_nil, hok, .of_eq hg⟩
    refine codeAny_mono ((F _ hKb (lay hns)).go callerA [] s₁ H ⟨[.ref a], []⟩ [.ref a] [.ref a] _ _ hr rfl e0 (hbind s₁ (.ref a)) (.cons rfl .nil) (hsp H hS)) fun r s' h => ?_
    match r, h with
    | .error e, h => exact False.elim h
    | .ok .next, h => exact False.elim h
    | .ok .brk, h => exact False.elim h
    | .ok .cont, h => exact False.elim h
    | .ok (.ret u), ⟨v, H', os, bare, un, hok', r', q⟩ =>
      have q2 : v = .bl true := q
      subst q2
      obtain rfl : u = Value.bool true := r'
      refine ⟨rfl, OldK.of_keep fun b o e => ?_, os, bare⟩
      rcases hO b with z | ⟨z, _, hz⟩
      · exact un.keep b o e z List.not_mem_nil List.not_mem_nil
      · subst z
        obtain ⟨e1, _⟩ := hok b _ hz
        obtain ⟨e2, _⟩ := hok' b _ (un.frzs b _ _ hz)
        rw [e] at e1
        cases e1
        exact e2
  cases hk : K.lookup a with
  | some o =>
    have e := KX a o hk
    rw [ha] at e
    cases e
    refine core (fun _ => none) (fun _ => .inl rfl) (.inr ⟨_, vs.toArray, _, hk, rfl, rfl, rfl, ?_, by simpa using rv⟩) fun b u z => by cases z
    rw [List.size_toArray, hi.length]
    exact hl
  | none =>
    let H : Hp := fun b => if b = a then some (.frz { cls := .type "list", data := .seq vs.toArray } (.lst (ns'.map V.int))) else none
    have at_a : H a = some (.frz { cls := .type "list", data := .seq vs.toArray } (.lst (ns'.map V.int))) := if_pos rfl
    have off : ∀ b, b ≠ a → H b = none := fun b h => if_neg h
    refine core H (fun b => ?_) (.inl ⟨_, at_a⟩) fun b u z => ?_
    · by_cases h : b = a
      · subst h; exact .inr ⟨rfl, hk, at_a⟩
      · exact .inl (off b h)
    · by_cases h : b = a
      · subst h
        rw [at_a] at z
        cases z
        exact ⟨ha, by rw [List.length_map]; exact hl, vs, _, rv, ha⟩
      · rw [off b h] at z; cases z
theorem walk_go {l : PySem.W.OpenLaw} {n k : Nat} {q : Program} {loose : List Str} {XP : (Str → Option Value) → Heap → Prop} {YP : World → Heap → Prop} {dr : DefRec} {K : Params → PySem.W.Frag} {sp : PySem.W.Frag → Cls0 → Sp} {x : Str}
    (hn : l.most = some n) (hn2 : n ≤ sizeLine) (hdf : dr.params.defaults = []) (hr : Room k callerA) (hY : ∀ (w : World) (h : Heap), YP w h → (K w.params).In h)
    (F : ∀ (w : World) (mg : Str → Option Value) (fa : Addr) (h : Heap), (K w.params).In h → h.Ns mainGlobals mg → mg dr.name = some (.ref fa) →
      ∃ fd : FuncData, (∀ (s : Shared) (u : Value), BindsTo s fd ⟨[u], []⟩ [(x, u)]) ∧ ∃ ca : Cls0, ∀ base : Heap, (K w.params).In base → base.Ns mainGlobals mg → FnG l.prog w (K w.params) mg base k fa fd [x] (sp (K w.params) ca))
    (hsp : ∀ (K : PySem.W.Frag) (ca : Cls0) (H : Hp) (a : Addr) (ns' : List Int), ns'.length ≤ n → FrzL K H a (ns'.map V.int) → sp K ca [.ref a] H (fun v _ => v = .bl true) fun _ _ _ => False) :
    PySem.W.WalkO q loose XP YP l.row.toRowW dr [] (fun f vs => PySem.call f vs) := by
  refine Att.attach_call hn hdf fun w s₀ s₁ mg mb fa o pm cd doc a vs ns' G Y ho hd hcd hmg hobj hints hlen hg => ?_
  have KX := hY w _ Y
  obtain ⟨fd, hb, ca, hF⟩ := F w mg fa _ KX G.T.g hmg
  exact law_go KX G.T.g G.T.b G.T.builtins G.T.nolimit hg hobj hints (Nat.le_trans hlen hn2) hr hF hb fun H hS => hsp (K w.params) ca H a ns' hlen hS
end MP

set_option Elab.async false
set_option linter.all false
set_option maxRecDepth 100000
set_option maxHeartbeats 4000000
namespace MP
open PySem PySem.Spec PyProof.Rows L2
/-- a comparison that may stand in a chain -/
structure CO (X : Cx) (ca : Cls0) (op : CmpOp) (cop : COp) where
  r : R2
  ho : OpR X (compareOp op) r
  ok : ∀ ρ st H x y xv yv v st' Q, cmpV cop x y st = .ok v st' → Sim X.K ca ρ st H → Rv X.K ρ st.next H x xv → Rv X.K ρ st.next H y yv → Cont X.K ca ρ st H v st' Q → r xv yv H Q
def co_lt (X : Cx) (ca : Cls0) : CO X ca .Lt .lt := ⟨_, OpR.or op_lt op_ltS, fun ρ st H x y xv yv v st' Q h S hx hy c => cmpI_ok (p := fun i j => decide (i < j)) (f := fun i j => decide (i.cps.toList < j.cps.toList)) S hx hy c h⟩
def co_le (X : Cx) (ca : Cls0) : CO X ca .LtE .le := ⟨_, OpR.or op_le op_leS, fun ρ st H x y xv yv v st' Q h S hx hy c => cmpI_ok (p := fun i j => decide (i ≤ j)) (f := fun i j => !(decide (j.cps.toList < i.cps.toList))) S hx hy c h⟩
def co_gt (X : Cx) (ca : Cls0) : CO X ca .Gt .gt := ⟨_, OpR.or op_gt op_gtS, fun ρ st H x y xv yv v st' Q h S hx hy c => cmpI_ok (p := fun i j => decide (j < i)) (f := fun i j => decide (j.cps.toList < i.cps.toList)) S hx hy c h⟩
def co_ge (X : Cx) (ca : Cls0) : CO X ca .GtE .ge := ⟨_, OpR.or op_ge op_geS, fun ρ st H x y xv yv v st' Q h S hx hy c => cmpI_ok (p := fun i j => decide (j ≤ i)) (f := fun i j => !(decide (i.cps.toList < j.cps.toList))) S hx hy c h⟩
theorem cmp_bl {cop : COp} {x y z : MV} {st st' : Store} (h : cmpV cop x y st = .ok z st') : ∃ q, z = .bl q := by
  cases cop <;> simp only [cmpV] at h
  all_goals first
    | (obtain ⟨q, _, rfl, _⟩ := okB_eq h; exact ⟨_, rfl⟩)
    | (split at h <;> first
      | (cases h; exact ⟨_, rfl⟩)
      | cases h)
section
variable {X : Cx} {ca : Cls0} {Γ : Tab} {d : Nat} {a b c e : Expr} {ma mb mc m : ME} {pos : Pos}
theorem chain_rd {op op' : CmpOp} {o o' : COp} (c1 : CO X ca op o) (c2 : CO X ca op' o') (σ : L2.St) (H : Hp) (Q : VK) (q : rE X.K ca Γ d (.chain o o' ma mb mc) σ H Q) : tChain c1.r c2.r (rE X.K ca Γ d ma) (rE X.K ca Γ d mb) (rE X.K ca Γ d mc) σ H Q := by
  obtain ⟨n, ρ, st, env, S, L, v, st', he, k⟩ := q
  cases n with
  | zero => cases he
  | succ n =>
    have he : ((ev Γ n d).e ma env st).bind (fun x st => ((ev Γ n d).e mb env st).bind fun y st => (cmpV o x y st).bind fun k st => match k with
      | .bl true => ((ev Γ n d).e mc env st).bind fun z st => cmpV o' y z st
      | .bl false => .ok (.bl false) st
      | _ => .stuck) = .ok v st' := he
    obtain ⟨x, st1, e1, e2⟩ := Res.bind_ok he
    obtain ⟨y, st2, e3, e4⟩ := Res.bind_ok e2
    obtain ⟨w, st3, e5, e6⟩ := Res.bind_ok e4
    obtain ⟨bb, rfl⟩ := cmp_bl e5
    refine ⟨n, ρ, st, env, S, L, x, st1, e1, fun ρ1 H1 xv F1 S1 R1 => ⟨n, ρ1, st1, env, S1, F1.slots S L, y, st2, e3, fun ρ2 H2 yv F2 S2 R2 => ?_⟩⟩
    refine c1.ok ρ2 st2 H2 x y xv yv _ st3 _ e5 S2 (F2.rv S1 R1) R2 fun ρ3 H3 z F3 S3 R3 => ?_
    cases R3
    refine ⟨bb, rfl, ?_⟩
    cases bb with
    | false =>
      cases e6
      refine iteF ?_
      exact k ρ3 H3 _ ((F1.trans F2).trans F3) S3 (.bl _)
    | true =>
      refine iteT ?_
      have e6 : ((ev Γ n d).e mc env st3).bind (fun z st => cmpV o' y z st) = .ok v st' := e6
      obtain ⟨z, st4, e7, e8⟩ := Res.bind_ok e6
      refine ⟨n, ρ3, st3, env, S3, F3.slots S2 (F2.slots S1 (F1.slots S L)), z, st4, e7, fun ρ4 H4 zv F4 S4 R4 => ?_⟩
      exact c2.ok ρ4 st4 H4 y z yv zv v st' Q e8 S4 (F4.rv S3 (F3.rv S2 R2)) R4 fun ρ5 H5 u F5 S5 R5 => k ρ5 H5 u ((((F1.trans F2).trans F3).trans F4).trans F5) S5 R5
theorem s_chain {op op' : CmpOp} {o o' : COp} (c1 : CO X ca op o) (c2 : CO X ca op' o') (ha : PE X a (rE X.K ca Γ d ma)) (hb : PE X b (rE X.K ca Γ d mb)) (hc : PE X c (rE X.K ca Γ d mc)) (hm : lastMarks [op, op'] [b, c] = false := by with_unfolding_all rfl) :
    PE X (.Compare a [op, op'] [b, c] pos) (rE X.K ca Γ d (.chain o o' ma mb mc)) := PE.wk (pe_chain c1.ho c2.ho ha hb hc hm) fun σ H Q q => chain_rd c1 c2 σ H Q q
theorem chain_bl {o o' : COp} {n : Nat} {env : Env} {st st' : Store} {v : MV} (h : (ev Γ n d).e (.chain o o' ma mb mc) env st = .ok v st') : ∃ q, v = .bl q := by
  cases n with
  | zero => cases h
  | succ n =>
    have he : ((ev Γ n d).e ma env st).bind (fun x st => ((ev Γ n d).e mb env st).bind fun y st => (cmpV o x y st).bind fun k st => match k with
      | .bl true => ((ev Γ n d).e mc env st).bind fun z st => cmpV o' y z st
      | .bl false => .ok (.bl false) st
      | _ => .stuck) = .ok v st' := h
    obtain ⟨x, st1, e1, e2⟩ := Res.bind_ok he
    obtain ⟨y, st2, e3, e4⟩ := Res.bind_ok e2
    obtain ⟨w, st3, e5, e6⟩ := Res.bind_ok e4
    obtain ⟨bb, rfl⟩ := cmp_bl e5
    cases bb with
    | false => cases e6; exact ⟨_, rfl⟩
    | true =>
      have e6 : ((ev Γ n d).e mc env st3).bind (fun z st => cmpV o' y z st) = .ok v st' := e6
      obtain ⟨z, st4, e7, e8⟩ := Res.bind_ok e6
      exact cmp_bl e8
theorem t_chain {op op' : CmpOp} {o o' : COp} (c1 : CO X ca op o) (c2 : CO X ca op' o') (ha : PE X a (rE X.K ca Γ d ma)) (hb : PE X b (rE X.K ca Γ d mb)) (hc : PE X c (rE X.K ca Γ d mc)) (hm : lastMarks [op, op'] [b, c] = false := by with_unfolding_all rfl) :
    PT X (.Compare a [op, op'] [b, c] pos) (rT X.K ca Γ d (.chain o o' ma mb mc)) := PT.wk (pt_chain c1.ho c2.ho ha hb hc hm) fun σ H Q q => by
  obtain ⟨n, ρ, st, env, S, L, v, st', he, k⟩ := q
  cases n with
  | zero => cases he
  | succ n =>
    have he : ((ev Γ n d).e (.chain o o' ma mb mc) env st).bind (fun v st => match truV v st with
      | some k => .ok k st
      | none => .stuck) = .ok v st' := he
    obtain ⟨z, st3, e0, e9⟩ := Res.bind_ok he
    obtain ⟨q, rfl⟩ := chain_bl e0
    cases e9
    refine chain_rd c1 c2 σ H _ ⟨n, ρ, st, env, S, L, _, _, e0, fun ρ1 H1 x F1 S1 R1 => ?_⟩
    cases R1
    exact ⟨_, rfl, k ρ1 H1 _ F1 S1 rfl⟩
theorem s_par3 {i j l : Nat} {x y z : Str} {px py pz pt : Pos} {kt k2 pt2} (hcm : X.calm = true) (hN : X.N.Nodup) (hi : X.N[i]? = some x) (hj : X.N[j]? = some y) (hl : X.N[l]? = some z) (hij : i ≠ j) (hil : i ≠ l) (hjl : j ≠ l)
    (hx : X.env.scope.names.lookup x = some .local) (hy : X.env.scope.names.lookup y = some .local) (hz : X.env.scope.names.lookup z = some .local) (ha : PA X [a, b, c] (rA X.K ca Γ d [ma, mb, mc]))
    (hw : swappedStores [.Tuple [.Name x px, .Name y py, .Name z pz] kt pt] (.Tuple [a, b, c] k2 pt2) X.env = pure (some [x, y, z]))
    (hs : swapsWithSole [.Tuple [.Name x px, .Name y py, .Name z pz] kt pt] (.Tuple [a, b, c] k2 pt2) pos.line X.env = pure false := by rfl) :
    PS X (.Assign [.Tuple [.Name x px, .Name y py, .Name z pz] kt pt] (.Tuple [a, b, c] k2 pt2) pos) (rS1 X.K ca Γ d (.par3 i j l ma mb mc)) :=
  s1_wk (ps_par3 hcm hN hi hj hl hij hil hjl hx hy hz ha hw hs) fun n ρ st env σ H D S L o => by
    obtain ⟨r, st', he, k⟩ := o
    have he : ((ev Γ n d).a [ma, mb, mc] env st).bind (fun vs st => match vs with
      | [u, v, w] => .ok (.nx, ((env.set i (some u)).set j (some v)).set l (some w)) st
      | _ => .stuck) = .ok r st' := he
    obtain ⟨vs, st1, e1, e2⟩ := Res.bind_ok he
    refine ⟨n, ρ, st, env, S, L, vs, st1, e1, fun ρ1 H1 ys F1 S1 R1 => ?_⟩
    match vs, e2, R1 with
    | [u, v, w], e2, .cons r1 (.cons r2 (.cons r3 .nil)) =>
      cases e2
      exact ⟨_, _, _, rfl, k ρ1 H1 _ F1 S1 ((((F1.slots S L).set i r1).set j r2).set l r3)⟩
end
end MP

set_option Elab.async false
set_option linter.all false
set_option maxRecDepth 100000
set_option maxHeartbeats 4000000
namespace MP
open PySem PySem.Spec PyProof.Rows L2
section
variable {X : Cx} {ca : Cls0} {Γ : Tab} {d : Nat} {a b e : Expr} {ma mb m : ME} {pos : Pos}
theorem s_not (ha : PE X a (rE X.K ca Γ d ma)) (hm : ∀ n env st, (ev Γ (n + 1) d).t ma env st = ((ev Γ n d).e ma env st).bind fun v st => match truV v st with
      | some k => .ok k st
      | none => .stuck) : PE X (.UnaryOp .Not a pos) (rE X.K ca Γ d (.not ma)) :=
  PE.wk (pe_notT ha) fun σ H Q q => by
    obtain ⟨n, ρ, st, env, S, L, v, st', he, k⟩ := q
    cases n with
    | zero => cases he
    | succ n =>
      have he : ((ev Γ n d).t ma env st).bind (fun k st => .ok (.bl (!k)) st) = .ok v st' := he
      obtain ⟨c, st1, e1, e2⟩ := Res.bind_ok he
      cases e2
      cases n with
      | zero => cases e1
      | succ n =>
        rw [hm] at e1
        obtain ⟨x, st2, e3, e4⟩ := Res.bind_ok e1
        refine ⟨n, ρ, st, env, S, L, x, st2, e3, fun ρ1 H1 xv F1 S1 R1 => ?_⟩
        cases e5 : truV x st2 with
        | none => rw [e5] at e4; cases e4
        | some b =>
          rw [e5] at e4
          cases e4
          exact ⟨_, tru_rv S1 R1 e5, k ρ1 H1 _ F1 S1 (.bl _)⟩
/-- a module's constant -/
def Glb (K : PySem.W.Frag) (mg : Str → Option Value) (x : Str) (mv : MV) : Prop := ∃ v u, mg x = some u ∧ RelV v u ∧ ∀ ρ N H, Rv K ρ N H mv v
theorem s_glob {x : Str} {mv : MV} {p : Pos} (hg : Gl X x) (h : Glb X.K X.mg x mv) (hd : (x == ("__debug__" : Str)) = false := by decide) : PE X (.Name x p) (rE X.K ca Γ d (.lit mv)) := by
  obtain ⟨v, u, h1, h2, h3⟩ := h
  exact s_lit (pe_glob hg h1 h2 hd) h3
end
end MP
namespace MP
open PySem L2
theorem own_ok {N : List Str} {sc scope : Scope} (own : List (Str × Nat)) (h : BlkOk N sc scope own) : BlkOk N sc scope own := h
/-- a constant tuple's object -/
def TupC (o : Obj) (ys : List V) : Prop := o.cls = .type "tuple" ∧ ∃ (its : Array Value) (n : Nat), o.data = .seq its n ∧ its.size ≤ sizeLine ∧ Vals ys its.toList
theorem glb_str {K : PySem.W.Frag} {mg : Str → Option Value} {x y : Str} {t : Tok} (h : mg x = some (.str y t)) : Glb K mg x (.str y) := ⟨.str y, _, h, ⟨t, rfl⟩, fun _ _ _ => .str _⟩
theorem glb_int {K : PySem.W.Frag} {mg : Str → Option Value} {x : Str} {y : Int} {t : Tok} (h : mg x = some (.int y t)) : Glb K mg x (.int y) := ⟨.int y, _, h, ⟨t, rfl⟩, fun _ _ _ => .int _⟩
theorem glb_tup {K : PySem.W.Frag} {mg : Str → Option Value} {x : Str} {a : Addr} {o : Obj} {mvs : List MV} {ys : List V} (h : mg x = some (.ref a)) (l : K.lookup a = some o) (t : TupC o ys) (r : ∀ ρ N H, RvL K ρ N H mvs ys) : Glb K mg x (.tup mvs) :=
  ⟨.ref a, _, h, rfl, fun ρ N H => .tup (.inr ⟨o, t.2.choose, t.2.choose_spec.choose, l, t.1, t.2.choose_spec.choose_spec⟩) (r ρ N H)⟩
theorem Fun.binds_ok {K : PySem.W.Frag} {x qual : Str} {st : Stmt} {f : Addr} {fd : FuncData} {ps : List Str} (F : Fun K x qual st f fd)
    (h : ∀ (kV doc pm : Value) (an : Option Addr) (cdv ct : Value) (us : List Value), us.length = ps.length → bindArgs (PySem.W.fnOf x qual (defArgs st) (defBody st) (defScope st) .none kV doc pm an cdv ct) ⟨us, []⟩ = pure (ps.zip us)) : Binds K fd ps [] := F.binds h
/-- what the evaluator says of the law, at the promise -/
theorem sp_of {K : PySem.W.Frag} {ca : Cls0} {Γ : Tab} {d f n : Nat} {fn : MFn} {H : Hp} {a : Addr} {xs : List Int} {st' : Store} (hΓ : Γ f = some fn) (hS : FrzL K H a (xs.map V.int)) (he : callB (ev Γ n d) fn [.scr (xs.map MV.int)] Store.emp = .ok (.bl true) st') :
    spF K ca Γ d f [.ref a] H (fun v _ => v = .bl true) fun _ _ _ => False := by
  refine ⟨n, fun _ => 0, Store.emp, _, fn, hΓ, sim_start, .cons (.scr hS ?_) .nil, .bl true, st', he, fun _ _ b _ _ r => by cases r; rfl⟩
  induction xs with
  | nil => exact .nil
  | cons x xs ih =>
    have q : ∀ (xs : List Int), RvL K (fun _ => 0) Store.emp.next H (xs.map MV.int) (xs.map V.int) := fun xs => by
      induction xs with
      | nil => exact .nil
      | cons x xs ih => exact .cons (.int _) ih
    exact q _
theorem MethOk.nil {K : PySem.W.Frag} {ca : Cls0} {fa : Nat → Addr} {m : Str} : MethOk K ca fa m [] := fun c f h => by cases h
theorem MethOk.cons {K : PySem.W.Frag} {ca : Cls0} {fa : Nat → Addr} {m : Str} {c0 f0 : Nat} {tab : List (Nat × Nat)} (h1 : Cls K (ca c0)) (h2 : Meth K (ca c0) m (fa f0)) (t : MethOk K ca fa m tab) : MethOk K ca fa m ((c0, f0) :: tab) := fun c f h => by
  rw [List.lookup_cons] at h
  cases e : c == c0 with
  | true =>
    rw [e] at h
    cases h
    have : c = c0 := by simpa using e
    subst this
    exact ⟨h1, h2⟩
  | false => rw [e] at h; exact t c f h
theorem FldOk.nil {K : PySem.W.Frag} {ca : Cls0} {f : Str} : FldOk K ca [] f := fun c h => by cases h
theorem FldOk.cons {K : PySem.W.Frag} {ca : Cls0} {f : Str} {c0 : Nat} {cs : List Nat} (h1 : Cls K (ca c0)) (h2 : NoAttr K (ca c0) f) (t : FldOk K ca cs f) : FldOk K ca (c0 :: cs) f := fun c h => by
  rcases List.mem_cons.mp h with rfl | h
  · exact ⟨h1, h2⟩
  · exact t c h
end MP

set_option Elab.async false
set_option linter.all false
set_option maxRecDepth 100000
set_option maxHeartbeats 4000000
/-! the evaluator by weakest preconditions: for the plain laws -/
namespace MP
open PySem L2
def W {α : Type} (run : Nat → Res α) (Q : α → Store → Prop) : Prop := ∃ n a st', (∀ k, n ≤ k → run k = .ok a st') ∧ Q a st'
def Rs {α : Type} (r : Res α) (Q : α → Store → Prop) : Prop := ∃ a st', r = .ok a st' ∧ Q a st'
section
variable {α β : Type}
theorem Rs.ok {a : α} {st : Store} {Q : α → Store → Prop} (h : Q a st) : Rs (.ok a st) Q := ⟨a, st, rfl, h⟩
theorem W.res {r : Res α} {Q : α → Store → Prop} (h : Rs r Q) : W (fun _ => r) Q := let ⟨a, st, e, q⟩ := h; ⟨0, a, st, fun _ _ => e, q⟩
theorem W.ok {a : α} {st : Store} {Q : α → Store → Prop} (h : Q a st) : W (fun _ => .ok a st) Q := W.res (Rs.ok h)
theorem W.up {run : Nat → Res α} {run' : Nat → Res α} {Q : α → Store → Prop} (e : ∀ k, run (k + 1) = run' k) (h : W run' Q) : W run Q := by
  obtain ⟨n, a, st, hr, q⟩ := h
  refine ⟨n + 1, a, st, fun k hk => ?_, q⟩
  cases k with
  | zero => omega
  | succ k => rw [e]; exact hr k (by omega)
theorem W.bind {run : Nat → Res α} {f : Nat → α → Store → Res β} {Q : β → Store → Prop} (h : W run fun a st => W (fun k => f k a st) Q) : W (fun k => (run k).bind (f k)) Q := by
  obtain ⟨n, a, st, h1, n2, b, st2, h2, q⟩ := h
  refine ⟨max n n2, b, st2, fun k hk => ?_, q⟩
  show (run k).bind (f k) = _
  rw [h1 k (by omega)]
  exact h2 k (by omega)
theorem W.mono {run : Nat → Res α} {Q Q' : α → Store → Prop} (h : W run Q) (k : ∀ a st, Q a st → Q' a st) : W run Q' := let ⟨n, a, st, e, q⟩ := h; ⟨n, a, st, e, k _ _ q⟩
theorem W.eq {run run' : Nat → Res α} {Q : α → Store → Prop} (h : W run Q) (e : ∀ k, run' k = run k) : W run' Q := by
  have : run' = run := funext e
  rw [this]; exact h
theorem Rs.mono {r : Res α} {Q Q' : α → Store → Prop} (h : Rs r Q) (k : ∀ a st, Q a st → Q' a st) : Rs r Q' := let ⟨a, st, e, q⟩ := h; ⟨a, st, e, k _ _ q⟩
end
section
variable (Γ : Tab) (d : Nat)
def wE (m : ME) (env : Env) (st : Store) (Q : MV → Store → Prop) : Prop := W (fun k => (ev Γ k d).e m env st) Q
def wT (m : ME) (env : Env) (st : Store) (Q : Bool → Store → Prop) : Prop := W (fun k => (ev Γ k d).t m env st) Q
def wA (m : List ME) (env : Env) (st : Store) (Q : List MV → Store → Prop) : Prop := W (fun k => (ev Γ k d).a m env st) Q
def wP (m : List (ME × ME)) (env : Env) (st : Store) (Q : List (MV × MV) → Store → Prop) : Prop := W (fun k => (ev Γ k d).p m env st) Q
def wO (m : Option ME) (env : Env) (st : Store) (Q : Option Int → Store → Prop) : Prop := W (fun k => (ev Γ k d).o m env st) Q
def wL (m : ME) (env : Env) (st : Store) (Q : List MV → Store → Prop) : Prop := W (fun k => (ev Γ k d).l m env st) Q
def wI (m : MI) (env : Env) (st : Store) (Q : Itv → Store → Prop) : Prop := W (fun k => (ev Γ k d).i m env st) Q
def wTs (m : List ME) (env : Env) (st : Store) (Q : Bool → Store → Prop) : Prop := W (fun k => (ev Γ k d).ts m env st) Q
def wF (w : Itv) (tg : Tg) (b : List MS) (env : Env) (st : Store) (Q : Fl × Env → Store → Prop) : Prop := W (fun k => (ev Γ k d).f w tg b env st) Q
def wG (w : Itv) (tg : Tg) (cs : List ME) (el : ME) (env : Env) (acc : List MV) (st : Store) (Q : List MV → Store → Prop) : Prop := W (fun k => (ev Γ k d).g w tg cs el env acc st) Q
def wS (m : MS) (env : Env) (st : Store) (Q : Fl × Env → Store → Prop) : Prop := W (fun k => (ev Γ k d).s m env st) Q
def wB (m : List MS) (env : Env) (st : Store) (Q : Fl × Env → Store → Prop) : Prop := W (fun k => (ev Γ k d).b m env st) Q
/-- a call -/
def wC (f : Nat) (vs : List MV) (st : Store) (Q : MV → Store → Prop) : Prop := ∃ fn, Γ f = some fn ∧ W (fun k => callB (ev Γ k d) fn vs st) Q
end
section
variable {Γ : Tab} {d : Nat} {env : Env} {st : Store}
/-- a body's end as a call's -/
def retQ (Q : MV → Store → Prop) : Fl × Env → Store → Prop := fun r st => match r.1 with
  | .nx => Q .non st
  | .rt v => Q v st
  | _ => False
theorem c_body {f : Nat} {fn : MFn} {vs : List MV} {Q : MV → Store → Prop} (hf : Γ f = some fn) (hl : vs.length = fn.np) (h : wB Γ d fn.body (startE vs fn.ns) st (retQ Q)) : wC Γ d f vs st Q := by
  refine ⟨fn, hf, ?_⟩
  obtain ⟨n, r, st', e, q⟩ := h
  obtain ⟨fl, env'⟩ := r
  cases fl with
  | nx => exact ⟨n, .non, st', fun k hk => by
      have e2 : (ev Γ k d).b fn.body (startE vs fn.ns) st = _ := e k hk
      show callB _ fn vs st = _
      unfold callB
      rw [if_pos hl, e2]
      rfl, q⟩
  | rt v => exact ⟨n, v, st', fun k hk => by
      have e2 : (ev Γ k d).b fn.body (startE vs fn.ns) st = _ := e k hk
      show callB _ fn vs st = _
      unfold callB
      rw [if_pos hl, e2]
      rfl, q⟩
  | bk => exact q.elim
  | ct => exact q.elim
theorem wC.mono {f : Nat} {vs : List MV} {Q Q' : MV → Store → Prop} (h : wC Γ d f vs st Q) (k : ∀ a st, Q a st → Q' a st) : wC Γ d f vs st Q' := let ⟨fn, h1, h2⟩ := h; ⟨fn, h1, h2.mono k⟩
/-! ### expressions -/
theorem e_lit {v : MV} {Q : MV → Store → Prop} (h : Q v st) : wE Γ d (.lit v) env st Q := W.up (run' := fun _ => .ok v st) (fun _ => rfl) (W.ok h)
theorem e_var {i : Nat} {v : MV} {Q : MV → Store → Prop} (e : env[i]? = some (some v)) (h : Q v st) : wE Γ d (.var i) env st Q := W.up (run' := fun _ => .ok v st) (fun k => by
    show (match env[i]? with
      | some (some v) => Res.ok v st
      | _ => .stuck) = _
    rw [e]) (W.ok h)
theorem e_bin {op : BOp} {a b : ME} {Q : MV → Store → Prop} (h : wE Γ d a env st fun x st1 => wE Γ d b env st1 fun y st2 => Rs (binV op x y st2) Q) : wE Γ d (.bin op a b) env st Q :=
  W.up (fun _ => rfl) (W.bind (h.mono fun x st1 h => W.bind (h.mono fun y st2 h => W.res h)))
theorem e_cmp {op : COp} {a b : ME} {Q : MV → Store → Prop} (h : wE Γ d a env st fun x st1 => wE Γ d b env st1 fun y st2 => Rs (cmpV op x y st2) Q) : wE Γ d (.cmp op a b) env st Q :=
  W.up (fun _ => rfl) (W.bind (h.mono fun x st1 h => W.bind (h.mono fun y st2 h => W.res h)))
theorem e_cmpL {op : COp} {a b : ME} {Q : MV → Store → Prop} (h : wL Γ d a env st fun x st1 => wL Γ d b env st1 fun y st2 => Rs (cmpLV op x y st2) Q) : wE Γ d (.cmpL op a b) env st Q :=
  W.up (fun _ => rfl) (W.bind (h.mono fun x st1 h => W.bind (h.mono fun y st2 h => W.res h)))
theorem e_isN {neg : Bool} {a : ME} {Q : MV → Store → Prop} (h : wE Γ d a env st fun x st1 => Rs (match x with
    | .non => .ok (.bl (!neg)) st1
    | _ => .ok (.bl neg) st1) Q) : wE Γ d (.isN neg a) env st Q :=
  W.up (fun _ => rfl) (W.bind (h.mono fun x st1 h => W.res h))
theorem e_isB {c neg : Bool} {a : ME} {Q : MV → Store → Prop} (h : wE Γ d a env st fun x st1 => ∃ k, x = .bl k ∧ Q (.bl (if neg then !(decide (k = c)) else decide (k = c))) st1) : wE Γ d (.isB c neg a) env st Q :=
  W.up (fun _ => rfl) (W.bind (h.mono fun x st1 ⟨k, e, h⟩ => by subst e; exact W.ok h))
theorem e_and {a b : ME} {Q : MV → Store → Prop} (h : wE Γ d a env st fun x st1 => ∃ k, x = .bl k ∧ (k = true → wE Γ d b env st1 Q) ∧ (k = false → Q (.bl false) st1)) : wE Γ d (.and a b) env st Q :=
  W.up (fun _ => rfl) (W.bind (h.mono fun x st1 ⟨k, e, h1, h2⟩ => by
    subst e
    cases k with
    | true => exact h1 rfl
    | false => exact W.ok (h2 rfl)))
theorem e_or {a b : ME} {Q : MV → Store → Prop} (h : wE Γ d a env st fun x st1 => ∃ k, x = .bl k ∧ (k = false → wE Γ d b env st1 Q) ∧ (k = true → Q (.bl true) st1)) : wE Γ d (.or a b) env st Q :=
  W.up (fun _ => rfl) (W.bind (h.mono fun x st1 ⟨k, e, h1, h2⟩ => by
    subst e
    cases k with
    | false => exact h1 rfl
    | true => exact W.ok (h2 rfl)))
theorem e_not {a : ME} {Q : MV → Store → Prop} (h : wT Γ d a env st fun k st1 => Q (.bl (!k)) st1) : wE Γ d (.not a) env st Q :=
  W.up (fun _ => rfl) (W.bind (h.mono fun x st1 h => W.ok h))
theorem e_ifx {c a b : ME} {Q : MV → Store → Prop} (h : wT Γ d c env st fun k st1 => (k = true → wE Γ d a env st1 Q) ∧ (k = false → wE Γ d b env st1 Q)) : wE Γ d (.ifx c a b) env st Q :=
  W.up (fun _ => rfl) (W.bind (h.mono fun k st1 ⟨h1, h2⟩ => by
    cases k with
    | true => exact (h1 rfl).eq fun _ => if_pos rfl
    | false => exact (h2 rfl).eq fun _ => if_neg Bool.false_ne_true))
theorem e_idx {a b : ME} {Q : MV → Store → Prop} (h : wE Γ d a env st fun x st1 => wE Γ d b env st1 fun y st2 => Rs (idxV x y st2) Q) : wE Γ d (.idx a b) env st Q :=
  W.up (fun _ => rfl) (W.bind (h.mono fun x st1 h => W.bind (h.mono fun y st2 h => W.res h)))
theorem e_slc {a : ME} {lo hi : Option ME} {Q : MV → Store → Prop} (h : wE Γ d a env st fun x st1 => wO Γ d lo env st1 fun l st2 => wO Γ d hi env st2 fun r st3 => Rs (slcV x l r st3) Q) : wE Γ d (.slc a lo hi) env st Q :=
  W.up (fun _ => rfl) (W.bind (h.mono fun x st1 h => W.bind (h.mono fun y st2 h => W.bind (h.mono fun z st3 h => W.res h))))
theorem e_tup {es : List ME} {Q : MV → Store → Prop} (h : wA Γ d es env st fun vs st1 => Rs (newT vs st1) Q) : wE Γ d (.tupD es) env st Q :=
  W.up (fun _ => rfl) (W.bind (h.mono fun x st1 h => W.res h))
theorem e_mk {e : ME} {Q : MV → Store → Prop} (h : wL Γ d e env st fun vs st1 => Rs (newL vs st1) Q) : wE Γ d (.mk e) env st Q :=
  W.up (fun _ => rfl) (W.bind (h.mono fun x st1 h => W.res h))
theorem e_dic {kvs : List (ME × ME)} {Q : MV → Store → Prop} (hl : kvs.length ≤ 15) (h : wP Γ d kvs env st fun ps st1 => ∃ q, kvsV ps = some q ∧ Q (.ref st1.next) (st1.add (.dK (kvMerge [] q)))) : wE Γ d (.dicD kvs) env st Q :=
  W.up (run' := fun k => ((ev Γ k d).p kvs env st).bind fun ps st => match kvsV ps with
    | some q => .ok (MV.ref st.next) (st.add (.dK (kvMerge [] q)))
    | none => .stuck) (fun k => by
      show (if kvs.length ≤ 15 then _ else Res.stuck) = _
      rw [if_pos hl]
      all_goals rfl) (W.bind (h.mono fun x st1 ⟨q, e, h⟩ => by rw [e]; exact W.ok h))
theorem e_call {f : Nat} {es : List ME} {Q : MV → Store → Prop} (h : wA Γ (d + 1) es env st fun vs st1 => wC Γ d f vs st1 Q) : wE Γ (d + 1) (.call f es) env st Q :=
  W.up (fun _ => rfl) (W.bind (h.mono fun x st1 ⟨fn, e, h⟩ => h.eq fun k => by rw [e]))
theorem e_bi {b : BI} {es : List ME} {Q : MV → Store → Prop} (h : wA Γ d es env st fun vs st1 => Rs (biV b vs st1) Q) : wE Γ d (.bi b es) env st Q :=
  W.up (fun _ => rfl) (W.bind (h.mono fun x st1 h => W.res h))
theorem e_all {e : ME} {Q : MV → Store → Prop} (h : wL Γ d e env st fun vs st1 => ∃ bs, blsV vs = some bs ∧ Q (.bl (bs.all id)) st1) : wE Γ d (.all e) env st Q :=
  W.up (fun _ => rfl) (W.bind (h.mono fun x st1 ⟨bs, e, h⟩ => by rw [e]; exact W.ok h))
theorem e_any {e : ME} {Q : MV → Store → Prop} (h : wL Γ d e env st fun vs st1 => ∃ bs, blsV vs = some bs ∧ Q (.bl (bs.any id)) st1) : wE Γ d (.any e) env st Q :=
  W.up (fun _ => rfl) (W.bind (h.mono fun x st1 ⟨bs, e, h⟩ => by rw [e]; exact W.ok h))
theorem e_join {s e : ME} {Q : MV → Store → Prop} (h : wE Γ d s env st fun x st1 => wL Γ d e env st1 fun vs st2 => ∃ a ys, x = .str a ∧ strsV vs = some ys ∧ (ys.map (·.length)).sum + ys.length * a.length ≤ 16777216 ∧ Q (.str (Txt.join a ys)) st2) : wE Γ d (.join s e) env st Q :=
  W.up (fun _ => rfl) (W.bind (h.mono fun x st1 h => W.bind (h.mono fun vs st2 ⟨a, ys, e1, e2, e3, hq⟩ => by
    subst e1
    refine (W.ok (a := MV.str (Txt.join a ys)) hq).eq fun k => ?_
    simp only [e2]
    rw [if_pos e3])))
theorem e_neg {a : ME} {Q : MV → Store → Prop} (h : wE Γ d a env st fun x st1 => ∃ i, x = .int i ∧ Q (.int (-i)) st1) : wE Γ d (.neg a) env st Q :=
  W.up (fun _ => rfl) (W.bind (h.mono fun x st1 ⟨i, e, h⟩ => by subst e; exact W.ok h))
theorem e_meth {m : Mt} {o : ME} {es : List ME} {Q : MV → Store → Prop} (h : wE Γ d o env st fun x st1 => isLst st1 x = true ∧ wA Γ d es env st1 fun vs st2 => Rs (methV m x vs st2) Q) : wE Γ d (.meth m o es) env st Q :=
  W.up (fun _ => rfl) (W.bind (h.mono fun x st1 ⟨e, h⟩ => (W.bind (f := fun _ vs st => methV m x vs st) (h.mono fun vs st2 h => W.res h)).eq fun k => if_pos e))
/-! ### tests -/
theorem t_e {m : ME} {Q : Bool → Store → Prop} (hm : ∀ n env st, (ev Γ (n + 1) d).t m env st = ((ev Γ n d).e m env st).bind fun v st => match truV v st with
      | some k => .ok k st
      | none => .stuck) (h : wE Γ d m env st fun v st1 => ∃ k, truV v st1 = some k ∧ Q k st1) : wT Γ d m env st Q :=
  W.up (fun k => hm k env st) (W.bind (h.mono fun v st1 ⟨k, e, h⟩ => by rw [e]; exact W.ok h))
theorem t_and' {a b : ME} {Q : Bool → Store → Prop} (h : wT Γ d a env st fun k st1 => (k = true → wT Γ d b env st1 Q) ∧ (k = false → Q false st1)) : wT Γ d (.and a b) env st Q :=
  W.up (fun _ => rfl) (W.bind (h.mono fun k st1 ⟨h1, h2⟩ => by
    cases k with
    | true => exact (h1 rfl).eq fun _ => if_pos rfl
    | false => exact (W.ok (h2 rfl)).eq fun _ => if_neg Bool.false_ne_true))
theorem t_or' {a b : ME} {Q : Bool → Store → Prop} (h : wT Γ d a env st fun k st1 => (k = false → wT Γ d b env st1 Q) ∧ (k = true → Q true st1)) : wT Γ d (.or a b) env st Q :=
  W.up (fun _ => rfl) (W.bind (h.mono fun k st1 ⟨h1, h2⟩ => by
    cases k with
    | true => exact (W.ok (h2 rfl)).eq fun _ => if_pos rfl
    | false => exact (h1 rfl).eq fun _ => if_neg Bool.false_ne_true))
theorem t_not' {a : ME} {Q : Bool → Store → Prop} (h : wT Γ d a env st fun k st1 => Q (!k) st1) : wT Γ d (.not a) env st Q :=
  W.up (fun _ => rfl) (W.bind (h.mono fun x st1 h => W.ok h))
/-! ### arguments, lists -/
theorem a_nil {Q : List MV → Store → Prop} (h : Q [] st) : wA Γ d [] env st Q := W.up (run' := fun _ => .ok [] st) (fun _ => rfl) (W.ok h)
theorem a_cons {m : ME} {ms : List ME} {Q : List MV → Store → Prop} (h : wE Γ d m env st fun v st1 => wA Γ d ms env st1 fun vs st2 => Q (v :: vs) st2) : wA Γ d (m :: ms) env st Q :=
  W.up (fun _ => rfl) (W.bind (h.mono fun v st1 h => W.bind (h.mono fun vs st2 h => W.ok h)))
theorem p_nil' {Q : List (MV × MV) → Store → Prop} (h : Q [] st) : wP Γ d [] env st Q := W.up (run' := fun _ => .ok [] st) (fun _ => rfl) (W.ok h)
theorem p_cons' {k m : ME} {ms : List (ME × ME)} {Q : List (MV × MV) → Store → Prop} (h : wE Γ d k env st fun q st0 => wE Γ d m env st0 fun v st1 => wP Γ d ms env st1 fun vs st2 => Q ((q, v) :: vs) st2) : wP Γ d ((k, m) :: ms) env st Q :=
  W.up (fun _ => rfl) (W.bind (h.mono fun q st0 h => W.bind (h.mono fun v st1 h => W.bind (h.mono fun vs st2 h => W.ok h))))
theorem o_none' {Q : Option Int → Store → Prop} (h : Q none st) : wO Γ d none env st Q := W.up (run' := fun _ => .ok none st) (fun _ => rfl) (W.ok h)
theorem o_some' {m : ME} {Q : Option Int → Store → Prop} (h : wE Γ d m env st fun v st1 => ∃ i, v = .int i ∧ Q (some i) st1) : wO Γ d (some m) env st Q :=
  W.up (fun _ => rfl) (W.bind (h.mono fun v st1 ⟨i, e, h⟩ => by subst e; exact W.ok h))
theorem l_lst {es : List ME} {Q : List MV → Store → Prop} (h : wA Γ d es env st fun vs st1 => vs.length ≤ sizeLine ∧ Q vs st1) : wL Γ d (.lstD es) env st Q :=
  W.up (fun _ => rfl) (W.bind (h.mono fun v st1 ⟨e, h⟩ => (W.ok h).eq fun _ => if_pos e))
theorem l_comp {elt : ME} {tg : Tg} {it : MI} {conds : List ME} {ws : List Nat} {Q : List MV → Store → Prop} (h : wI Γ d it env st fun w st1 => wG Γ d w tg conds elt (wipeE env ws) [] st1 Q) : wL Γ d (.comp elt tg it conds ws) env st Q :=
  W.up (fun _ => rfl) (W.bind (h.mono fun v st1 h => h))
theorem l_val {m : ME} {Q : List MV → Store → Prop} (hm : ∀ n env st, (ev Γ (n + 1) d).l m env st = ((ev Γ n d).e m env st).bind fun v st => match lstV st v with
    | some xs => .ok xs st
    | none => .stuck) (h : wE Γ d m env st fun v st1 => ∃ xs, lstV st1 v = some xs ∧ Q xs st1) : wL Γ d m env st Q :=
  W.up (fun k => hm k env st) (W.bind (h.mono fun v st1 ⟨xs, e, h⟩ => by rw [e]; exact W.ok h))
/-! ### what is walked -/
def itOf (v : MV) (st : Store) : Option Itv := match v with
  | .tup xs => some (.snap xs)
  | .scr xs => some (.snap xs)
  | .str z => some (.snap (signs z))
  | .ref n => match st.get n with
    | some (.lst _) => some (.live n 0)
    | _ => none
  | _ => none
theorem i_seq' {m : ME} {Q : Itv → Store → Prop} (h : wE Γ d m env st fun v st1 => ∃ w, itOf v st1 = some w ∧ Q w st1) : wI Γ d (.seq m) env st Q :=
  W.up (fun _ => rfl) (W.bind (h.mono fun v st1 ⟨w, e, h⟩ => by
    cases v with
    | tup xs => cases e; exact W.ok h
    | scr xs => cases e; exact W.ok h
    | str z => cases e; exact W.ok h
    | ref n =>
      have e' : (match st1.get n with
        | some (.lst _) => some (Itv.live n 0)
        | _ => none) = some w := e
      refine (W.ok h).eq fun k => ?_
      show (match st1.get n with
        | some (.lst _) => Res.ok (Itv.live n 0) st1
        | _ => .stuck) = _
      cases hg : st1.get n with
      | none => rw [hg] at e'; cases e'
      | some o =>
        rw [hg] at e'
        cases o with
        | lst _ => cases e'; rfl
        | dK _ => cases e'
        | dF _ => cases e'
        | ins _ _ => cases e'
    | _ => cases e))
theorem i_tmp' {m : ME} {Q : Itv → Store → Prop} (h : wL Γ d m env st fun xs st1 => Q (.snap xs) st1) : wI Γ d (.tmp m) env st Q :=
  W.up (fun _ => rfl) (W.bind (h.mono fun v st1 h => W.ok h))
theorem i_rng {m : ME} {Q : Itv → Store → Prop} (h : wE Γ d m env st fun v st1 => ∃ j, v = .int j ∧ (-(2 ^ 62) ≤ j ∧ j < 2 ^ 62) ∧ Q (.snap (rngV 0 j.toNat)) st1) : wI Γ d (.rng1 m) env st Q :=
  W.up (fun _ => rfl) (W.bind (h.mono fun v st1 ⟨j, e, hj, h⟩ => by subst e; exact (W.ok h).eq fun _ => if_pos hj))
theorem ts_nil' {Q : Bool → Store → Prop} (h : Q true st) : wTs Γ d [] env st Q := W.up (run' := fun _ => .ok true st) (fun _ => rfl) (W.ok h)
theorem ts_one' {c : ME} {Q : Bool → Store → Prop} (h : wT Γ d c env st Q) : wTs Γ d [c] env st Q :=
  W.up (fun _ => rfl) (W.bind (h.mono fun k st1 h => by
    cases k with
    | true => exact (ts_nil' h).eq fun _ => if_pos rfl
    | false => exact (W.ok h).eq fun _ => if_neg Bool.false_ne_true))
/-! ### comprehensions over what does not change -/
theorem g_nil {tg : Tg} {cs : List ME} {el : ME} {acc : List MV} {Q : List MV → Store → Prop} (h : Q acc st) : wG Γ d (.snap []) tg cs el env acc st Q := W.up (run' := fun _ => .ok acc st) (fun _ => rfl) (W.ok h)
theorem g_cons {tg : Tg} {cs : List ME} {el : ME} {acc : List MV} {v : MV} {xs : List MV} {env1 : Env} {Q : List MV → Store → Prop} (ht : tg.set v env = some env1)
    (h : wTs Γ d cs env1 st fun k st1 => (k = true → wE Γ d el env1 st1 fun y st2 => acc.length < sizeLine ∧ wG Γ d (.snap xs) tg cs el env (acc ++ [y]) st2 Q) ∧ (k = false → wG Γ d (.snap xs) tg cs el env acc st1 Q)) :
    wG Γ d (.snap (v :: xs)) tg cs el env acc st Q :=
  W.up (run' := fun k => ((ev Γ k d).ts cs env1 st).bind fun c st => if c = true then ((ev Γ k d).e el env1 st).bind fun y st =>
          if acc.length < sizeLine then (ev Γ k d).g (.snap xs) tg cs el env (acc ++ [y]) st else .stuck
        else (ev Γ k d).g (.snap xs) tg cs el env acc st) (fun k => by
      show (match tg.set v env with
        | none => Res.stuck
        | some env1 => _) = _
      rw [ht]) (W.bind (h.mono fun k st1 ⟨h1, h2⟩ => by
    cases k with
    | true => exact (W.bind ((h1 rfl).mono fun y st2 ⟨e, h⟩ => h.eq fun _ => if_pos e)).eq fun _ => if_pos rfl
    | false => exact (h2 rfl).eq fun _ => if_neg Bool.false_ne_true))
/-! ### statements -/
theorem b_nil' {Q : Fl × Env → Store → Prop} (h : Q (.nx, env) st) : wB Γ d [] env st Q := W.up (run' := fun _ => .ok (.nx, env) st) (fun _ => rfl) (W.ok h)
/-- what comes behind a statement -/
def thenQ (Γ : Tab) (d : Nat) (r : List MS) (Q : Fl × Env → Store → Prop) : Fl × Env → Store → Prop := fun x st => match x.1 with
  | .nx => wB Γ d r x.2 st Q
  | fl => Q (fl, x.2) st
theorem b_cons' {m : MS} {r : List MS} {Q : Fl × Env → Store → Prop} (h : wS Γ d m env st (thenQ Γ d r Q)) : wB Γ d (m :: r) env st Q :=
  W.up (fun _ => rfl) (W.bind (h.mono fun x st1 h => by
    obtain ⟨fl, env'⟩ := x
    cases fl with
    | nx => exact h
    | bk => exact W.ok h
    | ct => exact W.ok h
    | rt v => exact W.ok h))
theorem S_set {i : Nat} {e : ME} {Q : Fl × Env → Store → Prop} (h : wE Γ d e env st fun v st1 => Q (.nx, env.set i (some v)) st1) : wS Γ d (.set i e) env st Q :=
  W.up (fun _ => rfl) (W.bind (h.mono fun v st1 h => W.ok h))
theorem S_par {i j : Nat} {a b : ME} {Q : Fl × Env → Store → Prop} (h : wE Γ d a env st fun v st1 => wE Γ d b env st1 fun u st2 => Q (.nx, (env.set i (some v)).set j (some u)) st2) : wS Γ d (.par i j a b) env st Q :=
  W.up (fun _ => rfl) (W.bind (h.mono fun v st1 h => W.bind (h.mono fun u st2 h => W.ok h)))
theorem S_put {o i e : ME} {Q : Fl × Env → Store → Prop} (h : wE Γ d e env st fun v st1 => wE Γ d o env st1 fun x st2 => wE Γ d i env st2 fun y st3 => ∃ st', putV x y v st3 = some st' ∧ Q (.nx, env) st') : wS Γ d (.put o i e) env st Q :=
  W.up (fun _ => rfl) (W.bind (h.mono fun v st1 h => W.bind (h.mono fun x st2 h => W.bind (h.mono fun y st3 ⟨st', e, h⟩ => by rw [e]; exact W.ok h))))
theorem S_iff {c : ME} {a b : List MS} {Q : Fl × Env → Store → Prop} (h : wT Γ d c env st fun k st1 => (k = true → wB Γ d a env st1 Q) ∧ (k = false → wB Γ d b env st1 Q)) : wS Γ d (.iff c a b) env st Q :=
  W.up (fun _ => rfl) (W.bind (h.mono fun k st1 ⟨h1, h2⟩ => by
    cases k with
    | true => exact (h1 rfl).eq fun _ => if_pos rfl
    | false => exact (h2 rfl).eq fun _ => if_neg Bool.false_ne_true))
theorem S_ret {e : ME} {Q : Fl × Env → Store → Prop} (h : wE Γ d e env st fun v st1 => Q (.rt v, env) st1) : wS Γ d (.ret e) env st Q :=
  W.up (fun _ => rfl) (W.bind (h.mono fun v st1 h => W.ok h))
theorem S_expr {e : ME} {Q : Fl × Env → Store → Prop} (h : wE Γ d e env st fun v st1 => Q (.nx, env) st1) : wS Γ d (.expr e) env st Q :=
  W.up (fun _ => rfl) (W.bind (h.mono fun v st1 h => W.ok h))
theorem S_for {tg : Tg} {it : MI} {body : List MS} {Q : Fl × Env → Store → Prop} (h : wI Γ d it env st fun w st1 => wF Γ d w tg body env st1 Q) : wS Γ d (.for_ tg it body) env st Q :=
  W.up (fun _ => rfl) (W.bind (h.mono fun v st1 h => h))
theorem S_while {c : ME} {body : List MS} {Q : Fl × Env → Store → Prop} (h : wT Γ d c env st fun k st1 => (k = true → wB Γ d body env st1 fun r st2 => match r.1 with
      | .nx => wS Γ d (.while_ c body) r.2 st2 Q
      | .ct => wS Γ d (.while_ c body) r.2 st2 Q
      | .bk => Q (.nx, r.2) st2
      | .rt v => Q (.rt v, r.2) st2) ∧ (k = false → Q (.nx, env) st1)) : wS Γ d (.while_ c body) env st Q :=
  W.up (fun _ => rfl) (W.bind (h.mono fun k st1 ⟨h1, h2⟩ => by
    cases k with
    | true =>
      refine (W.bind ((h1 rfl).mono fun r st2 h => ?_)).eq fun _ => if_pos rfl
      obtain ⟨fl, env'⟩ := r
      cases fl with
      | nx => exact h
      | ct => exact h
      | bk => exact W.ok h
      | rt v => exact W.ok h
    | false => exact (W.ok (h2 rfl)).eq fun _ => if_neg Bool.false_ne_true))
theorem f_nil {tg : Tg} {body : List MS} {Q : Fl × Env → Store → Prop} (h : Q (.nx, env) st) : wF Γ d (.snap []) tg body env st Q := W.up (run' := fun _ => .ok (.nx, env) st) (fun _ => rfl) (W.ok h)
/-- a turn's end: the next turns, or out -/
def turnQ (Γ : Tab) (d : Nat) (w : Itv) (tg : Tg) (body : List MS) (Q : Fl × Env → Store → Prop) : Fl × Env → Store → Prop := fun r st2 => match r.1 with
  | .nx => wF Γ d w tg body r.2 st2 Q
  | .ct => wF Γ d w tg body r.2 st2 Q
  | .bk => Q (.nx, r.2) st2
  | .rt v => Q (.rt v, r.2) st2
theorem f_cons {tg : Tg} {body : List MS} {v : MV} {xs : List MV} {env1 : Env} {Q : Fl × Env → Store → Prop} (ht : tg.set v env = some env1) (h : wB Γ d body env1 st (turnQ Γ d (.snap xs) tg body Q)) : wF Γ d (.snap (v :: xs)) tg body env st Q :=
  W.up (run' := fun k => ((ev Γ k d).b body env1 st).bind fun r st => match r.1 with
        | .nx => (ev Γ k d).f (.snap xs) tg body r.2 st
        | .ct => (ev Γ k d).f (.snap xs) tg body r.2 st
        | .bk => .ok (.nx, r.2) st
        | .rt v => .ok (.rt v, r.2) st) (fun k => by
      show (match tg.set v env with
        | none => Res.stuck
        | some env1 => _) = _
      rw [ht]
      all_goals rfl) (W.bind (h.mono fun r st2 h => by
    obtain ⟨fl, env'⟩ := r
    cases fl with
    | nx => exact h
    | ct => exact h
    | bk => exact W.ok h
    | rt v => exact W.ok h))
/-- turns that keep an invariant -/
theorem f_inv {tg : Tg} {body : List MS} {xs : List MV} {Q : Fl × Env → Store → Prop} (P : Env → Store → Prop) (h0 : P env st) (step : ∀ v env st, v ∈ xs → P env st → ∃ env1, tg.set v env = some env1 ∧ wB Γ d body env1 st fun r st2 => (r.1 = .nx ∨ r.1 = .ct) ∧ P r.2 st2)
    (out : ∀ env st, P env st → Q (.nx, env) st) : wF Γ d (.snap xs) tg body env st Q := by
  induction xs generalizing env st with
  | nil => exact f_nil (out _ _ h0)
  | cons v xs ih =>
    obtain ⟨env1, e, hb⟩ := step v env st (List.mem_cons_self ..) h0
    refine f_cons e (hb.mono fun r st2 ⟨h1, h2⟩ => ?_)
    obtain ⟨fl, env'⟩ := r
    have q := ih h2 fun v env st hv => step v env st (List.mem_cons_of_mem _ hv)
    rcases h1 with h1 | h1 <;> (simp only at h1; subst h1; exact q)
/-- a comprehension without tests, item by item -/
theorem g_inv {tg : Tg} {el : ME} {xs acc : List MV} {Q : List MV → Store → Prop} (P : List MV → Store → Prop) (h0 : P [] st) (hl : acc.length + xs.length ≤ sizeLine)
    (step : ∀ v ys st, v ∈ xs → P ys st → ∃ env1, tg.set v env = some env1 ∧ wE Γ d el env1 st fun y st2 => P (ys ++ [y]) st2)
    (out : ∀ ys st, ys.length = xs.length → P ys st → Q (acc ++ ys) st) : wG Γ d (.snap xs) tg [] el env acc st Q := by
  have main : ∀ (xs' : List MV) (ys : List MV) (st : Store), (∀ v, v ∈ xs' → v ∈ xs) → acc.length + ys.length + xs'.length ≤ sizeLine → ys.length + xs'.length = xs.length → P ys st → wG Γ d (.snap xs') tg [] el env (acc ++ ys) st Q := by
    intro xs'
    induction xs' with
    | nil => exact fun ys st _ _ h2 hp => g_nil (out ys st h2 hp)
    | cons v xs' ih =>
      intro ys st hv h1 h2 hp
      obtain ⟨env1, e, he⟩ := step v ys st (hv v (List.mem_cons_self ..)) hp
      refine g_cons e (ts_nil' ⟨fun _ => he.mono fun y st2 hy => ⟨?_, ?_⟩, fun z => by cases z⟩)
      · rw [List.length_append]; simp only [List.length_cons] at h1; omega
      · rw [List.append_assoc]
        refine ih (ys ++ [y]) st2 (fun u hu => hv u (List.mem_cons_of_mem _ hu)) ?_ ?_ hy
        · simp only [List.length_append, List.length_cons, List.length_nil] at *; omega
        · simp only [List.length_append, List.length_cons, List.length_nil] at *; omega
  have q := main xs [] st (fun _ h => h) (by simpa using hl) (by simp) h0
  rw [List.append_nil] at q
  exact q
end
end MP

set_option Elab.async false
set_option linter.all false
set_option maxRecDepth 100000
set_option maxHeartbeats 4000000
/-! the laws' own source of choices -/
namespace MP
open PySem L2
theorem Rs.ite {α : Type} {c : Prop} [Decidable c] {r : Res α} {Q : α → Store → Prop} (hc : c) (h : Rs r Q) : Rs (if c then r else .stuck) Q := by rw [if_pos hc]; exact h
/-- the dict of a source -/
def srcKv (g : Nat) (l m t : Int) : List (Key × MV) := [(.inr "cells", .ref g), (.inr "left", .int l), (.inr "mixed", .int m), (.inr "turn", .int t)]
theorem k_cl : ¬ (("cells" : Str) = "left") := by decide +kernel
theorem k_cm : ¬ (("cells" : Str) = "mixed") := by decide +kernel
theorem k_ct : ¬ (("cells" : Str) = "turn") := by decide +kernel
theorem k_lm : ¬ (("left" : Str) = "mixed") := by decide +kernel
theorem k_lt : ¬ (("left" : Str) = "turn") := by decide +kernel
theorem k_mt : ¬ (("mixed" : Str) = "turn") := by decide +kernel
structure SrcAt (st : Store) (s g : Nat) (ds : List Int) (l m t : Int) : Prop where
  wf : st.wf
  ls : s < st.next
  lg : g < st.next
  ne : s ≠ g
  gs : st.get s = some (.dK (srcKv g l m t))
  gg : st.get g = some (.lst (ds.map MV.int))
def Src (st : Store) (s g : Nat) : Prop := ∃ ds l m t, SrcAt st s g ds l m t
/-- only the source has changed -/
structure Fr (s g : Nat) (st st' : Store) : Prop where
  le : st.next ≤ st'.next
  kp : ∀ n, n < st.next → n ≠ s → n ≠ g → st'.get n = st.get n
theorem Fr.refl (s g : Nat) (st : Store) : Fr s g st st := ⟨Nat.le_refl _, fun _ _ _ _ => rfl⟩
theorem Fr.trans {s g : Nat} {a b c : Store} (h : Fr s g a b) (k : Fr s g b c) : Fr s g a c := ⟨Nat.le_trans h.le k.le, fun n hn h1 h2 => (k.kp n (Nat.lt_of_lt_of_le hn h.le) h1 h2).trans (h.kp n hn h1 h2)⟩
theorem Fr.add {s g : Nat} {st : Store} (wf : st.wf) (o : MO) : Fr s g st (st.add o) := ⟨Nat.le_succ _, fun n hn _ _ => by rw [Store.get_add wf, if_neg (Nat.ne_of_lt hn)]⟩
theorem SrcAt.add {st : Store} {s g : Nat} {ds : List Int} {l m t : Int} (h : SrcAt st s g ds l m t) (o : MO) : SrcAt (st.add o) s g ds l m t :=
  ⟨Store.wf_add h.wf _, Nat.lt_succ_of_lt h.ls, Nat.lt_succ_of_lt h.lg, h.ne, by rw [Store.get_add h.wf, if_neg (Nat.ne_of_lt h.ls)]; exact h.gs, by rw [Store.get_add h.wf, if_neg (Nat.ne_of_lt h.lg)]; exact h.gg⟩
theorem Src.add {st : Store} {s g : Nat} (h : Src st s g) (o : MO) : Src (st.add o) s g := let ⟨_, _, _, _, h⟩ := h; ⟨_, _, _, _, h.add o⟩
theorem Src.wf {st : Store} {s g : Nat} (h : Src st s g) : st.wf := let ⟨_, _, _, _, h⟩ := h; h.wf
section
variable {st : Store} {s g : Nat} {ds : List Int} {l m t : Int}
theorem SrcAt.iC (h : SrcAt st s g ds l m t) : idxV (.ref s) (.str "cells") st = .ok (.ref g) st := by
  unfold idxV; simp only [h.gs, keyV, kvLook, srcKv]; simp [k_cl, k_cm, k_ct]
theorem SrcAt.iL (h : SrcAt st s g ds l m t) : idxV (.ref s) (.str "left") st = .ok (.int l) st := by
  unfold idxV; simp only [h.gs, keyV, kvLook, srcKv]; simp [k_cl]
theorem SrcAt.iM (h : SrcAt st s g ds l m t) : idxV (.ref s) (.str "mixed") st = .ok (.int m) st := by
  unfold idxV; simp only [h.gs, keyV, kvLook, srcKv]; simp [k_cm, k_lm]
theorem SrcAt.iT (h : SrcAt st s g ds l m t) : idxV (.ref s) (.str "turn") st = .ok (.int t) st := by
  unfold idxV; simp only [h.gs, keyV, kvLook, srcKv]; simp [k_ct, k_lt, k_mt]
theorem SrcAt.pL (h : SrcAt st s g ds l m t) (x : Int) : ∃ st', putV (.ref s) (.str "left") (.int x) st = some st' ∧ SrcAt st' s g ds x m t ∧ Fr s g st st' := by
  refine ⟨st.set s (.dK (srcKv g x m t)), ?_, ⟨Store.wf_set h.wf _ _, h.ls, h.lg, h.ne, by rw [Store.get_set h.wf, if_pos rfl], by rw [Store.get_set h.wf, if_neg h.ne.symm]; exact h.gg⟩, ⟨Nat.le_refl _, fun n _ h1 _ => by rw [Store.get_set h.wf, if_neg h1]⟩⟩
  unfold putV
  simp only [h.gs, putO, keyV]
  rw [if_pos (show (srcKv g l m t).length < sizeLine from by show 4 < sizeLine; decide)]
  simp [kvPut, srcKv, k_cl, k_lm, k_lt, Ne.symm k_lm, Ne.symm k_lt]
theorem SrcAt.pT (h : SrcAt st s g ds l m t) (x : Int) : ∃ st', putV (.ref s) (.str "turn") (.int x) st = some st' ∧ SrcAt st' s g ds l m x ∧ Fr s g st st' := by
  refine ⟨st.set s (.dK (srcKv g l m x)), ?_, ⟨Store.wf_set h.wf _ _, h.ls, h.lg, h.ne, by rw [Store.get_set h.wf, if_pos rfl], by rw [Store.get_set h.wf, if_neg h.ne.symm]; exact h.gg⟩, ⟨Nat.le_refl _, fun n _ h1 _ => by rw [Store.get_set h.wf, if_neg h1]⟩⟩
  unfold putV
  simp only [h.gs, putO, keyV]
  rw [if_pos (show (srcKv g l m t).length < sizeLine from by show 4 < sizeLine; decide)]
  simp [kvPut, srcKv, k_ct, k_lt, k_mt]
end
def srcBody : List MS :=
  [.set 1 (.lit (.int 11)),
  .for_ (.one 2) (.seq (.var 0))
  [.set 1 (.bin .mod (.bi .int [.bin .add (.bin .add (.bin .mul (.var 1) (.lit (.int 69069))) (.bin .mul (.var 2) (.lit (.int 31)))) (.lit (.int 5))]) (.lit (.int 2147483629)))],
  .set 3 (.mk (.comp (.bi .abs [.var 2]) (.one 2) (.seq (.var 0)) [] [2])),
  .ret (.dicD [(.lit (.str ("cells" : Str)), .mk (.comp (.idx (.var 3) (.bin .sub (.bin .sub (.bi .len [.var 3]) (.lit (.int 1))) (.var 4))) (.one 4) (.rng1 (.bi .len [.var 3])) [] [4])), (.lit (.str ("left" : Str)), .lit (.int 1)), (.lit (.str ("mixed" : Str)), .var 1), (.lit (.str ("turn" : Str)), .lit (.int 0))])]
def whC : ME := .and (.cmp .lt (.idx (.var 0) (.lit (.str ("left" : Str)))) (.lit (.int 2))) (.cmp .gt (.bi .len [.var 2]) (.lit (.int 0)))
def whB : List MS := [.put (.var 0) (.lit (.str ("left" : Str))) (.meth .pop (.var 2) [])]
def pickBody : List MS :=
  [.iff (.cmp .lt (.var 1) (.lit (.int 2)))
  [.ret (.lit (.int 0))]
  [],
  .set 2 (.idx (.var 0) (.lit (.str ("cells" : Str)))),
  .while_ whC whB,
  .set 3 (.idx (.var 0) (.lit (.str ("left" : Str)))),
  .iff (.cmp .gt (.var 3) (.lit (.int 1)))
  [.put (.var 0) (.lit (.str ("left" : Str))) (.bin .fdiv (.var 3) (.var 1)),
  .ret (.bin .mod (.bi .int [.var 3]) (.var 1))]
  [],
  .put (.var 0) (.lit (.str ("turn" : Str))) (.bin .add (.idx (.var 0) (.lit (.str ("turn" : Str)))) (.lit (.int 1))),
  .set 4 (.idx (.var 0) (.lit (.str ("turn" : Str)))),
  .set 5 (.bin .mod (.bi .int [.bin .add (.idx (.var 0) (.lit (.str ("mixed" : Str)))) (.bin .mul (.var 4) (.lit (.int 104729)))]) (.lit (.int 998244353))),
  .set 5 (.bin .mod (.bi .int [.bin .add (.bin .mul (.var 5) (.var 5)) (.bin .mul (.var 4) (.lit (.int 17)))]) (.lit (.int 2147483647))),
  .iff (.cmp .gt (.var 1) (.bin .pow (.lit (.int 10)) (.lit (.int 7))))
  [.set 5 (.bin .pow (.bi .int [.bin .add (.bin .mul (.var 5) (.lit (.int 48271))) (.var 4)]) (.lit (.int 9)))]
  [],
  .ret (.bin .mod (.bi .int [.bin .fdiv (.var 5) (.lit (.int 16))]) (.var 1))]
section
variable {Γ : Tab} {d : Nat}
theorem ixs {i : MV → MV → Store → Res MV} {a b v : MV} {st st' : Store} {Q : MV → Store → Prop} (e : i a b st = .ok v st') (h : Q v st') : Rs (i a b st) Q := ⟨v, st', e, h⟩
theorem while_ok {s g : Nat} {m t : Int} {env : Env} {Q : Fl × Env → Store → Prop} (e0 : env[0]? = some (some (.ref s))) (e2 : env[2]? = some (some (.ref g))) :
    ∀ (n : Nat) (ds : List Int) (l : Int) (st : Store), ds.length = n → SrcAt st s g ds l m t → (∀ ds' l' st', SrcAt st' s g ds' l' m t → Fr s g st st' → Q (.nx, env) st') → wS Γ d (.while_ whC whB) env st Q := by
  intro n
  induction n with
  | zero =>
    intro ds l st hn h k
    have : ds = [] := List.length_eq_zero_iff.mp hn
    subst this
    refine S_while ?_
    unfold whC
    refine t_and' (t_e (fun _ _ _ => rfl) (e_cmp (e_idx (e_var e0 (e_lit (ixs h.iL (e_lit (Rs.ok ⟨_, rfl, fun hk => ?_, fun hk => ⟨(fun z => by cases z), fun _ => k _ _ _ h (Fr.refl _ _ _)⟩⟩))))))))
    refine t_e (fun _ _ _ => rfl) (e_cmp (e_bi (a_cons (e_var e2 (a_nil ?_)))))
    refine ⟨.int 0, st, ?_, e_lit (Rs.ok ⟨_, rfl, fun z => by simp at z, fun _ => k _ _ _ h (Fr.refl _ _ _)⟩)⟩
    unfold biV
    simp only [h.gg]
    rfl
  | succ n ih =>
    intro ds l st hn h k
    refine S_while ?_
    unfold whC
    refine t_and' (t_e (fun _ _ _ => rfl) (e_cmp (e_idx (e_var e0 (e_lit (ixs h.iL (e_lit (Rs.ok ⟨_, rfl, fun hk => ?_, fun hk => ⟨(fun z => by cases z), fun _ => k _ _ _ h (Fr.refl _ _ _)⟩⟩))))))))
    refine t_e (fun _ _ _ => rfl) (e_cmp (e_bi (a_cons (e_var e2 (a_nil ?_)))))
    refine ⟨.int (ds.length : Int), st, ?_, e_lit (Rs.ok ⟨_, rfl, fun _ => ?_, fun z => by simp [hn] at z⟩)⟩
    · unfold biV
      simp only [h.gg]
      simp
    obtain ⟨ds', x, rfl⟩ : ∃ ds' x, ds = ds' ++ [x] := by
      rcases List.eq_nil_or_concat ds with e | ⟨a, b, e⟩
      · subst e; cases hn
      · exact ⟨a, b, by simpa using e⟩
    unfold whB
    refine b_cons' (S_put (e_meth (e_var e2 ⟨?_, a_nil ?_⟩)))
    · unfold isLst
      simp only [h.gg]
    have hs : SrcAt (st.set g (.lst (ds'.map MV.int))) s g ds' l m t := ⟨Store.wf_set h.wf _ _, h.ls, h.lg, h.ne, by rw [Store.get_set h.wf, if_neg h.ne]; exact h.gs, by rw [Store.get_set h.wf, if_pos rfl]⟩
    have hf : Fr s g st (st.set g (.lst (ds'.map MV.int))) := ⟨Nat.le_refl _, fun n _ _ h2 => by rw [Store.get_set h.wf, if_neg h2]⟩
    refine ⟨.int x, st.set g (.lst (ds'.map MV.int)), ?_, e_var e0 (e_lit ?_)⟩
    · unfold methV
      simp only [h.gg]
      simp
    obtain ⟨st', e, hs', hf'⟩ := hs.pL x
    refine ⟨st', e, b_nil' ?_⟩
    exact ih ds' x st' (by simpa using hn) hs' fun ds2 l2 st2 h2 f2 => k ds2 l2 st2 h2 ((hf.trans hf').trans f2)
theorem pick_ok {s g : Nat} {st : Store} {many : Int} (h : Src st s g) (h0 : 0 < many) (h1 : many < 1000) :
    wB Γ d pickBody [some (.ref s), some (.int many), none, none, none, none] st (retQ fun v st' => ∃ r : Int, v = .int r ∧ 0 ≤ r ∧ r < many ∧ Src st' s g ∧ Fr s g st st') := by
  obtain ⟨ds, l, m, t, h⟩ := h
  unfold pickBody
  repeat (first | refine b_cons' ?_ | refine b_nil' ?_ | refine S_set ?_ | refine S_iff ?_ | refine S_ret ?_ | refine S_expr ?_ | refine S_put ?_ | refine S_par ?_ | refine S_for ?_ | refine e_lit ?_ | refine e_var rfl ?_ | refine e_bin ?_ | refine e_cmp ?_ | refine e_cmpL ?_ | refine e_isN ?_ | refine e_isB ?_ | refine e_and ?_ | refine e_or ?_ | refine e_not ?_ | refine e_ifx ?_ | refine e_idx ?_ | refine e_slc ?_ | refine e_tup ?_ | refine e_mk ?_ | refine e_dic (by decide) ?_ | refine e_call ?_ | refine e_bi ?_ | refine e_all ?_ | refine e_any ?_ | refine e_join ?_ | refine e_neg ?_ | refine e_meth ?_ | refine t_and' ?_ | refine t_or' ?_ | refine t_not' ?_ | refine t_e (fun _ _ _ => rfl) ?_ | refine a_nil ?_ | refine a_cons ?_ | refine p_nil' ?_ | refine p_cons' ?_ | refine o_none' ?_ | refine o_some' ?_ | refine l_lst ?_ | refine l_comp ?_ | refine l_val (fun _ _ _ => rfl) ?_ | refine i_seq' ?_ | refine i_tmp' ?_ | refine i_rng ?_ | refine ts_nil' ?_ | refine ts_one' ?_ | refine Rs.ok ?_)
  refine ⟨_, rfl, fun hk => ?_, fun hk => ?_⟩
  · repeat (first | refine b_cons' ?_ | refine b_nil' ?_ | refine S_set ?_ | refine S_iff ?_ | refine S_ret ?_ | refine S_expr ?_ | refine S_put ?_ | refine S_par ?_ | refine S_for ?_ | refine e_lit ?_ | refine e_var rfl ?_ | refine e_bin ?_ | refine e_cmp ?_ | refine e_cmpL ?_ | refine e_isN ?_ | refine e_isB ?_ | refine e_and ?_ | refine e_or ?_ | refine e_not ?_ | refine e_ifx ?_ | refine e_idx ?_ | refine e_slc ?_ | refine e_tup ?_ | refine e_mk ?_ | refine e_dic (by decide) ?_ | refine e_call ?_ | refine e_bi ?_ | refine e_all ?_ | refine e_any ?_ | refine e_join ?_ | refine e_neg ?_ | refine e_meth ?_ | refine t_and' ?_ | refine t_or' ?_ | refine t_not' ?_ | refine t_e (fun _ _ _ => rfl) ?_ | refine a_nil ?_ | refine a_cons ?_ | refine p_nil' ?_ | refine p_cons' ?_ | refine o_none' ?_ | refine o_some' ?_ | refine l_lst ?_ | refine l_comp ?_ | refine l_val (fun _ _ _ => rfl) ?_ | refine i_seq' ?_ | refine i_tmp' ?_ | refine i_rng ?_ | refine ts_nil' ?_ | refine ts_one' ?_ | refine Rs.ok ?_)
    exact ⟨0, rfl, by omega, by omega, ⟨_, _, _, _, h⟩, Fr.refl _ _ _⟩
  repeat (first | refine b_cons' ?_ | refine b_nil' ?_ | refine S_set ?_ | refine S_iff ?_ | refine S_ret ?_ | refine S_expr ?_ | refine S_put ?_ | refine S_par ?_ | refine S_for ?_ | refine e_lit ?_ | refine e_var rfl ?_ | refine e_bin ?_ | refine e_cmp ?_ | refine e_cmpL ?_ | refine e_isN ?_ | refine e_isB ?_ | refine e_and ?_ | refine e_or ?_ | refine e_not ?_ | refine e_ifx ?_ | refine e_idx ?_ | refine e_slc ?_ | refine e_tup ?_ | refine e_mk ?_ | refine e_dic (by decide) ?_ | refine e_call ?_ | refine e_bi ?_ | refine e_all ?_ | refine e_any ?_ | refine e_join ?_ | refine e_neg ?_ | refine e_meth ?_ | refine t_and' ?_ | refine t_or' ?_ | refine t_not' ?_ | refine t_e (fun _ _ _ => rfl) ?_ | refine a_nil ?_ | refine a_cons ?_ | refine p_nil' ?_ | refine p_cons' ?_ | refine o_none' ?_ | refine o_some' ?_ | refine l_lst ?_ | refine l_comp ?_ | refine l_val (fun _ _ _ => rfl) ?_ | refine i_seq' ?_ | refine i_tmp' ?_ | refine i_rng ?_ | refine ts_nil' ?_ | refine ts_one' ?_ | refine Rs.ok ?_)
  refine ixs h.iC ?_
  refine b_cons' (while_ok rfl rfl _ ds l st rfl h fun ds1 l1 st1 h1' f1 => ?_)
  repeat (first | refine b_cons' ?_ | refine b_nil' ?_ | refine S_set ?_ | refine S_iff ?_ | refine S_ret ?_ | refine S_expr ?_ | refine S_put ?_ | refine S_par ?_ | refine S_for ?_ | refine e_lit ?_ | refine e_var rfl ?_ | refine e_bin ?_ | refine e_cmp ?_ | refine e_cmpL ?_ | refine e_isN ?_ | refine e_isB ?_ | refine e_and ?_ | refine e_or ?_ | refine e_not ?_ | refine e_ifx ?_ | refine e_idx ?_ | refine e_slc ?_ | refine e_tup ?_ | refine e_mk ?_ | refine e_dic (by decide) ?_ | refine e_call ?_ | refine e_bi ?_ | refine e_all ?_ | refine e_any ?_ | refine e_join ?_ | refine e_neg ?_ | refine e_meth ?_ | refine t_and' ?_ | refine t_or' ?_ | refine t_not' ?_ | refine t_e (fun _ _ _ => rfl) ?_ | refine a_nil ?_ | refine a_cons ?_ | refine p_nil' ?_ | refine p_cons' ?_ | refine o_none' ?_ | refine o_some' ?_ | refine l_lst ?_ | refine l_comp ?_ | refine l_val (fun _ _ _ => rfl) ?_ | refine i_seq' ?_ | refine i_tmp' ?_ | refine i_rng ?_ | refine ts_nil' ?_ | refine ts_one' ?_ | refine Rs.ok ?_)
  refine ixs h1'.iL ?_
  repeat (first | refine b_cons' ?_ | refine b_nil' ?_ | refine S_set ?_ | refine S_iff ?_ | refine S_ret ?_ | refine S_expr ?_ | refine S_put ?_ | refine S_par ?_ | refine S_for ?_ | refine e_lit ?_ | refine e_var rfl ?_ | refine e_bin ?_ | refine e_cmp ?_ | refine e_cmpL ?_ | refine e_isN ?_ | refine e_isB ?_ | refine e_and ?_ | refine e_or ?_ | refine e_not ?_ | refine e_ifx ?_ | refine e_idx ?_ | refine e_slc ?_ | refine e_tup ?_ | refine e_mk ?_ | refine e_dic (by decide) ?_ | refine e_call ?_ | refine e_bi ?_ | refine e_all ?_ | refine e_any ?_ | refine e_join ?_ | refine e_neg ?_ | refine e_meth ?_ | refine t_and' ?_ | refine t_or' ?_ | refine t_not' ?_ | refine t_e (fun _ _ _ => rfl) ?_ | refine a_nil ?_ | refine a_cons ?_ | refine p_nil' ?_ | refine p_cons' ?_ | refine o_none' ?_ | refine o_some' ?_ | refine l_lst ?_ | refine l_comp ?_ | refine l_val (fun _ _ _ => rfl) ?_ | refine i_seq' ?_ | refine i_tmp' ?_ | refine i_rng ?_ | refine ts_nil' ?_ | refine ts_one' ?_ | refine Rs.ok ?_)
  refine ⟨_, rfl, fun hk => ?_, fun hk => ?_⟩
  · repeat (first | refine b_cons' ?_ | refine b_nil' ?_ | refine S_set ?_ | refine S_iff ?_ | refine S_ret ?_ | refine S_expr ?_ | refine S_put ?_ | refine S_par ?_ | refine S_for ?_ | refine e_lit ?_ | refine e_var rfl ?_ | refine e_bin ?_ | refine e_cmp ?_ | refine e_cmpL ?_ | refine e_isN ?_ | refine e_isB ?_ | refine e_and ?_ | refine e_or ?_ | refine e_not ?_ | refine e_ifx ?_ | refine e_idx ?_ | refine e_slc ?_ | refine e_tup ?_ | refine e_mk ?_ | refine e_dic (by decide) ?_ | refine e_call ?_ | refine e_bi ?_ | refine e_all ?_ | refine e_any ?_ | refine e_join ?_ | refine e_neg ?_ | refine e_meth ?_ | refine t_and' ?_ | refine t_or' ?_ | refine t_not' ?_ | refine t_e (fun _ _ _ => rfl) ?_ | refine a_nil ?_ | refine a_cons ?_ | refine p_nil' ?_ | refine p_cons' ?_ | refine o_none' ?_ | refine o_some' ?_ | refine l_lst ?_ | refine l_comp ?_ | refine l_val (fun _ _ _ => rfl) ?_ | refine i_seq' ?_ | refine i_tmp' ?_ | refine i_rng ?_ | refine ts_nil' ?_ | refine ts_one' ?_ | refine Rs.ok ?_)
    refine Rs.ite (by omega) (Rs.ok ?_)
    repeat (first | refine b_cons' ?_ | refine b_nil' ?_ | refine S_set ?_ | refine S_iff ?_ | refine S_ret ?_ | refine S_expr ?_ | refine S_put ?_ | refine S_par ?_ | refine S_for ?_ | refine e_lit ?_ | refine e_var rfl ?_ | refine e_bin ?_ | refine e_cmp ?_ | refine e_cmpL ?_ | refine e_isN ?_ | refine e_isB ?_ | refine e_and ?_ | refine e_or ?_ | refine e_not ?_ | refine e_ifx ?_ | refine e_idx ?_ | refine e_slc ?_ | refine e_tup ?_ | refine e_mk ?_ | refine e_dic (by decide) ?_ | refine e_call ?_ | refine e_bi ?_ | refine e_all ?_ | refine e_any ?_ | refine e_join ?_ | refine e_neg ?_ | refine e_meth ?_ | refine t_and' ?_ | refine t_or' ?_ | refine t_not' ?_ | refine t_e (fun _ _ _ => rfl) ?_ | refine a_nil ?_ | refine a_cons ?_ | refine p_nil' ?_ | refine p_cons' ?_ | refine o_none' ?_ | refine o_some' ?_ | refine l_lst ?_ | refine l_comp ?_ | refine l_val (fun _ _ _ => rfl) ?_ | refine i_seq' ?_ | refine i_tmp' ?_ | refine i_rng ?_ | refine ts_nil' ?_ | refine ts_one' ?_ | refine Rs.ok ?_)
    obtain ⟨st2, e, h2, f2⟩ := h1'.pL (l1 / many)
    refine ⟨st2, e, ?_⟩
    repeat (first | refine b_cons' ?_ | refine b_nil' ?_ | refine S_set ?_ | refine S_iff ?_ | refine S_ret ?_ | refine S_expr ?_ | refine S_put ?_ | refine S_par ?_ | refine S_for ?_ | refine e_lit ?_ | refine e_var rfl ?_ | refine e_bin ?_ | refine e_cmp ?_ | refine e_cmpL ?_ | refine e_isN ?_ | refine e_isB ?_ | refine e_and ?_ | refine e_or ?_ | refine e_not ?_ | refine e_ifx ?_ | refine e_idx ?_ | refine e_slc ?_ | refine e_tup ?_ | refine e_mk ?_ | refine e_dic (by decide) ?_ | refine e_call ?_ | refine e_bi ?_ | refine e_all ?_ | refine e_any ?_ | refine e_join ?_ | refine e_neg ?_ | refine e_meth ?_ | refine t_and' ?_ | refine t_or' ?_ | refine t_not' ?_ | refine t_e (fun _ _ _ => rfl) ?_ | refine a_nil ?_ | refine a_cons ?_ | refine p_nil' ?_ | refine p_cons' ?_ | refine o_none' ?_ | refine o_some' ?_ | refine l_lst ?_ | refine l_comp ?_ | refine l_val (fun _ _ _ => rfl) ?_ | refine i_seq' ?_ | refine i_tmp' ?_ | refine i_rng ?_ | refine ts_nil' ?_ | refine ts_one' ?_ | refine Rs.ok ?_)
    refine Rs.ite h0 (Rs.ok ?_)
    exact ⟨_, rfl, Int.emod_nonneg _ (by omega), Int.emod_lt_of_pos _ h0, ⟨_, _, _, _, h2⟩, f1.trans f2⟩
  repeat (first | refine b_cons' ?_ | refine b_nil' ?_ | refine S_set ?_ | refine S_iff ?_ | refine S_ret ?_ | refine S_expr ?_ | refine S_put ?_ | refine S_par ?_ | refine S_for ?_ | refine e_lit ?_ | refine e_var rfl ?_ | refine e_bin ?_ | refine e_cmp ?_ | refine e_cmpL ?_ | refine e_isN ?_ | refine e_isB ?_ | refine e_and ?_ | refine e_or ?_ | refine e_not ?_ | refine e_ifx ?_ | refine e_idx ?_ | refine e_slc ?_ | refine e_tup ?_ | refine e_mk ?_ | refine e_dic (by decide) ?_ | refine e_call ?_ | refine e_bi ?_ | refine e_all ?_ | refine e_any ?_ | refine e_join ?_ | refine e_neg ?_ | refine e_meth ?_ | refine t_and' ?_ | refine t_or' ?_ | refine t_not' ?_ | refine t_e (fun _ _ _ => rfl) ?_ | refine a_nil ?_ | refine a_cons ?_ | refine p_nil' ?_ | refine p_cons' ?_ | refine o_none' ?_ | refine o_some' ?_ | refine l_lst ?_ | refine l_comp ?_ | refine l_val (fun _ _ _ => rfl) ?_ | refine i_seq' ?_ | refine i_tmp' ?_ | refine i_rng ?_ | refine ts_nil' ?_ | refine ts_one' ?_ | refine Rs.ok ?_)
  refine ixs h1'.iT ?_
  repeat (first | refine b_cons' ?_ | refine b_nil' ?_ | refine S_set ?_ | refine S_iff ?_ | refine S_ret ?_ | refine S_expr ?_ | refine S_put ?_ | refine S_par ?_ | refine S_for ?_ | refine e_lit ?_ | refine e_var rfl ?_ | refine e_bin ?_ | refine e_cmp ?_ | refine e_cmpL ?_ | refine e_isN ?_ | refine e_isB ?_ | refine e_and ?_ | refine e_or ?_ | refine e_not ?_ | refine e_ifx ?_ | refine e_idx ?_ | refine e_slc ?_ | refine e_tup ?_ | refine e_mk ?_ | refine e_dic (by decide) ?_ | refine e_call ?_ | refine e_bi ?_ | refine e_all ?_ | refine e_any ?_ | refine e_join ?_ | refine e_neg ?_ | refine e_meth ?_ | refine t_and' ?_ | refine t_or' ?_ | refine t_not' ?_ | refine t_e (fun _ _ _ => rfl) ?_ | refine a_nil ?_ | refine a_cons ?_ | refine p_nil' ?_ | refine p_cons' ?_ | refine o_none' ?_ | refine o_some' ?_ | refine l_lst ?_ | refine l_comp ?_ | refine l_val (fun _ _ _ => rfl) ?_ | refine i_seq' ?_ | refine i_tmp' ?_ | refine i_rng ?_ | refine ts_nil' ?_ | refine ts_one' ?_ | refine Rs.ok ?_)
  obtain ⟨st2, e, h2, f2⟩ := h1'.pT (t + 1)
  refine ⟨st2, e, ?_⟩
  repeat (first | refine b_cons' ?_ | refine b_nil' ?_ | refine S_set ?_ | refine S_iff ?_ | refine S_ret ?_ | refine S_expr ?_ | refine S_put ?_ | refine S_par ?_ | refine S_for ?_ | refine e_lit ?_ | refine e_var rfl ?_ | refine e_bin ?_ | refine e_cmp ?_ | refine e_cmpL ?_ | refine e_isN ?_ | refine e_isB ?_ | refine e_and ?_ | refine e_or ?_ | refine e_not ?_ | refine e_ifx ?_ | refine e_idx ?_ | refine e_slc ?_ | refine e_tup ?_ | refine e_mk ?_ | refine e_dic (by decide) ?_ | refine e_call ?_ | refine e_bi ?_ | refine e_all ?_ | refine e_any ?_ | refine e_join ?_ | refine e_neg ?_ | refine e_meth ?_ | refine t_and' ?_ | refine t_or' ?_ | refine t_not' ?_ | refine t_e (fun _ _ _ => rfl) ?_ | refine a_nil ?_ | refine a_cons ?_ | refine p_nil' ?_ | refine p_cons' ?_ | refine o_none' ?_ | refine o_some' ?_ | refine l_lst ?_ | refine l_comp ?_ | refine l_val (fun _ _ _ => rfl) ?_ | refine i_seq' ?_ | refine i_tmp' ?_ | refine i_rng ?_ | refine ts_nil' ?_ | refine ts_one' ?_ | refine Rs.ok ?_)
  refine ixs h2.iT ?_
  repeat (first | refine b_cons' ?_ | refine b_nil' ?_ | refine S_set ?_ | refine S_iff ?_ | refine S_ret ?_ | refine S_expr ?_ | refine S_put ?_ | refine S_par ?_ | refine S_for ?_ | refine e_lit ?_ | refine e_var rfl ?_ | refine e_bin ?_ | refine e_cmp ?_ | refine e_cmpL ?_ | refine e_isN ?_ | refine e_isB ?_ | refine e_and ?_ | refine e_or ?_ | refine e_not ?_ | refine e_ifx ?_ | refine e_idx ?_ | refine e_slc ?_ | refine e_tup ?_ | refine e_mk ?_ | refine e_dic (by decide) ?_ | refine e_call ?_ | refine e_bi ?_ | refine e_all ?_ | refine e_any ?_ | refine e_join ?_ | refine e_neg ?_ | refine e_meth ?_ | refine t_and' ?_ | refine t_or' ?_ | refine t_not' ?_ | refine t_e (fun _ _ _ => rfl) ?_ | refine a_nil ?_ | refine a_cons ?_ | refine p_nil' ?_ | refine p_cons' ?_ | refine o_none' ?_ | refine o_some' ?_ | refine l_lst ?_ | refine l_comp ?_ | refine l_val (fun _ _ _ => rfl) ?_ | refine i_seq' ?_ | refine i_tmp' ?_ | refine i_rng ?_ | refine ts_nil' ?_ | refine ts_one' ?_ | refine Rs.ok ?_)
  refine ixs h2.iM ?_
  repeat (first | refine b_cons' ?_ | refine b_nil' ?_ | refine S_set ?_ | refine S_iff ?_ | refine S_ret ?_ | refine S_expr ?_ | refine S_put ?_ | refine S_par ?_ | refine S_for ?_ | refine e_lit ?_ | refine e_var rfl ?_ | refine e_bin ?_ | refine e_cmp ?_ | refine e_cmpL ?_ | refine e_isN ?_ | refine e_isB ?_ | refine e_and ?_ | refine e_or ?_ | refine e_not ?_ | refine e_ifx ?_ | refine e_idx ?_ | refine e_slc ?_ | refine e_tup ?_ | refine e_mk ?_ | refine e_dic (by decide) ?_ | refine e_call ?_ | refine e_bi ?_ | refine e_all ?_ | refine e_any ?_ | refine e_join ?_ | refine e_neg ?_ | refine e_meth ?_ | refine t_and' ?_ | refine t_or' ?_ | refine t_not' ?_ | refine t_e (fun _ _ _ => rfl) ?_ | refine a_nil ?_ | refine a_cons ?_ | refine p_nil' ?_ | refine p_cons' ?_ | refine o_none' ?_ | refine o_some' ?_ | refine l_lst ?_ | refine l_comp ?_ | refine l_val (fun _ _ _ => rfl) ?_ | refine i_seq' ?_ | refine i_tmp' ?_ | refine i_rng ?_ | refine ts_nil' ?_ | refine ts_one' ?_ | refine Rs.ok ?_)
  refine Rs.ite (by simp [small]) (Rs.ok ?_)
  repeat (first | refine b_cons' ?_ | refine b_nil' ?_ | refine S_set ?_ | refine S_iff ?_ | refine S_ret ?_ | refine S_expr ?_ | refine S_put ?_ | refine S_par ?_ | refine S_for ?_ | refine e_lit ?_ | refine e_var rfl ?_ | refine e_bin ?_ | refine e_cmp ?_ | refine e_cmpL ?_ | refine e_isN ?_ | refine e_isB ?_ | refine e_and ?_ | refine e_or ?_ | refine e_not ?_ | refine e_ifx ?_ | refine e_idx ?_ | refine e_slc ?_ | refine e_tup ?_ | refine e_mk ?_ | refine e_dic (by decide) ?_ | refine e_call ?_ | refine e_bi ?_ | refine e_all ?_ | refine e_any ?_ | refine e_join ?_ | refine e_neg ?_ | refine e_meth ?_ | refine t_and' ?_ | refine t_or' ?_ | refine t_not' ?_ | refine t_e (fun _ _ _ => rfl) ?_ | refine a_nil ?_ | refine a_cons ?_ | refine p_nil' ?_ | refine p_cons' ?_ | refine o_none' ?_ | refine o_some' ?_ | refine l_lst ?_ | refine l_comp ?_ | refine l_val (fun _ _ _ => rfl) ?_ | refine i_seq' ?_ | refine i_tmp' ?_ | refine i_rng ?_ | refine ts_nil' ?_ | refine ts_one' ?_ | refine Rs.ok ?_)
  refine Rs.ite (by
    have a1 := Int.emod_nonneg (m + (t + 1) * 104729) (b := 998244353) (by decide)
    have a2 := Int.emod_lt_of_pos (m + (t + 1) * 104729) (b := 998244353) (by decide)
    simp only [small, Bool.or_eq_true, Bool.and_eq_true, decide_eq_true_eq]
    omega) (Rs.ok ?_)
  repeat (first | refine b_cons' ?_ | refine b_nil' ?_ | refine S_set ?_ | refine S_iff ?_ | refine S_ret ?_ | refine S_expr ?_ | refine S_put ?_ | refine S_par ?_ | refine S_for ?_ | refine e_lit ?_ | refine e_var rfl ?_ | refine e_bin ?_ | refine e_cmp ?_ | refine e_cmpL ?_ | refine e_isN ?_ | refine e_isB ?_ | refine e_and ?_ | refine e_or ?_ | refine e_not ?_ | refine e_ifx ?_ | refine e_idx ?_ | refine e_slc ?_ | refine e_tup ?_ | refine e_mk ?_ | refine e_dic (by decide) ?_ | refine e_call ?_ | refine e_bi ?_ | refine e_all ?_ | refine e_any ?_ | refine e_join ?_ | refine e_neg ?_ | refine e_meth ?_ | refine t_and' ?_ | refine t_or' ?_ | refine t_not' ?_ | refine t_e (fun _ _ _ => rfl) ?_ | refine a_nil ?_ | refine a_cons ?_ | refine p_nil' ?_ | refine p_cons' ?_ | refine o_none' ?_ | refine o_some' ?_ | refine l_lst ?_ | refine l_comp ?_ | refine l_val (fun _ _ _ => rfl) ?_ | refine i_seq' ?_ | refine i_tmp' ?_ | refine i_rng ?_ | refine ts_nil' ?_ | refine ts_one' ?_ | refine Rs.ok ?_)
  refine Rs.ite (by simp [small]) (Rs.ok ?_)
  repeat (first | refine b_cons' ?_ | refine b_nil' ?_ | refine S_set ?_ | refine S_iff ?_ | refine S_ret ?_ | refine S_expr ?_ | refine S_put ?_ | refine S_par ?_ | refine S_for ?_ | refine e_lit ?_ | refine e_var rfl ?_ | refine e_bin ?_ | refine e_cmp ?_ | refine e_cmpL ?_ | refine e_isN ?_ | refine e_isB ?_ | refine e_and ?_ | refine e_or ?_ | refine e_not ?_ | refine e_ifx ?_ | refine e_idx ?_ | refine e_slc ?_ | refine e_tup ?_ | refine e_mk ?_ | refine e_dic (by decide) ?_ | refine e_call ?_ | refine e_bi ?_ | refine e_all ?_ | refine e_any ?_ | refine e_join ?_ | refine e_neg ?_ | refine e_meth ?_ | refine t_and' ?_ | refine t_or' ?_ | refine t_not' ?_ | refine t_e (fun _ _ _ => rfl) ?_ | refine a_nil ?_ | refine a_cons ?_ | refine p_nil' ?_ | refine p_cons' ?_ | refine o_none' ?_ | refine o_some' ?_ | refine l_lst ?_ | refine l_comp ?_ | refine l_val (fun _ _ _ => rfl) ?_ | refine i_seq' ?_ | refine i_tmp' ?_ | refine i_rng ?_ | refine ts_nil' ?_ | refine ts_one' ?_ | refine Rs.ok ?_)
  refine ⟨_, rfl, fun hk => ?_, fun hk => ?_⟩
  · exfalso
    have hk' := of_decide_eq_true hk
    have e : (10 : Int) ^ (7 : Int).toNat = 10000000 := by decide
    rw [e] at hk'
    omega
  repeat (first | refine b_cons' ?_ | refine b_nil' ?_ | refine S_set ?_ | refine S_iff ?_ | refine S_ret ?_ | refine S_expr ?_ | refine S_put ?_ | refine S_par ?_ | refine S_for ?_ | refine e_lit ?_ | refine e_var rfl ?_ | refine e_bin ?_ | refine e_cmp ?_ | refine e_cmpL ?_ | refine e_isN ?_ | refine e_isB ?_ | refine e_and ?_ | refine e_or ?_ | refine e_not ?_ | refine e_ifx ?_ | refine e_idx ?_ | refine e_slc ?_ | refine e_tup ?_ | refine e_mk ?_ | refine e_dic (by decide) ?_ | refine e_call ?_ | refine e_bi ?_ | refine e_all ?_ | refine e_any ?_ | refine e_join ?_ | refine e_neg ?_ | refine e_meth ?_ | refine t_and' ?_ | refine t_or' ?_ | refine t_not' ?_ | refine t_e (fun _ _ _ => rfl) ?_ | refine a_nil ?_ | refine a_cons ?_ | refine p_nil' ?_ | refine p_cons' ?_ | refine o_none' ?_ | refine o_some' ?_ | refine l_lst ?_ | refine l_comp ?_ | refine l_val (fun _ _ _ => rfl) ?_ | refine i_seq' ?_ | refine i_tmp' ?_ | refine i_rng ?_ | refine ts_nil' ?_ | refine ts_one' ?_ | refine Rs.ok ?_)
  refine Rs.ite h0 (Rs.ok ?_)
  exact ⟨_, rfl, Int.emod_nonneg _ (by omega), Int.emod_lt_of_pos _ h0, ⟨_, _, _, _, h2⟩, f1.trans f2⟩
theorem ints_mem {xs : List Int} {v : MV} (h : v ∈ xs.map MV.int) : ∃ i, v = .int i := by
  obtain ⟨i, _, e⟩ := List.mem_map.mp h
  exact ⟨i, e.symm⟩
theorem rngV_mem {n : Nat} {v : MV} : ∀ {lo : Int}, v ∈ rngV lo n → ∃ i : Int, v = .int i ∧ lo ≤ i ∧ i < lo + n := by
  induction n with
  | zero => intro lo h; cases h
  | succ n ih =>
    intro lo h
    rcases List.mem_cons.mp h with rfl | h
    · exact ⟨lo, rfl, by omega, by omega⟩
    · obtain ⟨i, e, h1, h2⟩ := ih h
      exact ⟨i, e, by omega, by omega⟩
theorem rngV_len (n : Nat) : ∀ lo : Int, (rngV lo n).length = n := by
  induction n with
  | zero => intro lo; rfl
  | succ n ih => intro lo; show (rngV (lo + 1) n).length + 1 = n + 1; rw [ih]
theorem atI_in {α : Type} {xs : List α} {i : Int} (h0 : 0 ≤ i) (h1 : i < xs.length) : ∃ x, atI xs i = some x ∧ x ∈ xs := by
  have hl : i.toNat < xs.length := by omega
  refine ⟨xs[i.toNat], ?_, List.getElem_mem hl⟩
  unfold atI ixN
  rw [if_pos h0, if_pos h1]
  exact List.getElem?_eq_getElem hl
theorem g_inv0 {env : Env} {st : Store} {tg : Tg} {el : ME} {xs : List MV} {Q : List MV → Store → Prop} (P : List MV → Store → Prop) (h0 : P [] st) (hl : xs.length ≤ sizeLine)
    (step : ∀ v ys st, v ∈ xs → P ys st → ∃ env1, tg.set v env = some env1 ∧ wE Γ d el env1 st fun y st2 => P (ys ++ [y]) st2)
    (out : ∀ ys st, ys.length = xs.length → P ys st → Q ys st) : wG Γ d (.snap xs) tg [] el env [] st Q :=
  g_inv (acc := []) P h0 (by rw [List.length_nil, Nat.zero_add]; exact hl) step fun ys st h1 h2 => by rw [List.nil_append]; exact out ys st h1 h2
theorem source_ok {st : Store} {xs : List Int} (wf : st.wf) (hl : xs.length ≤ 63) :
    wB Γ d srcBody [some (.scr (xs.map MV.int)), none, none, none, none] st (retQ fun v st' => ∃ s g, v = .ref s ∧ Src st' s g ∧ st'.next = st.next + 3) := by
  have hz : (63 : Nat) ≤ sizeLine := by decide
  unfold srcBody
  refine b_cons' (S_set (e_lit ?_))
  refine b_cons' (S_for (i_seq' (e_var rfl ⟨_, rfl, ?_⟩)))
  refine f_inv (fun env st1 => st1 = st ∧ ∃ (m : Int) (c : Option MV), env = [some (.scr (xs.map MV.int)), some (.int m), c, none, none]) ⟨rfl, 11, none, rfl⟩ ?_ ?_
  · rintro v env st1 hv ⟨rfl, m, c, rfl⟩
    obtain ⟨i, rfl⟩ := ints_mem hv
    refine ⟨_, rfl, ?_⟩
    repeat (first | refine b_cons' ?_ | refine b_nil' ?_ | refine S_set ?_ | refine S_iff ?_ | refine S_ret ?_ | refine S_expr ?_ | refine S_put ?_ | refine S_par ?_ | refine S_for ?_ | refine e_lit ?_ | refine e_var rfl ?_ | refine e_bin ?_ | refine e_cmp ?_ | refine e_cmpL ?_ | refine e_isN ?_ | refine e_isB ?_ | refine e_and ?_ | refine e_or ?_ | refine e_not ?_ | refine e_ifx ?_ | refine e_idx ?_ | refine e_slc ?_ | refine e_tup ?_ | refine e_mk ?_ | refine e_dic (by decide) ?_ | refine e_call ?_ | refine e_bi ?_ | refine e_all ?_ | refine e_any ?_ | refine e_join ?_ | refine e_neg ?_ | refine e_meth ?_ | refine t_and' ?_ | refine t_or' ?_ | refine t_not' ?_ | refine t_e (fun _ _ _ => rfl) ?_ | refine a_nil ?_ | refine a_cons ?_ | refine p_nil' ?_ | refine p_cons' ?_ | refine o_none' ?_ | refine o_some' ?_ | refine l_lst ?_ | refine l_comp ?_ | refine l_val (fun _ _ _ => rfl) ?_ | refine i_seq' ?_ | refine i_tmp' ?_ | refine i_rng ?_ | refine ts_nil' ?_ | refine ts_one' ?_ | refine Rs.ok ?_)
    refine Rs.ite (by simp [small]) (Rs.ok ?_)
    repeat (first | refine b_cons' ?_ | refine b_nil' ?_ | refine S_set ?_ | refine S_iff ?_ | refine S_ret ?_ | refine S_expr ?_ | refine S_put ?_ | refine S_par ?_ | refine S_for ?_ | refine e_lit ?_ | refine e_var rfl ?_ | refine e_bin ?_ | refine e_cmp ?_ | refine e_cmpL ?_ | refine e_isN ?_ | refine e_isB ?_ | refine e_and ?_ | refine e_or ?_ | refine e_not ?_ | refine e_ifx ?_ | refine e_idx ?_ | refine e_slc ?_ | refine e_tup ?_ | refine e_mk ?_ | refine e_dic (by decide) ?_ | refine e_call ?_ | refine e_bi ?_ | refine e_all ?_ | refine e_any ?_ | refine e_join ?_ | refine e_neg ?_ | refine e_meth ?_ | refine t_and' ?_ | refine t_or' ?_ | refine t_not' ?_ | refine t_e (fun _ _ _ => rfl) ?_ | refine a_nil ?_ | refine a_cons ?_ | refine p_nil' ?_ | refine p_cons' ?_ | refine o_none' ?_ | refine o_some' ?_ | refine l_lst ?_ | refine l_comp ?_ | refine l_val (fun _ _ _ => rfl) ?_ | refine i_seq' ?_ | refine i_tmp' ?_ | refine i_rng ?_ | refine ts_nil' ?_ | refine ts_one' ?_ | refine Rs.ok ?_)
    refine Rs.ite (by simp [small]) (Rs.ok ?_)
    repeat (first | refine b_cons' ?_ | refine b_nil' ?_ | refine S_set ?_ | refine S_iff ?_ | refine S_ret ?_ | refine S_expr ?_ | refine S_put ?_ | refine S_par ?_ | refine S_for ?_ | refine e_lit ?_ | refine e_var rfl ?_ | refine e_bin ?_ | refine e_cmp ?_ | refine e_cmpL ?_ | refine e_isN ?_ | refine e_isB ?_ | refine e_and ?_ | refine e_or ?_ | refine e_not ?_ | refine e_ifx ?_ | refine e_idx ?_ | refine e_slc ?_ | refine e_tup ?_ | refine e_mk ?_ | refine e_dic (by decide) ?_ | refine e_call ?_ | refine e_bi ?_ | refine e_all ?_ | refine e_any ?_ | refine e_join ?_ | refine e_neg ?_ | refine e_meth ?_ | refine t_and' ?_ | refine t_or' ?_ | refine t_not' ?_ | refine t_e (fun _ _ _ => rfl) ?_ | refine a_nil ?_ | refine a_cons ?_ | refine p_nil' ?_ | refine p_cons' ?_ | refine o_none' ?_ | refine o_some' ?_ | refine l_lst ?_ | refine l_comp ?_ | refine l_val (fun _ _ _ => rfl) ?_ | refine i_seq' ?_ | refine i_tmp' ?_ | refine i_rng ?_ | refine ts_nil' ?_ | refine ts_one' ?_ | refine Rs.ok ?_)
    exact ⟨.inl rfl, rfl, _, _, rfl⟩
  rintro env st1 ⟨rfl, m, c, rfl⟩
  refine b_cons' (S_set (e_mk (l_comp (i_seq' (e_var rfl ⟨_, rfl, ?_⟩)))))
  refine g_inv0 (fun ys st2 => st2 = st1 ∧ ∃ ds : List Int, ys = ds.map MV.int) ⟨rfl, [], rfl⟩ (by rw [List.length_map]; omega) ?_ ?_
  · rintro v ys st2 hv ⟨rfl, ds, rfl⟩
    obtain ⟨i, rfl⟩ := ints_mem hv
    refine ⟨_, rfl, ?_⟩
    repeat (first | refine b_cons' ?_ | refine b_nil' ?_ | refine S_set ?_ | refine S_iff ?_ | refine S_ret ?_ | refine S_expr ?_ | refine S_put ?_ | refine S_par ?_ | refine S_for ?_ | refine e_lit ?_ | refine e_var rfl ?_ | refine e_bin ?_ | refine e_cmp ?_ | refine e_cmpL ?_ | refine e_isN ?_ | refine e_isB ?_ | refine e_and ?_ | refine e_or ?_ | refine e_not ?_ | refine e_ifx ?_ | refine e_idx ?_ | refine e_slc ?_ | refine e_tup ?_ | refine e_mk ?_ | refine e_dic (by decide) ?_ | refine e_call ?_ | refine e_bi ?_ | refine e_all ?_ | refine e_any ?_ | refine e_join ?_ | refine e_neg ?_ | refine e_meth ?_ | refine t_and' ?_ | refine t_or' ?_ | refine t_not' ?_ | refine t_e (fun _ _ _ => rfl) ?_ | refine a_nil ?_ | refine a_cons ?_ | refine p_nil' ?_ | refine p_cons' ?_ | refine o_none' ?_ | refine o_some' ?_ | refine l_lst ?_ | refine l_comp ?_ | refine l_val (fun _ _ _ => rfl) ?_ | refine i_seq' ?_ | refine i_tmp' ?_ | refine i_rng ?_ | refine ts_nil' ?_ | refine ts_one' ?_ | refine Rs.ok ?_)
    exact ⟨rfl, ds ++ [_], by simp; rfl⟩
  rintro ys st2 hy ⟨rfl, ds, rfl⟩
  have hd : ds.length = xs.length := by simpa using hy
  refine Rs.ite (by simp [hd]; omega) (Rs.ok ?_)
  have g1 : (st2.add (.lst (ds.map MV.int))).get st2.next = some (.lst (ds.map MV.int)) := by rw [Store.get_add wf, if_pos rfl]
  have w1 := Store.wf_add wf (.lst (ds.map MV.int))
  refine b_cons' (S_ret ?_)
  refine e_dic (by decide) ?_
  refine p_cons' (e_lit (e_mk (l_comp (i_rng (e_bi (a_cons (e_var rfl (a_nil ?_))))))))
  refine ⟨.int ds.length, st2.add (.lst (ds.map MV.int)), ?_, ds.length, rfl, by omega, ?_⟩
  · show biV .len [.ref st2.next] _ = _
    unfold biV
    simp only [g1]
    simp
  refine g_inv0 (fun ys st3 => st3 = st2.add (.lst (ds.map MV.int)) ∧ ∃ es : List Int, ys = es.map MV.int) ⟨rfl, [], rfl⟩ (by rw [rngV_len]; omega) ?_ ?_
  · rintro v ys st3 hv ⟨rfl, es, rfl⟩
    obtain ⟨i, rfl, h1, h2⟩ := rngV_mem hv
    refine ⟨_, rfl, ?_⟩
    refine e_idx (e_var rfl (e_bin (e_bin (e_bi (a_cons (e_var rfl (a_nil ?_)))))))
    refine ⟨.int ds.length, st2.add (.lst (ds.map MV.int)), ?_, ?_⟩
    · show biV .len [.ref st2.next] _ = _
      unfold biV
      simp only [g1]
      simp
    repeat (first | refine b_cons' ?_ | refine b_nil' ?_ | refine S_set ?_ | refine S_iff ?_ | refine S_ret ?_ | refine S_expr ?_ | refine S_put ?_ | refine S_par ?_ | refine S_for ?_ | refine e_lit ?_ | refine e_var rfl ?_ | refine e_bin ?_ | refine e_cmp ?_ | refine e_cmpL ?_ | refine e_isN ?_ | refine e_isB ?_ | refine e_and ?_ | refine e_or ?_ | refine e_not ?_ | refine e_ifx ?_ | refine e_idx ?_ | refine e_slc ?_ | refine e_tup ?_ | refine e_mk ?_ | refine e_dic (by decide) ?_ | refine e_call ?_ | refine e_bi ?_ | refine e_all ?_ | refine e_any ?_ | refine e_join ?_ | refine e_neg ?_ | refine e_meth ?_ | refine t_and' ?_ | refine t_or' ?_ | refine t_not' ?_ | refine t_e (fun _ _ _ => rfl) ?_ | refine a_nil ?_ | refine a_cons ?_ | refine p_nil' ?_ | refine p_cons' ?_ | refine o_none' ?_ | refine o_some' ?_ | refine l_lst ?_ | refine l_comp ?_ | refine l_val (fun _ _ _ => rfl) ?_ | refine i_seq' ?_ | refine i_tmp' ?_ | refine i_rng ?_ | refine ts_nil' ?_ | refine ts_one' ?_ | refine Rs.ok ?_)
    obtain ⟨x, hx, hm⟩ := atI_in (xs := ds.map MV.int) (i := (ds.length : Int) - 1 - i) (by omega) (by simp; omega)
    obtain ⟨j, rfl⟩ := ints_mem hm
    refine ⟨.int j, st2.add (.lst (ds.map MV.int)), ?_, rfl, es ++ [j], by simp⟩
    show idxV (.ref st2.next) (.int _) _ = _
    unfold idxV
    simp only [g1]
    rw [hx]
  rintro ys st3 hy ⟨rfl, es, rfl⟩
  have he : es.length = ds.length := by simpa [rngV_len] using hy
  refine Rs.ite (by simp [he, hd]; omega) (Rs.ok ?_)
  refine p_cons' (e_lit (e_lit (p_cons' (e_lit (e_var rfl (p_cons' (e_lit (e_lit (p_nil' ⟨_, rfl, ?_⟩)))))))))
  have w2 := Store.wf_add w1 (.lst (es.map MV.int))
  refine ⟨_, (st2.add (.lst (ds.map MV.int))).next, rfl, ⟨es, 1, m, 0, Store.wf_add w2 _, Nat.lt_succ_self _, ?_, ?_, ?_, ?_⟩, rfl⟩
  · show _ + 1 < _ + 1 + 1 + 1
    omega
  · show _ + 1 + 1 ≠ _ + 1
    omega
  · rw [Store.get_add w2, if_pos rfl]
    simp [kvMerge, kvPut, srcKv, k_cl, k_cm, k_ct, k_lm, k_lt, k_mt]
  · have ne : (st2.add (.lst (ds.map MV.int))).next ≠ ((st2.add (.lst (ds.map MV.int))).add (.lst (es.map MV.int))).next := Nat.ne_of_lt (Nat.lt_succ_self _)
    rw [Store.get_add w2, if_neg ne, Store.get_add w1, if_pos rfl]
end
end MP

set_option Elab.async false
set_option linter.all false
set_option maxRecDepth 100000
set_option maxHeartbeats 4000000
/-! plain lemmas about the evaluator's operators -/
namespace MP
open PySem L2
theorem rs_of {α : Type} {r : Res α} {a : α} {st' : Store} {Q : α → Store → Prop} (e : r = .ok a st') (h : Q a st') : Rs r Q := ⟨a, st', e, h⟩
section
variable {st : Store}
theorem sh_int (i : Int) : SeqAt.shaped (.int i) = true := by simp [SeqAt.shaped, PyData.canLay0, PyData.depth]
theorem sh_str {x : Str} (h : PyData.strOk x = true) : SeqAt.shaped (.str x) = true := by simp [SeqAt.shaped, PyData.canLay0, PyData.depth, h]
theorem toS_int (i : Int) : toS st (.int i) = some (.int i) := by
  show (if SeqAt.shaped (.int i) = true then some (PyData.int i) else none) = _
  rw [if_pos (sh_int i)]
theorem toS_str {x : Str} (h : PyData.strOk x = true) : toS st (.str x) = some (.str x) := by
  show (if SeqAt.shaped (.str x) = true then some (PyData.str x) else none) = _
  rw [if_pos (sh_str h)]
theorem eqv_int (i j : Int) : PyData.eqv (.int i) (.int j) = (i == j) := by simp [PyData.eqv]
theorem eqv_str (a b : Str) : PyData.eqv (.str a) (.str b) = (a == b) := by simp [PyData.eqv]
theorem eq_int (i j : Int) : cmpV .eq (.int i) (.int j) st = .ok (.bl (i == j)) st := by
  show okB (eqV (.int i) (.int j) st) id st = _
  unfold eqV
  rw [toS_int, toS_int]
  show Res.ok (MV.bl (PyData.eqv (.int i) (.int j))) st = _
  rw [eqv_int]
theorem ne_int (i j : Int) : cmpV .ne (.int i) (.int j) st = .ok (.bl (!(i == j))) st := by
  show okB (eqV (.int i) (.int j) st) (!·) st = _
  unfold eqV
  rw [toS_int, toS_int]
  show Res.ok (MV.bl (!PyData.eqv (.int i) (.int j))) st = _
  rw [eqv_int]
theorem eq_str {a b : Str} (ha : PyData.strOk a = true) (hb : PyData.strOk b = true) : cmpV .eq (.str a) (.str b) st = .ok (.bl (a == b)) st := rfl
theorem eq_str' {a b : Str} : cmpV .eq (.str a) (.str b) st = .ok (.bl (a == b)) st := rfl
theorem ne_str' {a b : Str} : cmpV .ne (.str a) (.str b) st = .ok (.bl (!(a == b))) st := rfl
theorem in_str (x z : Str) : cmpV .isin (.str x) (.str z) st = .ok (.bl (inTxt x z)) st := rfl
theorem notin_str (x z : Str) : cmpV .notin (.str x) (.str z) st = .ok (.bl (!inTxt x z)) st := rfl
theorem add_str {x y : Str} (h : x.length + y.length ≤ sizeLine) : binV .add (.str x) (.str y) st = .ok (.str (x ++ y)) st := if_pos h
theorem inTxt_one (c : Nat) (z : Str) : inTxt ⟨#[c]⟩ z = decide (c ∈ z.cps.toList) := rfl
theorem len_str {z : Str} (h : z.length ≤ 1000) : biV .len [.str z] st = .ok (.int z.length) st := if_pos (Nat.le_trans h (by decide))
theorem mapM_strs (f : Nat) : ∀ xs : List Str, (xs.map MV.str).mapM (toD st (f + 1)) = some (xs.map PyData.str)
  | [] => rfl
  | x :: xs => by
    rw [List.map_cons, List.mapM_cons, mapM_strs f xs]
    rfl
theorem canLay_strs : ∀ {xs : List Str}, (∀ x ∈ xs, PyData.strOk x = true) → PyData.canLayAll0 (xs.map PyData.str) = true
  | [], _ => by simp [PyData.canLayAll0]
  | x :: xs, h => by
    rw [List.map_cons]
    simp [PyData.canLayAll0, PyData.canLay0, h x (List.mem_cons_self ..), canLay_strs fun y hy => h y (List.mem_cons_of_mem _ hy)]
theorem depth_strs : ∀ xs : List Str, PyData.depthAll (xs.map PyData.str) = 0
  | [] => by simp [PyData.depthAll]
  | x :: xs => by rw [List.map_cons]; simp [PyData.depthAll, PyData.depth, depth_strs xs]
theorem toS_scr {xs : List Str} (h : ∀ x ∈ xs, PyData.strOk x = true) : toS st (.scr (xs.map MV.str)) = some (.list (xs.map PyData.str)) := by
  have e : toD st 66 (.scr (xs.map MV.str)) = some (.list (xs.map PyData.str)) := by
    show ((xs.map MV.str).mapM (toD st 65)).map PyData.list = _
    rw [mapM_strs 64]
    rfl
  unfold toS
  rw [e]
  show (if SeqAt.shaped (.list (xs.map PyData.str)) = true then some _ else none) = _
  rw [if_pos]
  simp [SeqAt.shaped, PyData.canLay0, PyData.depth, canLay_strs h, depth_strs]
theorem toS_tup {xs : List Str} (h : ∀ x ∈ xs, PyData.strOk x = true) : toS st (.tup (xs.map MV.str)) = some (.tuple (xs.map PyData.str)) := by
  have e : toD st 66 (.tup (xs.map MV.str)) = some (.tuple (xs.map PyData.str)) := by
    show ((xs.map MV.str).mapM (toD st 65)).map PyData.tuple = _
    rw [mapM_strs 64]
    rfl
  unfold toS
  rw [e]
  show (if SeqAt.shaped (.tuple (xs.map PyData.str)) = true then some _ else none) = _
  rw [if_pos]
  simp [SeqAt.shaped, PyData.canLay0, PyData.depth, canLay_strs h, depth_strs]
theorem toS_ref {n : Nat} {xs : List Str} (hn : st.get n = some (.lst (xs.map MV.str))) (h : ∀ x ∈ xs, PyData.strOk x = true) : toS st (.ref n) = some (.list (xs.map PyData.str)) := by
  have e : toD st 66 (.ref n) = some (.list (xs.map PyData.str)) := by
    show (match st.get n with
      | some (.lst xs) => (xs.mapM (toD st 65)).map PyData.list
      | _ => none) = _
    rw [hn]
    show ((xs.map MV.str).mapM (toD st 65)).map PyData.list = _
    rw [mapM_strs 64]
    rfl
  unfold toS
  rw [e]
  show (if SeqAt.shaped (.list (xs.map PyData.str)) = true then some _ else none) = _
  rw [if_pos]
  simp [SeqAt.shaped, PyData.canLay0, PyData.depth, canLay_strs h, depth_strs]
theorem any_strs (a : Str) : ∀ xs : List Str, ((xs.map PyData.str).any fun e => PyData.eqv e (.str a)) = xs.any fun x => x == a
  | [] => rfl
  | x :: xs => by rw [List.map_cons, List.any_cons, List.any_cons, any_strs a xs, eqv_str]
theorem txtsV_map : ∀ xs : List Str, txtsV (xs.map MV.str) = some xs
  | [] => rfl
  | x :: xs => by
    show (match txtsV (xs.map MV.str) with
      | some t => some (x :: t)
      | none => none) = _
    rw [txtsV_map xs]
theorem anyX_str (a : Str) : ∀ xs : List Str, anyX st (.str a) xs = some (xs.any fun x => x == a)
  | [] => rfl
  | x :: xs => by
    show (match some (x == a), anyX st (.str a) xs with
      | some k, some q => some (k || q)
      | _, _ => none) = _
    rw [anyX_str a xs]
    rfl
theorem in_tup {a : Str} {xs : List Str} (ha : PyData.strOk a = true) (h : ∀ x ∈ xs, PyData.strOk x = true) : cmpV .isin (.str a) (.tup (xs.map MV.str)) st = .ok (.bl (xs.any fun x => x == a)) st := by
  have e : inXS (.str a) (.tup (xs.map MV.str)) st = some (xs.any fun x => x == a) := by
    show (match txtsV (xs.map MV.str) with
      | some zs => anyX st (.str a) zs
      | none => none) = _
    rw [txtsV_map]
    exact anyX_str a xs
  show okB (orO none (orO (inXS (.str a) (.tup (xs.map MV.str)) st) _)) id st = _
  rw [e]
  rfl
theorem notin_tup {a : Str} {xs : List Str} (ha : PyData.strOk a = true) (h : ∀ x ∈ xs, PyData.strOk x = true) : cmpV .notin (.str a) (.tup (xs.map MV.str)) st = .ok (.bl (!xs.any fun x => x == a)) st := by
  show okB (inV (.str a) (.tup (xs.map MV.str)) st) (!·) st = _
  unfold inV
  simp only [toS_str ha, toS_tup h]
  show Res.ok (MV.bl (!(xs.map PyData.str).any fun e => PyData.eqv e (.str a))) st = _
  rw [any_strs]
theorem in_lst {a : Str} {n : Nat} {xs : List Str} (hn : st.get n = some (.lst (xs.map MV.str))) (ha : PyData.strOk a = true) (h : ∀ x ∈ xs, PyData.strOk x = true) : cmpV .isin (.str a) (.ref n) st = .ok (.bl (xs.any fun x => x == a)) st := by
  have e0 : frV st (.ref n) = some (xs.map MV.str) := by
    show (match st.get n with
      | some (.lst xs) => some xs
      | _ => none) = _
    rw [hn]
  have e : inXS (.str a) (.ref n) st = some (xs.any fun x => x == a) := by
    unfold inXS
    rw [e0]
    show (match txtsV (xs.map MV.str) with
      | some zs => anyX st (.str a) zs
      | none => none) = _
    rw [txtsV_map]
    exact anyX_str a xs
  show okB (orO none (orO (inXS (.str a) (.ref n) st) _)) id st = _
  rw [e]
  rfl
theorem notin_lst {a : Str} {n : Nat} {xs : List Str} (hn : st.get n = some (.lst (xs.map MV.str))) (ha : PyData.strOk a = true) (h : ∀ x ∈ xs, PyData.strOk x = true) : cmpV .notin (.str a) (.ref n) st = .ok (.bl (!xs.any fun x => x == a)) st := by
  show okB (inV (.str a) (.ref n) st) (!·) st = _
  unfold inV
  simp only [hn, toS_str ha, toS_ref hn h]
  show Res.ok (MV.bl (!(xs.map PyData.str).any fun e => PyData.eqv e (.str a))) st = _
  rw [any_strs]
theorem bls_map {α : Type} (f : α → Bool) : ∀ xs : List α, blsV (xs.map fun x => MV.bl (f x)) = some (xs.map f)
  | [] => rfl
  | x :: xs => by
    rw [List.map_cons]
    show (match blsV (xs.map fun x => MV.bl (f x)) with
      | some t => some (f x :: t)
      | none => none) = _
    rw [bls_map f xs]
    rfl
theorem strs_map (xs : List Str) : strsV (xs.map MV.str) = some xs := by
  induction xs with
  | nil => rfl
  | cons x xs ih =>
    show (match strsV (xs.map MV.str) with
      | some t => some (x :: t)
      | none => none) = _
    rw [ih]
end
section
variable {Γ : Tab} {d : Nat} {env : Env} {st : Store}
/-- items made one by one, nothing else touched -/
theorem g_map {tg : Tg} {el : ME} {Q : List MV → Store → Prop} (f : MV → MV) : ∀ {xs acc : List MV}, acc.length + xs.length ≤ sizeLine → (∀ v, v ∈ xs → ∃ env1, tg.set v env = some env1 ∧ ∀ Q' : MV → Store → Prop, Q' (f v) st → wE Γ d el env1 st Q') → Q (acc ++ xs.map f) st → wG Γ d (.snap xs) tg [] el env acc st Q
  | [], acc, _, _, q => g_nil (by simpa using q)
  | v :: xs, acc, hl, h, q => by
    obtain ⟨env1, e, he⟩ := h v (List.mem_cons_self ..)
    rw [List.length_cons] at hl
    refine g_cons e (ts_nil' ⟨fun _ => he _ ⟨by omega, ?_⟩, fun z => by cases z⟩)
    exact g_map f (by rw [List.length_append, List.length_cons, List.length_nil]; omega) (fun u hu => h u (List.mem_cons_of_mem _ hu)) (by simpa using q)
/-- items kept by a test -/
theorem g_filter {tg : Tg} {c el : ME} {Q : List MV → Store → Prop} (p : MV → Bool) : ∀ {xs acc : List MV}, acc.length + xs.length ≤ sizeLine → (∀ v, v ∈ xs → ∃ env1, tg.set v env = some env1 ∧ (∀ Q' : Bool → Store → Prop, Q' (p v) st → wT Γ d c env1 st Q') ∧ ∀ Q' : MV → Store → Prop, Q' v st → wE Γ d el env1 st Q') →
    Q (acc ++ xs.filter p) st → wG Γ d (.snap xs) tg [c] el env acc st Q
  | [], acc, _, _, q => g_nil (by simpa using q)
  | v :: xs, acc, hl, h, q => by
    obtain ⟨env1, e, hc, he⟩ := h v (List.mem_cons_self ..)
    rw [List.length_cons] at hl
    refine g_cons e (ts_one' (hc _ ⟨fun hp => he _ ⟨by omega, ?_⟩, fun hp => ?_⟩))
    · refine g_filter p (by rw [List.length_append, List.length_cons, List.length_nil]; omega) (fun u hu => h u (List.mem_cons_of_mem _ hu)) ?_
      rw [List.filter_cons_of_pos hp] at q
      simpa using q
    · refine g_filter p (by omega) (fun u hu => h u (List.mem_cons_of_mem _ hu)) ?_
      rw [List.filter_cons_of_neg (by rw [hp]; exact Bool.false_ne_true)] at q
      exact q
end
end MP

set_option Elab.async false
set_option linter.all false
set_option maxRecDepth 100000
set_option maxHeartbeats 4000000
/-! weakest preconditions: instances, methods, chains, dicts walked -/
namespace MP
open PySem L2
section
variable {Γ : Tab} {d : Nat} {env : Env} {st : Store}
theorem e_fld {cs : List Nat} {f : Str} {o : ME} {Q : MV → Store → Prop} (h : MP.wE Γ d o env st fun x st1 => Rs (fldV cs f x st1) Q) : MP.wE Γ d (.fld cs o f) env st Q :=
  W.up (fun _ => rfl) (W.bind (h.mono fun x st1 h => W.res h))
theorem e_mcall {m : Str} {tab : List (Nat × Nat)} {o : ME} {es : List ME} {Q : MV → Store → Prop} (h : MP.wE Γ (d + 1) o env st fun x st1 => ∃ f, methF m tab x st1 = some f ∧ wA Γ (d + 1) es env st1 fun vs st2 => wC Γ d f (x :: vs) st2 Q) : MP.wE Γ (d + 1) (.mcall o m tab es) env st Q :=
  W.up (fun _ => rfl) (W.bind (h.mono fun x st1 ⟨f, e, h⟩ => by
    rw [e]
    exact W.bind (h.mono fun vs st2 ⟨fn, ef, h⟩ => h.eq fun k => by rw [ef])))
theorem e_new {c f : Nat} {es : List ME} {Q : MV → Store → Prop} (h : wA Γ (d + 2) es env st fun vs st1 => wC Γ d f (.ref st1.next :: vs) (st1.add (.ins c [])) fun v st2 => v = .non ∧ Q (.ref st1.next) st2) : MP.wE Γ (d + 2) (.new c f es) env st Q :=
  W.up (fun _ => rfl) (W.bind (h.mono fun vs st1 ⟨fn, ef, h⟩ => (W.bind (f := fun _ r st' => match r with
      | .non => .ok (.ref st1.next) st'
      | _ => .stuck) (h.mono fun v st2 ⟨e, h⟩ => by subst e; exact W.ok h)).eq fun k => by
      rw [ef]
      all_goals rfl))
theorem e_chain {o o' : COp} {a b c : ME} {Q : MV → Store → Prop} (h : MP.wE Γ d a env st fun x st1 => MP.wE Γ d b env st1 fun y st2 => Rs (cmpV o x y st2) fun k st3 => ∃ q, k = .bl q ∧ (q = true → MP.wE Γ d c env st3 fun z st4 => Rs (cmpV o' y z st4) Q) ∧ (q = false → Q (.bl false) st3)) : MP.wE Γ d (.chain o o' a b c) env st Q :=
  W.up (fun _ => rfl) (W.bind (h.mono fun x st1 h => W.bind (h.mono fun y st2 h => W.bind ((W.res h).mono fun k st3 ⟨q, e, h1, h2⟩ => by
    subst e
    cases q with
    | true => exact W.bind ((h1 rfl).mono fun z st4 h => W.res h)
    | false => exact W.ok (h2 rfl)))))
theorem S_sfld {cs : List Nat} {f : Str} {o e : ME} {Q : Fl × Env → Store → Prop} (h : MP.wE Γ d e env st fun v st1 => MP.wE Γ d o env st1 fun x st2 => ∃ st', setFV cs f x v st2 = some st' ∧ Q (.nx, env) st') : wS Γ d (.sfld cs o f e) env st Q :=
  W.up (fun _ => rfl) (W.bind (h.mono fun v st1 h => W.bind (h.mono fun x st2 ⟨st', e, h⟩ => by rw [e]; exact W.ok h)))
theorem S_par3 {i j l : Nat} {a b c : ME} {Q : Fl × Env → Store → Prop} (h : wA Γ d [a, b, c] env st fun vs st1 => ∃ u v w, vs = [u, v, w] ∧ Q (.nx, ((env.set i (some u)).set j (some v)).set l (some w)) st1) : wS Γ d (.par3 i j l a b c) env st Q :=
  W.up (fun _ => rfl) (W.bind (h.mono fun vs st1 ⟨u, v, w, e, h⟩ => by subst e; exact W.ok h))
theorem S_unp {is : List Nat} {e : ME} {Q : Fl × Env → Store → Prop} (h : MP.wE Γ d e env st fun v st1 => ∃ vs env', v = .tup vs ∧ setMany is vs env = some env' ∧ Q (.nx, env') st1) : wS Γ d (.unp is e) env st Q :=
  W.up (fun _ => rfl) (W.bind (h.mono fun v st1 ⟨vs, env', e, e2, h⟩ => by
    subst e
    refine (W.ok h).eq fun k => ?_
    simp only [e2]))
theorem S_forK {tg : Tg} {i n : Nat} {body : List MS} {kvs : List (Key × MV)} {Q : Fl × Env → Store → Prop} (e1 : env[i]? = some (some (.ref n))) (e2 : st.get n = some (.dK kvs))
    (h : wF Γ d (.snap (kvs.map fun kv => keyMV kv.1)) tg body env (st.set n (.dF kvs)) fun r st1 => Rs (unlockV n r st1) Q) : wS Γ d (.forK tg i body) env st Q :=
  W.up (run' := fun k => ((ev Γ k d).f (.snap (kvs.map fun kv => keyMV kv.1)) tg body env (st.set n (.dF kvs))).bind fun r st => unlockV n r st) (fun k => by
    show (match env[i]? with
      | some (some (.ref n)) => (match st.get n with
        | some (.dK kvs) => _
        | _ => Res.stuck)
      | _ => .stuck) = _
    rw [e1]
    simp only [e2]
    all_goals rfl) (W.bind (h.mono fun r st1 h => W.res h))
theorem l_compK {elt : ME} {tg : Tg} {i n : Nat} {conds : List ME} {ws : List Nat} {kvs : List (Key × MV)} {Q : List MV → Store → Prop} (e1 : env[i]? = some (some (.ref n))) (e2 : st.get n = some (.dK kvs))
    (h : wG Γ d (.snap (kvs.map fun kv => keyMV kv.1)) tg conds elt (wipeE env ws) [] (st.set n (.dF kvs)) fun r st1 => Rs (unlockV n r st1) Q) : wL Γ d (.compK elt tg i conds ws) env st Q :=
  W.up (run' := fun k => ((ev Γ k d).g (.snap (kvs.map fun kv => keyMV kv.1)) tg conds elt (wipeE env ws) [] (st.set n (.dF kvs))).bind fun r st => unlockV n r st) (fun k => by
    show (match env[i]? with
      | some (some (.ref n)) => (match st.get n with
        | some (.dK kvs) => _
        | _ => Res.stuck)
      | _ => .stuck) = _
    rw [e1]
    simp only [e2]
    all_goals rfl) (W.bind (h.mono fun r st1 h => W.res h))
theorem i_enum' {m : ME} {n : Nat} {xs : List MV} {Q : Itv → Store → Prop} (h : MP.wE Γ d m env st fun v st1 => ∃ n xs, v = .ref n ∧ st1.get n = some (.lst xs) ∧ Q (.enum n 0) st1) : wI Γ d (.enum m) env st Q :=
  W.up (fun _ => rfl) (W.bind (h.mono fun v st1 ⟨n, xs, e, e2, h⟩ => by
    subst e
    refine (W.ok h).eq fun k => ?_
    simp only [e2]))
/-- a turn over a live list, or its end -/
theorem f_live {w : Itv} {tg : Tg} {body : List MS} {Q : Fl × Env → Store → Prop} {o : Option (MV × Itv)} (e : w.next st = some o) (h : match o with
    | none => Q (.nx, env) st
    | some (v, w') => ∃ env1, tg.set v env = some env1 ∧ wB Γ d body env1 st (turnQ Γ d w' tg body Q)) : wF Γ d w tg body env st Q := by
  cases o with
  | none =>
    exact W.up (run' := fun _ => .ok (Fl.nx, env) st) (fun k => by
      show (match w.next st with
        | none => Res.stuck
        | some none => Res.ok (Fl.nx, env) st
        | some (some (v, w')) => _) = _
      rw [e]) (W.ok h)
  | some q =>
    obtain ⟨v, w'⟩ := q
    obtain ⟨env1, ht, h⟩ := h
    refine W.up (run' := fun k => ((ev Γ k d).b body env1 st).bind fun r st => match r.1 with
        | .nx => (ev Γ k d).f w' tg body r.2 st
        | .ct => (ev Γ k d).f w' tg body r.2 st
        | .bk => .ok (.nx, r.2) st
        | .rt v => .ok (.rt v, r.2) st) (fun k => by
      show (match w.next st with
        | none => Res.stuck
        | some none => Res.ok (Fl.nx, env) st
        | some (some (v, w')) => (match tg.set v env with
          | none => .stuck
          | some env1 => _)) = _
      rw [e]
      simp only [ht]
      all_goals rfl) (W.bind (h.mono fun r st2 h => ?_))
    obtain ⟨fl, env'⟩ := r
    cases fl with
    | nx => exact h
    | ct => exact h
    | bk => exact W.ok h
    | rt v => exact W.ok h
end
end MP

set_option Elab.async false
set_option linter.all false
set_option maxRecDepth 100000
set_option maxHeartbeats 4000000
/-! small values: their depth, their weight; what repr makes of them -/
namespace MP
open PySem L2
variable {st st' : Store} {s g : Nat}
/-- a short text of signs -/
def Txt0 (z : Str) : Prop := z.length ≤ 100 ∧ PyData.strOk z = true
/-- more objects, nothing changed -/
structure Ext (st st' : Store) : Prop where
  wf : st'.wf
  le : st.next ≤ st'.next
  kp : ∀ n, n < st.next → st'.get n = st.get n
theorem Ext.refl (wf : st.wf) : Ext st st := ⟨wf, Nat.le_refl _, fun _ _ => rfl⟩
theorem Ext.trans {a b c : Store} (h : Ext a b) (k : Ext b c) : Ext a c := ⟨k.wf, Nat.le_trans h.le k.le, fun n hn => (k.kp n (Nat.lt_of_lt_of_le hn h.le)).trans (h.kp n hn)⟩
theorem Ext.add (wf : st.wf) (o : MO) : Ext st (st.add o) := ⟨Store.wf_add wf _, Nat.le_succ _, fun n hn => by rw [Store.get_add wf, if_neg (Nat.ne_of_lt hn)]⟩
theorem Fr.ext {a b : Store} (e : Ext a b) : Fr s g a b := ⟨e.le, fun n hn _ _ => e.kp n hn⟩
theorem add_fr (wf : st.wf) (o : MO) : Fr s g st (st.add o) := Fr.ext (Ext.add wf o)
theorem Src.ext (h : Src st s g) (e : Ext st st') : Src st' s g := by
  obtain ⟨ds, l, m, t, h⟩ := h
  exact ⟨ds, l, m, t, e.wf, Nat.lt_of_lt_of_le h.ls e.le, Nat.lt_of_lt_of_le h.lg e.le, h.ne, (e.kp _ h.ls).trans h.gs, (e.kp _ h.lg).trans h.gg⟩
theorem Src.ne (h : Src st s g) : st.next ≠ s ∧ st.next ≠ g := let ⟨_, _, _, _, h⟩ := h; ⟨Nat.ne_of_gt h.ls, Nat.ne_of_gt h.lg⟩
theorem get_new (wf : st.wf) (o : MO) : (st.add o).get st.next = some o := by rw [Store.get_add wf, if_pos rfl]
/-- a law's word -/
def Wd (z : Str) : Prop := z.length ≤ 13 ∧ PyData.strOk z = true
theorem Wd.txt {z : Str} (h : Wd z) : Txt0 z := ⟨Nat.le_trans h.1 (by decide), h.2⟩
def wsum (ps : List (Nat × MV)) : Nat := (ps.map fun p => p.1 + 1).sum
/-- a small value: its depth, its weight -/
inductive Sm (s g : Nat) (st : Store) : Nat → Nat → MV → Prop
  | non (k w : Nat) : Sm s g st k w .non
  | bl (k w : Nat) (b : Bool) : Sm s g st k w (.bl b)
  | int (k : Nat) {w : Nat} {i : Int} : i.natAbs < 1000 → 10 ≤ w → Sm s g st k w (.int i)
  | str (k : Nat) {w : Nat} {z : Str} : Wd z → 13 ≤ w → Sm s g st k w (.str z)
  | tup {k w : Nat} {xs : List MV} {ps : List (Nat × MV)} : xs = ps.map (·.2) → (∀ p ∈ ps, Sm s g st k p.1 p.2) → wsum ps ≤ w → Sm s g st (k + 1) w (.tup xs)
  | lst {k w n : Nat} {xs : List MV} {ps : List (Nat × MV)} : n < st.next → n ≠ s → n ≠ g → st.get n = some (.lst xs) → xs = ps.map (·.2) → (∀ p ∈ ps, Sm s g st k p.1 p.2) → wsum ps ≤ w → Sm s g st (k + 1) w (.ref n)
  | dic (k w : Nat) {n : Nat} : n < st.next → n ≠ s → n ≠ g → st.get n = some (.dK []) → Sm s g st (k + 1) w (.ref n)
/-- small values in a row -/
def SmL (s g : Nat) (st : Store) (k w : Nat) (xs : List MV) : Prop := ∃ ps : List (Nat × MV), xs = ps.map (·.2) ∧ (∀ p ∈ ps, Sm s g st k p.1 p.2) ∧ wsum ps ≤ w
theorem Sm.fr {k w : Nat} {v : MV} (f : Fr s g st st') (h : Sm s g st k w v) : Sm s g st' k w v := by
  induction h with
  | non k w => exact .non k w
  | bl k w b => exact .bl k w b
  | int k h h2 => exact .int k h h2
  | str k h h2 => exact .str k h h2
  | tup h1 _ h3 ih => exact .tup h1 ih h3
  | lst h1 h2 h3 h4 h5 _ h7 ih => exact .lst (Nat.lt_of_lt_of_le h1 f.le) h2 h3 ((f.kp _ h1 h2 h3).trans h4) h5 ih h7
  | dic k w h1 h2 h3 h4 => exact .dic k w (Nat.lt_of_lt_of_le h1 f.le) h2 h3 ((f.kp _ h1 h2 h3).trans h4)
theorem Sm.up {k w : Nat} {v : MV} (h : Sm s g st k w v) : Sm s g st (k + 1) w v := by
  induction h with
  | non k w => exact .non _ _
  | bl k w b => exact .bl _ _ b
  | int k h h2 => exact .int _ h h2
  | str k h h2 => exact .str _ h h2
  | tup h1 _ h3 ih => exact .tup h1 ih h3
  | lst h1 h2 h3 h4 h5 _ h7 ih => exact .lst h1 h2 h3 h4 h5 ih h7
  | dic k w h1 h2 h3 h4 => exact .dic _ w h1 h2 h3 h4
theorem Sm.upto {k k' w : Nat} {v : MV} (h : Sm s g st k w v) (e : k ≤ k') : Sm s g st k' w v := by
  induction e with
  | refl => exact h
  | step _ ih => exact ih.up
theorem Sm.wt {k w w' : Nat} {v : MV} (h : Sm s g st k w v) (e : w ≤ w') : Sm s g st k w' v := by
  cases h with
  | non => exact .non _ _
  | bl _ _ b => exact .bl _ _ b
  | int _ h h2 => exact .int _ h (Nat.le_trans h2 e)
  | str _ h h2 => exact .str _ h (Nat.le_trans h2 e)
  | tup h1 h2 h3 => exact .tup h1 h2 (Nat.le_trans h3 e)
  | lst h1 h2 h3 h4 h5 h6 h7 => exact .lst h1 h2 h3 h4 h5 h6 (Nat.le_trans h7 e)
  | dic _ _ h1 h2 h3 h4 => exact .dic _ _ h1 h2 h3 h4
theorem Sm.le {k k' w w' : Nat} {v : MV} (h : Sm s g st k w v) (e1 : k ≤ k') (e2 : w ≤ w') : Sm s g st k' w' v := (h.upto e1).wt e2
theorem Sm.items {k w : Nat} {xs : List MV} (h : Sm s g st k w (.tup xs)) : SmL s g st (k - 1) w xs := by
  cases h with
  | tup h1 h2 h3 => exact ⟨_, h1, h2, h3⟩
theorem SmL.tup {k w : Nat} {xs : List MV} (h : SmL s g st k w xs) : Sm s g st (k + 1) w (.tup xs) := let ⟨_, h1, h2, h3⟩ := h; .tup h1 h2 h3
theorem SmL.lst {k w n : Nat} {xs : List MV} (h1 : n < st.next) (h2 : n ≠ s) (h3 : n ≠ g) (h4 : st.get n = some (.lst xs)) (h : SmL s g st k w xs) : Sm s g st (k + 1) w (.ref n) := let ⟨_, h5, h6, h7⟩ := h; .lst h1 h2 h3 h4 h5 h6 h7
theorem SmL.fr {k w : Nat} {xs : List MV} (f : Fr s g st st') (h : SmL s g st k w xs) : SmL s g st' k w xs := let ⟨_, h1, h2, h3⟩ := h; ⟨_, h1, fun p hp => (h2 p hp).fr f, h3⟩
theorem SmL.le {k k' w w' : Nat} {xs : List MV} (h : SmL s g st k w xs) (e1 : k ≤ k') (e2 : w ≤ w') : SmL s g st k' w' xs := let ⟨_, h1, h2, h3⟩ := h; ⟨_, h1, fun p hp => (h2 p hp).upto e1, Nat.le_trans h3 e2⟩
theorem SmL.nil (k w : Nat) : SmL s g st k w [] := ⟨[], rfl, ⟨fun p hp => (nomatch hp), Nat.zero_le _⟩⟩
theorem SmL.cons {k w1 w2 : Nat} {x : MV} {xs : List MV} (h : Sm s g st k w1 x) (t : SmL s g st k w2 xs) : SmL s g st k (w1 + 1 + w2) (x :: xs) := by
  obtain ⟨ps, rfl, h2, h3⟩ := t
  refine ⟨(w1, x) :: ps, rfl, fun p hp => ?_, ?_⟩
  · rcases List.mem_cons.mp hp with rfl | hp
    · exact h
    · exact h2 p hp
  · show w1 + 1 + wsum ps ≤ _
    omega
theorem wsum_append (ps qs : List (Nat × MV)) : wsum (ps ++ qs) = wsum ps + wsum qs := by
  unfold wsum
  rw [List.map_append, List.sum_append]
theorem SmL.append {k w1 w2 : Nat} {xs ys : List MV} (h : SmL s g st k w1 xs) (t : SmL s g st k w2 ys) : SmL s g st k (w1 + w2) (xs ++ ys) := by
  obtain ⟨ps, rfl, h2, h3⟩ := h
  obtain ⟨qs, rfl, h4, h5⟩ := t
  refine ⟨ps ++ qs, by rw [List.map_append], fun p hp => ?_, ?_⟩
  · rcases List.mem_append.mp hp with hp | hp
    · exact h2 p hp
    · exact h4 p hp
  · rw [wsum_append]
    omega
theorem wsum_drop (ps : List (Nat × MV)) : ∀ n, wsum (ps.drop n) ≤ wsum ps := by
  intro n
  have e := wsum_append (ps.take n) (ps.drop n)
  rw [List.take_append_drop] at e
  omega
theorem wsum_take (ps : List (Nat × MV)) : ∀ n, wsum (ps.take n) ≤ wsum ps := by
  intro n
  have e := wsum_append (ps.take n) (ps.drop n)
  rw [List.take_append_drop] at e
  omega
theorem SmL.drop {k w : Nat} {xs : List MV} (h : SmL s g st k w xs) (n : Nat) : SmL s g st k w (xs.drop n) := by
  obtain ⟨ps, rfl, h2, h3⟩ := h
  exact ⟨ps.drop n, by rw [List.map_drop], fun p hp => h2 p (List.mem_of_mem_drop hp), Nat.le_trans (wsum_drop ps n) h3⟩
theorem SmL.take {k w : Nat} {xs : List MV} (h : SmL s g st k w xs) (n : Nat) : SmL s g st k w (xs.take n) := by
  obtain ⟨ps, rfl, h2, h3⟩ := h
  exact ⟨ps.take n, by rw [List.map_take], fun p hp => h2 p (List.mem_of_mem_take hp), Nat.le_trans (wsum_take ps n) h3⟩
theorem SmL.cut {k w : Nat} {xs : List MV} (h : SmL s g st k w xs) (lo hi : Option Int) : SmL s g st k w (MP.cut xs lo hi) := (h.drop _).take _
theorem SmL.mem {k w : Nat} {xs : List MV} (h : SmL s g st k w xs) {x : MV} (hx : x ∈ xs) : Sm s g st k w x := by
  obtain ⟨ps, rfl, h2, h3⟩ := h
  obtain ⟨p, hp, rfl⟩ := List.mem_map.mp hx
  refine (h2 p hp).wt (Nat.le_trans ?_ h3)
  clear h2 h3 hx
  induction ps with
  | nil => cases hp
  | cons q ps ih =>
    have e : wsum (q :: ps) = q.1 + 1 + wsum ps := rfl
    rw [e]
    rcases List.mem_cons.mp hp with rfl | hp
    · omega
    · have := ih hp; omega
theorem wsum_len : ∀ ps : List (Nat × MV), ps.length ≤ wsum ps
  | [] => Nat.le_refl _
  | q :: ps => by
    have e : wsum (q :: ps) = q.1 + 1 + wsum ps := rfl
    rw [e, List.length_cons]
    have := wsum_len ps
    omega
theorem SmL.len {k w : Nat} {xs : List MV} (h : SmL s g st k w xs) : xs.length ≤ w := by
  obtain ⟨ps, rfl, h2, h3⟩ := h
  rw [List.length_map]
  exact Nat.le_trans (wsum_len ps) h3
/-- as data -/
structure Da (st : Store) (k w : Nat) (v : MV) (dt : PyData) : Prop where
  rd : ∀ f, k < f → toR st f v = some dt
  sh : dt.showable = true
  lv : dt.leavesShort 13 = true
  wt : dt.weight ≤ w
  dp : dt.depth ≤ k
theorem da_list {k : Nat} : ∀ {ps : List (Nat × MV)}, (∀ p ∈ ps, ∃ dt, Da st k p.1 p.2 dt) → ∃ ds : List PyData, (∀ f, k < f → (ps.map (·.2)).mapM (toR st f) = some ds) ∧ PyData.showableAll ds = true ∧ PyData.leavesShortAll 13 ds = true ∧ PyData.weightAll ds ≤ wsum ps ∧ PyData.depthAll ds ≤ k
  | [], _ => ⟨[], fun f _ => rfl, by simp [PyData.showableAll], by simp [PyData.leavesShortAll], by simp [PyData.weightAll], by simp [PyData.depthAll]⟩
  | x :: xs, h => by
    obtain ⟨dt, D⟩ := h x (List.mem_cons_self ..)
    obtain ⟨ds, e1, e2, e3, e4, e5⟩ := da_list (ps := xs) fun y hy => h y (List.mem_cons_of_mem _ hy)
    refine ⟨dt :: ds, fun f hf => ?_, ?_, ?_, ?_, ?_⟩
    · rw [List.map_cons, List.mapM_cons, D.rd f hf, e1 f hf]
      rfl
    · simp [PyData.showableAll, D.sh, e2]
    · simp [PyData.leavesShortAll, D.lv, e3]
    · simp only [PyData.weightAll]
      have := D.wt
      have e : wsum (x :: xs) = x.1 + 1 + wsum xs := rfl
      omega
    · simp only [PyData.depthAll]
      exact Nat.max_le.mpr ⟨D.dp, e5⟩
theorem nat_short (i : Nat) (h : i < 1000) : i.log2 < 1920 ∧ i.log2 + 1 ≤ 10 ∧ (if i = 0 then 0 else i.log2 + 1) ≤ 10 := by
  have : i.log2 ≤ 9 := by
    by_cases h0 : i = 0
    · subst h0; decide
    · have := (Nat.log2_lt h0 (k := 10)).mpr (by omega)
      omega
  refine ⟨by omega, by omega, ?_⟩
  split <;> omega
theorem shown_small (n : Nat) (h : n < 1000) : (PyData.shown (.int (n : Int))).length ≤ 13 ∧ (PyData.shown (.int (-(n : Int)))).length ≤ 13 := by
  have : ∀ m : Fin 1000, (PyData.shown (.int (m.val : Int))).length ≤ 13 ∧ (PyData.shown (.int (-(m.val : Int)))).length ≤ 13 := by decide +kernel
  exact this ⟨n, h⟩
theorem Sm.da {k w : Nat} {v : MV} (h : Sm s g st k w v) : ∃ dt, Da st k w v dt := by
  induction h with
  | non k w => exact ⟨.none, fun f hf => by cases f with | zero => omega | succ f => rfl, by simp [PyData.showable], by simp [PyData.leavesShort], by simp [PyData.weight], by simp [PyData.depth]⟩
  | bl k w b => exact ⟨.bool b, fun f hf => by cases f with | zero => omega | succ f => rfl, by simp [PyData.showable], by simp [PyData.leavesShort], by simp [PyData.weight], by simp [PyData.depth]⟩
  | @int k w i hi hw =>
    refine ⟨.int i, fun f hf => by cases f with | zero => omega | succ f => rfl, ?_, ?_, ?_, by simp [PyData.depth]⟩
    · simp only [PyData.showable]
      exact decide_eq_true (nat_short _ hi).1
    · simp only [PyData.leavesShort, decide_eq_true_eq]
      obtain ⟨h1, h2⟩ := shown_small i.natAbs hi
      rcases Int.natAbs_eq i with e | e
      · rw [e]; exact h1
      · rw [e]; exact h2
    · simp only [PyData.weight]
      have := (nat_short _ hi).2.1
      split <;> omega
  | @str k w z hz hw =>
    refine ⟨.str z, fun f hf => by cases f with | zero => omega | succ f => rfl, by simp [PyData.showable], ?_, ?_, by simp [PyData.depth]⟩
    · have h2 := hz.2
      unfold PyData.strOk at h2
      rw [← Array.all_toList] at h2
      simp only [PyData.leavesShort]
      rw [List.all_eq_true] at h2 ⊢
      intro c hc
      have := of_decide_eq_true (h2 c hc)
      exact decide_eq_true (Nat.lt_trans this (by decide))
    · have h1 : z.cps.size ≤ 13 := hz.1
      simp only [PyData.weight]
      omega
  | @tup k w xs ps h0 _ h3 ih =>
    subst h0
    obtain ⟨ds, e1, e2, e3, e4, e5⟩ := da_list ih
    refine ⟨.tuple ds, fun f hf => ?_, by simpa [PyData.showable] using e2, by simpa [PyData.leavesShort] using e3, ?_, ?_⟩
    · cases f with
      | zero => omega
      | succ f =>
        show ((ps.map (·.2)).mapM (toR st f)).map PyData.tuple = _
        rw [e1 f (by omega)]
        rfl
    · simp only [PyData.weight]
      omega
    · simp only [PyData.depth]
      omega
  | @lst k w n xs ps h1 h2 h3 h4 h0 _ h7 ih =>
    subst h0
    obtain ⟨ds, e1, e2, e3, e4, e5⟩ := da_list ih
    refine ⟨.list ds, fun f hf => ?_, by simpa [PyData.showable] using e2, by simpa [PyData.leavesShort] using e3, ?_, ?_⟩
    · cases f with
      | zero => omega
      | succ f =>
        show (match st.get n with
          | some (.lst xs) => (xs.mapM (toR st f)).map PyData.list
          | some (.dK []) => some (.dict [])
          | _ => none) = _
        rw [h4]
        show ((ps.map (·.2)).mapM (toR st f)).map PyData.list = _
        rw [e1 f (by omega)]
        rfl
    · simp only [PyData.weight]
      omega
    · simp only [PyData.depth]
      omega
  | @dic k w n h1 h2 h3 h4 =>
    refine ⟨.dict [], fun f hf => ?_, by simp [PyData.showable, PyData.showableKv], by simp [PyData.leavesShort, PyData.leavesShortKv], by simp [PyData.weight, PyData.weightKv], ?_⟩
    · cases f with
      | zero => omega
      | succ f =>
        show (match st.get n with
          | some (.lst xs) => (xs.mapM (toR st f)).map PyData.list
          | some (.dK []) => some (.dict [])
          | _ => none) = _
        rw [h4]
    · simp [PyData.depth, PyData.depthKv]
/-- repr is made -/
theorem repr_da {k w : Nat} {v : MV} {dt : PyData} (hk : k ≤ 64) (hw : w ≤ 2 ^ 20) (D : Da st k w v dt) : biV .repr [v] st = .ok (.str dt.shown) st := by
  have e := D.rd 66 (by omega)
  show (match toR st 66 v with
    | some d => if d.showable = true ∧ d.shown.length ≤ sizeLine ∧ d.depth ≤ 64 then Res.ok (MV.str d.shown) st else .stuck
    | none => .stuck) = _
  rw [e]
  exact if_pos ⟨D.sh, PyData.shown_fits (B := 13) (by decide) (by decide) D.lv (Nat.le_trans D.wt hw), Nat.le_trans D.dp hk⟩
theorem mapM_eq {f h : MV → Option PyData} : ∀ {xs : List MV}, (∀ x ∈ xs, f x = h x) → xs.mapM f = xs.mapM h
  | [], _ => rfl
  | x :: xs, e => by rw [List.mapM_cons, List.mapM_cons, e x (by simp), mapM_eq fun y hy => e y (List.mem_cons_of_mem _ hy)]
/-- the same data later -/
theorem Sm.toR {k w : Nat} {v : MV} (fr : Fr s g st st') (h : Sm s g st k w v) : ∀ f, toR st' f v = toR st f v := by
  induction h with
  | non k => intro f; cases f <;> rfl
  | bl k b => intro f; cases f <;> rfl
  | int k h => intro f; cases f <;> rfl
  | str k h => intro f; cases f <;> rfl
  | @tup k w xs ps h0 _ h3 ih =>
    subst h0
    intro f
    cases f with
    | zero => rfl
    | succ f =>
      show ((ps.map (·.2)).mapM (MP.toR st' f)).map PyData.tuple = ((ps.map (·.2)).mapM (MP.toR st f)).map PyData.tuple
      rw [mapM_eq fun x hx => by
        obtain ⟨p, hp, rfl⟩ := List.mem_map.mp hx
        exact ih p hp f]
  | @lst k w n xs ps h1 h2 h3 h4 h0 _ h7 ih =>
    subst h0
    intro f
    cases f with
    | zero => rfl
    | succ f =>
      show (match st'.get n with
        | some (.lst xs) => (xs.mapM (MP.toR st' f)).map PyData.list
        | some (.dK []) => some (.dict [])
        | _ => none) = (match st.get n with
        | some (.lst xs) => (xs.mapM (MP.toR st f)).map PyData.list
        | some (.dK []) => some (.dict [])
        | _ => none)
      rw [fr.kp n h1 h2 h3, h4]
      show ((ps.map (·.2)).mapM (MP.toR st' f)).map PyData.list = ((ps.map (·.2)).mapM (MP.toR st f)).map PyData.list
      rw [mapM_eq fun x hx => by
        obtain ⟨p, hp, rfl⟩ := List.mem_map.mp hx
        exact ih p hp f]
  | @dic k w n h1 h2 h3 h4 =>
    intro f
    cases f with
    | zero => rfl
    | succ f =>
      show (match st'.get n with
        | some (.lst xs) => (xs.mapM (MP.toR st' f)).map PyData.list
        | some (.dK []) => some (.dict [])
        | _ => none) = (match st.get n with
        | some (.lst xs) => (xs.mapM (MP.toR st f)).map PyData.list
        | some (.dK []) => some (.dict [])
        | _ => none)
      rw [fr.kp n h1 h2 h3, h4]
theorem Da.fr {k w : Nat} {v : MV} {dt : PyData} (f : Fr s g st st') (h : Sm s g st k w v) (D : Da st k w v dt) : Da st' k w v dt := ⟨fun n hn => (h.toR f n).trans (D.rd n hn), D.sh, D.lv, D.wt, D.dp⟩
/-- a list that is new -/
theorem SmL.newL {k w : Nat} {xs : List MV} (h : Src st s g) (hx : SmL s g st k w xs) : Sm s g (st.add (.lst xs)) (k + 1) w (.ref st.next) :=
  SmL.lst (Nat.lt_succ_self _) h.ne.1 h.ne.2 (get_new h.wf _) (hx.fr (add_fr h.wf _))
theorem newL_add {xs : List MV} (h : xs.length ≤ 1000) : newL xs st = .ok (.ref st.next) (st.add (.lst xs)) := if_pos (Nat.le_trans h (by decide))
theorem newT_tup {xs : List MV} (h : xs.length ≤ 1000) : newT xs st = .ok (.tup xs) st := if_pos (Nat.le_trans h (by decide))
theorem add_tup {xs ys : List MV} (h : xs.length + ys.length ≤ 1000) : binV .add (.tup xs) (.tup ys) st = .ok (.tup (xs ++ ys)) st := if_pos (Nat.le_trans h (by decide))
theorem bin_lst {n m : Nat} {xs ys : List MV} (hn : st.get n = some (.lst xs)) (hm : st.get m = some (.lst ys)) (h : xs.length + ys.length ≤ 1000) : binV .add (.ref n) (.ref m) st = .ok (.ref st.next) (st.add (.lst (xs ++ ys))) := by
  show (match st.get n, st.get m with
    | some (.lst xs), some (.lst ys) => MP.newL (xs ++ ys) st
    | _, _ => .stuck) = _
  rw [hn, hm]
  exact newL_add (by rw [List.length_append]; exact h)
theorem idx_lst {n : Nat} {xs : List MV} {r : Int} (hn : st.get n = some (.lst xs)) (h0 : 0 ≤ r) (h1 : r < xs.length) : ∃ v, v ∈ xs ∧ idxV (.ref n) (.int r) st = .ok v st := by
  obtain ⟨v, e, hv⟩ := atI_in h0 h1
  refine ⟨v, hv, ?_⟩
  unfold idxV
  simp only [hn, e]
theorem len_ref {n : Nat} {xs : List MV} (hn : st.get n = some (.lst xs)) : biV .len [.ref n] st = .ok (.int xs.length) st := by
  show (match st.get n with
    | some (.lst xs) => Res.ok (MV.int xs.length) st
    | some (.dK kvs) => Res.ok (MV.int kvs.length) st
    | _ => .stuck) = _
  rw [hn]
/-! ### any value that may be looked at -/
/-- a value that may be looked at -/
inductive G1 (st : Store) : MV → Prop
  | non : G1 st .non
  | bl (b : Bool) : G1 st (.bl b)
  | int (i : Int) : G1 st (.int i)
  | str {z : Str} : Txt0 z → G1 st (.str z)
  | tup (xs : List MV) : G1 st (.tup xs)
  | lst {n : Nat} {xs : List MV} : n < st.next → st.get n = some (.lst xs) → G1 st (.ref n)
  | dK {n : Nat} {kvs : List (Key × MV)} : n < st.next → st.get n = some (.dK kvs) → G1 st (.ref n)
theorem Sm.g1 {k w : Nat} {v : MV} (h : Sm s g st k w v) : G1 st v := by
  cases h with
  | non => exact .non
  | bl _ _ b => exact .bl b
  | int _ h => exact .int _
  | str _ h => exact .str h.txt
  | tup h1 _ => exact .tup _
  | lst h1 h2 h3 h4 h5 _ => exact .lst h1 h4
  | dic _ _ h1 h2 h3 h4 => exact .dK h1 h4
theorem G1.ext {v : MV} (h : G1 st v) (e : Ext st st') : G1 st' v := by
  cases h with
  | non => exact .non
  | bl b => exact .bl b
  | int i => exact .int i
  | str h => exact .str h
  | tup xs => exact .tup xs
  | lst hn h => exact .lst (Nat.lt_of_lt_of_le hn e.le) ((e.kp _ hn).trans h)
  | dK hn h => exact .dK (Nat.lt_of_lt_of_le hn e.le) ((e.kp _ hn).trans h)
theorem isT_lst {n : Nat} {xs : List MV} {t : TN} (h : st.get n = some (.lst xs)) : isT st (.ref n) t = (match t with
      | .list => some true
      | .cls _ => none
      | _ => some false) := by
  show (match st.get n with
    | some (.lst _) => (match t with
      | .list => some true
      | .cls _ => none
      | _ => some false)
    | some (.dK _) => (match t with
      | .dict => some true
      | .cls _ => none
      | _ => some false)
    | _ => none) = _
  rw [h]
theorem isT_dK {n : Nat} {xs : List (Key × MV)} {t : TN} (h : st.get n = some (.dK xs)) : isT st (.ref n) t = (match t with
      | .dict => some true
      | .cls _ => none
      | _ => some false) := by
  show (match st.get n with
    | some (.lst _) => (match t with
      | .list => some true
      | .cls _ => none
      | _ => some false)
    | some (.dK _) => (match t with
      | .dict => some true
      | .cls _ => none
      | _ => some false)
    | _ => none) = _
  rw [h]
def eqS (v : MV) (z : Str) : Bool := match v with
  | .str x => z == x
  | _ => false
theorem itemS_g {v : MV} {z : Str} (h : G1 st v) : itemS st v z = some (eqS v z) := by
  cases h with
  | lst _ h =>
    show (match st.get _ with
      | some (.lst _) => some false
      | some (.dK _) => some false
      | _ => none) = _
    rw [h]; rfl
  | dK _ h =>
    show (match st.get _ with
      | some (.lst _) => some false
      | some (.dK _) => some false
      | _ => none) = _
    rw [h]; rfl
  | _ => rfl
theorem isi_of {v : MV} {t : TN} {k : Bool} (h : isT st v t = some k) : biV (.isi [t]) [v] st = .ok (.bl k) st := by
  show (match isTs st v [t] with
    | some k => Res.ok (MV.bl k) st
    | none => .stuck) = _
  unfold isTs
  rw [h]
  cases k <;> rfl
/-- is a value a tuple -/
def isTup : MV → Bool
  | .tup _ => true
  | _ => false
def isStr : MV → Bool
  | .str _ => true
  | _ => false
theorem isi_tup {v : MV} (h : G1 st v) : biV (.isi [.tuple]) [v] st = .ok (.bl (isTup v)) st := by
  cases h with
  | lst _ h => exact isi_of (isT_lst h)
  | dK _ h => exact isi_of (isT_dK h)
  | _ => exact isi_of rfl
theorem isi_str {v : MV} (h : G1 st v) : biV (.isi [.str]) [v] st = .ok (.bl (isStr v)) st := by
  cases h with
  | lst _ h => exact isi_of (isT_lst h)
  | dK _ h => exact isi_of (isT_dK h)
  | _ => exact isi_of rfl
/-- a value against a text, by == -/
theorem eq_gs {v : MV} {z : Str} (h : G1 st v) : cmpV .eq v (.str z) st = .ok (.bl (eqS v z)) st := by
  by_cases hs : isStr v = true
  · cases v with
    | str x =>
      show Res.ok (MV.bl (x == z)) st = Res.ok (MV.bl (z == x)) st
      rw [Bool.beq_comm]
    | _ => cases hs
  · have e0 : eqSS v (.str z) = none := by
      cases v with
      | str x => exact absurd rfl hs
      | _ => rfl
    have e1 : eqT0 v (.str z) = none := by cases v <;> rfl
    show okB (orO (eqSS v (.str z)) (orO (eqT0 v (.str z)) (orO (itemS st v z) _))) id st = _
    rw [e0, e1, itemS_g h]
    rfl
theorem anyX_g {v : MV} (h : G1 st v) : ∀ zs : List Str, anyX st v zs = some (zs.any fun z => eqS v z)
  | [] => rfl
  | z :: zs => by
    show (match itemS st v z, anyX st v zs with
      | some k, some q => some (k || q)
      | _, _ => none) = _
    rw [itemS_g h, anyX_g h zs]
    rfl
/-- a value among texts -/
theorem in_gs {v b : MV} {zs : List Str} (h : G1 st v) (hb : frV st b = some (zs.map MV.str)) (h0 : inTS v b st = none) : cmpV .isin v b st = .ok (.bl (zs.any fun z => eqS v z)) st := by
  have e : inXS v b st = some (zs.any fun z => eqS v z) := by
    unfold inXS
    rw [hb]
    show (match txtsV (zs.map MV.str) with
      | some zs => anyX st v zs
      | none => none) = _
    rw [txtsV_map]
    exact anyX_g h zs
  show okB (orO (inTS v b st) (orO (inXS v b st) _)) id st = _
  rw [h0, e]
  rfl
end MP

set_option Elab.async false
set_option linter.all false
set_option maxRecDepth 100000
set_option maxHeartbeats 2000000
/-! a run reads only what it can: with more objects below it goes the same -/
namespace MP
open PySem L2
/-- the lower N objects are not there in st0, and stand in st as D tells -/
structure Sx (D : Nat → Option MO) (N : Nat) (st0 st : Store) : Prop where
  nx : st0.next = st.next
  w0 : st0.wf
  w : st.wf
  le : N ≤ st0.next
  lo : ∀ n, n < N → st0.get n = none ∧ st.get n = D n
  hi : ∀ n, N ≤ n → n < st0.next → st.get n = st0.get n
  no : ∀ n, st0.next ≤ n → st0.get n = none
variable {D : Nat → Option MO} {N : Nat} {st0 st : Store}
theorem Sx.or (S : Sx D N st0 st) (n : Nat) : st0.get n = none ∨ ((N ≤ n ∧ n < st0.next) ∧ st.get n = st0.get n) := by
  rcases Nat.lt_or_ge n N with h | h
  · exact .inl (S.lo n h).1
  · rcases Nat.lt_or_ge n st0.next with h2 | h2
    · exact .inr ⟨⟨h, h2⟩, S.hi n h h2⟩
    · exact .inl (S.no n h2)
theorem Sx.add (S : Sx D N st0 st) (o : MO) : Sx D N (st0.add o) (st.add o) where
  nx := by show st0.next + 1 = st.next + 1; rw [S.nx]
  w0 := Store.wf_add S.w0 _
  w := Store.wf_add S.w _
  le := Nat.le_succ_of_le S.le
  lo n h := by
    have h1 := S.le
    have h2 := S.nx
    rw [Store.get_add S.w0, Store.get_add S.w, if_neg (by omega), if_neg (by omega)]
    exact S.lo n h
  hi n h h2 := by
    have h2' : n < st0.next + 1 := h2
    rw [Store.get_add S.w0, Store.get_add S.w, S.nx]
    split
    · rfl
    · rename_i hne
      exact S.hi n h (by have := S.nx; omega)
  no n h := by
    have h' : st0.next + 1 ≤ n := h
    rw [Store.get_add S.w0, if_neg (by omega)]
    exact S.no n (by omega)
theorem Sx.set (S : Sx D N st0 st) {n : Nat} (hn : N ≤ n ∧ n < st0.next) (o : MO) : Sx D N (st0.set n o) (st.set n o) where
  nx := S.nx
  w0 := Store.wf_set S.w0 _ _
  w := Store.wf_set S.w _ _
  le := S.le
  lo m h := by
    rw [Store.get_set S.w0, Store.get_set S.w, if_neg (by omega), if_neg (by omega)]
    exact S.lo m h
  hi m h h2 := by
    rw [Store.get_set S.w0, Store.get_set S.w]
    split
    · rfl
    · exact S.hi m h h2
  no m h := by
    have h' : st0.next ≤ m := h
    rw [Store.get_set S.w0, if_neg (by omega)]
    exact S.no m h
/-- stores that go together -/
class SR (X : Store → Store → Prop) where
  G : Store → Store → Nat → Prop
  or : ∀ {a b : Store}, X a b → ∀ n, a.get n = none ∨ (G a b n ∧ b.get n = a.get n)
  add : ∀ {a b : Store}, X a b → ∀ o, X (a.add o) (b.add o)
  set : ∀ {a b : Store}, X a b → ∀ {n}, G a b n → ∀ o, X (a.set n o) (b.set n o)
  nx : ∀ {a b : Store}, X a b → a.next = b.next
instance srSx (D : Nat → Option MO) (N : Nat) : SR (Sx D N) where
  G a _ n := N ≤ n ∧ n < a.next
  or S n := S.or n
  add S o := S.add o
  set S _ h o := S.set h o
  nx S := S.nx
instance srEq : SR (fun a b : Store => a = b) where
  G _ _ _ := True
  or S n := .inr ⟨trivial, by rw [S]⟩
  add S o := by rw [S]
  set S _ _ o := by rw [S]
  nx S := by rw [S]
variable {X : Store → Store → Prop} [SR X]
theorem x_or (S : X st0 st) (n : Nat) : st0.get n = none ∨ (SR.G X st0 st n ∧ st.get n = st0.get n) := SR.or S n
theorem x_add (S : X st0 st) (o : MO) : X (st0.add o) (st.add o) := SR.add S o
theorem x_set (S : X st0 st) {n : Nat} (hn : SR.G X st0 st n) (o : MO) : X (st0.set n o) (st.set n o) := SR.set S hn o
theorem x_nx (S : X st0 st) : st0.next = st.next := SR.nx S
/-- what is told with fewer objects is told with more -/
def RR (X : Store → Store → Prop) {α : Type} (r0 r : Res α) : Prop := match r0 with
  | .stuck => True
  | .ok a s0 => ∃ s, r = .ok a s ∧ X s0 s
def OO {α : Type} (r0 r : Option α) : Prop := ∀ x, r0 = some x → r = some x
theorem oo_none {α : Type} {r : Option α} : OO none r := fun _ h => nomatch h
theorem oo_rfl {α : Type} {r : Option α} : OO r r := fun _ h => h
section
variable {α β : Type}
theorem rr_stuck {r : Res α} : RR X .stuck r := trivial
theorem rr_ok (S : X st0 st) (a : α) : RR X (.ok a st0) (.ok a st) := ⟨st, rfl, S⟩
theorem rr_bind {r0 r : Res α} {f0 f : α → Store → Res β} (h : RR X r0 r) (k : ∀ a s0 s, X s0 s → RR X (f0 a s0) (f a s)) : RR X (r0.bind f0) (r.bind f) := by
  cases r0 with
  | stuck => exact trivial
  | ok a s0 =>
    obtain ⟨s, e, S⟩ := h
    rw [e]
    exact k a s0 s S
theorem rr_ite {c : Prop} [Decidable c] {a0 a b0 b : Res α} (h1 : c → RR X a0 a) (h2 : ¬ c → RR X b0 b) : RR X (if c then a0 else b0) (if c then a else b) := by
  by_cases hc : c
  · rw [if_pos hc, if_pos hc]; exact h1 hc
  · rw [if_neg hc, if_neg hc]; exact h2 hc
theorem rr_opt {o0 o : Option α} {k0 k : α → Res β} (h : OO o0 o) (hk : ∀ a, RR X (k0 a) (k a)) : RR X (match (generalizing := false) o0 with
    | some a => k0 a
    | none => .stuck) (match (generalizing := false) o with
    | some a => k a
    | none => .stuck) := by
  cases o0 with
  | none => exact trivial
  | some a =>
    have e := h a rfl
    clear h
    subst e
    exact hk a
theorem oo_bind {o0 o : Option α} {k0 k : α → Option β} (h : OO o0 o) (hk : ∀ a, OO (k0 a) (k a)) : OO (match (generalizing := false) o0 with
    | some a => k0 a
    | none => none) (match (generalizing := false) o with
    | some a => k a
    | none => none) := by
  cases o0 with
  | none => exact oo_none
  | some a =>
    have e := h a rfl
    clear h
    subst e
    exact hk a
end
/-! ### what looks at the store -/
theorem mapM_mono {f0 f : MV → Option PyData} (h : ∀ v, OO (f0 v) (f v)) : ∀ xs : List MV, OO (xs.mapM f0) (xs.mapM f)
  | [] => oo_rfl
  | x :: xs => fun ds e => by
    rw [List.mapM_cons] at e
    cases e1 : f0 x with
    | none => rw [e1] at e; cases e
    | some d =>
      rw [e1] at e
      cases e2 : xs.mapM f0 with
      | none => rw [e2] at e; cases e
      | some t =>
        rw [e2] at e
        rw [List.mapM_cons, h x d e1, mapM_mono h xs t e2]
        exact e
theorem map_mono {α β : Type} {o0 o : Option α} {f : α → β} (h : OO o0 o) : OO (o0.map f) (o.map f) := by
  intro x e
  cases o0 with
  | none => cases e
  | some a => rw [h a rfl]; exact e
theorem m_toD (S : X st0 st) : ∀ (f : Nat) (v : MV), OO (toD st0 f v) (toD st f v)
  | 0, _ => oo_none
  | f + 1, v => by
    cases v with
    | tup xs => exact map_mono (mapM_mono (m_toD S f) xs)
    | scr xs => exact map_mono (mapM_mono (m_toD S f) xs)
    | ref n =>
      show OO (match st0.get n with
        | some (.lst xs) => (xs.mapM (toD st0 f)).map PyData.list
        | _ => none) (match st.get n with
        | some (.lst xs) => (xs.mapM (toD st f)).map PyData.list
        | _ => none)
      rcases x_or S n with h | ⟨_, h⟩
      · rw [h]; exact oo_none
      · rw [h]
        split
        · exact map_mono (mapM_mono (m_toD S f) _)
        · exact oo_none
    | _ => exact oo_rfl
theorem m_toR (S : X st0 st) : ∀ (f : Nat) (v : MV), OO (toR st0 f v) (toR st f v)
  | 0, _ => oo_none
  | f + 1, v => by
    cases v with
    | tup xs => exact map_mono (mapM_mono (m_toR S f) xs)
    | scr xs => exact map_mono (mapM_mono (m_toR S f) xs)
    | ref n =>
      show OO (match st0.get n with
        | some (.lst xs) => (xs.mapM (toR st0 f)).map PyData.list
        | some (.dK []) => some (.dict [])
        | _ => none) (match st.get n with
        | some (.lst xs) => (xs.mapM (toR st f)).map PyData.list
        | some (.dK []) => some (.dict [])
        | _ => none)
      rcases x_or S n with h | ⟨_, h⟩
      · rw [h]; exact oo_none
      · rw [h]
        split
        · exact map_mono (mapM_mono (m_toR S f) _)
        · exact oo_rfl
        · exact oo_none
    | _ => exact oo_rfl
theorem m_toS (S : X st0 st) (v : MV) : OO (toS st0 v) (toS st v) := by
  unfold toS
  cases h : toD st0 66 v with
  | none => exact oo_none
  | some d => rw [m_toD S 66 v d h]; exact oo_rfl
theorem m_seqV (S : X st0 st) (v : MV) : OO (seqV st0 v) (seqV st v) := by
  cases v with
  | ref n => show OO (match st0.get n with
      | some (.lst xs) => some xs
      | _ => none) (match st.get n with
      | some (.lst xs) => some xs
      | _ => none)
             rcases x_or S n with h | ⟨_, h⟩
             · rw [h]; exact oo_none
             · rw [h]; exact oo_rfl
  | _ => exact oo_rfl
theorem m_lstV (S : X st0 st) (v : MV) : OO (lstV st0 v) (lstV st v) := by
  cases v with
  | ref n => show OO (match st0.get n with
      | some (.lst xs) => some xs
      | _ => none) (match st.get n with
      | some (.lst xs) => some xs
      | _ => none)
             rcases x_or S n with h | ⟨_, h⟩
             · rw [h]; exact oo_none
             · rw [h]; exact oo_rfl
  | _ => exact oo_rfl
theorem m_frV (S : X st0 st) (v : MV) : OO (frV st0 v) (frV st v) := by
  cases v with
  | ref n => show OO (match st0.get n with
      | some (.lst xs) => some xs
      | _ => none) (match st.get n with
      | some (.lst xs) => some xs
      | _ => none)
             rcases x_or S n with h | ⟨_, h⟩
             · rw [h]; exact oo_none
             · rw [h]; exact oo_rfl
  | _ => exact oo_rfl
theorem m_newL (S : X st0 st) (xs : List MV) : RR X (newL xs st0) (newL xs st) := by
  unfold newL
  refine rr_ite (fun _ => ?_) fun _ => rr_stuck
  rw [← x_nx S]
  exact rr_ok (x_add S _) _
theorem m_newT (S : X st0 st) (xs : List MV) : RR X (newT xs st0) (newT xs st) := by
  unfold newT
  exact rr_ite (fun _ => rr_ok S _) fun _ => rr_stuck
theorem m_itemS (S : X st0 st) (v : MV) (z : Str) : OO (itemS st0 v z) (itemS st v z) := by
  cases v with
  | ref n => show OO (match st0.get n with
      | some (.lst _) => some false
      | some (.dK _) => some false
      | _ => none) (match st.get n with
      | some (.lst _) => some false
      | some (.dK _) => some false
      | _ => none)
             rcases x_or S n with h | ⟨_, h⟩
             · rw [h]; exact oo_none
             · rw [h]; exact oo_rfl
  | _ => exact oo_rfl
theorem oo_two {α β γ : Type} {a0 a : Option α} {b0 b : Option β} {k : α → β → γ} (h1 : OO a0 a) (h2 : OO b0 b) : OO (match (generalizing := false) a0, b0 with
    | some x, some y => some (k x y)
    | _, _ => none) (match (generalizing := false) a, b with
    | some x, some y => some (k x y)
    | _, _ => none) := by
  cases a0 with
  | none => exact oo_none
  | some x =>
    cases b0 with
    | none => exact oo_none
    | some y =>
      have e1 := h1 x rfl
      have e2 := h2 y rfl
      clear h1 h2
      subst e1
      subst e2
      exact oo_rfl
theorem m_itemsS (S : X st0 st) : ∀ (xs : List MV) (zs : List Str), OO (itemsS st0 xs zs) (itemsS st xs zs)
  | [], [] => oo_rfl
  | [], _ :: _ => oo_rfl
  | _ :: _, [] => oo_rfl
  | x :: xs, z :: zs => by
    show OO (match itemS st0 x z, itemsS st0 xs zs with
      | some a, some b => some (a && b)
      | _, _ => none) (match itemS st x z, itemsS st xs zs with
      | some a, some b => some (a && b)
      | _, _ => none)
    cases h1 : itemS st0 x z with
    | none => exact oo_none
    | some a =>
      cases h2 : itemsS st0 xs zs with
      | none => exact oo_none
      | some b => rw [m_itemS S x z a h1, m_itemsS S xs zs b h2]; exact oo_rfl
theorem m_anyS (S : X st0 st) (xs : List MV) : ∀ zss : List (List Str), OO (anyS st0 xs zss) (anyS st xs zss)
  | [] => oo_rfl
  | z :: zs => by
    show OO (match itemsS st0 xs z, anyS st0 xs zs with
      | some a, some b => some (a || b)
      | _, _ => none) (match itemsS st xs z, anyS st xs zs with
      | some a, some b => some (a || b)
      | _, _ => none)
    cases h1 : itemsS st0 xs z with
    | none => exact oo_none
    | some a =>
      cases h2 : anyS st0 xs zs with
      | none => exact oo_none
      | some b => rw [m_itemsS S xs z a h1, m_anyS S xs zs b h2]; exact oo_rfl
theorem m_anyX (S : X st0 st) (v : MV) : ∀ zs : List Str, OO (anyX st0 v zs) (anyX st v zs)
  | [] => oo_rfl
  | z :: zs => by
    show OO (match itemS st0 v z, anyX st0 v zs with
      | some a, some b => some (a || b)
      | _, _ => none) (match itemS st v z, anyX st v zs with
      | some a, some b => some (a || b)
      | _, _ => none)
    cases h1 : itemS st0 v z with
    | none => exact oo_none
    | some a =>
      cases h2 : anyX st0 v zs with
      | none => exact oo_none
      | some b => rw [m_itemS S v z a h1, m_anyX S v zs b h2]; exact oo_rfl
theorem m_inTS (S : X st0 st) (a b : MV) : OO (inTS a b st0) (inTS a b st) := by
  cases a with
  | tup xs =>
    unfold inTS
    cases h : frV st0 b with
    | none => exact oo_none
    | some items =>
      simp only [m_frV S b items h]
      cases tupsV items with
      | none => exact oo_none
      | some zss => exact m_anyS S xs zss
  | _ => exact oo_none
theorem m_inXS (S : X st0 st) (a b : MV) : OO (inXS a b st0) (inXS a b st) := by
  unfold inXS
  cases h : frV st0 b with
  | none => exact oo_none
  | some items =>
    simp only [m_frV S b items h]
    cases txtsV items with
    | none => exact oo_none
    | some zs => exact m_anyX S a zs
theorem m_dsL (S : X st0 st) (a b : MV) : OO (match toS st0 a, toS st0 b with
      | some d, some (.list ds) => some (ds.any fun e => PyData.eqv e d)
      | _, _ => none) (match toS st a, toS st b with
      | some d, some (.list ds) => some (ds.any fun e => PyData.eqv e d)
      | _, _ => none) := by
  cases h1 : toS st0 a with
  | none => exact oo_none
  | some d =>
    cases h2 : toS st0 b with
    | none => exact oo_none
    | some e => rw [m_toS S a d h1, m_toS S b e h2]; exact oo_rfl
theorem m_dsT (S : X st0 st) (a b : MV) : OO (match toS st0 a, toS st0 b with
      | some d, some (.tuple ds) => some (ds.any fun e => PyData.eqv e d)
      | _, _ => none) (match toS st a, toS st b with
      | some d, some (.tuple ds) => some (ds.any fun e => PyData.eqv e d)
      | _, _ => none) := by
  cases h1 : toS st0 a with
  | none => exact oo_none
  | some d =>
    cases h2 : toS st0 b with
    | none => exact oo_none
    | some e => rw [m_toS S a d h1, m_toS S b e h2]; exact oo_rfl
theorem m_inV (S : X st0 st) (a b : MV) : OO (MP.inV a b st0) (MP.inV a b st) := by
  cases b with
  | str z => exact oo_rfl
  | scr xs => exact m_dsL S a (.scr xs)
  | tup xs => exact m_dsT S a (.tup xs)
  | ref n =>
    show OO (match st0.get n with
      | some (.dK kvs) => (keyV a).map fun k => (kvLook kvs k).isSome
      | some (.lst _) => (match toS st0 a, toS st0 (.ref n) with
        | some d, some (.list ds) => some (ds.any fun e => PyData.eqv e d)
        | _, _ => none)
      | _ => none) (match st.get n with
      | some (.dK kvs) => (keyV a).map fun k => (kvLook kvs k).isSome
      | some (.lst _) => (match toS st a, toS st (.ref n) with
        | some d, some (.list ds) => some (ds.any fun e => PyData.eqv e d)
        | _, _ => none)
      | _ => none)
    rcases x_or S n with h | ⟨_, h⟩
    · rw [h]; exact oo_none
    · rw [h]
      split
      · exact oo_rfl
      · exact m_dsL S a (.ref n)
      · exact oo_none
  | _ => exact oo_none
theorem m_eqV (S : X st0 st) (a b : MV) : OO (MP.eqV a b st0) (MP.eqV a b st) := by
    show OO (match toS st0 a, toS st0 b with
      | some d, some e => some (PyData.eqv d e)
      | _, _ => none) (match toS st a, toS st b with
      | some d, some e => some (PyData.eqv d e)
      | _, _ => none)
    cases h1 : toS st0 a with
    | none => exact oo_none
    | some d =>
      cases h2 : toS st0 b with
      | none => exact oo_none
      | some e => rw [m_toS S _ d h1, m_toS S _ e h2]; exact oo_rfl
theorem m_eqXS (S : X st0 st) (a b : MV) : OO (eqXS st0 a b) (eqXS st a b) := by
  cases b with
  | str z => exact m_itemS S a z
  | _ => exact oo_none
theorem m_eqXT (S : X st0 st) (a b : MV) : OO (eqXT st0 a b) (eqXT st a b) := by
  cases a with
  | tup xs =>
    cases b with
    | tup ys =>
      show OO (match txtsV ys with
        | some zs => itemsS st0 xs zs
        | none => none) (match txtsV ys with
        | some zs => itemsS st xs zs
        | none => none)
      cases txtsV ys with
      | none => exact oo_none
      | some zs => exact m_itemsS S xs zs
    | _ => exact oo_none
  | _ => exact oo_none
theorem oo_orO {a0 a b0 b : Option Bool} (h1 : OO a0 a) (h2 : OO b0 b) (h3 : a0 = none → a = none ∨ b0 = none) : OO (orO a0 b0) (orO a b) := by
  cases a0 with
  | some k =>
    have e := h1 k rfl
    clear h3 h1
    subst e
    exact oo_rfl
  | none =>
    rcases h3 rfl with e | e
    · subst e; exact h2
    · subst e; exact oo_none
theorem itemS_no (S : X st0 st) {v : MV} {z : Str} (h : itemS st0 v z = none) : itemS st v z = none ∨ ∀ f, toD st0 f v = none := by
  cases v with
  | ref n =>
    rcases x_or S n with h1 | ⟨_, h1⟩
    · refine .inr fun f => ?_
      cases f with
      | zero => rfl
      | succ f =>
        show (match st0.get n with
          | some (.lst xs) => (xs.mapM (toD st0 f)).map PyData.list
          | _ => none) = none
        rw [h1]
    · refine .inl ?_
      have h' : (match st0.get n with
        | some (.lst _) => some false
        | some (.dK _) => some false
        | _ => none) = none := h
      show (match st.get n with
        | some (.lst _) => some false
        | some (.dK _) => some false
        | _ => none) = none
      rw [h1]
      exact h'
  | _ => exact .inl h
theorem mapM_no {f : MV → Option PyData} {x : MV} {xs : List MV} (h : f x = none ∨ xs.mapM f = none) : (x :: xs).mapM f = none := by
  rw [List.mapM_cons]
  rcases h with h | h
  · rw [h]; rfl
  · rw [h]
    cases f x <;> rfl
theorem itemsS_no (S : X st0 st) : ∀ {xs : List MV} {zs : List Str}, itemsS st0 xs zs = none → itemsS st xs zs = none ∨ ∀ f, xs.mapM (toD st0 f) = none
  | [], [], h => nomatch h
  | [], _ :: _, h => nomatch h
  | _ :: _, [], h => nomatch h
  | x :: xs, z :: zs, h => by
    have h' : (match itemS st0 x z, itemsS st0 xs zs with
      | some a, some b => some (a && b)
      | _, _ => none) = none := h
    have go : ∀ {b : Option Bool}, itemS st x z = none ∨ itemsS st xs zs = none → itemsS st (x :: xs) (z :: zs) = none := fun {b} e => by
      show (match itemS st x z, itemsS st xs zs with
        | some a, some b => some (a && b)
        | _, _ => none) = none
      rcases e with e | e
      · rw [e]
      · rw [e]; cases itemS st x z <;> rfl
    cases e1 : itemS st0 x z with
    | none =>
      rcases itemS_no S e1 with e | e
      · exact .inl (go (b := none) (.inl e))
      · exact .inr fun f => mapM_no (.inl (e f))
    | some a =>
      cases e2 : itemsS st0 xs zs with
      | none =>
        rcases itemsS_no S e2 with e | e
        · exact .inl (go (b := none) (.inr e))
        · exact .inr fun f => mapM_no (.inr (e f))
      | some b => rw [e1, e2] at h'; cases h'
theorem toS_no {v : MV} (h : ∀ f, toD st0 f v = none) : toS st0 v = none := by
  unfold toS
  rw [h 66]
theorem toD_tup {xs : List MV} (h : ∀ f, xs.mapM (toD st0 f) = none) : ∀ f, toD st0 f (.tup xs) = none := fun f => by
  cases f with
  | zero => rfl
  | succ f =>
    show (xs.mapM (toD st0 f)).map PyData.tuple = none
    rw [h f]; rfl
theorem eqV_no {a b : MV} (h : toS st0 a = none) : MP.eqV a b st0 = none := by
  unfold MP.eqV
  rw [h]
theorem m_eqs (S : X st0 st) (a b : MV) : OO (orO (eqSS a b) (orO (eqT0 a b) (orO (eqXS st0 a b) (orO (eqXT st0 a b) (MP.eqV a b st0))))) (orO (eqSS a b) (orO (eqT0 a b) (orO (eqXS st a b) (orO (eqXT st a b) (MP.eqV a b st))))) := by
  refine oo_orO oo_rfl (oo_orO oo_rfl (oo_orO (m_eqXS S a b) (oo_orO (m_eqXT S a b) (m_eqV S a b) fun h => ?_) fun h => ?_) fun h => .inl h) fun h => .inl h
  · cases a with
    | tup xs =>
      cases b with
      | tup ys =>
        have h' : (match txtsV ys with
          | some zs => itemsS st0 xs zs
          | none => none) = none := h
        cases e : txtsV ys with
        | none =>
          refine .inl ?_
          show (match txtsV ys with
            | some zs => itemsS st xs zs
            | none => none) = none
          rw [e]
        | some zs =>
          rw [e] at h'
          rcases itemsS_no S h' with e2 | e2
          · refine .inl ?_
            show (match txtsV ys with
              | some zs => itemsS st xs zs
              | none => none) = none
            rw [e]; exact e2
          · exact .inr (eqV_no (toS_no (toD_tup e2)))
      | _ => exact .inl rfl
    | _ => exact .inl rfl
  · cases b with
    | str z =>
      rcases itemS_no S (v := a) (z := z) h with e | e
      · exact .inl e
      · refine .inr ?_
        have e1 : eqXT st0 a (.str z) = none := by cases a <;> rfl
        rw [e1]
        exact eqV_no (toS_no e)
    | _ => exact .inl rfl
theorem anyS_no (S : X st0 st) {xs : List MV} : ∀ {zss : List (List Str)}, anyS st0 xs zss = none → zss ≠ [] ∧ (anyS st xs zss = none ∨ ∀ f, xs.mapM (toD st0 f) = none)
  | [], h => nomatch h
  | z :: zs, h => by
    refine ⟨List.cons_ne_nil _ _, ?_⟩
    have h' : (match itemsS st0 xs z, anyS st0 xs zs with
      | some a, some b => some (a || b)
      | _, _ => none) = none := h
    have go : itemsS st xs z = none ∨ anyS st xs zs = none → anyS st xs (z :: zs) = none := fun e => by
      show (match itemsS st xs z, anyS st xs zs with
        | some a, some b => some (a || b)
        | _, _ => none) = none
      rcases e with e | e
      · rw [e]
      · rw [e]; cases itemsS st xs z <;> rfl
    cases e1 : itemsS st0 xs z with
    | none =>
      rcases itemsS_no S e1 with e | e
      · exact .inl (go (.inl e))
      · exact .inr e
    | some a =>
      cases e2 : anyS st0 xs zs with
      | none =>
        rcases (anyS_no S e2).2 with e | e
        · exact .inl (go (.inr e))
        · exact .inr e
      | some b => rw [e1, e2] at h'; cases h'
theorem anyX_no (S : X st0 st) {v : MV} : ∀ {zs : List Str}, anyX st0 v zs = none → anyX st v zs = none ∨ ∀ f, toD st0 f v = none
  | [], h => nomatch h
  | z :: zs, h => by
    have h' : (match itemS st0 v z, anyX st0 v zs with
      | some a, some b => some (a || b)
      | _, _ => none) = none := h
    have go : itemS st v z = none ∨ anyX st v zs = none → anyX st v (z :: zs) = none := fun e => by
      show (match itemS st v z, anyX st v zs with
        | some a, some b => some (a || b)
        | _, _ => none) = none
      rcases e with e | e
      · rw [e]
      · rw [e]; cases itemS st v z <;> rfl
    cases e1 : itemS st0 v z with
    | none =>
      rcases itemS_no S e1 with e | e
      · exact .inl (go (.inl e))
      · exact .inr e
    | some a =>
      cases e2 : anyX st0 v zs with
      | none =>
        rcases anyX_no S e2 with e | e
        · exact .inl (go (.inr e))
        · exact .inr e
      | some b => rw [e1, e2] at h'; cases h'
theorem inV_no {a b : MV} (h : toS st0 a = none) (hb : ∃ items, frV st0 b = some items) : MP.inV a b st0 = none := by
  obtain ⟨items, hb⟩ := hb
  cases b with
  | tup ys =>
    show (match toS st0 a, toS st0 (.tup ys) with
      | some d, some (.tuple ds) => some (ds.any fun e => PyData.eqv e d)
      | _, _ => none) = none
    rw [h]
  | ref n =>
    have hb' : (match st0.get n with
      | some (.lst xs) => some xs
      | _ => none) = some items := hb
    show (match st0.get n with
      | some (.dK kvs) => (keyV a).map fun k => (kvLook kvs k).isSome
      | some (.lst _) => (match toS st0 a, toS st0 (.ref n) with
        | some d, some (.list ds) => some (ds.any fun e => PyData.eqv e d)
        | _, _ => none)
      | _ => none) = none
    cases e : st0.get n with
    | none => rfl
    | some o =>
      rw [e] at hb'
      cases o with
      | lst xs => show (match toS st0 a, toS st0 (.ref n) with
        | some d, some (.list ds) => some (ds.any fun e => PyData.eqv e d)
        | _, _ => none) = none
                  rw [h]
      | _ => cases hb'
  | _ => cases hb
/-- nothing stands there: nothing is in it -/
theorem fr_no (S : X st0 st) {b : MV} (h : frV st0 b = none) : frV st b = none ∨ ∀ a, MP.inV a b st0 = none := by
  cases b with
  | ref n =>
    rcases x_or S n with h1 | ⟨_, h1⟩
    · refine .inr fun a => ?_
      show (match st0.get n with
        | some (.dK kvs) => (keyV a).map fun k => (kvLook kvs k).isSome
        | some (.lst _) => (match toS st0 a, toS st0 (.ref n) with
          | some d, some (.list ds) => some (ds.any fun e => PyData.eqv e d)
          | _, _ => none)
        | _ => none) = none
      rw [h1]
    · refine .inl ?_
      have h' : (match st0.get n with
        | some (.lst xs) => some xs
        | _ => none) = none := h
      show (match st.get n with
        | some (.lst xs) => some xs
        | _ => none) = none
      rw [h1]
      exact h'
  | _ => exact .inl h
theorem m_ins (S : X st0 st) (a b : MV) : OO (orO (inTS a b st0) (orO (inXS a b st0) (MP.inV a b st0))) (orO (inTS a b st) (orO (inXS a b st) (MP.inV a b st))) := by
  refine oo_orO (m_inTS S a b) (oo_orO (m_inXS S a b) (m_inV S a b) fun h => ?_) fun h => ?_
  · cases hf : frV st0 b with
    | none =>
      rcases fr_no S hf with e | e
      · refine .inl ?_
        unfold inXS
        rw [e]
      · exact .inr (e a)
    | some items =>
      have hf2 := m_frV S b items hf
      unfold inXS at h
      rw [hf] at h
      cases ht : txtsV items with
      | none =>
        refine .inl ?_
        unfold inXS
        rw [hf2]
        simp only [ht]
      | some zs =>
        simp only [ht] at h
        rcases anyX_no S h with e | e
        · refine .inl ?_
          unfold inXS
          rw [hf2]
          simp only [ht]
          exact e
        · exact .inr (inV_no (toS_no e) ⟨items, hf⟩)
  · cases a with
    | tup xs =>
      cases hf : frV st0 b with
      | none =>
        rcases fr_no S hf with e | e
        · refine .inl ?_
          show (match frV st b with
            | some items => match tupsV items with
              | some zss => anyS st xs zss
              | none => none
            | none => none) = none
          rw [e]
        · refine .inr ?_
          have e2 : inXS (.tup xs) b st0 = none := by
            unfold inXS
            rw [hf]
          rw [e2]
          show MP.inV (.tup xs) b st0 = none
          exact e _
      | some items =>
        have hf2 := m_frV S b items hf
        have h' : (match frV st0 b with
            | some items => match tupsV items with
              | some zss => anyS st0 xs zss
              | none => none
            | none => none) = none := h
        rw [hf] at h'
        cases ht : tupsV items with
        | none =>
          refine .inl ?_
          show (match frV st b with
            | some items => match tupsV items with
              | some zss => anyS st xs zss
              | none => none
            | none => none) = none
          rw [hf2]
          simp only [ht]
        | some zss =>
          simp only [ht] at h'
          obtain ⟨hz, e⟩ := anyS_no S h'
          rcases e with e | e
          · refine .inl ?_
            show (match frV st b with
              | some items => match tupsV items with
                | some zss => anyS st xs zss
                | none => none
              | none => none) = none
            rw [hf2]
            simp only [ht]
            exact e
          · refine .inr ?_
            have e2 : inXS (.tup xs) b st0 = none := by
              unfold inXS
              rw [hf]
              cases items with
              | nil => cases ht; exact absurd rfl hz
              | cons i is =>
                cases i with
                | tup ys => rfl
                | _ => cases ht
            rw [e2]
            exact inV_no (toS_no (toD_tup e)) ⟨items, hf⟩
    | _ => exact .inl rfl
theorem rr_okB (S : X st0 st) {o0 o : Option Bool} {f : Bool → Bool} (h : OO o0 o) : RR X (okB o0 f st0) (okB o f st) := by
  cases o0 with
  | none => exact rr_stuck
  | some k => rw [h k rfl]; exact rr_ok S _
theorem m_cmpV (S : X st0 st) (op : COp) (a b : MV) : RR X (cmpV op a b st0) (cmpV op a b st) := by
  cases op with
  | eq => exact rr_okB S (m_eqs S a b)
  | ne => exact rr_okB S (oo_orO oo_rfl (m_eqV S a b) fun h => .inl h)
  | isin => exact rr_okB S (m_ins S a b)
  | notin => exact rr_okB S (m_inV S a b)
  | _ => cases a <;> cases b <;> first | exact rr_stuck | exact rr_ok S _
theorem m_cmpLV (S : X st0 st) (op : COp) (xs ys : List MV) : RR X (cmpLV op xs ys st0) (cmpLV op xs ys st) := by
  unfold cmpLV
  cases h1 : toS st0 (.scr xs) with
  | none => exact rr_stuck
  | some d =>
    cases h2 : toS st0 (.scr ys) with
    | none => exact rr_stuck
    | some e =>
      rw [m_toS S _ d h1, m_toS S _ e h2]
      cases op <;> first | exact rr_stuck | exact rr_ok S _
end MP

set_option Elab.async false
set_option linter.all false
set_option maxRecDepth 100000
set_option maxHeartbeats 4000000
namespace MP
open PySem L2
variable {X : Store → Store → Prop} [SR X] {st0 st : Store}
theorem m_binV (S : X st0 st) (op : BOp) (a b : MV) : RR X (binV op a b st0) (binV op a b st) := by
  cases a with
  | ref n =>
    cases b with
    | ref m =>
      cases op with
      | add =>
        show RR X (match st0.get n, st0.get m with
          | some (.lst xs), some (.lst ys) => newL (xs ++ ys) st0
          | _, _ => .stuck) (match st.get n, st.get m with
          | some (.lst xs), some (.lst ys) => newL (xs ++ ys) st
          | _, _ => .stuck)
        rcases x_or S n with h | ⟨_, h⟩
        · rw [h]; exact rr_stuck
        · rw [h]
          rcases x_or S m with h2 | ⟨_, h2⟩
          · rw [h2]
            cases st0.get n with
            | none => exact rr_stuck
            | some o => cases o <;> exact rr_stuck
          · rw [h2]
            split
            · exact m_newL S _
            · exact rr_stuck
      | _ => exact rr_stuck
    | _ => cases op <;> exact rr_stuck
  | _ => cases b <;> cases op <;> first | exact rr_stuck | exact rr_ok S _ | exact rr_ite (fun _ => rr_ok S _) (fun _ => rr_stuck)
theorem m_ok_at (S : X st0 st) (o : Option MV) : RR X (match o with
    | some v => .ok v st0
    | none => .stuck) (match o with
    | some v => .ok v st
    | none => .stuck) := by
  cases o with
  | none => exact rr_stuck
  | some v => exact rr_ok S v
theorem m_idxV (S : X st0 st) (a i : MV) : RR X (idxV a i st0) (idxV a i st) := by
  cases a with
  | tup xs => cases i <;> first | exact rr_stuck | exact m_ok_at S _
  | scr xs => cases i <;> first | exact rr_stuck | exact m_ok_at S _
  | str z =>
    cases i with
    | int k =>
      show RR X (if z.length ≤ sizeLine then (match atI z.cps.toList k with
        | some c => Res.ok (MV.str ⟨#[c]⟩) st0
        | none => .stuck) else .stuck) (if z.length ≤ sizeLine then (match atI z.cps.toList k with
        | some c => Res.ok (MV.str ⟨#[c]⟩) st
        | none => .stuck) else .stuck)
      refine rr_ite (fun _ => ?_) fun _ => rr_stuck
      cases atI z.cps.toList k with
      | none => exact rr_stuck
      | some c => exact rr_ok S _
    | _ => exact rr_stuck
  | ref n =>
    unfold idxV
    rcases x_or S n with h | ⟨_, h⟩
    · simp only [h]; exact rr_stuck
    · simp only [h]
      cases st0.get n with
      | none => exact rr_stuck
      | some o =>
        cases o with
        | lst xs => cases i <;> first | exact rr_stuck | exact m_ok_at S _
        | dK kvs =>
          show RR X (match keyV i with
            | some q => match kvLook kvs q with
              | some v => .ok v st0
              | none => .stuck
            | none => .stuck) (match keyV i with
            | some q => match kvLook kvs q with
              | some v => .ok v st
              | none => .stuck
            | none => .stuck)
          cases keyV i with
          | none => exact rr_stuck
          | some q => exact m_ok_at S _
        | dF kvs =>
          show RR X (match keyV i with
            | some q => match kvLook kvs q with
              | some v => .ok v st0
              | none => .stuck
            | none => .stuck) (match keyV i with
            | some q => match kvLook kvs q with
              | some v => .ok v st
              | none => .stuck
            | none => .stuck)
          cases keyV i with
          | none => exact rr_stuck
          | some q => exact m_ok_at S _
        | ins c fs => exact rr_stuck
  | _ => exact rr_stuck
theorem m_slcV (S : X st0 st) (a : MV) (lo hi : Option Int) : RR X (slcV a lo hi st0) (slcV a lo hi st) := by
  cases a with
  | tup xs => exact rr_ok S _
  | scr xs => exact m_newL S _
  | ref n =>
    show RR X (match st0.get n with
      | some (.lst xs) => newL (cut xs lo hi) st0
      | _ => .stuck) (match st.get n with
      | some (.lst xs) => newL (cut xs lo hi) st
      | _ => .stuck)
    rcases x_or S n with h | ⟨_, h⟩
    · rw [h]; exact rr_stuck
    · rw [h]
      split
      · exact m_newL S _
      · exact rr_stuck
  | _ => exact rr_stuck
theorem m_truV (S : X st0 st) (v : MV) : OO (truV v st0) (truV v st) := by
  cases v with
  | ref n =>
    show OO (match st0.get n with
      | some (.lst xs) => some (!xs.isEmpty)
      | some (.dK kvs) => some (!kvs.isEmpty)
      | _ => none) (match st.get n with
      | some (.lst xs) => some (!xs.isEmpty)
      | some (.dK kvs) => some (!kvs.isEmpty)
      | _ => none)
    rcases x_or S n with h | ⟨_, h⟩
    · rw [h]; exact oo_none
    · rw [h]; exact oo_rfl
  | _ => exact oo_rfl
theorem m_isT (S : X st0 st) (v : MV) (t : TN) : OO (isT st0 v t) (isT st v t) := by
  cases v with
  | ref n =>
    unfold isT
    rcases x_or S n with h | ⟨_, h⟩
    · simp only [h]; exact oo_none
    · simp only [h]; exact oo_rfl
  | _ => exact oo_rfl
theorem m_isTs (S : X st0 st) (v : MV) : ∀ ts : List TN, OO (isTs st0 v ts) (isTs st v ts)
  | [] => oo_rfl
  | t :: ts => by
    unfold isTs
    cases h : isT st0 v t with
    | none => exact oo_none
    | some k =>
      rw [m_isT S v t k h]
      cases k with
      | true => exact oo_rfl
      | false => exact m_isTs S v ts
theorem m_biV (S : X st0 st) (b : BI) (vs : List MV) : RR X (biV b vs st0) (biV b vs st) := by
  cases b with
  | len =>
    match vs with
    | [] => exact rr_stuck
    | a :: b :: r => first | exact rr_stuck | (cases a <;> exact rr_stuck) | (cases a <;> cases b <;> exact rr_stuck)
    | [v] =>
      cases v with
      | str z => exact rr_ite (fun _ => rr_ok S _) fun _ => rr_stuck
      | tup xs => exact rr_ok S _
      | scr xs => exact rr_ok S _
      | ref n =>
        unfold biV
        rcases x_or S n with h | ⟨_, h⟩
        · simp only [h]; exact rr_stuck
        · simp only [h]
          cases st0.get n with
          | none => exact rr_stuck
          | some o => cases o <;> first | exact rr_stuck | exact rr_ok S _
      | _ => exact rr_stuck
  | lens =>
    match vs with
    | [] => exact rr_stuck
    | a :: b :: r => first | exact rr_stuck | (cases a <;> exact rr_stuck) | (cases a <;> cases b <;> exact rr_stuck)
    | [v] =>
      cases v with
      | tup xs =>
        unfold biV
        simp only []
        cases txtsV xs with
        | none => exact rr_stuck
        | some zs => exact rr_ite (fun _ => rr_ok S _) fun _ => rr_stuck
      | _ => exact rr_stuck
  | list =>
    match vs with
    | [] => exact rr_stuck
    | a :: b :: r => first | exact rr_stuck | (cases a <;> exact rr_stuck) | (cases a <;> cases b <;> exact rr_stuck)
    | [v] =>
      show RR X (match seqV st0 v with
        | some xs => newL xs st0
        | none => .stuck) (match seqV st v with
        | some xs => newL xs st
        | none => .stuck)
      cases h : seqV st0 v with
      | none => exact rr_stuck
      | some xs => rw [m_seqV S v xs h]; exact m_newL S xs
  | tuple =>
    match vs with
    | [] => exact rr_stuck
    | a :: b :: r => first | exact rr_stuck | (cases a <;> exact rr_stuck) | (cases a <;> cases b <;> exact rr_stuck)
    | [v] =>
      have gen : RR X (match lstV st0 v with
        | some xs => newT xs st0
        | none => .stuck) (match lstV st v with
        | some xs => newT xs st
        | none => .stuck) := by
        cases h : lstV st0 v with
        | none => exact rr_stuck
        | some xs => rw [m_lstV S v xs h]; exact m_newT S xs
      cases v with
      | tup xs => exact rr_ok S _
      | _ => exact gen
  | repr =>
    match vs with
    | [] => exact rr_stuck
    | a :: b :: r => first | exact rr_stuck | (cases a <;> exact rr_stuck) | (cases a <;> cases b <;> exact rr_stuck)
    | [v] =>
      show RR X (match toR st0 66 v with
        | some d => if d.showable = true ∧ d.shown.length ≤ sizeLine ∧ d.depth ≤ 64 then Res.ok (MV.str d.shown) st0 else .stuck
        | none => .stuck) (match toR st 66 v with
        | some d => if d.showable = true ∧ d.shown.length ≤ sizeLine ∧ d.depth ≤ 64 then Res.ok (MV.str d.shown) st else .stuck
        | none => .stuck)
      cases h : toR st0 66 v with
      | none => exact rr_stuck
      | some d => rw [m_toR S 66 v d h]; exact rr_ite (fun _ => rr_ok S _) fun _ => rr_stuck
  | isi ts =>
    match vs with
    | [] => exact rr_stuck
    | a :: b :: r => first | exact rr_stuck | (cases a <;> exact rr_stuck) | (cases a <;> cases b <;> exact rr_stuck)
    | [v] =>
      show RR X (match isTs st0 v ts with
        | some k => Res.ok (MV.bl k) st0
        | none => .stuck) (match isTs st v ts with
        | some k => Res.ok (MV.bl k) st
        | none => .stuck)
      cases h : isTs st0 v ts with
      | none => exact rr_stuck
      | some k => rw [m_isTs S v ts k h]; exact rr_ok S _
  | abs =>
    match vs with
    | [] => exact rr_stuck
    | a :: b :: r => first | exact rr_stuck | (cases a <;> exact rr_stuck) | (cases a <;> cases b <;> exact rr_stuck)
    | [v] => cases v <;> first | exact rr_stuck | exact rr_ok S _
  | int =>
    match vs with
    | [] => exact rr_stuck
    | a :: b :: r => first | exact rr_stuck | (cases a <;> exact rr_stuck) | (cases a <;> cases b <;> exact rr_stuck)
    | [v] => cases v <;> first | exact rr_stuck | exact rr_ok S _
  | str =>
    match vs with
    | [] => exact rr_stuck
    | a :: b :: r => first | exact rr_stuck | (cases a <;> exact rr_stuck) | (cases a <;> cases b <;> exact rr_stuck)
    | [v] => cases v <;> first | exact rr_stuck | exact rr_ite (fun _ => rr_ok S _) (fun _ => rr_stuck)
  | max2 =>
    match vs with
    | [] => exact rr_stuck
    | [a] => first | exact rr_stuck | (cases a <;> exact rr_stuck)
    | a :: b :: c :: r => first | exact rr_stuck | (cases a <;> exact rr_stuck) | (cases a <;> cases b <;> exact rr_stuck)
    | [v, u] => cases v <;> cases u <;> first | exact rr_stuck | exact rr_ok S _
  | min2 =>
    match vs with
    | [] => exact rr_stuck
    | [a] => first | exact rr_stuck | (cases a <;> exact rr_stuck)
    | a :: b :: c :: r => first | exact rr_stuck | (cases a <;> exact rr_stuck) | (cases a <;> cases b <;> exact rr_stuck)
    | [v, u] => cases v <;> cases u <;> first | exact rr_stuck | exact rr_ok S _
theorem m_methV (S : X st0 st) (m : Mt) (o : MV) (vs : List MV) : RR X (methV m o vs st0) (methV m o vs st) := by
  unfold methV
  split
  · rename_i n
    rcases x_or S n with h | ⟨hn, h⟩
    · simp only [h]; exact rr_stuck
    · simp only [h]
      cases st0.get n with
      | none => exact rr_stuck
      | some o =>
        cases o with
        | lst xs =>
          simp only []
          cases xs[xs.length - 1]? with
          | none => exact rr_stuck
          | some v => exact rr_ok (x_set S hn _) _
        | _ => exact rr_stuck
  · rename_i n v
    rcases x_or S n with h | ⟨hn, h⟩
    · simp only [h]; exact rr_stuck
    · simp only [h]
      cases st0.get n with
      | none => exact rr_stuck
      | some o =>
        cases o with
        | lst xs => exact rr_ite (fun _ => rr_ok (x_set S hn _) _) fun _ => rr_stuck
        | _ => exact rr_stuck
  · exact rr_stuck
theorem m_insV (S : X st0 st) (v : MV) : OO (insV st0 v) (insV st v) := by
  cases v with
  | ref n =>
    show OO (match st0.get n with
      | some (.ins c fs) => some (c, fs)
      | _ => none) (match st.get n with
      | some (.ins c fs) => some (c, fs)
      | _ => none)
    rcases x_or S n with h | ⟨_, h⟩
    · rw [h]; exact oo_none
    · rw [h]; exact oo_rfl
  | _ => exact oo_none
theorem m_fldV (S : X st0 st) (cs : List Nat) (f : Str) (x : MV) : RR X (fldV cs f x st0) (fldV cs f x st) := by
  unfold fldV
  cases h : insV st0 x with
  | none => exact rr_stuck
  | some q =>
    obtain ⟨c, fs⟩ := q
    rw [m_insV S x _ h]
    exact rr_ite (fun _ => m_ok_at S _) fun _ => rr_stuck
theorem m_methF (S : X st0 st) (m : Str) (tab : List (Nat × Nat)) (x : MV) : OO (methF m tab x st0) (methF m tab x st) := by
  unfold methF
  cases h : insV st0 x with
  | none => exact oo_none
  | some q => rw [m_insV S x _ h]; exact oo_rfl
/-- a written store -/
def OS (X : Store → Store → Prop) (o0 o : Option Store) : Prop := ∀ s0, o0 = some s0 → ∃ s, o = some s ∧ X s0 s
theorem os_none {o : Option Store} : OS X none o := fun _ h => nomatch h
theorem os_some (S : X st0 st) : OS X (some st0) (some st) := fun _ h => by cases h; exact ⟨_, rfl, S⟩
theorem os_ite {c : Prop} [Decidable c] {a0 a : Option Store} (h : OS X a0 a) : OS X (if c then a0 else none) (if c then a else none) := by
  split
  · exact h
  · exact os_none
theorem m_setFV (S : X st0 st) (cs : List Nat) (f : Str) (x v : MV) : OS X (setFV cs f x v st0) (setFV cs f x v st) := by
  cases x with
  | ref n =>
    unfold setFV
    rcases x_or S n with h | ⟨hn, h⟩
    · simp only [h]; exact os_none
    · simp only [h]
      cases st0.get n with
      | none => exact os_none
      | some o =>
        cases o with
        | ins c fs => exact os_ite (os_some (x_set S hn _))
        | _ => exact os_none
  | _ => exact os_none
theorem m_putO (S : X st0 st) {n : Nat} (hn : SR.G X st0 st n) (ob : MO) (i v : MV) : OS X (putO ob n i v st0) (putO ob n i v st) := by
  cases ob with
  | lst xs =>
    cases i with
    | int k =>
      show OS X (match ixN xs.length k with
        | some j => some (st0.set n (.lst (xs.set j v)))
        | none => none) (match ixN xs.length k with
        | some j => some (st.set n (.lst (xs.set j v)))
        | none => none)
      cases ixN xs.length k with
      | none => exact os_none
      | some j => exact os_some (x_set S hn _)
    | _ => exact os_none
  | dK kvs =>
    have gen : OS X (match keyV i with
      | some q => if kvs.length < sizeLine then some (st0.set n (.dK (kvPut kvs q v))) else none
      | none => none) (match keyV i with
      | some q => if kvs.length < sizeLine then some (st.set n (.dK (kvPut kvs q v))) else none
      | none => none) := by
      cases keyV i with
      | none => exact os_none
      | some q => exact os_ite (os_some (x_set S hn _))
    cases i <;> exact gen
  | _ => cases i <;> exact os_none
theorem m_putV (S : X st0 st) (o i v : MV) : OS X (putV o i v st0) (putV o i v st) := by
  cases o with
  | ref n =>
    unfold putV
    rcases x_or S n with h | ⟨hn, h⟩
    · simp only [h]; exact os_none
    · simp only [h]
      cases st0.get n with
      | none => exact os_none
      | some ob => exact m_putO S hn ob i v
  | _ => exact os_none
theorem m_next (S : X st0 st) (w : Itv) : OO (w.next st0) (w.next st) := by
  cases w with
  | snap xs => cases xs <;> exact oo_rfl
  | live n i =>
    unfold Itv.next
    rcases x_or S n with h | ⟨_, h⟩
    · simp only [h]; exact oo_none
    · simp only [h]; exact oo_rfl
  | enum n i =>
    unfold Itv.next
    rcases x_or S n with h | ⟨_, h⟩
    · simp only [h]; exact oo_none
    · simp only [h]; exact oo_rfl
theorem m_unlock {α : Type} (S : X st0 st) (n : Nat) (r : α) : RR X (unlockV n r st0) (unlockV n r st) := by
  unfold unlockV
  rcases x_or S n with h | ⟨hn, h⟩
  · simp only [h]; exact rr_stuck
  · simp only [h]
    cases st0.get n with
    | none => exact rr_stuck
    | some o =>
      cases o with
      | dF kvs => exact rr_ok (x_set S hn _) _
      | _ => exact rr_stuck
theorem m_isLst (S : X st0 st) (v : MV) (h : isLst st0 v = true) : isLst st v = true := by
  cases v with
  | ref n =>
    have h' : (match st0.get n with
      | some (.lst _) => true
      | _ => false) = true := h
    show (match st.get n with
      | some (.lst _) => true
      | _ => false) = true
    rcases x_or S n with e | ⟨_, e⟩
    · rw [e] at h'; cases h'
    · rw [e]; exact h'
  | _ => cases h
end MP

set_option Elab.async false
set_option linter.all false
set_option maxRecDepth 100000
set_option maxHeartbeats 4000000
namespace MP
open PySem L2
variable {X : Store → Store → Prop} [SR X] {st0 st : Store}
/-- an evaluator that reads only what it can -/
structure Mo (X : Store → Store → Prop) (R0 R : Ev) : Prop where
  e : ∀ m env {st0 st}, X st0 st → RR X (R0.e m env st0) (R.e m env st)
  t : ∀ m env {st0 st}, X st0 st → RR X (R0.t m env st0) (R.t m env st)
  a : ∀ m env {st0 st}, X st0 st → RR X (R0.a m env st0) (R.a m env st)
  p : ∀ m env {st0 st}, X st0 st → RR X (R0.p m env st0) (R.p m env st)
  o : ∀ m env {st0 st}, X st0 st → RR X (R0.o m env st0) (R.o m env st)
  l : ∀ m env {st0 st}, X st0 st → RR X (R0.l m env st0) (R.l m env st)
  i : ∀ m env {st0 st}, X st0 st → RR X (R0.i m env st0) (R.i m env st)
  ts : ∀ m env {st0 st}, X st0 st → RR X (R0.ts m env st0) (R.ts m env st)
  f : ∀ w tg b env {st0 st}, X st0 st → RR X (R0.f w tg b env st0) (R.f w tg b env st)
  g : ∀ w tg c el env acc {st0 st}, X st0 st → RR X (R0.g w tg c el env acc st0) (R.g w tg c el env acc st)
  s : ∀ m env {st0 st}, X st0 st → RR X (R0.s m env st0) (R.s m env st)
  b : ∀ m env {st0 st}, X st0 st → RR X (R0.b m env st0) (R.b m env st)
theorem mo_none {R : Ev} : Mo X Ev.none R := ⟨fun _ _ _ _ _ => rr_stuck, fun _ _ _ _ _ => rr_stuck, fun _ _ _ _ _ => rr_stuck, fun _ _ _ _ _ => rr_stuck, fun _ _ _ _ _ => rr_stuck, fun _ _ _ _ _ => rr_stuck, fun _ _ _ _ _ => rr_stuck, fun _ _ _ _ _ => rr_stuck, fun _ _ _ _ _ _ _ => rr_stuck, fun _ _ _ _ _ _ _ _ _ => rr_stuck, fun _ _ _ _ _ => rr_stuck, fun _ _ _ _ _ => rr_stuck⟩
theorem m_callB {R0 R : Ev} (h : Mo X R0 R) (S : X st0 st) (fn : MFn) (vs : List MV) : RR X (callB R0 fn vs st0) (callB R fn vs st) := by
  unfold callB
  refine rr_ite (fun _ => rr_bind (h.b _ _ S) fun r s0 s S => ?_) fun _ => rr_stuck
  obtain ⟨fl, env⟩ := r
  cases fl <;> first | exact rr_stuck | exact rr_ok S _
section
variable {Γ : Tab} {R0 R : Nat → Ev} (h : ∀ d, Mo X (R0 d) (R d))
include h
theorem m_stepE (d : Nat) (m : ME) (env : Env) (S : X st0 st) : RR X (stepE Γ R0 d m env st0) (stepE Γ R d m env st) := by
  cases m with
  | var i =>
    show RR X (match env[i]? with
      | some (some v) => .ok v st0
      | _ => .stuck) (match env[i]? with
      | some (some v) => .ok v st
      | _ => .stuck)
    split
    · exact rr_ok S _
    · exact rr_stuck
  | lit v => exact rr_ok S _
  | bin op a b => exact rr_bind ((h d).e _ _ S) fun x s0 s S => rr_bind ((h d).e _ _ S) fun y s0 s S => m_binV S op x y
  | cmp op a b => exact rr_bind ((h d).e _ _ S) fun x s0 s S => rr_bind ((h d).e _ _ S) fun y s0 s S => m_cmpV S op x y
  | cmpL op a b => exact rr_bind ((h d).l _ _ S) fun x s0 s S => rr_bind ((h d).l _ _ S) fun y s0 s S => m_cmpLV S op x y
  | isN neg a =>
    exact rr_bind ((h d).e _ _ S) fun x s0 s S => by cases x <;> exact rr_ok S _
  | isB c neg a =>
    exact rr_bind ((h d).e _ _ S) fun x s0 s S => by cases x <;> first | exact rr_stuck | exact rr_ok S _
  | and a b =>
    exact rr_bind ((h d).e _ _ S) fun x s0 s S => by
      cases x with
      | bl k => cases k with
        | true => exact (h d).e _ _ S
        | false => exact rr_ok S _
      | _ => exact rr_stuck
  | or a b =>
    exact rr_bind ((h d).e _ _ S) fun x s0 s S => by
      cases x with
      | bl k => cases k with
        | false => exact (h d).e _ _ S
        | true => exact rr_ok S _
      | _ => exact rr_stuck
  | not a => exact rr_bind ((h d).t _ _ S) fun x s0 s S => rr_ok S _
  | ifx c a b => exact rr_bind ((h d).t _ _ S) fun x s0 s S => rr_ite (fun _ => (h d).e _ _ S) fun _ => (h d).e _ _ S
  | idx a i => exact rr_bind ((h d).e _ _ S) fun x s0 s S => rr_bind ((h d).e _ _ S) fun y s0 s S => m_idxV S x y
  | slc a lo hi => exact rr_bind ((h d).e _ _ S) fun x s0 s S => rr_bind ((h d).o _ _ S) fun y s0 s S => rr_bind ((h d).o _ _ S) fun z s0 s S => m_slcV S x y z
  | tupD es => exact rr_bind ((h d).a _ _ S) fun x s0 s S => m_newT S x
  | mk e => exact rr_bind ((h d).l _ _ S) fun x s0 s S => m_newL S x
  | dicD kvs =>
    exact rr_ite (fun _ => rr_bind ((h d).p _ _ S) fun x s0 s S => by
      cases kvsV x with
      | none => exact rr_stuck
      | some q => show RR X (Res.ok (MV.ref s0.next) (s0.add (.dK (kvMerge [] q)))) (Res.ok (MV.ref s.next) (s.add (.dK (kvMerge [] q))))
                  rw [← x_nx S]
                  exact rr_ok (x_add S _) _) fun _ => rr_stuck
  | call f args =>
    exact rr_bind ((h d).a _ _ S) fun x s0 s S => by
      cases Γ f with
      | none => exact rr_stuck
      | some fn => cases d with
        | zero => exact rr_stuck
        | succ d => exact m_callB (h d) S fn x
  | bi b args => exact rr_bind ((h d).a _ _ S) fun x s0 s S => m_biV S b x
  | all e =>
    exact rr_bind ((h d).l _ _ S) fun x s0 s S => by
      cases blsV x with
      | none => exact rr_stuck
      | some q => exact rr_ok S _
  | any e =>
    exact rr_bind ((h d).l _ _ S) fun x s0 s S => by
      cases blsV x with
      | none => exact rr_stuck
      | some q => exact rr_ok S _
  | join a b =>
    exact rr_bind ((h d).e _ _ S) fun x s0 s S => rr_bind ((h d).l _ _ S) fun y s0 s S => by
      cases x with
      | str z =>
        show RR X (match MV.str z, strsV y with
          | .str a, some ys => if (ys.map (·.length)).sum + ys.length * a.length ≤ 16777216 then Res.ok (MV.str (Txt.join a ys)) s0 else .stuck
          | _, _ => .stuck) (match MV.str z, strsV y with
          | .str a, some ys => if (ys.map (·.length)).sum + ys.length * a.length ≤ 16777216 then Res.ok (MV.str (Txt.join a ys)) s else .stuck
          | _, _ => .stuck)
        cases strsV y with
        | none => exact rr_stuck
        | some ys => exact rr_ite (fun _ => rr_ok S _) fun _ => rr_stuck
      | _ => exact rr_stuck
  | tupL e => exact rr_bind ((h d).l _ _ S) fun x s0 s S => m_newT S x
  | neg a =>
    exact rr_bind ((h d).e _ _ S) fun x s0 s S => by cases x <;> first | exact rr_stuck | exact rr_ok S _
  | meth m o args =>
    exact rr_bind ((h d).e _ _ S) fun x s0 s S => by
      by_cases hl : isLst s0 x = true
      · rw [if_pos hl, if_pos (m_isLst S x hl)]
        exact rr_bind ((h d).a _ _ S) fun y s0 s S => m_methV S m x y
      · rw [if_neg hl]; exact rr_stuck
  | fld cs o f => exact rr_bind ((h d).e _ _ S) fun x s0 s S => m_fldV S cs f x
  | mcall o m tab args =>
    exact rr_bind ((h d).e _ _ S) fun x s0 s S => by
      cases hm : methF m tab x s0 with
      | none => exact rr_stuck
      | some f =>
        rw [m_methF S m tab x f hm]
        exact rr_bind ((h d).a _ _ S) fun y s0 s S => by
          cases Γ f with
          | none => exact rr_stuck
          | some fn => cases d with
            | zero => exact rr_stuck
            | succ d => exact m_callB (h d) S fn _
  | new c f args =>
    exact rr_bind ((h d).a _ _ S) fun x s0 s S => by
      cases Γ f with
      | none => exact rr_stuck
      | some fn => match d with
        | 0 => exact rr_stuck
        | 1 => exact rr_stuck
        | d + 2 =>
          have e := x_nx S
          show RR X ((callB (R0 d) fn (.ref s0.next :: x) (s0.add (.ins c []))).bind fun r st' => (match r with
            | .non => Res.ok (MV.ref s0.next) st'
            | _ => .stuck)) ((callB (R d) fn (.ref s.next :: x) (s.add (.ins c []))).bind fun r st' => (match r with
            | .non => Res.ok (MV.ref s.next) st'
            | _ => .stuck))
          rw [← e]
          exact rr_bind (m_callB (h d) (x_add S _) fn _) fun y s0 s S => by cases y <;> first | exact rr_stuck | exact rr_ok S _
  | chain o o' a b c =>
    exact rr_bind ((h d).e _ _ S) fun x s0 s S => rr_bind ((h d).e _ _ S) fun y s0 s S => rr_bind (m_cmpV S o x y) fun k s0 s S => by
      cases k with
      | bl k => cases k with
        | true => exact rr_bind ((h d).e _ _ S) fun z s0 s S => m_cmpV S o' y z
        | false => exact rr_ok S _
      | _ => exact rr_stuck
  | lstD es => exact rr_stuck
  | comp _ _ _ _ _ => exact rr_stuck
  | compK _ _ _ _ _ => exact rr_stuck
end
theorem m_stepT {R0 R : Ev} (h : Mo X R0 R) (m : ME) (env : Env) (S : X st0 st) : RR X (stepT R0 m env st0) (stepT R m env st) := by
  have gen : RR X ((R0.e m env st0).bind fun v st => match truV v st with
    | some k => .ok k st
    | none => .stuck) ((R.e m env st).bind fun v st => match truV v st with
    | some k => .ok k st
    | none => .stuck) := rr_bind (h.e _ _ S) fun v s0 s S => by
      cases e : truV v s0 with
      | none => exact rr_stuck
      | some k => rw [m_truV S v k e]; exact rr_ok S _
  cases m with
  | and a b => exact rr_bind (h.t _ _ S) fun k s0 s S => rr_ite (fun _ => h.t _ _ S) fun _ => rr_ok S _
  | or a b => exact rr_bind (h.t _ _ S) fun k s0 s S => rr_ite (fun _ => rr_ok S _) fun _ => h.t _ _ S
  | not a => exact rr_bind (h.t _ _ S) fun k s0 s S => rr_ok S _
  | _ => exact gen
theorem m_stepL {R0 R : Ev} (h : Mo X R0 R) (m : ME) (env : Env) (S : X st0 st) : RR X (stepL R0 m env st0) (stepL R m env st) := by
  have gen : RR X ((R0.e m env st0).bind fun v st => match lstV st v with
    | some xs => .ok xs st
    | none => .stuck) ((R.e m env st).bind fun v st => match lstV st v with
    | some xs => .ok xs st
    | none => .stuck) := rr_bind (h.e _ _ S) fun v s0 s S => by
      cases e : lstV s0 v with
      | none => exact rr_stuck
      | some k => rw [m_lstV S v k e]; exact rr_ok S _
  cases m with
  | lstD es => exact rr_bind (h.a _ _ S) fun k s0 s S => rr_ite (fun _ => rr_ok S _) fun _ => rr_stuck
  | comp elt tg it conds ws => exact rr_bind (h.i _ _ S) fun w s0 s S => h.g _ _ _ _ _ _ S
  | compK elt tg i conds ws =>
    show RR X (match env[i]? with
      | some (some (.ref n)) => (match st0.get n with
        | some (.dK kvs) => (R0.g (.snap (kvs.map fun kv => keyMV kv.1)) tg conds elt (wipeE env ws) [] (st0.set n (.dF kvs))).bind fun r st => unlockV n r st
        | _ => .stuck)
      | _ => .stuck) (match env[i]? with
      | some (some (.ref n)) => (match st.get n with
        | some (.dK kvs) => (R.g (.snap (kvs.map fun kv => keyMV kv.1)) tg conds elt (wipeE env ws) [] (st.set n (.dF kvs))).bind fun r st => unlockV n r st
        | _ => .stuck)
      | _ => .stuck)
    split
    · rename_i n e0
      rcases x_or S n with e | ⟨hn, e⟩
      · simp only [e]; exact rr_stuck
      · simp only [e]
        split
        · exact rr_bind (h.g _ _ _ _ _ _ (x_set S hn _)) fun r s0 s S => m_unlock S n r
        · exact rr_stuck
    · exact rr_stuck
  | _ => exact gen
theorem m_get {α : Type} (S : X st0 st) (n : Nat) {k0 k : Option MO → Res α} (h0 : k0 none = .stuck) (h : ∀ o, SR.G X st0 st n → st0.get n = some o → RR X (k0 (some o)) (k (some o))) : RR X (k0 (st0.get n)) (k (st.get n)) := by
  rcases x_or S n with e | ⟨hn, e⟩
  · rw [e, h0]; exact rr_stuck
  · rw [e]
    cases e2 : st0.get n with
    | none => rw [h0]; exact rr_stuck
    | some o => exact h o hn e2
theorem m_stepI {R0 R : Ev} (h : Mo X R0 R) (m : MI) (env : Env) (S : X st0 st) : RR X (stepI R0 m env st0) (stepI R m env st) := by
  cases m with
  | seq e =>
    exact rr_bind (h.e _ _ S) fun v s0 s S => by
      cases v with
      | ref n => exact m_get S n (k0 := fun o => match o with
          | some (.lst _) => Res.ok (Itv.live n 0) s0
          | _ => .stuck) (k := fun o => match o with
          | some (.lst _) => Res.ok (Itv.live n 0) s
          | _ => .stuck) rfl fun o _ _ => by cases o <;> first | exact rr_stuck | exact rr_ok S _
      | _ => first | exact rr_stuck | exact rr_ok S _
  | tmp e => exact rr_bind (h.l _ _ S) fun v s0 s S => rr_ok S _
  | enum e =>
    exact rr_bind (h.e _ _ S) fun v s0 s S => by
      cases v with
      | ref n => exact m_get S n (k0 := fun o => match o with
          | some (.lst _) => Res.ok (Itv.enum n 0) s0
          | _ => .stuck) (k := fun o => match o with
          | some (.lst _) => Res.ok (Itv.enum n 0) s
          | _ => .stuck) rfl fun o _ _ => by cases o <;> first | exact rr_stuck | exact rr_ok S _
      | _ => exact rr_stuck
  | rng1 a =>
    exact rr_bind (h.e _ _ S) fun v s0 s S => by
      cases v with
      | int j => exact rr_ite (fun _ => rr_ok S _) fun _ => rr_stuck
      | _ => exact rr_stuck
  | rng2 a b =>
    exact rr_bind (h.e _ _ S) fun v s0 s S => rr_bind (h.e _ _ S) fun u s0 s S => by
      cases v with
      | int i =>
        cases u with
        | int j => exact rr_ite (fun _ => rr_ok S _) fun _ => rr_stuck
        | _ => exact rr_stuck
      | _ => exact rr_stuck
theorem m_stepS {R0 R : Ev} (h : Mo X R0 R) (m : MS) (env : Env) (S : X st0 st) : RR X (stepS R0 m env st0) (stepS R m env st) := by
  cases m with
  | set i e => exact rr_bind (h.e _ _ S) fun v s0 s S => rr_ok S _
  | par i j a b => exact rr_bind (h.e _ _ S) fun v s0 s S => rr_bind (h.e _ _ S) fun u s0 s S => rr_ok S _
  | par3 i j l a b c =>
    exact rr_bind (h.a _ _ S) fun vs s0 s S => by
      match vs with
      | [] => exact rr_stuck
      | [_] => exact rr_stuck
      | [_, _] => exact rr_stuck
      | [u, v, w] => exact rr_ok S _
      | _ :: _ :: _ :: _ :: _ => exact rr_stuck
  | unp is e =>
    exact rr_bind (h.e _ _ S) fun v s0 s S => by
      cases v with
      | tup vs =>
        show RR X (match setMany is vs env with
          | some env' => .ok (Fl.nx, env') s0
          | none => .stuck) (match setMany is vs env with
          | some env' => .ok (Fl.nx, env') s
          | none => .stuck)
        cases setMany is vs env with
        | none => exact rr_stuck
        | some env' => exact rr_ok S _
      | _ => exact rr_stuck
  | put o i e =>
    exact rr_bind (h.e _ _ S) fun v s0 s S => rr_bind (h.e _ _ S) fun x s0 s S => rr_bind (h.e _ _ S) fun y s0 s S => by
      cases e : putV x y v s0 with
      | none => exact rr_stuck
      | some s1 =>
        obtain ⟨s2, e2, S2⟩ := m_putV S x y v s1 e
        rw [e2]
        exact rr_ok S2 _
  | iff c a b => exact rr_bind (h.t _ _ S) fun k s0 s S => rr_ite (fun _ => h.b _ _ S) fun _ => h.b _ _ S
  | ret e => exact rr_bind (h.e _ _ S) fun v s0 s S => rr_ok S _
  | expr e => exact rr_bind (h.e _ _ S) fun v s0 s S => rr_ok S _
  | for_ tg it body => exact rr_bind (h.i _ _ S) fun w s0 s S => h.f _ _ _ _ S
  | forK tg i body =>
    show RR X (match env[i]? with
      | some (some (.ref n)) => (match st0.get n with
        | some (.dK kvs) => (R0.f (.snap (kvs.map fun kv => keyMV kv.1)) tg body env (st0.set n (.dF kvs))).bind fun r st => unlockV n r st
        | _ => .stuck)
      | _ => .stuck) (match env[i]? with
      | some (some (.ref n)) => (match st.get n with
        | some (.dK kvs) => (R.f (.snap (kvs.map fun kv => keyMV kv.1)) tg body env (st.set n (.dF kvs))).bind fun r st => unlockV n r st
        | _ => .stuck)
      | _ => .stuck)
    split
    · rename_i n e0
      rcases x_or S n with e | ⟨hn, e⟩
      · simp only [e]; exact rr_stuck
      · simp only [e]
        split
        · exact rr_bind (h.f _ _ _ _ (x_set S hn _)) fun r s0 s S => m_unlock S n r
        · exact rr_stuck
    · exact rr_stuck
  | while_ c body =>
    exact rr_bind (h.t _ _ S) fun k s0 s S => rr_ite (fun _ => rr_bind (h.b _ _ S) fun r s0 s S => by
      obtain ⟨fl, env'⟩ := r
      cases fl with
      | nx => exact h.s _ _ S
      | ct => exact h.s _ _ S
      | bk => exact rr_ok S _
      | rt v => exact rr_ok S _) fun _ => rr_ok S _
  | sfld cs o f e =>
    exact rr_bind (h.e _ _ S) fun v s0 s S => rr_bind (h.e _ _ S) fun x s0 s S => by
      cases e : setFV cs f x v s0 with
      | none => exact rr_stuck
      | some s1 =>
        obtain ⟨s2, e2, S2⟩ := m_setFV S cs f x v s1 e
        rw [e2]
        exact rr_ok S2 _
  | never => exact rr_stuck
  | pass => exact rr_ok S _
  | brk => exact rr_ok S _
  | cont => exact rr_ok S _
theorem m_stepEv {Γ : Tab} {R0 R : Nat → Ev} (h : ∀ d, Mo X (R0 d) (R d)) (d : Nat) : Mo X (stepEv Γ R0 d) (stepEv Γ R d) where
  e m env _ _ S := m_stepE h d m env S
  t m env _ _ S := m_stepT (h d) m env S
  a m env _ _ S := by
    cases m with
    | nil => exact rr_ok S _
    | cons m r => exact rr_bind ((h d).e _ _ S) fun v s0 s S => rr_bind ((h d).a _ _ S) fun vs s0 s S => rr_ok S _
  p m env _ _ S := by
    cases m with
    | nil => exact rr_ok S _
    | cons q r => exact rr_bind ((h d).e _ _ S) fun v s0 s S => rr_bind ((h d).e _ _ S) fun v s0 s S => rr_bind ((h d).p _ _ S) fun vs s0 s S => rr_ok S _
  o m env _ _ S := by
    cases m with
    | none => exact rr_ok S _
    | some m =>
    exact rr_bind ((h d).e _ _ S) fun v s0 s S => by cases v <;> first | exact rr_stuck | exact rr_ok S _
  l m env _ _ S := m_stepL (h d) m env S
  i m env _ _ S := m_stepI (h d) m env S
  ts m env _ _ S := by
    cases m with
    | nil => exact rr_ok S _
    | cons m r => exact rr_bind ((h d).t _ _ S) fun k s0 s S => rr_ite (fun _ => (h d).ts _ _ S) fun _ => rr_ok S _
  f w tg body env s0 s S := by
    show RR X (match w.next s0 with
      | none => .stuck
      | some none => .ok (.nx, env) s0
      | some (some (v, w')) => match tg.set v env with
        | none => .stuck
        | some env1 => ((R0 d).b body env1 s0).bind fun r st => match r.1 with
          | .nx => (R0 d).f w' tg body r.2 st
          | .ct => (R0 d).f w' tg body r.2 st
          | .bk => .ok (.nx, r.2) st
          | .rt v => .ok (.rt v, r.2) st) (match w.next s with
      | none => .stuck
      | some none => .ok (.nx, env) s
      | some (some (v, w')) => match tg.set v env with
        | none => .stuck
        | some env1 => ((R d).b body env1 s).bind fun r st => match r.1 with
          | .nx => (R d).f w' tg body r.2 st
          | .ct => (R d).f w' tg body r.2 st
          | .bk => .ok (.nx, r.2) st
          | .rt v => .ok (.rt v, r.2) st)
    cases e : w.next s0 with
    | none => exact rr_stuck
    | some q =>
      rw [m_next S w q e]
      cases q with
      | none => exact rr_ok S _
      | some q =>
        obtain ⟨v, w'⟩ := q
        simp only []
        cases tg.set v env with
        | none => exact rr_stuck
        | some env1 =>
    exact rr_bind ((h d).b _ _ S) fun r s0 s S => by
            obtain ⟨fl, env'⟩ := r
            cases fl with
            | nx => exact (h d).f _ _ _ _ S
            | ct => exact (h d).f _ _ _ _ S
            | bk => exact rr_ok S _
            | rt v => exact rr_ok S _
  g w tg conds elt env acc s0 s S := by
    show RR X (match w.next s0 with
      | none => .stuck
      | some none => .ok acc s0
      | some (some (v, w')) => match tg.set v env with
        | none => .stuck
        | some env1 => ((R0 d).ts conds env1 s0).bind fun k st => if k = true then ((R0 d).e elt env1 st).bind fun y st =>
            if acc.length < sizeLine then (R0 d).g w' tg conds elt env (acc ++ [y]) st else .stuck
          else (R0 d).g w' tg conds elt env acc st) (match w.next s with
      | none => .stuck
      | some none => .ok acc s
      | some (some (v, w')) => match tg.set v env with
        | none => .stuck
        | some env1 => ((R d).ts conds env1 s).bind fun k st => if k = true then ((R d).e elt env1 st).bind fun y st =>
            if acc.length < sizeLine then (R d).g w' tg conds elt env (acc ++ [y]) st else .stuck
          else (R d).g w' tg conds elt env acc st)
    cases e : w.next s0 with
    | none => exact rr_stuck
    | some q =>
      rw [m_next S w q e]
      cases q with
      | none => exact rr_ok S _
      | some q =>
        obtain ⟨v, w'⟩ := q
        simp only []
        cases tg.set v env with
        | none => exact rr_stuck
        | some env1 => exact rr_bind ((h d).ts _ _ S) fun k s0 s S => rr_ite (fun _ => rr_bind ((h d).e _ _ S) fun y s0 s S => rr_ite (fun _ => (h d).g _ _ _ _ _ _ S) fun _ => rr_stuck) fun _ => (h d).g _ _ _ _ _ _ S
  s m env _ _ S := m_stepS (h d) m env S
  b m env _ _ S := by
    cases m with
    | nil => exact rr_ok S _
    | cons m r =>
    exact rr_bind ((h d).s _ _ S) fun x s0 s S => by
        obtain ⟨fl, env'⟩ := x
        cases fl with
        | nx => exact (h d).b _ _ S
        | bk => exact rr_ok S _
        | ct => exact rr_ok S _
        | rt v => exact rr_ok S _
theorem m_ev (Γ : Tab) : ∀ (n k d : Nat), n ≤ k → Mo X (ev Γ n d) (ev Γ k d)
  | 0, k, d, _ => mo_none
  | n + 1, 0, d, h => absurd h (Nat.not_succ_le_zero n)
  | n + 1, k + 1, d, h => m_stepEv (fun d => m_ev Γ n k d (Nat.le_of_succ_le_succ h)) d
/-- more fuel does not change what is told -/
theorem call_up {Γ : Tab} {n k d : Nat} {fn : MFn} {vs : List MV} {st s : Store} {v : MV} (hk : n ≤ k) (h : callB (ev Γ n d) fn vs st = .ok v s) : callB (ev Γ k d) fn vs st = .ok v s := by
  have r := m_callB (X := fun a b => a = b) (st0 := st) (st := st) (m_ev Γ n k d hk) rfl fn vs
  rw [h] at r
  obtain ⟨s', e, rfl⟩ := r
  exact e
/-- a call over an empty store goes so over any, from the same place on -/
theorem call_mono {Γ : Tab} {n d : Nat} {fn : MFn} {vs : List MV} {st : Store} {v : MV} {s1 : Store} {N : Nat} (wf : st.wf) (hN : st.next = N) (h : callB (ev Γ n d) fn vs ⟨N, .nil⟩ = .ok v s1) :
    W (fun k => callB (ev Γ k d) fn vs st) fun u st' => u = v ∧ st'.wf ∧ st'.next = s1.next ∧ N ≤ s1.next ∧ (∀ m, m < N → st'.get m = st.get m) ∧ ∀ m, N ≤ m → m < s1.next → st'.get m = s1.get m := by
  have g0 : ∀ m, (⟨N, .nil⟩ : Store).get m = none := fun m => Tr.get_nil 40 m
  have S : Sx (fun m => st.get m) N ⟨N, .nil⟩ st := ⟨hN.symm, trivial, wf, Nat.le_refl _, fun m _ => ⟨g0 m, rfl⟩, fun m h1 h2 => absurd h2 (Nat.not_lt.mpr h1), fun m _ => g0 m⟩
  have r := m_callB (m_ev Γ n n d (Nat.le_refl n)) S fn vs
  rw [h] at r
  obtain ⟨s, e, S2⟩ := r
  exact ⟨n, v, s, fun k hk => call_up hk e, rfl, S2.w, S2.nx.symm, S2.le, fun m hm => (S2.lo m hm).2, S2.hi⟩
end MP

set_option Elab.async false
set_option linter.all false
set_option maxHeartbeats 4000000
/-! the text by places -/
set_option maxRecDepth 200000
namespace K45
open PySem PySem.Spec PyProof.Rows L2 MP
def top (i : Nat) : Stmt := PySem.Challenge.pw_shapeguess_k45_facts_recognized.main.body.getD i (.Pass ⟨0, 0, 0, 0⟩)
abbrev t__wall : Stmt := top 0
abbrev N__wall : List Str := ["k"]
theorem nd__wall : (N__wall).Nodup := by decide +kernel
def m__wall : List MS :=
  [.while_ (.lit (.bl true))
  [.pass]]
abbrev t_is_word : Stmt := top 4
abbrev N_is_word : List Str := ["value", "sign"]
theorem nd_is_word : (N_is_word).Nodup := by decide +kernel
def m_is_word : List MS :=
  [.iff (.or (.not (.bi (.isi [.str]) [.var 0])) (.or (.cmp .eq (.bi .len [.var 0]) (.lit (.int 0))) (.or (.cmp .gt (.bi .len [.var 0]) (.lit (.int 12))) (.cmp .notin (.idx (.var 0) (.lit (.int 0))) (.lit (.str ("abcdefghijklmnopqrstuvwxyz" : Str)))))))
  [.ret (.lit (.bl false))]
  [],
  .ret (.all (.comp (.or (.cmp .isin (.var 1) (.lit (.str ("abcdefghijklmnopqrstuvwxyz" : Str)))) (.cmp .isin (.var 1) (.lit (.str ("0123456789" : Str))))) (.one 1) (.seq (.var 0)) [] [1]))]
abbrev t_is_count : Stmt := top 5
abbrev N_is_count : List Str := ["value"]
theorem nd_is_count : (N_is_count).Nodup := by decide +kernel
def m_is_count : List MS :=
  [.ret (.and (.bi (.isi [.int]) [.var 0]) (.and (.not (.bi (.isi [.bool]) [.var 0])) (.cmp .ge (.var 0) (.lit (.int 0)))))]
abbrev t_is_value : Stmt := top 6
abbrev N_is_value : List Str := ["value", "word"]
theorem nd_is_value : (N_is_value).Nodup := by decide +kernel
def m_is_value : List MS :=
  [.iff (.or (.not (.bi (.isi [.tuple]) [.var 0])) (.or (.cmp .eq (.bi .len [.var 0]) (.lit (.int 0))) (.or (.cmp .gt (.bi .len [.var 0]) (.lit (.int 3))) (.not (.bi (.isi [.str]) [.idx (.var 0) (.lit (.int 0))])))))
  [.ret (.lit (.bl false))]
  [],
  .set 1 (.idx (.var 0) (.lit (.int 0))),
  .iff (.cmp .eq (.var 1) (.lit (.str ("none" : Str))))
  [.ret (.cmp .eq (.bi .len [.var 0]) (.lit (.int 1)))]
  [],
  .iff (.cmp .eq (.var 1) (.lit (.str ("tok" : Str))))
  [.ret (.and (.cmp .eq (.bi .len [.var 0]) (.lit (.int 3))) (.and (.call 1 [.idx (.var 0) (.lit (.int 1))]) (.and (.cmp .notin (.idx (.var 0) (.lit (.int 1))) (.lit (.tup [(.str ("none" : Str)), (.str ("bit" : Str)), (.str ("err" : Str)), (.str ("fun" : Str)), (.str ("obj" : Str))]))) (.call 2 [.idx (.var 0) (.lit (.int 2))]))))]
  [],
  .iff (.cmp .ne (.bi .len [.var 0]) (.lit (.int 2)))
  [.ret (.lit (.bl false))]
  [],
  .iff (.cmp .eq (.var 1) (.lit (.str ("bit" : Str))))
  [.ret (.and (.bi (.isi [.str]) [.idx (.var 0) (.lit (.int 1))]) (.cmp .isin (.idx (.var 0) (.lit (.int 1))) (.tupD [.lit (.str ("yes" : Str)), .lit (.str ("no" : Str))])))]
  [],
  .iff (.cmp .eq (.var 1) (.lit (.str ("obj" : Str))))
  [.ret (.call 2 [.idx (.var 0) (.lit (.int 1))])]
  [],
  .ret (.and (.cmp .isin (.var 1) (.tupD [.lit (.str ("err" : Str)), .lit (.str ("fun" : Str))])) (.call 1 [.idx (.var 0) (.lit (.int 1))]))]
abbrev t_is_register : Stmt := top 11
abbrev N_is_register : List Str := ["value"]
theorem nd_is_register : (N_is_register).Nodup := by decide +kernel
def m_is_register : List MS :=
  [.ret (.and (.bi (.isi [.int]) [.var 0]) (.and (.not (.bi (.isi [.bool]) [.var 0])) (.cmp .ge (.var 0) (.lit (.int 0)))))]
abbrev t_is_tuple_of : Stmt := top 12
abbrev N_is_tuple_of : List Str := ["value", "many"]
theorem nd_is_tuple_of : (N_is_tuple_of).Nodup := by decide +kernel
def m_is_tuple_of : List MS :=
  [.ret (.and (.bi (.isi [.tuple]) [.var 0]) (.cmp .eq (.bi .len [.var 0]) (.var 1)))]
abbrev t_is_mark : Stmt := top 13
abbrev N_is_mark : List Str := ["signature", "value"]
theorem nd_is_mark : (N_is_mark).Nodup := by decide +kernel
def m_is_mark : List MS :=
  [.iff (.and (.call 5 [.var 1, .lit (.int 2)]) (.cmp .eq (.idx (.var 1) (.lit (.int 0))) (.lit (.str ("name" : Str)))))
  [.ret (.call 1 [.idx (.var 1) (.lit (.int 1))])]
  [],
  .iff (.or (.not (.call 3 [.var 1])) (.cmp .eq (.idx (.var 1) (.lit (.int 0))) (.lit (.str ("obj" : Str)))))
  [.ret (.lit (.bl false))]
  [],
  .ret (.or (.cmp .ne (.idx (.var 1) (.lit (.int 0))) (.lit (.str ("tok" : Str)))) (.mcall (.var 0) "has_kind" [(0, 19)] [.idx (.var 1) (.lit (.int 1))]))]
abbrev t_is_told_shape : Stmt := top 14
abbrev N_is_told_shape : List Str := ["value", "field"]
theorem nd_is_told_shape : (N_is_told_shape).Nodup := by decide +kernel
def m_is_told_shape : List MS :=
  [.iff (.or (.not (.call 5 [.var 0, .lit (.int 2)])) (.not (.bi (.isi [.tuple]) [.idx (.var 0) (.lit (.int 1))])))
  [.ret (.lit (.bl false))]
  [],
  .iff (.and (.isN true (.idx (.var 0) (.lit (.int 0)))) (.not (.call 1 [.idx (.var 0) (.lit (.int 0))])))
  [.ret (.lit (.bl false))]
  [],
  .iff (.not (.all (.comp (.call 1 [.var 1]) (.one 1) (.seq (.idx (.var 0) (.lit (.int 1)))) [] [1])))
  [.ret (.lit (.bl false))]
  [],
  .ret (.cmp .eq (.bi .lens [.idx (.var 0) (.lit (.int 1))]) (.bi .len [.idx (.var 0) (.lit (.int 1))]))]
abbrev t_is_known_kind : Stmt := top 15
abbrev N_is_known_kind : List Str := ["signature", "value"]
theorem nd_is_known_kind : (N_is_known_kind).Nodup := by decide +kernel
def m_is_known_kind : List MS :=
  [.ret (.and (.bi (.isi [.str]) [.var 1]) (.or (.cmp .isin (.var 1) (.lit (.tup [(.str ("none" : Str)), (.str ("bit" : Str)), (.str ("err" : Str)), (.str ("fun" : Str)), (.str ("obj" : Str))]))) (.mcall (.var 0) "has_kind" [(0, 19)] [.var 1])))]
abbrev t_is_fact : Stmt := top 16
abbrev N_is_fact : List Str := ["signature", "value"]
theorem nd_is_fact : (N_is_fact).Nodup := by decide +kernel
def m_is_fact : List MS :=
  [.iff (.or (.not (.call 5 [.var 1, .lit (.int 3)])) (.or (.not (.bi (.isi [.str]) [.idx (.var 1) (.lit (.int 0))])) (.cmp .notin (.idx (.var 1) (.lit (.int 0))) (.lit (.tup [(.str ("kind" : Str)), (.str ("is" : Str)), (.str ("shape" : Str)), (.str ("same" : Str)), (.str ("unlike" : Str))])))))
  [.ret (.lit (.bl false))]
  [],
  .iff (.not (.call 4 [.idx (.var 1) (.lit (.int 1))]))
  [.ret (.lit (.bl false))]
  [],
  .iff (.cmp .eq (.idx (.var 1) (.lit (.int 0))) (.lit (.str ("kind" : Str))))
  [.ret (.call 8 [.var 0, .idx (.var 1) (.lit (.int 2))])]
  [],
  .iff (.cmp .eq (.idx (.var 1) (.lit (.int 0))) (.lit (.str ("is" : Str))))
  [.ret (.call 6 [.var 0, .idx (.var 1) (.lit (.int 2))])]
  [],
  .ret (.ifx (.cmp .eq (.idx (.var 1) (.lit (.int 0))) (.lit (.str ("shape" : Str)))) (.call 7 [.idx (.var 1) (.lit (.int 2))]) (.call 4 [.idx (.var 1) (.lit (.int 2))]))]
abbrev t_is_watched : Stmt := top 17
abbrev N_is_watched : List Str := ["signature", "value"]
theorem nd_is_watched : (N_is_watched).Nodup := by decide +kernel
def m_is_watched : List MS :=
  [.iff (.or (.not (.bi (.isi [.tuple]) [.var 1])) (.or (.cmp .eq (.var 1) (.tupD [])) (.not (.bi (.isi [.str]) [.idx (.var 1) (.lit (.int 0))]))))
  [.ret (.lit (.bl false))]
  [],
  .iff (.cmp .eq (.idx (.var 1) (.lit (.int 0))) (.lit (.str ("slot" : Str))))
  [.ret (.and (.cmp .eq (.bi .len [.var 1]) (.lit (.int 4))) (.and (.call 1 [.idx (.var 1) (.lit (.int 1))]) (.and (.call 1 [.idx (.var 1) (.lit (.int 2))]) (.call 6 [.var 0, .idx (.var 1) (.lit (.int 3))]))))]
  [],
  .iff (.or (.cmp .ne (.bi .len [.var 1]) (.lit (.int 3))) (.or (.cmp .notin (.idx (.var 1) (.lit (.int 0))) (.lit (.tup [(.str ("global" : Str)), (.str ("holds" : Str)), (.str ("slot" : Str))]))) (.not (.call 1 [.idx (.var 1) (.lit (.int 1))]))))
  [.ret (.lit (.bl false))]
  [],
  .ret (.ifx (.cmp .eq (.idx (.var 1) (.lit (.int 0))) (.lit (.str ("holds" : Str)))) (.call 7 [.idx (.var 1) (.lit (.int 2))]) (.call 6 [.var 0, .idx (.var 1) (.lit (.int 2))]))]
abbrev t_look_at_kinds : Stmt := top 26
abbrev N_look_at_kinds : List Str := ["kinds", "name", "number"]
theorem nd_look_at_kinds : (N_look_at_kinds).Nodup := by decide +kernel
def m_look_at_kinds : List MS :=
  [.for_ (.one 1) (.seq (.var 0))
  [.iff (.or (.not (.call 1 [.var 1])) (.cmp .isin (.var 1) (.lit (.tup [(.str ("none" : Str)), (.str ("bit" : Str)), (.str ("err" : Str)), (.str ("fun" : Str)), (.str ("obj" : Str))]))))
  [.never]
  []],
  .for_ (.many [2, 1]) (.enum (.var 0))
  [.iff (.cmp .isin (.var 1) (.slc (.var 0) (none) (some (.var 2))))
  [.never]
  []]]
abbrev t_is_variant : Stmt := top 27
abbrev N_is_variant : List Str := ["kinds", "own", "result", "kind"]
theorem nd_is_variant : (N_is_variant).Nodup := by decide +kernel
def m_is_variant : List MS :=
  [.iff (.or (.not (.bi (.isi [.tuple]) [.var 1])) (.or (.cmp .notin (.bi .len [.var 1]) (.tupD [.lit (.int 1), .lit (.int 2)])) (.not (.all (.comp (.cmp .isin (.var 3) (.var 0)) (.one 3) (.seq (.var 1)) [] [3])))))
  [.ret (.lit (.bl false))]
  [],
  .ret (.or (.cmp .isin (.var 2) (.var 0)) (.cmp .eq (.var 2) (.lit (.str ("bit" : Str)))))]
abbrev t_look_at_primitives : Stmt := top 28
abbrev N_look_at_primitives : List Str := ["kinds", "primitives", "seen", "name", "rows", "variant", "own", "result"]
theorem nd_look_at_primitives : (N_look_at_primitives).Nodup := by decide +kernel
def m_look_at_primitives : List MS :=
  [.set 2 (.mk (.lstD [])),
  .forK (.one 3) 1
  [.iff (.not (.call 1 [.var 3]))
  [.never]
  [],
  .set 4 (.mk (.lstD [])),
  .for_ (.many [5, 6, 7]) (.seq (.idx (.var 1) (.var 3)))
  [.iff (.not (.call 1 [.var 5]))
  [.never]
  [],
  .iff (.cmp .isin (.var 5) (.var 2))
  [.never]
  [],
  .iff (.or (.not (.call 12 [.var 0, .var 6, .var 7])) (.cmp .isin (.var 6) (.var 4)))
  [.never]
  [],
  .expr (.meth .append (.var 2) [.var 5]),
  .expr (.meth .append (.var 4) [.var 6])]]]
abbrev t_Signature____init__ : Stmt := inClass (top 29) 0
abbrev N_Signature____init__ : List Str := ["self", "kinds", "primitives", "name"]
theorem nd_Signature____init__ : (N_Signature____init__).Nodup := by decide +kernel
def m_Signature____init__ : List MS :=
  [.expr (.call 11 [.var 1]),
  .expr (.call 13 [.var 1, .var 2]),
  .sfld [0] (.var 0) "kind_row" (.bi .list [.var 1]),
  .sfld [0] (.var 0) "primitive_rows" (.mk (.compK (.tupD [.var 3, .bi .list [.idx (.var 2) (.var 3)]]) (.one 3) (2) [] [3]))]
abbrev t_Signature__kinds : Stmt := inClass (top 29) 1
abbrev N_Signature__kinds : List Str := ["self"]
theorem nd_Signature__kinds : (N_Signature__kinds).Nodup := by decide +kernel
def m_Signature__kinds : List MS :=
  [.ret (.bi .list [.fld [0] (.var 0) "kind_row"])]
abbrev t_Signature__primitives : Stmt := inClass (top 29) 2
abbrev N_Signature__primitives : List Str := ["self", "name", "rows"]
theorem nd_Signature__primitives : (N_Signature__primitives).Nodup := by decide +kernel
def m_Signature__primitives : List MS :=
  [.ret (.mk (.comp (.var 1) (.many [1, 2]) (.seq (.fld [0] (.var 0) "primitive_rows")) [] [1, 2]))]
abbrev t_Signature__variants : Stmt := inClass (top 29) 3
abbrev N_Signature__variants : List Str := ["self", "name", "own", "rows"]
theorem nd_Signature__variants : (N_Signature__variants).Nodup := by decide +kernel
def m_Signature__variants : List MS :=
  [.for_ (.many [2, 3]) (.seq (.fld [0] (.var 0) "primitive_rows"))
  [.iff (.cmp .eq (.var 2) (.var 1))
  [.ret (.bi .list [.var 3])]
  []],
  .never]
abbrev t_Signature__variant : Stmt := inClass (top 29) 4
abbrev N_Signature__variant : List Str := ["self", "name", "own", "rows", "variant", "kinds", "result"]
theorem nd_Signature__variant : (N_Signature__variant).Nodup := by decide +kernel
def m_Signature__variant : List MS :=
  [.for_ (.many [2, 3]) (.seq (.fld [0] (.var 0) "primitive_rows"))
  [.for_ (.many [4, 5, 6]) (.seq (.var 3))
  [.iff (.cmp .eq (.var 4) (.var 1))
  [.ret (.tupD [.var 2, .var 5, .var 6])]
  []]],
  .never]
abbrev t_Signature__has_kind : Stmt := inClass (top 29) 5
abbrev N_Signature__has_kind : List Str := ["self", "value"]
theorem nd_Signature__has_kind : (N_Signature__has_kind).Nodup := by decide +kernel
def m_Signature__has_kind : List MS :=
  [.ret (.and (.bi (.isi [.str]) [.var 1]) (.cmp .isin (.var 1) (.fld [0] (.var 0) "kind_row")))]
abbrev t_Signature__has_primitive : Stmt := inClass (top 29) 6
abbrev N_Signature__has_primitive : List Str := ["self", "value"]
theorem nd_Signature__has_primitive : (N_Signature__has_primitive).Nodup := by decide +kernel
def m_Signature__has_primitive : List MS :=
  [.expr (.call 0 [.lit (.int 0)])]
abbrev t_Signature____eq__ : Stmt := inClass (top 29) 7
abbrev N_Signature____eq__ : List Str := ["self", "other"]
theorem nd_Signature____eq__ : (N_Signature____eq__).Nodup := by decide +kernel
def m_Signature____eq__ : List MS :=
  [.never,
  .ret (.and (.cmp .eq (.fld [0] (.var 0) "kind_row") (.fld [0] (.var 1) "kind_row")) (.cmp .eq (.fld [0] (.var 0) "primitive_rows") (.fld [0] (.var 1) "primitive_rows")))]
abbrev t__law_source : Stmt := top 31
abbrev N__law_source : List Str := ["script", "mixed", "cell", "cells", "k"]
theorem nd__law_source : (N__law_source).Nodup := by decide +kernel
def m__law_source : List MS :=
  [.set 1 (.lit (.int 11)),
  .for_ (.one 2) (.seq (.var 0))
  [.set 1 (.bin .mod (.bi .int [.bin .add (.bin .add (.bin .mul (.var 1) (.lit (.int 69069))) (.bin .mul (.var 2) (.lit (.int 31)))) (.lit (.int 5))]) (.lit (.int 2147483629)))],
  .set 3 (.mk (.comp (.bi .abs [.var 2]) (.one 2) (.seq (.var 0)) [] [2])),
  .ret (.dicD [(.lit (.str ("cells" : Str)), .mk (.comp (.idx (.var 3) (.bin .sub (.bin .sub (.bi .len [.var 3]) (.lit (.int 1))) (.var 4))) (.one 4) (.rng1 (.bi .len [.var 3])) [] [4])), (.lit (.str ("left" : Str)), .lit (.int 1)), (.lit (.str ("mixed" : Str)), .var 1), (.lit (.str ("turn" : Str)), .lit (.int 0))])]
abbrev t__law_pick : Stmt := top 32
abbrev N__law_pick : List Str := ["source", "many", "cells", "left", "turn", "mixed"]
theorem nd__law_pick : (N__law_pick).Nodup := by decide +kernel
def m__law_pick : List MS :=
  [.iff (.cmp .lt (.var 1) (.lit (.int 2)))
  [.ret (.lit (.int 0))]
  [],
  .set 2 (.idx (.var 0) (.lit (.str ("cells" : Str)))),
  .while_ (.and (.cmp .lt (.idx (.var 0) (.lit (.str ("left" : Str)))) (.lit (.int 2))) (.cmp .gt (.bi .len [.var 2]) (.lit (.int 0))))
  [.put (.var 0) (.lit (.str ("left" : Str))) (.meth .pop (.var 2) [])],
  .set 3 (.idx (.var 0) (.lit (.str ("left" : Str)))),
  .iff (.cmp .gt (.var 3) (.lit (.int 1)))
  [.put (.var 0) (.lit (.str ("left" : Str))) (.bin .fdiv (.var 3) (.var 1)),
  .ret (.bin .mod (.bi .int [.var 3]) (.var 1))]
  [],
  .put (.var 0) (.lit (.str ("turn" : Str))) (.bin .add (.idx (.var 0) (.lit (.str ("turn" : Str)))) (.lit (.int 1))),
  .set 4 (.idx (.var 0) (.lit (.str ("turn" : Str)))),
  .set 5 (.bin .mod (.bi .int [.bin .add (.idx (.var 0) (.lit (.str ("mixed" : Str)))) (.bin .mul (.var 4) (.lit (.int 104729)))]) (.lit (.int 998244353))),
  .set 5 (.bin .mod (.bi .int [.bin .add (.bin .mul (.var 5) (.var 5)) (.bin .mul (.var 4) (.lit (.int 17)))]) (.lit (.int 2147483647))),
  .iff (.cmp .gt (.var 1) (.bin .pow (.lit (.int 10)) (.lit (.int 7))))
  [.set 5 (.bin .pow (.bi .int [.bin .add (.bin .mul (.var 5) (.lit (.int 48271))) (.var 4)]) (.lit (.int 9)))]
  [],
  .ret (.bin .mod (.bi .int [.bin .fdiv (.var 5) (.lit (.int 16))]) (.var 1))]
abbrev t__law_one_of : Stmt := top 33
abbrev N__law_one_of : List Str := ["source", "some"]
theorem nd__law_one_of : (N__law_one_of).Nodup := by decide +kernel
def m__law_one_of : List MS :=
  [.ret (.idx (.var 1) (.call 23 [.var 0, .bi .len [.var 1]]))]
abbrev t__law_signature : Stmt := top 34
abbrev N__law_signature : List Str := ["first", "second"]
theorem nd__law_signature : (N__law_signature).Nodup := by decide +kernel
def m__law_signature : List MS :=
  [.set 0 (.mk (.lstD [.tupD [.lit (.str ("pn" : Str)), .tupD [.lit (.str ("num" : Str))], .lit (.str ("txt" : Str))], .tupD [.lit (.str ("pt" : Str)), .tupD [.lit (.str ("txt" : Str))], .lit (.str ("num" : Str))], .tupD [.lit (.str ("pnt" : Str)), .tupD [.lit (.str ("num" : Str)), .lit (.str ("txt" : Str))], .lit (.str ("num" : Str))]])),
  .set 1 (.mk (.lstD [.tupD [.lit (.str ("qb" : Str)), .tupD [.lit (.str ("num" : Str))], .lit (.str ("bit" : Str))], .tupD [.lit (.str ("qtt" : Str)), .tupD [.lit (.str ("txt" : Str)), .lit (.str ("txt" : Str))], .lit (.str ("txt" : Str))]])),
  .ret (.new 0 14 [.mk (.lstD [.lit (.str ("num" : Str)), .lit (.str ("txt" : Str)), .lit (.str ("name" : Str))]), .dicD [(.lit (.str ("p" : Str)), .var 0), (.lit (.str ("q" : Str)), .var 1), (.lit (.str ("empty" : Str)), .mk (.lstD []))]])]
abbrev t__law_mark : Stmt := top 35
abbrev N__law_mark : List Str := ["source", "some"]
theorem nd__law_mark : (N__law_mark).Nodup := by decide +kernel
def m__law_mark : List MS :=
  [.set 1 (.mk (.lstD [.tupD [.lit (.str ("none" : Str))], .tupD [.lit (.str ("bit" : Str)), .lit (.str ("yes" : Str))], .tupD [.lit (.str ("bit" : Str)), .lit (.str ("no" : Str))], .tupD [.lit (.str ("tok" : Str)), .lit (.str ("num" : Str)), .lit (.int 0)], .tupD [.lit (.str ("tok" : Str)), .lit (.str ("num" : Str)), .lit (.int 1)], .tupD [.lit (.str ("tok" : Str)), .lit (.str ("txt" : Str)), .lit (.int 0)]])),
  .set 1 (.bin .add (.var 1) (.mk (.lstD [.tupD [.lit (.str ("err" : Str)), .lit (.str ("e0" : Str))], .tupD [.lit (.str ("err" : Str)), .lit (.str ("other0" : Str))], .tupD [.lit (.str ("fun" : Str)), .lit (.str ("f0" : Str))], .tupD [.lit (.str ("name" : Str)), .lit (.str ("a" : Str))], .tupD [.lit (.str ("name" : Str)), .lit (.str ("a" : Str))], .tupD [.lit (.str ("name" : Str)), .lit (.str ("b" : Str))]]))),
  .ret (.call 24 [.var 0, .bin .add (.var 1) (.mk (.lstD [.tupD [.lit (.str ("name" : Str)), .lit (.str ("c" : Str))], .tupD [.lit (.str ("tok" : Str)), .lit (.str ("name" : Str)), .lit (.int 0)]]))])]
abbrev t__law_shape : Stmt := top 36
abbrev N__law_shape : List Str := ["source", "fields"]
theorem nd__law_shape : (N__law_shape).Nodup := by decide +kernel
def m__law_shape : List MS :=
  [.set 1 (.call 24 [.var 0, .mk (.lstD [.tupD [], .tupD [.lit (.str ("f" : Str))], .tupD [.lit (.str ("a" : Str))], .tupD [.lit (.str ("f" : Str)), .lit (.str ("a" : Str))], .tupD [.lit (.str ("a" : Str)), .lit (.str ("f" : Str))]])]),
  .ret (.tupD [.call 24 [.var 0, .mk (.lstD [.lit .non, .lit .non, .lit (.str ("a" : Str)), .lit (.str ("b" : Str)), .lit (.str ("c" : Str))])], .var 1])]
abbrev t__law_fact : Stmt := top 37
abbrev N__law_fact : List Str := ["source", "many", "q", "t", "way"]
theorem nd__law_fact : (N__law_fact).Nodup := by decide +kernel
def m__law_fact : List MS :=
  [.par3 2 3 4 (.call 23 [.var 0, .var 1]) (.call 23 [.var 0, .var 1]) (.call 23 [.var 0, .lit (.int 14)]),
  .iff (.cmp .lt (.var 4) (.lit (.int 2)))
  [.ret (.tupD [.lit (.str ("kind" : Str)), .var 2, .call 24 [.var 0, .mk (.lstD [.lit (.str ("none" : Str)), .lit (.str ("bit" : Str)), .lit (.str ("bit" : Str)), .lit (.str ("err" : Str)), .lit (.str ("fun" : Str)), .lit (.str ("obj" : Str)), .lit (.str ("num" : Str)), .lit (.str ("txt" : Str)), .lit (.str ("name" : Str))])]])]
  [],
  .iff (.cmp .lt (.var 4) (.lit (.int 4)))
  [.ret (.tupD [.lit (.str ("is" : Str)), .var 2, .call 26 [.var 0]])]
  [],
  .iff (.cmp .lt (.var 4) (.lit (.int 6)))
  [.ret (.tupD [.lit (.str ("shape" : Str)), .var 2, .call 27 [.var 0]])]
  [],
  .iff (.cmp .lt (.var 4) (.lit (.int 8)))
  [.ret (.tupD [.lit (.str ("same" : Str)), .var 2, .var 3])]
  [],
  .iff (.cmp .lt (.var 4) (.lit (.int 11)))
  [.ret (.tupD [.lit (.str ("unlike" : Str)), .var 2, .var 3])]
  [],
  .iff (.cmp .eq (.var 4) (.lit (.int 11)))
  [.ret (.tupD [.lit (.str ("global" : Str)), .call 24 [.var 0, .mk (.lstD [.lit (.str ("x" : Str)), .lit (.str ("a" : Str))])], .call 26 [.var 0]])]
  [],
  .iff (.cmp .eq (.var 4) (.lit (.int 12)))
  [.ret (.tupD [.lit (.str ("holds" : Str)), .call 24 [.var 0, .mk (.lstD [.lit (.str ("a" : Str)), .lit (.str ("b" : Str)), .lit (.str ("c" : Str))])], .call 27 [.var 0]])]
  [],
  .ret (.tupD [.lit (.str ("slot" : Str)), .call 24 [.var 0, .mk (.lstD [.lit (.str ("a" : Str)), .lit (.str ("b" : Str))])], .call 24 [.var 0, .mk (.lstD [.lit (.str ("f" : Str)), .lit (.str ("a" : Str))])], .call 26 [.var 0]])]
abbrev t__law_is_word : Stmt := top 38
abbrev N__law_is_word : List Str := ["value", "sign"]
theorem nd__law_is_word : (N__law_is_word).Nodup := by decide +kernel
def m__law_is_word : List MS :=
  [.iff (.or (.not (.bi (.isi [.str]) [.var 0])) (.or (.not (.chain .le .le (.lit (.int 1)) (.bi .len [.var 0]) (.lit (.int 12)))) (.not (.chain .le .le (.lit (.str ("a" : Str))) (.idx (.var 0) (.lit (.int 0))) (.lit (.str ("z" : Str)))))))
  [.ret (.lit (.bl false))]
  [],
  .ret (.cmpL .eq (.comp (.lit (.int 1)) (.one 1) (.seq (.var 0)) [.cmp .notin (.var 1) (.lit (.str ("abcdefghijklmnopqrstuvwxyz0123456789" : Str)))] [1]) (.lstD []))]
abbrev t__law_is_number : Stmt := top 39
abbrev N__law_is_number : List Str := ["value"]
theorem nd__law_is_number : (N__law_is_number).Nodup := by decide +kernel
def m__law_is_number : List MS :=
  [.ret (.and (.bi (.isi [.int]) [.var 0]) (.and (.not (.bi (.isi [.bool]) [.var 0])) (.cmp .ge (.var 0) (.lit (.int 0)))))]
abbrev t__law_is_mark : Stmt := top 40
abbrev N__law_is_mark : List Str := ["value"]
theorem nd__law_is_mark : (N__law_is_mark).Nodup := by decide +kernel
def m__law_is_mark : List MS :=
  [.iff (.or (.not (.bi (.isi [.tuple]) [.var 0])) (.or (.cmp .eq (.var 0) (.tupD [])) (.not (.bi (.isi [.str]) [.idx (.var 0) (.lit (.int 0))]))))
  [.ret (.lit (.bl false))]
  [],
  .iff (.cmp .eq (.idx (.var 0) (.lit (.int 0))) (.lit (.str ("none" : Str))))
  [.ret (.cmp .eq (.var 0) (.tupD [.lit (.str ("none" : Str))]))]
  [],
  .iff (.cmp .eq (.idx (.var 0) (.lit (.int 0))) (.lit (.str ("bit" : Str))))
  [.ret (.cmp .isin (.var 0) (.mk (.lstD [.tupD [.lit (.str ("bit" : Str)), .lit (.str ("yes" : Str))], .tupD [.lit (.str ("bit" : Str)), .lit (.str ("no" : Str))]])))]
  [],
  .iff (.cmp .eq (.idx (.var 0) (.lit (.int 0))) (.lit (.str ("tok" : Str))))
  [.ret (.and (.cmp .eq (.bi .len [.var 0]) (.lit (.int 3))) (.and (.cmp .isin (.idx (.var 0) (.lit (.int 1))) (.mk (.lstD [.lit (.str ("num" : Str)), .lit (.str ("txt" : Str)), .lit (.str ("name" : Str))]))) (.call 30 [.idx (.var 0) (.lit (.int 2))])))]
  [],
  .ret (.and (.cmp .eq (.bi .len [.var 0]) (.lit (.int 2))) (.and (.cmp .isin (.idx (.var 0) (.lit (.int 0))) (.mk (.lstD [.lit (.str ("err" : Str)), .lit (.str ("fun" : Str)), .lit (.str ("name" : Str))]))) (.call 29 [.idx (.var 0) (.lit (.int 1))])))]
abbrev t__law_is_shape : Stmt := top 41
abbrev N__law_is_shape : List Str := ["value", "word"]
theorem nd__law_is_shape : (N__law_is_shape).Nodup := by decide +kernel
def m__law_is_shape : List MS :=
  [.iff (.or (.not (.bi (.isi [.tuple]) [.var 0])) (.or (.cmp .ne (.bi .len [.var 0]) (.lit (.int 2))) (.not (.bi (.isi [.tuple]) [.idx (.var 0) (.lit (.int 1))]))))
  [.ret (.lit (.bl false))]
  [],
  .iff (.and (.isN true (.idx (.var 0) (.lit (.int 0)))) (.not (.call 29 [.idx (.var 0) (.lit (.int 0))])))
  [.ret (.lit (.bl false))]
  [],
  .iff (.cmp .ne (.mk (.comp (.lit (.int 1)) (.one 1) (.seq (.idx (.var 0) (.lit (.int 1)))) [.not (.call 29 [.var 1])] [1])) (.mk (.lstD [])))
  [.ret (.lit (.bl false))]
  [],
  .ret (.cmp .eq (.bi .len [.idx (.var 0) (.lit (.int 1))]) (.bi .lens [.idx (.var 0) (.lit (.int 1))]))]
abbrev t__law_is_fact : Stmt := top 42
abbrev N__law_is_fact : List Str := ["value"]
theorem nd__law_is_fact : (N__law_is_fact).Nodup := by decide +kernel
def m__law_is_fact : List MS :=
  [.iff (.or (.not (.bi (.isi [.tuple]) [.var 0])) (.or (.cmp .ne (.bi .len [.var 0]) (.lit (.int 3))) (.not (.call 30 [.idx (.var 0) (.lit (.int 1))]))))
  [.ret (.lit (.bl false))]
  [],
  .iff (.cmp .eq (.idx (.var 0) (.lit (.int 0))) (.lit (.str ("kind" : Str))))
  [.ret (.cmp .isin (.idx (.var 0) (.lit (.int 2))) (.mk (.lstD [.lit (.str ("none" : Str)), .lit (.str ("bit" : Str)), .lit (.str ("err" : Str)), .lit (.str ("fun" : Str)), .lit (.str ("obj" : Str)), .lit (.str ("num" : Str)), .lit (.str ("txt" : Str)), .lit (.str ("name" : Str))])))]
  [],
  .iff (.cmp .eq (.idx (.var 0) (.lit (.int 0))) (.lit (.str ("is" : Str))))
  [.ret (.call 31 [.idx (.var 0) (.lit (.int 2))])]
  [],
  .iff (.cmp .eq (.idx (.var 0) (.lit (.int 0))) (.lit (.str ("shape" : Str))))
  [.ret (.call 32 [.idx (.var 0) (.lit (.int 2))])]
  [],
  .ret (.and (.cmp .isin (.idx (.var 0) (.lit (.int 0))) (.mk (.lstD [.lit (.str ("same" : Str)), .lit (.str ("unlike" : Str))]))) (.call 30 [.idx (.var 0) (.lit (.int 2))]))]
abbrev t__law_is_watched : Stmt := top 43
abbrev N__law_is_watched : List Str := ["value"]
theorem nd__law_is_watched : (N__law_is_watched).Nodup := by decide +kernel
def m__law_is_watched : List MS :=
  [.iff (.or (.not (.bi (.isi [.tuple]) [.var 0])) (.or (.cmp .notin (.bi .len [.var 0]) (.mk (.lstD [.lit (.int 3), .lit (.int 4)]))) (.not (.call 29 [.idx (.var 0) (.lit (.int 1))]))))
  [.ret (.lit (.bl false))]
  [],
  .iff (.cmp .eq (.idx (.var 0) (.lit (.int 0))) (.lit (.str ("slot" : Str))))
  [.ret (.and (.cmp .eq (.bi .len [.var 0]) (.lit (.int 4))) (.and (.call 29 [.idx (.var 0) (.lit (.int 2))]) (.call 31 [.idx (.var 0) (.lit (.int 3))])))]
  [],
  .iff (.cmp .ne (.bi .len [.var 0]) (.lit (.int 3)))
  [.ret (.lit (.bl false))]
  [],
  .ret (.or (.and (.cmp .eq (.idx (.var 0) (.lit (.int 0))) (.lit (.str ("holds" : Str)))) (.call 32 [.idx (.var 0) (.lit (.int 2))])) (.and (.cmp .eq (.idx (.var 0) (.lit (.int 0))) (.lit (.str ("global" : Str)))) (.call 31 [.idx (.var 0) (.lit (.int 2))])))]
abbrev t__law_odd : Stmt := top 44
abbrev N__law_odd : List Str := ["source", "some"]
theorem nd__law_odd : (N__law_odd).Nodup := by decide +kernel
def m__law_odd : List MS :=
  [.set 1 (.mk (.lstD [.lit .non, .lit (.bl true), .lit (.bl false), .lit (.int 0), .lit (.int 1), .neg (.lit (.int 1)), .lit (.str ("" : Str)), .lit (.str ("a" : Str)), .lit (.str ("A" : Str)), .lit (.str ("1a" : Str)), .lit (.str ("none" : Str)), .lit (.str ("num" : Str)), .lit (.str ("kind" : Str)), .lit (.str ("obj" : Str))])),
  .set 1 (.bin .add (.var 1) (.mk (.lstD [.lit (.str ("abcdefghijkl" : Str)), .lit (.str ("abcdefghijklm" : Str)), .lit (.str ("a_b" : Str))]))),
  .set 1 (.bin .add (.var 1) (.mk (.lstD [.tupD [], .mk (.lstD []), .dicD [], .tupD [.lit (.str ("none" : Str))], .tupD [.lit (.str ("obj" : Str)), .lit (.int 0)], .tupD [.lit (.str ("name" : Str)), .lit (.str ("a" : Str))], .tupD [.lit (.str ("tok" : Str)), .lit (.str ("far" : Str)), .lit (.int 0)], .tupD [.lit (.str ("bit" : Str)), .lit (.str ("on" : Str))], .tupD [.lit .non, .tupD []]]))),
  .ret (.call 24 [.var 0, .bin .add (.var 1) (.mk (.lstD [.tupD [.lit .non, .tupD [.lit (.str ("f" : Str)), .lit (.str ("f" : Str))]], .tupD [.lit (.str ("tok" : Str)), .lit (.str ("num" : Str)), .lit (.bl true)], .tupD [.lit (.str ("tok" : Str)), .lit (.str ("num" : Str)), .lit (.int 99)], .mk (.lstD [.lit (.str ("a" : Str))])]))])]
abbrev t__law_bent : Stmt := top 45
abbrev N__law_bent : List Str := ["source", "value", "deep", "at", "way"]
theorem nd__law_bent : (N__law_bent).Nodup := by decide +kernel
def m__law_bent : List MS :=
  [.iff (.or (.not (.bi (.isi [.tuple]) [.var 1])) (.or (.cmp .eq (.var 1) (.tupD [])) (.or (.cmp .eq (.var 2) (.lit (.int 0))) (.cmp .eq (.call 23 [.var 0, .lit (.int 4)]) (.lit (.int 0))))))
  [.set 4 (.call 23 [.var 0, .lit (.int 5)]),
  .iff (.and (.bi (.isi [.tuple]) [.var 1]) (.cmp .lt (.var 4) (.lit (.int 4))))
  [.ret (.idx (.mk (.lstD [.slc (.var 1) (some (.lit (.int 1))) (none), .slc (.var 1) (none) (some (.neg (.lit (.int 1)))), .bin .add (.var 1) (.tupD [.call 35 [.var 0]]), .bi .list [.var 1]])) (.var 4))]
  [],
  .ret (.call 35 [.var 0])]
  [],
  .set 3 (.call 23 [.var 0, .bi .len [.var 1]]),
  .ret (.bin .add (.bin .add (.slc (.var 1) (none) (some (.var 3))) (.tupD [.call 36 [.var 0, .idx (.var 1) (.var 3), .bin .sub (.var 2) (.lit (.int 1))]])) (.slc (.var 1) (some (.bin .add (.var 3) (.lit (.int 1)))) (none)))]
abbrev t_law : Stmt := top 46
abbrev N_law : List Str := ["script", "source", "signature", "turn", "fact", "some", "value", "before"]
theorem nd_law : (N_law).Nodup := by decide +kernel
def m_law : List MS :=
  [.set 1 (.call 22 [.var 0]),
  .set 2 (.call 25 []),
  .for_ (.one 3) (.rng1 (.lit (.int 12)))
  [.set 4 (.call 28 [.var 1, .lit (.int 9)]),
  .set 5 (.mk (.lstD [.var 4, .call 35 [.var 1], .call 36 [.var 1, .var 4, .lit (.int 3)], .call 36 [.var 1, .call 36 [.var 1, .var 4, .lit (.int 3)], .lit (.int 3)]])),
  .set 5 (.bin .add (.var 5) (.mk (.lstD [.bin .add (.var 4) (.tupD [.idx (.var 4) (.neg (.lit (.int 1)))]), .bin .add (.tupD [.lit (.str ("slot" : Str))]) (.slc (.var 4) (some (.lit (.int 1))) (none)), .bin .add (.tupD [.lit (.str ("global" : Str))]) (.slc (.var 4) (some (.lit (.int 1))) (none)), .bin .add (.bin .add (.slc (.var 4) (none) (some (.lit (.int 1)))) (.tupD [.lit (.int 99)])) (.slc (.var 4) (some (.lit (.int 2))) (none))]))),
  .for_ (.one 6) (.seq (.var 5))
  [.set 7 (.bi .repr [.var 6]),
  .iff (.cmp .ne (.bi .repr [.call 9 [.var 2, .var 6]]) (.bi .repr [.call 33 [.var 6]]))
  [.ret (.lit (.bl false))]
  [],
  .iff (.or (.cmp .ne (.bi .repr [.call 10 [.var 2, .var 6]]) (.bi .repr [.call 34 [.var 6]])) (.cmp .ne (.bi .repr [.var 6]) (.var 7)))
  [.ret (.lit (.bl false))]
  []]],
  .ret (.lit (.bl true))]
def Γ : Tab
  | 0 => some ⟨1, 1, m__wall⟩
  | 1 => some ⟨1, 2, m_is_word⟩
  | 2 => some ⟨1, 1, m_is_count⟩
  | 3 => some ⟨1, 2, m_is_value⟩
  | 4 => some ⟨1, 1, m_is_register⟩
  | 5 => some ⟨2, 2, m_is_tuple_of⟩
  | 6 => some ⟨2, 2, m_is_mark⟩
  | 7 => some ⟨1, 2, m_is_told_shape⟩
  | 8 => some ⟨2, 2, m_is_known_kind⟩
  | 9 => some ⟨2, 2, m_is_fact⟩
  | 10 => some ⟨2, 2, m_is_watched⟩
  | 11 => some ⟨1, 3, m_look_at_kinds⟩
  | 12 => some ⟨3, 4, m_is_variant⟩
  | 13 => some ⟨2, 8, m_look_at_primitives⟩
  | 14 => some ⟨3, 4, m_Signature____init__⟩
  | 15 => some ⟨1, 1, m_Signature__kinds⟩
  | 16 => some ⟨1, 3, m_Signature__primitives⟩
  | 17 => some ⟨2, 4, m_Signature__variants⟩
  | 18 => some ⟨2, 7, m_Signature__variant⟩
  | 19 => some ⟨2, 2, m_Signature__has_kind⟩
  | 20 => some ⟨2, 2, m_Signature__has_primitive⟩
  | 21 => some ⟨2, 2, m_Signature____eq__⟩
  | 22 => some ⟨1, 5, m__law_source⟩
  | 23 => some ⟨2, 6, m__law_pick⟩
  | 24 => some ⟨2, 2, m__law_one_of⟩
  | 25 => some ⟨0, 2, m__law_signature⟩
  | 26 => some ⟨1, 2, m__law_mark⟩
  | 27 => some ⟨1, 2, m__law_shape⟩
  | 28 => some ⟨2, 5, m__law_fact⟩
  | 29 => some ⟨1, 2, m__law_is_word⟩
  | 30 => some ⟨1, 1, m__law_is_number⟩
  | 31 => some ⟨1, 1, m__law_is_mark⟩
  | 32 => some ⟨1, 2, m__law_is_shape⟩
  | 33 => some ⟨1, 1, m__law_is_fact⟩
  | 34 => some ⟨1, 1, m__law_is_watched⟩
  | 35 => some ⟨1, 2, m__law_odd⟩
  | 36 => some ⟨3, 5, m__law_bent⟩
  | 37 => some ⟨1, 8, m_law⟩
  | _ => none
structure Tx (K : PySem.W.Frag) (mg : Str → Option Value) (ca : Cls0) (fa : Nat → Addr) : Prop where
  n_abs : mg "abs" = none
  n_all : mg "all" = none
  n_bool : mg "bool" = none
  n_enumerate : mg "enumerate" = none
  n_int : mg "int" = none
  n_isinstance : mg "isinstance" = none
  n_len : mg "len" = none
  n_list : mg "list" = none
  n_range : mg "range" = none
  n_repr : mg "repr" = none
  n_set : mg "set" = none
  n_str : mg "str" = none
  n_tuple : mg "tuple" = none
  c_LETTERS : Glb K mg "LETTERS" (.str ("abcdefghijklmnopqrstuvwxyz" : Str))
  c_OWN_KINDS : Glb K mg "OWN_KINDS" (.tup [(.str ("none" : Str)), (.str ("bit" : Str)), (.str ("err" : Str)), (.str ("fun" : Str)), (.str ("obj" : Str))])
  c_REGISTER_WORDS : Glb K mg "REGISTER_WORDS" (.tup [(.str ("kind" : Str)), (.str ("is" : Str)), (.str ("shape" : Str)), (.str ("same" : Str)), (.str ("unlike" : Str))])
  c_RESERVED : Glb K mg "RESERVED" (.tup [(.str ("none" : Str)), (.str ("bit" : Str)), (.str ("err" : Str)), (.str ("fun" : Str)), (.str ("obj" : Str))])
  c_WATCHED_WORDS : Glb K mg "WATCHED_WORDS" (.tup [(.str ("global" : Str)), (.str ("holds" : Str)), (.str ("slot" : Str))])
  g__wall : mg "_wall" = some (.ref (fa 0))
  k__wall : PySem.W.keepIn K (.ref (fa 0)) = true
  g_is_word : mg "is_word" = some (.ref (fa 1))
  k_is_word : PySem.W.keepIn K (.ref (fa 1)) = true
  g_is_count : mg "is_count" = some (.ref (fa 2))
  k_is_count : PySem.W.keepIn K (.ref (fa 2)) = true
  g_is_value : mg "is_value" = some (.ref (fa 3))
  k_is_value : PySem.W.keepIn K (.ref (fa 3)) = true
  g_is_register : mg "is_register" = some (.ref (fa 4))
  k_is_register : PySem.W.keepIn K (.ref (fa 4)) = true
  g_is_tuple_of : mg "is_tuple_of" = some (.ref (fa 5))
  k_is_tuple_of : PySem.W.keepIn K (.ref (fa 5)) = true
  g_is_mark : mg "is_mark" = some (.ref (fa 6))
  k_is_mark : PySem.W.keepIn K (.ref (fa 6)) = true
  g_is_told_shape : mg "is_told_shape" = some (.ref (fa 7))
  k_is_told_shape : PySem.W.keepIn K (.ref (fa 7)) = true
  g_is_known_kind : mg "is_known_kind" = some (.ref (fa 8))
  k_is_known_kind : PySem.W.keepIn K (.ref (fa 8)) = true
  g_is_fact : mg "is_fact" = some (.ref (fa 9))
  k_is_fact : PySem.W.keepIn K (.ref (fa 9)) = true
  g_is_watched : mg "is_watched" = some (.ref (fa 10))
  k_is_watched : PySem.W.keepIn K (.ref (fa 10)) = true
  g_look_at_kinds : mg "look_at_kinds" = some (.ref (fa 11))
  k_look_at_kinds : PySem.W.keepIn K (.ref (fa 11)) = true
  g_is_variant : mg "is_variant" = some (.ref (fa 12))
  k_is_variant : PySem.W.keepIn K (.ref (fa 12)) = true
  g_look_at_primitives : mg "look_at_primitives" = some (.ref (fa 13))
  k_look_at_primitives : PySem.W.keepIn K (.ref (fa 13)) = true
  g__law_source : mg "_law_source" = some (.ref (fa 22))
  k__law_source : PySem.W.keepIn K (.ref (fa 22)) = true
  g__law_pick : mg "_law_pick" = some (.ref (fa 23))
  k__law_pick : PySem.W.keepIn K (.ref (fa 23)) = true
  g__law_one_of : mg "_law_one_of" = some (.ref (fa 24))
  k__law_one_of : PySem.W.keepIn K (.ref (fa 24)) = true
  g__law_signature : mg "_law_signature" = some (.ref (fa 25))
  k__law_signature : PySem.W.keepIn K (.ref (fa 25)) = true
  g__law_mark : mg "_law_mark" = some (.ref (fa 26))
  k__law_mark : PySem.W.keepIn K (.ref (fa 26)) = true
  g__law_shape : mg "_law_shape" = some (.ref (fa 27))
  k__law_shape : PySem.W.keepIn K (.ref (fa 27)) = true
  g__law_fact : mg "_law_fact" = some (.ref (fa 28))
  k__law_fact : PySem.W.keepIn K (.ref (fa 28)) = true
  g__law_is_word : mg "_law_is_word" = some (.ref (fa 29))
  k__law_is_word : PySem.W.keepIn K (.ref (fa 29)) = true
  g__law_is_number : mg "_law_is_number" = some (.ref (fa 30))
  k__law_is_number : PySem.W.keepIn K (.ref (fa 30)) = true
  g__law_is_mark : mg "_law_is_mark" = some (.ref (fa 31))
  k__law_is_mark : PySem.W.keepIn K (.ref (fa 31)) = true
  g__law_is_shape : mg "_law_is_shape" = some (.ref (fa 32))
  k__law_is_shape : PySem.W.keepIn K (.ref (fa 32)) = true
  g__law_is_fact : mg "_law_is_fact" = some (.ref (fa 33))
  k__law_is_fact : PySem.W.keepIn K (.ref (fa 33)) = true
  g__law_is_watched : mg "_law_is_watched" = some (.ref (fa 34))
  k__law_is_watched : PySem.W.keepIn K (.ref (fa 34)) = true
  g__law_odd : mg "_law_odd" = some (.ref (fa 35))
  k__law_odd : PySem.W.keepIn K (.ref (fa 35)) = true
  g__law_bent : mg "_law_bent" = some (.ref (fa 36))
  k__law_bent : PySem.W.keepIn K (.ref (fa 36)) = true
  gc_Signature : mg "Signature" = some (.ref (ca 0))
  mk_Signature : Mk K (ca 0) (fa 14)
  me_has_kind : MethOk K ca fa "has_kind" [(0, 19)]
  fa_kind_row : FldOk K ca [0] "kind_row"
  fa_primitive_rows : FldOk K ca [0] "primitive_rows"
section
variable {P : Program} {w : World} {K : PySem.W.Frag} {mg : Str → Option Value} {base : Heap} {ca : Cls0} {fa : Nat → Addr} {d : Nat}
theorem sc__wall : FnScope N__wall ["k"] (defScope t__wall) := ⟨rfl, rfl, rfl, nd__wall, rfl, by decide +kernel, by decide +kernel⟩
theorem b__wall (T : Tx K mg ca fa) : BodyOk P w K mg base ca Γ fa d N__wall "_wall" t__wall m__wall := fun f cdv A outer s H E C =>
  (b_cons (s_while PassesOwn.never (t_val s_bl (fun _ _ _ => rfl)) (b_cons s_pass
  b_nil))
  b_nil)
theorem sc_is_word : FnScope N_is_word ["value"] (defScope t_is_word) := ⟨rfl, rfl, rfl, nd_is_word, rfl, by decide +kernel, by decide +kernel⟩
theorem b_is_word (T : Tx K mg ca fa) : BodyOk P w K mg base ca Γ fa d N_is_word "is_word" t_is_word m_is_word := fun f cdv A outer s H E C =>
  (b_cons (s_if (PW.pt (w_or (t_not (t_val (s_isi rfl T.n_isinstance (s_var (pv 0)) (tyNm rfl T.n_str (by decide +kernel))) (fun _ _ _ => rfl))) (w_or (t_eq C.room (s_len rfl T.n_len (s_cons (s_var (pv 0)) s_nil)) s_int) (w_or (t_gt (s_len rfl T.n_len (s_cons (s_var (pv 0)) s_nil)) s_int) (w_one (t_notin C.room (s_idx C.room (s_var (pv 0)) s_int) (s_glob rfl T.c_LETTERS))))))) (b_cons (s_ret s_bl)
  b_nil) b_nil)
  (b_cons (s_ret (s_all C.calm rfl T.n_all (l_of_f (s_comp C.calm nd_is_word (i_seq (s_var (pv 0))) (own_ok (N := N_is_word) (sc := defScope t_is_word) [(("sign" : Str), 1)] ⟨rfl, by decide +kernel, by decide +kernel, by decide +kernel, by decide +kernel⟩) (fun _ _ _ _ _ => (pg_name nd_is_word (i := 1) rfl (by first | exact Or.inl rfl | exact Or.inr rfl))) (fun _ _ _ _ _ => ts_nil) (fun _ _ _ _ _ => (s_or (s_in C.room (s_var (pv 1)) (s_glob rfl T.c_LETTERS)) (s_one (s_in C.room (s_var (pv 1)) s_str)))) (tg_one _ 1) (by decide)))))
  b_nil))
theorem sc_is_count : FnScope N_is_count ["value"] (defScope t_is_count) := ⟨rfl, rfl, rfl, nd_is_count, rfl, by decide +kernel, by decide +kernel⟩
theorem b_is_count (T : Tx K mg ca fa) : BodyOk P w K mg base ca Γ fa d N_is_count "is_count" t_is_count m_is_count := fun f cdv A outer s H E C =>
  (b_cons (s_ret (s_and (s_isi rfl T.n_isinstance (s_var (pv 0)) (tyNm rfl T.n_int (by decide +kernel))) (s_and (s_not (s_isi rfl T.n_isinstance (s_var (pv 0)) (tyNm rfl T.n_bool (by decide +kernel))) (fun _ _ _ => rfl)) (s_one (s_ge (s_var (pv 0)) s_int)))))
  b_nil)
theorem sc_is_value : FnScope N_is_value ["value"] (defScope t_is_value) := ⟨rfl, rfl, rfl, nd_is_value, rfl, by decide +kernel, by decide +kernel⟩
theorem b_is_value (T : Tx K mg ca fa) : BodyOk P w K mg base ca Γ fa d N_is_value "is_value" t_is_value m_is_value := fun f cdv A outer s H E C =>
  (b_cons (s_if (PW.pt (w_or (t_not (t_val (s_isi rfl T.n_isinstance (s_var (pv 0)) (tyNm rfl T.n_tuple (by decide +kernel))) (fun _ _ _ => rfl))) (w_or (t_eq C.room (s_len rfl T.n_len (s_cons (s_var (pv 0)) s_nil)) s_int) (w_or (t_gt (s_len rfl T.n_len (s_cons (s_var (pv 0)) s_nil)) s_int) (w_one (t_not (t_val (s_isi rfl T.n_isinstance (s_idx C.room (s_var (pv 0)) s_int) (tyNm rfl T.n_str (by decide +kernel))) (fun _ _ _ => rfl)))))))) (b_cons (s_ret s_bl)
  b_nil) b_nil)
  (b_cons (s_set (ps_set nd_is_value (i := 1) rfl (by first | exact Or.inl rfl | exact Or.inr rfl) (s_idx C.room (s_var (pv 0)) s_int)) (fun _ _ _ q => q))
  (b_cons (s_if (t_eq C.room (s_var (pv 1)) s_str) (b_cons (s_ret (s_eq C.room (s_len rfl T.n_len (s_cons (s_var (pv 0)) s_nil)) s_int))
  b_nil) b_nil)
  (b_cons (s_if (t_eq C.room (s_var (pv 1)) s_str) (b_cons (s_ret (s_and (s_eq C.room (s_len rfl T.n_len (s_cons (s_var (pv 0)) s_nil)) s_int) (s_and (s_call C rfl T.g_is_word T.k_is_word (s_cons (s_idx C.room (s_var (pv 0)) s_int) s_nil)) (s_and (s_notin C.room (s_idx C.room (s_var (pv 0)) s_int) (s_glob rfl T.c_RESERVED)) (s_one (s_call C rfl T.g_is_count T.k_is_count (s_cons (s_idx C.room (s_var (pv 0)) s_int) s_nil)))))))
  b_nil) b_nil)
  (b_cons (s_if (t_ne C.room (s_len rfl T.n_len (s_cons (s_var (pv 0)) s_nil)) s_int) (b_cons (s_ret s_bl)
  b_nil) b_nil)
  (b_cons (s_if (t_eq C.room (s_var (pv 1)) s_str) (b_cons (s_ret (s_and (s_isi rfl T.n_isinstance (s_idx C.room (s_var (pv 0)) s_int) (tyNm rfl T.n_str (by decide +kernel))) (s_one (s_in C.room (s_idx C.room (s_var (pv 0)) s_int) (s_tup (s_cons s_str (s_cons s_str s_nil)))))))
  b_nil) b_nil)
  (b_cons (s_if (t_eq C.room (s_var (pv 1)) s_str) (b_cons (s_ret (s_call C rfl T.g_is_count T.k_is_count (s_cons (s_idx C.room (s_var (pv 0)) s_int) s_nil)))
  b_nil) b_nil)
  (b_cons (s_ret (s_and (s_in C.room (s_var (pv 1)) (s_tup (s_cons s_str (s_cons s_str s_nil)))) (s_one (s_call C rfl T.g_is_word T.k_is_word (s_cons (s_idx C.room (s_var (pv 0)) s_int) s_nil)))))
  b_nil))))))))
theorem sc_is_register : FnScope N_is_register ["value"] (defScope t_is_register) := ⟨rfl, rfl, rfl, nd_is_register, rfl, by decide +kernel, by decide +kernel⟩
theorem b_is_register (T : Tx K mg ca fa) : BodyOk P w K mg base ca Γ fa d N_is_register "is_register" t_is_register m_is_register := fun f cdv A outer s H E C =>
  (b_cons (s_ret (s_and (s_isi rfl T.n_isinstance (s_var (pv 0)) (tyNm rfl T.n_int (by decide +kernel))) (s_and (s_not (s_isi rfl T.n_isinstance (s_var (pv 0)) (tyNm rfl T.n_bool (by decide +kernel))) (fun _ _ _ => rfl)) (s_one (s_ge (s_var (pv 0)) s_int)))))
  b_nil)
theorem sc_is_tuple_of : FnScope N_is_tuple_of ["value", "many"] (defScope t_is_tuple_of) := ⟨rfl, rfl, rfl, nd_is_tuple_of, rfl, by decide +kernel, by decide +kernel⟩
theorem b_is_tuple_of (T : Tx K mg ca fa) : BodyOk P w K mg base ca Γ fa d N_is_tuple_of "is_tuple_of" t_is_tuple_of m_is_tuple_of := fun f cdv A outer s H E C =>
  (b_cons (s_ret (s_and (s_isi rfl T.n_isinstance (s_var (pv 0)) (tyNm rfl T.n_tuple (by decide +kernel))) (s_one (s_eq C.room (s_len rfl T.n_len (s_cons (s_var (pv 0)) s_nil)) (s_var (pv 1))))))
  b_nil)
theorem sc_is_mark : FnScope N_is_mark ["signature", "value"] (defScope t_is_mark) := ⟨rfl, rfl, rfl, nd_is_mark, rfl, by decide +kernel, by decide +kernel⟩
theorem b_is_mark (T : Tx K mg ca fa) : BodyOk P w K mg base ca Γ fa d N_is_mark "is_mark" t_is_mark m_is_mark := fun f cdv A outer s H E C =>
  (b_cons (s_if (PW.pt (w_and (t_val (s_call C rfl T.g_is_tuple_of T.k_is_tuple_of (s_cons (s_var (pv 1)) (s_cons s_int s_nil))) (fun _ _ _ => rfl)) (w_one (t_eq C.room (s_idx C.room (s_var (pv 1)) s_int) s_str)))) (b_cons (s_ret (s_call C rfl T.g_is_word T.k_is_word (s_cons (s_idx C.room (s_var (pv 1)) s_int) s_nil)))
  b_nil) b_nil)
  (b_cons (s_if (PW.pt (w_or (t_not (t_val (s_call C rfl T.g_is_value T.k_is_value (s_cons (s_var (pv 1)) s_nil)) (fun _ _ _ => rfl))) (w_one (t_eq C.room (s_idx C.room (s_var (pv 1)) s_int) s_str)))) (b_cons (s_ret s_bl)
  b_nil) b_nil)
  (b_cons (s_ret (s_or (s_ne C.room (s_idx C.room (s_var (pv 1)) s_int) s_str) (s_one (s_meth C (s_var (pv 0)) T.me_has_kind (s_cons (s_idx C.room (s_var (pv 1)) s_int) s_nil)))))
  b_nil)))
theorem sc_is_told_shape : FnScope N_is_told_shape ["value"] (defScope t_is_told_shape) := ⟨rfl, rfl, rfl, nd_is_told_shape, rfl, by decide +kernel, by decide +kernel⟩
theorem b_is_told_shape (T : Tx K mg ca fa) : BodyOk P w K mg base ca Γ fa d N_is_told_shape "is_told_shape" t_is_told_shape m_is_told_shape := fun f cdv A outer s H E C =>
  (b_cons (s_if (PW.pt (w_or (t_not (t_val (s_call C rfl T.g_is_tuple_of T.k_is_tuple_of (s_cons (s_var (pv 0)) (s_cons s_int s_nil))) (fun _ _ _ => rfl))) (w_one (t_not (t_val (s_isi rfl T.n_isinstance (s_idx C.room (s_var (pv 0)) s_int) (tyNm rfl T.n_tuple (by decide +kernel))) (fun _ _ _ => rfl)))))) (b_cons (s_ret s_bl)
  b_nil) b_nil)
  (b_cons (s_if (PW.pt (w_and (t_notN (s_idx C.room (s_var (pv 0)) s_int)) (w_one (t_not (t_val (s_call C rfl T.g_is_word T.k_is_word (s_cons (s_idx C.room (s_var (pv 0)) s_int) s_nil)) (fun _ _ _ => rfl)))))) (b_cons (s_ret s_bl)
  b_nil) b_nil)
  (b_cons (s_if (t_not (t_val (s_all C.calm rfl T.n_all (l_of_f (s_comp C.calm nd_is_told_shape (i_seq (s_idx C.room (s_var (pv 0)) s_int)) (own_ok (N := N_is_told_shape) (sc := defScope t_is_told_shape) [(("field" : Str), 1)] ⟨rfl, by decide +kernel, by decide +kernel, by decide +kernel, by decide +kernel⟩) (fun _ _ _ _ _ => (pg_name nd_is_told_shape (i := 1) rfl (by first | exact Or.inl rfl | exact Or.inr rfl))) (fun _ _ _ _ _ => ts_nil) (fun _ _ _ _ _ => (s_call (C.blk _ _ _ _ _) rfl T.g_is_word T.k_is_word (s_cons (s_var (pv 1)) s_nil))) (tg_one _ 1) (by decide)))) (fun _ _ _ => rfl))) (b_cons (s_ret s_bl)
  b_nil) b_nil)
  (b_cons (s_ret (s_eq C.room (s_lens C.calm rfl T.n_len rfl T.n_set (s_cons (s_idx C.room (s_var (pv 0)) s_int) s_nil)) (s_len rfl T.n_len (s_cons (s_idx C.room (s_var (pv 0)) s_int) s_nil))))
  b_nil))))
theorem sc_is_known_kind : FnScope N_is_known_kind ["signature", "value"] (defScope t_is_known_kind) := ⟨rfl, rfl, rfl, nd_is_known_kind, rfl, by decide +kernel, by decide +kernel⟩
theorem b_is_known_kind (T : Tx K mg ca fa) : BodyOk P w K mg base ca Γ fa d N_is_known_kind "is_known_kind" t_is_known_kind m_is_known_kind := fun f cdv A outer s H E C =>
  (b_cons (s_ret (s_and (s_isi rfl T.n_isinstance (s_var (pv 1)) (tyNm rfl T.n_str (by decide +kernel))) (s_one (s_or (s_in C.room (s_var (pv 1)) (s_glob rfl T.c_OWN_KINDS)) (s_one (s_meth C (s_var (pv 0)) T.me_has_kind (s_cons (s_var (pv 1)) s_nil)))))))
  b_nil)
theorem sc_is_fact : FnScope N_is_fact ["signature", "value"] (defScope t_is_fact) := ⟨rfl, rfl, rfl, nd_is_fact, rfl, by decide +kernel, by decide +kernel⟩
theorem b_is_fact (T : Tx K mg ca fa) : BodyOk P w K mg base ca Γ fa d N_is_fact "is_fact" t_is_fact m_is_fact := fun f cdv A outer s H E C =>
  (b_cons (s_if (PW.pt (w_or (t_not (t_val (s_call C rfl T.g_is_tuple_of T.k_is_tuple_of (s_cons (s_var (pv 1)) (s_cons s_int s_nil))) (fun _ _ _ => rfl))) (w_or (t_not (t_val (s_isi rfl T.n_isinstance (s_idx C.room (s_var (pv 1)) s_int) (tyNm rfl T.n_str (by decide +kernel))) (fun _ _ _ => rfl))) (w_one (t_notin C.room (s_idx C.room (s_var (pv 1)) s_int) (s_glob rfl T.c_REGISTER_WORDS)))))) (b_cons (s_ret s_bl)
  b_nil) b_nil)
  (b_cons (s_if (t_not (t_val (s_call C rfl T.g_is_register T.k_is_register (s_cons (s_idx C.room (s_var (pv 1)) s_int) s_nil)) (fun _ _ _ => rfl))) (b_cons (s_ret s_bl)
  b_nil) b_nil)
  (b_cons (s_if (t_eq C.room (s_idx C.room (s_var (pv 1)) s_int) s_str) (b_cons (s_ret (s_call C rfl T.g_is_known_kind T.k_is_known_kind (s_cons (s_var (pv 0)) (s_cons (s_idx C.room (s_var (pv 1)) s_int) s_nil))))
  b_nil) b_nil)
  (b_cons (s_if (t_eq C.room (s_idx C.room (s_var (pv 1)) s_int) s_str) (b_cons (s_ret (s_call C rfl T.g_is_mark T.k_is_mark (s_cons (s_var (pv 0)) (s_cons (s_idx C.room (s_var (pv 1)) s_int) s_nil))))
  b_nil) b_nil)
  (b_cons (s_ret (s_ifx (t_eq C.room (s_idx C.room (s_var (pv 1)) s_int) s_str) (s_call C rfl T.g_is_told_shape T.k_is_told_shape (s_cons (s_idx C.room (s_var (pv 1)) s_int) s_nil)) (s_call C rfl T.g_is_register T.k_is_register (s_cons (s_idx C.room (s_var (pv 1)) s_int) s_nil))))
  b_nil)))))
theorem sc_is_watched : FnScope N_is_watched ["signature", "value"] (defScope t_is_watched) := ⟨rfl, rfl, rfl, nd_is_watched, rfl, by decide +kernel, by decide +kernel⟩
theorem b_is_watched (T : Tx K mg ca fa) : BodyOk P w K mg base ca Γ fa d N_is_watched "is_watched" t_is_watched m_is_watched := fun f cdv A outer s H E C =>
  (b_cons (s_if (PW.pt (w_or (t_not (t_val (s_isi rfl T.n_isinstance (s_var (pv 1)) (tyNm rfl T.n_tuple (by decide +kernel))) (fun _ _ _ => rfl))) (w_or (t_eq C.room (s_var (pv 1)) (s_tup s_nil)) (w_one (t_not (t_val (s_isi rfl T.n_isinstance (s_idx C.room (s_var (pv 1)) s_int) (tyNm rfl T.n_str (by decide +kernel))) (fun _ _ _ => rfl))))))) (b_cons (s_ret s_bl)
  b_nil) b_nil)
  (b_cons (s_if (t_eq C.room (s_idx C.room (s_var (pv 1)) s_int) s_str) (b_cons (s_ret (s_and (s_eq C.room (s_len rfl T.n_len (s_cons (s_var (pv 1)) s_nil)) s_int) (s_and (s_call C rfl T.g_is_word T.k_is_word (s_cons (s_idx C.room (s_var (pv 1)) s_int) s_nil)) (s_and (s_call C rfl T.g_is_word T.k_is_word (s_cons (s_idx C.room (s_var (pv 1)) s_int) s_nil)) (s_one (s_call C rfl T.g_is_mark T.k_is_mark (s_cons (s_var (pv 0)) (s_cons (s_idx C.room (s_var (pv 1)) s_int) s_nil))))))))
  b_nil) b_nil)
  (b_cons (s_if (PW.pt (w_or (t_ne C.room (s_len rfl T.n_len (s_cons (s_var (pv 1)) s_nil)) s_int) (w_or (t_notin C.room (s_idx C.room (s_var (pv 1)) s_int) (s_glob rfl T.c_WATCHED_WORDS)) (w_one (t_not (t_val (s_call C rfl T.g_is_word T.k_is_word (s_cons (s_idx C.room (s_var (pv 1)) s_int) s_nil)) (fun _ _ _ => rfl))))))) (b_cons (s_ret s_bl)
  b_nil) b_nil)
  (b_cons (s_ret (s_ifx (t_eq C.room (s_idx C.room (s_var (pv 1)) s_int) s_str) (s_call C rfl T.g_is_told_shape T.k_is_told_shape (s_cons (s_idx C.room (s_var (pv 1)) s_int) s_nil)) (s_call C rfl T.g_is_mark T.k_is_mark (s_cons (s_var (pv 0)) (s_cons (s_idx C.room (s_var (pv 1)) s_int) s_nil)))))
  b_nil))))
theorem sc_look_at_kinds : FnScope N_look_at_kinds ["kinds"] (defScope t_look_at_kinds) := ⟨rfl, rfl, rfl, nd_look_at_kinds, rfl, by decide +kernel, by decide +kernel⟩
theorem b_look_at_kinds (T : Tx K mg ca fa) : BodyOk P w K mg base ca Γ fa d N_look_at_kinds "look_at_kinds" t_look_at_kinds m_look_at_kinds := fun f cdv A outer s H E C =>
  (b_cons (s_for PassesOwn.never C.calm (i_seq (s_var (pv 0))) (pg_name nd_look_at_kinds (i := 1) rfl (by first | exact Or.inl rfl | exact Or.inr rfl)) (tg_one _ 1) (b_cons (s_if (PW.pt (w_or (t_not (t_val (s_call C rfl T.g_is_word T.k_is_word (s_cons (s_var (pv 1)) s_nil)) (fun _ _ _ => rfl))) (w_one (t_in C.room (s_var (pv 1)) (s_glob rfl T.c_RESERVED))))) (b_cons s_never
  b_nil) b_nil)
  b_nil))
  (b_cons (s_for PassesOwn.never C.calm (i_enum rfl T.n_enumerate (s_var (pv 0))) (pg_tup rfl (pgs_cons (pg_name nd_look_at_kinds (i := 2) rfl (by first | exact Or.inl rfl | exact Or.inr rfl)) (pgs_cons (pg_name nd_look_at_kinds (i := 1) rfl (by first | exact Or.inl rfl | exact Or.inr rfl)) pgs_nil))) (tg_many _ [2, 1]) (b_cons (s_if (t_in C.room (s_var (pv 1)) (s_slc (s_var (pv 0)) o_none (o_some (s_var (pv 2))))) (b_cons s_never
  b_nil) b_nil)
  b_nil))
  b_nil))
theorem sc_is_variant : FnScope N_is_variant ["kinds", "own", "result"] (defScope t_is_variant) := ⟨rfl, rfl, rfl, nd_is_variant, rfl, by decide +kernel, by decide +kernel⟩
theorem b_is_variant (T : Tx K mg ca fa) : BodyOk P w K mg base ca Γ fa d N_is_variant "is_variant" t_is_variant m_is_variant := fun f cdv A outer s H E C =>
  (b_cons (s_if (PW.pt (w_or (t_not (t_val (s_isi rfl T.n_isinstance (s_var (pv 1)) (tyNm rfl T.n_tuple (by decide +kernel))) (fun _ _ _ => rfl))) (w_or (t_notin C.room (s_len rfl T.n_len (s_cons (s_var (pv 1)) s_nil)) (s_tup (s_cons s_int (s_cons s_int s_nil)))) (w_one (t_not (t_val (s_all C.calm rfl T.n_all (l_of_f (s_comp C.calm nd_is_variant (i_seq (s_var (pv 1))) (own_ok (N := N_is_variant) (sc := defScope t_is_variant) [(("kind" : Str), 3)] ⟨rfl, by decide +kernel, by decide +kernel, by decide +kernel, by decide +kernel⟩) (fun _ _ _ _ _ => (pg_name nd_is_variant (i := 3) rfl (by first | exact Or.inl rfl | exact Or.inr rfl))) (fun _ _ _ _ _ => ts_nil) (fun _ _ _ _ _ => (s_in C.room (s_var (pv 3)) (s_var (pv 0)))) (tg_one _ 3) (by decide)))) (fun _ _ _ => rfl))))))) (b_cons (s_ret s_bl)
  b_nil) b_nil)
  (b_cons (s_ret (s_or (s_in C.room (s_var (pv 2)) (s_var (pv 0))) (s_one (s_eq C.room (s_var (pv 2)) s_str))))
  b_nil))
theorem sc_look_at_primitives : FnScope N_look_at_primitives ["kinds", "primitives"] (defScope t_look_at_primitives) := ⟨rfl, rfl, rfl, nd_look_at_primitives, rfl, by decide +kernel, by decide +kernel⟩
theorem b_look_at_primitives (T : Tx K mg ca fa) : BodyOk P w K mg base ca Γ fa d N_look_at_primitives "look_at_primitives" t_look_at_primitives m_look_at_primitives := fun f cdv A outer s H E C =>
  (b_cons (s_set (ps_set nd_look_at_primitives (i := 2) rfl (by first | exact Or.inl rfl | exact Or.inr rfl) (s_mk (s_lstD s_nil))) (fun _ _ _ q => q))
  (b_cons (s_forK PassesOwn.never C.calm (pv 1) (pg_name nd_look_at_primitives (i := 3) rfl (by first | exact Or.inl rfl | exact Or.inr rfl)) (tg_one _ 3) (b_cons (s_if (t_not (t_val (s_call C rfl T.g_is_word T.k_is_word (s_cons (s_var (pv 3)) s_nil)) (fun _ _ _ => rfl))) (b_cons s_never
  b_nil) b_nil)
  (b_cons (s_set (ps_set nd_look_at_primitives (i := 4) rfl (by first | exact Or.inl rfl | exact Or.inr rfl) (s_mk (s_lstD s_nil))) (fun _ _ _ q => q))
  (b_cons (s_for PassesOwn.never C.calm (i_seq (s_idx C.room (s_var (pv 1)) (s_var (pv 3)))) (pg_tup rfl (pgs_cons (pg_name nd_look_at_primitives (i := 5) rfl (by first | exact Or.inl rfl | exact Or.inr rfl)) (pgs_cons (pg_name nd_look_at_primitives (i := 6) rfl (by first | exact Or.inl rfl | exact Or.inr rfl)) (pgs_cons (pg_name nd_look_at_primitives (i := 7) rfl (by first | exact Or.inl rfl | exact Or.inr rfl)) pgs_nil)))) (tg_many _ [5, 6, 7]) (b_cons (s_if (t_not (t_val (s_call C rfl T.g_is_word T.k_is_word (s_cons (s_var (pv 5)) s_nil)) (fun _ _ _ => rfl))) (b_cons s_never
  b_nil) b_nil)
  (b_cons (s_if (t_in C.room (s_var (pv 5)) (s_var (pv 2))) (b_cons s_never
  b_nil) b_nil)
  (b_cons (s_if (PW.pt (w_or (t_not (t_val (s_call C rfl T.g_is_variant T.k_is_variant (s_cons (s_var (pv 0)) (s_cons (s_var (pv 6)) (s_cons (s_var (pv 7)) s_nil)))) (fun _ _ _ => rfl))) (w_one (t_in C.room (s_var (pv 6)) (s_var (pv 4)))))) (b_cons s_never
  b_nil) b_nil)
  (b_cons (s_expr (s_append (s_var (pv 2)) (s_cons (s_var (pv 5)) s_nil)))
  (b_cons (s_expr (s_append (s_var (pv 4)) (s_cons (s_var (pv 6)) s_nil)))
  b_nil))))))
  b_nil))))
  b_nil))
theorem sc_Signature____init__ : FnScope N_Signature____init__ ["self", "kinds", "primitives"] (defScope t_Signature____init__) := ⟨rfl, rfl, rfl, nd_Signature____init__, rfl, by decide +kernel, by decide +kernel⟩
theorem b_Signature____init__ (T : Tx K mg ca fa) : BodyOk P w K mg base ca Γ fa d N_Signature____init__ "Signature.__init__" t_Signature____init__ m_Signature____init__ := fun f cdv A outer s H E C =>
  (b_cons (s_expr (s_call C rfl T.g_look_at_kinds T.k_look_at_kinds (s_cons (s_var (pv 1)) s_nil)))
  (b_cons (s_expr (s_call C rfl T.g_look_at_primitives T.k_look_at_primitives (s_cons (s_var (pv 1)) (s_cons (s_var (pv 2)) s_nil))))
  (b_cons (s_sfld (s_var (pv 0)) (s_list1 rfl T.n_list (s_cons (s_var (pv 1)) s_nil)) T.fa_kind_row)
  (b_cons (s_sfld (s_var (pv 0)) (s_mk (s_compK C.calm nd_Signature____init__ (pv 2) (own_ok (N := N_Signature____init__) (sc := defScope t_Signature____init__) [(("name" : Str), 3)] ⟨rfl, by decide +kernel, by decide +kernel, by decide +kernel, by decide +kernel⟩) (fun _ _ _ _ _ => (pg_name nd_Signature____init__ (i := 3) rfl (by first | exact Or.inl rfl | exact Or.inr rfl))) (fun _ _ _ _ _ => ts_nil) (fun _ _ _ _ _ => (s_tup (s_cons (s_var (pv 3)) (s_cons (s_list1 rfl T.n_list (s_cons (s_idx C.room (s_var (pv 2)) (s_var (pv 3))) s_nil)) s_nil)))) (tg_one _ 3) (by decide))) T.fa_primitive_rows)
  b_nil))))
theorem sc_Signature__kinds : FnScope N_Signature__kinds ["self"] (defScope t_Signature__kinds) := ⟨rfl, rfl, rfl, nd_Signature__kinds, rfl, by decide +kernel, by decide +kernel⟩
theorem b_Signature__kinds (T : Tx K mg ca fa) : BodyOk P w K mg base ca Γ fa d N_Signature__kinds "Signature.kinds" t_Signature__kinds m_Signature__kinds := fun f cdv A outer s H E C =>
  (b_cons (s_ret (s_list1 rfl T.n_list (s_cons (s_fld (s_var (pv 0)) T.fa_kind_row) s_nil)))
  b_nil)
theorem sc_Signature__primitives : FnScope N_Signature__primitives ["self"] (defScope t_Signature__primitives) := ⟨rfl, rfl, rfl, nd_Signature__primitives, rfl, by decide +kernel, by decide +kernel⟩
theorem b_Signature__primitives (T : Tx K mg ca fa) : BodyOk P w K mg base ca Γ fa d N_Signature__primitives "Signature.primitives" t_Signature__primitives m_Signature__primitives := fun f cdv A outer s H E C =>
  (b_cons (s_ret (s_mk (s_comp C.calm nd_Signature__primitives (i_seq (s_fld (s_var (pv 0)) T.fa_primitive_rows)) (own_ok (N := N_Signature__primitives) (sc := defScope t_Signature__primitives) [(("name" : Str), 1), (("rows" : Str), 2)] ⟨rfl, by decide +kernel, by decide +kernel, by decide +kernel, by decide +kernel⟩) (fun _ _ _ _ _ => (pg_tup rfl (pgs_cons (pg_name nd_Signature__primitives (i := 1) rfl (by first | exact Or.inl rfl | exact Or.inr rfl)) (pgs_cons (pg_name nd_Signature__primitives (i := 2) rfl (by first | exact Or.inl rfl | exact Or.inr rfl)) pgs_nil)))) (fun _ _ _ _ _ => ts_nil) (fun _ _ _ _ _ => (s_var (pv 1))) (tg_many _ [1, 2]) (by decide))))
  b_nil)
theorem sc_Signature__variants : FnScope N_Signature__variants ["self", "name"] (defScope t_Signature__variants) := ⟨rfl, rfl, rfl, nd_Signature__variants, rfl, by decide +kernel, by decide +kernel⟩
theorem b_Signature__variants (T : Tx K mg ca fa) : BodyOk P w K mg base ca Γ fa d N_Signature__variants "Signature.variants" t_Signature__variants m_Signature__variants := fun f cdv A outer s H E C =>
  (b_cons (s_for PassesOwn.never C.calm (i_seq (s_fld (s_var (pv 0)) T.fa_primitive_rows)) (pg_tup rfl (pgs_cons (pg_name nd_Signature__variants (i := 2) rfl (by first | exact Or.inl rfl | exact Or.inr rfl)) (pgs_cons (pg_name nd_Signature__variants (i := 3) rfl (by first | exact Or.inl rfl | exact Or.inr rfl)) pgs_nil))) (tg_many _ [2, 3]) (b_cons (s_if (t_eq C.room (s_var (pv 2)) (s_var (pv 1))) (b_cons (s_ret (s_list1 rfl T.n_list (s_cons (s_var (pv 3)) s_nil)))
  b_nil) b_nil)
  b_nil))
  (b_cons s_never
  b_nil))
theorem sc_Signature__variant : FnScope N_Signature__variant ["self", "name"] (defScope t_Signature__variant) := ⟨rfl, rfl, rfl, nd_Signature__variant, rfl, by decide +kernel, by decide +kernel⟩
theorem b_Signature__variant (T : Tx K mg ca fa) : BodyOk P w K mg base ca Γ fa d N_Signature__variant "Signature.variant" t_Signature__variant m_Signature__variant := fun f cdv A outer s H E C =>
  (b_cons (s_for PassesOwn.never C.calm (i_seq (s_fld (s_var (pv 0)) T.fa_primitive_rows)) (pg_tup rfl (pgs_cons (pg_name nd_Signature__variant (i := 2) rfl (by first | exact Or.inl rfl | exact Or.inr rfl)) (pgs_cons (pg_name nd_Signature__variant (i := 3) rfl (by first | exact Or.inl rfl | exact Or.inr rfl)) pgs_nil))) (tg_many _ [2, 3]) (b_cons (s_for PassesOwn.never C.calm (i_seq (s_var (pv 3))) (pg_tup rfl (pgs_cons (pg_name nd_Signature__variant (i := 4) rfl (by first | exact Or.inl rfl | exact Or.inr rfl)) (pgs_cons (pg_name nd_Signature__variant (i := 5) rfl (by first | exact Or.inl rfl | exact Or.inr rfl)) (pgs_cons (pg_name nd_Signature__variant (i := 6) rfl (by first | exact Or.inl rfl | exact Or.inr rfl)) pgs_nil)))) (tg_many _ [4, 5, 6]) (b_cons (s_if (t_eq C.room (s_var (pv 4)) (s_var (pv 1))) (b_cons (s_ret (s_tup (s_cons (s_var (pv 2)) (s_cons (s_var (pv 5)) (s_cons (s_var (pv 6)) s_nil)))))
  b_nil) b_nil)
  b_nil))
  b_nil))
  (b_cons s_never
  b_nil))
theorem sc_Signature__has_kind : FnScope N_Signature__has_kind ["self", "value"] (defScope t_Signature__has_kind) := ⟨rfl, rfl, rfl, nd_Signature__has_kind, rfl, by decide +kernel, by decide +kernel⟩
theorem b_Signature__has_kind (T : Tx K mg ca fa) : BodyOk P w K mg base ca Γ fa d N_Signature__has_kind "Signature.has_kind" t_Signature__has_kind m_Signature__has_kind := fun f cdv A outer s H E C =>
  (b_cons (s_ret (s_and (s_isi rfl T.n_isinstance (s_var (pv 1)) (tyNm rfl T.n_str (by decide +kernel))) (s_one (s_in C.room (s_var (pv 1)) (s_fld (s_var (pv 0)) T.fa_kind_row)))))
  b_nil)
theorem sc_Signature__has_primitive : FnScope N_Signature__has_primitive ["self", "value"] (defScope t_Signature__has_primitive) := ⟨rfl, rfl, rfl, nd_Signature__has_primitive, rfl, by decide +kernel, by decide +kernel⟩
theorem b_Signature__has_primitive (T : Tx K mg ca fa) : BodyOk P w K mg base ca Γ fa d N_Signature__has_primitive "Signature.has_primitive" t_Signature__has_primitive m_Signature__has_primitive := fun f cdv A outer s H E C =>
  (b_cons (s_expr (s_call C rfl T.g__wall T.k__wall (s_cons s_int s_nil)))
  b_nil)
theorem sc_Signature____eq__ : FnScope N_Signature____eq__ ["self", "other"] (defScope t_Signature____eq__) := ⟨rfl, rfl, rfl, nd_Signature____eq__, rfl, by decide +kernel, by decide +kernel⟩
theorem b_Signature____eq__ (T : Tx K mg ca fa) : BodyOk P w K mg base ca Γ fa d N_Signature____eq__ "Signature.__eq__" t_Signature____eq__ m_Signature____eq__ := fun f cdv A outer s H E C =>
  (b_cons s_never
  (b_cons (s_ret (s_and (s_eq C.room (s_fld (s_var (pv 0)) T.fa_kind_row) (s_fld (s_var (pv 1)) T.fa_kind_row)) (s_one (s_eq C.room (s_fld (s_var (pv 0)) T.fa_primitive_rows) (s_fld (s_var (pv 1)) T.fa_primitive_rows)))))
  b_nil))
theorem sc__law_source : FnScope N__law_source ["script"] (defScope t__law_source) := ⟨rfl, rfl, rfl, nd__law_source, rfl, by decide +kernel, by decide +kernel⟩
theorem b__law_source (T : Tx K mg ca fa) : BodyOk P w K mg base ca Γ fa d N__law_source "_law_source" t__law_source m__law_source := fun f cdv A outer s H E C =>
  (b_cons (s_set (ps_set nd__law_source (i := 1) rfl (by first | exact Or.inl rfl | exact Or.inr rfl) s_int) (fun _ _ _ q => q))
  (b_cons (s_for PassesOwn.never C.calm (i_seq (s_var (pv 0))) (pg_name nd__law_source (i := 2) rfl (by first | exact Or.inl rfl | exact Or.inr rfl)) (tg_one _ 2) (b_cons (s_set (ps_set nd__law_source (i := 1) rfl (by first | exact Or.inl rfl | exact Or.inr rfl) (s_mod (s_int1 rfl T.n_int (s_cons (s_add (s_add (s_mul (s_var (pv 1)) s_int) (s_mul (s_var (pv 2)) s_int)) s_int) s_nil)) s_int)) (fun _ _ _ q => q))
  b_nil))
  (b_cons (s_set (ps_set nd__law_source (i := 3) rfl (by first | exact Or.inl rfl | exact Or.inr rfl) (s_mk (s_comp C.calm nd__law_source (i_seq (s_var (pv 0))) (own_ok (N := N__law_source) (sc := defScope t__law_source) [(("cell" : Str), 2)] ⟨rfl, by decide +kernel, by decide +kernel, by decide +kernel, by decide +kernel⟩) (fun _ _ _ _ _ => (pg_name nd__law_source (i := 2) rfl (by first | exact Or.inl rfl | exact Or.inr rfl))) (fun _ _ _ _ _ => ts_nil) (fun _ _ _ _ _ => (s_abs rfl T.n_abs (s_cons (s_var (pv 2)) s_nil))) (tg_one _ 2) (by decide)))) (fun _ _ _ q => q))
  (b_cons (s_ret (s_dic (p_cons s_str (s_mk (s_comp C.calm nd__law_source (i_rng1 rfl T.n_range (s_len rfl T.n_len (s_cons (s_var (pv 3)) s_nil))) (own_ok (N := N__law_source) (sc := defScope t__law_source) [(("k" : Str), 4)] ⟨rfl, by decide +kernel, by decide +kernel, by decide +kernel, by decide +kernel⟩) (fun _ _ _ _ _ => (pg_name nd__law_source (i := 4) rfl (by first | exact Or.inl rfl | exact Or.inr rfl))) (fun _ _ _ _ _ => ts_nil) (fun _ _ _ _ _ => (s_idx C.room (s_var (pv 3)) (s_sub (s_sub (s_len rfl T.n_len (s_cons (s_var (pv 3)) s_nil)) s_int) (s_var (pv 4))))) (tg_one _ 4) (by decide))) (p_cons s_str s_int (p_cons s_str (s_var (pv 1)) (p_cons s_str s_int p_nil))))))
  b_nil))))
theorem sc__law_pick : FnScope N__law_pick ["source", "many"] (defScope t__law_pick) := ⟨rfl, rfl, rfl, nd__law_pick, rfl, by decide +kernel, by decide +kernel⟩
theorem b__law_pick (T : Tx K mg ca fa) : BodyOk P w K mg base ca Γ fa d N__law_pick "_law_pick" t__law_pick m__law_pick := fun f cdv A outer s H E C =>
  (b_cons (s_if (t_lt (s_var (pv 1)) s_int) (b_cons (s_ret s_int)
  b_nil) b_nil)
  (b_cons (s_set (ps_set nd__law_pick (i := 2) rfl (by first | exact Or.inl rfl | exact Or.inr rfl) (s_idx C.room (s_var (pv 0)) s_str)) (fun _ _ _ q => q))
  (b_cons (s_while PassesOwn.never (PW.pt (w_and (t_lt (s_idx C.room (s_var (pv 0)) s_str) s_int) (w_one (t_gt (s_len rfl T.n_len (s_cons (s_var (pv 2)) s_nil)) s_int)))) (b_cons (s_put (pg_sub (s_var (pv 0)) s_str (set_all (hu_of C.room) set_list)) (s_pop (s_var (pv 2))))
  b_nil))
  (b_cons (s_set (ps_set nd__law_pick (i := 3) rfl (by first | exact Or.inl rfl | exact Or.inr rfl) (s_idx C.room (s_var (pv 0)) s_str)) (fun _ _ _ q => q))
  (b_cons (s_if (t_gt (s_var (pv 3)) s_int) (b_cons (s_put (pg_sub (s_var (pv 0)) s_str (set_all (hu_of C.room) set_list)) (s_fdiv (s_var (pv 3)) (s_var (pv 1))))
  (b_cons (s_ret (s_mod (s_int1 rfl T.n_int (s_cons (s_var (pv 3)) s_nil)) (s_var (pv 1))))
  b_nil)) b_nil)
  (b_cons (s_put (pg_sub (s_var (pv 0)) s_str (set_all (hu_of C.room) set_list)) (s_add (s_idx C.room (s_var (pv 0)) s_str) s_int))
  (b_cons (s_set (ps_set nd__law_pick (i := 4) rfl (by first | exact Or.inl rfl | exact Or.inr rfl) (s_idx C.room (s_var (pv 0)) s_str)) (fun _ _ _ q => q))
  (b_cons (s_set (ps_set nd__law_pick (i := 5) rfl (by first | exact Or.inl rfl | exact Or.inr rfl) (s_mod (s_int1 rfl T.n_int (s_cons (s_add (s_idx C.room (s_var (pv 0)) s_str) (s_mul (s_var (pv 4)) s_int)) s_nil)) s_int)) (fun _ _ _ q => q))
  (b_cons (s_set (ps_set nd__law_pick (i := 5) rfl (by first | exact Or.inl rfl | exact Or.inr rfl) (s_mod (s_int1 rfl T.n_int (s_cons (s_add (s_mul (s_var (pv 5)) (s_var (pv 5))) (s_mul (s_var (pv 4)) s_int)) s_nil)) s_int)) (fun _ _ _ q => q))
  (b_cons (s_if (t_gt (s_var (pv 1)) (s_pow s_int s_int)) (b_cons (s_set (ps_set nd__law_pick (i := 5) rfl (by first | exact Or.inl rfl | exact Or.inr rfl) (s_pow (s_int1 rfl T.n_int (s_cons (s_add (s_mul (s_var (pv 5)) s_int) (s_var (pv 4))) s_nil)) s_int)) (fun _ _ _ q => q))
  b_nil) b_nil)
  (b_cons (s_ret (s_mod (s_int1 rfl T.n_int (s_cons (s_fdiv (s_var (pv 5)) s_int) s_nil)) (s_var (pv 1))))
  b_nil)))))))))))
theorem sc__law_one_of : FnScope N__law_one_of ["source", "some"] (defScope t__law_one_of) := ⟨rfl, rfl, rfl, nd__law_one_of, rfl, by decide +kernel, by decide +kernel⟩
theorem b__law_one_of (T : Tx K mg ca fa) : BodyOk P w K mg base ca Γ fa d N__law_one_of "_law_one_of" t__law_one_of m__law_one_of := fun f cdv A outer s H E C =>
  (b_cons (s_ret (s_idx C.room (s_var (pv 1)) (s_call C rfl T.g__law_pick T.k__law_pick (s_cons (s_var (pv 0)) (s_cons (s_len rfl T.n_len (s_cons (s_var (pv 1)) s_nil)) s_nil)))))
  b_nil)
theorem sc__law_signature : FnScope N__law_signature [] (defScope t__law_signature) := ⟨rfl, rfl, rfl, nd__law_signature, rfl, by decide +kernel, by decide +kernel⟩
theorem b__law_signature (T : Tx K mg ca fa) : BodyOk P w K mg base ca Γ fa d N__law_signature "_law_signature" t__law_signature m__law_signature := fun f cdv A outer s H E C =>
  (b_cons (s_set (ps_set nd__law_signature (i := 0) rfl (by first | exact Or.inl rfl | exact Or.inr rfl) (s_mk (s_lstD (s_cons (s_tup (s_cons s_str (s_cons (s_tup (s_cons s_str s_nil)) (s_cons s_str s_nil)))) (s_cons (s_tup (s_cons s_str (s_cons (s_tup (s_cons s_str s_nil)) (s_cons s_str s_nil)))) (s_cons (s_tup (s_cons s_str (s_cons (s_tup (s_cons s_str (s_cons s_str s_nil))) (s_cons s_str s_nil)))) s_nil)))))) (fun _ _ _ q => q))
  (b_cons (s_set (ps_set nd__law_signature (i := 1) rfl (by first | exact Or.inl rfl | exact Or.inr rfl) (s_mk (s_lstD (s_cons (s_tup (s_cons s_str (s_cons (s_tup (s_cons s_str s_nil)) (s_cons s_str s_nil)))) (s_cons (s_tup (s_cons s_str (s_cons (s_tup (s_cons s_str (s_cons s_str s_nil))) (s_cons s_str s_nil)))) s_nil))))) (fun _ _ _ q => q))
  (b_cons (s_ret (s_new C T.mk_Signature rfl T.gc_Signature (s_cons (s_mk (s_lstD (s_cons s_str (s_cons s_str (s_cons s_str s_nil))))) (s_cons (s_dic (p_cons s_str (s_var (pv 0)) (p_cons s_str (s_var (pv 1)) (p_cons s_str (s_mk (s_lstD s_nil)) p_nil)))) s_nil))))
  b_nil)))
theorem sc__law_mark : FnScope N__law_mark ["source"] (defScope t__law_mark) := ⟨rfl, rfl, rfl, nd__law_mark, rfl, by decide +kernel, by decide +kernel⟩
theorem b__law_mark (T : Tx K mg ca fa) : BodyOk P w K mg base ca Γ fa d N__law_mark "_law_mark" t__law_mark m__law_mark := fun f cdv A outer s H E C =>
  (b_cons (s_set (ps_set nd__law_mark (i := 1) rfl (by first | exact Or.inl rfl | exact Or.inr rfl) (s_mk (s_lstD (s_cons (s_tup (s_cons s_str s_nil)) (s_cons (s_tup (s_cons s_str (s_cons s_str s_nil))) (s_cons (s_tup (s_cons s_str (s_cons s_str s_nil))) (s_cons (s_tup (s_cons s_str (s_cons s_str (s_cons s_int s_nil)))) (s_cons (s_tup (s_cons s_str (s_cons s_str (s_cons s_int s_nil)))) (s_cons (s_tup (s_cons s_str (s_cons s_str (s_cons s_int s_nil)))) s_nil))))))))) (fun _ _ _ q => q))
  (b_cons (s_set (ps_set nd__law_mark (i := 1) rfl (by first | exact Or.inl rfl | exact Or.inr rfl) (s_add (s_var (pv 1)) (s_mk (s_lstD (s_cons (s_tup (s_cons s_str (s_cons s_str s_nil))) (s_cons (s_tup (s_cons s_str (s_cons s_str s_nil))) (s_cons (s_tup (s_cons s_str (s_cons s_str s_nil))) (s_cons (s_tup (s_cons s_str (s_cons s_str s_nil))) (s_cons (s_tup (s_cons s_str (s_cons s_str s_nil))) (s_cons (s_tup (s_cons s_str (s_cons s_str s_nil))) s_nil)))))))))) (fun _ _ _ q => q))
  (b_cons (s_ret (s_call C rfl T.g__law_one_of T.k__law_one_of (s_cons (s_var (pv 0)) (s_cons (s_add (s_var (pv 1)) (s_mk (s_lstD (s_cons (s_tup (s_cons s_str (s_cons s_str s_nil))) (s_cons (s_tup (s_cons s_str (s_cons s_str (s_cons s_int s_nil)))) s_nil))))) s_nil))))
  b_nil)))
theorem sc__law_shape : FnScope N__law_shape ["source"] (defScope t__law_shape) := ⟨rfl, rfl, rfl, nd__law_shape, rfl, by decide +kernel, by decide +kernel⟩
theorem b__law_shape (T : Tx K mg ca fa) : BodyOk P w K mg base ca Γ fa d N__law_shape "_law_shape" t__law_shape m__law_shape := fun f cdv A outer s H E C =>
  (b_cons (s_set (ps_set nd__law_shape (i := 1) rfl (by first | exact Or.inl rfl | exact Or.inr rfl) (s_call C rfl T.g__law_one_of T.k__law_one_of (s_cons (s_var (pv 0)) (s_cons (s_mk (s_lstD (s_cons (s_tup s_nil) (s_cons (s_tup (s_cons s_str s_nil)) (s_cons (s_tup (s_cons s_str s_nil)) (s_cons (s_tup (s_cons s_str (s_cons s_str s_nil))) (s_cons (s_tup (s_cons s_str (s_cons s_str s_nil))) s_nil))))))) s_nil)))) (fun _ _ _ q => q))
  (b_cons (s_ret (s_tup (s_cons (s_call C rfl T.g__law_one_of T.k__law_one_of (s_cons (s_var (pv 0)) (s_cons (s_mk (s_lstD (s_cons s_non (s_cons s_non (s_cons s_str (s_cons s_str (s_cons s_str s_nil))))))) s_nil))) (s_cons (s_var (pv 1)) s_nil))))
  b_nil))
theorem sc__law_fact : FnScope N__law_fact ["source", "many"] (defScope t__law_fact) := ⟨rfl, rfl, rfl, nd__law_fact, rfl, by decide +kernel, by decide +kernel⟩
theorem b__law_fact (T : Tx K mg ca fa) : BodyOk P w K mg base ca Γ fa d N__law_fact "_law_fact" t__law_fact m__law_fact := fun f cdv A outer s H E C =>
  (b_cons (s_par3 C.calm nd__law_fact (i := 2) (j := 3) (l := 4) rfl rfl rfl (by decide) (by decide) (by decide) rfl rfl rfl (s_cons (s_call C rfl T.g__law_pick T.k__law_pick (s_cons (s_var (pv 0)) (s_cons (s_var (pv 1)) s_nil))) (s_cons (s_call C rfl T.g__law_pick T.k__law_pick (s_cons (s_var (pv 0)) (s_cons (s_var (pv 1)) s_nil))) (s_cons (s_call C rfl T.g__law_pick T.k__law_pick (s_cons (s_var (pv 0)) (s_cons s_int s_nil))) s_nil))) rfl rfl)
  (b_cons (s_if (t_lt (s_var (pv 4)) s_int) (b_cons (s_ret (s_tup (s_cons s_str (s_cons (s_var (pv 2)) (s_cons (s_call C rfl T.g__law_one_of T.k__law_one_of (s_cons (s_var (pv 0)) (s_cons (s_mk (s_lstD (s_cons s_str (s_cons s_str (s_cons s_str (s_cons s_str (s_cons s_str (s_cons s_str (s_cons s_str (s_cons s_str (s_cons s_str s_nil))))))))))) s_nil))) s_nil)))))
  b_nil) b_nil)
  (b_cons (s_if (t_lt (s_var (pv 4)) s_int) (b_cons (s_ret (s_tup (s_cons s_str (s_cons (s_var (pv 2)) (s_cons (s_call C rfl T.g__law_mark T.k__law_mark (s_cons (s_var (pv 0)) s_nil)) s_nil)))))
  b_nil) b_nil)
  (b_cons (s_if (t_lt (s_var (pv 4)) s_int) (b_cons (s_ret (s_tup (s_cons s_str (s_cons (s_var (pv 2)) (s_cons (s_call C rfl T.g__law_shape T.k__law_shape (s_cons (s_var (pv 0)) s_nil)) s_nil)))))
  b_nil) b_nil)
  (b_cons (s_if (t_lt (s_var (pv 4)) s_int) (b_cons (s_ret (s_tup (s_cons s_str (s_cons (s_var (pv 2)) (s_cons (s_var (pv 3)) s_nil)))))
  b_nil) b_nil)
  (b_cons (s_if (t_lt (s_var (pv 4)) s_int) (b_cons (s_ret (s_tup (s_cons s_str (s_cons (s_var (pv 2)) (s_cons (s_var (pv 3)) s_nil)))))
  b_nil) b_nil)
  (b_cons (s_if (t_eq C.room (s_var (pv 4)) s_int) (b_cons (s_ret (s_tup (s_cons s_str (s_cons (s_call C rfl T.g__law_one_of T.k__law_one_of (s_cons (s_var (pv 0)) (s_cons (s_mk (s_lstD (s_cons s_str (s_cons s_str s_nil)))) s_nil))) (s_cons (s_call C rfl T.g__law_mark T.k__law_mark (s_cons (s_var (pv 0)) s_nil)) s_nil)))))
  b_nil) b_nil)
  (b_cons (s_if (t_eq C.room (s_var (pv 4)) s_int) (b_cons (s_ret (s_tup (s_cons s_str (s_cons (s_call C rfl T.g__law_one_of T.k__law_one_of (s_cons (s_var (pv 0)) (s_cons (s_mk (s_lstD (s_cons s_str (s_cons s_str (s_cons s_str s_nil))))) s_nil))) (s_cons (s_call C rfl T.g__law_shape T.k__law_shape (s_cons (s_var (pv 0)) s_nil)) s_nil)))))
  b_nil) b_nil)
  (b_cons (s_ret (s_tup (s_cons s_str (s_cons (s_call C rfl T.g__law_one_of T.k__law_one_of (s_cons (s_var (pv 0)) (s_cons (s_mk (s_lstD (s_cons s_str (s_cons s_str s_nil)))) s_nil))) (s_cons (s_call C rfl T.g__law_one_of T.k__law_one_of (s_cons (s_var (pv 0)) (s_cons (s_mk (s_lstD (s_cons s_str (s_cons s_str s_nil)))) s_nil))) (s_cons (s_call C rfl T.g__law_mark T.k__law_mark (s_cons (s_var (pv 0)) s_nil)) s_nil))))))
  b_nil)))))))))
theorem sc__law_is_word : FnScope N__law_is_word ["value"] (defScope t__law_is_word) := ⟨rfl, rfl, rfl, nd__law_is_word, rfl, by decide +kernel, by decide +kernel⟩
theorem b__law_is_word (T : Tx K mg ca fa) : BodyOk P w K mg base ca Γ fa d N__law_is_word "_law_is_word" t__law_is_word m__law_is_word := fun f cdv A outer s H E C =>
  (b_cons (s_if (PW.pt (w_or (t_not (t_val (s_isi rfl T.n_isinstance (s_var (pv 0)) (tyNm rfl T.n_str (by decide +kernel))) (fun _ _ _ => rfl))) (w_or (t_not (t_chain (co_le _ _) (co_le _ _) s_int (s_len rfl T.n_len (s_cons (s_var (pv 0)) s_nil)) s_int)) (w_one (t_not (t_chain (co_le _ _) (co_le _ _) s_str (s_idx C.room (s_var (pv 0)) s_int) s_str)))))) (b_cons (s_ret s_bl)
  b_nil) b_nil)
  (b_cons (s_ret (s_eqL C.room (s_comp C.calm nd__law_is_word (i_seq (s_var (pv 0))) (own_ok (N := N__law_is_word) (sc := defScope t__law_is_word) [(("sign" : Str), 1)] ⟨rfl, by decide +kernel, by decide +kernel, by decide +kernel, by decide +kernel⟩) (fun _ _ _ _ _ => (pg_name nd__law_is_word (i := 1) rfl (by first | exact Or.inl rfl | exact Or.inr rfl))) (fun _ _ _ _ _ => (ts_one (t_notin C.room (s_var (pv 1)) s_str))) (fun _ _ _ _ _ => s_int) (tg_one _ 1) (by decide)) (l_of_f (s_lstD s_nil))))
  b_nil))
theorem sc__law_is_number : FnScope N__law_is_number ["value"] (defScope t__law_is_number) := ⟨rfl, rfl, rfl, nd__law_is_number, rfl, by decide +kernel, by decide +kernel⟩
theorem b__law_is_number (T : Tx K mg ca fa) : BodyOk P w K mg base ca Γ fa d N__law_is_number "_law_is_number" t__law_is_number m__law_is_number := fun f cdv A outer s H E C =>
  (b_cons (s_ret (s_and (s_isi rfl T.n_isinstance (s_var (pv 0)) (tyNm rfl T.n_int (by decide +kernel))) (s_and (s_not (s_isi rfl T.n_isinstance (s_var (pv 0)) (tyNm rfl T.n_bool (by decide +kernel))) (fun _ _ _ => rfl)) (s_one (s_ge (s_var (pv 0)) s_int)))))
  b_nil)
theorem sc__law_is_mark : FnScope N__law_is_mark ["value"] (defScope t__law_is_mark) := ⟨rfl, rfl, rfl, nd__law_is_mark, rfl, by decide +kernel, by decide +kernel⟩
theorem b__law_is_mark (T : Tx K mg ca fa) : BodyOk P w K mg base ca Γ fa d N__law_is_mark "_law_is_mark" t__law_is_mark m__law_is_mark := fun f cdv A outer s H E C =>
  (b_cons (s_if (PW.pt (w_or (t_not (t_val (s_isi rfl T.n_isinstance (s_var (pv 0)) (tyNm rfl T.n_tuple (by decide +kernel))) (fun _ _ _ => rfl))) (w_or (t_eq C.room (s_var (pv 0)) (s_tup s_nil)) (w_one (t_not (t_val (s_isi rfl T.n_isinstance (s_idx C.room (s_var (pv 0)) s_int) (tyNm rfl T.n_str (by decide +kernel))) (fun _ _ _ => rfl))))))) (b_cons (s_ret s_bl)
  b_nil) b_nil)
  (b_cons (s_if (t_eq C.room (s_idx C.room (s_var (pv 0)) s_int) s_str) (b_cons (s_ret (s_eq C.room (s_var (pv 0)) (s_tup (s_cons s_str s_nil))))
  b_nil) b_nil)
  (b_cons (s_if (t_eq C.room (s_idx C.room (s_var (pv 0)) s_int) s_str) (b_cons (s_ret (s_in C.room (s_var (pv 0)) (s_mk (s_lstD (s_cons (s_tup (s_cons s_str (s_cons s_str s_nil))) (s_cons (s_tup (s_cons s_str (s_cons s_str s_nil))) s_nil))))))
  b_nil) b_nil)
  (b_cons (s_if (t_eq C.room (s_idx C.room (s_var (pv 0)) s_int) s_str) (b_cons (s_ret (s_and (s_eq C.room (s_len rfl T.n_len (s_cons (s_var (pv 0)) s_nil)) s_int) (s_and (s_in C.room (s_idx C.room (s_var (pv 0)) s_int) (s_mk (s_lstD (s_cons s_str (s_cons s_str (s_cons s_str s_nil)))))) (s_one (s_call C rfl T.g__law_is_number T.k__law_is_number (s_cons (s_idx C.room (s_var (pv 0)) s_int) s_nil))))))
  b_nil) b_nil)
  (b_cons (s_ret (s_and (s_eq C.room (s_len rfl T.n_len (s_cons (s_var (pv 0)) s_nil)) s_int) (s_and (s_in C.room (s_idx C.room (s_var (pv 0)) s_int) (s_mk (s_lstD (s_cons s_str (s_cons s_str (s_cons s_str s_nil)))))) (s_one (s_call C rfl T.g__law_is_word T.k__law_is_word (s_cons (s_idx C.room (s_var (pv 0)) s_int) s_nil))))))
  b_nil)))))
theorem sc__law_is_shape : FnScope N__law_is_shape ["value"] (defScope t__law_is_shape) := ⟨rfl, rfl, rfl, nd__law_is_shape, rfl, by decide +kernel, by decide +kernel⟩
theorem b__law_is_shape (T : Tx K mg ca fa) : BodyOk P w K mg base ca Γ fa d N__law_is_shape "_law_is_shape" t__law_is_shape m__law_is_shape := fun f cdv A outer s H E C =>
  (b_cons (s_if (PW.pt (w_or (t_not (t_val (s_isi rfl T.n_isinstance (s_var (pv 0)) (tyNm rfl T.n_tuple (by decide +kernel))) (fun _ _ _ => rfl))) (w_or (t_ne C.room (s_len rfl T.n_len (s_cons (s_var (pv 0)) s_nil)) s_int) (w_one (t_not (t_val (s_isi rfl T.n_isinstance (s_idx C.room (s_var (pv 0)) s_int) (tyNm rfl T.n_tuple (by decide +kernel))) (fun _ _ _ => rfl))))))) (b_cons (s_ret s_bl)
  b_nil) b_nil)
  (b_cons (s_if (PW.pt (w_and (t_notN (s_idx C.room (s_var (pv 0)) s_int)) (w_one (t_not (t_val (s_call C rfl T.g__law_is_word T.k__law_is_word (s_cons (s_idx C.room (s_var (pv 0)) s_int) s_nil)) (fun _ _ _ => rfl)))))) (b_cons (s_ret s_bl)
  b_nil) b_nil)
  (b_cons (s_if (t_ne C.room (s_mk (s_comp C.calm nd__law_is_shape (i_seq (s_idx C.room (s_var (pv 0)) s_int)) (own_ok (N := N__law_is_shape) (sc := defScope t__law_is_shape) [(("word" : Str), 1)] ⟨rfl, by decide +kernel, by decide +kernel, by decide +kernel, by decide +kernel⟩) (fun _ _ _ _ _ => (pg_name nd__law_is_shape (i := 1) rfl (by first | exact Or.inl rfl | exact Or.inr rfl))) (fun _ _ _ _ _ => (ts_one (t_not (t_val (s_call (C.blk _ _ _ _ _) rfl T.g__law_is_word T.k__law_is_word (s_cons (s_var (pv 1)) s_nil)) (fun _ _ _ => rfl))))) (fun _ _ _ _ _ => s_int) (tg_one _ 1) (by decide))) (s_mk (s_lstD s_nil))) (b_cons (s_ret s_bl)
  b_nil) b_nil)
  (b_cons (s_ret (s_eq C.room (s_len rfl T.n_len (s_cons (s_idx C.room (s_var (pv 0)) s_int) s_nil)) (s_lens C.calm rfl T.n_len rfl T.n_set (s_cons (s_idx C.room (s_var (pv 0)) s_int) s_nil))))
  b_nil))))
theorem sc__law_is_fact : FnScope N__law_is_fact ["value"] (defScope t__law_is_fact) := ⟨rfl, rfl, rfl, nd__law_is_fact, rfl, by decide +kernel, by decide +kernel⟩
theorem b__law_is_fact (T : Tx K mg ca fa) : BodyOk P w K mg base ca Γ fa d N__law_is_fact "_law_is_fact" t__law_is_fact m__law_is_fact := fun f cdv A outer s H E C =>
  (b_cons (s_if (PW.pt (w_or (t_not (t_val (s_isi rfl T.n_isinstance (s_var (pv 0)) (tyNm rfl T.n_tuple (by decide +kernel))) (fun _ _ _ => rfl))) (w_or (t_ne C.room (s_len rfl T.n_len (s_cons (s_var (pv 0)) s_nil)) s_int) (w_one (t_not (t_val (s_call C rfl T.g__law_is_number T.k__law_is_number (s_cons (s_idx C.room (s_var (pv 0)) s_int) s_nil)) (fun _ _ _ => rfl))))))) (b_cons (s_ret s_bl)
  b_nil) b_nil)
  (b_cons (s_if (t_eq C.room (s_idx C.room (s_var (pv 0)) s_int) s_str) (b_cons (s_ret (s_in C.room (s_idx C.room (s_var (pv 0)) s_int) (s_mk (s_lstD (s_cons s_str (s_cons s_str (s_cons s_str (s_cons s_str (s_cons s_str (s_cons s_str (s_cons s_str (s_cons s_str s_nil))))))))))))
  b_nil) b_nil)
  (b_cons (s_if (t_eq C.room (s_idx C.room (s_var (pv 0)) s_int) s_str) (b_cons (s_ret (s_call C rfl T.g__law_is_mark T.k__law_is_mark (s_cons (s_idx C.room (s_var (pv 0)) s_int) s_nil)))
  b_nil) b_nil)
  (b_cons (s_if (t_eq C.room (s_idx C.room (s_var (pv 0)) s_int) s_str) (b_cons (s_ret (s_call C rfl T.g__law_is_shape T.k__law_is_shape (s_cons (s_idx C.room (s_var (pv 0)) s_int) s_nil)))
  b_nil) b_nil)
  (b_cons (s_ret (s_and (s_in C.room (s_idx C.room (s_var (pv 0)) s_int) (s_mk (s_lstD (s_cons s_str (s_cons s_str s_nil))))) (s_one (s_call C rfl T.g__law_is_number T.k__law_is_number (s_cons (s_idx C.room (s_var (pv 0)) s_int) s_nil)))))
  b_nil)))))
theorem sc__law_is_watched : FnScope N__law_is_watched ["value"] (defScope t__law_is_watched) := ⟨rfl, rfl, rfl, nd__law_is_watched, rfl, by decide +kernel, by decide +kernel⟩
theorem b__law_is_watched (T : Tx K mg ca fa) : BodyOk P w K mg base ca Γ fa d N__law_is_watched "_law_is_watched" t__law_is_watched m__law_is_watched := fun f cdv A outer s H E C =>
  (b_cons (s_if (PW.pt (w_or (t_not (t_val (s_isi rfl T.n_isinstance (s_var (pv 0)) (tyNm rfl T.n_tuple (by decide +kernel))) (fun _ _ _ => rfl))) (w_or (t_notin C.room (s_len rfl T.n_len (s_cons (s_var (pv 0)) s_nil)) (s_mk (s_lstD (s_cons s_int (s_cons s_int s_nil))))) (w_one (t_not (t_val (s_call C rfl T.g__law_is_word T.k__law_is_word (s_cons (s_idx C.room (s_var (pv 0)) s_int) s_nil)) (fun _ _ _ => rfl))))))) (b_cons (s_ret s_bl)
  b_nil) b_nil)
  (b_cons (s_if (t_eq C.room (s_idx C.room (s_var (pv 0)) s_int) s_str) (b_cons (s_ret (s_and (s_eq C.room (s_len rfl T.n_len (s_cons (s_var (pv 0)) s_nil)) s_int) (s_and (s_call C rfl T.g__law_is_word T.k__law_is_word (s_cons (s_idx C.room (s_var (pv 0)) s_int) s_nil)) (s_one (s_call C rfl T.g__law_is_mark T.k__law_is_mark (s_cons (s_idx C.room (s_var (pv 0)) s_int) s_nil))))))
  b_nil) b_nil)
  (b_cons (s_if (t_ne C.room (s_len rfl T.n_len (s_cons (s_var (pv 0)) s_nil)) s_int) (b_cons (s_ret s_bl)
  b_nil) b_nil)
  (b_cons (s_ret (s_or (s_and (s_eq C.room (s_idx C.room (s_var (pv 0)) s_int) s_str) (s_one (s_call C rfl T.g__law_is_shape T.k__law_is_shape (s_cons (s_idx C.room (s_var (pv 0)) s_int) s_nil)))) (s_one (s_and (s_eq C.room (s_idx C.room (s_var (pv 0)) s_int) s_str) (s_one (s_call C rfl T.g__law_is_mark T.k__law_is_mark (s_cons (s_idx C.room (s_var (pv 0)) s_int) s_nil)))))))
  b_nil))))
theorem sc__law_odd : FnScope N__law_odd ["source"] (defScope t__law_odd) := ⟨rfl, rfl, rfl, nd__law_odd, rfl, by decide +kernel, by decide +kernel⟩
theorem b__law_odd (T : Tx K mg ca fa) : BodyOk P w K mg base ca Γ fa d N__law_odd "_law_odd" t__law_odd m__law_odd := fun f cdv A outer s H E C =>
  (b_cons (s_set (ps_set nd__law_odd (i := 1) rfl (by first | exact Or.inl rfl | exact Or.inr rfl) (s_mk (s_lstD (s_cons s_non (s_cons s_bl (s_cons s_bl (s_cons s_int (s_cons s_int (s_cons (s_neg s_int) (s_cons s_str (s_cons s_str (s_cons s_str (s_cons s_str (s_cons s_str (s_cons s_str (s_cons s_str (s_cons s_str s_nil))))))))))))))))) (fun _ _ _ q => q))
  (b_cons (s_set (ps_set nd__law_odd (i := 1) rfl (by first | exact Or.inl rfl | exact Or.inr rfl) (s_add (s_var (pv 1)) (s_mk (s_lstD (s_cons s_str (s_cons s_str (s_cons s_str s_nil))))))) (fun _ _ _ q => q))
  (b_cons (s_set (ps_set nd__law_odd (i := 1) rfl (by first | exact Or.inl rfl | exact Or.inr rfl) (s_add (s_var (pv 1)) (s_mk (s_lstD (s_cons (s_tup s_nil) (s_cons (s_mk (s_lstD s_nil)) (s_cons s_dic0 (s_cons (s_tup (s_cons s_str s_nil)) (s_cons (s_tup (s_cons s_str (s_cons s_int s_nil))) (s_cons (s_tup (s_cons s_str (s_cons s_str s_nil))) (s_cons (s_tup (s_cons s_str (s_cons s_str (s_cons s_int s_nil)))) (s_cons (s_tup (s_cons s_str (s_cons s_str s_nil))) (s_cons (s_tup (s_cons s_non (s_cons (s_tup s_nil) s_nil))) s_nil))))))))))))) (fun _ _ _ q => q))
  (b_cons (s_ret (s_call C rfl T.g__law_one_of T.k__law_one_of (s_cons (s_var (pv 0)) (s_cons (s_add (s_var (pv 1)) (s_mk (s_lstD (s_cons (s_tup (s_cons s_non (s_cons (s_tup (s_cons s_str (s_cons s_str s_nil))) s_nil))) (s_cons (s_tup (s_cons s_str (s_cons s_str (s_cons s_bl s_nil)))) (s_cons (s_tup (s_cons s_str (s_cons s_str (s_cons s_int s_nil)))) (s_cons (s_mk (s_lstD (s_cons s_str s_nil))) s_nil))))))) s_nil))))
  b_nil))))
theorem sc__law_bent : FnScope N__law_bent ["source", "value", "deep"] (defScope t__law_bent) := ⟨rfl, rfl, rfl, nd__law_bent, rfl, by decide +kernel, by decide +kernel⟩
theorem b__law_bent (T : Tx K mg ca fa) : BodyOk P w K mg base ca Γ fa d N__law_bent "_law_bent" t__law_bent m__law_bent := fun f cdv A outer s H E C =>
  (b_cons (s_if (PW.pt (w_or (t_not (t_val (s_isi rfl T.n_isinstance (s_var (pv 1)) (tyNm rfl T.n_tuple (by decide +kernel))) (fun _ _ _ => rfl))) (w_or (t_eq C.room (s_var (pv 1)) (s_tup s_nil)) (w_or (t_eq C.room (s_var (pv 2)) s_int) (w_one (t_eq C.room (s_call C rfl T.g__law_pick T.k__law_pick (s_cons (s_var (pv 0)) (s_cons s_int s_nil))) s_int)))))) (b_cons (s_set (ps_set nd__law_bent (i := 4) rfl (by first | exact Or.inl rfl | exact Or.inr rfl) (s_call C rfl T.g__law_pick T.k__law_pick (s_cons (s_var (pv 0)) (s_cons s_int s_nil)))) (fun _ _ _ q => q))
  (b_cons (s_if (PW.pt (w_and (t_val (s_isi rfl T.n_isinstance (s_var (pv 1)) (tyNm rfl T.n_tuple (by decide +kernel))) (fun _ _ _ => rfl)) (w_one (t_lt (s_var (pv 4)) s_int)))) (b_cons (s_ret (s_idx C.room (s_mk (s_lstD (s_cons (s_slc (s_var (pv 1)) (o_some s_int) o_none) (s_cons (s_slc (s_var (pv 1)) o_none (o_some (s_neg s_int))) (s_cons (s_add (s_var (pv 1)) (s_tup (s_cons (s_call C rfl T.g__law_odd T.k__law_odd (s_cons (s_var (pv 0)) s_nil)) s_nil))) (s_cons (s_list1 rfl T.n_list (s_cons (s_var (pv 1)) s_nil)) s_nil)))))) (s_var (pv 4))))
  b_nil) b_nil)
  (b_cons (s_ret (s_call C rfl T.g__law_odd T.k__law_odd (s_cons (s_var (pv 0)) s_nil)))
  b_nil))) b_nil)
  (b_cons (s_set (ps_set nd__law_bent (i := 3) rfl (by first | exact Or.inl rfl | exact Or.inr rfl) (s_call C rfl T.g__law_pick T.k__law_pick (s_cons (s_var (pv 0)) (s_cons (s_len rfl T.n_len (s_cons (s_var (pv 1)) s_nil)) s_nil)))) (fun _ _ _ q => q))
  (b_cons (s_ret (s_add (s_add (s_slc (s_var (pv 1)) o_none (o_some (s_var (pv 3)))) (s_tup (s_cons (s_call C rfl T.g__law_bent T.k__law_bent (s_cons (s_var (pv 0)) (s_cons (s_idx C.room (s_var (pv 1)) (s_var (pv 3))) (s_cons (s_sub (s_var (pv 2)) s_int) s_nil)))) s_nil))) (s_slc (s_var (pv 1)) (o_some (s_add (s_var (pv 3)) s_int)) o_none)))
  b_nil)))
theorem sc_law : FnScope N_law ["script"] (defScope t_law) := ⟨rfl, rfl, rfl, nd_law, rfl, by decide +kernel, by decide +kernel⟩
theorem b_law (T : Tx K mg ca fa) : BodyOk P w K mg base ca Γ fa d N_law "law" t_law m_law := fun f cdv A outer s H E C =>
  (b_cons (s_set (ps_set nd_law (i := 1) rfl (by first | exact Or.inl rfl | exact Or.inr rfl) (s_call C rfl T.g__law_source T.k__law_source (s_cons (s_var (pv 0)) s_nil))) (fun _ _ _ q => q))
  (b_cons (s_set (ps_set nd_law (i := 2) rfl (by first | exact Or.inl rfl | exact Or.inr rfl) (s_call0 C rfl T.g__law_signature T.k__law_signature)) (fun _ _ _ q => q))
  (b_cons (s_for PassesOwn.never C.calm (i_rng1 rfl T.n_range s_int) (pg_name nd_law (i := 3) rfl (by first | exact Or.inl rfl | exact Or.inr rfl)) (tg_one _ 3) (b_cons (s_set (ps_set nd_law (i := 4) rfl (by first | exact Or.inl rfl | exact Or.inr rfl) (s_call C rfl T.g__law_fact T.k__law_fact (s_cons (s_var (pv 1)) (s_cons s_int s_nil)))) (fun _ _ _ q => q))
  (b_cons (s_set (ps_set nd_law (i := 5) rfl (by first | exact Or.inl rfl | exact Or.inr rfl) (s_mk (s_lstD (s_cons (s_var (pv 4)) (s_cons (s_call C rfl T.g__law_odd T.k__law_odd (s_cons (s_var (pv 1)) s_nil)) (s_cons (s_call C rfl T.g__law_bent T.k__law_bent (s_cons (s_var (pv 1)) (s_cons (s_var (pv 4)) (s_cons s_int s_nil)))) (s_cons (s_call C rfl T.g__law_bent T.k__law_bent (s_cons (s_var (pv 1)) (s_cons (s_call C rfl T.g__law_bent T.k__law_bent (s_cons (s_var (pv 1)) (s_cons (s_var (pv 4)) (s_cons s_int s_nil)))) (s_cons s_int s_nil)))) s_nil))))))) (fun _ _ _ q => q))
  (b_cons (s_set (ps_set nd_law (i := 5) rfl (by first | exact Or.inl rfl | exact Or.inr rfl) (s_add (s_var (pv 5)) (s_mk (s_lstD (s_cons (s_add (s_var (pv 4)) (s_tup (s_cons (s_idx C.room (s_var (pv 4)) (s_neg s_int)) s_nil))) (s_cons (s_add (s_tup (s_cons s_str s_nil)) (s_slc (s_var (pv 4)) (o_some s_int) o_none)) (s_cons (s_add (s_tup (s_cons s_str s_nil)) (s_slc (s_var (pv 4)) (o_some s_int) o_none)) (s_cons (s_add (s_add (s_slc (s_var (pv 4)) o_none (o_some s_int)) (s_tup (s_cons s_int s_nil))) (s_slc (s_var (pv 4)) (o_some s_int) o_none)) s_nil)))))))) (fun _ _ _ q => q))
  (b_cons (s_for PassesOwn.never C.calm (i_seq (s_var (pv 5))) (pg_name nd_law (i := 6) rfl (by first | exact Or.inl rfl | exact Or.inr rfl)) (tg_one _ 6) (b_cons (s_set (ps_set nd_law (i := 7) rfl (by first | exact Or.inl rfl | exact Or.inr rfl) (s_repr C.room C.gd rfl T.n_repr (s_cons (s_var (pv 6)) s_nil))) (fun _ _ _ q => q))
  (b_cons (s_if (t_ne C.room (s_repr C.room C.gd rfl T.n_repr (s_cons (s_call C rfl T.g_is_fact T.k_is_fact (s_cons (s_var (pv 2)) (s_cons (s_var (pv 6)) s_nil))) s_nil)) (s_repr C.room C.gd rfl T.n_repr (s_cons (s_call C rfl T.g__law_is_fact T.k__law_is_fact (s_cons (s_var (pv 6)) s_nil)) s_nil))) (b_cons (s_ret s_bl)
  b_nil) b_nil)
  (b_cons (s_if (PW.pt (w_or (t_ne C.room (s_repr C.room C.gd rfl T.n_repr (s_cons (s_call C rfl T.g_is_watched T.k_is_watched (s_cons (s_var (pv 2)) (s_cons (s_var (pv 6)) s_nil))) s_nil)) (s_repr C.room C.gd rfl T.n_repr (s_cons (s_call C rfl T.g__law_is_watched T.k__law_is_watched (s_cons (s_var (pv 6)) s_nil)) s_nil))) (w_one (t_ne C.room (s_repr C.room C.gd rfl T.n_repr (s_cons (s_var (pv 6)) s_nil)) (s_var (pv 7)))))) (b_cons (s_ret s_bl)
  b_nil) b_nil)
  b_nil))))
  b_nil)))))
  (b_cons (s_ret s_bl)
  b_nil))))
end
end K45
namespace K45
open PySem PySem.Spec PyProof.Rows L2 MP
theorem all_fn {l : PySem.W.OpenLaw} {w : World} {K : PySem.W.Frag} {h : Heap} {mg : Str → Option Value} {fa0 : Addr} (X : K.In h) (G : h.Ns mainGlobals mg) (hfa : mg "law" = some (.ref fa0))
    {C_Signature : Addr}
    {f__wall : Addr} {oc__wall kV__wall dc__wall pm__wall cd__wall ct__wall : Value} {od__wall an__wall : Option Addr} {sl__wall : Array (Option Value)}
    {f_is_word : Addr} {oc_is_word kV_is_word dc_is_word pm_is_word cd_is_word ct_is_word : Value} {od_is_word an_is_word : Option Addr} {sl_is_word : Array (Option Value)}
    {f_is_count : Addr} {oc_is_count kV_is_count dc_is_count pm_is_count cd_is_count ct_is_count : Value} {od_is_count an_is_count : Option Addr} {sl_is_count : Array (Option Value)}
    {f_is_value : Addr} {oc_is_value kV_is_value dc_is_value pm_is_value cd_is_value ct_is_value : Value} {od_is_value an_is_value : Option Addr} {sl_is_value : Array (Option Value)}
    {f_is_register : Addr} {oc_is_register kV_is_register dc_is_register pm_is_register cd_is_register ct_is_register : Value} {od_is_register an_is_register : Option Addr} {sl_is_register : Array (Option Value)}
    {f_is_tuple_of : Addr} {oc_is_tuple_of kV_is_tuple_of dc_is_tuple_of pm_is_tuple_of cd_is_tuple_of ct_is_tuple_of : Value} {od_is_tuple_of an_is_tuple_of : Option Addr} {sl_is_tuple_of : Array (Option Value)}
    {f_is_mark : Addr} {oc_is_mark kV_is_mark dc_is_mark pm_is_mark cd_is_mark ct_is_mark : Value} {od_is_mark an_is_mark : Option Addr} {sl_is_mark : Array (Option Value)}
    {f_is_told_shape : Addr} {oc_is_told_shape kV_is_told_shape dc_is_told_shape pm_is_told_shape cd_is_told_shape ct_is_told_shape : Value} {od_is_told_shape an_is_told_shape : Option Addr} {sl_is_told_shape : Array (Option Value)}
    {f_is_known_kind : Addr} {oc_is_known_kind kV_is_known_kind dc_is_known_kind pm_is_known_kind cd_is_known_kind ct_is_known_kind : Value} {od_is_known_kind an_is_known_kind : Option Addr} {sl_is_known_kind : Array (Option Value)}
    {f_is_fact : Addr} {oc_is_fact kV_is_fact dc_is_fact pm_is_fact cd_is_fact ct_is_fact : Value} {od_is_fact an_is_fact : Option Addr} {sl_is_fact : Array (Option Value)}
    {f_is_watched : Addr} {oc_is_watched kV_is_watched dc_is_watched pm_is_watched cd_is_watched ct_is_watched : Value} {od_is_watched an_is_watched : Option Addr} {sl_is_watched : Array (Option Value)}
    {f_look_at_kinds : Addr} {oc_look_at_kinds kV_look_at_kinds dc_look_at_kinds pm_look_at_kinds cd_look_at_kinds ct_look_at_kinds : Value} {od_look_at_kinds an_look_at_kinds : Option Addr} {sl_look_at_kinds : Array (Option Value)}
    {f_is_variant : Addr} {oc_is_variant kV_is_variant dc_is_variant pm_is_variant cd_is_variant ct_is_variant : Value} {od_is_variant an_is_variant : Option Addr} {sl_is_variant : Array (Option Value)}
    {f_look_at_primitives : Addr} {oc_look_at_primitives kV_look_at_primitives dc_look_at_primitives pm_look_at_primitives cd_look_at_primitives ct_look_at_primitives : Value} {od_look_at_primitives an_look_at_primitives : Option Addr} {sl_look_at_primitives : Array (Option Value)}
    {f_Signature____init__ : Addr} {oc_Signature____init__ kV_Signature____init__ dc_Signature____init__ pm_Signature____init__ cd_Signature____init__ ct_Signature____init__ : Value} {od_Signature____init__ an_Signature____init__ : Option Addr} {sl_Signature____init__ : Array (Option Value)}
    {f_Signature__kinds : Addr} {oc_Signature__kinds kV_Signature__kinds dc_Signature__kinds pm_Signature__kinds cd_Signature__kinds ct_Signature__kinds : Value} {od_Signature__kinds an_Signature__kinds : Option Addr} {sl_Signature__kinds : Array (Option Value)}
    {f_Signature__primitives : Addr} {oc_Signature__primitives kV_Signature__primitives dc_Signature__primitives pm_Signature__primitives cd_Signature__primitives ct_Signature__primitives : Value} {od_Signature__primitives an_Signature__primitives : Option Addr} {sl_Signature__primitives : Array (Option Value)}
    {f_Signature__variants : Addr} {oc_Signature__variants kV_Signature__variants dc_Signature__variants pm_Signature__variants cd_Signature__variants ct_Signature__variants : Value} {od_Signature__variants an_Signature__variants : Option Addr} {sl_Signature__variants : Array (Option Value)}
    {f_Signature__variant : Addr} {oc_Signature__variant kV_Signature__variant dc_Signature__variant pm_Signature__variant cd_Signature__variant ct_Signature__variant : Value} {od_Signature__variant an_Signature__variant : Option Addr} {sl_Signature__variant : Array (Option Value)}
    {f_Signature__has_kind : Addr} {oc_Signature__has_kind kV_Signature__has_kind dc_Signature__has_kind pm_Signature__has_kind cd_Signature__has_kind ct_Signature__has_kind : Value} {od_Signature__has_kind an_Signature__has_kind : Option Addr} {sl_Signature__has_kind : Array (Option Value)}
    {f_Signature__has_primitive : Addr} {oc_Signature__has_primitive kV_Signature__has_primitive dc_Signature__has_primitive pm_Signature__has_primitive cd_Signature__has_primitive ct_Signature__has_primitive : Value} {od_Signature__has_primitive an_Signature__has_primitive : Option Addr} {sl_Signature__has_primitive : Array (Option Value)}
    {f_Signature____eq__ : Addr} {oc_Signature____eq__ kV_Signature____eq__ dc_Signature____eq__ pm_Signature____eq__ cd_Signature____eq__ ct_Signature____eq__ : Value} {od_Signature____eq__ an_Signature____eq__ : Option Addr} {sl_Signature____eq__ : Array (Option Value)}
    {f__law_source : Addr} {oc__law_source kV__law_source dc__law_source pm__law_source cd__law_source ct__law_source : Value} {od__law_source an__law_source : Option Addr} {sl__law_source : Array (Option Value)}
    {f__law_pick : Addr} {oc__law_pick kV__law_pick dc__law_pick pm__law_pick cd__law_pick ct__law_pick : Value} {od__law_pick an__law_pick : Option Addr} {sl__law_pick : Array (Option Value)}
    {f__law_one_of : Addr} {oc__law_one_of kV__law_one_of dc__law_one_of pm__law_one_of cd__law_one_of ct__law_one_of : Value} {od__law_one_of an__law_one_of : Option Addr} {sl__law_one_of : Array (Option Value)}
    {f__law_signature : Addr} {oc__law_signature kV__law_signature dc__law_signature pm__law_signature cd__law_signature ct__law_signature : Value} {od__law_signature an__law_signature : Option Addr} {sl__law_signature : Array (Option Value)}
    {f__law_mark : Addr} {oc__law_mark kV__law_mark dc__law_mark pm__law_mark cd__law_mark ct__law_mark : Value} {od__law_mark an__law_mark : Option Addr} {sl__law_mark : Array (Option Value)}
    {f__law_shape : Addr} {oc__law_shape kV__law_shape dc__law_shape pm__law_shape cd__law_shape ct__law_shape : Value} {od__law_shape an__law_shape : Option Addr} {sl__law_shape : Array (Option Value)}
    {f__law_fact : Addr} {oc__law_fact kV__law_fact dc__law_fact pm__law_fact cd__law_fact ct__law_fact : Value} {od__law_fact an__law_fact : Option Addr} {sl__law_fact : Array (Option Value)}
    {f__law_is_word : Addr} {oc__law_is_word kV__law_is_word dc__law_is_word pm__law_is_word cd__law_is_word ct__law_is_word : Value} {od__law_is_word an__law_is_word : Option Addr} {sl__law_is_word : Array (Option Value)}
    {f__law_is_number : Addr} {oc__law_is_number kV__law_is_number dc__law_is_number pm__law_is_number cd__law_is_number ct__law_is_number : Value} {od__law_is_number an__law_is_number : Option Addr} {sl__law_is_number : Array (Option Value)}
    {f__law_is_mark : Addr} {oc__law_is_mark kV__law_is_mark dc__law_is_mark pm__law_is_mark cd__law_is_mark ct__law_is_mark : Value} {od__law_is_mark an__law_is_mark : Option Addr} {sl__law_is_mark : Array (Option Value)}
    {f__law_is_shape : Addr} {oc__law_is_shape kV__law_is_shape dc__law_is_shape pm__law_is_shape cd__law_is_shape ct__law_is_shape : Value} {od__law_is_shape an__law_is_shape : Option Addr} {sl__law_is_shape : Array (Option Value)}
    {f__law_is_fact : Addr} {oc__law_is_fact kV__law_is_fact dc__law_is_fact pm__law_is_fact cd__law_is_fact ct__law_is_fact : Value} {od__law_is_fact an__law_is_fact : Option Addr} {sl__law_is_fact : Array (Option Value)}
    {f__law_is_watched : Addr} {oc__law_is_watched kV__law_is_watched dc__law_is_watched pm__law_is_watched cd__law_is_watched ct__law_is_watched : Value} {od__law_is_watched an__law_is_watched : Option Addr} {sl__law_is_watched : Array (Option Value)}
    {f__law_odd : Addr} {oc__law_odd kV__law_odd dc__law_odd pm__law_odd cd__law_odd ct__law_odd : Value} {od__law_odd an__law_odd : Option Addr} {sl__law_odd : Array (Option Value)}
    {f__law_bent : Addr} {oc__law_bent kV__law_bent dc__law_bent pm__law_bent cd__law_bent ct__law_bent : Value} {od__law_bent an__law_bent : Option Addr} {sl__law_bent : Array (Option Value)}
    {f_law : Addr} {oc_law kV_law dc_law pm_law cd_law ct_law : Value} {od_law an_law : Option Addr} {sl_law : Array (Option Value)}
    {tk_LETTERS : Tok}
    {r_OWN_KINDS : Addr} {o_OWN_KINDS : Obj}
    {r_REGISTER_WORDS : Addr} {o_REGISTER_WORDS : Obj}
    {r_RESERVED : Addr} {o_RESERVED : Obj}
    {r_WATCHED_WORDS : Addr} {o_WATCHED_WORDS : Obj}
    (aC_Signature : PySem.W.nsIn K mainGlobals "Signature" = some (some (.ref C_Signature))) (pg_Signature : PySem.W.plainGet K C_Signature Str.empty = true) (hd_Signature : PySem.W.hasDictIn K C_Signature = true) (po_Signature : PySem.W.plainOver K C_Signature = true) (sa_Signature : PySem.W.findIn K (.ref C_Signature) "__setattr__" = some (some (.builtin "object.__setattr__"))) (mk_Signature : PySem.W.makesIn K C_Signature = true) (kc_Signature : PySem.W.keepIn K (.ref C_Signature) = true)
    (no_Signature_kind_row : PySem.W.findIn K (.ref C_Signature) "kind_row" = some none)
    (no_Signature_primitive_rows : PySem.W.findIn K (.ref C_Signature) "primitive_rows" = some none)
    (a__wall : PySem.W.nsIn K mainGlobals "_wall" = some (some (.ref f__wall)))
    (l__wall : K.lookup f__wall = some ⟨oc__wall, od__wall, .func (PySem.W.fnOf "_wall" "_wall" (defArgs t__wall) (defBody t__wall) (defScope t__wall) .none kV__wall dc__wall pm__wall an__wall cd__wall ct__wall), sl__wall⟩) (c__wall : PySem.W.codeIn K cd__wall "_wall" = true) (k__wall : PySem.W.keepIn K (.ref f__wall) = true)
    (a_is_word : PySem.W.nsIn K mainGlobals "is_word" = some (some (.ref f_is_word)))
    (l_is_word : K.lookup f_is_word = some ⟨oc_is_word, od_is_word, .func (PySem.W.fnOf "is_word" "is_word" (defArgs t_is_word) (defBody t_is_word) (defScope t_is_word) .none kV_is_word dc_is_word pm_is_word an_is_word cd_is_word ct_is_word), sl_is_word⟩) (c_is_word : PySem.W.codeIn K cd_is_word "is_word" = true) (k_is_word : PySem.W.keepIn K (.ref f_is_word) = true)
    (a_is_count : PySem.W.nsIn K mainGlobals "is_count" = some (some (.ref f_is_count)))
    (l_is_count : K.lookup f_is_count = some ⟨oc_is_count, od_is_count, .func (PySem.W.fnOf "is_count" "is_count" (defArgs t_is_count) (defBody t_is_count) (defScope t_is_count) .none kV_is_count dc_is_count pm_is_count an_is_count cd_is_count ct_is_count), sl_is_count⟩) (c_is_count : PySem.W.codeIn K cd_is_count "is_count" = true) (k_is_count : PySem.W.keepIn K (.ref f_is_count) = true)
    (a_is_value : PySem.W.nsIn K mainGlobals "is_value" = some (some (.ref f_is_value)))
    (l_is_value : K.lookup f_is_value = some ⟨oc_is_value, od_is_value, .func (PySem.W.fnOf "is_value" "is_value" (defArgs t_is_value) (defBody t_is_value) (defScope t_is_value) .none kV_is_value dc_is_value pm_is_value an_is_value cd_is_value ct_is_value), sl_is_value⟩) (c_is_value : PySem.W.codeIn K cd_is_value "is_value" = true) (k_is_value : PySem.W.keepIn K (.ref f_is_value) = true)
    (a_is_register : PySem.W.nsIn K mainGlobals "is_register" = some (some (.ref f_is_register)))
    (l_is_register : K.lookup f_is_register = some ⟨oc_is_register, od_is_register, .func (PySem.W.fnOf "is_register" "is_register" (defArgs t_is_register) (defBody t_is_register) (defScope t_is_register) .none kV_is_register dc_is_register pm_is_register an_is_register cd_is_register ct_is_register), sl_is_register⟩) (c_is_register : PySem.W.codeIn K cd_is_register "is_register" = true) (k_is_register : PySem.W.keepIn K (.ref f_is_register) = true)
    (a_is_tuple_of : PySem.W.nsIn K mainGlobals "is_tuple_of" = some (some (.ref f_is_tuple_of)))
    (l_is_tuple_of : K.lookup f_is_tuple_of = some ⟨oc_is_tuple_of, od_is_tuple_of, .func (PySem.W.fnOf "is_tuple_of" "is_tuple_of" (defArgs t_is_tuple_of) (defBody t_is_tuple_of) (defScope t_is_tuple_of) .none kV_is_tuple_of dc_is_tuple_of pm_is_tuple_of an_is_tuple_of cd_is_tuple_of ct_is_tuple_of), sl_is_tuple_of⟩) (c_is_tuple_of : PySem.W.codeIn K cd_is_tuple_of "is_tuple_of" = true) (k_is_tuple_of : PySem.W.keepIn K (.ref f_is_tuple_of) = true)
    (a_is_mark : PySem.W.nsIn K mainGlobals "is_mark" = some (some (.ref f_is_mark)))
    (l_is_mark : K.lookup f_is_mark = some ⟨oc_is_mark, od_is_mark, .func (PySem.W.fnOf "is_mark" "is_mark" (defArgs t_is_mark) (defBody t_is_mark) (defScope t_is_mark) .none kV_is_mark dc_is_mark pm_is_mark an_is_mark cd_is_mark ct_is_mark), sl_is_mark⟩) (c_is_mark : PySem.W.codeIn K cd_is_mark "is_mark" = true) (k_is_mark : PySem.W.keepIn K (.ref f_is_mark) = true)
    (a_is_told_shape : PySem.W.nsIn K mainGlobals "is_told_shape" = some (some (.ref f_is_told_shape)))
    (l_is_told_shape : K.lookup f_is_told_shape = some ⟨oc_is_told_shape, od_is_told_shape, .func (PySem.W.fnOf "is_told_shape" "is_told_shape" (defArgs t_is_told_shape) (defBody t_is_told_shape) (defScope t_is_told_shape) .none kV_is_told_shape dc_is_told_shape pm_is_told_shape an_is_told_shape cd_is_told_shape ct_is_told_shape), sl_is_told_shape⟩) (c_is_told_shape : PySem.W.codeIn K cd_is_told_shape "is_told_shape" = true) (k_is_told_shape : PySem.W.keepIn K (.ref f_is_told_shape) = true)
    (a_is_known_kind : PySem.W.nsIn K mainGlobals "is_known_kind" = some (some (.ref f_is_known_kind)))
    (l_is_known_kind : K.lookup f_is_known_kind = some ⟨oc_is_known_kind, od_is_known_kind, .func (PySem.W.fnOf "is_known_kind" "is_known_kind" (defArgs t_is_known_kind) (defBody t_is_known_kind) (defScope t_is_known_kind) .none kV_is_known_kind dc_is_known_kind pm_is_known_kind an_is_known_kind cd_is_known_kind ct_is_known_kind), sl_is_known_kind⟩) (c_is_known_kind : PySem.W.codeIn K cd_is_known_kind "is_known_kind" = true) (k_is_known_kind : PySem.W.keepIn K (.ref f_is_known_kind) = true)
    (a_is_fact : PySem.W.nsIn K mainGlobals "is_fact" = some (some (.ref f_is_fact)))
    (l_is_fact : K.lookup f_is_fact = some ⟨oc_is_fact, od_is_fact, .func (PySem.W.fnOf "is_fact" "is_fact" (defArgs t_is_fact) (defBody t_is_fact) (defScope t_is_fact) .none kV_is_fact dc_is_fact pm_is_fact an_is_fact cd_is_fact ct_is_fact), sl_is_fact⟩) (c_is_fact : PySem.W.codeIn K cd_is_fact "is_fact" = true) (k_is_fact : PySem.W.keepIn K (.ref f_is_fact) = true)
    (a_is_watched : PySem.W.nsIn K mainGlobals "is_watched" = some (some (.ref f_is_watched)))
    (l_is_watched : K.lookup f_is_watched = some ⟨oc_is_watched, od_is_watched, .func (PySem.W.fnOf "is_watched" "is_watched" (defArgs t_is_watched) (defBody t_is_watched) (defScope t_is_watched) .none kV_is_watched dc_is_watched pm_is_watched an_is_watched cd_is_watched ct_is_watched), sl_is_watched⟩) (c_is_watched : PySem.W.codeIn K cd_is_watched "is_watched" = true) (k_is_watched : PySem.W.keepIn K (.ref f_is_watched) = true)
    (a_look_at_kinds : PySem.W.nsIn K mainGlobals "look_at_kinds" = some (some (.ref f_look_at_kinds)))
    (l_look_at_kinds : K.lookup f_look_at_kinds = some ⟨oc_look_at_kinds, od_look_at_kinds, .func (PySem.W.fnOf "look_at_kinds" "look_at_kinds" (defArgs t_look_at_kinds) (defBody t_look_at_kinds) (defScope t_look_at_kinds) .none kV_look_at_kinds dc_look_at_kinds pm_look_at_kinds an_look_at_kinds cd_look_at_kinds ct_look_at_kinds), sl_look_at_kinds⟩) (c_look_at_kinds : PySem.W.codeIn K cd_look_at_kinds "look_at_kinds" = true) (k_look_at_kinds : PySem.W.keepIn K (.ref f_look_at_kinds) = true)
    (a_is_variant : PySem.W.nsIn K mainGlobals "is_variant" = some (some (.ref f_is_variant)))
    (l_is_variant : K.lookup f_is_variant = some ⟨oc_is_variant, od_is_variant, .func (PySem.W.fnOf "is_variant" "is_variant" (defArgs t_is_variant) (defBody t_is_variant) (defScope t_is_variant) .none kV_is_variant dc_is_variant pm_is_variant an_is_variant cd_is_variant ct_is_variant), sl_is_variant⟩) (c_is_variant : PySem.W.codeIn K cd_is_variant "is_variant" = true) (k_is_variant : PySem.W.keepIn K (.ref f_is_variant) = true)
    (a_look_at_primitives : PySem.W.nsIn K mainGlobals "look_at_primitives" = some (some (.ref f_look_at_primitives)))
    (l_look_at_primitives : K.lookup f_look_at_primitives = some ⟨oc_look_at_primitives, od_look_at_primitives, .func (PySem.W.fnOf "look_at_primitives" "look_at_primitives" (defArgs t_look_at_primitives) (defBody t_look_at_primitives) (defScope t_look_at_primitives) .none kV_look_at_primitives dc_look_at_primitives pm_look_at_primitives an_look_at_primitives cd_look_at_primitives ct_look_at_primitives), sl_look_at_primitives⟩) (c_look_at_primitives : PySem.W.codeIn K cd_look_at_primitives "look_at_primitives" = true) (k_look_at_primitives : PySem.W.keepIn K (.ref f_look_at_primitives) = true)
    (a_Signature____init__ : PySem.W.findIn K (.ref C_Signature) "__init__" = some (some (.ref f_Signature____init__))) (i_Signature____init__ : PySem.W.isFn K (.ref f_Signature____init__) = true)
    (l_Signature____init__ : K.lookup f_Signature____init__ = some ⟨oc_Signature____init__, od_Signature____init__, .func (PySem.W.fnOf "__init__" "Signature.__init__" (defArgs t_Signature____init__) (defBody t_Signature____init__) (defScope t_Signature____init__) .none kV_Signature____init__ dc_Signature____init__ pm_Signature____init__ an_Signature____init__ cd_Signature____init__ ct_Signature____init__), sl_Signature____init__⟩) (c_Signature____init__ : PySem.W.codeIn K cd_Signature____init__ "Signature.__init__" = true) (k_Signature____init__ : PySem.W.keepIn K (.ref f_Signature____init__) = true)
    (a_Signature__kinds : PySem.W.findIn K (.ref C_Signature) "kinds" = some (some (.ref f_Signature__kinds))) (i_Signature__kinds : PySem.W.isFn K (.ref f_Signature__kinds) = true)
    (l_Signature__kinds : K.lookup f_Signature__kinds = some ⟨oc_Signature__kinds, od_Signature__kinds, .func (PySem.W.fnOf "kinds" "Signature.kinds" (defArgs t_Signature__kinds) (defBody t_Signature__kinds) (defScope t_Signature__kinds) .none kV_Signature__kinds dc_Signature__kinds pm_Signature__kinds an_Signature__kinds cd_Signature__kinds ct_Signature__kinds), sl_Signature__kinds⟩) (c_Signature__kinds : PySem.W.codeIn K cd_Signature__kinds "Signature.kinds" = true) (k_Signature__kinds : PySem.W.keepIn K (.ref f_Signature__kinds) = true)
    (a_Signature__primitives : PySem.W.findIn K (.ref C_Signature) "primitives" = some (some (.ref f_Signature__primitives))) (i_Signature__primitives : PySem.W.isFn K (.ref f_Signature__primitives) = true)
    (l_Signature__primitives : K.lookup f_Signature__primitives = some ⟨oc_Signature__primitives, od_Signature__primitives, .func (PySem.W.fnOf "primitives" "Signature.primitives" (defArgs t_Signature__primitives) (defBody t_Signature__primitives) (defScope t_Signature__primitives) .none kV_Signature__primitives dc_Signature__primitives pm_Signature__primitives an_Signature__primitives cd_Signature__primitives ct_Signature__primitives), sl_Signature__primitives⟩) (c_Signature__primitives : PySem.W.codeIn K cd_Signature__primitives "Signature.primitives" = true) (k_Signature__primitives : PySem.W.keepIn K (.ref f_Signature__primitives) = true)
    (a_Signature__variants : PySem.W.findIn K (.ref C_Signature) "variants" = some (some (.ref f_Signature__variants))) (i_Signature__variants : PySem.W.isFn K (.ref f_Signature__variants) = true)
    (l_Signature__variants : K.lookup f_Signature__variants = some ⟨oc_Signature__variants, od_Signature__variants, .func (PySem.W.fnOf "variants" "Signature.variants" (defArgs t_Signature__variants) (defBody t_Signature__variants) (defScope t_Signature__variants) .none kV_Signature__variants dc_Signature__variants pm_Signature__variants an_Signature__variants cd_Signature__variants ct_Signature__variants), sl_Signature__variants⟩) (c_Signature__variants : PySem.W.codeIn K cd_Signature__variants "Signature.variants" = true) (k_Signature__variants : PySem.W.keepIn K (.ref f_Signature__variants) = true)
    (a_Signature__variant : PySem.W.findIn K (.ref C_Signature) "variant" = some (some (.ref f_Signature__variant))) (i_Signature__variant : PySem.W.isFn K (.ref f_Signature__variant) = true)
    (l_Signature__variant : K.lookup f_Signature__variant = some ⟨oc_Signature__variant, od_Signature__variant, .func (PySem.W.fnOf "variant" "Signature.variant" (defArgs t_Signature__variant) (defBody t_Signature__variant) (defScope t_Signature__variant) .none kV_Signature__variant dc_Signature__variant pm_Signature__variant an_Signature__variant cd_Signature__variant ct_Signature__variant), sl_Signature__variant⟩) (c_Signature__variant : PySem.W.codeIn K cd_Signature__variant "Signature.variant" = true) (k_Signature__variant : PySem.W.keepIn K (.ref f_Signature__variant) = true)
    (a_Signature__has_kind : PySem.W.findIn K (.ref C_Signature) "has_kind" = some (some (.ref f_Signature__has_kind))) (i_Signature__has_kind : PySem.W.isFn K (.ref f_Signature__has_kind) = true)
    (l_Signature__has_kind : K.lookup f_Signature__has_kind = some ⟨oc_Signature__has_kind, od_Signature__has_kind, .func (PySem.W.fnOf "has_kind" "Signature.has_kind" (defArgs t_Signature__has_kind) (defBody t_Signature__has_kind) (defScope t_Signature__has_kind) .none kV_Signature__has_kind dc_Signature__has_kind pm_Signature__has_kind an_Signature__has_kind cd_Signature__has_kind ct_Signature__has_kind), sl_Signature__has_kind⟩) (c_Signature__has_kind : PySem.W.codeIn K cd_Signature__has_kind "Signature.has_kind" = true) (k_Signature__has_kind : PySem.W.keepIn K (.ref f_Signature__has_kind) = true)
    (a_Signature__has_primitive : PySem.W.findIn K (.ref C_Signature) "has_primitive" = some (some (.ref f_Signature__has_primitive))) (i_Signature__has_primitive : PySem.W.isFn K (.ref f_Signature__has_primitive) = true)
    (l_Signature__has_primitive : K.lookup f_Signature__has_primitive = some ⟨oc_Signature__has_primitive, od_Signature__has_primitive, .func (PySem.W.fnOf "has_primitive" "Signature.has_primitive" (defArgs t_Signature__has_primitive) (defBody t_Signature__has_primitive) (defScope t_Signature__has_primitive) .none kV_Signature__has_primitive dc_Signature__has_primitive pm_Signature__has_primitive an_Signature__has_primitive cd_Signature__has_primitive ct_Signature__has_primitive), sl_Signature__has_primitive⟩) (c_Signature__has_primitive : PySem.W.codeIn K cd_Signature__has_primitive "Signature.has_primitive" = true) (k_Signature__has_primitive : PySem.W.keepIn K (.ref f_Signature__has_primitive) = true)
    (a_Signature____eq__ : PySem.W.findIn K (.ref C_Signature) "__eq__" = some (some (.ref f_Signature____eq__))) (i_Signature____eq__ : PySem.W.isFn K (.ref f_Signature____eq__) = true)
    (l_Signature____eq__ : K.lookup f_Signature____eq__ = some ⟨oc_Signature____eq__, od_Signature____eq__, .func (PySem.W.fnOf "__eq__" "Signature.__eq__" (defArgs t_Signature____eq__) (defBody t_Signature____eq__) (defScope t_Signature____eq__) .none kV_Signature____eq__ dc_Signature____eq__ pm_Signature____eq__ an_Signature____eq__ cd_Signature____eq__ ct_Signature____eq__), sl_Signature____eq__⟩) (c_Signature____eq__ : PySem.W.codeIn K cd_Signature____eq__ "Signature.__eq__" = true) (k_Signature____eq__ : PySem.W.keepIn K (.ref f_Signature____eq__) = true)
    (a__law_source : PySem.W.nsIn K mainGlobals "_law_source" = some (some (.ref f__law_source)))
    (l__law_source : K.lookup f__law_source = some ⟨oc__law_source, od__law_source, .func (PySem.W.fnOf "_law_source" "_law_source" (defArgs t__law_source) (defBody t__law_source) (defScope t__law_source) .none kV__law_source dc__law_source pm__law_source an__law_source cd__law_source ct__law_source), sl__law_source⟩) (c__law_source : PySem.W.codeIn K cd__law_source "_law_source" = true) (k__law_source : PySem.W.keepIn K (.ref f__law_source) = true)
    (a__law_pick : PySem.W.nsIn K mainGlobals "_law_pick" = some (some (.ref f__law_pick)))
    (l__law_pick : K.lookup f__law_pick = some ⟨oc__law_pick, od__law_pick, .func (PySem.W.fnOf "_law_pick" "_law_pick" (defArgs t__law_pick) (defBody t__law_pick) (defScope t__law_pick) .none kV__law_pick dc__law_pick pm__law_pick an__law_pick cd__law_pick ct__law_pick), sl__law_pick⟩) (c__law_pick : PySem.W.codeIn K cd__law_pick "_law_pick" = true) (k__law_pick : PySem.W.keepIn K (.ref f__law_pick) = true)
    (a__law_one_of : PySem.W.nsIn K mainGlobals "_law_one_of" = some (some (.ref f__law_one_of)))
    (l__law_one_of : K.lookup f__law_one_of = some ⟨oc__law_one_of, od__law_one_of, .func (PySem.W.fnOf "_law_one_of" "_law_one_of" (defArgs t__law_one_of) (defBody t__law_one_of) (defScope t__law_one_of) .none kV__law_one_of dc__law_one_of pm__law_one_of an__law_one_of cd__law_one_of ct__law_one_of), sl__law_one_of⟩) (c__law_one_of : PySem.W.codeIn K cd__law_one_of "_law_one_of" = true) (k__law_one_of : PySem.W.keepIn K (.ref f__law_one_of) = true)
    (a__law_signature : PySem.W.nsIn K mainGlobals "_law_signature" = some (some (.ref f__law_signature)))
    (l__law_signature : K.lookup f__law_signature = some ⟨oc__law_signature, od__law_signature, .func (PySem.W.fnOf "_law_signature" "_law_signature" (defArgs t__law_signature) (defBody t__law_signature) (defScope t__law_signature) .none kV__law_signature dc__law_signature pm__law_signature an__law_signature cd__law_signature ct__law_signature), sl__law_signature⟩) (c__law_signature : PySem.W.codeIn K cd__law_signature "_law_signature" = true) (k__law_signature : PySem.W.keepIn K (.ref f__law_signature) = true)
    (a__law_mark : PySem.W.nsIn K mainGlobals "_law_mark" = some (some (.ref f__law_mark)))
    (l__law_mark : K.lookup f__law_mark = some ⟨oc__law_mark, od__law_mark, .func (PySem.W.fnOf "_law_mark" "_law_mark" (defArgs t__law_mark) (defBody t__law_mark) (defScope t__law_mark) .none kV__law_mark dc__law_mark pm__law_mark an__law_mark cd__law_mark ct__law_mark), sl__law_mark⟩) (c__law_mark : PySem.W.codeIn K cd__law_mark "_law_mark" = true) (k__law_mark : PySem.W.keepIn K (.ref f__law_mark) = true)
    (a__law_shape : PySem.W.nsIn K mainGlobals "_law_shape" = some (some (.ref f__law_shape)))
    (l__law_shape : K.lookup f__law_shape = some ⟨oc__law_shape, od__law_shape, .func (PySem.W.fnOf "_law_shape" "_law_shape" (defArgs t__law_shape) (defBody t__law_shape) (defScope t__law_shape) .none kV__law_shape dc__law_shape pm__law_shape an__law_shape cd__law_shape ct__law_shape), sl__law_shape⟩) (c__law_shape : PySem.W.codeIn K cd__law_shape "_law_shape" = true) (k__law_shape : PySem.W.keepIn K (.ref f__law_shape) = true)
    (a__law_fact : PySem.W.nsIn K mainGlobals "_law_fact" = some (some (.ref f__law_fact)))
    (l__law_fact : K.lookup f__law_fact = some ⟨oc__law_fact, od__law_fact, .func (PySem.W.fnOf "_law_fact" "_law_fact" (defArgs t__law_fact) (defBody t__law_fact) (defScope t__law_fact) .none kV__law_fact dc__law_fact pm__law_fact an__law_fact cd__law_fact ct__law_fact), sl__law_fact⟩) (c__law_fact : PySem.W.codeIn K cd__law_fact "_law_fact" = true) (k__law_fact : PySem.W.keepIn K (.ref f__law_fact) = true)
    (a__law_is_word : PySem.W.nsIn K mainGlobals "_law_is_word" = some (some (.ref f__law_is_word)))
    (l__law_is_word : K.lookup f__law_is_word = some ⟨oc__law_is_word, od__law_is_word, .func (PySem.W.fnOf "_law_is_word" "_law_is_word" (defArgs t__law_is_word) (defBody t__law_is_word) (defScope t__law_is_word) .none kV__law_is_word dc__law_is_word pm__law_is_word an__law_is_word cd__law_is_word ct__law_is_word), sl__law_is_word⟩) (c__law_is_word : PySem.W.codeIn K cd__law_is_word "_law_is_word" = true) (k__law_is_word : PySem.W.keepIn K (.ref f__law_is_word) = true)
    (a__law_is_number : PySem.W.nsIn K mainGlobals "_law_is_number" = some (some (.ref f__law_is_number)))
    (l__law_is_number : K.lookup f__law_is_number = some ⟨oc__law_is_number, od__law_is_number, .func (PySem.W.fnOf "_law_is_number" "_law_is_number" (defArgs t__law_is_number) (defBody t__law_is_number) (defScope t__law_is_number) .none kV__law_is_number dc__law_is_number pm__law_is_number an__law_is_number cd__law_is_number ct__law_is_number), sl__law_is_number⟩) (c__law_is_number : PySem.W.codeIn K cd__law_is_number "_law_is_number" = true) (k__law_is_number : PySem.W.keepIn K (.ref f__law_is_number) = true)
    (a__law_is_mark : PySem.W.nsIn K mainGlobals "_law_is_mark" = some (some (.ref f__law_is_mark)))
    (l__law_is_mark : K.lookup f__law_is_mark = some ⟨oc__law_is_mark, od__law_is_mark, .func (PySem.W.fnOf "_law_is_mark" "_law_is_mark" (defArgs t__law_is_mark) (defBody t__law_is_mark) (defScope t__law_is_mark) .none kV__law_is_mark dc__law_is_mark pm__law_is_mark an__law_is_mark cd__law_is_mark ct__law_is_mark), sl__law_is_mark⟩) (c__law_is_mark : PySem.W.codeIn K cd__law_is_mark "_law_is_mark" = true) (k__law_is_mark : PySem.W.keepIn K (.ref f__law_is_mark) = true)
    (a__law_is_shape : PySem.W.nsIn K mainGlobals "_law_is_shape" = some (some (.ref f__law_is_shape)))
    (l__law_is_shape : K.lookup f__law_is_shape = some ⟨oc__law_is_shape, od__law_is_shape, .func (PySem.W.fnOf "_law_is_shape" "_law_is_shape" (defArgs t__law_is_shape) (defBody t__law_is_shape) (defScope t__law_is_shape) .none kV__law_is_shape dc__law_is_shape pm__law_is_shape an__law_is_shape cd__law_is_shape ct__law_is_shape), sl__law_is_shape⟩) (c__law_is_shape : PySem.W.codeIn K cd__law_is_shape "_law_is_shape" = true) (k__law_is_shape : PySem.W.keepIn K (.ref f__law_is_shape) = true)
    (a__law_is_fact : PySem.W.nsIn K mainGlobals "_law_is_fact" = some (some (.ref f__law_is_fact)))
    (l__law_is_fact : K.lookup f__law_is_fact = some ⟨oc__law_is_fact, od__law_is_fact, .func (PySem.W.fnOf "_law_is_fact" "_law_is_fact" (defArgs t__law_is_fact) (defBody t__law_is_fact) (defScope t__law_is_fact) .none kV__law_is_fact dc__law_is_fact pm__law_is_fact an__law_is_fact cd__law_is_fact ct__law_is_fact), sl__law_is_fact⟩) (c__law_is_fact : PySem.W.codeIn K cd__law_is_fact "_law_is_fact" = true) (k__law_is_fact : PySem.W.keepIn K (.ref f__law_is_fact) = true)
    (a__law_is_watched : PySem.W.nsIn K mainGlobals "_law_is_watched" = some (some (.ref f__law_is_watched)))
    (l__law_is_watched : K.lookup f__law_is_watched = some ⟨oc__law_is_watched, od__law_is_watched, .func (PySem.W.fnOf "_law_is_watched" "_law_is_watched" (defArgs t__law_is_watched) (defBody t__law_is_watched) (defScope t__law_is_watched) .none kV__law_is_watched dc__law_is_watched pm__law_is_watched an__law_is_watched cd__law_is_watched ct__law_is_watched), sl__law_is_watched⟩) (c__law_is_watched : PySem.W.codeIn K cd__law_is_watched "_law_is_watched" = true) (k__law_is_watched : PySem.W.keepIn K (.ref f__law_is_watched) = true)
    (a__law_odd : PySem.W.nsIn K mainGlobals "_law_odd" = some (some (.ref f__law_odd)))
    (l__law_odd : K.lookup f__law_odd = some ⟨oc__law_odd, od__law_odd, .func (PySem.W.fnOf "_law_odd" "_law_odd" (defArgs t__law_odd) (defBody t__law_odd) (defScope t__law_odd) .none kV__law_odd dc__law_odd pm__law_odd an__law_odd cd__law_odd ct__law_odd), sl__law_odd⟩) (c__law_odd : PySem.W.codeIn K cd__law_odd "_law_odd" = true) (k__law_odd : PySem.W.keepIn K (.ref f__law_odd) = true)
    (a__law_bent : PySem.W.nsIn K mainGlobals "_law_bent" = some (some (.ref f__law_bent)))
    (l__law_bent : K.lookup f__law_bent = some ⟨oc__law_bent, od__law_bent, .func (PySem.W.fnOf "_law_bent" "_law_bent" (defArgs t__law_bent) (defBody t__law_bent) (defScope t__law_bent) .none kV__law_bent dc__law_bent pm__law_bent an__law_bent cd__law_bent ct__law_bent), sl__law_bent⟩) (c__law_bent : PySem.W.codeIn K cd__law_bent "_law_bent" = true) (k__law_bent : PySem.W.keepIn K (.ref f__law_bent) = true)
    (a_law : PySem.W.nsIn K mainGlobals "law" = some (some (.ref f_law)))
    (l_law : K.lookup f_law = some ⟨oc_law, od_law, .func (PySem.W.fnOf "law" "law" (defArgs t_law) (defBody t_law) (defScope t_law) .none kV_law dc_law pm_law an_law cd_law ct_law), sl_law⟩) (c_law : PySem.W.codeIn K cd_law "law" = true) (k_law : PySem.W.keepIn K (.ref f_law) = true)
    (z_abs : PySem.W.nsIn K mainGlobals "abs" = some none)
    (z_all : PySem.W.nsIn K mainGlobals "all" = some none)
    (z_bool : PySem.W.nsIn K mainGlobals "bool" = some none)
    (z_enumerate : PySem.W.nsIn K mainGlobals "enumerate" = some none)
    (z_int : PySem.W.nsIn K mainGlobals "int" = some none)
    (z_isinstance : PySem.W.nsIn K mainGlobals "isinstance" = some none)
    (z_len : PySem.W.nsIn K mainGlobals "len" = some none)
    (z_list : PySem.W.nsIn K mainGlobals "list" = some none)
    (z_range : PySem.W.nsIn K mainGlobals "range" = some none)
    (z_repr : PySem.W.nsIn K mainGlobals "repr" = some none)
    (z_set : PySem.W.nsIn K mainGlobals "set" = some none)
    (z_str : PySem.W.nsIn K mainGlobals "str" = some none)
    (z_tuple : PySem.W.nsIn K mainGlobals "tuple" = some none)
    (g_LETTERS : PySem.W.nsIn K mainGlobals "LETTERS" = some (some (.str ("abcdefghijklmnopqrstuvwxyz" : Str) tk_LETTERS)))
    (g_OWN_KINDS : PySem.W.nsIn K mainGlobals "OWN_KINDS" = some (some (.ref r_OWN_KINDS))) (l_OWN_KINDS : K.lookup r_OWN_KINDS = some o_OWN_KINDS) (d_OWN_KINDS : TupC o_OWN_KINDS [V.str ("none" : Str), V.str ("bit" : Str), V.str ("err" : Str), V.str ("fun" : Str), V.str ("obj" : Str)])
    (g_REGISTER_WORDS : PySem.W.nsIn K mainGlobals "REGISTER_WORDS" = some (some (.ref r_REGISTER_WORDS))) (l_REGISTER_WORDS : K.lookup r_REGISTER_WORDS = some o_REGISTER_WORDS) (d_REGISTER_WORDS : TupC o_REGISTER_WORDS [V.str ("kind" : Str), V.str ("is" : Str), V.str ("shape" : Str), V.str ("same" : Str), V.str ("unlike" : Str)])
    (g_RESERVED : PySem.W.nsIn K mainGlobals "RESERVED" = some (some (.ref r_RESERVED))) (l_RESERVED : K.lookup r_RESERVED = some o_RESERVED) (d_RESERVED : TupC o_RESERVED [V.str ("none" : Str), V.str ("bit" : Str), V.str ("err" : Str), V.str ("fun" : Str), V.str ("obj" : Str)])
    (g_WATCHED_WORDS : PySem.W.nsIn K mainGlobals "WATCHED_WORDS" = some (some (.ref r_WATCHED_WORDS))) (l_WATCHED_WORDS : K.lookup r_WATCHED_WORDS = some o_WATCHED_WORDS) (d_WATCHED_WORDS : TupC o_WATCHED_WORDS [V.str ("global" : Str), V.str ("holds" : Str), V.str ("slot" : Str)]) :
    ∃ fd : FuncData, (∀ (s : Shared) (v : Value), BindsTo s fd ⟨[v], []⟩ [("script", v)]) ∧ ∃ ca : Cls0, ∀ base : Heap, K.In base → base.Ns mainGlobals mg → FnG l.prog w K mg base 21 fa0 fd ["script"] (spF K ca Γ 20 37) := by
  have e := hfa.symm.trans (PySem.W.mg_of X G a_law)
  cases e
  let fa : Nat → Addr := fun n => match n with
    | 0 => f__wall
    | 1 => f_is_word
    | 2 => f_is_count
    | 3 => f_is_value
    | 4 => f_is_register
    | 5 => f_is_tuple_of
    | 6 => f_is_mark
    | 7 => f_is_told_shape
    | 8 => f_is_known_kind
    | 9 => f_is_fact
    | 10 => f_is_watched
    | 11 => f_look_at_kinds
    | 12 => f_is_variant
    | 13 => f_look_at_primitives
    | 14 => f_Signature____init__
    | 15 => f_Signature__kinds
    | 16 => f_Signature__primitives
    | 17 => f_Signature__variants
    | 18 => f_Signature__variant
    | 19 => f_Signature__has_kind
    | 20 => f_Signature__has_primitive
    | 21 => f_Signature____eq__
    | 22 => f__law_source
    | 23 => f__law_pick
    | 24 => f__law_one_of
    | 25 => f__law_signature
    | 26 => f__law_mark
    | 27 => f__law_shape
    | 28 => f__law_fact
    | 29 => f__law_is_word
    | 30 => f__law_is_number
    | 31 => f__law_is_mark
    | 32 => f__law_is_shape
    | 33 => f__law_is_fact
    | 34 => f__law_is_watched
    | 35 => f__law_odd
    | 36 => f__law_bent
    | 37 => fa0
    | _ => 0
  let ca : Cls0 := fun n => match n with
    | 0 => C_Signature
    | _ => 0
  have me_has_kind : MethOk K ca fa "has_kind" [(0, 19)] := (.cons ⟨pg_Signature, hd_Signature, po_Signature, sa_Signature⟩ ⟨a_Signature__has_kind, i_Signature__has_kind, k_Signature__has_kind⟩ .nil)
  have fa_kind_row : FldOk K ca [0] "kind_row" := (.cons ⟨pg_Signature, hd_Signature, po_Signature, sa_Signature⟩ no_Signature_kind_row .nil)
  have fa_primitive_rows : FldOk K ca [0] "primitive_rows" := (.cons ⟨pg_Signature, hd_Signature, po_Signature, sa_Signature⟩ no_Signature_primitive_rows .nil)
  have T : Tx K mg ca fa := ⟨PySem.W.mg_none_of X G z_abs, PySem.W.mg_none_of X G z_all, PySem.W.mg_none_of X G z_bool, PySem.W.mg_none_of X G z_enumerate, PySem.W.mg_none_of X G z_int, PySem.W.mg_none_of X G z_isinstance, PySem.W.mg_none_of X G z_len, PySem.W.mg_none_of X G z_list, PySem.W.mg_none_of X G z_range, PySem.W.mg_none_of X G z_repr, PySem.W.mg_none_of X G z_set, PySem.W.mg_none_of X G z_str, PySem.W.mg_none_of X G z_tuple, glb_str (PySem.W.mg_of X G g_LETTERS), glb_tup (PySem.W.mg_of X G g_OWN_KINDS) l_OWN_KINDS d_OWN_KINDS fun _ _ _ => .cons (.str _) (.cons (.str _) (.cons (.str _) (.cons (.str _) (.cons (.str _) (.nil))))), glb_tup (PySem.W.mg_of X G g_REGISTER_WORDS) l_REGISTER_WORDS d_REGISTER_WORDS fun _ _ _ => .cons (.str _) (.cons (.str _) (.cons (.str _) (.cons (.str _) (.cons (.str _) (.nil))))), glb_tup (PySem.W.mg_of X G g_RESERVED) l_RESERVED d_RESERVED fun _ _ _ => .cons (.str _) (.cons (.str _) (.cons (.str _) (.cons (.str _) (.cons (.str _) (.nil))))), glb_tup (PySem.W.mg_of X G g_WATCHED_WORDS) l_WATCHED_WORDS d_WATCHED_WORDS fun _ _ _ => .cons (.str _) (.cons (.str _) (.cons (.str _) (.nil))), PySem.W.mg_of X G a__wall, k__wall, PySem.W.mg_of X G a_is_word, k_is_word, PySem.W.mg_of X G a_is_count, k_is_count, PySem.W.mg_of X G a_is_value, k_is_value, PySem.W.mg_of X G a_is_register, k_is_register, PySem.W.mg_of X G a_is_tuple_of, k_is_tuple_of, PySem.W.mg_of X G a_is_mark, k_is_mark, PySem.W.mg_of X G a_is_told_shape, k_is_told_shape, PySem.W.mg_of X G a_is_known_kind, k_is_known_kind, PySem.W.mg_of X G a_is_fact, k_is_fact, PySem.W.mg_of X G a_is_watched, k_is_watched, PySem.W.mg_of X G a_look_at_kinds, k_look_at_kinds, PySem.W.mg_of X G a_is_variant, k_is_variant, PySem.W.mg_of X G a_look_at_primitives, k_look_at_primitives, PySem.W.mg_of X G a__law_source, k__law_source, PySem.W.mg_of X G a__law_pick, k__law_pick, PySem.W.mg_of X G a__law_one_of, k__law_one_of, PySem.W.mg_of X G a__law_signature, k__law_signature, PySem.W.mg_of X G a__law_mark, k__law_mark, PySem.W.mg_of X G a__law_shape, k__law_shape, PySem.W.mg_of X G a__law_fact, k__law_fact, PySem.W.mg_of X G a__law_is_word, k__law_is_word, PySem.W.mg_of X G a__law_is_number, k__law_is_number, PySem.W.mg_of X G a__law_is_mark, k__law_is_mark, PySem.W.mg_of X G a__law_is_shape, k__law_is_shape, PySem.W.mg_of X G a__law_is_fact, k__law_is_fact, PySem.W.mg_of X G a__law_is_watched, k__law_is_watched, PySem.W.mg_of X G a__law_odd, k__law_odd, PySem.W.mg_of X G a__law_bent, k__law_bent, PySem.W.mg_of X G aC_Signature, ⟨mk_Signature, a_Signature____init__, i_Signature____init__, kc_Signature⟩, me_has_kind, fa_kind_row, fa_primitive_rows⟩
  have F__wall := fun_mk (st := t__wall) l__wall c__wall k__wall
  have B__wall := F__wall.binds (ps := ["k"]) fun _ _ _ _ _ _ us hl => match us, hl with | [_], _ => rfl
  have F_is_word := fun_mk (st := t_is_word) l_is_word c_is_word k_is_word
  have B_is_word := F_is_word.binds (ps := ["value"]) fun _ _ _ _ _ _ us hl => match us, hl with | [_], _ => rfl
  have F_is_count := fun_mk (st := t_is_count) l_is_count c_is_count k_is_count
  have B_is_count := F_is_count.binds (ps := ["value"]) fun _ _ _ _ _ _ us hl => match us, hl with | [_], _ => rfl
  have F_is_value := fun_mk (st := t_is_value) l_is_value c_is_value k_is_value
  have B_is_value := F_is_value.binds (ps := ["value"]) fun _ _ _ _ _ _ us hl => match us, hl with | [_], _ => rfl
  have F_is_register := fun_mk (st := t_is_register) l_is_register c_is_register k_is_register
  have B_is_register := F_is_register.binds (ps := ["value"]) fun _ _ _ _ _ _ us hl => match us, hl with | [_], _ => rfl
  have F_is_tuple_of := fun_mk (st := t_is_tuple_of) l_is_tuple_of c_is_tuple_of k_is_tuple_of
  have B_is_tuple_of := F_is_tuple_of.binds (ps := ["value", "many"]) fun _ _ _ _ _ _ us hl => match us, hl with | [_, _], _ => rfl
  have F_is_mark := fun_mk (st := t_is_mark) l_is_mark c_is_mark k_is_mark
  have B_is_mark := F_is_mark.binds (ps := ["signature", "value"]) fun _ _ _ _ _ _ us hl => match us, hl with | [_, _], _ => rfl
  have F_is_told_shape := fun_mk (st := t_is_told_shape) l_is_told_shape c_is_told_shape k_is_told_shape
  have B_is_told_shape := F_is_told_shape.binds (ps := ["value"]) fun _ _ _ _ _ _ us hl => match us, hl with | [_], _ => rfl
  have F_is_known_kind := fun_mk (st := t_is_known_kind) l_is_known_kind c_is_known_kind k_is_known_kind
  have B_is_known_kind := F_is_known_kind.binds (ps := ["signature", "value"]) fun _ _ _ _ _ _ us hl => match us, hl with | [_, _], _ => rfl
  have F_is_fact := fun_mk (st := t_is_fact) l_is_fact c_is_fact k_is_fact
  have B_is_fact := F_is_fact.binds (ps := ["signature", "value"]) fun _ _ _ _ _ _ us hl => match us, hl with | [_, _], _ => rfl
  have F_is_watched := fun_mk (st := t_is_watched) l_is_watched c_is_watched k_is_watched
  have B_is_watched := F_is_watched.binds (ps := ["signature", "value"]) fun _ _ _ _ _ _ us hl => match us, hl with | [_, _], _ => rfl
  have F_look_at_kinds := fun_mk (st := t_look_at_kinds) l_look_at_kinds c_look_at_kinds k_look_at_kinds
  have B_look_at_kinds := F_look_at_kinds.binds (ps := ["kinds"]) fun _ _ _ _ _ _ us hl => match us, hl with | [_], _ => rfl
  have F_is_variant := fun_mk (st := t_is_variant) l_is_variant c_is_variant k_is_variant
  have B_is_variant := F_is_variant.binds (ps := ["kinds", "own", "result"]) fun _ _ _ _ _ _ us hl => match us, hl with | [_, _, _], _ => rfl
  have F_look_at_primitives := fun_mk (st := t_look_at_primitives) l_look_at_primitives c_look_at_primitives k_look_at_primitives
  have B_look_at_primitives := F_look_at_primitives.binds (ps := ["kinds", "primitives"]) fun _ _ _ _ _ _ us hl => match us, hl with | [_, _], _ => rfl
  have F_Signature____init__ := fun_mk (st := t_Signature____init__) l_Signature____init__ c_Signature____init__ k_Signature____init__
  have B_Signature____init__ := F_Signature____init__.binds (ps := ["self", "kinds", "primitives"]) fun _ _ _ _ _ _ us hl => match us, hl with | [_, _, _], _ => rfl
  have F_Signature__kinds := fun_mk (st := t_Signature__kinds) l_Signature__kinds c_Signature__kinds k_Signature__kinds
  have B_Signature__kinds := F_Signature__kinds.binds (ps := ["self"]) fun _ _ _ _ _ _ us hl => match us, hl with | [_], _ => rfl
  have F_Signature__primitives := fun_mk (st := t_Signature__primitives) l_Signature__primitives c_Signature__primitives k_Signature__primitives
  have B_Signature__primitives := F_Signature__primitives.binds (ps := ["self"]) fun _ _ _ _ _ _ us hl => match us, hl with | [_], _ => rfl
  have F_Signature__variants := fun_mk (st := t_Signature__variants) l_Signature__variants c_Signature__variants k_Signature__variants
  have B_Signature__variants := F_Signature__variants.binds (ps := ["self", "name"]) fun _ _ _ _ _ _ us hl => match us, hl with | [_, _], _ => rfl
  have F_Signature__variant := fun_mk (st := t_Signature__variant) l_Signature__variant c_Signature__variant k_Signature__variant
  have B_Signature__variant := F_Signature__variant.binds (ps := ["self", "name"]) fun _ _ _ _ _ _ us hl => match us, hl with | [_, _], _ => rfl
  have F_Signature__has_kind := fun_mk (st := t_Signature__has_kind) l_Signature__has_kind c_Signature__has_kind k_Signature__has_kind
  have B_Signature__has_kind := F_Signature__has_kind.binds (ps := ["self", "value"]) fun _ _ _ _ _ _ us hl => match us, hl with | [_, _], _ => rfl
  have F_Signature__has_primitive := fun_mk (st := t_Signature__has_primitive) l_Signature__has_primitive c_Signature__has_primitive k_Signature__has_primitive
  have B_Signature__has_primitive := F_Signature__has_primitive.binds (ps := ["self", "value"]) fun _ _ _ _ _ _ us hl => match us, hl with | [_, _], _ => rfl
  have F_Signature____eq__ := fun_mk (st := t_Signature____eq__) l_Signature____eq__ c_Signature____eq__ k_Signature____eq__
  have B_Signature____eq__ := F_Signature____eq__.binds (ps := ["self", "other"]) fun _ _ _ _ _ _ us hl => match us, hl with | [_, _], _ => rfl
  have F__law_source := fun_mk (st := t__law_source) l__law_source c__law_source k__law_source
  have B__law_source := F__law_source.binds (ps := ["script"]) fun _ _ _ _ _ _ us hl => match us, hl with | [_], _ => rfl
  have F__law_pick := fun_mk (st := t__law_pick) l__law_pick c__law_pick k__law_pick
  have B__law_pick := F__law_pick.binds (ps := ["source", "many"]) fun _ _ _ _ _ _ us hl => match us, hl with | [_, _], _ => rfl
  have F__law_one_of := fun_mk (st := t__law_one_of) l__law_one_of c__law_one_of k__law_one_of
  have B__law_one_of := F__law_one_of.binds (ps := ["source", "some"]) fun _ _ _ _ _ _ us hl => match us, hl with | [_, _], _ => rfl
  have F__law_signature := fun_mk (st := t__law_signature) l__law_signature c__law_signature k__law_signature
  have B__law_signature := F__law_signature.binds (ps := []) fun _ _ _ _ _ _ us hl => match us, hl with | [], _ => rfl
  have F__law_mark := fun_mk (st := t__law_mark) l__law_mark c__law_mark k__law_mark
  have B__law_mark := F__law_mark.binds (ps := ["source"]) fun _ _ _ _ _ _ us hl => match us, hl with | [_], _ => rfl
  have F__law_shape := fun_mk (st := t__law_shape) l__law_shape c__law_shape k__law_shape
  have B__law_shape := F__law_shape.binds (ps := ["source"]) fun _ _ _ _ _ _ us hl => match us, hl with | [_], _ => rfl
  have F__law_fact := fun_mk (st := t__law_fact) l__law_fact c__law_fact k__law_fact
  have B__law_fact := F__law_fact.binds (ps := ["source", "many"]) fun _ _ _ _ _ _ us hl => match us, hl with | [_, _], _ => rfl
  have F__law_is_word := fun_mk (st := t__law_is_word) l__law_is_word c__law_is_word k__law_is_word
  have B__law_is_word := F__law_is_word.binds (ps := ["value"]) fun _ _ _ _ _ _ us hl => match us, hl with | [_], _ => rfl
  have F__law_is_number := fun_mk (st := t__law_is_number) l__law_is_number c__law_is_number k__law_is_number
  have B__law_is_number := F__law_is_number.binds (ps := ["value"]) fun _ _ _ _ _ _ us hl => match us, hl with | [_], _ => rfl
  have F__law_is_mark := fun_mk (st := t__law_is_mark) l__law_is_mark c__law_is_mark k__law_is_mark
  have B__law_is_mark := F__law_is_mark.binds (ps := ["value"]) fun _ _ _ _ _ _ us hl => match us, hl with | [_], _ => rfl
  have F__law_is_shape := fun_mk (st := t__law_is_shape) l__law_is_shape c__law_is_shape k__law_is_shape
  have B__law_is_shape := F__law_is_shape.binds (ps := ["value"]) fun _ _ _ _ _ _ us hl => match us, hl with | [_], _ => rfl
  have F__law_is_fact := fun_mk (st := t__law_is_fact) l__law_is_fact c__law_is_fact k__law_is_fact
  have B__law_is_fact := F__law_is_fact.binds (ps := ["value"]) fun _ _ _ _ _ _ us hl => match us, hl with | [_], _ => rfl
  have F__law_is_watched := fun_mk (st := t__law_is_watched) l__law_is_watched c__law_is_watched k__law_is_watched
  have B__law_is_watched := F__law_is_watched.binds (ps := ["value"]) fun _ _ _ _ _ _ us hl => match us, hl with | [_], _ => rfl
  have F__law_odd := fun_mk (st := t__law_odd) l__law_odd c__law_odd k__law_odd
  have B__law_odd := F__law_odd.binds (ps := ["source"]) fun _ _ _ _ _ _ us hl => match us, hl with | [_], _ => rfl
  have F__law_bent := fun_mk (st := t__law_bent) l__law_bent c__law_bent k__law_bent
  have B__law_bent := F__law_bent.binds (ps := ["source", "value", "deep"]) fun _ _ _ _ _ _ us hl => match us, hl with | [_, _, _], _ => rfl
  have F_law := fun_mk (st := t_law) l_law c_law k_law
  have B_law := F_law.binds (ps := ["script"]) fun _ _ _ _ _ _ us hl => match us, hl with | [_], _ => rfl
  refine ⟨PySem.W.fnOf "law" "law" (defArgs t_law) (defBody t_law) (defScope t_law) .none kV_law dc_law pm_law an_law cd_law ct_law, fun s v => .of_eq rfl, ca, fun base _ _ => ?_⟩
  have all := fns_all (P := l.prog) (w := w) (K := K) (mg := mg) (base := base) (ca := ca) (Γ := Γ) (fa := fa) fun d C f fn hf => by
    match f, hf with
    | 0, hf => exact ⟨_, _, B__wall, fn_sound (f := 0) (fa := fa) F__wall sc__wall hf (by cases hf; rfl) (by cases hf; rfl) (by cases hf; exact b__wall T) C⟩
    | 1, hf => exact ⟨_, _, B_is_word, fn_sound (f := 1) (fa := fa) F_is_word sc_is_word hf (by cases hf; rfl) (by cases hf; rfl) (by cases hf; exact b_is_word T) C⟩
    | 2, hf => exact ⟨_, _, B_is_count, fn_sound (f := 2) (fa := fa) F_is_count sc_is_count hf (by cases hf; rfl) (by cases hf; rfl) (by cases hf; exact b_is_count T) C⟩
    | 3, hf => exact ⟨_, _, B_is_value, fn_sound (f := 3) (fa := fa) F_is_value sc_is_value hf (by cases hf; rfl) (by cases hf; rfl) (by cases hf; exact b_is_value T) C⟩
    | 4, hf => exact ⟨_, _, B_is_register, fn_sound (f := 4) (fa := fa) F_is_register sc_is_register hf (by cases hf; rfl) (by cases hf; rfl) (by cases hf; exact b_is_register T) C⟩
    | 5, hf => exact ⟨_, _, B_is_tuple_of, fn_sound (f := 5) (fa := fa) F_is_tuple_of sc_is_tuple_of hf (by cases hf; rfl) (by cases hf; rfl) (by cases hf; exact b_is_tuple_of T) C⟩
    | 6, hf => exact ⟨_, _, B_is_mark, fn_sound (f := 6) (fa := fa) F_is_mark sc_is_mark hf (by cases hf; rfl) (by cases hf; rfl) (by cases hf; exact b_is_mark T) C⟩
    | 7, hf => exact ⟨_, _, B_is_told_shape, fn_sound (f := 7) (fa := fa) F_is_told_shape sc_is_told_shape hf (by cases hf; rfl) (by cases hf; rfl) (by cases hf; exact b_is_told_shape T) C⟩
    | 8, hf => exact ⟨_, _, B_is_known_kind, fn_sound (f := 8) (fa := fa) F_is_known_kind sc_is_known_kind hf (by cases hf; rfl) (by cases hf; rfl) (by cases hf; exact b_is_known_kind T) C⟩
    | 9, hf => exact ⟨_, _, B_is_fact, fn_sound (f := 9) (fa := fa) F_is_fact sc_is_fact hf (by cases hf; rfl) (by cases hf; rfl) (by cases hf; exact b_is_fact T) C⟩
    | 10, hf => exact ⟨_, _, B_is_watched, fn_sound (f := 10) (fa := fa) F_is_watched sc_is_watched hf (by cases hf; rfl) (by cases hf; rfl) (by cases hf; exact b_is_watched T) C⟩
    | 11, hf => exact ⟨_, _, B_look_at_kinds, fn_sound (f := 11) (fa := fa) F_look_at_kinds sc_look_at_kinds hf (by cases hf; rfl) (by cases hf; rfl) (by cases hf; exact b_look_at_kinds T) C⟩
    | 12, hf => exact ⟨_, _, B_is_variant, fn_sound (f := 12) (fa := fa) F_is_variant sc_is_variant hf (by cases hf; rfl) (by cases hf; rfl) (by cases hf; exact b_is_variant T) C⟩
    | 13, hf => exact ⟨_, _, B_look_at_primitives, fn_sound (f := 13) (fa := fa) F_look_at_primitives sc_look_at_primitives hf (by cases hf; rfl) (by cases hf; rfl) (by cases hf; exact b_look_at_primitives T) C⟩
    | 14, hf => exact ⟨_, _, B_Signature____init__, fn_sound (f := 14) (fa := fa) F_Signature____init__ sc_Signature____init__ hf (by cases hf; rfl) (by cases hf; rfl) (by cases hf; exact b_Signature____init__ T) C⟩
    | 15, hf => exact ⟨_, _, B_Signature__kinds, fn_sound (f := 15) (fa := fa) F_Signature__kinds sc_Signature__kinds hf (by cases hf; rfl) (by cases hf; rfl) (by cases hf; exact b_Signature__kinds T) C⟩
    | 16, hf => exact ⟨_, _, B_Signature__primitives, fn_sound (f := 16) (fa := fa) F_Signature__primitives sc_Signature__primitives hf (by cases hf; rfl) (by cases hf; rfl) (by cases hf; exact b_Signature__primitives T) C⟩
    | 17, hf => exact ⟨_, _, B_Signature__variants, fn_sound (f := 17) (fa := fa) F_Signature__variants sc_Signature__variants hf (by cases hf; rfl) (by cases hf; rfl) (by cases hf; exact b_Signature__variants T) C⟩
    | 18, hf => exact ⟨_, _, B_Signature__variant, fn_sound (f := 18) (fa := fa) F_Signature__variant sc_Signature__variant hf (by cases hf; rfl) (by cases hf; rfl) (by cases hf; exact b_Signature__variant T) C⟩
    | 19, hf => exact ⟨_, _, B_Signature__has_kind, fn_sound (f := 19) (fa := fa) F_Signature__has_kind sc_Signature__has_kind hf (by cases hf; rfl) (by cases hf; rfl) (by cases hf; exact b_Signature__has_kind T) C⟩
    | 20, hf => exact ⟨_, _, B_Signature__has_primitive, fn_sound (f := 20) (fa := fa) F_Signature__has_primitive sc_Signature__has_primitive hf (by cases hf; rfl) (by cases hf; rfl) (by cases hf; exact b_Signature__has_primitive T) C⟩
    | 21, hf => exact ⟨_, _, B_Signature____eq__, fn_sound (f := 21) (fa := fa) F_Signature____eq__ sc_Signature____eq__ hf (by cases hf; rfl) (by cases hf; rfl) (by cases hf; exact b_Signature____eq__ T) C⟩
    | 22, hf => exact ⟨_, _, B__law_source, fn_sound (f := 22) (fa := fa) F__law_source sc__law_source hf (by cases hf; rfl) (by cases hf; rfl) (by cases hf; exact b__law_source T) C⟩
    | 23, hf => exact ⟨_, _, B__law_pick, fn_sound (f := 23) (fa := fa) F__law_pick sc__law_pick hf (by cases hf; rfl) (by cases hf; rfl) (by cases hf; exact b__law_pick T) C⟩
    | 24, hf => exact ⟨_, _, B__law_one_of, fn_sound (f := 24) (fa := fa) F__law_one_of sc__law_one_of hf (by cases hf; rfl) (by cases hf; rfl) (by cases hf; exact b__law_one_of T) C⟩
    | 25, hf => exact ⟨_, _, B__law_signature, fn_sound (f := 25) (fa := fa) F__law_signature sc__law_signature hf (by cases hf; rfl) (by cases hf; rfl) (by cases hf; exact b__law_signature T) C⟩
    | 26, hf => exact ⟨_, _, B__law_mark, fn_sound (f := 26) (fa := fa) F__law_mark sc__law_mark hf (by cases hf; rfl) (by cases hf; rfl) (by cases hf; exact b__law_mark T) C⟩
    | 27, hf => exact ⟨_, _, B__law_shape, fn_sound (f := 27) (fa := fa) F__law_shape sc__law_shape hf (by cases hf; rfl) (by cases hf; rfl) (by cases hf; exact b__law_shape T) C⟩
    | 28, hf => exact ⟨_, _, B__law_fact, fn_sound (f := 28) (fa := fa) F__law_fact sc__law_fact hf (by cases hf; rfl) (by cases hf; rfl) (by cases hf; exact b__law_fact T) C⟩
    | 29, hf => exact ⟨_, _, B__law_is_word, fn_sound (f := 29) (fa := fa) F__law_is_word sc__law_is_word hf (by cases hf; rfl) (by cases hf; rfl) (by cases hf; exact b__law_is_word T) C⟩
    | 30, hf => exact ⟨_, _, B__law_is_number, fn_sound (f := 30) (fa := fa) F__law_is_number sc__law_is_number hf (by cases hf; rfl) (by cases hf; rfl) (by cases hf; exact b__law_is_number T) C⟩
    | 31, hf => exact ⟨_, _, B__law_is_mark, fn_sound (f := 31) (fa := fa) F__law_is_mark sc__law_is_mark hf (by cases hf; rfl) (by cases hf; rfl) (by cases hf; exact b__law_is_mark T) C⟩
    | 32, hf => exact ⟨_, _, B__law_is_shape, fn_sound (f := 32) (fa := fa) F__law_is_shape sc__law_is_shape hf (by cases hf; rfl) (by cases hf; rfl) (by cases hf; exact b__law_is_shape T) C⟩
    | 33, hf => exact ⟨_, _, B__law_is_fact, fn_sound (f := 33) (fa := fa) F__law_is_fact sc__law_is_fact hf (by cases hf; rfl) (by cases hf; rfl) (by cases hf; exact b__law_is_fact T) C⟩
    | 34, hf => exact ⟨_, _, B__law_is_watched, fn_sound (f := 34) (fa := fa) F__law_is_watched sc__law_is_watched hf (by cases hf; rfl) (by cases hf; rfl) (by cases hf; exact b__law_is_watched T) C⟩
    | 35, hf => exact ⟨_, _, B__law_odd, fn_sound (f := 35) (fa := fa) F__law_odd sc__law_odd hf (by cases hf; rfl) (by cases hf; rfl) (by cases hf; exact b__law_odd T) C⟩
    | 36, hf => exact ⟨_, _, B__law_bent, fn_sound (f := 36) (fa := fa) F__law_bent sc__law_bent hf (by cases hf; rfl) (by cases hf; rfl) (by cases hf; exact b__law_bent T) C⟩
    | 37, hf => exact ⟨_, _, B_law, fn_sound (f := 37) (fa := fa) F_law sc_law hf (by cases hf; rfl) (by cases hf; rfl) (by cases hf; exact b_law T) C⟩
    | n + 38, hf => exact absurd hf (by intro z; cases z)
  exact fn_sound (f := 37) (fa := fa) F_law sc_law (rfl : Γ 37 = some _) rfl rfl (b_law T) (all 20)
end K45

set_option maxRecDepth 100000
namespace K45
open PySem PySem.Spec PyProof.Rows L2 MP
theorem src_is : m__law_source = srcBody := by rfl
theorem pick_is : m__law_pick = pickBody := by rfl
end K45

set_option Elab.async false
set_option linter.all false
set_option maxRecDepth 100000
set_option maxHeartbeats 4000000
namespace K45
open PySem L2 MP
def LE : Str := "abcdefghijklmnopqrstuvwxyz"
def DI : Str := "0123456789"
theorem ok_LE : PyData.strOk LE = true := by decide +kernel
theorem app_LD : (LE ++ DI).cps.toList = LE.cps.toList ++ DI.cps.toList := by decide +kernel
def sgn (c : Nat) : MV := .str ⟨#[c]⟩
theorem signs_eq (z : Str) : signs z = z.cps.toList.map sgn := rfl
def chk (c : Nat) : Bool := decide (c ∈ LE.cps.toList) || decide (c ∈ DI.cps.toList)
/-- what a word is -/
def wordA (z : Str) : Bool := decide (z.length ≤ 12) && (match z.cps.toList with
  | [] => false
  | c :: cs => decide (c ∈ LE.cps.toList) && (c :: cs).all chk)
def isWordV : MV → Bool
  | .str z => wordA z
  | _ => false
/-- what may be asked whether it is a word -/
def Ask (st : Store) (v : MV) : Prop := (∃ z, v = .str z ∧ Txt0 z) ∨ (isT st v .str = some false ∧ isWordV v = false)
variable {d : Nat} {st : Store} {Q : MV → Store → Prop}
theorem chk_map (z : Str) : (signs z).map (fun v => match v with
    | .str x => MV.bl (inTxt x LE || inTxt x DI)
    | _ => .non) = z.cps.toList.map fun c => MV.bl (chk c) := by
  rw [signs_eq, List.map_map]
  rfl
theorem len_list (z : Str) : z.length = z.cps.toList.length := by
  show z.cps.size = _
  simp
theorem at0 {z : Str} {c : Nat} {cs : List Nat} (h : z.cps.toList = c :: cs) : atI z.cps.toList 0 = some c := by
  rw [h]
  unfold atI ixN
  rw [if_pos (Int.le_refl 0), if_pos (by simp)]
  rfl
theorem idx0 {z : Str} {c : Nat} {cs : List Nat} (hl : z.length ≤ 1000) (h : z.cps.toList = c :: cs) : idxV (.str z) (.int 0) st = .ok (sgn c) st := by
  show (if z.length ≤ sizeLine then (match atI z.cps.toList 0 with
    | some c => Res.ok (MV.str ⟨#[c]⟩) st
    | none => .stuck) else .stuck) = _
  rw [if_pos (Nat.le_trans hl (by decide)), at0 h]
  rfl
theorem is_word_ok {v : MV} (h : Ask st v) (q : Q (.bl (isWordV v)) st) : wC Γ d 1 [v] st Q := by
  refine c_body rfl rfl ?_
  show wB Γ d m_is_word [some v, none] st _
  unfold m_is_word
  rcases h with ⟨z, rfl, hz, ok⟩ | ⟨h1, h2⟩
  · have hz' : z.length ≤ 1000 := by omega
    refine b_cons' (S_iff (t_or' (t_not' (t_e (fun _ _ _ => rfl) (e_bi (a_cons (e_var rfl (a_nil (rs_of (isi_of rfl) ⟨true, rfl, fun _ => ?_, fun z => by cases z⟩)))))))))
    refine t_or' (t_e (fun _ _ _ => rfl) (e_cmp (e_bi (a_cons (e_var rfl (a_nil (rs_of (len_str hz') (e_lit (rs_of (eq_int _ _) ⟨_, rfl, ?_⟩)))))))))
    cases hc : z.cps.toList with
    | nil =>
      have l0 : z.length = 0 := by rw [len_list, hc]; rfl
      have e : wordA z = false := by unfold wordA; rw [hc]; simp
      refine ⟨fun hk => by simp [l0] at hk, fun _ => ⟨fun _ => ?_, fun z => by cases z⟩⟩
      refine b_cons' (S_ret (e_lit ?_))
      show Q (.bl false) st
      rw [← e]; exact q
    | cons c cs =>
      have l1 : z.length = cs.length + 1 := by rw [len_list, hc]; rfl
      refine ⟨fun _ => ?_, fun hk => by simp [l1] at hk; omega⟩
      refine t_or' (t_e (fun _ _ _ => rfl) (e_cmp (e_bi (a_cons (e_var rfl (a_nil (rs_of (len_str hz') (e_lit (Rs.ok ⟨_, rfl, ?_⟩)))))))))
      by_cases h12 : z.length ≤ 12
      · have e12 : decide ((12 : Int) < z.length) = false := decide_eq_false (by omega)
        rw [e12]
        refine ⟨fun _ => ?_, fun z => by cases z⟩
        refine t_e (fun _ _ _ => rfl) (e_cmp (e_idx (e_var rfl (e_lit (rs_of (idx0 hz' hc) (e_lit (rs_of (notin_str _ _) ⟨_, rfl, ?_⟩)))))))
        have e1 : inTxt ⟨#[c]⟩ ("abcdefghijklmnopqrstuvwxyz" : Str) = decide (c ∈ LE.cps.toList) := rfl
        rw [e1]
        cases hL : decide (c ∈ LE.cps.toList) with
        | false =>
          have e : wordA z = false := by unfold wordA; rw [hc]; simp only [hL]; simp
          refine ⟨fun _ => ?_, fun z => by cases z⟩
          refine b_cons' (S_ret (e_lit ?_))
          show Q (.bl false) st
          rw [← e]; exact q
        | true =>
          refine ⟨(fun z => by cases z), fun _ => b_nil' ?_⟩
          refine b_cons' (S_ret (e_all (l_comp (i_seq' (e_var rfl ⟨_, rfl, ?_⟩)))))
          refine g_map (fun v => match v with
            | .str x => MV.bl (inTxt x LE || inTxt x DI)
            | _ => .non) (by rw [signs_eq, List.length_map, ← len_list]; show 0 + z.length ≤ sizeLine; have : 1000 ≤ sizeLine := by decide
                             omega) (fun v hv => ?_) ?_
          · rw [signs_eq] at hv
            obtain ⟨c', _, rfl⟩ := List.mem_map.mp hv
            refine ⟨_, rfl, fun Q' q' => ?_⟩
            refine e_or (e_cmp (e_var rfl (e_lit (rs_of (in_str _ _) ⟨_, rfl, fun h1 => ?_, fun h1 => ?_⟩))))
            · refine e_cmp (e_var rfl (e_lit (rs_of (in_str _ _) ?_)))
              have e3 : inTxt ⟨#[c']⟩ LE = false := h1
              have q2 : Q' (.bl (inTxt ⟨#[c']⟩ LE || inTxt ⟨#[c']⟩ DI)) st := q'
              rw [e3, Bool.false_or] at q2
              exact q2
            · have e3 : inTxt ⟨#[c']⟩ LE = true := h1
              have q2 : Q' (.bl (inTxt ⟨#[c']⟩ LE || inTxt ⟨#[c']⟩ DI)) st := q'
              rw [e3, Bool.true_or] at q2
              exact q2
          · rw [chk_map, List.nil_append]
            refine ⟨_, bls_map chk _, ?_⟩
            show Q (.bl _) st
            have e : wordA z = (z.cps.toList.map chk).all id := by
              unfold wordA
              rw [hc]
              simp only [hL, h12]
              simp [List.all_map]
            rw [← e]; exact q
      · have e12 : decide ((12 : Int) < z.length) = true := decide_eq_true (by omega)
        rw [e12]
        have e : wordA z = false := by unfold wordA; simp [h12]
        refine ⟨(fun z => by cases z), fun _ => ⟨fun _ => ?_, fun z => by cases z⟩⟩
        refine b_cons' (S_ret (e_lit ?_))
        show Q (.bl false) st
        rw [← e]; exact q
  · refine b_cons' (S_iff (t_or' (t_not' (t_e (fun _ _ _ => rfl) (e_bi (a_cons (e_var rfl (a_nil (rs_of (isi_of h1) ⟨false, rfl, (fun z => by cases z), fun _ => ⟨fun _ => ?_, fun z => by cases z⟩⟩)))))))))
    refine b_cons' (S_ret (e_lit ?_))
    show Q (.bl false) st
    rw [← h2]; exact q
end K45

set_option Elab.async false
set_option linter.all false
set_option maxRecDepth 100000
set_option maxHeartbeats 4000000
namespace K45
open PySem L2 MP
variable {d : Nat} {st : Store} {Q : MV → Store → Prop}
def isCountV : MV → Bool
  | .int i => decide (0 ≤ i)
  | _ => false
theorem _root_.MP.G1.ask {v : MV} (h : G1 st v) : Ask st v := by
  cases h with
  | str h => exact .inl ⟨_, rfl, h⟩
  | lst _ h => exact .inr ⟨isT_lst h, rfl⟩
  | dK _ h => exact .inr ⟨isT_dK h, rfl⟩
  | _ => exact .inr ⟨rfl, rfl⟩
theorem is_count_ok {v : MV} (h : G1 st v) (q : Q (.bl (isCountV v)) st) : wC Γ d 2 [v] st Q := by
  refine c_body rfl rfl ?_
  show wB Γ d m_is_count [some v] st _
  unfold m_is_count
  have no : isT st v .int = some false → isCountV v = false → wB Γ d [.ret (.and (.bi (.isi [.int]) [.var 0]) (.and (.not (.bi (.isi [.bool]) [.var 0])) (.cmp .ge (.var 0) (.lit (.int 0)))))] [some v] st (retQ Q) := fun h1 h2 => by
    refine b_cons' (S_ret (e_and (e_bi (a_cons (e_var rfl (a_nil (rs_of (isi_of h1) ⟨false, rfl, (fun z => by cases z), fun _ => ?_⟩)))))))
    show Q (.bl false) st
    rw [← h2]; exact q
  cases h with
  | non => exact no rfl rfl
  | str h => exact no rfl rfl
  | tup xs => exact no rfl rfl
  | lst _ h => exact no (isT_lst h) rfl
  | dK _ h => exact no (isT_dK h) rfl
  | bl b =>
    refine b_cons' (S_ret (e_and (e_bi (a_cons (e_var rfl (a_nil (rs_of (isi_of rfl) ⟨true, rfl, fun _ => ?_, fun z => by cases z⟩)))))))
    exact e_and (e_not (t_e (fun _ _ _ => rfl) (e_bi (a_cons (e_var rfl (a_nil (rs_of (isi_of rfl) ⟨true, rfl, false, rfl, (fun z => by cases z), fun _ => q⟩)))))))
  | int i =>
    refine b_cons' (S_ret (e_and (e_bi (a_cons (e_var rfl (a_nil (rs_of (isi_of rfl) ⟨true, rfl, fun _ => ?_, fun z => by cases z⟩)))))))
    exact e_and (e_not (t_e (fun _ _ _ => rfl) (e_bi (a_cons (e_var rfl (a_nil (rs_of (isi_of rfl) ⟨false, rfl, true, rfl, (fun _ => e_cmp (e_var rfl (e_lit (Rs.ok q)))), fun z => by cases z⟩)))))))
/-! ### the law's own word -/
theorem is_register_ok {v : MV} (h : G1 st v) (q : Q (.bl (isCountV v)) st) : wC Γ d 4 [v] st Q := by
  refine c_body rfl rfl ?_
  show wB Γ d m_is_register [some v] st _
  unfold m_is_register
  have no : isT st v .int = some false → isCountV v = false → wB Γ d [.ret (.and (.bi (.isi [.int]) [.var 0]) (.and (.not (.bi (.isi [.bool]) [.var 0])) (.cmp .ge (.var 0) (.lit (.int 0)))))] [some v] st (retQ Q) := fun h1 h2 => by
    refine b_cons' (S_ret (e_and (e_bi (a_cons (e_var rfl (a_nil (rs_of (isi_of h1) ⟨false, rfl, (fun z => by cases z), fun _ => ?_⟩)))))))
    show Q (.bl false) st
    rw [← h2]; exact q
  cases h with
  | non => exact no rfl rfl
  | str h => exact no rfl rfl
  | tup xs => exact no rfl rfl
  | lst _ h => exact no (isT_lst h) rfl
  | dK _ h => exact no (isT_dK h) rfl
  | bl b =>
    refine b_cons' (S_ret (e_and (e_bi (a_cons (e_var rfl (a_nil (rs_of (isi_of rfl) ⟨true, rfl, fun _ => ?_, fun z => by cases z⟩)))))))
    exact e_and (e_not (t_e (fun _ _ _ => rfl) (e_bi (a_cons (e_var rfl (a_nil (rs_of (isi_of rfl) ⟨true, rfl, false, rfl, (fun z => by cases z), fun _ => q⟩)))))))
  | int i =>
    refine b_cons' (S_ret (e_and (e_bi (a_cons (e_var rfl (a_nil (rs_of (isi_of rfl) ⟨true, rfl, fun _ => ?_, fun z => by cases z⟩)))))))
    exact e_and (e_not (t_e (fun _ _ _ => rfl) (e_bi (a_cons (e_var rfl (a_nil (rs_of (isi_of rfl) ⟨false, rfl, true, rfl, (fun _ => e_cmp (e_var rfl (e_lit (Rs.ok q)))), fun z => by cases z⟩)))))))
/-! ### the law's own word -/
theorem law_number_ok {v : MV} (h : G1 st v) (q : Q (.bl (isCountV v)) st) : wC Γ d 30 [v] st Q := by
  refine c_body rfl rfl ?_
  show wB Γ d m__law_is_number [some v] st _
  unfold m__law_is_number
  have no : isT st v .int = some false → isCountV v = false → wB Γ d [.ret (.and (.bi (.isi [.int]) [.var 0]) (.and (.not (.bi (.isi [.bool]) [.var 0])) (.cmp .ge (.var 0) (.lit (.int 0)))))] [some v] st (retQ Q) := fun h1 h2 => by
    refine b_cons' (S_ret (e_and (e_bi (a_cons (e_var rfl (a_nil (rs_of (isi_of h1) ⟨false, rfl, (fun z => by cases z), fun _ => ?_⟩)))))))
    show Q (.bl false) st
    rw [← h2]; exact q
  cases h with
  | non => exact no rfl rfl
  | str h => exact no rfl rfl
  | tup xs => exact no rfl rfl
  | lst _ h => exact no (isT_lst h) rfl
  | dK _ h => exact no (isT_dK h) rfl
  | bl b =>
    refine b_cons' (S_ret (e_and (e_bi (a_cons (e_var rfl (a_nil (rs_of (isi_of rfl) ⟨true, rfl, fun _ => ?_, fun z => by cases z⟩)))))))
    exact e_and (e_not (t_e (fun _ _ _ => rfl) (e_bi (a_cons (e_var rfl (a_nil (rs_of (isi_of rfl) ⟨true, rfl, false, rfl, (fun z => by cases z), fun _ => q⟩)))))))
  | int i =>
    refine b_cons' (S_ret (e_and (e_bi (a_cons (e_var rfl (a_nil (rs_of (isi_of rfl) ⟨true, rfl, fun _ => ?_, fun z => by cases z⟩)))))))
    exact e_and (e_not (t_e (fun _ _ _ => rfl) (e_bi (a_cons (e_var rfl (a_nil (rs_of (isi_of rfl) ⟨false, rfl, true, rfl, (fun _ => e_cmp (e_var rfl (e_lit (Rs.ok q)))), fun z => by cases z⟩)))))))
/-! ### the law's own word -/
end K45

set_option Elab.async false
set_option linter.all false
set_option maxRecDepth 100000
set_option maxHeartbeats 4000000
namespace K45
open PySem L2 MP
variable {d : Nat} {st : Store} {Q : MV → Store → Prop}
theorem one_ok {z : Str} (h : PyData.strOk z = true) {c : Nat} (hc : c ∈ z.cps.toList) : PyData.strOk ⟨#[c]⟩ = true := by
  unfold PyData.strOk at h ⊢
  rw [← Array.all_toList] at h
  have := List.all_eq_true.mp h c hc
  simpa using this
theorem chk_no (c : Nat) : (!inTxt ⟨#[c]⟩ (LE ++ DI)) = !chk c := by
  have : inTxt ⟨#[c]⟩ (LE ++ DI) = decide (c ∈ (LE ++ DI).cps.toList) := rfl
  rw [this, app_LD]
  unfold chk
  simp [List.mem_append]
def noS (v : MV) : Bool := match v with
  | .str x => !inTxt x (LE ++ DI)
  | _ => false
theorem flt_eq (z : Str) : (signs z).filter noS = ((z.cps.toList.filter fun c => !chk c).map fun c => (⟨#[c]⟩ : Str)).map MV.str := by
  rw [signs_eq, List.filter_map, List.map_map]
  have e : (noS ∘ sgn) = fun c => !chk c := funext fun c => chk_no c
  rw [e]
  rfl
theorem eqv_nil (xs : List Str) : PyData.eqv (.list (xs.map PyData.str)) (.list []) = xs.isEmpty := by
  cases xs <;> simp [PyData.eqv, PyData.eqvAll]

theorem LE_mem (c : Nat) : decide (c ∈ LE.cps.toList) = (decide (97 ≤ c) && decide (c ≤ 122)) := by
  have e : LE.cps.toList = (List.range 26).map (· + 97) := by decide +kernel
  rw [e, Bool.eq_iff_iff]
  simp only [decide_eq_true_eq, Bool.and_eq_true, List.mem_map, List.mem_range]
  exact ⟨fun ⟨a, h1, h2⟩ => by omega, fun h => ⟨c - 97, by omega, by omega⟩⟩
theorem le_a (c : Nat) : cmpV .le (.str ("a" : Str)) (sgn c) st = .ok (.bl (decide (97 ≤ c))) st := by
  have e : (decide ((#[c] : Array Nat).toList < ("a" : Str).cps.toList)) = decide (c < 97) := by
    have ea : ("a" : Str).cps.toList = [97] := by decide +kernel
    rw [ea, Bool.eq_iff_iff]
    simp [List.cons_lt_cons_iff]
  show Res.ok (MV.bl (!(decide ((#[c] : Array Nat).toList < ("a" : Str).cps.toList)))) st = _
  rw [e]
  congr 2
  by_cases h : c < 97 <;> simp [h] <;> omega
theorem le_z (c : Nat) : cmpV .le (sgn c) (.str ("z" : Str)) st = .ok (.bl (decide (c ≤ 122))) st := by
  have e : (decide (("z" : Str).cps.toList < (#[c] : Array Nat).toList)) = decide (122 < c) := by
    have ea : ("z" : Str).cps.toList = [122] := by decide +kernel
    rw [ea, Bool.eq_iff_iff]
    simp [List.cons_lt_cons_iff]
  show Res.ok (MV.bl (!(decide (("z" : Str).cps.toList < (#[c] : Array Nat).toList)))) st = _
  rw [e]
  congr 2
  by_cases h : 122 < c <;> simp [h] <;> omega
end K45

set_option Elab.async false
set_option linter.all false
set_option maxRecDepth 100000
set_option maxHeartbeats 4000000
namespace K45
open PySem L2 MP
variable {d : Nat} {st : Store} {Q : MV → Store → Prop}
theorem law_word_no {v : MV} (h1 : isT st v .str = some false) (h2 : isWordV v = false) (q : Q (.bl (isWordV v)) st) : wC Γ d 29 [v] st Q := by
  refine c_body rfl rfl ?_
  show wB Γ d m__law_is_word [some v, none] st _
  unfold m__law_is_word
  refine b_cons' (S_iff (t_or' (t_not' (t_e (fun _ _ _ => rfl) (e_bi (a_cons (e_var rfl (a_nil (rs_of (isi_of h1) ⟨false, rfl, (fun z => by cases z), fun _ => ⟨fun _ => ?_, fun z => by cases z⟩⟩)))))))))
  refine b_cons' (S_ret (e_lit ?_))
  show Q (.bl false) st
  rw [← h2]; exact q
end K45

set_option Elab.async false
set_option linter.all false
set_option maxRecDepth 100000
set_option maxHeartbeats 4000000
namespace K45
open PySem L2 MP
variable {d : Nat} {st : Store} {Q : MV → Store → Prop}
theorem g_fmap {env : MP.Env} {tg : Tg} {c el : ME} {Q : List MV → Store → Prop} (p : MV → Bool) (f : MV → MV) : ∀ {xs acc : List MV}, acc.length + xs.length ≤ sizeLine → (∀ v, v ∈ xs → ∃ env1, tg.set v env = some env1 ∧ (∀ Q' : Bool → Store → Prop, Q' (p v) st → wT Γ d c env1 st Q') ∧ ∀ Q' : MV → Store → Prop, Q' (f v) st → wE Γ d el env1 st Q') →
    Q (acc ++ (xs.filter p).map f) st → wG Γ d (.snap xs) tg [c] el env acc st Q
  | [], acc, _, _, q => g_nil (by simpa using q)
  | v :: xs, acc, hl, h, q => by
    obtain ⟨env1, e, hc, he⟩ := h v (List.mem_cons_self ..)
    rw [List.length_cons] at hl
    refine g_cons e (ts_one' (hc _ ⟨fun hp => he _ ⟨by omega, ?_⟩, fun hp => ?_⟩))
    · refine g_fmap p f (by rw [List.length_append, List.length_cons, List.length_nil]; omega) (fun u hu => h u (List.mem_cons_of_mem _ hu)) ?_
      rw [List.filter_cons_of_pos hp] at q
      simpa using q
    · refine g_fmap p f (by omega) (fun u hu => h u (List.mem_cons_of_mem _ hu)) ?_
      rw [List.filter_cons_of_neg (by rw [hp]; exact Bool.false_ne_true)] at q
      exact q
theorem mapM_ones (f : Nat) : ∀ xs : List MV, (xs.map fun _ => MV.int 1).mapM (toD st (f + 1)) = some (xs.map fun _ => PyData.int 1)
  | [] => rfl
  | x :: xs => by
    rw [List.map_cons, List.mapM_cons, mapM_ones f xs]
    rfl
theorem lay_ones : ∀ xs : List MV, PyData.canLayAll0 (xs.map fun _ => PyData.int 1) = true
  | [] => by simp [PyData.canLayAll0]
  | x :: xs => by
    rw [List.map_cons]
    simp [PyData.canLayAll0, PyData.canLay0, lay_ones xs]
theorem dep_ones : ∀ xs : List MV, PyData.depthAll (xs.map fun _ => PyData.int 1) = 0
  | [] => by simp [PyData.depthAll]
  | x :: xs => by rw [List.map_cons]; simp [PyData.depthAll, PyData.depth, dep_ones xs]
theorem sh_ones (xs : List MV) : SeqAt.shaped (.list (xs.map fun _ => PyData.int 1)) = true := by
  simp [SeqAt.shaped, PyData.canLay0, PyData.depth, lay_ones, dep_ones]
theorem toS_ones (xs : List MV) : toS st (.scr (xs.map fun _ => .int 1)) = some (.list (xs.map fun _ => .int 1)) := by
  have e : toD st 66 (.scr (xs.map fun _ => .int 1)) = some (.list (xs.map fun _ => .int 1)) := by
    show ((xs.map fun _ => MV.int 1).mapM (toD st 65)).map PyData.list = _
    rw [mapM_ones 64]
    rfl
  unfold toS
  rw [e]
  show (if SeqAt.shaped (.list (xs.map fun _ => PyData.int 1)) = true then some _ else none) = _
  rw [if_pos (sh_ones xs)]
theorem toS_onesR {n : Nat} {xs : List MV} (hn : st.get n = some (.lst (xs.map fun _ => .int 1))) : toS st (.ref n) = some (.list (xs.map fun _ => .int 1)) := by
  have e : toD st 66 (.ref n) = some (.list (xs.map fun _ => .int 1)) := by
    show (match st.get n with
      | some (.lst xs) => (xs.mapM (toD st 65)).map PyData.list
      | _ => none) = _
    rw [hn]
    show ((xs.map fun _ => MV.int 1).mapM (toD st 65)).map PyData.list = _
    rw [mapM_ones 64]
    rfl
  unfold toS
  rw [e]
  show (if SeqAt.shaped (.list (xs.map fun _ => PyData.int 1)) = true then some _ else none) = _
  rw [if_pos (sh_ones xs)]
theorem eqv_ones (xs : List MV) : PyData.eqv (.list (xs.map fun _ => .int 1)) (.list []) = xs.isEmpty := by
  cases xs <;> simp [PyData.eqv, PyData.eqvAll]
theorem cmpL_ones (xs : List MV) : cmpLV .eq (xs.map fun _ => .int 1) [] st = .ok (.bl xs.isEmpty) st := by
  have e3 : toS st (.scr []) = some (.list []) := toS_ones []
  unfold cmpLV
  rw [toS_ones, e3]
  show Res.ok (MV.bl (PyData.eqv _ (.list []))) st = _
  rw [eqv_ones]
theorem ne_ones {n m : Nat} {xs : List MV} (hn : st.get n = some (.lst (xs.map fun _ => .int 1))) (hm : st.get m = some (.lst [])) : cmpV .ne (.ref n) (.ref m) st = .ok (.bl (!xs.isEmpty)) st := by
  have e3 : toS st (.ref m) = some (.list []) := toS_onesR (xs := []) hm
  show okB (MP.eqV (.ref n) (.ref m) st) (!·) st = _
  unfold MP.eqV
  rw [toS_onesR hn, e3]
  show Res.ok (MV.bl (!PyData.eqv _ (.list []))) st = _
  rw [eqv_ones]
theorem law_word_str {z : Str} (hz : Txt0 z) (q : Q (.bl (wordA z)) st) : wC Γ d 29 [.str z] st Q := by
  have hz' : z.length ≤ 1000 := by have := hz.1; omega
  refine c_body rfl rfl ?_
  show wB Γ d m__law_is_word [some (.str z), none] st _
  unfold m__law_is_word
  refine b_cons' (S_iff (t_or' (t_not' (t_e (fun _ _ _ => rfl) (e_bi (a_cons (e_var rfl (a_nil (rs_of (isi_of rfl) ⟨true, rfl, fun _ => ?_, fun z => by cases z⟩)))))))))
  refine t_or' (t_not' (t_e (fun _ _ _ => rfl) (e_chain (e_lit (e_bi (a_cons (e_var rfl (a_nil (rs_of (len_str hz') (Rs.ok ⟨_, rfl, fun k1 => ?_, fun k1 => ?_⟩))))))))))
  · have l1 : 1 ≤ z.length := by have := of_decide_eq_true k1; omega
    refine e_lit (Rs.ok ⟨_, rfl, fun k2 => ?_, fun k2 => ?_⟩)
    · have l2 : z.length ≤ 12 := by have := of_decide_eq_true (show decide ((z.length : Int) ≤ 12) = true by simpa using k2); omega
      cases hc : z.cps.toList with
      | nil => rw [len_list, hc] at l1; exact absurd l1 (by decide)
      | cons c cs =>
        refine t_not' (t_e (fun _ _ _ => rfl) (e_chain (e_lit (e_idx (e_var rfl (e_lit (rs_of (idx0 hz' hc) (rs_of (le_a c) ⟨_, rfl, fun k3 => ?_, fun k3 => ?_⟩))))))))
        · refine e_lit (rs_of (le_z c) ⟨_, rfl, fun k4 => ?_, fun k4 => ?_⟩)
          · have hL : decide (c ∈ LE.cps.toList) = false := by rw [LE_mem, show decide (c ≤ 122) = false by simpa using k4, Bool.and_false]
            have e : wordA z = false := by unfold wordA; rw [hc]; simp only [hL]; simp
            refine b_cons' (S_ret (e_lit ?_))
            show Q (.bl false) st
            rw [← e]; exact q
          · have hL : decide (c ∈ LE.cps.toList) = true := by rw [LE_mem, k3, show decide (c ≤ 122) = true by simpa using k4]; rfl
            refine b_nil' ?_
            refine b_cons' (S_ret (e_cmpL (l_comp (i_seq' (e_var rfl ⟨_, rfl, ?_⟩)))))
            refine g_fmap noS (fun _ => .int 1) (by rw [signs_eq, List.length_map, ← len_list]; show 0 + z.length ≤ sizeLine; have : 1000 ≤ sizeLine := by decide
                                                    omega) (fun v hv => ?_) ?_
            · rw [signs_eq] at hv
              obtain ⟨c', _, rfl⟩ := List.mem_map.mp hv
              refine ⟨_, rfl, fun Q' q' => ?_, fun Q' q' => e_lit q'⟩
              exact t_e (fun _ _ _ => rfl) (e_cmp (e_var rfl (e_lit (rs_of (notin_str _ _) ⟨_, rfl, q'⟩))))
            · rw [List.nil_append]
              refine l_lst (a_nil ⟨Nat.zero_le _, ?_⟩)
              refine rs_of (cmpL_ones _) ?_
              show Q (.bl _) st
              have e : wordA z = ((signs z).filter noS).isEmpty := by
                rw [flt_eq]
                unfold wordA
                rw [hc]
                simp only [hL, l2]
                rw [List.isEmpty_map, List.isEmpty_map]
                rw [Bool.eq_iff_iff]
                simp only [decide_true, Bool.true_and, List.all_eq_true, List.isEmpty_iff, List.filter_eq_nil_iff]
                simp
              rw [← e]; exact q
        · have hL : decide (c ∈ LE.cps.toList) = false := by rw [LE_mem, k3, Bool.false_and]
          have e : wordA z = false := by unfold wordA; rw [hc]; simp only [hL]; simp
          refine ⟨_, rfl, (fun _ => ?_), fun z => by cases z⟩
          refine b_cons' (S_ret (e_lit ?_))
          show Q (.bl false) st
          rw [← e]; exact q
    · have h12 : ¬ z.length ≤ 12 := by have := of_decide_eq_false (show decide ((z.length : Int) ≤ 12) = false by simpa using k2); omega
      have e : wordA z = false := by unfold wordA; simp [h12]
      refine ⟨fun _ => ?_, fun z => by cases z⟩
      refine b_cons' (S_ret (e_lit ?_))
      show Q (.bl false) st
      rw [← e]; exact q
  · have l0 : z.length = 0 := by have := of_decide_eq_false k1; omega
    have hc : z.cps.toList = [] := List.eq_nil_of_length_eq_zero (by rw [← len_list]; exact l0)
    have e : wordA z = false := by unfold wordA; rw [hc]; simp
    refine ⟨_, rfl, (fun z => by cases z), fun _ => ⟨fun _ => ?_, fun z => by cases z⟩⟩
    refine b_cons' (S_ret (e_lit ?_))
    show Q (.bl false) st
    rw [← e]; exact q
theorem law_word_ok {v : MV} (h : G1 st v) (q : Q (.bl (isWordV v)) st) : wC Γ d 29 [v] st Q := by
  rcases h.ask with ⟨z, rfl, hz⟩ | ⟨h1, h2⟩
  · exact law_word_str hz q
  · exact law_word_no h1 h2 q
end K45

set_option Elab.async false
set_option linter.all false
set_option maxRecDepth 100000
set_option maxHeartbeats 4000000
namespace K45
open PySem L2 MP
variable {d : Nat} {st : Store} {Q : MV → Store → Prop}
def RES : List Str := ["none", "bit", "err", "fun", "obj"]
theorem ok_RES : ∀ x ∈ RES, PyData.strOk x = true := by decide +kernel
def noRes : MV → Bool
  | .str x => !(RES.any fun y => y == x)
  | _ => false
def isBit : MV → Bool
  | .str x => (["yes", "no"] : List Str).any fun y => y == x
  | _ => false
def tokV : List MV → Bool
  | [a, b] => isWordV a && (noRes a && isCountV b)
  | _ => false
/-- the spec of a value, by its word and the rest -/
def valV (w : Str) (r : List MV) : Bool :=
  if (w == ("none" : Str)) = true then r.isEmpty
  else if (w == ("tok" : Str)) = true then tokV r
  else match r with
    | [a] => if (w == ("bit" : Str)) = true then isBit a else if (w == ("obj" : Str)) = true then isCountV a else ((["err", "fun"] : List Str).any fun y => y == w) && isWordV a
    | _ => false
def isValueV : MV → Bool
  | .tup (.str w :: r) => valV w r
  | _ => false
def G2 (st : Store) (v : MV) : Prop := G1 st v ∧ ∀ xs, v = .tup xs → ∀ x ∈ xs, G1 st x
theorem idx_head (x : MV) (r : List MV) : idxV (.tup (x :: r)) (.int 0) st = .ok x st := by
  have e : atI (x :: r) 0 = some x := by
    unfold atI ixN
    rw [if_pos (Int.le_refl 0), if_pos (by rw [List.length_cons]; omega)]
    rfl
  show (match atI (x :: r) 0 with
    | some v => Res.ok v st
    | none => .stuck) = _
  rw [e]
theorem len_tup (xs : List MV) : biV .len [.tup xs] st = .ok (.int xs.length) st := rfl
theorem _root_.MP.G1.strOr {v : MV} (h : G1 st v) : (∃ w, v = .str w ∧ Txt0 w) ∨ (isT st v .str = some false ∧ isWordV v = false ∧ isBit v = false ∧ noRes v = false) := by
  cases h with
  | str h => exact .inl ⟨_, rfl, h⟩
  | lst _ h => exact .inr ⟨isT_lst h, rfl, rfl, rfl⟩
  | dK _ h => exact .inr ⟨isT_dK h, rfl, rfl, rfl⟩
  | _ => exact .inr ⟨rfl, rfl, rfl, rfl⟩
theorem _root_.MP.G1.tupOr {v : MV} (h : G1 st v) : (∃ xs, v = .tup xs) ∨ (isT st v .tuple = some false ∧ isValueV v = false) := by
  cases h with
  | tup xs => exact .inl ⟨_, rfl⟩
  | lst _ h => exact .inr ⟨isT_lst h, rfl⟩
  | dK _ h => exact .inr ⟨isT_dK h, rfl⟩
  | _ => exact .inr ⟨rfl, rfl⟩
theorem two_ok : ∀ x ∈ (["yes", "no"] : List Str), PyData.strOk x = true := by decide +kernel
theorem two_ok2 : ∀ x ∈ (["err", "fun"] : List Str), PyData.strOk x = true := by decide +kernel
/-- what stands behind the first test of is_value -/
def restV : List MS := m_is_value.drop 1
theorem m_value_eq : m_is_value = (m_is_value.headD .pass) :: restV := rfl
theorem restV_ok {w : Str} {r : List MV} (hw : Txt0 w) (hr : ∀ x ∈ r, G1 st x) (h3 : r.length ≤ 2) (q : Q (.bl (valV w r)) st) : wB Γ (d + 1) restV [some (.tup (.str w :: r)), none] st (retQ Q) := by
  show wB Γ (d + 1) [_, _, _, _, _, _, _] _ _ _
  refine b_cons' (S_set (e_idx (e_var rfl (e_lit (rs_of (idx_head (.str w) r) ?_)))))
  refine b_cons' (S_iff (t_e (fun _ _ _ => rfl) (e_cmp (e_var rfl (e_lit (rs_of (eq_str hw.2 (by decide +kernel)) ⟨_, rfl, fun hk => ?_, fun hk => b_nil' ?_⟩))))))
  · refine b_cons' (S_ret (e_cmp (e_bi (a_cons (e_var rfl (a_nil (rs_of (len_tup _) (e_lit (rs_of (eq_int _ _) ?_)))))))))
    show Q (.bl _) st
    have hk' : (w == ("none" : Str)) = true := hk
    unfold valV at q
    rw [if_pos hk'] at q
    have e : (((MV.str w :: r).length : Int) == 1) = r.isEmpty := by cases r with
      | nil => rfl
      | cons a r => simp [beq_eq_false_iff_ne]; omega
    rw [e]
    exact q
  have hn : (w == ("none" : Str)) = false := hk
  refine b_cons' (S_iff (t_e (fun _ _ _ => rfl) (e_cmp (e_var rfl (e_lit (rs_of (eq_str hw.2 (by decide +kernel)) ⟨_, rfl, fun hk => ?_, fun hk => b_nil' ?_⟩))))))
  · have ht : (w == ("tok" : Str)) = true := hk
    unfold valV at q
    rw [if_neg (by rw [hn]; exact Bool.false_ne_true), if_pos ht] at q
    refine b_cons' (S_ret (e_and (e_cmp (e_bi (a_cons (e_var rfl (a_nil (rs_of (len_tup _) (e_lit (rs_of (eq_int _ _) ⟨_, rfl, fun hk => ?_, fun hk => ?_⟩))))))))))
    · obtain ⟨a, b, rfl⟩ : ∃ a b, r = [a, b] := by
        have hl : r.length = 2 := by
          have := eq_of_beq hk
          simp only [List.length_cons] at this
          omega
        match r, hl with
        | [a, b], _ => exact ⟨a, b, rfl⟩
      have ga := hr a (by simp)
      have gb := hr b (by simp)
      refine e_and (e_call (a_cons (e_idx (e_var rfl (e_lit (rs_of (rfl : idxV (.tup [.str w, a, b]) (.int 1) st = .ok a st) (a_nil ?_)))))))
      refine is_word_ok ga.ask ⟨_, rfl, fun hk => ?_, fun hk => ?_⟩
      · rcases ga.strOr with ⟨x, rfl, hx⟩ | ⟨_, z, _⟩
        · refine e_and (e_cmp (e_idx (e_var rfl (e_lit (rs_of (rfl : idxV (.tup [.str w, .str x, b]) (.int 1) st = .ok (.str x) st) (e_lit (rs_of (notin_tup (xs := RES) hx.2 ok_RES) ⟨_, rfl, fun hk2 => ?_, fun hk2 => ?_⟩)))))))
          · refine e_call (a_cons (e_idx (e_var rfl (e_lit (rs_of (rfl : idxV (.tup [.str w, .str x, b]) (.int 2) st = .ok b st) (a_nil ?_))))))
            refine is_count_ok gb ?_
            have e : (isWordV (.str x) && (noRes (.str x) && isCountV b)) = isCountV b := by
              have h2 : noRes (.str x) = true := hk2
              rw [hk, h2]; rfl
            have q2 : Q (.bl (isWordV (.str x) && (noRes (.str x) && isCountV b))) st := q
            rw [e] at q2
            exact q2
          · have e : (isWordV (.str x) && (noRes (.str x) && isCountV b)) = false := by
              have h2 : noRes (.str x) = false := hk2
              rw [hk, h2]; rfl
            have q2 : Q (.bl (isWordV (.str x) && (noRes (.str x) && isCountV b))) st := q
            rw [e] at q2
            exact q2
        · rw [z] at hk; cases hk
      · have q2 : Q (.bl (isWordV a && (noRes a && isCountV b))) st := q
        rw [hk] at q2
        exact q2
    · have e : tokV r = false := by
        clear q hr h3
        match r, hk with
        | [], _ => rfl
        | [a], _ => rfl
        | [a, b], hk => simp at hk
        | a :: b :: c :: r, _ => rfl
      rw [e] at q
      exact q
  have hnt : (w == ("tok" : Str)) = false := hk
  unfold valV at q
  rw [if_neg (by rw [hn]; exact Bool.false_ne_true), if_neg (by rw [hnt]; exact Bool.false_ne_true)] at q
  refine b_cons' (S_iff (t_e (fun _ _ _ => rfl) (e_cmp (e_bi (a_cons (e_var rfl (a_nil (rs_of (len_tup _) (e_lit (rs_of (ne_int _ _) ⟨_, rfl, fun hk => ?_, fun hk => b_nil' ?_⟩)))))))))) 
  · refine b_cons' (S_ret (e_lit ?_))
    show Q (.bl false) st
    match r, hk with
    | [], _ => exact q
    | [a], hk => exact absurd hk (by simp)
    | a :: b :: r, _ => exact q
  obtain ⟨a, rfl⟩ : ∃ a, r = [a] := by
    match r, hk with
    | [], hk => exact absurd hk (by simp)
    | [a], _ => exact ⟨a, rfl⟩
    | [a, b], hk => exact absurd hk (by simp)
    | a :: b :: c :: r, _ => simp at h3
  have ga := hr a (by simp)
  have i1 : idxV (.tup [.str w, a]) (.int 1) st = .ok a st := rfl
  refine b_cons' (S_iff (t_e (fun _ _ _ => rfl) (e_cmp (e_var rfl (e_lit (rs_of (eq_str hw.2 (by decide +kernel)) ⟨_, rfl, fun hk => ?_, fun hk => b_nil' ?_⟩))))))
  · have hb : (w == ("bit" : Str)) = true := hk
    have q2 : Q (.bl (if (w == ("bit" : Str)) = true then isBit a else if (w == ("obj" : Str)) = true then isCountV a else ((["err", "fun"] : List Str).any fun y => y == w) && isWordV a)) st := q
    rw [if_pos hb] at q2
    refine b_cons' (S_ret (e_and (e_bi (a_cons (e_idx (e_var rfl (e_lit (rs_of i1 (a_nil ?_)))))))))
    rcases ga.strOr with ⟨x, rfl, hx⟩ | ⟨h1, _, h2, _⟩
    · refine rs_of (isi_of rfl) ⟨true, rfl, fun _ => ?_, fun z => by cases z⟩
      refine e_cmp (e_idx (e_var rfl (e_lit (rs_of i1 (e_tup ?_)))))
      refine a_cons (e_lit (a_cons (e_lit (a_nil (Rs.ite (by decide) (Rs.ok ?_))))))
      refine rs_of (in_tup (xs := ["yes", "no"]) hx.2 two_ok) ?_
      exact q2
    · refine rs_of (isi_of h1) ⟨false, rfl, (fun z => by cases z), fun _ => ?_⟩
      rw [h2] at q2
      exact q2
  have hnb : (w == ("bit" : Str)) = false := hk
  have q2 : Q (.bl (if (w == ("bit" : Str)) = true then isBit a else if (w == ("obj" : Str)) = true then isCountV a else ((["err", "fun"] : List Str).any fun y => y == w) && isWordV a)) st := q
  rw [if_neg (by rw [hnb]; exact Bool.false_ne_true)] at q2
  refine b_cons' (S_iff (t_e (fun _ _ _ => rfl) (e_cmp (e_var rfl (e_lit (rs_of (eq_str hw.2 (by decide +kernel)) ⟨_, rfl, fun hk => ?_, fun hk => b_nil' ?_⟩))))))
  · have ho : (w == ("obj" : Str)) = true := hk
    rw [if_pos ho] at q2
    exact b_cons' (S_ret (e_call (a_cons (e_idx (e_var rfl (e_lit (rs_of i1 (a_nil (is_count_ok ga q2)))))))))
  have hno : (w == ("obj" : Str)) = false := hk
  rw [if_neg (by rw [hno]; exact Bool.false_ne_true)] at q2
  refine b_cons' (S_ret (e_and (e_cmp (e_var rfl (e_tup ?_)))))
  refine a_cons (e_lit (a_cons (e_lit (a_nil (Rs.ite (by decide) (Rs.ok ?_))))))
  refine rs_of (in_tup (xs := ["err", "fun"]) hw.2 two_ok2) ⟨_, rfl, fun hk => ?_, fun hk => ?_⟩
  · refine e_call (a_cons (e_idx (e_var rfl (e_lit (rs_of i1 (a_nil (is_word_ok ga.ask ?_)))))))
    rw [hk, Bool.true_and] at q2
    exact q2
  · rw [hk, Bool.false_and] at q2
    exact q2
theorem is_value_ok {v : MV} (h : G2 st v) (q : Q (.bl (isValueV v)) st) : wC Γ (d + 1) 3 [v] st Q := by
  refine c_body rfl rfl ?_
  show wB Γ (d + 1) (m_is_value.headD .pass :: restV) [some v, none] st _
  show wB Γ (d + 1) (.iff _ _ _ :: restV) [some v, none] st _
  obtain ⟨h1, h2⟩ := h
  have out : isValueV v = false → wB Γ (d + 1) [.ret (.lit (.bl false))] [some v, none] st (thenQ Γ (d + 1) restV (retQ Q)) := fun e => by
    refine b_cons' (S_ret (e_lit ?_))
    show Q (.bl false) st
    rw [← e]; exact q
  rcases h1.tupOr with ⟨xs, rfl⟩ | ⟨h3, h4⟩
  · have gx := h2 xs rfl
    refine b_cons' (S_iff (t_or' (t_not' (t_e (fun _ _ _ => rfl) (e_bi (a_cons (e_var rfl (a_nil (rs_of (isi_of rfl) ⟨true, rfl, fun _ => ?_, fun z => by cases z⟩)))))))))
    refine t_or' (t_e (fun _ _ _ => rfl) (e_cmp (e_bi (a_cons (e_var rfl (a_nil (rs_of (len_tup _) (e_lit (rs_of (eq_int _ _) ⟨_, rfl, ?_⟩)))))))))
    cases xs with
    | nil => exact ⟨(fun z => by cases z), fun _ => ⟨fun _ => out rfl, fun z => by cases z⟩⟩
    | cons x r =>
      refine ⟨fun _ => ?_, fun hk => by simp at hk; omega⟩
      refine t_or' (t_e (fun _ _ _ => rfl) (e_cmp (e_bi (a_cons (e_var rfl (a_nil (rs_of (len_tup _) (e_lit (Rs.ok ⟨_, rfl, fun hk => ?_, fun hk => ⟨fun _ => out ?_, fun z => by cases z⟩⟩)))))))))
      · refine t_not' (t_e (fun _ _ _ => rfl) (e_bi (a_cons (e_idx (e_var rfl (e_lit (rs_of (idx_head x r) (a_nil ?_))))))))
        have h3 : r.length ≤ 2 := by
          have := of_decide_eq_false hk
          simp only [List.length_cons] at this
          omega
        rcases (gx x (by simp)).strOr with ⟨w, rfl, hw⟩ | ⟨g1, _⟩
        · exact rs_of (isi_of rfl) ⟨true, rfl, (fun z => by cases z), fun _ => b_nil' (restV_ok hw (fun y hy => gx y (List.mem_cons_of_mem _ hy)) h3 q)⟩
        · refine rs_of (isi_of g1) ⟨false, rfl, (fun _ => out ?_), fun z => by cases z⟩
          cases x with
          | str w => cases g1
          | _ => rfl
      · have h3 : 3 ≤ r.length := by
          have := of_decide_eq_true hk
          simp only [List.length_cons] at this
          omega
        match r, h3 with
        | a :: b :: c :: r, _ =>
          cases x with
          | str w =>
            show valV w (a :: b :: c :: r) = false
            unfold valV
            by_cases hn : (w == ("none" : Str)) = true
            · rw [if_pos hn]; rfl
            · rw [if_neg hn]
              by_cases ht : (w == ("tok" : Str)) = true
              · rw [if_pos ht]; rfl
              · rw [if_neg ht]
          | _ => rfl
  · exact b_cons' (S_iff (t_or' (t_not' (t_e (fun _ _ _ => rfl) (e_bi (a_cons (e_var rfl (a_nil (rs_of (isi_of h3) ⟨false, rfl, (fun z => by cases z), fun _ => ⟨fun _ => out h4, fun z => by cases z⟩⟩)))))))))
end K45

set_option Elab.async false
set_option linter.all false
set_option maxRecDepth 100000
set_option maxHeartbeats 4000000
namespace K45
open PySem L2 MP
/-! the literals, all different -/
@[simp] theorem lt0_1 : (("none" : Str) == "bit") = false := by decide +kernel
@[simp] theorem lt0_2 : (("none" : Str) == "yes") = false := by decide +kernel
@[simp] theorem lt0_3 : (("none" : Str) == "no") = false := by decide +kernel
@[simp] theorem lt0_4 : (("none" : Str) == "tok") = false := by decide +kernel
@[simp] theorem lt0_5 : (("none" : Str) == "err") = false := by decide +kernel
@[simp] theorem lt0_6 : (("none" : Str) == "fun") = false := by decide +kernel
@[simp] theorem lt0_7 : (("none" : Str) == "obj") = false := by decide +kernel
@[simp] theorem lt0_8 : (("none" : Str) == "name") = false := by decide +kernel
@[simp] theorem lt0_9 : (("none" : Str) == "num") = false := by decide +kernel
@[simp] theorem lt0_10 : (("none" : Str) == "txt") = false := by decide +kernel
@[simp] theorem lt0_11 : (("none" : Str) == "kind") = false := by decide +kernel
@[simp] theorem lt0_12 : (("none" : Str) == "is") = false := by decide +kernel
@[simp] theorem lt0_13 : (("none" : Str) == "shape") = false := by decide +kernel
@[simp] theorem lt0_14 : (("none" : Str) == "same") = false := by decide +kernel
@[simp] theorem lt0_15 : (("none" : Str) == "unlike") = false := by decide +kernel
@[simp] theorem lt0_16 : (("none" : Str) == "slot") = false := by decide +kernel
@[simp] theorem lt0_17 : (("none" : Str) == "global") = false := by decide +kernel
@[simp] theorem lt0_18 : (("none" : Str) == "holds") = false := by decide +kernel
@[simp] theorem lt1_0 : (("bit" : Str) == "none") = false := by decide +kernel
@[simp] theorem lt1_2 : (("bit" : Str) == "yes") = false := by decide +kernel
@[simp] theorem lt1_3 : (("bit" : Str) == "no") = false := by decide +kernel
@[simp] theorem lt1_4 : (("bit" : Str) == "tok") = false := by decide +kernel
@[simp] theorem lt1_5 : (("bit" : Str) == "err") = false := by decide +kernel
@[simp] theorem lt1_6 : (("bit" : Str) == "fun") = false := by decide +kernel
@[simp] theorem lt1_7 : (("bit" : Str) == "obj") = false := by decide +kernel
@[simp] theorem lt1_8 : (("bit" : Str) == "name") = false := by decide +kernel
@[simp] theorem lt1_9 : (("bit" : Str) == "num") = false := by decide +kernel
@[simp] theorem lt1_10 : (("bit" : Str) == "txt") = false := by decide +kernel
@[simp] theorem lt1_11 : (("bit" : Str) == "kind") = false := by decide +kernel
@[simp] theorem lt1_12 : (("bit" : Str) == "is") = false := by decide +kernel
@[simp] theorem lt1_13 : (("bit" : Str) == "shape") = false := by decide +kernel
@[simp] theorem lt1_14 : (("bit" : Str) == "same") = false := by decide +kernel
@[simp] theorem lt1_15 : (("bit" : Str) == "unlike") = false := by decide +kernel
@[simp] theorem lt1_16 : (("bit" : Str) == "slot") = false := by decide +kernel
@[simp] theorem lt1_17 : (("bit" : Str) == "global") = false := by decide +kernel
@[simp] theorem lt1_18 : (("bit" : Str) == "holds") = false := by decide +kernel
@[simp] theorem lt2_0 : (("yes" : Str) == "none") = false := by decide +kernel
@[simp] theorem lt2_1 : (("yes" : Str) == "bit") = false := by decide +kernel
@[simp] theorem lt2_3 : (("yes" : Str) == "no") = false := by decide +kernel
@[simp] theorem lt2_4 : (("yes" : Str) == "tok") = false := by decide +kernel
@[simp] theorem lt2_5 : (("yes" : Str) == "err") = false := by decide +kernel
@[simp] theorem lt2_6 : (("yes" : Str) == "fun") = false := by decide +kernel
@[simp] theorem lt2_7 : (("yes" : Str) == "obj") = false := by decide +kernel
@[simp] theorem lt2_8 : (("yes" : Str) == "name") = false := by decide +kernel
@[simp] theorem lt2_9 : (("yes" : Str) == "num") = false := by decide +kernel
@[simp] theorem lt2_10 : (("yes" : Str) == "txt") = false := by decide +kernel
@[simp] theorem lt2_11 : (("yes" : Str) == "kind") = false := by decide +kernel
@[simp] theorem lt2_12 : (("yes" : Str) == "is") = false := by decide +kernel
@[simp] theorem lt2_13 : (("yes" : Str) == "shape") = false := by decide +kernel
@[simp] theorem lt2_14 : (("yes" : Str) == "same") = false := by decide +kernel
@[simp] theorem lt2_15 : (("yes" : Str) == "unlike") = false := by decide +kernel
@[simp] theorem lt2_16 : (("yes" : Str) == "slot") = false := by decide +kernel
@[simp] theorem lt2_17 : (("yes" : Str) == "global") = false := by decide +kernel
@[simp] theorem lt2_18 : (("yes" : Str) == "holds") = false := by decide +kernel
@[simp] theorem lt3_0 : (("no" : Str) == "none") = false := by decide +kernel
@[simp] theorem lt3_1 : (("no" : Str) == "bit") = false := by decide +kernel
@[simp] theorem lt3_2 : (("no" : Str) == "yes") = false := by decide +kernel
@[simp] theorem lt3_4 : (("no" : Str) == "tok") = false := by decide +kernel
@[simp] theorem lt3_5 : (("no" : Str) == "err") = false := by decide +kernel
@[simp] theorem lt3_6 : (("no" : Str) == "fun") = false := by decide +kernel
@[simp] theorem lt3_7 : (("no" : Str) == "obj") = false := by decide +kernel
@[simp] theorem lt3_8 : (("no" : Str) == "name") = false := by decide +kernel
@[simp] theorem lt3_9 : (("no" : Str) == "num") = false := by decide +kernel
@[simp] theorem lt3_10 : (("no" : Str) == "txt") = false := by decide +kernel
@[simp] theorem lt3_11 : (("no" : Str) == "kind") = false := by decide +kernel
@[simp] theorem lt3_12 : (("no" : Str) == "is") = false := by decide +kernel
@[simp] theorem lt3_13 : (("no" : Str) == "shape") = false := by decide +kernel
@[simp] theorem lt3_14 : (("no" : Str) == "same") = false := by decide +kernel
@[simp] theorem lt3_15 : (("no" : Str) == "unlike") = false := by decide +kernel
@[simp] theorem lt3_16 : (("no" : Str) == "slot") = false := by decide +kernel
@[simp] theorem lt3_17 : (("no" : Str) == "global") = false := by decide +kernel
@[simp] theorem lt3_18 : (("no" : Str) == "holds") = false := by decide +kernel
@[simp] theorem lt4_0 : (("tok" : Str) == "none") = false := by decide +kernel
@[simp] theorem lt4_1 : (("tok" : Str) == "bit") = false := by decide +kernel
@[simp] theorem lt4_2 : (("tok" : Str) == "yes") = false := by decide +kernel
@[simp] theorem lt4_3 : (("tok" : Str) == "no") = false := by decide +kernel
@[simp] theorem lt4_5 : (("tok" : Str) == "err") = false := by decide +kernel
@[simp] theorem lt4_6 : (("tok" : Str) == "fun") = false := by decide +kernel
@[simp] theorem lt4_7 : (("tok" : Str) == "obj") = false := by decide +kernel
@[simp] theorem lt4_8 : (("tok" : Str) == "name") = false := by decide +kernel
@[simp] theorem lt4_9 : (("tok" : Str) == "num") = false := by decide +kernel
@[simp] theorem lt4_10 : (("tok" : Str) == "txt") = false := by decide +kernel
@[simp] theorem lt4_11 : (("tok" : Str) == "kind") = false := by decide +kernel
@[simp] theorem lt4_12 : (("tok" : Str) == "is") = false := by decide +kernel
@[simp] theorem lt4_13 : (("tok" : Str) == "shape") = false := by decide +kernel
@[simp] theorem lt4_14 : (("tok" : Str) == "same") = false := by decide +kernel
@[simp] theorem lt4_15 : (("tok" : Str) == "unlike") = false := by decide +kernel
@[simp] theorem lt4_16 : (("tok" : Str) == "slot") = false := by decide +kernel
@[simp] theorem lt4_17 : (("tok" : Str) == "global") = false := by decide +kernel
@[simp] theorem lt4_18 : (("tok" : Str) == "holds") = false := by decide +kernel
@[simp] theorem lt5_0 : (("err" : Str) == "none") = false := by decide +kernel
@[simp] theorem lt5_1 : (("err" : Str) == "bit") = false := by decide +kernel
@[simp] theorem lt5_2 : (("err" : Str) == "yes") = false := by decide +kernel
@[simp] theorem lt5_3 : (("err" : Str) == "no") = false := by decide +kernel
@[simp] theorem lt5_4 : (("err" : Str) == "tok") = false := by decide +kernel
@[simp] theorem lt5_6 : (("err" : Str) == "fun") = false := by decide +kernel
@[simp] theorem lt5_7 : (("err" : Str) == "obj") = false := by decide +kernel
@[simp] theorem lt5_8 : (("err" : Str) == "name") = false := by decide +kernel
@[simp] theorem lt5_9 : (("err" : Str) == "num") = false := by decide +kernel
@[simp] theorem lt5_10 : (("err" : Str) == "txt") = false := by decide +kernel
@[simp] theorem lt5_11 : (("err" : Str) == "kind") = false := by decide +kernel
@[simp] theorem lt5_12 : (("err" : Str) == "is") = false := by decide +kernel
@[simp] theorem lt5_13 : (("err" : Str) == "shape") = false := by decide +kernel
@[simp] theorem lt5_14 : (("err" : Str) == "same") = false := by decide +kernel
@[simp] theorem lt5_15 : (("err" : Str) == "unlike") = false := by decide +kernel
@[simp] theorem lt5_16 : (("err" : Str) == "slot") = false := by decide +kernel
@[simp] theorem lt5_17 : (("err" : Str) == "global") = false := by decide +kernel
@[simp] theorem lt5_18 : (("err" : Str) == "holds") = false := by decide +kernel
@[simp] theorem lt6_0 : (("fun" : Str) == "none") = false := by decide +kernel
@[simp] theorem lt6_1 : (("fun" : Str) == "bit") = false := by decide +kernel
@[simp] theorem lt6_2 : (("fun" : Str) == "yes") = false := by decide +kernel
@[simp] theorem lt6_3 : (("fun" : Str) == "no") = false := by decide +kernel
@[simp] theorem lt6_4 : (("fun" : Str) == "tok") = false := by decide +kernel
@[simp] theorem lt6_5 : (("fun" : Str) == "err") = false := by decide +kernel
@[simp] theorem lt6_7 : (("fun" : Str) == "obj") = false := by decide +kernel
@[simp] theorem lt6_8 : (("fun" : Str) == "name") = false := by decide +kernel
@[simp] theorem lt6_9 : (("fun" : Str) == "num") = false := by decide +kernel
@[simp] theorem lt6_10 : (("fun" : Str) == "txt") = false := by decide +kernel
@[simp] theorem lt6_11 : (("fun" : Str) == "kind") = false := by decide +kernel
@[simp] theorem lt6_12 : (("fun" : Str) == "is") = false := by decide +kernel
@[simp] theorem lt6_13 : (("fun" : Str) == "shape") = false := by decide +kernel
@[simp] theorem lt6_14 : (("fun" : Str) == "same") = false := by decide +kernel
@[simp] theorem lt6_15 : (("fun" : Str) == "unlike") = false := by decide +kernel
@[simp] theorem lt6_16 : (("fun" : Str) == "slot") = false := by decide +kernel
@[simp] theorem lt6_17 : (("fun" : Str) == "global") = false := by decide +kernel
@[simp] theorem lt6_18 : (("fun" : Str) == "holds") = false := by decide +kernel
@[simp] theorem lt7_0 : (("obj" : Str) == "none") = false := by decide +kernel
@[simp] theorem lt7_1 : (("obj" : Str) == "bit") = false := by decide +kernel
@[simp] theorem lt7_2 : (("obj" : Str) == "yes") = false := by decide +kernel
@[simp] theorem lt7_3 : (("obj" : Str) == "no") = false := by decide +kernel
@[simp] theorem lt7_4 : (("obj" : Str) == "tok") = false := by decide +kernel
@[simp] theorem lt7_5 : (("obj" : Str) == "err") = false := by decide +kernel
@[simp] theorem lt7_6 : (("obj" : Str) == "fun") = false := by decide +kernel
@[simp] theorem lt7_8 : (("obj" : Str) == "name") = false := by decide +kernel
@[simp] theorem lt7_9 : (("obj" : Str) == "num") = false := by decide +kernel
@[simp] theorem lt7_10 : (("obj" : Str) == "txt") = false := by decide +kernel
@[simp] theorem lt7_11 : (("obj" : Str) == "kind") = false := by decide +kernel
@[simp] theorem lt7_12 : (("obj" : Str) == "is") = false := by decide +kernel
@[simp] theorem lt7_13 : (("obj" : Str) == "shape") = false := by decide +kernel
@[simp] theorem lt7_14 : (("obj" : Str) == "same") = false := by decide +kernel
@[simp] theorem lt7_15 : (("obj" : Str) == "unlike") = false := by decide +kernel
@[simp] theorem lt7_16 : (("obj" : Str) == "slot") = false := by decide +kernel
@[simp] theorem lt7_17 : (("obj" : Str) == "global") = false := by decide +kernel
@[simp] theorem lt7_18 : (("obj" : Str) == "holds") = false := by decide +kernel
@[simp] theorem lt8_0 : (("name" : Str) == "none") = false := by decide +kernel
@[simp] theorem lt8_1 : (("name" : Str) == "bit") = false := by decide +kernel
@[simp] theorem lt8_2 : (("name" : Str) == "yes") = false := by decide +kernel
@[simp] theorem lt8_3 : (("name" : Str) == "no") = false := by decide +kernel
@[simp] theorem lt8_4 : (("name" : Str) == "tok") = false := by decide +kernel
@[simp] theorem lt8_5 : (("name" : Str) == "err") = false := by decide +kernel
@[simp] theorem lt8_6 : (("name" : Str) == "fun") = false := by decide +kernel
@[simp] theorem lt8_7 : (("name" : Str) == "obj") = false := by decide +kernel
@[simp] theorem lt8_9 : (("name" : Str) == "num") = false := by decide +kernel
@[simp] theorem lt8_10 : (("name" : Str) == "txt") = false := by decide +kernel
@[simp] theorem lt8_11 : (("name" : Str) == "kind") = false := by decide +kernel
@[simp] theorem lt8_12 : (("name" : Str) == "is") = false := by decide +kernel
@[simp] theorem lt8_13 : (("name" : Str) == "shape") = false := by decide +kernel
@[simp] theorem lt8_14 : (("name" : Str) == "same") = false := by decide +kernel
@[simp] theorem lt8_15 : (("name" : Str) == "unlike") = false := by decide +kernel
@[simp] theorem lt8_16 : (("name" : Str) == "slot") = false := by decide +kernel
@[simp] theorem lt8_17 : (("name" : Str) == "global") = false := by decide +kernel
@[simp] theorem lt8_18 : (("name" : Str) == "holds") = false := by decide +kernel
@[simp] theorem lt9_0 : (("num" : Str) == "none") = false := by decide +kernel
@[simp] theorem lt9_1 : (("num" : Str) == "bit") = false := by decide +kernel
@[simp] theorem lt9_2 : (("num" : Str) == "yes") = false := by decide +kernel
@[simp] theorem lt9_3 : (("num" : Str) == "no") = false := by decide +kernel
@[simp] theorem lt9_4 : (("num" : Str) == "tok") = false := by decide +kernel
@[simp] theorem lt9_5 : (("num" : Str) == "err") = false := by decide +kernel
@[simp] theorem lt9_6 : (("num" : Str) == "fun") = false := by decide +kernel
@[simp] theorem lt9_7 : (("num" : Str) == "obj") = false := by decide +kernel
@[simp] theorem lt9_8 : (("num" : Str) == "name") = false := by decide +kernel
@[simp] theorem lt9_10 : (("num" : Str) == "txt") = false := by decide +kernel
@[simp] theorem lt9_11 : (("num" : Str) == "kind") = false := by decide +kernel
@[simp] theorem lt9_12 : (("num" : Str) == "is") = false := by decide +kernel
@[simp] theorem lt9_13 : (("num" : Str) == "shape") = false := by decide +kernel
@[simp] theorem lt9_14 : (("num" : Str) == "same") = false := by decide +kernel
@[simp] theorem lt9_15 : (("num" : Str) == "unlike") = false := by decide +kernel
@[simp] theorem lt9_16 : (("num" : Str) == "slot") = false := by decide +kernel
@[simp] theorem lt9_17 : (("num" : Str) == "global") = false := by decide +kernel
@[simp] theorem lt9_18 : (("num" : Str) == "holds") = false := by decide +kernel
@[simp] theorem lt10_0 : (("txt" : Str) == "none") = false := by decide +kernel
@[simp] theorem lt10_1 : (("txt" : Str) == "bit") = false := by decide +kernel
@[simp] theorem lt10_2 : (("txt" : Str) == "yes") = false := by decide +kernel
@[simp] theorem lt10_3 : (("txt" : Str) == "no") = false := by decide +kernel
@[simp] theorem lt10_4 : (("txt" : Str) == "tok") = false := by decide +kernel
@[simp] theorem lt10_5 : (("txt" : Str) == "err") = false := by decide +kernel
@[simp] theorem lt10_6 : (("txt" : Str) == "fun") = false := by decide +kernel
@[simp] theorem lt10_7 : (("txt" : Str) == "obj") = false := by decide +kernel
@[simp] theorem lt10_8 : (("txt" : Str) == "name") = false := by decide +kernel
@[simp] theorem lt10_9 : (("txt" : Str) == "num") = false := by decide +kernel
@[simp] theorem lt10_11 : (("txt" : Str) == "kind") = false := by decide +kernel
@[simp] theorem lt10_12 : (("txt" : Str) == "is") = false := by decide +kernel
@[simp] theorem lt10_13 : (("txt" : Str) == "shape") = false := by decide +kernel
@[simp] theorem lt10_14 : (("txt" : Str) == "same") = false := by decide +kernel
@[simp] theorem lt10_15 : (("txt" : Str) == "unlike") = false := by decide +kernel
@[simp] theorem lt10_16 : (("txt" : Str) == "slot") = false := by decide +kernel
@[simp] theorem lt10_17 : (("txt" : Str) == "global") = false := by decide +kernel
@[simp] theorem lt10_18 : (("txt" : Str) == "holds") = false := by decide +kernel
@[simp] theorem lt11_0 : (("kind" : Str) == "none") = false := by decide +kernel
@[simp] theorem lt11_1 : (("kind" : Str) == "bit") = false := by decide +kernel
@[simp] theorem lt11_2 : (("kind" : Str) == "yes") = false := by decide +kernel
@[simp] theorem lt11_3 : (("kind" : Str) == "no") = false := by decide +kernel
@[simp] theorem lt11_4 : (("kind" : Str) == "tok") = false := by decide +kernel
@[simp] theorem lt11_5 : (("kind" : Str) == "err") = false := by decide +kernel
@[simp] theorem lt11_6 : (("kind" : Str) == "fun") = false := by decide +kernel
@[simp] theorem lt11_7 : (("kind" : Str) == "obj") = false := by decide +kernel
@[simp] theorem lt11_8 : (("kind" : Str) == "name") = false := by decide +kernel
@[simp] theorem lt11_9 : (("kind" : Str) == "num") = false := by decide +kernel
@[simp] theorem lt11_10 : (("kind" : Str) == "txt") = false := by decide +kernel
@[simp] theorem lt11_12 : (("kind" : Str) == "is") = false := by decide +kernel
@[simp] theorem lt11_13 : (("kind" : Str) == "shape") = false := by decide +kernel
@[simp] theorem lt11_14 : (("kind" : Str) == "same") = false := by decide +kernel
@[simp] theorem lt11_15 : (("kind" : Str) == "unlike") = false := by decide +kernel
@[simp] theorem lt11_16 : (("kind" : Str) == "slot") = false := by decide +kernel
@[simp] theorem lt11_17 : (("kind" : Str) == "global") = false := by decide +kernel
@[simp] theorem lt11_18 : (("kind" : Str) == "holds") = false := by decide +kernel
@[simp] theorem lt12_0 : (("is" : Str) == "none") = false := by decide +kernel
@[simp] theorem lt12_1 : (("is" : Str) == "bit") = false := by decide +kernel
@[simp] theorem lt12_2 : (("is" : Str) == "yes") = false := by decide +kernel
@[simp] theorem lt12_3 : (("is" : Str) == "no") = false := by decide +kernel
@[simp] theorem lt12_4 : (("is" : Str) == "tok") = false := by decide +kernel
@[simp] theorem lt12_5 : (("is" : Str) == "err") = false := by decide +kernel
@[simp] theorem lt12_6 : (("is" : Str) == "fun") = false := by decide +kernel
@[simp] theorem lt12_7 : (("is" : Str) == "obj") = false := by decide +kernel
@[simp] theorem lt12_8 : (("is" : Str) == "name") = false := by decide +kernel
@[simp] theorem lt12_9 : (("is" : Str) == "num") = false := by decide +kernel
@[simp] theorem lt12_10 : (("is" : Str) == "txt") = false := by decide +kernel
@[simp] theorem lt12_11 : (("is" : Str) == "kind") = false := by decide +kernel
@[simp] theorem lt12_13 : (("is" : Str) == "shape") = false := by decide +kernel
@[simp] theorem lt12_14 : (("is" : Str) == "same") = false := by decide +kernel
@[simp] theorem lt12_15 : (("is" : Str) == "unlike") = false := by decide +kernel
@[simp] theorem lt12_16 : (("is" : Str) == "slot") = false := by decide +kernel
@[simp] theorem lt12_17 : (("is" : Str) == "global") = false := by decide +kernel
@[simp] theorem lt12_18 : (("is" : Str) == "holds") = false := by decide +kernel
@[simp] theorem lt13_0 : (("shape" : Str) == "none") = false := by decide +kernel
@[simp] theorem lt13_1 : (("shape" : Str) == "bit") = false := by decide +kernel
@[simp] theorem lt13_2 : (("shape" : Str) == "yes") = false := by decide +kernel
@[simp] theorem lt13_3 : (("shape" : Str) == "no") = false := by decide +kernel
@[simp] theorem lt13_4 : (("shape" : Str) == "tok") = false := by decide +kernel
@[simp] theorem lt13_5 : (("shape" : Str) == "err") = false := by decide +kernel
@[simp] theorem lt13_6 : (("shape" : Str) == "fun") = false := by decide +kernel
@[simp] theorem lt13_7 : (("shape" : Str) == "obj") = false := by decide +kernel
@[simp] theorem lt13_8 : (("shape" : Str) == "name") = false := by decide +kernel
@[simp] theorem lt13_9 : (("shape" : Str) == "num") = false := by decide +kernel
@[simp] theorem lt13_10 : (("shape" : Str) == "txt") = false := by decide +kernel
@[simp] theorem lt13_11 : (("shape" : Str) == "kind") = false := by decide +kernel
@[simp] theorem lt13_12 : (("shape" : Str) == "is") = false := by decide +kernel
@[simp] theorem lt13_14 : (("shape" : Str) == "same") = false := by decide +kernel
@[simp] theorem lt13_15 : (("shape" : Str) == "unlike") = false := by decide +kernel
@[simp] theorem lt13_16 : (("shape" : Str) == "slot") = false := by decide +kernel
@[simp] theorem lt13_17 : (("shape" : Str) == "global") = false := by decide +kernel
@[simp] theorem lt13_18 : (("shape" : Str) == "holds") = false := by decide +kernel
@[simp] theorem lt14_0 : (("same" : Str) == "none") = false := by decide +kernel
@[simp] theorem lt14_1 : (("same" : Str) == "bit") = false := by decide +kernel
@[simp] theorem lt14_2 : (("same" : Str) == "yes") = false := by decide +kernel
@[simp] theorem lt14_3 : (("same" : Str) == "no") = false := by decide +kernel
@[simp] theorem lt14_4 : (("same" : Str) == "tok") = false := by decide +kernel
@[simp] theorem lt14_5 : (("same" : Str) == "err") = false := by decide +kernel
@[simp] theorem lt14_6 : (("same" : Str) == "fun") = false := by decide +kernel
@[simp] theorem lt14_7 : (("same" : Str) == "obj") = false := by decide +kernel
@[simp] theorem lt14_8 : (("same" : Str) == "name") = false := by decide +kernel
@[simp] theorem lt14_9 : (("same" : Str) == "num") = false := by decide +kernel
@[simp] theorem lt14_10 : (("same" : Str) == "txt") = false := by decide +kernel
@[simp] theorem lt14_11 : (("same" : Str) == "kind") = false := by decide +kernel
@[simp] theorem lt14_12 : (("same" : Str) == "is") = false := by decide +kernel
@[simp] theorem lt14_13 : (("same" : Str) == "shape") = false := by decide +kernel
@[simp] theorem lt14_15 : (("same" : Str) == "unlike") = false := by decide +kernel
@[simp] theorem lt14_16 : (("same" : Str) == "slot") = false := by decide +kernel
@[simp] theorem lt14_17 : (("same" : Str) == "global") = false := by decide +kernel
@[simp] theorem lt14_18 : (("same" : Str) == "holds") = false := by decide +kernel
@[simp] theorem lt15_0 : (("unlike" : Str) == "none") = false := by decide +kernel
@[simp] theorem lt15_1 : (("unlike" : Str) == "bit") = false := by decide +kernel
@[simp] theorem lt15_2 : (("unlike" : Str) == "yes") = false := by decide +kernel
@[simp] theorem lt15_3 : (("unlike" : Str) == "no") = false := by decide +kernel
@[simp] theorem lt15_4 : (("unlike" : Str) == "tok") = false := by decide +kernel
@[simp] theorem lt15_5 : (("unlike" : Str) == "err") = false := by decide +kernel
@[simp] theorem lt15_6 : (("unlike" : Str) == "fun") = false := by decide +kernel
@[simp] theorem lt15_7 : (("unlike" : Str) == "obj") = false := by decide +kernel
@[simp] theorem lt15_8 : (("unlike" : Str) == "name") = false := by decide +kernel
@[simp] theorem lt15_9 : (("unlike" : Str) == "num") = false := by decide +kernel
@[simp] theorem lt15_10 : (("unlike" : Str) == "txt") = false := by decide +kernel
@[simp] theorem lt15_11 : (("unlike" : Str) == "kind") = false := by decide +kernel
@[simp] theorem lt15_12 : (("unlike" : Str) == "is") = false := by decide +kernel
@[simp] theorem lt15_13 : (("unlike" : Str) == "shape") = false := by decide +kernel
@[simp] theorem lt15_14 : (("unlike" : Str) == "same") = false := by decide +kernel
@[simp] theorem lt15_16 : (("unlike" : Str) == "slot") = false := by decide +kernel
@[simp] theorem lt15_17 : (("unlike" : Str) == "global") = false := by decide +kernel
@[simp] theorem lt15_18 : (("unlike" : Str) == "holds") = false := by decide +kernel
@[simp] theorem lt16_0 : (("slot" : Str) == "none") = false := by decide +kernel
@[simp] theorem lt16_1 : (("slot" : Str) == "bit") = false := by decide +kernel
@[simp] theorem lt16_2 : (("slot" : Str) == "yes") = false := by decide +kernel
@[simp] theorem lt16_3 : (("slot" : Str) == "no") = false := by decide +kernel
@[simp] theorem lt16_4 : (("slot" : Str) == "tok") = false := by decide +kernel
@[simp] theorem lt16_5 : (("slot" : Str) == "err") = false := by decide +kernel
@[simp] theorem lt16_6 : (("slot" : Str) == "fun") = false := by decide +kernel
@[simp] theorem lt16_7 : (("slot" : Str) == "obj") = false := by decide +kernel
@[simp] theorem lt16_8 : (("slot" : Str) == "name") = false := by decide +kernel
@[simp] theorem lt16_9 : (("slot" : Str) == "num") = false := by decide +kernel
@[simp] theorem lt16_10 : (("slot" : Str) == "txt") = false := by decide +kernel
@[simp] theorem lt16_11 : (("slot" : Str) == "kind") = false := by decide +kernel
@[simp] theorem lt16_12 : (("slot" : Str) == "is") = false := by decide +kernel
@[simp] theorem lt16_13 : (("slot" : Str) == "shape") = false := by decide +kernel
@[simp] theorem lt16_14 : (("slot" : Str) == "same") = false := by decide +kernel
@[simp] theorem lt16_15 : (("slot" : Str) == "unlike") = false := by decide +kernel
@[simp] theorem lt16_17 : (("slot" : Str) == "global") = false := by decide +kernel
@[simp] theorem lt16_18 : (("slot" : Str) == "holds") = false := by decide +kernel
@[simp] theorem lt17_0 : (("global" : Str) == "none") = false := by decide +kernel
@[simp] theorem lt17_1 : (("global" : Str) == "bit") = false := by decide +kernel
@[simp] theorem lt17_2 : (("global" : Str) == "yes") = false := by decide +kernel
@[simp] theorem lt17_3 : (("global" : Str) == "no") = false := by decide +kernel
@[simp] theorem lt17_4 : (("global" : Str) == "tok") = false := by decide +kernel
@[simp] theorem lt17_5 : (("global" : Str) == "err") = false := by decide +kernel
@[simp] theorem lt17_6 : (("global" : Str) == "fun") = false := by decide +kernel
@[simp] theorem lt17_7 : (("global" : Str) == "obj") = false := by decide +kernel
@[simp] theorem lt17_8 : (("global" : Str) == "name") = false := by decide +kernel
@[simp] theorem lt17_9 : (("global" : Str) == "num") = false := by decide +kernel
@[simp] theorem lt17_10 : (("global" : Str) == "txt") = false := by decide +kernel
@[simp] theorem lt17_11 : (("global" : Str) == "kind") = false := by decide +kernel
@[simp] theorem lt17_12 : (("global" : Str) == "is") = false := by decide +kernel
@[simp] theorem lt17_13 : (("global" : Str) == "shape") = false := by decide +kernel
@[simp] theorem lt17_14 : (("global" : Str) == "same") = false := by decide +kernel
@[simp] theorem lt17_15 : (("global" : Str) == "unlike") = false := by decide +kernel
@[simp] theorem lt17_16 : (("global" : Str) == "slot") = false := by decide +kernel
@[simp] theorem lt17_18 : (("global" : Str) == "holds") = false := by decide +kernel
@[simp] theorem lt18_0 : (("holds" : Str) == "none") = false := by decide +kernel
@[simp] theorem lt18_1 : (("holds" : Str) == "bit") = false := by decide +kernel
@[simp] theorem lt18_2 : (("holds" : Str) == "yes") = false := by decide +kernel
@[simp] theorem lt18_3 : (("holds" : Str) == "no") = false := by decide +kernel
@[simp] theorem lt18_4 : (("holds" : Str) == "tok") = false := by decide +kernel
@[simp] theorem lt18_5 : (("holds" : Str) == "err") = false := by decide +kernel
@[simp] theorem lt18_6 : (("holds" : Str) == "fun") = false := by decide +kernel
@[simp] theorem lt18_7 : (("holds" : Str) == "obj") = false := by decide +kernel
@[simp] theorem lt18_8 : (("holds" : Str) == "name") = false := by decide +kernel
@[simp] theorem lt18_9 : (("holds" : Str) == "num") = false := by decide +kernel
@[simp] theorem lt18_10 : (("holds" : Str) == "txt") = false := by decide +kernel
@[simp] theorem lt18_11 : (("holds" : Str) == "kind") = false := by decide +kernel
@[simp] theorem lt18_12 : (("holds" : Str) == "is") = false := by decide +kernel
@[simp] theorem lt18_13 : (("holds" : Str) == "shape") = false := by decide +kernel
@[simp] theorem lt18_14 : (("holds" : Str) == "same") = false := by decide +kernel
@[simp] theorem lt18_15 : (("holds" : Str) == "unlike") = false := by decide +kernel
@[simp] theorem lt18_16 : (("holds" : Str) == "slot") = false := by decide +kernel
@[simp] theorem lt18_17 : (("holds" : Str) == "global") = false := by decide +kernel
@[simp] theorem lt0_0 : (("none" : Str) == "none") = true := by decide +kernel
@[simp] theorem lt1_1 : (("bit" : Str) == "bit") = true := by decide +kernel
@[simp] theorem lt2_2 : (("yes" : Str) == "yes") = true := by decide +kernel
@[simp] theorem lt3_3 : (("no" : Str) == "no") = true := by decide +kernel
@[simp] theorem lt4_4 : (("tok" : Str) == "tok") = true := by decide +kernel
@[simp] theorem lt5_5 : (("err" : Str) == "err") = true := by decide +kernel
@[simp] theorem lt6_6 : (("fun" : Str) == "fun") = true := by decide +kernel
@[simp] theorem lt7_7 : (("obj" : Str) == "obj") = true := by decide +kernel
@[simp] theorem lt8_8 : (("name" : Str) == "name") = true := by decide +kernel
@[simp] theorem lt9_9 : (("num" : Str) == "num") = true := by decide +kernel
@[simp] theorem lt10_10 : (("txt" : Str) == "txt") = true := by decide +kernel
@[simp] theorem lt11_11 : (("kind" : Str) == "kind") = true := by decide +kernel
@[simp] theorem lt12_12 : (("is" : Str) == "is") = true := by decide +kernel
@[simp] theorem lt13_13 : (("shape" : Str) == "shape") = true := by decide +kernel
@[simp] theorem lt14_14 : (("same" : Str) == "same") = true := by decide +kernel
@[simp] theorem lt15_15 : (("unlike" : Str) == "unlike") = true := by decide +kernel
@[simp] theorem lt16_16 : (("slot" : Str) == "slot") = true := by decide +kernel
@[simp] theorem lt17_17 : (("global" : Str) == "global") = true := by decide +kernel
@[simp] theorem lt18_18 : (("holds" : Str) == "holds") = true := by decide +kernel
end K45

set_option Elab.async false
set_option linter.all false
set_option maxRecDepth 100000
set_option maxHeartbeats 4000000
namespace K45
open PySem L2 MP
variable {d : Nat} {st st' : Store} {Q : MV → Store → Prop} {s g : Nat}
theorem leaf {a b : Bool} (q : Q (.bl a) st) (e : a = b) : Q (.bl b) st := e ▸ q
theorem le0 (xs : List MV) : (((xs.length : Nat) : Int) == 0) = (xs.length == 0) := by rw [Bool.eq_iff_iff]; simp
theorem le1 (xs : List MV) : (((xs.length : Nat) : Int) == 1) = (xs.length == 1) := by rw [Bool.eq_iff_iff]; simp; omega
theorem le2 (xs : List MV) : (((xs.length : Nat) : Int) == 2) = (xs.length == 2) := by rw [Bool.eq_iff_iff]; simp; omega
theorem le3 (xs : List MV) : (((xs.length : Nat) : Int) == 3) = (xs.length == 3) := by rw [Bool.eq_iff_iff]; simp; omega
theorem le4 (xs : List MV) : (((xs.length : Nat) : Int) == 4) = (xs.length == 4) := by rw [Bool.eq_iff_iff]; simp; omega
theorem at_c {x : MV} {xs : List MV} {i : Nat} (h : xs[i]? = some x) : atI xs (i : Int) = some x := by
  have hi : i < xs.length := by
    rcases Nat.lt_or_ge i xs.length with h1 | h1
    · exact h1
    · rw [List.getElem?_eq_none h1] at h; cases h
  unfold atI ixN
  rw [if_pos (by omega), if_pos (by omega)]
  simpa using h
theorem ix_c {x : MV} {xs : List MV} {i : Nat} (h : xs[i]? = some x) : idxV (.tup xs) (.int (i : Int)) st = .ok x st := by
  show (match atI xs (i : Int) with
    | some v => Res.ok v st
    | none => .stuck) = _
  rw [at_c h]
theorem ix0 (a : MV) (r : List MV) : idxV (.tup (a :: r)) (.int 0) st = .ok a st := ix_c (i := 0) rfl
theorem ix1 (a b : MV) (r : List MV) : idxV (.tup (a :: b :: r)) (.int 1) st = .ok b st := ix_c (i := 1) rfl
theorem ix2 (a b c : MV) (r : List MV) : idxV (.tup (a :: b :: c :: r)) (.int 2) st = .ok c st := ix_c (i := 2) rfl
theorem ix3 (a b c e : MV) (r : List MV) : idxV (.tup (a :: b :: c :: e :: r)) (.int 3) st = .ok e st := ix_c (i := 3) rfl
/-- a value and what it is made of may be looked at -/
def GG (st : Store) (v : MV) : Prop := ∃ s g k w, w ≤ 1000 ∧ Sm s g st k w v
theorem GG.g1 {v : MV} (h : GG st v) : G1 st v := let ⟨_, _, _, _, _, h⟩ := h; h.g1
theorem GG.mem {xs : List MV} {x : MV} (h : GG st (.tup xs)) (hx : x ∈ xs) : GG st x := let ⟨_, _, _, _, hw, h⟩ := h; ⟨_, _, _, _, hw, h.items.mem hx⟩
theorem GG.len {xs : List MV} (h : GG st (.tup xs)) : xs.length ≤ 1000 := let ⟨_, _, _, _, hw, h⟩ := h; Nat.le_trans h.items.len hw
theorem GG.ext {v : MV} (h : GG st v) (e : Ext st st') : GG st' v := let ⟨_, _, _, _, hw, h⟩ := h; ⟨_, _, _, _, hw, h.fr (Fr.ext e)⟩
theorem GG.g2 {v : MV} (h : GG st v) : G2 st v := ⟨h.g1, fun xs e x hx => by subst e; exact (h.mem hx).g1⟩
def isTupN (v : MV) (n : Int) : Bool := match v with
  | .tup xs => ((xs.length : Nat) : Int) == n
  | _ => false
theorem is_tuple_of_ok {v : MV} {n : Int} (h : G1 st v) (q : Q (.bl (isTupN v n)) st) : wC Γ d 5 [v, .int n] st Q := by
  refine c_body rfl rfl ?_
  show wB Γ d m_is_tuple_of [some v, some (.int n)] st _
  unfold m_is_tuple_of
  refine b_cons' (S_ret (e_and (e_bi (a_cons (e_var rfl (a_nil (rs_of (isi_tup h) ⟨_, rfl, fun hk => ?_, fun hk => ?_⟩)))))))
  · cases v with
    | tup xs => exact e_cmp (e_bi (a_cons (e_var rfl (a_nil (rs_of (len_tup xs) (e_var rfl (rs_of (eq_int _ _) q)))))))
    | _ => cases hk
  · refine leaf q ?_
    cases v with
    | tup xs => cases hk
    | _ => rfl
/-! ### kinds -/
def KR : List Str := ["num", "txt", "name"]
/-- the signature's instance -/
structure Sig (st : Store) (c r : Nat) : Prop where
  lc : c < st.next
  lr : r < st.next
  gc : ∃ p, st.get c = some (.ins 0 [("kind_row", .ref r), ("primitive_rows", p)])
  gr : st.get r = some (.lst (KR.map MV.str))
theorem Sig.ext {c r : Nat} (h : Sig st c r) (e : Ext st st') : Sig st' c r := ⟨Nat.lt_of_lt_of_le h.lc e.le, Nat.lt_of_lt_of_le h.lr e.le, h.gc.imp fun _ x => (e.kp _ h.lc).trans x, (e.kp _ h.lr).trans h.gr⟩
def kindK (v : MV) : Bool := KR.any fun z => eqS v z
theorem kindK_str {v : MV} (h : isStr v = false) : kindK v = false := by
  cases v with
  | str x => cases h
  | _ => rfl
theorem has_kind_ok {c r : Nat} {v : MV} (S : Sig st c r) (h : G1 st v) (q : Q (.bl (kindK v)) st) : wC Γ d 19 [.ref c, v] st Q := by
  refine c_body rfl rfl ?_
  show wB Γ d m_Signature__has_kind [some (.ref c), some v] st _
  unfold m_Signature__has_kind
  refine b_cons' (S_ret (e_and (e_bi (a_cons (e_var rfl (a_nil (rs_of (isi_str h) ⟨_, rfl, fun hk => ?_, fun hk => ?_⟩)))))))
  · obtain ⟨p, hp⟩ := S.gc
    have ef : fldV [0] "kind_row" (.ref c) st = .ok (.ref r) st := by
      unfold fldV insV
      simp only [hp]
      rfl
    refine e_cmp (e_var rfl (e_fld (e_var rfl (rs_of ef ?_))))
    refine rs_of (in_gs (zs := KR) h (by show (match st.get r with
      | some (.lst xs) => some xs
      | _ => none) = _
                                         rw [S.gr]) ?_) q
    cases v with
    | tup xs => cases hk
    | _ => rfl
  · exact leaf q (kindK_str hk)
theorem meth_kind {c r : Nat} (S : Sig st c r) : methF "has_kind" [(0, 19)] (.ref c) st = some 19 := by
  obtain ⟨p, hp⟩ := S.gc
  unfold methF insV
  simp only [hp]
  rfl
/-! ### marks -/
def hd (v : MV) (i : Nat) : MV := match v with
  | .tup xs => xs.getD i .non
  | _ => .non
def markP (v : MV) : Bool :=
  cond (isTupN v 2 && eqS (hd v 0) "name") (isWordV (hd v 1))
    (cond (!isValueV v || eqS (hd v 0) "obj") false (!(eqS (hd v 0) "tok") || kindK (hd v 1)))
theorem markP_a {v : MV} (h : (isTupN v 2 && eqS (hd v 0) "name") = true) : markP v = isWordV (hd v 1) := by unfold markP; rw [h]; rfl
theorem markP_b {v : MV} (h : (isTupN v 2 && eqS (hd v 0) "name") = false) (h2 : (!isValueV v || eqS (hd v 0) "obj") = true) : markP v = false := by unfold markP; rw [h, h2]; rfl
theorem markP_c {v : MV} (h : (isTupN v 2 && eqS (hd v 0) "name") = false) (h2 : (!isValueV v || eqS (hd v 0) "obj") = false) : markP v = (!(eqS (hd v 0) "tok") || kindK (hd v 1)) := by unfold markP; rw [h, h2]; rfl
theorem ne_gs {w z : Str} : cmpV .ne (.str w) (.str z) st = .ok (.bl (!eqS (.str w) z)) st := by
  show Res.ok (MV.bl (!(w == z))) st = Res.ok (MV.bl (!(z == w))) st
  rw [Bool.beq_comm]
theorem val_tup {v : MV} (h : isValueV v = true) : ∃ w r, v = .tup (.str w :: r) := by
  cases v with
  | tup xs => match xs, h with
    | .str w :: r, _ => exact ⟨w, r, rfl⟩
  | _ => cases h
theorem is_mark_ok {c r : Nat} {v : MV} (S : Sig st c r) (h : GG st v) (q : Q (.bl (markP v)) st) : wC Γ (d + 2) 6 [.ref c, v] st Q := by
  refine c_body rfl rfl ?_
  show wB Γ (d + 2) m_is_mark [some (.ref c), some v] st _
  unfold m_is_mark
  have rest : (isTupN v 2 && eqS (hd v 0) "name") = false → wB Γ (d + 2) (m_is_mark.drop 1) [some (.ref c), some v] st (retQ Q) := fun hno => by
    show wB Γ (d + 2) [_, _] [some (.ref c), some v] st (retQ Q)
    refine b_cons' (S_iff (t_or' (t_not' (t_e (fun _ _ _ => rfl) (e_call (a_cons (e_var rfl (a_nil (is_value_ok h.g2 ⟨_, rfl, fun hk => ?_, fun hk => ?_⟩)))))))))
    · have hk' : isValueV v = true := by simpa using hk
      obtain ⟨w, t, rfl⟩ := val_tup hk'
      refine t_e (fun _ _ _ => rfl) (e_cmp (e_idx (e_var rfl (e_lit (rs_of (ix0 _ _) (e_lit (rs_of (eq_gs (h.mem (by simp)).g1) ⟨_, rfl, fun h2 => ?_, fun h2 => b_nil' ?_⟩)))))))
      · refine b_cons' (S_ret (e_lit ?_))
        refine leaf q ?_
        exact markP_b hno (by show (!isValueV _ || eqS (.str w) "obj") = true; rw [h2, Bool.or_true])
      · refine b_cons' (S_ret (e_or (e_cmp (e_idx (e_var rfl (e_lit (rs_of (ix0 _ _) (e_lit (rs_of ne_gs ⟨_, rfl, fun h3 => ?_, fun h3 => ?_⟩)))))))))
        · have h3' : eqS (.str w) "tok" = true := by simpa using h3
          have e : markP (.tup (.str w :: t)) = kindK (hd (.tup (.str w :: t)) 1) := by
            rw [markP_c hno (by show (!isValueV _ || eqS (.str w) "obj") = false; rw [hk', h2]; rfl)]
            show (!eqS (.str w) "tok" || _) = _
            rw [h3']; rfl
          have hw : ("tok" : Str) = w := eq_of_beq h3'
          have : ∃ a b, t = [a, b] := by
            subst hw
            have h4 : valV "tok" t = true := hk'
            unfold valV at h4
            simp at h4
            match t, h4 with
            | [a, b], _ => exact ⟨a, b, rfl⟩
          obtain ⟨a, b, rfl⟩ := this
          have ga := (h.mem (x := a) (by simp)).g1
          rw [e] at q
          exact e_mcall (e_var rfl ⟨19, meth_kind S, a_cons (e_idx (e_var rfl (e_lit (rs_of (ix1 _ _ _) (a_nil (has_kind_ok S ga q))))))⟩)
        · refine leaf q ?_
          rw [markP_c hno (by show (!isValueV _ || eqS (.str w) "obj") = false; rw [hk', h2]; rfl)]
          show (!eqS (.str w) "tok" || _) = _
          rw [h3]; rfl
    · have hk' : isValueV v = false := by simpa using hk
      refine ⟨fun _ => ?_, fun z => by cases z⟩
      refine b_cons' (S_ret (e_lit ?_))
      refine leaf q ?_
      exact markP_b hno (by rw [hk']; rfl)
  refine b_cons' (S_iff (t_and' (t_e (fun _ _ _ => rfl) (e_call (a_cons (e_var rfl (a_cons (e_lit (a_nil (is_tuple_of_ok h.g1 ⟨_, rfl, fun hk => ?_, fun hk => ⟨(fun z => by cases z), fun _ => ?_⟩⟩))))))))))
  · obtain ⟨a, b, rfl⟩ : ∃ a b, v = .tup [a, b] := by
      cases v with
      | tup xs =>
        have h1 : (((xs.length : Nat) : Int) == 2) = true := hk
        rw [le2] at h1
        match xs, h1 with
        | [a, b], _ => exact ⟨a, b, rfl⟩
      | _ => cases hk
    have ga := (h.mem (x := a) (by simp)).g1
    have gb := (h.mem (x := b) (by simp)).g1
    refine t_e (fun _ _ _ => rfl) (e_cmp (e_idx (e_var rfl (e_lit (rs_of (ix0 _ _) (e_lit (rs_of (eq_gs ga) ⟨_, rfl, fun h2 => ?_, fun h2 => b_nil' ?_⟩)))))))
    · refine b_cons' (S_ret (e_call (a_cons (e_idx (e_var rfl (e_lit (rs_of (ix1 _ _ _) (a_nil (is_word_ok gb.ask ?_)))))))))
      refine leaf q ?_
      exact markP_a (v := .tup [a, b]) (by rw [hk]; exact h2)
    · exact rest (by show (isTupN _ 2 && eqS a "name") = false; rw [h2, Bool.and_false])
  · exact b_nil' (rest (by rw [hk]; rfl))
end K45

set_option Elab.async false
set_option linter.all false
set_option maxRecDepth 100000
set_option maxHeartbeats 4000000
namespace K45
open PySem L2 MP
variable {d : Nat} {st st' : Store} {Q : MV → Store → Prop} {s g : Nat}
def oneS (r : List MV) (z : Str) : Bool := match r with
  | [a] => eqS a z
  | _ => false
theorem its_one {w z : Str} {r : List MV} (hr : ∀ x ∈ r, G1 st x) : itemsS st (.str w :: r) [z] = some ((z == w) && r.isEmpty) := by
  cases r <;> rfl
theorem its_two {w z y : Str} {r : List MV} (hr : ∀ x ∈ r, G1 st x) : itemsS st (.str w :: r) [z, y] = some ((z == w) && oneS r y) := by
  match r, hr with
  | [], _ => rfl
  | [a], hr =>
    show (match itemS st (.str w) z, (match itemS st a y, itemsS st [] [] with
      | some a, some b => some (a && b)
      | _, _ => none) with
      | some a, some b => some (a && b)
      | _, _ => none) = _
    rw [itemS_g (hr a (by simp))]
    show some ((z == w) && (eqS a y && true)) = _
    rw [Bool.and_true]
    rfl
  | a :: b :: r, hr =>
    show (match itemS st (.str w) z, (match itemS st a y, itemsS st (b :: r) [] with
      | some a, some b => some (a && b)
      | _, _ => none) with
      | some a, some b => some (a && b)
      | _, _ => none) = _
    rw [itemS_g (hr a (by simp))]
    show some ((z == w) && (eqS a y && false)) = _
    rw [Bool.and_false]
    rfl
theorem eq_one {w z : Str} {r : List MV} (hr : ∀ x ∈ r, G1 st x) : cmpV .eq (.tup (.str w :: r)) (.tup [.str z]) st = .ok (.bl ((z == w) && r.isEmpty)) st := by
  show okB (orO none (orO none (orO none (orO (itemsS st (.str w :: r) [z]) _)))) id st = _
  rw [its_one hr]
  rfl
theorem in_bits {w : Str} {r : List MV} {n : Nat} (hr : ∀ x ∈ r, G1 st x) (hn : st.get n = some (.lst [.tup [.str "bit", .str "yes"], .tup [.str "bit", .str "no"]])) :
    cmpV .isin (.tup (.str w :: r)) (.ref n) st = .ok (.bl (((("bit" : Str) == w) && oneS r "yes") || ((("bit" : Str) == w) && oneS r "no"))) st := by
  have e : frV st (.ref n) = some [.tup [.str "bit", .str "yes"], .tup [.str "bit", .str "no"]] := by
    show (match st.get n with
      | some (.lst xs) => some xs
      | _ => none) = _
    rw [hn]
  have e2 : inTS (.tup (.str w :: r)) (.ref n) st = some (((("bit" : Str) == w) && oneS r "yes") || ((("bit" : Str) == w) && oneS r "no")) := by
    show (match frV st (.ref n) with
      | some items => match tupsV items with
        | some zss => anyS st (.str w :: r) zss
        | none => none
      | none => none) = _
    rw [e]
    show anyS st (.str w :: r) [["bit", "yes"], ["bit", "no"]] = _
    unfold anyS anyS anyS
    rw [its_two hr, its_two hr]
    show some (_ || (_ || false)) = _
    rw [Bool.or_false]
  show okB (orO (inTS (.tup (.str w :: r)) (.ref n) st) _) id st = _
  rw [e2]
  rfl
theorem inTS_none {v : MV} {n : Nat} {z : Str} {zs : List Str} (hn : st.get n = some (.lst ((z :: zs).map MV.str))) : inTS v (.ref n) st = none := by
  cases v with
  | tup xs =>
    show (match (match st.get n with
      | some (.lst xs) => some xs
      | _ => none) with
      | some items => match tupsV items with
        | some zss => anyS st xs zss
        | none => none
      | none => none) = _
    rw [hn]
    rfl
  | _ => rfl
/-- a value in a list of texts -/
theorem in_lst_g {v : MV} {n : Nat} {z : Str} {zs : List Str} (h : G1 st v) (hn : st.get n = some (.lst ((z :: zs).map MV.str))) : cmpV .isin v (.ref n) st = .ok (.bl ((z :: zs).any fun z => eqS v z)) st :=
  in_gs h (by show (match st.get n with
      | some (.lst xs) => some xs
      | _ => none) = _
              rw [hn]) (inTS_none hn)
theorem eq_nil (xs : List MV) : cmpV .eq (.tup xs) (.tup []) st = .ok (.bl xs.isEmpty) st := rfl
def tokR (r : List MV) : Bool := match r with
  | [a, b] => kindK a && isCountV b
  | _ => false
def efnR (w : Str) (r : List MV) : Bool := match r with
  | [a] => ((["err", "fun", "name"] : List Str).any fun z => z == w) && isWordV a
  | _ => false
def markS (w : Str) (r : List MV) : Bool :=
  cond (("none" : Str) == w) r.isEmpty (cond (("bit" : Str) == w) (oneS r "yes" || oneS r "no") (cond (("tok" : Str) == w) (tokR r) (efnR w r)))
def markL (v : MV) : Bool := match v with
  | .tup (.str w :: r) => markS w r
  | _ => false
theorem markS_a {w : Str} {r : List MV} (h1 : (("none" : Str) == w) = true) : markS w r = r.isEmpty := by unfold markS; rw [h1]; rfl
theorem markS_b {w : Str} {r : List MV} (h1 : (("none" : Str) == w) = false) (h2 : (("bit" : Str) == w) = true) : markS w r = (oneS r "yes" || oneS r "no") := by unfold markS; rw [h1, h2]; rfl
theorem markS_c {w : Str} {r : List MV} (h1 : (("none" : Str) == w) = false) (h2 : (("bit" : Str) == w) = false) (h3 : (("tok" : Str) == w) = true) : markS w r = tokR r := by unfold markS; rw [h1, h2, h3]; rfl
theorem markS_d {w : Str} {r : List MV} (h1 : (("none" : Str) == w) = false) (h2 : (("bit" : Str) == w) = false) (h3 : (("tok" : Str) == w) = false) : markS w r = efnR w r := by unfold markS; rw [h1, h2, h3]; rfl
theorem law_mark_ok {v : MV} (wf : st.wf) (h : GG st v) (q : ∀ st', Ext st st' → Q (.bl (markL v)) st') : wC Γ (d + 1) 31 [v] st Q := by
  refine c_body rfl rfl ?_
  show wB Γ (d + 1) m__law_is_mark [some v] st _
  unfold m__law_is_mark
  have q0 := q st (Ext.refl wf)
  have out : markL v = false → wB Γ (d + 1) [.ret (.lit (.bl false))] [some v] st (thenQ Γ (d + 1) (m__law_is_mark.drop 1) (retQ Q)) := fun e => b_cons' (S_ret (e_lit (leaf q0 e)))
  refine b_cons' (S_iff (t_or' (t_not' (t_e (fun _ _ _ => rfl) (e_bi (a_cons (e_var rfl (a_nil (rs_of (isi_tup h.g1) ⟨_, rfl, fun hk => ?_, fun hk => ⟨fun _ => out ?_, fun z => by cases z⟩⟩)))))))))
  · obtain ⟨xs, rfl⟩ : ∃ xs, v = .tup xs := by
      cases v with
      | tup xs => exact ⟨xs, rfl⟩
      | _ => cases hk
    refine t_or' (t_e (fun _ _ _ => rfl) (e_cmp (e_var rfl (e_tup (a_nil (rs_of (newT_tup (Nat.zero_le _)) (rs_of (eq_nil _) ⟨_, rfl, fun hk => ?_, fun hk => ⟨fun _ => out ?_, fun z => by cases z⟩⟩)))))))
    · match xs, hk with
      | x :: r, _ =>
      have gx := (h.mem (x := x) (by simp)).g1
      have gr : ∀ y ∈ r, G1 st y := fun y hy => (h.mem (x := y) (by simp [hy])).g1
      refine t_not' (t_e (fun _ _ _ => rfl) (e_bi (a_cons (e_idx (e_var rfl (e_lit (rs_of (ix0 _ _) (a_nil (rs_of (isi_str gx) ⟨_, rfl, fun hk => ?_, fun hk => b_nil' ?_⟩)))))))))
      · refine out ?_
        cases x with
        | str w => cases hk
        | _ => rfl
      obtain ⟨w, rfl⟩ : ∃ w, x = .str w := by
        cases x with
        | str w => exact ⟨w, rfl⟩
        | _ => cases hk
      -- none
      refine b_cons' (S_iff (t_e (fun _ _ _ => rfl) (e_cmp (e_idx (e_var rfl (e_lit (rs_of (ix0 _ _) (e_lit (rs_of (eq_gs gx) ⟨_, rfl, fun h1 => ?_, fun h1 => b_nil' ?_⟩)))))))))
      · refine b_cons' (S_ret (e_cmp (e_var rfl (e_tup (a_cons (e_lit (a_nil (rs_of (newT_tup (by decide)) (rs_of (eq_one gr) ?_)))))))))
        refine leaf q0 ?_
        have h1' : (("none" : Str) == w) = true := h1
        show markS w r = _
        rw [markS_a h1', h1', Bool.true_and]
      -- bit
      have h1' : (("none" : Str) == w) = false := h1
      refine b_cons' (S_iff (t_e (fun _ _ _ => rfl) (e_cmp (e_idx (e_var rfl (e_lit (rs_of (ix0 _ _) (e_lit (rs_of (eq_gs gx) ⟨_, rfl, fun h2 => ?_, fun h2 => b_nil' ?_⟩)))))))))
      · refine b_cons' (S_ret (e_cmp (e_var rfl (e_mk (l_lst (a_cons (e_tup (a_cons (e_lit (a_cons (e_lit (a_nil (rs_of (newT_tup (by decide)) (a_cons (e_tup (a_cons (e_lit (a_cons (e_lit (a_nil (rs_of (newT_tup (by decide)) (a_nil ⟨by decide, rs_of (newL_add (by decide)) ?_⟩))))))))))))))))))))))
        have e1 := Ext.add wf (.lst [.tup [.str "bit", .str "yes"], .tup [.str "bit", .str "no"]])
        refine rs_of (in_bits (fun y hy => (gr y hy).ext e1) (get_new wf _)) ?_
        refine leaf (q _ e1) ?_
        have h2' : (("bit" : Str) == w) = true := h2
        show markS w r = _
        rw [markS_b h1' h2', h2', Bool.true_and, Bool.true_and]
      have h2' : (("bit" : Str) == w) = false := h2
      -- tok
      refine b_cons' (S_iff (t_e (fun _ _ _ => rfl) (e_cmp (e_idx (e_var rfl (e_lit (rs_of (ix0 _ _) (e_lit (rs_of (eq_gs gx) ⟨_, rfl, fun h3 => ?_, fun h3 => b_nil' ?_⟩)))))))))
      · have h3' : (("tok" : Str) == w) = true := h3
        have em : markL (.tup (.str w :: r)) = tokR r := markS_c h1' h2' h3'
        refine b_cons' (S_ret (e_and (e_cmp (e_bi (a_cons (e_var rfl (a_nil (rs_of (len_tup _) (e_lit (rs_of (eq_int _ _) ⟨_, rfl, fun h4 => ?_, fun h4 => ?_⟩))))))))))
        · rw [le3] at h4
          match r, h4 with
          | [a, b], _ =>
          have ga := gr a (by simp)
          have gb := gr b (by simp)
          refine e_and (e_cmp (e_idx (e_var rfl (e_lit (rs_of (ix1 _ _ _) (e_mk (l_lst (a_cons (e_lit (a_cons (e_lit (a_cons (e_lit (a_nil ⟨by decide, rs_of (newL_add (by decide)) ?_⟩))))))))))))))
          have e1 := Ext.add wf (.lst [.str "num", .str "txt", .str "name"])
          refine rs_of (in_lst_g (z := "num") (zs := ["txt", "name"]) (ga.ext e1) (get_new wf _)) ⟨_, rfl, fun h5 => ?_, fun h5 => ?_⟩
          · refine e_call (a_cons (e_idx (e_var rfl (e_lit (rs_of (ix2 _ _ _ _) (a_nil (law_number_ok (gb.ext e1) ?_)))))))
            refine leaf (q _ e1) ?_
            rw [em]
            show (kindK a && isCountV b) = _
            rw [show kindK a = true from h5, Bool.true_and]
          · refine leaf (q _ e1) ?_
            rw [em]
            show (kindK a && isCountV b) = _
            rw [show kindK a = false from h5, Bool.false_and]
        · refine leaf q0 ?_
          rw [em]
          rw [le3] at h4
          match r, h4 with
          | [], _ => rfl
          | [a], _ => rfl
          | [a, b], h4 => cases h4
          | a :: b :: c :: r, _ => rfl
      have h3' : (("tok" : Str) == w) = false := h3
      have em : markL (.tup (.str w :: r)) = efnR w r := markS_d h1' h2' h3'
      refine b_cons' (S_ret (e_and (e_cmp (e_bi (a_cons (e_var rfl (a_nil (rs_of (len_tup _) (e_lit (rs_of (eq_int _ _) ⟨_, rfl, fun h4 => ?_, fun h4 => ?_⟩))))))))))
      · rw [le2] at h4
        match r, h4 with
        | [a], _ =>
        have ga := gr a (by simp)
        refine e_and (e_cmp (e_idx (e_var rfl (e_lit (rs_of (ix0 _ _) (e_mk (l_lst (a_cons (e_lit (a_cons (e_lit (a_cons (e_lit (a_nil ⟨by decide, rs_of (newL_add (by decide)) ?_⟩))))))))))))))
        have e1 := Ext.add wf (.lst [.str "err", .str "fun", .str "name"])
        refine rs_of (in_lst_g (z := "err") (zs := ["fun", "name"]) (gx.ext e1) (get_new wf _)) ⟨_, rfl, fun h5 => ?_, fun h5 => ?_⟩
        · refine e_call (a_cons (e_idx (e_var rfl (e_lit (rs_of (ix1 _ _ _) (a_nil (law_word_ok (ga.ext e1) ?_)))))))
          refine leaf (q _ e1) ?_
          rw [em]
          show (((["err", "fun", "name"] : List Str).any fun z => z == w) && isWordV a) = _
          rw [show ((["err", "fun", "name"] : List Str).any fun z => z == w) = true from h5, Bool.true_and]
        · refine leaf (q _ e1) ?_
          rw [em]
          show (((["err", "fun", "name"] : List Str).any fun z => z == w) && isWordV a) = _
          rw [show ((["err", "fun", "name"] : List Str).any fun z => z == w) = false from h5, Bool.false_and]
      · refine leaf q0 ?_
        rw [em]
        rw [le2] at h4
        match r, h4 with
        | [], _ => rfl
        | [a], h4 => cases h4
        | a :: b :: r, _ => rfl
    · match xs, hk with
      | [], _ => rfl
  · cases v with
    | tup xs => cases hk
    | _ => rfl
end K45

set_option Elab.async false
set_option linter.all false
set_option maxRecDepth 100000
set_option maxHeartbeats 400000
namespace K45
open PySem L2 MP
theorem kind_word {a : MV} (h : kindK a = true) : isWordV a = true ∧ noRes a = true := by
  cases a with
  | str x =>
    have h' : (KR.any fun z => z == x) = true := h
    simp only [KR, List.any_cons, List.any_nil, Bool.or_false, Bool.or_eq_true] at h'
    rcases h' with h | h | h
    · have := eq_of_beq h; subst this; decide +kernel
    · have := eq_of_beq h; subst this; decide +kernel
    · have := eq_of_beq h; subst this; decide +kernel
  | _ => cases h
def restR (w : Str) (r : List MV) : Bool := match r with
  | [a] => cond (w == ("bit" : Str)) (isBit a) (cond (w == ("obj" : Str)) (isCountV a) (((("err" : Str) == w) || (("fun" : Str) == w)) && isWordV a))
  | _ => false
theorem valV_eq (w : Str) (r : List MV) : valV w r = cond (w == ("none" : Str)) r.isEmpty (cond (w == ("tok" : Str)) (tokV r) (restR w r)) := by
  unfold valV restR
  cases (w == ("none" : Str)) with
  | true => rfl
  | false =>
    cases (w == ("tok" : Str)) with
    | true => rfl
    | false =>
      match r with
      | [] => rfl
      | a :: b :: r => rfl
      | [a] =>
        have e : ((["err", "fun"] : List Str).any fun y => y == w) = ((("err" : Str) == w) || (("fun" : Str) == w)) := by
          rw [List.any_cons, List.any_cons, List.any_nil, Bool.or_false]
        rw [e]
        cases (w == ("bit" : Str)) with
        | true => rfl
        | false =>
          cases (w == ("obj" : Str)) <;> rfl
theorem efnR_eq (w : Str) (a : MV) : efnR w [a] = (((("err" : Str) == w) || ((("fun" : Str) == w) || (("name" : Str) == w))) && isWordV a) := by
  show (((["err", "fun", "name"] : List Str).any fun z => z == w) && isWordV a) = _
  rw [List.any_cons, List.any_cons, List.any_cons, List.any_nil, Bool.or_false]
theorem isBit_eq (a : MV) : isBit a = (eqS a "yes" || eqS a "no") := by
  cases a with
  | str x =>
    show ((["yes", "no"] : List Str).any fun y => y == x) = (("yes" == x) || ("no" == x))
    rw [List.any_cons, List.any_cons, List.any_nil, Bool.or_false]
  | _ => rfl
theorem tok_eq (r : List MV) : (tokV r && kindK (r.getD 0 .non)) = tokR r := by
  match r with
  | [] => rfl
  | [a] => rfl
  | a :: b :: c :: r => rfl
  | [a, b] =>
    show ((isWordV a && (noRes a && isCountV b)) && kindK a) = (kindK a && isCountV b)
    cases hk : kindK a with
    | false => rw [Bool.and_false, Bool.false_and]
    | true => obtain ⟨h1, h2⟩ := kind_word hk; simp only [h1, h2, Bool.and_true, Bool.true_and]
theorem ltrans {w a b : Str} (h : w = a) (e : (a == b) = false) : (w == b) = false := h ▸ e
theorem rtrans {w a b : Str} (h : w = a) (e : (b == a) = false) : (b == w) = false := h ▸ e
/-- the two, by what the word is -/
theorem mark_form (w : Str) (r : List MV) : markP (.tup (.str w :: r)) = cond ((r.length == 1) && (("name" : Str) == w)) (isWordV (r.getD 0 .non))
    (cond (!valV w r || (("obj" : Str) == w)) false (!(("tok" : Str) == w) || kindK (r.getD 0 .non))) := by
  have e : isTupN (.tup (.str w :: r)) 2 = (r.length == 1) := by
    show ((((MV.str w :: r).length : Nat) : Int) == 2) = _
    rw [le2, List.length_cons, Bool.eq_iff_iff]
    simp
  unfold markP
  rw [e]
  cases r <;> rfl

theorem mk_name {w : Str} {r : List MV} (e0 : w = ("name" : Str)) : markP (.tup (.str w :: r)) = markL (.tup (.str w :: r)) := by
  have n0 : (w == ("name" : Str)) = true := beq_iff_eq.mpr e0
  have m0 : (("name" : Str) == w) = true := beq_iff_eq.mpr e0.symm
  have n1 : (w == ("none" : Str)) = false := ltrans e0 (by decide +kernel)
  have m1 : (("none" : Str) == w) = false := rtrans e0 (by decide +kernel)
  have n2 : (w == ("tok" : Str)) = false := ltrans e0 (by decide +kernel)
  have m2 : (("tok" : Str) == w) = false := rtrans e0 (by decide +kernel)
  have n3 : (w == ("bit" : Str)) = false := ltrans e0 (by decide +kernel)
  have m3 : (("bit" : Str) == w) = false := rtrans e0 (by decide +kernel)
  have n4 : (w == ("err" : Str)) = false := ltrans e0 (by decide +kernel)
  have m4 : (("err" : Str) == w) = false := rtrans e0 (by decide +kernel)
  have n5 : (w == ("fun" : Str)) = false := ltrans e0 (by decide +kernel)
  have m5 : (("fun" : Str) == w) = false := rtrans e0 (by decide +kernel)
  have n6 : (w == ("obj" : Str)) = false := ltrans e0 (by decide +kernel)
  have m6 : (("obj" : Str) == w) = false := rtrans e0 (by decide +kernel)
  have P := mark_form w r
  have V := valV_eq w r
  have S : markL (.tup (.str w :: r)) = cond (("none" : Str) == w) r.isEmpty (cond (("bit" : Str) == w) (oneS r "yes" || oneS r "no") (cond (("tok" : Str) == w) (tokR r) (efnR w r))) := rfl
  simp only [n0, m0, n1, m1, n2, m2, n3, m3, n4, m4, n5, m5, n6, m6, cond_true, cond_false, Bool.and_true, Bool.and_false, Bool.or_false, Bool.or_true, Bool.not_true, Bool.not_false, Bool.false_or, Bool.true_or] at P V S
  rw [P, S]
  match r with
  | [] => rw [V]; rfl
  | a :: b :: r => rw [V]; rfl
  | [a] =>
    rw [efnR_eq, m0]
    simp only [Bool.or_true, Bool.true_and]
    rfl
theorem mk_none {w : Str} {r : List MV} (e1 : w = ("none" : Str)) : markP (.tup (.str w :: r)) = markL (.tup (.str w :: r)) := by
  have n0 : (w == ("name" : Str)) = false := ltrans e1 (by decide +kernel)
  have m0 : (("name" : Str) == w) = false := rtrans e1 (by decide +kernel)
  have n1 : (w == ("none" : Str)) = true := beq_iff_eq.mpr e1
  have m1 : (("none" : Str) == w) = true := beq_iff_eq.mpr e1.symm
  have n2 : (w == ("tok" : Str)) = false := ltrans e1 (by decide +kernel)
  have m2 : (("tok" : Str) == w) = false := rtrans e1 (by decide +kernel)
  have n3 : (w == ("bit" : Str)) = false := ltrans e1 (by decide +kernel)
  have m3 : (("bit" : Str) == w) = false := rtrans e1 (by decide +kernel)
  have n4 : (w == ("err" : Str)) = false := ltrans e1 (by decide +kernel)
  have m4 : (("err" : Str) == w) = false := rtrans e1 (by decide +kernel)
  have n5 : (w == ("fun" : Str)) = false := ltrans e1 (by decide +kernel)
  have m5 : (("fun" : Str) == w) = false := rtrans e1 (by decide +kernel)
  have n6 : (w == ("obj" : Str)) = false := ltrans e1 (by decide +kernel)
  have m6 : (("obj" : Str) == w) = false := rtrans e1 (by decide +kernel)
  have P := mark_form w r
  have V := valV_eq w r
  have S : markL (.tup (.str w :: r)) = cond (("none" : Str) == w) r.isEmpty (cond (("bit" : Str) == w) (oneS r "yes" || oneS r "no") (cond (("tok" : Str) == w) (tokR r) (efnR w r))) := rfl
  simp only [n0, m0, n1, m1, n2, m2, n3, m3, n4, m4, n5, m5, n6, m6, cond_true, cond_false, Bool.and_true, Bool.and_false, Bool.or_false, Bool.or_true, Bool.not_true, Bool.not_false, Bool.false_or, Bool.true_or] at P V S
  rw [P, S]
  rw [V]
  cases r <;> rfl
theorem mk_tok {w : Str} {r : List MV} (e2 : w = ("tok" : Str)) : markP (.tup (.str w :: r)) = markL (.tup (.str w :: r)) := by
  have n0 : (w == ("name" : Str)) = false := ltrans e2 (by decide +kernel)
  have m0 : (("name" : Str) == w) = false := rtrans e2 (by decide +kernel)
  have n1 : (w == ("none" : Str)) = false := ltrans e2 (by decide +kernel)
  have m1 : (("none" : Str) == w) = false := rtrans e2 (by decide +kernel)
  have n2 : (w == ("tok" : Str)) = true := beq_iff_eq.mpr e2
  have m2 : (("tok" : Str) == w) = true := beq_iff_eq.mpr e2.symm
  have n3 : (w == ("bit" : Str)) = false := ltrans e2 (by decide +kernel)
  have m3 : (("bit" : Str) == w) = false := rtrans e2 (by decide +kernel)
  have n4 : (w == ("err" : Str)) = false := ltrans e2 (by decide +kernel)
  have m4 : (("err" : Str) == w) = false := rtrans e2 (by decide +kernel)
  have n5 : (w == ("fun" : Str)) = false := ltrans e2 (by decide +kernel)
  have m5 : (("fun" : Str) == w) = false := rtrans e2 (by decide +kernel)
  have n6 : (w == ("obj" : Str)) = false := ltrans e2 (by decide +kernel)
  have m6 : (("obj" : Str) == w) = false := rtrans e2 (by decide +kernel)
  have P := mark_form w r
  have V := valV_eq w r
  have S : markL (.tup (.str w :: r)) = cond (("none" : Str) == w) r.isEmpty (cond (("bit" : Str) == w) (oneS r "yes" || oneS r "no") (cond (("tok" : Str) == w) (tokR r) (efnR w r))) := rfl
  simp only [n0, m0, n1, m1, n2, m2, n3, m3, n4, m4, n5, m5, n6, m6, cond_true, cond_false, Bool.and_true, Bool.and_false, Bool.or_false, Bool.or_true, Bool.not_true, Bool.not_false, Bool.false_or, Bool.true_or] at P V S
  rw [P, S]
  rw [V, ← tok_eq]
  cases tokV r <;> rfl
theorem mk_bit {w : Str} {r : List MV} (e3 : w = ("bit" : Str)) : markP (.tup (.str w :: r)) = markL (.tup (.str w :: r)) := by
  have n0 : (w == ("name" : Str)) = false := ltrans e3 (by decide +kernel)
  have m0 : (("name" : Str) == w) = false := rtrans e3 (by decide +kernel)
  have n1 : (w == ("none" : Str)) = false := ltrans e3 (by decide +kernel)
  have m1 : (("none" : Str) == w) = false := rtrans e3 (by decide +kernel)
  have n2 : (w == ("tok" : Str)) = false := ltrans e3 (by decide +kernel)
  have m2 : (("tok" : Str) == w) = false := rtrans e3 (by decide +kernel)
  have n3 : (w == ("bit" : Str)) = true := beq_iff_eq.mpr e3
  have m3 : (("bit" : Str) == w) = true := beq_iff_eq.mpr e3.symm
  have n4 : (w == ("err" : Str)) = false := ltrans e3 (by decide +kernel)
  have m4 : (("err" : Str) == w) = false := rtrans e3 (by decide +kernel)
  have n5 : (w == ("fun" : Str)) = false := ltrans e3 (by decide +kernel)
  have m5 : (("fun" : Str) == w) = false := rtrans e3 (by decide +kernel)
  have n6 : (w == ("obj" : Str)) = false := ltrans e3 (by decide +kernel)
  have m6 : (("obj" : Str) == w) = false := rtrans e3 (by decide +kernel)
  have P := mark_form w r
  have V := valV_eq w r
  have S : markL (.tup (.str w :: r)) = cond (("none" : Str) == w) r.isEmpty (cond (("bit" : Str) == w) (oneS r "yes" || oneS r "no") (cond (("tok" : Str) == w) (tokR r) (efnR w r))) := rfl
  simp only [n0, m0, n1, m1, n2, m2, n3, m3, n4, m4, n5, m5, n6, m6, cond_true, cond_false, Bool.and_true, Bool.and_false, Bool.or_false, Bool.or_true, Bool.not_true, Bool.not_false, Bool.false_or, Bool.true_or] at P V S
  rw [P, S]
  rw [V]
  match r with
  | [] => rfl
  | a :: b :: r => rfl
  | [a] =>
    show cond (!restR w [a]) false true = _
    unfold restR
    rw [n3]
    show cond (!isBit a) false true = (eqS a "yes" || eqS a "no")
    rw [isBit_eq]
    cases (eqS a "yes" || eqS a "no") <;> rfl
theorem mk_err {w : Str} {r : List MV} (e4 : w = ("err" : Str)) : markP (.tup (.str w :: r)) = markL (.tup (.str w :: r)) := by
  have n0 : (w == ("name" : Str)) = false := ltrans e4 (by decide +kernel)
  have m0 : (("name" : Str) == w) = false := rtrans e4 (by decide +kernel)
  have n1 : (w == ("none" : Str)) = false := ltrans e4 (by decide +kernel)
  have m1 : (("none" : Str) == w) = false := rtrans e4 (by decide +kernel)
  have n2 : (w == ("tok" : Str)) = false := ltrans e4 (by decide +kernel)
  have m2 : (("tok" : Str) == w) = false := rtrans e4 (by decide +kernel)
  have n3 : (w == ("bit" : Str)) = false := ltrans e4 (by decide +kernel)
  have m3 : (("bit" : Str) == w) = false := rtrans e4 (by decide +kernel)
  have n4 : (w == ("err" : Str)) = true := beq_iff_eq.mpr e4
  have m4 : (("err" : Str) == w) = true := beq_iff_eq.mpr e4.symm
  have n5 : (w == ("fun" : Str)) = false := ltrans e4 (by decide +kernel)
  have m5 : (("fun" : Str) == w) = false := rtrans e4 (by decide +kernel)
  have n6 : (w == ("obj" : Str)) = false := ltrans e4 (by decide +kernel)
  have m6 : (("obj" : Str) == w) = false := rtrans e4 (by decide +kernel)
  have P := mark_form w r
  have V := valV_eq w r
  have S : markL (.tup (.str w :: r)) = cond (("none" : Str) == w) r.isEmpty (cond (("bit" : Str) == w) (oneS r "yes" || oneS r "no") (cond (("tok" : Str) == w) (tokR r) (efnR w r))) := rfl
  simp only [n0, m0, n1, m1, n2, m2, n3, m3, n4, m4, n5, m5, n6, m6, cond_true, cond_false, Bool.and_true, Bool.and_false, Bool.or_false, Bool.or_true, Bool.not_true, Bool.not_false, Bool.false_or, Bool.true_or] at P V S
  rw [P, S]
  rw [V]
  match r with
  | [] => rfl
  | a :: b :: r => rfl
  | [a] =>
    rw [efnR_eq, m4, m5, m0]
    unfold restR
    rw [n3, n6, m4, m5]
    simp only [cond_true, cond_false, Bool.true_or, Bool.or_true, Bool.or_false, Bool.true_and, Bool.false_and]
    cases isWordV a <;> rfl
theorem mk_fun {w : Str} {r : List MV} (e5 : w = ("fun" : Str)) : markP (.tup (.str w :: r)) = markL (.tup (.str w :: r)) := by
  have n0 : (w == ("name" : Str)) = false := ltrans e5 (by decide +kernel)
  have m0 : (("name" : Str) == w) = false := rtrans e5 (by decide +kernel)
  have n1 : (w == ("none" : Str)) = false := ltrans e5 (by decide +kernel)
  have m1 : (("none" : Str) == w) = false := rtrans e5 (by decide +kernel)
  have n2 : (w == ("tok" : Str)) = false := ltrans e5 (by decide +kernel)
  have m2 : (("tok" : Str) == w) = false := rtrans e5 (by decide +kernel)
  have n3 : (w == ("bit" : Str)) = false := ltrans e5 (by decide +kernel)
  have m3 : (("bit" : Str) == w) = false := rtrans e5 (by decide +kernel)
  have n4 : (w == ("err" : Str)) = false := ltrans e5 (by decide +kernel)
  have m4 : (("err" : Str) == w) = false := rtrans e5 (by decide +kernel)
  have n5 : (w == ("fun" : Str)) = true := beq_iff_eq.mpr e5
  have m5 : (("fun" : Str) == w) = true := beq_iff_eq.mpr e5.symm
  have n6 : (w == ("obj" : Str)) = false := ltrans e5 (by decide +kernel)
  have m6 : (("obj" : Str) == w) = false := rtrans e5 (by decide +kernel)
  have P := mark_form w r
  have V := valV_eq w r
  have S : markL (.tup (.str w :: r)) = cond (("none" : Str) == w) r.isEmpty (cond (("bit" : Str) == w) (oneS r "yes" || oneS r "no") (cond (("tok" : Str) == w) (tokR r) (efnR w r))) := rfl
  simp only [n0, m0, n1, m1, n2, m2, n3, m3, n4, m4, n5, m5, n6, m6, cond_true, cond_false, Bool.and_true, Bool.and_false, Bool.or_false, Bool.or_true, Bool.not_true, Bool.not_false, Bool.false_or, Bool.true_or] at P V S
  rw [P, S]
  rw [V]
  match r with
  | [] => rfl
  | a :: b :: r => rfl
  | [a] =>
    rw [efnR_eq, m4, m5, m0]
    unfold restR
    rw [n3, n6, m4, m5]
    simp only [cond_true, cond_false, Bool.true_or, Bool.or_true, Bool.or_false, Bool.true_and, Bool.false_and]
    cases isWordV a <;> rfl
theorem mk_obj {w : Str} {r : List MV} (e6 : w = ("obj" : Str)) : markP (.tup (.str w :: r)) = markL (.tup (.str w :: r)) := by
  have n0 : (w == ("name" : Str)) = false := ltrans e6 (by decide +kernel)
  have m0 : (("name" : Str) == w) = false := rtrans e6 (by decide +kernel)
  have n1 : (w == ("none" : Str)) = false := ltrans e6 (by decide +kernel)
  have m1 : (("none" : Str) == w) = false := rtrans e6 (by decide +kernel)
  have n2 : (w == ("tok" : Str)) = false := ltrans e6 (by decide +kernel)
  have m2 : (("tok" : Str) == w) = false := rtrans e6 (by decide +kernel)
  have n3 : (w == ("bit" : Str)) = false := ltrans e6 (by decide +kernel)
  have m3 : (("bit" : Str) == w) = false := rtrans e6 (by decide +kernel)
  have n4 : (w == ("err" : Str)) = false := ltrans e6 (by decide +kernel)
  have m4 : (("err" : Str) == w) = false := rtrans e6 (by decide +kernel)
  have n5 : (w == ("fun" : Str)) = false := ltrans e6 (by decide +kernel)
  have m5 : (("fun" : Str) == w) = false := rtrans e6 (by decide +kernel)
  have n6 : (w == ("obj" : Str)) = true := beq_iff_eq.mpr e6
  have m6 : (("obj" : Str) == w) = true := beq_iff_eq.mpr e6.symm
  have P := mark_form w r
  have V := valV_eq w r
  have S : markL (.tup (.str w :: r)) = cond (("none" : Str) == w) r.isEmpty (cond (("bit" : Str) == w) (oneS r "yes" || oneS r "no") (cond (("tok" : Str) == w) (tokR r) (efnR w r))) := rfl
  simp only [n0, m0, n1, m1, n2, m2, n3, m3, n4, m4, n5, m5, n6, m6, cond_true, cond_false, Bool.and_true, Bool.and_false, Bool.or_false, Bool.or_true, Bool.not_true, Bool.not_false, Bool.false_or, Bool.true_or] at P V S
  rw [P, S]
  match r with
  | [] => rfl
  | a :: b :: r => rfl
  | [a] =>
    rw [efnR_eq, m4, m5, m0]
    rfl
theorem mk_else {w : Str} {r : List MV} (e0 : ¬ w = ("name" : Str)) (e1 : ¬ w = ("none" : Str)) (e2 : ¬ w = ("tok" : Str)) (e3 : ¬ w = ("bit" : Str)) (e4 : ¬ w = ("err" : Str)) (e5 : ¬ w = ("fun" : Str)) (e6 : ¬ w = ("obj" : Str)) : markP (.tup (.str w :: r)) = markL (.tup (.str w :: r)) := by
  have n0 : (w == ("name" : Str)) = false := beq_false_of_ne e0
  have m0 : (("name" : Str) == w) = false := beq_false_of_ne (Ne.symm e0)
  have n1 : (w == ("none" : Str)) = false := beq_false_of_ne e1
  have m1 : (("none" : Str) == w) = false := beq_false_of_ne (Ne.symm e1)
  have n2 : (w == ("tok" : Str)) = false := beq_false_of_ne e2
  have m2 : (("tok" : Str) == w) = false := beq_false_of_ne (Ne.symm e2)
  have n3 : (w == ("bit" : Str)) = false := beq_false_of_ne e3
  have m3 : (("bit" : Str) == w) = false := beq_false_of_ne (Ne.symm e3)
  have n4 : (w == ("err" : Str)) = false := beq_false_of_ne e4
  have m4 : (("err" : Str) == w) = false := beq_false_of_ne (Ne.symm e4)
  have n5 : (w == ("fun" : Str)) = false := beq_false_of_ne e5
  have m5 : (("fun" : Str) == w) = false := beq_false_of_ne (Ne.symm e5)
  have n6 : (w == ("obj" : Str)) = false := beq_false_of_ne e6
  have m6 : (("obj" : Str) == w) = false := beq_false_of_ne (Ne.symm e6)
  have P := mark_form w r
  have V := valV_eq w r
  have S : markL (.tup (.str w :: r)) = cond (("none" : Str) == w) r.isEmpty (cond (("bit" : Str) == w) (oneS r "yes" || oneS r "no") (cond (("tok" : Str) == w) (tokR r) (efnR w r))) := rfl
  simp only [n0, m0, n1, m1, n2, m2, n3, m3, n4, m4, n5, m5, n6, m6, cond_true, cond_false, Bool.and_true, Bool.and_false, Bool.or_false, Bool.or_true, Bool.not_true, Bool.not_false, Bool.false_or, Bool.true_or] at P V S
  rw [P, S]
  rw [V]
  match r with
  | [] => rfl
  | a :: b :: r => rfl
  | [a] =>
    rw [efnR_eq, m4, m5, m0]
    unfold restR
    rw [n3, n6, m4, m5]
    simp only [cond_true, cond_false, Bool.true_or, Bool.or_true, Bool.or_false, Bool.true_and, Bool.false_and]
    cases isWordV a <;> rfl
theorem mark_str (w : Str) (r : List MV) : markP (.tup (.str w :: r)) = markL (.tup (.str w :: r)) := by
  by_cases e0 : w = ("name" : Str)
  · exact mk_name e0
  by_cases e1 : w = ("none" : Str)
  · exact mk_none e1
  by_cases e2 : w = ("tok" : Str)
  · exact mk_tok e2
  by_cases e3 : w = ("bit" : Str)
  · exact mk_bit e3
  by_cases e4 : w = ("err" : Str)
  · exact mk_err e4
  by_cases e5 : w = ("fun" : Str)
  · exact mk_fun e5
  by_cases e6 : w = ("obj" : Str)
  · exact mk_obj e6
  exact mk_else e0 e1 e2 e3 e4 e5 e6
theorem mark_eq (v : MV) : markP v = markL v := by
  cases v with
  | tup xs =>
    match xs with
    | [] => rfl
    | .str w :: r => exact mark_str w r
    | .non :: r => exact markP_b (by show (_ && false) = false; rw [Bool.and_false]) rfl
    | .bl _ :: r => exact markP_b (by show (_ && false) = false; rw [Bool.and_false]) rfl
    | .int _ :: r => exact markP_b (by show (_ && false) = false; rw [Bool.and_false]) rfl
    | .tup _ :: r => exact markP_b (by show (_ && false) = false; rw [Bool.and_false]) rfl
    | .ref _ :: r => exact markP_b (by show (_ && false) = false; rw [Bool.and_false]) rfl
    | .scr _ :: r => exact markP_b (by show (_ && false) = false; rw [Bool.and_false]) rfl
  | _ => rfl
end K45

set_option Elab.async false
set_option linter.all false
set_option maxRecDepth 100000
set_option maxHeartbeats 1000000
namespace K45
open PySem L2 MP
variable {d : Nat} {st st' : Store} {Q : MV → Store → Prop} {s g : Nat}
def isNon : MV → Bool
  | .non => true
  | _ => false
theorem isN_rs {neg : Bool} {x : MV} (q : Q (.bl (if neg then !isNon x else isNon x)) st) : Rs (match x with
    | .non => .ok (.bl (!neg)) st
    | _ => .ok (.bl neg) st) Q := by
  cases x <;> cases neg <;> exact Rs.ok q
/-- are texts all different -/
def allDif (xs : List MV) : Bool := match txtsV xs with
  | some zs => difs zs zs.length == zs.length
  | none => false
def fldsA (v : MV) : Bool := match v with
  | .tup fs => fs.all isWordV && allDif fs
  | _ => false
def shapeA (v : MV) : Bool := match v with
  | .tup [a, b] => (isNon a || isWordV a) && fldsA b
  | _ => false
theorem txts_words : ∀ {fs : List MV}, fs.all isWordV = true → ∃ zs, txtsV fs = some zs ∧ zs.length = fs.length
  | [], _ => ⟨[], rfl, rfl⟩
  | x :: fs, h => by
    rw [List.all_cons, Bool.and_eq_true] at h
    obtain ⟨zs, e, l⟩ := txts_words h.2
    cases x with
    | str z =>
      refine ⟨z :: zs, ?_, by rw [List.length_cons, List.length_cons, l]⟩
      show (match txtsV fs with
        | some t => some (z :: t)
        | none => none) = _
      rw [e]
    | _ => exact absurd h.1 Bool.false_ne_true
theorem lens_ok {fs : List MV} (h : fs.all isWordV = true) (hl : fs.length ≤ 1000) : ∃ zs : List Str, txtsV fs = some zs ∧ zs.length = fs.length ∧ biV .lens [.tup fs] st = .ok (.int (difs zs zs.length)) st := by
  obtain ⟨zs, e, l⟩ := txts_words h
  refine ⟨zs, e, l, ?_⟩
  show (match txtsV fs with
    | some zs => if zs.length ≤ 1000 then Res.ok (MV.int (difs zs zs.length)) st else .stuck
    | none => .stuck) = _
  rw [e]
  exact if_pos (by rw [l]; exact hl)
theorem ieq (a b : Nat) : (((a : Nat) : Int) == ((b : Nat) : Int)) = (a == b) := by rw [Bool.eq_iff_iff]; simp; try omega
theorem shape_no {v : MV} (h : isTupN v 2 = false) : shapeA v = false := by
  cases v with
  | tup xs =>
    match xs, h with
    | [], _ => rfl
    | [a], _ => rfl
    | [a, b], h => cases h
    | a :: b :: c :: r, _ => rfl
  | _ => rfl
theorem two_of {v : MV} (h : isTupN v 2 = true) : ∃ a b, v = .tup [a, b] := by
  cases v with
  | tup xs =>
    have h1 : (((xs.length : Nat) : Int) == 2) = true := h
    rw [le2] at h1
    match xs, h1 with
    | [a, b], _ => exact ⟨a, b, rfl⟩
  | _ => cases h
theorem three_of {v : MV} (h : isTupN v 3 = true) : ∃ a b c, v = .tup [a, b, c] := by
  cases v with
  | tup xs =>
    have h1 : (((xs.length : Nat) : Int) == 3) = true := h
    rw [le3] at h1
    match xs, h1 with
    | [a, b, c], _ => exact ⟨a, b, c, rfl⟩
  | _ => cases h
theorem tup_of {v : MV} (h : isTup v = true) : ∃ xs, v = .tup xs := by
  cases v with
  | tup xs => exact ⟨xs, rfl⟩
  | _ => cases h
theorem str_of {v : MV} (h : isStr v = true) : ∃ w, v = .str w := by
  cases v with
  | str xs => exact ⟨xs, rfl⟩
  | _ => cases h
theorem flds_no {v : MV} (h : isTup v = false) : fldsA v = false := by
  cases v with
  | tup xs => cases h
  | _ => rfl
theorem shape2 (a b : MV) : shapeA (.tup [a, b]) = ((isNon a || isWordV a) && fldsA b) := rfl
theorem flds_t {fs : List MV} {zs : List Str} (h : fs.all isWordV = true) (e : txtsV fs = some zs) : fldsA (.tup fs) = (difs zs zs.length == zs.length) := by
  show (fs.all isWordV && allDif fs) = _
  rw [h]
  unfold allDif
  rw [e]
  rfl
theorem shape_ok {v : MV} (h : GG st v) (q : Q (.bl (shapeA v)) st) : wC Γ (d + 1) 7 [v] st Q := by
  refine c_body rfl rfl ?_
  show wB Γ (d + 1) m_is_told_shape [some v, none] st _
  unfold m_is_told_shape
  refine b_cons' (S_iff (t_or' (t_not' (t_e (fun _ _ _ => rfl) (e_call (a_cons (e_var rfl (a_cons (e_lit (a_nil (is_tuple_of_ok h.g1 ⟨_, rfl, fun hk => ?_, fun hk => ⟨fun _ => ?_, fun z => by cases z⟩⟩)))))))))))
  · obtain ⟨a, b, rfl⟩ := two_of (by simpa using hk)
    have ga := h.mem (x := a) (by simp)
    have gb := h.mem (x := b) (by simp)
    rw [shape2] at q
    refine t_not' (t_e (fun _ _ _ => rfl) (e_bi (a_cons (e_idx (e_var rfl (e_lit (rs_of (ix1 _ _ _) (a_nil (rs_of (isi_tup gb.g1) ⟨_, rfl, fun hk => ?_, fun hk => b_nil' ?_⟩)))))))))
    · refine b_cons' (S_ret (e_lit (leaf q ?_)))
      rw [flds_no (by simpa using hk), Bool.and_false]
    obtain ⟨fs, rfl⟩ := tup_of (v := b) (by simpa using hk)
    refine b_cons' (S_iff (t_and' (t_e (fun _ _ _ => rfl) (e_isN (e_idx (e_var rfl (e_lit (rs_of (ix0 _ _) (isN_rs ⟨_, rfl, fun hn => ?_, fun hn => ⟨(fun z => by cases z), fun _ => b_nil' ?_⟩⟩)))))))))
    · have hn' : isNon a = false := by simpa using hn
      refine t_not' (t_e (fun _ _ _ => rfl) (e_call (a_cons (e_idx (e_var rfl (e_lit (rs_of (ix0 _ _) (a_nil (is_word_ok ga.g1.ask ⟨_, rfl, fun hw => ?_, fun hw => b_nil' ?_⟩)))))))))
      · have hw' : isWordV a = false := by simpa using hw
        refine b_cons' (S_ret (e_lit (leaf q ?_)))
        rw [hn', hw']; rfl
      · have hw' : isWordV a = true := by simpa using hw
        rw [hw', Bool.or_true, Bool.true_and] at q
        exact rest fs (fun x hx => (gb.mem hx).g1) gb.len q
    · have hn' : isNon a = true := by simpa using hn
      rw [hn', Bool.true_or, Bool.true_and] at q
      exact rest fs (fun x hx => (gb.mem hx).g1) gb.len q
  · refine b_cons' (S_ret (e_lit (leaf q ?_)))
    exact shape_no (by simpa using hk)
where
  rest {a : MV} {o : Option MV} (fs : List MV) (hg : ∀ x ∈ fs, G1 st x) (hl : fs.length ≤ 1000) (q : Q (.bl (fldsA (.tup fs))) st) : wB Γ (d + 1) (m_is_told_shape.drop 2) [some (.tup [a, .tup fs]), o] st (retQ Q) := by
    show wB Γ (d + 1) [_, _] _ st _
    refine b_cons' (S_iff (t_not' (t_e (fun _ _ _ => rfl) (e_all (l_comp (i_seq' (e_idx (e_var rfl (e_lit (rs_of (ix1 _ _ _) ⟨_, rfl, ?_⟩))))))))))
    refine g_map (fun v => MV.bl (isWordV v)) (by have : 1000 ≤ sizeLine := by decide
                                                  show 0 + fs.length ≤ sizeLine
                                                  omega) (fun v hv => ⟨_, rfl, fun Q' q' => e_call (a_cons (e_var rfl (a_nil (is_word_ok (hg v hv).ask q'))))⟩) ?_
    rw [List.nil_append]
    refine ⟨_, bls_map isWordV fs, _, rfl, fun hk => ?_, fun hk => b_nil' ?_⟩
    · refine b_cons' (S_ret (e_lit (leaf q ?_)))
      have : fs.all isWordV = false := by
        have h2 : (!(fs.map isWordV).all id) = true := hk
        rw [List.all_map] at h2
        simpa using h2
      show (fs.all isWordV && allDif fs) = false
      rw [this]; rfl
    · have ha : fs.all isWordV = true := by
        have h2 : (!(fs.map isWordV).all id) = false := hk
        rw [List.all_map] at h2
        simpa using h2
      obtain ⟨zs, e, l, hz⟩ := lens_ok (st := st) ha hl
      refine b_cons' (S_ret (e_cmp (e_bi (a_cons (e_idx (e_var rfl (e_lit (rs_of (ix1 _ _ _) (a_nil (rs_of hz (e_bi (a_cons (e_idx (e_var rfl (e_lit (rs_of (ix1 _ _ _) (a_nil (rs_of (len_tup _) (rs_of (eq_int _ _) ?_)))))))))))))))))))
      refine leaf q ?_
      rw [flds_t ha e, ieq, l]
end K45

set_option Elab.async false
set_option linter.all false
set_option maxRecDepth 100000
set_option maxHeartbeats 1000000
namespace K45
open PySem L2 MP
variable {d : Nat} {st st' : Store} {Q : MV → Store → Prop} {s g : Nat}
theorem law_shape_ok {v : MV} (wf : st.wf) (h : GG st v) (q : ∀ st', Ext st st' → Q (.bl (shapeA v)) st') : wC Γ (d + 1) 32 [v] st Q := by
  refine c_body rfl rfl ?_
  show wB Γ (d + 1) m__law_is_shape [some v, none] st _
  unfold m__law_is_shape
  have q0 := q st (Ext.refl wf)
  refine b_cons' (S_iff (t_or' (t_not' (t_e (fun _ _ _ => rfl) (e_bi (a_cons (e_var rfl (a_nil (rs_of (isi_tup h.g1) ⟨_, rfl, fun hk => ?_, fun hk => ⟨fun _ => ?_, fun z => by cases z⟩⟩)))))))))
  · obtain ⟨xs, rfl⟩ := tup_of (v := v) (by simpa using hk)
    refine t_or' (t_e (fun _ _ _ => rfl) (e_cmp (e_bi (a_cons (e_var rfl (a_nil (rs_of (len_tup _) (e_lit (rs_of (ne_int _ _) ⟨_, rfl, fun hk => ?_, fun hk => ⟨fun _ => ?_, fun z => by cases z⟩⟩)))))))))
    · obtain ⟨a, b, e⟩ := two_of (v := .tup xs) (by simpa [isTupN] using hk)
      cases e
      have ga := h.mem (x := a) (by simp)
      have gb := h.mem (x := b) (by simp)
      refine t_not' (t_e (fun _ _ _ => rfl) (e_bi (a_cons (e_idx (e_var rfl (e_lit (rs_of (ix1 _ _ _) (a_nil (rs_of (isi_tup gb.g1) ⟨_, rfl, fun hk => ?_, fun hk => b_nil' ?_⟩)))))))))
      · refine b_cons' (S_ret (e_lit (leaf q0 ?_)))
        rw [shape2, flds_no (by simpa using hk), Bool.and_false]
      obtain ⟨fs, rfl⟩ := tup_of (v := b) (by simpa using hk)
      refine b_cons' (S_iff (t_and' (t_e (fun _ _ _ => rfl) (e_isN (e_idx (e_var rfl (e_lit (rs_of (ix0 _ _) (isN_rs ⟨_, rfl, fun hn => ?_, fun hn => ⟨(fun z => by cases z), fun _ => b_nil' ?_⟩⟩)))))))))
      · have hn' : isNon a = false := by simpa using hn
        refine t_not' (t_e (fun _ _ _ => rfl) (e_call (a_cons (e_idx (e_var rfl (e_lit (rs_of (ix0 _ _) (a_nil (law_word_ok ga.g1 ⟨_, rfl, fun hw => ?_, fun hw => b_nil' ?_⟩)))))))))
        · have hw' : isWordV a = false := by simpa using hw
          refine b_cons' (S_ret (e_lit (leaf q0 ?_)))
          rw [shape2, hn', hw']; rfl
        · have hw' : isWordV a = true := by simpa using hw
          refine rest wf fs (fun x hx => (gb.mem hx).g1) gb.len fun st' e => leaf (q st' e) ?_
          rw [shape2, hw', Bool.or_true, Bool.true_and]
      · have hn' : isNon a = true := by simpa using hn
        refine rest wf fs (fun x hx => (gb.mem hx).g1) gb.len fun st' e => leaf (q st' e) ?_
        rw [shape2, hn', Bool.true_or, Bool.true_and]
    · refine b_cons' (S_ret (e_lit (leaf q0 ?_)))
      exact shape_no (by simpa [isTupN] using hk)
  · refine b_cons' (S_ret (e_lit (leaf q0 ?_)))
    cases v with
    | tup xs => cases hk
    | _ => rfl
where
  rest {a : MV} {o : Option MV} (wf : st.wf) (fs : List MV) (hg : ∀ x ∈ fs, G1 st x) (hl : fs.length ≤ 1000) (q : ∀ st', Ext st st' → Q (.bl (fldsA (.tup fs))) st') : wB Γ (d + 1) (m__law_is_shape.drop 2) [some (.tup [a, .tup fs]), o] st (retQ Q) := by
    show wB Γ (d + 1) [_, _] _ st _
    have sl : 1000 ≤ sizeLine := by decide
    refine b_cons' (S_iff (t_e (fun _ _ _ => rfl) (e_cmp (e_mk (l_comp (i_seq' (e_idx (e_var rfl (e_lit (rs_of (ix1 _ _ _) ⟨_, rfl, ?_⟩))))))))))
    refine g_fmap (fun v => !isWordV v) (fun _ => .int 1) (by show 0 + fs.length ≤ sizeLine; omega) (fun v hv => ⟨_, rfl, fun Q' q' => t_not' (t_e (fun _ _ _ => rfl) (e_call (a_cons (e_var rfl (a_nil (law_word_ok (hg v hv) ⟨_, rfl, q'⟩)))))), fun Q' q' => e_lit q'⟩) ?_
    rw [List.nil_append]
    refine rs_of (newL_add (by rw [List.length_map]; exact Nat.le_trans (List.length_filter_le _ _) hl)) ?_
    refine e_mk (l_lst (a_nil ⟨Nat.zero_le _, rs_of (newL_add (Nat.zero_le _)) ?_⟩))
    have e1 := Ext.add wf (.lst ((fs.filter fun v => !isWordV v).map fun _ => .int 1))
    have e2 := Ext.add e1.wf (.lst [])
    have e12 := e1.trans e2
    refine rs_of (ne_ones ((e2.kp _ (Nat.lt_succ_self _)).trans (get_new wf _)) (get_new e1.wf _)) ⟨_, rfl, fun hk => ?_, fun hk => b_nil' ?_⟩
    · refine b_cons' (S_ret (e_lit (leaf (q _ e12) ?_)))
      have : fs.all isWordV = false := by
        cases ha : fs.all isWordV with
        | false => rfl
        | true =>
          rw [List.all_eq_true] at ha
          have : (fs.filter fun v => !isWordV v) = [] := List.filter_eq_nil_iff.mpr fun x hx => by rw [ha x hx]; exact Bool.false_ne_true
          rw [this] at hk
          cases hk
      show (fs.all isWordV && allDif fs) = false
      rw [this]; rfl
    · have ha : fs.all isWordV = true := by
        rw [List.all_eq_true]
        intro x hx
        have h2 : (fs.filter fun v => !isWordV v) = [] := by
          have : (fs.filter fun v => !isWordV v).isEmpty = true := by simpa using hk
          exact List.isEmpty_iff.mp this
        have := List.filter_eq_nil_iff.mp h2 x hx
        simpa using this
      obtain ⟨zs, e, l, hz⟩ := lens_ok (st := (st.add (.lst ((fs.filter fun v => !isWordV v).map fun _ => .int 1))).add (.lst [])) ha hl
      refine b_cons' (S_ret (e_cmp (e_bi (a_cons (e_idx (e_var rfl (e_lit (rs_of (ix1 _ _ _) (a_nil (rs_of (len_tup _) (e_bi (a_cons (e_idx (e_var rfl (e_lit (rs_of (ix1 _ _ _) (a_nil (rs_of hz (rs_of (eq_int _ _) ?_)))))))))))))))))))
      refine leaf (q _ e12) ?_
      rw [flds_t ha e, ieq, l, Bool.beq_comm]
/-! ### kinds -/
def kindA (v : MV) : Bool := (RES.any fun z => eqS v z) || kindK v
theorem kindA_str {v : MV} (h : isStr v = false) : kindA v = false := by
  cases v with
  | str x => cases h
  | _ => rfl
theorem in_res {v : MV} {zs : List Str} (h : G1 st v) (hs : isStr v = true) : cmpV .isin v (.tup (zs.map MV.str)) st = .ok (.bl (zs.any fun z => eqS v z)) st :=
  in_gs h rfl (by cases v <;> first | rfl | cases hs)
theorem known_kind_ok {c r : Nat} {v : MV} (S : Sig st c r) (h : G1 st v) (q : Q (.bl (kindA v)) st) : wC Γ (d + 1) 8 [.ref c, v] st Q := by
  refine c_body rfl rfl ?_
  show wB Γ (d + 1) m_is_known_kind [some (.ref c), some v] st _
  unfold m_is_known_kind
  refine b_cons' (S_ret (e_and (e_bi (a_cons (e_var rfl (a_nil (rs_of (isi_str h) ⟨_, rfl, fun hk => ?_, fun hk => ?_⟩)))))))
  · refine e_or (e_cmp (e_var rfl (e_lit (rs_of (in_res (zs := RES) h hk) ⟨_, rfl, fun h2 => ?_, fun h2 => ?_⟩))))
    · refine e_mcall (e_var rfl ⟨19, meth_kind S, a_cons (e_var rfl (a_nil (has_kind_ok S h (leaf q ?_))))⟩)
      unfold kindA
      rw [h2, Bool.false_or]
    · refine leaf q ?_
      unfold kindA
      rw [h2, Bool.true_or]
  · exact leaf q (kindA_str hk)
/-! ### facts -/
def factA (v : MV) : Bool := match v with
  | .tup [a, x, t] => isCountV x && cond (eqS a "kind") (kindA t) (cond (eqS a "is") (markL t) (cond (eqS a "shape") (shapeA t) ((eqS a "same" || eqS a "unlike") && isCountV t)))
  | _ => false
theorem fact_no {v : MV} (h : isTupN v 3 = false) : factA v = false := by
  cases v with
  | tup xs =>
    match xs, h with
    | [], _ => rfl
    | [a], _ => rfl
    | [a, b], _ => rfl
    | [a, b, c], h => cases h
    | a :: b :: c :: e :: r, _ => rfl
  | _ => rfl
def RW : List Str := ["kind", "is", "shape", "same", "unlike"]
theorem fact3 (a x t : MV) : factA (.tup [a, x, t]) = (isCountV x && cond (eqS a "kind") (kindA t) (cond (eqS a "is") (markL t) (cond (eqS a "shape") (shapeA t) ((eqS a "same" || eqS a "unlike") && isCountV t)))) := rfl
theorem eqS_str {v : MV} {z : Str} (h : isStr v = false) : eqS v z = false := by
  cases v with
  | str x => cases h
  | _ => rfl
theorem rw_any {a : MV} : (RW.any fun z => eqS a z) = (eqS a "kind" || (eqS a "is" || (eqS a "shape" || (eqS a "same" || eqS a "unlike")))) := by
  show ((["kind", "is", "shape", "same", "unlike"] : List Str).any fun z => eqS a z) = _
  rw [List.any_cons, List.any_cons, List.any_cons, List.any_cons, List.any_cons, List.any_nil, Bool.or_false]
theorem ok_RW : ∀ x ∈ RW, PyData.strOk x = true := by decide +kernel
theorem any_eq {w : Str} {zs : List Str} : (zs.any fun x => x == w) = zs.any fun z => eqS (.str w) z := rfl
theorem is_fact_ok {c r : Nat} {v : MV} (S : Sig st c r) (h : GG st v) (q : Q (.bl (factA v)) st) : wC Γ (d + 3) 9 [.ref c, v] st Q := by
  refine c_body rfl rfl ?_
  show wB Γ (d + 3) m_is_fact [some (.ref c), some v] st _
  unfold m_is_fact
  refine b_cons' (S_iff (t_or' (t_not' (t_e (fun _ _ _ => rfl) (e_call (a_cons (e_var rfl (a_cons (e_lit (a_nil (is_tuple_of_ok h.g1 ⟨_, rfl, fun hk => ?_, fun hk => ⟨fun _ => ?_, fun z => by cases z⟩⟩)))))))))))
  · obtain ⟨a, x, t, rfl⟩ := three_of (v := v) (by simpa using hk)
    have ga := (h.mem (x := a) (by simp)).g1
    have gx := (h.mem (x := x) (by simp)).g1
    have gt := h.mem (x := t) (by simp)
    rw [fact3] at q
    refine t_or' (t_not' (t_e (fun _ _ _ => rfl) (e_bi (a_cons (e_idx (e_var rfl (e_lit (rs_of (ix0 _ _) (a_nil (rs_of (isi_str ga) ⟨_, rfl, fun hs => ?_, fun hs => ⟨fun _ => ?_, fun z => by cases z⟩⟩))))))))))
    · have hs' : isStr a = true := by simpa using hs
      obtain ⟨w, rfl⟩ := str_of hs'
      have hw : Txt0 w := by cases ga with | str h => exact h
      refine t_e (fun _ _ _ => rfl) (e_cmp (e_idx (e_var rfl (e_lit (rs_of (ix0 _ _) (e_lit (rs_of (notin_tup (xs := RW) hw.2 ok_RW) ⟨_, rfl, fun h2 => ?_, fun h2 => b_nil' ?_⟩)))))))
      · have h2' : (RW.any fun z => eqS (.str w) z) = false := by simpa [any_eq] using h2
        rw [rw_any] at h2'
        simp only [Bool.or_eq_false_iff] at h2'
        refine b_cons' (S_ret (e_lit (leaf q ?_)))
        rw [h2'.1, h2'.2.1, h2'.2.2.1, h2'.2.2.2.1, h2'.2.2.2.2]
        simp only [cond_false, Bool.or_self, Bool.false_and, Bool.and_false]
      have h2' : (RW.any fun z => eqS (.str w) z) = true := by simpa [any_eq] using h2
      rw [rw_any] at h2'
      refine b_cons' (S_iff (t_not' (t_e (fun _ _ _ => rfl) (e_call (a_cons (e_idx (e_var rfl (e_lit (rs_of (ix1 _ _ _) (a_nil (is_register_ok gx ⟨_, rfl, fun hx => ?_, fun hx => b_nil' ?_⟩)))))))))))
      · have hx' : isCountV x = false := by simpa using hx
        refine b_cons' (S_ret (e_lit (leaf q ?_)))
        rw [hx', Bool.false_and]
      have hx' : isCountV x = true := by simpa using hx
      rw [hx', Bool.true_and] at q
      refine b_cons' (S_iff (t_e (fun _ _ _ => rfl) (e_cmp (e_idx (e_var rfl (e_lit (rs_of (ix0 _ _) (e_lit (rs_of (eq_gs ga) ⟨_, rfl, fun h3 => ?_, fun h3 => b_nil' ?_⟩)))))))))
      · rw [h3] at q
        exact b_cons' (S_ret (e_call (a_cons (e_var rfl (a_cons (e_idx (e_var rfl (e_lit (rs_of (ix2 _ _ _ _) (a_nil (known_kind_ok S gt.g1 q)))))))))))
      rw [h3, cond_false] at q
      refine b_cons' (S_iff (t_e (fun _ _ _ => rfl) (e_cmp (e_idx (e_var rfl (e_lit (rs_of (ix0 _ _) (e_lit (rs_of (eq_gs ga) ⟨_, rfl, fun h4 => ?_, fun h4 => b_nil' ?_⟩)))))))))
      · rw [h4, cond_true, ← mark_eq] at q
        exact b_cons' (S_ret (e_call (a_cons (e_var rfl (a_cons (e_idx (e_var rfl (e_lit (rs_of (ix2 _ _ _ _) (a_nil (is_mark_ok S gt q)))))))))))
      rw [h4, cond_false] at q
      refine b_cons' (S_ret (e_ifx (t_e (fun _ _ _ => rfl) (e_cmp (e_idx (e_var rfl (e_lit (rs_of (ix0 _ _) (e_lit (rs_of (eq_gs ga) ⟨_, rfl, fun h5 => ?_, fun h5 => ?_⟩))))))))))
      · rw [h5, cond_true] at q
        exact e_call (a_cons (e_idx (e_var rfl (e_lit (rs_of (ix2 _ _ _ _) (a_nil (shape_ok gt q)))))))
      · rw [h5, cond_false] at q
        have h6 : (eqS (.str w) "same" || eqS (.str w) "unlike") = true := by
          rw [h3, h4, h5, Bool.false_or, Bool.false_or, Bool.false_or] at h2'
          exact h2'
        rw [h6, Bool.true_and] at q
        exact e_call (a_cons (e_idx (e_var rfl (e_lit (rs_of (ix2 _ _ _ _) (a_nil (is_register_ok gt.g1 q)))))))
    · have hs' : isStr a = false := by simpa using hs
      refine b_cons' (S_ret (e_lit (leaf q ?_)))
      rw [eqS_str hs', eqS_str hs', eqS_str hs', eqS_str hs', eqS_str hs']
      simp only [cond_false, Bool.or_self, Bool.false_and, Bool.and_false]
  · refine b_cons' (S_ret (e_lit (leaf q ?_)))
    exact fact_no (by simpa using hk)
end K45

set_option Elab.async false
set_option linter.all false
set_option maxRecDepth 100000
set_option maxHeartbeats 1000000
namespace K45
open PySem L2 MP
variable {d : Nat} {st st' : Store} {Q : MV → Store → Prop} {s g : Nat}
def EK : List Str := ["none", "bit", "err", "fun", "obj", "num", "txt", "name"]
theorem kind8 (t : MV) : (EK.any fun z => eqS t z) = kindA t := by
  show ((RES ++ KR).any fun z => eqS t z) = _
  rw [List.any_append]
  rfl
theorem law_fact_ok {v : MV} (wf : st.wf) (h : GG st v) (q : ∀ st', Ext st st' → Q (.bl (factA v)) st') : wC Γ (d + 2) 33 [v] st Q := by
  refine c_body rfl rfl ?_
  show wB Γ (d + 2) m__law_is_fact [some v] st _
  unfold m__law_is_fact
  have q0 := q st (Ext.refl wf)
  refine b_cons' (S_iff (t_or' (t_not' (t_e (fun _ _ _ => rfl) (e_bi (a_cons (e_var rfl (a_nil (rs_of (isi_tup h.g1) ⟨_, rfl, fun hk => ?_, fun hk => ⟨fun _ => ?_, fun z => by cases z⟩⟩)))))))))
  · obtain ⟨xs, rfl⟩ := tup_of (v := v) (by simpa using hk)
    refine t_or' (t_e (fun _ _ _ => rfl) (e_cmp (e_bi (a_cons (e_var rfl (a_nil (rs_of (len_tup _) (e_lit (rs_of (ne_int _ _) ⟨_, rfl, fun hk => ?_, fun hk => ⟨fun _ => ?_, fun z => by cases z⟩⟩)))))))))
    · obtain ⟨a, x, t, e⟩ := three_of (v := .tup xs) (by simpa [isTupN] using hk)
      cases e
      have ga := (h.mem (x := a) (by simp)).g1
      have gx := (h.mem (x := x) (by simp)).g1
      have gt := h.mem (x := t) (by simp)
      rw [fact3] at q q0
      refine t_not' (t_e (fun _ _ _ => rfl) (e_call (a_cons (e_idx (e_var rfl (e_lit (rs_of (ix1 _ _ _) (a_nil (law_number_ok gx ⟨_, rfl, fun hx => ?_, fun hx => b_nil' ?_⟩)))))))))
      · have hx' : isCountV x = false := by simpa using hx
        refine b_cons' (S_ret (e_lit (leaf q0 ?_)))
        rw [hx', Bool.false_and]
      have hx' : isCountV x = true := by simpa using hx
      rw [hx', Bool.true_and] at q q0
      refine b_cons' (S_iff (t_e (fun _ _ _ => rfl) (e_cmp (e_idx (e_var rfl (e_lit (rs_of (ix0 _ _) (e_lit (rs_of (eq_gs ga) ⟨_, rfl, fun h3 => ?_, fun h3 => b_nil' ?_⟩)))))))))
      · rw [h3, cond_true] at q
        refine b_cons' (S_ret (e_cmp (e_idx (e_var rfl (e_lit (rs_of (ix2 _ _ _ _) (e_mk (l_lst ?_))))))))
        refine a_cons (e_lit (a_cons (e_lit (a_cons (e_lit (a_cons (e_lit (a_cons (e_lit (a_cons (e_lit (a_cons (e_lit (a_cons (e_lit (a_nil ⟨by decide, rs_of (newL_add (by decide)) ?_⟩))))))))))))))))
        have e1 := Ext.add wf (.lst (EK.map MV.str))
        refine rs_of (in_lst_g (z := "none") (zs := ["bit", "err", "fun", "obj", "num", "txt", "name"]) (gt.g1.ext e1) (get_new wf _)) ?_
        refine leaf (q _ e1) ?_
        exact (kind8 t).symm
      rw [h3, cond_false] at q q0
      refine b_cons' (S_iff (t_e (fun _ _ _ => rfl) (e_cmp (e_idx (e_var rfl (e_lit (rs_of (ix0 _ _) (e_lit (rs_of (eq_gs ga) ⟨_, rfl, fun h4 => ?_, fun h4 => b_nil' ?_⟩)))))))))
      · rw [h4, cond_true] at q
        exact b_cons' (S_ret (e_call (a_cons (e_idx (e_var rfl (e_lit (rs_of (ix2 _ _ _ _) (a_nil (law_mark_ok wf gt q)))))))))
      rw [h4, cond_false] at q q0
      refine b_cons' (S_iff (t_e (fun _ _ _ => rfl) (e_cmp (e_idx (e_var rfl (e_lit (rs_of (ix0 _ _) (e_lit (rs_of (eq_gs ga) ⟨_, rfl, fun h5 => ?_, fun h5 => b_nil' ?_⟩)))))))))
      · rw [h5, cond_true] at q
        exact b_cons' (S_ret (e_call (a_cons (e_idx (e_var rfl (e_lit (rs_of (ix2 _ _ _ _) (a_nil (law_shape_ok wf gt q)))))))))
      rw [h5, cond_false] at q q0
      refine b_cons' (S_ret (e_and (e_cmp (e_idx (e_var rfl (e_lit (rs_of (ix0 _ _) (e_mk (l_lst (a_cons (e_lit (a_cons (e_lit (a_nil ⟨by decide, rs_of (newL_add (by decide)) ?_⟩))))))))))))))
      have e1 := Ext.add wf (.lst [.str "same", .str "unlike"])
      have ea : ((["same", "unlike"] : List Str).any fun z => eqS a z) = (eqS a "same" || eqS a "unlike") := by
        rw [List.any_cons, List.any_cons, List.any_nil, Bool.or_false]
      refine rs_of (in_lst_g (z := "same") (zs := ["unlike"]) (ga.ext e1) (get_new wf _)) ⟨_, rfl, fun h6 => ?_, fun h6 => ?_⟩
      · have h6' : (eqS a "same" || eqS a "unlike") = true := ea.symm.trans h6
        have q1 := q _ e1
        rw [h6', Bool.true_and] at q1
        exact e_call (a_cons (e_idx (e_var rfl (e_lit (rs_of (ix2 _ _ _ _) (a_nil (law_number_ok (gt.g1.ext e1) q1)))))))
      · have h6' : (eqS a "same" || eqS a "unlike") = false := ea.symm.trans h6
        refine leaf (q _ e1) ?_
        rw [h6', Bool.false_and]
    · refine b_cons' (S_ret (e_lit (leaf q0 ?_)))
      exact fact_no (by simpa [isTupN] using hk)
  · refine b_cons' (S_ret (e_lit (leaf q0 ?_)))
    cases v with
    | tup xs => cases hk
    | _ => rfl
/-! ### watched facts -/
def watchA (v : MV) : Bool := match v with
  | .tup [a, b, c] => isWordV b && ((eqS a "holds" && shapeA c) || (eqS a "global" && markL c))
  | .tup [a, b, c, e] => eqS a "slot" && (isWordV b && (isWordV c && markL e))
  | _ => false
theorem watch3 (a b c : MV) : watchA (.tup [a, b, c]) = (isWordV b && ((eqS a "holds" && shapeA c) || (eqS a "global" && markL c))) := rfl
theorem watch4 (a b c e : MV) : watchA (.tup [a, b, c, e]) = (eqS a "slot" && (isWordV b && (isWordV c && markL e))) := rfl
theorem watch_no {xs : List MV} (h3 : xs.length ≠ 3) (h4 : xs.length ≠ 4) : watchA (.tup xs) = false := by
  match xs, h3, h4 with
  | [], _, _ => rfl
  | [a], _, _ => rfl
  | [a, b], _, _ => rfl
  | [a, b, c], h, _ => exact absurd rfl h
  | [a, b, c, e], _, h => exact absurd rfl h
  | a :: b :: c :: e :: f :: r, _, _ => rfl
theorem len3 {xs : List MV} (h : xs.length = 3) : ∃ a b c, xs = [a, b, c] := by
  match xs, h with
  | [a, b, c], _ => exact ⟨a, b, c, rfl⟩
theorem len4 {xs : List MV} (h : xs.length = 4) : ∃ a b c e, xs = [a, b, c, e] := by
  match xs, h with
  | [a, b, c, e], _ => exact ⟨a, b, c, e, rfl⟩
theorem eqS_two {v : MV} {y z : Str} (h : eqS v y = true) (e : (z == y) = false) : eqS v z = false := by
  cases v with
  | str x =>
    have : y = x := eq_of_beq h
    subst this
    exact e
  | _ => rfl
def WW : List Str := ["global", "holds", "slot"]
theorem ok_WW : ∀ x ∈ WW, PyData.strOk x = true := by decide +kernel
theorem ww_any {a : MV} : (WW.any fun z => eqS a z) = (eqS a "global" || (eqS a "holds" || eqS a "slot")) := by
  show ((["global", "holds", "slot"] : List Str).any fun z => eqS a z) = _
  rw [List.any_cons, List.any_cons, List.any_cons, List.any_nil, Bool.or_false]
theorem watch_str {a : MV} {r : List MV} (h : isStr a = false) : watchA (.tup (a :: r)) = false := by
  match r with
  | [] => rfl
  | [b] => rfl
  | [b, c] => rw [watch3, eqS_str h, eqS_str h, Bool.false_and, Bool.false_and, Bool.or_false, Bool.and_false]
  | [b, c, e] => rw [watch4, eqS_str h, Bool.false_and]
  | b :: c :: e :: f :: r => rfl
theorem is_watched_ok {c r : Nat} {v : MV} (S : Sig st c r) (h : GG st v) (q : Q (.bl (watchA v)) st) : wC Γ (d + 3) 10 [.ref c, v] st Q := by
  refine c_body rfl rfl ?_
  show wB Γ (d + 3) m_is_watched [some (.ref c), some v] st _
  unfold m_is_watched
  refine b_cons' (S_iff (t_or' (t_not' (t_e (fun _ _ _ => rfl) (e_bi (a_cons (e_var rfl (a_nil (rs_of (isi_tup h.g1) ⟨_, rfl, fun hk => ?_, fun hk => ⟨fun _ => ?_, fun z => by cases z⟩⟩)))))))))
  · obtain ⟨xs, rfl⟩ := tup_of (v := v) (by simpa using hk)
    refine t_or' (t_e (fun _ _ _ => rfl) (e_cmp (e_var rfl (e_tup (a_nil (rs_of (newT_tup (Nat.zero_le _)) (rs_of (eq_nil _) ⟨_, rfl, fun hk => ?_, fun hk => ⟨fun _ => ?_, fun z => by cases z⟩⟩)))))))
    · match xs, hk with
      | a :: t, _ =>
      have ga := (h.mem (x := a) (by simp)).g1
      refine t_not' (t_e (fun _ _ _ => rfl) (e_bi (a_cons (e_idx (e_var rfl (e_lit (rs_of (ix0 _ _) (a_nil (rs_of (isi_str ga) ⟨_, rfl, fun hs => ?_, fun hs => b_nil' ?_⟩)))))))))
      · refine b_cons' (S_ret (e_lit (leaf q ?_)))
        exact watch_str (by simpa using hs)
      have hs' : isStr a = true := by simpa using hs
      obtain ⟨w, rfl⟩ := str_of hs'
      have hw : Txt0 w := by cases ga with | str h => exact h
      refine b_cons' (S_iff (t_e (fun _ _ _ => rfl) (e_cmp (e_idx (e_var rfl (e_lit (rs_of (ix0 _ _) (e_lit (rs_of (eq_gs ga) ⟨_, rfl, fun h1 => ?_, fun h1 => b_nil' ?_⟩)))))))))
      · have n1 : eqS (.str w) "holds" = false := eqS_two h1 (by decide +kernel)
        have n2 : eqS (.str w) "global" = false := eqS_two h1 (by decide +kernel)
        refine b_cons' (S_ret (e_and (e_cmp (e_bi (a_cons (e_var rfl (a_nil (rs_of (len_tup _) (e_lit (rs_of (eq_int _ _) ⟨_, rfl, fun h2 => ?_, fun h2 => ?_⟩))))))))))
        · rw [le4] at h2
          obtain ⟨a, b, x, e, e0⟩ := len4 (eq_of_beq h2)
          cases e0
          have gb := (h.mem (x := b) (by simp)).g1
          have gc := (h.mem (x := x) (by simp)).g1
          have ge := h.mem (x := e) (by simp)
          rw [watch4, h1, Bool.true_and] at q
          refine e_and (e_call (a_cons (e_idx (e_var rfl (e_lit (rs_of (ix1 _ _ _) (a_nil (is_word_ok gb.ask ⟨_, rfl, fun h3 => ?_, fun h3 => ?_⟩))))))))
          · rw [h3, Bool.true_and] at q
            refine e_and (e_call (a_cons (e_idx (e_var rfl (e_lit (rs_of (ix2 _ _ _ _) (a_nil (is_word_ok gc.ask ⟨_, rfl, fun h4 => ?_, fun h4 => ?_⟩))))))))
            · rw [h4, Bool.true_and, ← mark_eq] at q
              exact e_call (a_cons (e_var rfl (a_cons (e_idx (e_var rfl (e_lit (rs_of (ix3 _ _ _ _ _) (a_nil (is_mark_ok S ge q)))))))))
            · rw [h4, Bool.false_and] at q
              exact q
          · rw [h3, Bool.false_and] at q
            exact q
        · rw [le4] at h2
          refine leaf q ?_
          match t, h2 with
          | [], _ => rfl
          | [b], _ => rfl
          | [b, c], _ => rw [watch3, n1, n2, Bool.false_and, Bool.false_and, Bool.or_false, Bool.and_false]
          | [b, c, e], h2 => cases h2
          | b :: c :: e :: f :: r, _ => rfl
      refine b_cons' (S_iff (t_or' (t_e (fun _ _ _ => rfl) (e_cmp (e_bi (a_cons (e_var rfl (a_nil (rs_of (len_tup _) (e_lit (rs_of (ne_int _ _) ⟨_, rfl, fun h2 => ?_, fun h2 => ⟨fun _ => ?_, fun z => by cases z⟩⟩)))))))))))
      · rw [le3] at h2
        obtain ⟨a, b, x, e0⟩ := len3 (eq_of_beq (show ((MV.str w :: t).length == 3) = true by simpa using h2))
        cases e0
        have gb := (h.mem (x := b) (by simp)).g1
        have gc := h.mem (x := x) (by simp)
        rw [watch3] at q
        refine t_or' (t_e (fun _ _ _ => rfl) (e_cmp (e_idx (e_var rfl (e_lit (rs_of (ix0 _ _) (e_lit (rs_of (notin_tup (xs := WW) hw.2 ok_WW) ⟨_, rfl, fun h3 => ?_, fun h3 => ⟨fun _ => ?_, fun z => by cases z⟩⟩))))))))
        · have h3' : (WW.any fun z => eqS (.str w) z) = true := by simpa [any_eq] using h3
          rw [ww_any, h1, Bool.or_false] at h3'
          refine t_not' (t_e (fun _ _ _ => rfl) (e_call (a_cons (e_idx (e_var rfl (e_lit (rs_of (ix1 _ _ _) (a_nil (is_word_ok gb.ask ⟨_, rfl, fun h4 => ?_, fun h4 => b_nil' ?_⟩)))))))))
          · have h4' : isWordV b = false := by simpa using h4
            refine b_cons' (S_ret (e_lit (leaf q ?_)))
            rw [h4', Bool.false_and]
          have h4' : isWordV b = true := by simpa using h4
          rw [h4', Bool.true_and] at q
          refine b_cons' (S_ret (e_ifx (t_e (fun _ _ _ => rfl) (e_cmp (e_idx (e_var rfl (e_lit (rs_of (ix0 _ _) (e_lit (rs_of (eq_gs ga) ⟨_, rfl, fun h5 => ?_, fun h5 => ?_⟩))))))))))
          · have n2 : eqS (.str w) "global" = false := eqS_two h5 (by decide +kernel)
            rw [h5, n2, Bool.true_and, Bool.false_and, Bool.or_false] at q
            exact e_call (a_cons (e_idx (e_var rfl (e_lit (rs_of (ix2 _ _ _ _) (a_nil (shape_ok gc q)))))))
          · rw [h5, Bool.or_false] at h3'
            rw [h5, h3', Bool.true_and, Bool.false_and, Bool.false_or, ← mark_eq] at q
            exact e_call (a_cons (e_var rfl (a_cons (e_idx (e_var rfl (e_lit (rs_of (ix2 _ _ _ _) (a_nil (is_mark_ok S gc q)))))))))
        · have h3' : (WW.any fun z => eqS (.str w) z) = false := by simpa [any_eq] using h3
          rw [ww_any] at h3'
          simp only [Bool.or_eq_false_iff] at h3'
          refine b_cons' (S_ret (e_lit (leaf q ?_)))
          rw [h3'.1, h3'.2.1, Bool.false_and, Bool.false_and, Bool.or_false, Bool.and_false]
      · rw [le3] at h2
        refine b_cons' (S_ret (e_lit (leaf q ?_)))
        match t, h2 with
        | [], _ => rfl
        | [b], _ => rfl
        | [b, c], h2 => cases h2
        | [b, c, e], h2 => rw [watch4, h1, Bool.false_and]
        | b :: c :: e :: f :: r, _ => rfl
    · match xs, hk with
      | [], _ => exact b_cons' (S_ret (e_lit q))
  · refine b_cons' (S_ret (e_lit (leaf q ?_)))
    cases v with
    | tup xs => cases hk
    | _ => rfl
theorem notin34 {n m : Nat} (hm : st.get m = some (.lst [.int 3, .int 4])) : cmpV .notin (.int n) (.ref m) st = .ok (.bl (!((3 : Int) == n || (4 : Int) == n))) st := by
  have e : toD st 66 (.ref m) = some (.list [.int 3, .int 4]) := by
    show (match st.get m with
      | some (.lst xs) => (xs.mapM (toD st 65)).map PyData.list
      | _ => none) = _
    rw [hm]
    rfl
  have e2 : toS st (.ref m) = some (.list [.int 3, .int 4]) := by
    unfold toS
    rw [e]
    show (if SeqAt.shaped (.list [.int 3, .int 4]) = true then some _ else none) = _
    rw [if_pos (by decide +kernel)]
  show okB (MP.inV (.int n) (.ref m) st) (!·) st = _
  unfold MP.inV
  simp only [hm, toS_int, e2]
  show Res.ok (MV.bl (!([PyData.int 3, PyData.int 4]).any fun e => PyData.eqv e (.int n))) st = _
  rw [List.any_cons, List.any_cons, List.any_nil, Bool.or_false, eqv_int, eqv_int]
theorem law_watched_ok {v : MV} (wf : st.wf) (h : GG st v) (q : ∀ st', Ext st st' → Q (.bl (watchA v)) st') : wC Γ (d + 2) 34 [v] st Q := by
  refine c_body rfl rfl ?_
  show wB Γ (d + 2) m__law_is_watched [some v] st _
  unfold m__law_is_watched
  have q0 := q st (Ext.refl wf)
  refine b_cons' (S_iff (t_or' (t_not' (t_e (fun _ _ _ => rfl) (e_bi (a_cons (e_var rfl (a_nil (rs_of (isi_tup h.g1) ⟨_, rfl, fun hk => ?_, fun hk => ⟨fun _ => ?_, fun z => by cases z⟩⟩)))))))))
  · obtain ⟨xs, rfl⟩ := tup_of (v := v) (by simpa using hk)
    refine t_or' (t_e (fun _ _ _ => rfl) (e_cmp (e_bi (a_cons (e_var rfl (a_nil (rs_of (len_tup _) (e_mk (l_lst (a_cons (e_lit (a_cons (e_lit (a_nil ⟨by decide, rs_of (newL_add (by decide)) ?_⟩))))))))))))))
    have e1 := Ext.add wf (.lst [.int 3, .int 4])
    refine rs_of (notin34 (get_new wf _)) ?_
    generalize st.add (.lst [.int 3, .int 4]) = st1 at e1 ⊢
    have q1 := q _ e1
    have h1 := h.ext e1
    have qq : ∀ st', Ext st1 st' → Q (.bl (watchA (.tup xs))) st' := fun st' e => q st' (e1.trans e)
    refine ⟨_, rfl, fun hk => ?_, fun hk => ⟨fun _ => ?_, fun z => by cases z⟩⟩
    · have h34 : xs.length = 3 ∨ xs.length = 4 := by
        simp at hk
        omega
      have h2 : ∃ a b r, xs = a :: b :: r := by
        match xs, h34 with
        | a :: b :: r, _ => exact ⟨a, b, r, rfl⟩
      obtain ⟨a, b, r, rfl⟩ := h2
      have ga := (h1.mem (x := a) (by simp)).g1
      have gb := (h1.mem (x := b) (by simp)).g1
      refine t_not' (t_e (fun _ _ _ => rfl) (e_call (a_cons (e_idx (e_var rfl (e_lit (rs_of (ix1 _ _ _) (a_nil (law_word_ok gb ⟨_, rfl, fun hw => ?_, fun hw => b_nil' ?_⟩)))))))))
      · have hw' : isWordV b = false := by simpa using hw
        refine b_cons' (S_ret (e_lit (leaf q1 ?_)))
        rcases h34 with h34 | h34
        · obtain ⟨a', b', c, e⟩ := len3 h34
          cases e
          rw [watch3, hw', Bool.false_and]
        · obtain ⟨a', b', c, x, e⟩ := len4 h34
          cases e
          rw [watch4, hw', Bool.false_and, Bool.and_false]
      have hw' : isWordV b = true := by simpa using hw
      refine b_cons' (S_iff (t_e (fun _ _ _ => rfl) (e_cmp (e_idx (e_var rfl (e_lit (rs_of (ix0 _ _) (e_lit (rs_of (eq_gs ga) ⟨_, rfl, fun h3 => ?_, fun h3 => b_nil' ?_⟩)))))))))
      · refine b_cons' (S_ret (e_and (e_cmp (e_bi (a_cons (e_var rfl (a_nil (rs_of (len_tup _) (e_lit (rs_of (eq_int _ _) ⟨_, rfl, fun h4 => ?_, fun h4 => ?_⟩))))))))))
        · rw [le4] at h4
          obtain ⟨a', b', c, x, e⟩ := len4 (eq_of_beq h4)
          cases e
          rw [watch4, h3, hw', Bool.true_and, Bool.true_and] at qq q1
          have gc := (h1.mem (x := c) (by simp)).g1
          have gx := h1.mem (x := x) (by simp)
          refine e_and (e_call (a_cons (e_idx (e_var rfl (e_lit (rs_of (ix2 _ _ _ _) (a_nil (law_word_ok gc ⟨_, rfl, fun h5 => ?_, fun h5 => ?_⟩))))))))
          · rw [h5, Bool.true_and] at qq
            exact e_call (a_cons (e_idx (e_var rfl (e_lit (rs_of (ix3 _ _ _ _ _) (a_nil (law_mark_ok e1.wf gx qq)))))))
          · rw [h5, Bool.false_and] at q1
            exact q1
        · rw [le4] at h4
          have l3 : (a :: b :: r).length = 3 := by
            rcases h34 with h | h
            · exact h
            · rw [h] at h4; cases h4
          obtain ⟨a', b', c, e⟩ := len3 l3
          cases e
          refine leaf q1 ?_
          rw [watch3, eqS_two h3 (z := "holds") (by decide +kernel), eqS_two h3 (z := "global") (by decide +kernel), Bool.false_and, Bool.false_and, Bool.or_false, Bool.and_false]
      refine b_cons' (S_iff (t_e (fun _ _ _ => rfl) (e_cmp (e_bi (a_cons (e_var rfl (a_nil (rs_of (len_tup _) (e_lit (rs_of (ne_int _ _) ⟨_, rfl, fun h4 => ?_, fun h4 => b_nil' ?_⟩))))))))))
      · rw [le3] at h4
        have l4 : (a :: b :: r).length = 4 := by
          rcases h34 with h | h
          · rw [h] at h4; cases h4
          · exact h
        obtain ⟨a', b', c, x, e⟩ := len4 l4
        cases e
        refine b_cons' (S_ret (e_lit (leaf q1 ?_)))
        rw [watch4, h3, Bool.false_and]
      rw [le3] at h4
      obtain ⟨a', b', c, e⟩ := len3 (eq_of_beq (show ((a :: b :: r).length == 3) = true by simpa using h4))
      cases e
      have gc := h1.mem (x := c) (by simp)
      rw [watch3, hw', Bool.true_and] at qq q1
      refine b_cons' (S_ret (e_or (e_and (e_cmp (e_idx (e_var rfl (e_lit (rs_of (ix0 _ _) (e_lit (rs_of (eq_gs ga) ⟨_, rfl, fun h5 => ?_, fun h5 => ⟨_, rfl, fun _ => ?_, fun z => by cases z⟩⟩))))))))))
      · have n2 : eqS a "global" = false := eqS_two h5 (by decide +kernel)
        refine e_call (a_cons (e_idx (e_var rfl (e_lit (rs_of (ix2 _ _ _ _) (a_nil (law_shape_ok e1.wf gc fun st2 e2 => ⟨_, rfl, fun h6 => ?_, fun h6 => ?_⟩)))))))
        · refine e_and (e_cmp (e_idx (e_var rfl (e_lit (rs_of (ix0 _ _) (e_lit (rs_of (eq_gs (ga.ext e2)) ⟨_, rfl, fun h7 => ?_, fun h7 => ?_⟩)))))))
          · rw [n2] at h7; cases h7
          · refine leaf (qq st2 e2) ?_
            rw [h6, n2, Bool.and_false, Bool.false_and, Bool.or_false]
        · refine leaf (qq st2 e2) ?_
          rw [h6, h5, Bool.true_and, Bool.true_or]
      · refine e_and (e_cmp (e_idx (e_var rfl (e_lit (rs_of (ix0 _ _) (e_lit (rs_of (eq_gs ga) ⟨_, rfl, fun h7 => ?_, fun h7 => ?_⟩)))))))
        · rw [h5, h7, Bool.false_and, Bool.false_or, Bool.true_and] at qq
          exact e_call (a_cons (e_idx (e_var rfl (e_lit (rs_of (ix2 _ _ _ _) (a_nil (law_mark_ok e1.wf gc qq)))))))
        · refine leaf q1 ?_
          rw [h5, h7, Bool.false_and, Bool.false_and, Bool.or_false]
    · refine b_cons' (S_ret (e_lit (leaf q1 ?_)))
      have h34 : xs.length ≠ 3 ∧ xs.length ≠ 4 := by
        simp at hk
        omega
      exact watch_no h34.1 h34.2
  · refine b_cons' (S_ret (e_lit (leaf q0 ?_)))
    cases v with
    | tup xs => cases hk
    | _ => rfl
end K45

set_option Elab.async false
set_option linter.all false
set_option maxRecDepth 100000
set_option maxHeartbeats 2000000
namespace K45
open PySem L2 MP
variable {d : Nat} {st st' : Store} {Q : MV → Store → Prop} {s g : Nat}
/-! ### the signature: run once -/
def sigChk (r : Res MV) : Bool := match r with
  | .ok (.ref c) st => (decide (3 ≤ c) && decide (c < st.next)) && (match st.get c with
    | some (.ins 0 [(k1, .ref r), (k2, p)]) => (k1 == ("kind_row" : Str) && k2 == ("primitive_rows" : Str)) && ((decide (3 ≤ r) && decide (r < st.next)) && (match st.get r with
      | some (.lst [.str x, .str y, .str z]) => x == ("num" : Str) && (y == ("txt" : Str) && z == ("name" : Str))
      | _ => false))
    | _ => false)
  | _ => false
theorem sig_run : sigChk (callB (ev Γ 300 19) ⟨0, 2, m__law_signature⟩ [] ⟨3, .nil⟩) = true := by decide +kernel
theorem sig_c (wf : st.wf) (h3 : st.next = 3) (q : ∀ c r st', 3 ≤ c → 3 ≤ r → Sig st' c r → Ext st st' → Q (.ref c) st') : wC Γ 19 25 [] st Q := by
  have h := sig_run
  cases hr : callB (ev Γ 300 19) ⟨0, 2, m__law_signature⟩ [] ⟨3, .nil⟩ with
  | stuck => rw [hr] at h; cases h
  | ok v s1 =>
    rw [hr] at h
    refine ⟨_, rfl, (call_mono wf h3 hr).mono fun u st' ⟨e, w', nx, le, lo, hi⟩ => ?_⟩
    subst e
    cases u with
    | ref c =>
      have h' : ((decide (3 ≤ c) && decide (c < s1.next)) && (match s1.get c with
        | some (.ins 0 [(k1, .ref r), (k2, p)]) => (k1 == ("kind_row" : Str) && k2 == ("primitive_rows" : Str)) && ((decide (3 ≤ r) && decide (r < s1.next)) && (match s1.get r with
          | some (.lst [.str x, .str y, .str z]) => x == ("num" : Str) && (y == ("txt" : Str) && z == ("name" : Str))
          | _ => false))
        | _ => false)) = true := h
      rw [Bool.and_eq_true, Bool.and_eq_true, decide_eq_true_eq, decide_eq_true_eq] at h'
      obtain ⟨⟨h1, h2⟩, h4⟩ := h'
      split at h4
      · rename_i k1 r k2 p e1
        rw [Bool.and_eq_true, Bool.and_eq_true, Bool.and_eq_true, Bool.and_eq_true, decide_eq_true_eq, decide_eq_true_eq] at h4
        obtain ⟨⟨hk1, hk2⟩, ⟨h5, h6⟩, h7⟩ := h4
        split at h7
        · rename_i x y z e2
          rw [Bool.and_eq_true, Bool.and_eq_true] at h7
          obtain ⟨hx, hy, hz⟩ := h7
          have := eq_of_beq hk1; subst this
          have := eq_of_beq hk2; subst this
          have := eq_of_beq hx; subst this
          have := eq_of_beq hy; subst this
          have := eq_of_beq hz; subst this
          refine q c r st' h1 h5 ⟨by omega, by omega, ⟨p, (hi c h1 h2).trans e1⟩, (hi r h5 h6).trans e2⟩ ⟨w', by omega, fun n hn => lo n (by omega)⟩
        · cases h7
      · cases h4
    | _ => cases h
/-! ### picks -/
theorem pick_c {many : Int} (h : Src st s g) (h0 : 0 < many) (h1 : many < 1000) (q : ∀ r st', 0 ≤ r → r < many → Src st' s g → Fr s g st st' → Q (.int r) st') : wC Γ d 23 [.ref s, .int many] st Q := by
  refine c_body rfl rfl ?_
  have e := pick_ok (Γ := Γ) (d := d) h h0 h1
  show wB Γ d pickBody [some (.ref s), some (.int many), none, none, none, none] st _
  refine e.mono fun r st' hq => ?_
  obtain ⟨fl, env⟩ := r
  cases fl with
  | nx => obtain ⟨r, e, _⟩ := (show ∃ r : Int, MV.non = .int r ∧ _ from hq); cases e
  | rt v =>
    obtain ⟨r, rfl, h0, h1, h2, h3⟩ := (show ∃ r : Int, v = .int r ∧ 0 ≤ r ∧ r < many ∧ Src st' s g ∧ Fr s g st st' from hq)
    exact q r st' h0 h1 h2 h3
  | bk => exact (show False from hq).elim
  | ct => exact (show False from hq).elim
theorem of_c {n : Nat} {xs : List MV} (h : Src st s g) (hl : n < st.next) (hs : n ≠ s) (hg : n ≠ g) (hn : st.get n = some (.lst xs)) (h0 : xs ≠ []) (h1 : xs.length < 1000) (q : ∀ v st', v ∈ xs → Src st' s g → Fr s g st st' → Q v st') : wC Γ (d + 1) 24 [.ref s, .ref n] st Q := by
  refine c_body rfl rfl ?_
  show wB Γ (d + 1) m__law_one_of [some (.ref s), some (.ref n)] st _
  unfold m__law_one_of
  refine b_cons' (S_ret (e_idx (e_var rfl (e_call (a_cons (e_var rfl (a_cons (e_bi (a_cons (e_var rfl (a_nil (rs_of (len_ref hn) (a_nil ?_)))))))))))))
  have hp : 0 < xs.length := List.length_pos_iff.mpr h0
  refine pick_c h (by omega) (by omega) fun r st' h0 h1 h2 h3 => ?_
  obtain ⟨v, hv, e⟩ := idx_lst (st := st') ((h3.kp n hl hs hg).trans hn) h0 h1
  exact rs_of e (q v st' hv h2 h3)
/-- from a list that is new -/
theorem of_new {xs : List MV} (h : Src st s g) (h0 : xs ≠ []) (h1 : xs.length < 1000) (q : ∀ v st', v ∈ xs → Src st' s g → Fr s g st st' → Q v st') : wC Γ (d + 1) 24 [.ref s, .ref st.next] (st.add (.lst xs)) Q :=
  of_c (h.add _) (Nat.lt_succ_self _) h.ne.1 h.ne.2 (get_new h.wf _) h0 h1 fun v st' hv hs f => q v st' hv hs ((add_fr h.wf _).trans f)
/-! ### literal values -/
/-- a literal value that is small -/
def litS : Nat → MV → Bool
  | 0, _ => false
  | f + 1, v => match v with
    | .non => true
    | .bl _ => true
    | .int i => decide (i.natAbs < 1000)
    | .str z => decide (z.length ≤ 13) && PyData.strOk z
    | .tup xs => xs.all (litS f)
    | _ => false
/-- a bound of its weight -/
def litW : Nat → MV → Nat
  | 0, _ => 0
  | f + 1, v => match v with
    | .int _ => 10
    | .str _ => 13
    | .tup xs => (xs.map fun x => litW f x + 1).sum
    | _ => 0
theorem lit_sm : ∀ (f : Nat) (v : MV), litS f v = true → Sm s g st f (litW f v) v
  | 0, _, h => nomatch h
  | f + 1, v, h => by
    cases v with
    | non => exact .non _ _
    | bl b => exact .bl _ _ b
    | int i => exact .int _ (of_decide_eq_true h) (Nat.le_refl _)
    | str z =>
      have h' : (decide (z.length ≤ 13) && PyData.strOk z) = true := h
      rw [Bool.and_eq_true, decide_eq_true_eq] at h'
      exact .str _ ⟨h'.1, h'.2⟩ (Nat.le_refl _)
    | tup xs =>
      have h' : xs.all (litS f) = true := h
      rw [List.all_eq_true] at h'
      refine .tup (ps := xs.map fun x => (litW f x, x)) (by rw [List.map_map]; exact (List.map_id xs).symm) (fun p hp => ?_) ?_
      · obtain ⟨x, hx, rfl⟩ := List.mem_map.mp hp
        exact lit_sm f x (h' x hx)
      · show wsum (xs.map fun x => (litW f x, x)) ≤ litW (f + 1) (.tup xs)
        unfold wsum
        rw [List.map_map]
        exact Nat.le_refl _
    | ref n => cases h
    | scr xs => cases h
/-- all of a list of literals are small -/
def litOk (k w : Nat) (xs : List MV) : Bool := xs.all fun v => litS k v && decide (litW k v ≤ w)
theorem lit_all {k w : Nat} {xs : List MV} (h : litOk k w xs = true) {v : MV} (hv : v ∈ xs) : Sm s g st k w v := by
  unfold litOk at h
  rw [List.all_eq_true] at h
  have := h v hv
  rw [Bool.and_eq_true, decide_eq_true_eq] at this
  exact (lit_sm k v this.1).wt this.2
end K45

set_option Elab.async false
set_option linter.all false
set_option maxRecDepth 100000
set_option maxHeartbeats 2000000
namespace K45
open PySem L2 MP
variable {d : Nat} {st st' : Store} {Q : MV → Store → Prop} {s g : Nat}
/-- a list of one's own -/
structure Ls (s g : Nat) (st : Store) (n : Nat) (xs : List MV) : Prop where
  lt : n < st.next
  ns : n ≠ s
  ng : n ≠ g
  gt : st.get n = some (.lst xs)
theorem Ls.fr {n : Nat} {xs : List MV} (f : Fr s g st st') (h : Ls s g st n xs) : Ls s g st' n xs := ⟨Nat.lt_of_lt_of_le h.lt f.le, h.ns, h.ng, (f.kp n h.lt h.ns h.ng).trans h.gt⟩
theorem ls_new (h : Src st s g) (xs : List MV) : Ls s g (st.add (.lst xs)) st.next xs := ⟨Nat.lt_succ_self _, h.ne.1, h.ne.2, get_new h.wf _⟩
theorem ls_bin {n m : Nat} {xs ys : List MV} (h1 : Ls s g st n xs) (h2 : Ls s g st m ys) (h : xs.length + ys.length ≤ 1000) : binV .add (.ref n) (.ref m) st = .ok (.ref st.next) (st.add (.lst (xs ++ ys))) := bin_lst h1.gt h2.gt h
theorem mark_c (h : Src st s g) (q : ∀ v st', Sm s g st' 2 60 v → Src st' s g → Fr s g st st' → Q v st') : wC Γ (d + 2) 26 [.ref s] st Q := by
  refine c_body rfl rfl ?_
  show wB Γ (d + 2) m__law_mark [some (.ref s), none] st _
  unfold m__law_mark
  repeat' (first | refine rs_of (newT_tup (by decide)) ?_ | refine rs_of (newL_add (by decide)) ?_ | refine b_cons' ?_ | refine b_nil' ?_ | refine S_set ?_ | refine S_iff ?_ | refine S_ret ?_ | refine S_expr ?_ | refine S_put ?_ | refine S_par ?_ | refine S_for ?_ | refine e_lit ?_ | refine e_var rfl ?_ | refine e_bin ?_ | refine e_cmp ?_ | refine e_cmpL ?_ | refine e_isN ?_ | refine e_isB ?_ | refine e_and ?_ | refine e_or ?_ | refine e_not ?_ | refine e_ifx ?_ | refine e_idx ?_ | refine e_slc ?_ | refine e_tup ?_ | refine e_mk ?_ | refine e_dic (by decide) ?_ | refine e_call ?_ | refine e_bi ?_ | refine e_all ?_ | refine e_any ?_ | refine e_join ?_ | refine e_neg ?_ | refine e_meth ?_ | refine e_fld ?_ | refine e_chain ?_ | refine t_and' ?_ | refine t_or' ?_ | refine t_not' ?_ | refine t_e (fun _ _ _ => rfl) ?_ | refine a_nil ?_ | refine a_cons ?_ | refine p_nil' ?_ | refine p_cons' ?_ | refine o_none' ?_ | refine o_some' ?_ | refine l_lst ?_ | refine l_comp ?_ | refine l_val (fun _ _ _ => rfl) ?_ | refine i_seq' ?_ | refine i_tmp' ?_ | refine i_rng ?_ | refine ts_nil' ?_ | refine ts_one' ?_ | refine Rs.ok ?_ | refine And.intro (by decide) ?_)
  refine rs_of (ls_bin ((ls_new h _).fr (add_fr (h.add _).wf _)) (ls_new (h.add _) _) (by decide)) ?_
  have h2 := (h.add (.lst [.tup [.str "none"], .tup [.str "bit", .str "yes"], .tup [.str "bit", .str "no"], .tup [.str "tok", .str "num", .int 0], .tup [.str "tok", .str "num", .int 1], .tup [.str "tok", .str "txt", .int 0]])).add (.lst [.tup [.str "err", .str "e0"], .tup [.str "err", .str "other0"], .tup [.str "fun", .str "f0"], .tup [.str "name", .str "a"], .tup [.str "name", .str "a"], .tup [.str "name", .str "b"]])
  have f2 := (add_fr h.wf (.lst [.tup [.str "none"], .tup [.str "bit", .str "yes"], .tup [.str "bit", .str "no"], .tup [.str "tok", .str "num", .int 0], .tup [.str "tok", .str "num", .int 1], .tup [.str "tok", .str "txt", .int 0]])).trans (add_fr (s := s) (g := g) (h.add _).wf (.lst [.tup [.str "err", .str "e0"], .tup [.str "err", .str "other0"], .tup [.str "fun", .str "f0"], .tup [.str "name", .str "a"], .tup [.str "name", .str "a"], .tup [.str "name", .str "b"]]))
  generalize ((st.add _).add _) = st2 at h2 f2 ⊢
  repeat' (first | refine rs_of (newT_tup (by decide)) ?_ | refine rs_of (newL_add (by decide)) ?_ | refine b_cons' ?_ | refine b_nil' ?_ | refine S_set ?_ | refine S_iff ?_ | refine S_ret ?_ | refine S_expr ?_ | refine S_put ?_ | refine S_par ?_ | refine S_for ?_ | refine e_lit ?_ | refine e_var rfl ?_ | refine e_bin ?_ | refine e_cmp ?_ | refine e_cmpL ?_ | refine e_isN ?_ | refine e_isB ?_ | refine e_and ?_ | refine e_or ?_ | refine e_not ?_ | refine e_ifx ?_ | refine e_idx ?_ | refine e_slc ?_ | refine e_tup ?_ | refine e_mk ?_ | refine e_dic (by decide) ?_ | refine e_call ?_ | refine e_bi ?_ | refine e_all ?_ | refine e_any ?_ | refine e_join ?_ | refine e_neg ?_ | refine e_meth ?_ | refine e_fld ?_ | refine e_chain ?_ | refine t_and' ?_ | refine t_or' ?_ | refine t_not' ?_ | refine t_e (fun _ _ _ => rfl) ?_ | refine a_nil ?_ | refine a_cons ?_ | refine p_nil' ?_ | refine p_cons' ?_ | refine o_none' ?_ | refine o_some' ?_ | refine l_lst ?_ | refine l_comp ?_ | refine l_val (fun _ _ _ => rfl) ?_ | refine i_seq' ?_ | refine i_tmp' ?_ | refine i_rng ?_ | refine ts_nil' ?_ | refine ts_one' ?_ | refine Rs.ok ?_ | refine And.intro (by decide) ?_)
  refine rs_of (ls_bin ((ls_new h2 _).fr (add_fr (h2.add _).wf _)) (ls_new (h2.add _) _) (by decide)) ?_
  have h4 := fun X Y => (h2.add (.lst X)).add (.lst Y)
  have f4 := fun X Y => (add_fr h2.wf (.lst X)).trans (add_fr (s := s) (g := g) (h2.add _).wf (.lst Y))
  repeat' (first | refine rs_of (newT_tup (by decide)) ?_ | refine rs_of (newL_add (by decide)) ?_ | refine b_cons' ?_ | refine b_nil' ?_ | refine S_set ?_ | refine S_iff ?_ | refine S_ret ?_ | refine S_expr ?_ | refine S_put ?_ | refine S_par ?_ | refine S_for ?_ | refine e_lit ?_ | refine e_var rfl ?_ | refine e_bin ?_ | refine e_cmp ?_ | refine e_cmpL ?_ | refine e_isN ?_ | refine e_isB ?_ | refine e_and ?_ | refine e_or ?_ | refine e_not ?_ | refine e_ifx ?_ | refine e_idx ?_ | refine e_slc ?_ | refine e_tup ?_ | refine e_mk ?_ | refine e_dic (by decide) ?_ | refine e_call ?_ | refine e_bi ?_ | refine e_all ?_ | refine e_any ?_ | refine e_join ?_ | refine e_neg ?_ | refine e_meth ?_ | refine e_fld ?_ | refine e_chain ?_ | refine t_and' ?_ | refine t_or' ?_ | refine t_not' ?_ | refine t_e (fun _ _ _ => rfl) ?_ | refine a_nil ?_ | refine a_cons ?_ | refine p_nil' ?_ | refine p_cons' ?_ | refine o_none' ?_ | refine o_some' ?_ | refine l_lst ?_ | refine l_comp ?_ | refine l_val (fun _ _ _ => rfl) ?_ | refine i_seq' ?_ | refine i_tmp' ?_ | refine i_rng ?_ | refine ts_nil' ?_ | refine ts_one' ?_ | refine Rs.ok ?_ | refine And.intro (by decide) ?_)
  refine of_new (h4 _ _) (by simp) (by simp) fun v st5 hv h5 f5 => ?_
  exact q v st5 (lit_all (by decide +kernel) hv) h5 ((f2.trans (f4 _ _)).trans f5)
/-- a number that is small -/
theorem sm_int {r : Int} {k : Nat} (h0 : 0 ≤ r) (h1 : r < 1000) : Sm s g st k 10 (.int r) := .int _ (by omega) (Nat.le_refl _)
theorem shape_c (h : Src st s g) (q : ∀ v st', Sm s g st' 3 60 v → Src st' s g → Fr s g st st' → Q v st') : wC Γ (d + 2) 27 [.ref s] st Q := by
  refine c_body rfl rfl ?_
  show wB Γ (d + 2) m__law_shape [some (.ref s), none] st _
  unfold m__law_shape
  repeat' (first | refine rs_of (newT_tup (by decide)) ?_ | refine rs_of (newL_add (by decide)) ?_ | refine b_cons' ?_ | refine b_nil' ?_ | refine S_set ?_ | refine S_iff ?_ | refine S_ret ?_ | refine S_expr ?_ | refine S_put ?_ | refine S_par ?_ | refine S_for ?_ | refine e_lit ?_ | refine e_var rfl ?_ | refine e_bin ?_ | refine e_cmp ?_ | refine e_cmpL ?_ | refine e_isN ?_ | refine e_isB ?_ | refine e_and ?_ | refine e_or ?_ | refine e_not ?_ | refine e_ifx ?_ | refine e_idx ?_ | refine e_slc ?_ | refine e_tup ?_ | refine e_mk ?_ | refine e_dic (by decide) ?_ | refine e_call ?_ | refine e_bi ?_ | refine e_all ?_ | refine e_any ?_ | refine e_join ?_ | refine e_neg ?_ | refine e_meth ?_ | refine e_fld ?_ | refine e_chain ?_ | refine t_and' ?_ | refine t_or' ?_ | refine t_not' ?_ | refine t_e (fun _ _ _ => rfl) ?_ | refine a_nil ?_ | refine a_cons ?_ | refine p_nil' ?_ | refine p_cons' ?_ | refine o_none' ?_ | refine o_some' ?_ | refine l_lst ?_ | refine l_comp ?_ | refine l_val (fun _ _ _ => rfl) ?_ | refine i_seq' ?_ | refine i_tmp' ?_ | refine i_rng ?_ | refine ts_nil' ?_ | refine ts_one' ?_ | refine Rs.ok ?_ | refine And.intro (by decide) ?_)
  refine of_new h (by simp) (by simp) fun v st1 hv h1 f1 => ?_
  repeat' (first | refine rs_of (newT_tup (by decide)) ?_ | refine rs_of (newL_add (by decide)) ?_ | refine b_cons' ?_ | refine b_nil' ?_ | refine S_set ?_ | refine S_iff ?_ | refine S_ret ?_ | refine S_expr ?_ | refine S_put ?_ | refine S_par ?_ | refine S_for ?_ | refine e_lit ?_ | refine e_var rfl ?_ | refine e_bin ?_ | refine e_cmp ?_ | refine e_cmpL ?_ | refine e_isN ?_ | refine e_isB ?_ | refine e_and ?_ | refine e_or ?_ | refine e_not ?_ | refine e_ifx ?_ | refine e_idx ?_ | refine e_slc ?_ | refine e_tup ?_ | refine e_mk ?_ | refine e_dic (by decide) ?_ | refine e_call ?_ | refine e_bi ?_ | refine e_all ?_ | refine e_any ?_ | refine e_join ?_ | refine e_neg ?_ | refine e_meth ?_ | refine e_fld ?_ | refine e_chain ?_ | refine t_and' ?_ | refine t_or' ?_ | refine t_not' ?_ | refine t_e (fun _ _ _ => rfl) ?_ | refine a_nil ?_ | refine a_cons ?_ | refine p_nil' ?_ | refine p_cons' ?_ | refine o_none' ?_ | refine o_some' ?_ | refine l_lst ?_ | refine l_comp ?_ | refine l_val (fun _ _ _ => rfl) ?_ | refine i_seq' ?_ | refine i_tmp' ?_ | refine i_rng ?_ | refine ts_nil' ?_ | refine ts_one' ?_ | refine Rs.ok ?_ | refine And.intro (by decide) ?_)
  refine of_new h1 (by simp) (by simp) fun u st2 hu h2 f2 => ?_
  repeat' (first | refine rs_of (newT_tup (by decide)) ?_ | refine rs_of (newL_add (by decide)) ?_ | refine b_cons' ?_ | refine b_nil' ?_ | refine S_set ?_ | refine S_iff ?_ | refine S_ret ?_ | refine S_expr ?_ | refine S_put ?_ | refine S_par ?_ | refine S_for ?_ | refine e_lit ?_ | refine e_var rfl ?_ | refine e_bin ?_ | refine e_cmp ?_ | refine e_cmpL ?_ | refine e_isN ?_ | refine e_isB ?_ | refine e_and ?_ | refine e_or ?_ | refine e_not ?_ | refine e_ifx ?_ | refine e_idx ?_ | refine e_slc ?_ | refine e_tup ?_ | refine e_mk ?_ | refine e_dic (by decide) ?_ | refine e_call ?_ | refine e_bi ?_ | refine e_all ?_ | refine e_any ?_ | refine e_join ?_ | refine e_neg ?_ | refine e_meth ?_ | refine e_fld ?_ | refine e_chain ?_ | refine t_and' ?_ | refine t_or' ?_ | refine t_not' ?_ | refine t_e (fun _ _ _ => rfl) ?_ | refine a_nil ?_ | refine a_cons ?_ | refine p_nil' ?_ | refine p_cons' ?_ | refine o_none' ?_ | refine o_some' ?_ | refine l_lst ?_ | refine l_comp ?_ | refine l_val (fun _ _ _ => rfl) ?_ | refine i_seq' ?_ | refine i_tmp' ?_ | refine i_rng ?_ | refine ts_nil' ?_ | refine ts_one' ?_ | refine Rs.ok ?_ | refine And.intro (by decide) ?_)
  have mv : Sm s g st2 2 30 v := lit_all (by decide +kernel) hv
  have mu : Sm s g st2 2 13 u := lit_all (by decide +kernel) hu
  exact q _ st2 ((SmL.tup (SmL.cons mu (SmL.cons mv (SmL.nil _ 0)))).wt (by decide)) h2 (f1.trans f2)
end K45

set_option Elab.async false
set_option linter.all false
set_option maxRecDepth 100000
set_option maxHeartbeats 2000000
namespace K45
open PySem L2 MP
variable {d : Nat} {st st' : Store} {Q : MV → Store → Prop} {s g : Nat}
theorem smS {z : Str} {k : Nat} (h : (decide (z.length ≤ 13) && PyData.strOk z) = true) : Sm s g st k 13 (.str z) := by
  rw [Bool.and_eq_true, decide_eq_true_eq] at h
  exact .str _ h (Nat.le_refl _)
theorem fact_c (h : Src st s g) (q : ∀ xs st', xs ≠ [] → Sm s g st' 4 150 (.tup xs) → Src st' s g → Fr s g st st' → Q (.tup xs) st') : wC Γ (d + 3) 28 [.ref s, .int 9] st Q := by
  refine c_body rfl rfl ?_
  show wB Γ (d + 3) m__law_fact [some (.ref s), some (.int 9), none, none, none] st _
  unfold m__law_fact
  repeat' (first | refine rs_of (newT_tup (by simp only [List.length_cons, List.length_nil] <;> decide)) ?_ | refine rs_of (newL_add (by simp only [List.length_cons, List.length_nil] <;> decide)) ?_ | refine b_cons' ?_ | refine b_nil' ?_ | refine S_set ?_ | refine S_iff ?_ | refine S_ret ?_ | refine S_expr ?_ | refine S_put ?_ | refine S_par ?_ | refine S_par3 ?_ | refine S_for ?_ | refine e_lit ?_ | refine e_var rfl ?_ | refine e_bin ?_ | refine e_cmp ?_ | refine e_cmpL ?_ | refine e_isN ?_ | refine e_isB ?_ | refine e_and ?_ | refine e_or ?_ | refine e_not ?_ | refine e_ifx ?_ | refine e_idx ?_ | refine e_slc ?_ | refine e_tup ?_ | refine e_mk ?_ | refine e_dic (by decide) ?_ | refine e_call ?_ | refine e_bi ?_ | refine e_all ?_ | refine e_any ?_ | refine e_join ?_ | refine e_neg ?_ | refine e_meth ?_ | refine e_fld ?_ | refine e_chain ?_ | refine t_and' ?_ | refine t_or' ?_ | refine t_not' ?_ | refine t_e (fun _ _ _ => rfl) ?_ | refine a_nil ?_ | refine a_cons ?_ | refine p_nil' ?_ | refine p_cons' ?_ | refine o_none' ?_ | refine o_some' ?_ | refine l_lst ?_ | refine l_comp ?_ | refine l_val (fun _ _ _ => rfl) ?_ | refine i_seq' ?_ | refine i_tmp' ?_ | refine i_rng ?_ | refine ts_nil' ?_ | refine ts_one' ?_ | refine Rs.ok ?_ | refine And.intro (by simp only [List.length_cons, List.length_nil] <;> decide) ?_)
  refine pick_c h (by decide) (by decide) fun q1 st1 a0 a1 h1 f1 => ?_
  repeat' (first | refine rs_of (newT_tup (by simp only [List.length_cons, List.length_nil] <;> decide)) ?_ | refine rs_of (newL_add (by simp only [List.length_cons, List.length_nil] <;> decide)) ?_ | refine b_cons' ?_ | refine b_nil' ?_ | refine S_set ?_ | refine S_iff ?_ | refine S_ret ?_ | refine S_expr ?_ | refine S_put ?_ | refine S_par ?_ | refine S_par3 ?_ | refine S_for ?_ | refine e_lit ?_ | refine e_var rfl ?_ | refine e_bin ?_ | refine e_cmp ?_ | refine e_cmpL ?_ | refine e_isN ?_ | refine e_isB ?_ | refine e_and ?_ | refine e_or ?_ | refine e_not ?_ | refine e_ifx ?_ | refine e_idx ?_ | refine e_slc ?_ | refine e_tup ?_ | refine e_mk ?_ | refine e_dic (by decide) ?_ | refine e_call ?_ | refine e_bi ?_ | refine e_all ?_ | refine e_any ?_ | refine e_join ?_ | refine e_neg ?_ | refine e_meth ?_ | refine e_fld ?_ | refine e_chain ?_ | refine t_and' ?_ | refine t_or' ?_ | refine t_not' ?_ | refine t_e (fun _ _ _ => rfl) ?_ | refine a_nil ?_ | refine a_cons ?_ | refine p_nil' ?_ | refine p_cons' ?_ | refine o_none' ?_ | refine o_some' ?_ | refine l_lst ?_ | refine l_comp ?_ | refine l_val (fun _ _ _ => rfl) ?_ | refine i_seq' ?_ | refine i_tmp' ?_ | refine i_rng ?_ | refine ts_nil' ?_ | refine ts_one' ?_ | refine Rs.ok ?_ | refine And.intro (by simp only [List.length_cons, List.length_nil] <;> decide) ?_)
  refine pick_c h1 (by decide) (by decide) fun t1 st2 b0 b1 h2 f2 => ?_
  repeat' (first | refine rs_of (newT_tup (by simp only [List.length_cons, List.length_nil] <;> decide)) ?_ | refine rs_of (newL_add (by simp only [List.length_cons, List.length_nil] <;> decide)) ?_ | refine b_cons' ?_ | refine b_nil' ?_ | refine S_set ?_ | refine S_iff ?_ | refine S_ret ?_ | refine S_expr ?_ | refine S_put ?_ | refine S_par ?_ | refine S_par3 ?_ | refine S_for ?_ | refine e_lit ?_ | refine e_var rfl ?_ | refine e_bin ?_ | refine e_cmp ?_ | refine e_cmpL ?_ | refine e_isN ?_ | refine e_isB ?_ | refine e_and ?_ | refine e_or ?_ | refine e_not ?_ | refine e_ifx ?_ | refine e_idx ?_ | refine e_slc ?_ | refine e_tup ?_ | refine e_mk ?_ | refine e_dic (by decide) ?_ | refine e_call ?_ | refine e_bi ?_ | refine e_all ?_ | refine e_any ?_ | refine e_join ?_ | refine e_neg ?_ | refine e_meth ?_ | refine e_fld ?_ | refine e_chain ?_ | refine t_and' ?_ | refine t_or' ?_ | refine t_not' ?_ | refine t_e (fun _ _ _ => rfl) ?_ | refine a_nil ?_ | refine a_cons ?_ | refine p_nil' ?_ | refine p_cons' ?_ | refine o_none' ?_ | refine o_some' ?_ | refine l_lst ?_ | refine l_comp ?_ | refine l_val (fun _ _ _ => rfl) ?_ | refine i_seq' ?_ | refine i_tmp' ?_ | refine i_rng ?_ | refine ts_nil' ?_ | refine ts_one' ?_ | refine Rs.ok ?_ | refine And.intro (by simp only [List.length_cons, List.length_nil] <;> decide) ?_)
  refine pick_c h2 (by decide) (by decide) fun way st3 c0 c1 h3 f3 => ?_
  repeat' (first | refine rs_of (newT_tup (by simp only [List.length_cons, List.length_nil] <;> decide)) ?_ | refine rs_of (newL_add (by simp only [List.length_cons, List.length_nil] <;> decide)) ?_ | refine b_cons' ?_ | refine b_nil' ?_ | refine S_set ?_ | refine S_iff ?_ | refine S_ret ?_ | refine S_expr ?_ | refine S_put ?_ | refine S_par ?_ | refine S_par3 ?_ | refine S_for ?_ | refine e_lit ?_ | refine e_var rfl ?_ | refine e_bin ?_ | refine e_cmp ?_ | refine e_cmpL ?_ | refine e_isN ?_ | refine e_isB ?_ | refine e_and ?_ | refine e_or ?_ | refine e_not ?_ | refine e_ifx ?_ | refine e_idx ?_ | refine e_slc ?_ | refine e_tup ?_ | refine e_mk ?_ | refine e_dic (by decide) ?_ | refine e_call ?_ | refine e_bi ?_ | refine e_all ?_ | refine e_any ?_ | refine e_join ?_ | refine e_neg ?_ | refine e_meth ?_ | refine e_fld ?_ | refine e_chain ?_ | refine t_and' ?_ | refine t_or' ?_ | refine t_not' ?_ | refine t_e (fun _ _ _ => rfl) ?_ | refine a_nil ?_ | refine a_cons ?_ | refine p_nil' ?_ | refine p_cons' ?_ | refine o_none' ?_ | refine o_some' ?_ | refine l_lst ?_ | refine l_comp ?_ | refine l_val (fun _ _ _ => rfl) ?_ | refine i_seq' ?_ | refine i_tmp' ?_ | refine i_rng ?_ | refine ts_nil' ?_ | refine ts_one' ?_ | refine Rs.ok ?_ | refine And.intro (by simp only [List.length_cons, List.length_nil] <;> decide) ?_)
  refine ⟨_, _, _, rfl, ?_⟩
  have mq : ∀ {st : Store} {k : Nat}, Sm s g st k 10 (.int q1) := sm_int a0 (by omega)
  have mt : ∀ {st : Store} {k : Nat}, Sm s g st k 10 (.int t1) := sm_int b0 (by omega)
  have f03 : Fr s g st st3 := (f1.trans f2).trans f3
  have fin : ∀ xs st', xs ≠ [] → SmL s g st' 3 150 xs → Src st' s g → Fr s g st3 st' → Q (.tup xs) st' := fun xs st' h0 hx hs hf => q xs st' h0 hx.tup hs (f03.trans hf)
  clear q f1 f2 f3 h h1 h2
  repeat' (first | refine rs_of (newT_tup (by simp only [List.length_cons, List.length_nil] <;> decide)) ?_ | refine rs_of (newL_add (by simp only [List.length_cons, List.length_nil] <;> decide)) ?_ | refine b_cons' ?_ | refine b_nil' ?_ | refine S_set ?_ | refine S_iff ?_ | refine S_ret ?_ | refine S_expr ?_ | refine S_put ?_ | refine S_par ?_ | refine S_par3 ?_ | refine S_for ?_ | refine e_lit ?_ | refine e_var rfl ?_ | refine e_bin ?_ | refine e_cmp ?_ | refine e_cmpL ?_ | refine e_isN ?_ | refine e_isB ?_ | refine e_and ?_ | refine e_or ?_ | refine e_not ?_ | refine e_ifx ?_ | refine e_idx ?_ | refine e_slc ?_ | refine e_tup ?_ | refine e_mk ?_ | refine e_dic (by decide) ?_ | refine e_call ?_ | refine e_bi ?_ | refine e_all ?_ | refine e_any ?_ | refine e_join ?_ | refine e_neg ?_ | refine e_meth ?_ | refine e_fld ?_ | refine e_chain ?_ | refine t_and' ?_ | refine t_or' ?_ | refine t_not' ?_ | refine t_e (fun _ _ _ => rfl) ?_ | refine a_nil ?_ | refine a_cons ?_ | refine p_nil' ?_ | refine p_cons' ?_ | refine o_none' ?_ | refine o_some' ?_ | refine l_lst ?_ | refine l_comp ?_ | refine l_val (fun _ _ _ => rfl) ?_ | refine i_seq' ?_ | refine i_tmp' ?_ | refine i_rng ?_ | refine ts_nil' ?_ | refine ts_one' ?_ | refine Rs.ok ?_ | refine And.intro (by simp only [List.length_cons, List.length_nil] <;> decide) ?_)
  refine ⟨_, rfl, fun hk => ?_, fun hk => b_nil' ?_⟩
  · repeat' (first | refine rs_of (newT_tup (by simp only [List.length_cons, List.length_nil] <;> decide)) ?_ | refine rs_of (newL_add (by simp only [List.length_cons, List.length_nil] <;> decide)) ?_ | refine b_cons' ?_ | refine b_nil' ?_ | refine S_set ?_ | refine S_iff ?_ | refine S_ret ?_ | refine S_expr ?_ | refine S_put ?_ | refine S_par ?_ | refine S_par3 ?_ | refine S_for ?_ | refine e_lit ?_ | refine e_var rfl ?_ | refine e_bin ?_ | refine e_cmp ?_ | refine e_cmpL ?_ | refine e_isN ?_ | refine e_isB ?_ | refine e_and ?_ | refine e_or ?_ | refine e_not ?_ | refine e_ifx ?_ | refine e_idx ?_ | refine e_slc ?_ | refine e_tup ?_ | refine e_mk ?_ | refine e_dic (by decide) ?_ | refine e_call ?_ | refine e_bi ?_ | refine e_all ?_ | refine e_any ?_ | refine e_join ?_ | refine e_neg ?_ | refine e_meth ?_ | refine e_fld ?_ | refine e_chain ?_ | refine t_and' ?_ | refine t_or' ?_ | refine t_not' ?_ | refine t_e (fun _ _ _ => rfl) ?_ | refine a_nil ?_ | refine a_cons ?_ | refine p_nil' ?_ | refine p_cons' ?_ | refine o_none' ?_ | refine o_some' ?_ | refine l_lst ?_ | refine l_comp ?_ | refine l_val (fun _ _ _ => rfl) ?_ | refine i_seq' ?_ | refine i_tmp' ?_ | refine i_rng ?_ | refine ts_nil' ?_ | refine ts_one' ?_ | refine Rs.ok ?_ | refine And.intro (by simp only [List.length_cons, List.length_nil] <;> decide) ?_)
    refine of_new h3 (by simp) (by simp) fun v st4 hv h4 f4 => ?_
    repeat' (first | refine rs_of (newT_tup (by simp only [List.length_cons, List.length_nil] <;> decide)) ?_ | refine rs_of (newL_add (by simp only [List.length_cons, List.length_nil] <;> decide)) ?_ | refine b_cons' ?_ | refine b_nil' ?_ | refine S_set ?_ | refine S_iff ?_ | refine S_ret ?_ | refine S_expr ?_ | refine S_put ?_ | refine S_par ?_ | refine S_par3 ?_ | refine S_for ?_ | refine e_lit ?_ | refine e_var rfl ?_ | refine e_bin ?_ | refine e_cmp ?_ | refine e_cmpL ?_ | refine e_isN ?_ | refine e_isB ?_ | refine e_and ?_ | refine e_or ?_ | refine e_not ?_ | refine e_ifx ?_ | refine e_idx ?_ | refine e_slc ?_ | refine e_tup ?_ | refine e_mk ?_ | refine e_dic (by decide) ?_ | refine e_call ?_ | refine e_bi ?_ | refine e_all ?_ | refine e_any ?_ | refine e_join ?_ | refine e_neg ?_ | refine e_meth ?_ | refine e_fld ?_ | refine e_chain ?_ | refine t_and' ?_ | refine t_or' ?_ | refine t_not' ?_ | refine t_e (fun _ _ _ => rfl) ?_ | refine a_nil ?_ | refine a_cons ?_ | refine p_nil' ?_ | refine p_cons' ?_ | refine o_none' ?_ | refine o_some' ?_ | refine l_lst ?_ | refine l_comp ?_ | refine l_val (fun _ _ _ => rfl) ?_ | refine i_seq' ?_ | refine i_tmp' ?_ | refine i_rng ?_ | refine ts_nil' ?_ | refine ts_one' ?_ | refine Rs.ok ?_ | refine And.intro (by simp only [List.length_cons, List.length_nil] <;> decide) ?_)
    have mv : Sm s g st4 1 13 v := lit_all (by decide +kernel) hv
    exact fin _ st4 (List.cons_ne_nil _ _) ((SmL.cons (smS (by decide +kernel)) (SmL.cons mq (SmL.cons (mv.upto (by decide)) (SmL.nil _ 0)))).le (Nat.le_refl _) (by decide)) h4 f4
  repeat' (first | refine rs_of (newT_tup (by simp only [List.length_cons, List.length_nil] <;> decide)) ?_ | refine rs_of (newL_add (by simp only [List.length_cons, List.length_nil] <;> decide)) ?_ | refine b_cons' ?_ | refine b_nil' ?_ | refine S_set ?_ | refine S_iff ?_ | refine S_ret ?_ | refine S_expr ?_ | refine S_put ?_ | refine S_par ?_ | refine S_par3 ?_ | refine S_for ?_ | refine e_lit ?_ | refine e_var rfl ?_ | refine e_bin ?_ | refine e_cmp ?_ | refine e_cmpL ?_ | refine e_isN ?_ | refine e_isB ?_ | refine e_and ?_ | refine e_or ?_ | refine e_not ?_ | refine e_ifx ?_ | refine e_idx ?_ | refine e_slc ?_ | refine e_tup ?_ | refine e_mk ?_ | refine e_dic (by decide) ?_ | refine e_call ?_ | refine e_bi ?_ | refine e_all ?_ | refine e_any ?_ | refine e_join ?_ | refine e_neg ?_ | refine e_meth ?_ | refine e_fld ?_ | refine e_chain ?_ | refine t_and' ?_ | refine t_or' ?_ | refine t_not' ?_ | refine t_e (fun _ _ _ => rfl) ?_ | refine a_nil ?_ | refine a_cons ?_ | refine p_nil' ?_ | refine p_cons' ?_ | refine o_none' ?_ | refine o_some' ?_ | refine l_lst ?_ | refine l_comp ?_ | refine l_val (fun _ _ _ => rfl) ?_ | refine i_seq' ?_ | refine i_tmp' ?_ | refine i_rng ?_ | refine ts_nil' ?_ | refine ts_one' ?_ | refine Rs.ok ?_ | refine And.intro (by simp only [List.length_cons, List.length_nil] <;> decide) ?_)
  refine ⟨_, rfl, fun hk => ?_, fun hk => b_nil' ?_⟩
  · repeat' (first | refine rs_of (newT_tup (by simp only [List.length_cons, List.length_nil] <;> decide)) ?_ | refine rs_of (newL_add (by simp only [List.length_cons, List.length_nil] <;> decide)) ?_ | refine b_cons' ?_ | refine b_nil' ?_ | refine S_set ?_ | refine S_iff ?_ | refine S_ret ?_ | refine S_expr ?_ | refine S_put ?_ | refine S_par ?_ | refine S_par3 ?_ | refine S_for ?_ | refine e_lit ?_ | refine e_var rfl ?_ | refine e_bin ?_ | refine e_cmp ?_ | refine e_cmpL ?_ | refine e_isN ?_ | refine e_isB ?_ | refine e_and ?_ | refine e_or ?_ | refine e_not ?_ | refine e_ifx ?_ | refine e_idx ?_ | refine e_slc ?_ | refine e_tup ?_ | refine e_mk ?_ | refine e_dic (by decide) ?_ | refine e_call ?_ | refine e_bi ?_ | refine e_all ?_ | refine e_any ?_ | refine e_join ?_ | refine e_neg ?_ | refine e_meth ?_ | refine e_fld ?_ | refine e_chain ?_ | refine t_and' ?_ | refine t_or' ?_ | refine t_not' ?_ | refine t_e (fun _ _ _ => rfl) ?_ | refine a_nil ?_ | refine a_cons ?_ | refine p_nil' ?_ | refine p_cons' ?_ | refine o_none' ?_ | refine o_some' ?_ | refine l_lst ?_ | refine l_comp ?_ | refine l_val (fun _ _ _ => rfl) ?_ | refine i_seq' ?_ | refine i_tmp' ?_ | refine i_rng ?_ | refine ts_nil' ?_ | refine ts_one' ?_ | refine Rs.ok ?_ | refine And.intro (by simp only [List.length_cons, List.length_nil] <;> decide) ?_)
    refine mark_c h3 fun v st4 mv h4 f4 => ?_
    repeat' (first | refine rs_of (newT_tup (by simp only [List.length_cons, List.length_nil] <;> decide)) ?_ | refine rs_of (newL_add (by simp only [List.length_cons, List.length_nil] <;> decide)) ?_ | refine b_cons' ?_ | refine b_nil' ?_ | refine S_set ?_ | refine S_iff ?_ | refine S_ret ?_ | refine S_expr ?_ | refine S_put ?_ | refine S_par ?_ | refine S_par3 ?_ | refine S_for ?_ | refine e_lit ?_ | refine e_var rfl ?_ | refine e_bin ?_ | refine e_cmp ?_ | refine e_cmpL ?_ | refine e_isN ?_ | refine e_isB ?_ | refine e_and ?_ | refine e_or ?_ | refine e_not ?_ | refine e_ifx ?_ | refine e_idx ?_ | refine e_slc ?_ | refine e_tup ?_ | refine e_mk ?_ | refine e_dic (by decide) ?_ | refine e_call ?_ | refine e_bi ?_ | refine e_all ?_ | refine e_any ?_ | refine e_join ?_ | refine e_neg ?_ | refine e_meth ?_ | refine e_fld ?_ | refine e_chain ?_ | refine t_and' ?_ | refine t_or' ?_ | refine t_not' ?_ | refine t_e (fun _ _ _ => rfl) ?_ | refine a_nil ?_ | refine a_cons ?_ | refine p_nil' ?_ | refine p_cons' ?_ | refine o_none' ?_ | refine o_some' ?_ | refine l_lst ?_ | refine l_comp ?_ | refine l_val (fun _ _ _ => rfl) ?_ | refine i_seq' ?_ | refine i_tmp' ?_ | refine i_rng ?_ | refine ts_nil' ?_ | refine ts_one' ?_ | refine Rs.ok ?_ | refine And.intro (by simp only [List.length_cons, List.length_nil] <;> decide) ?_)
    exact fin _ st4 (List.cons_ne_nil _ _) ((SmL.cons (smS (by decide +kernel)) (SmL.cons mq (SmL.cons (mv.upto (by decide)) (SmL.nil _ 0)))).le (Nat.le_refl _) (by decide)) h4 f4
  repeat' (first | refine rs_of (newT_tup (by simp only [List.length_cons, List.length_nil] <;> decide)) ?_ | refine rs_of (newL_add (by simp only [List.length_cons, List.length_nil] <;> decide)) ?_ | refine b_cons' ?_ | refine b_nil' ?_ | refine S_set ?_ | refine S_iff ?_ | refine S_ret ?_ | refine S_expr ?_ | refine S_put ?_ | refine S_par ?_ | refine S_par3 ?_ | refine S_for ?_ | refine e_lit ?_ | refine e_var rfl ?_ | refine e_bin ?_ | refine e_cmp ?_ | refine e_cmpL ?_ | refine e_isN ?_ | refine e_isB ?_ | refine e_and ?_ | refine e_or ?_ | refine e_not ?_ | refine e_ifx ?_ | refine e_idx ?_ | refine e_slc ?_ | refine e_tup ?_ | refine e_mk ?_ | refine e_dic (by decide) ?_ | refine e_call ?_ | refine e_bi ?_ | refine e_all ?_ | refine e_any ?_ | refine e_join ?_ | refine e_neg ?_ | refine e_meth ?_ | refine e_fld ?_ | refine e_chain ?_ | refine t_and' ?_ | refine t_or' ?_ | refine t_not' ?_ | refine t_e (fun _ _ _ => rfl) ?_ | refine a_nil ?_ | refine a_cons ?_ | refine p_nil' ?_ | refine p_cons' ?_ | refine o_none' ?_ | refine o_some' ?_ | refine l_lst ?_ | refine l_comp ?_ | refine l_val (fun _ _ _ => rfl) ?_ | refine i_seq' ?_ | refine i_tmp' ?_ | refine i_rng ?_ | refine ts_nil' ?_ | refine ts_one' ?_ | refine Rs.ok ?_ | refine And.intro (by simp only [List.length_cons, List.length_nil] <;> decide) ?_)
  refine ⟨_, rfl, fun hk => ?_, fun hk => b_nil' ?_⟩
  · repeat' (first | refine rs_of (newT_tup (by simp only [List.length_cons, List.length_nil] <;> decide)) ?_ | refine rs_of (newL_add (by simp only [List.length_cons, List.length_nil] <;> decide)) ?_ | refine b_cons' ?_ | refine b_nil' ?_ | refine S_set ?_ | refine S_iff ?_ | refine S_ret ?_ | refine S_expr ?_ | refine S_put ?_ | refine S_par ?_ | refine S_par3 ?_ | refine S_for ?_ | refine e_lit ?_ | refine e_var rfl ?_ | refine e_bin ?_ | refine e_cmp ?_ | refine e_cmpL ?_ | refine e_isN ?_ | refine e_isB ?_ | refine e_and ?_ | refine e_or ?_ | refine e_not ?_ | refine e_ifx ?_ | refine e_idx ?_ | refine e_slc ?_ | refine e_tup ?_ | refine e_mk ?_ | refine e_dic (by decide) ?_ | refine e_call ?_ | refine e_bi ?_ | refine e_all ?_ | refine e_any ?_ | refine e_join ?_ | refine e_neg ?_ | refine e_meth ?_ | refine e_fld ?_ | refine e_chain ?_ | refine t_and' ?_ | refine t_or' ?_ | refine t_not' ?_ | refine t_e (fun _ _ _ => rfl) ?_ | refine a_nil ?_ | refine a_cons ?_ | refine p_nil' ?_ | refine p_cons' ?_ | refine o_none' ?_ | refine o_some' ?_ | refine l_lst ?_ | refine l_comp ?_ | refine l_val (fun _ _ _ => rfl) ?_ | refine i_seq' ?_ | refine i_tmp' ?_ | refine i_rng ?_ | refine ts_nil' ?_ | refine ts_one' ?_ | refine Rs.ok ?_ | refine And.intro (by simp only [List.length_cons, List.length_nil] <;> decide) ?_)
    refine shape_c h3 fun v st4 mv h4 f4 => ?_
    repeat' (first | refine rs_of (newT_tup (by simp only [List.length_cons, List.length_nil] <;> decide)) ?_ | refine rs_of (newL_add (by simp only [List.length_cons, List.length_nil] <;> decide)) ?_ | refine b_cons' ?_ | refine b_nil' ?_ | refine S_set ?_ | refine S_iff ?_ | refine S_ret ?_ | refine S_expr ?_ | refine S_put ?_ | refine S_par ?_ | refine S_par3 ?_ | refine S_for ?_ | refine e_lit ?_ | refine e_var rfl ?_ | refine e_bin ?_ | refine e_cmp ?_ | refine e_cmpL ?_ | refine e_isN ?_ | refine e_isB ?_ | refine e_and ?_ | refine e_or ?_ | refine e_not ?_ | refine e_ifx ?_ | refine e_idx ?_ | refine e_slc ?_ | refine e_tup ?_ | refine e_mk ?_ | refine e_dic (by decide) ?_ | refine e_call ?_ | refine e_bi ?_ | refine e_all ?_ | refine e_any ?_ | refine e_join ?_ | refine e_neg ?_ | refine e_meth ?_ | refine e_fld ?_ | refine e_chain ?_ | refine t_and' ?_ | refine t_or' ?_ | refine t_not' ?_ | refine t_e (fun _ _ _ => rfl) ?_ | refine a_nil ?_ | refine a_cons ?_ | refine p_nil' ?_ | refine p_cons' ?_ | refine o_none' ?_ | refine o_some' ?_ | refine l_lst ?_ | refine l_comp ?_ | refine l_val (fun _ _ _ => rfl) ?_ | refine i_seq' ?_ | refine i_tmp' ?_ | refine i_rng ?_ | refine ts_nil' ?_ | refine ts_one' ?_ | refine Rs.ok ?_ | refine And.intro (by simp only [List.length_cons, List.length_nil] <;> decide) ?_)
    exact fin _ st4 (List.cons_ne_nil _ _) ((SmL.cons (smS (by decide +kernel)) (SmL.cons mq (SmL.cons (mv.upto (by decide)) (SmL.nil _ 0)))).le (Nat.le_refl _) (by decide)) h4 f4
  repeat' (first | refine rs_of (newT_tup (by simp only [List.length_cons, List.length_nil] <;> decide)) ?_ | refine rs_of (newL_add (by simp only [List.length_cons, List.length_nil] <;> decide)) ?_ | refine b_cons' ?_ | refine b_nil' ?_ | refine S_set ?_ | refine S_iff ?_ | refine S_ret ?_ | refine S_expr ?_ | refine S_put ?_ | refine S_par ?_ | refine S_par3 ?_ | refine S_for ?_ | refine e_lit ?_ | refine e_var rfl ?_ | refine e_bin ?_ | refine e_cmp ?_ | refine e_cmpL ?_ | refine e_isN ?_ | refine e_isB ?_ | refine e_and ?_ | refine e_or ?_ | refine e_not ?_ | refine e_ifx ?_ | refine e_idx ?_ | refine e_slc ?_ | refine e_tup ?_ | refine e_mk ?_ | refine e_dic (by decide) ?_ | refine e_call ?_ | refine e_bi ?_ | refine e_all ?_ | refine e_any ?_ | refine e_join ?_ | refine e_neg ?_ | refine e_meth ?_ | refine e_fld ?_ | refine e_chain ?_ | refine t_and' ?_ | refine t_or' ?_ | refine t_not' ?_ | refine t_e (fun _ _ _ => rfl) ?_ | refine a_nil ?_ | refine a_cons ?_ | refine p_nil' ?_ | refine p_cons' ?_ | refine o_none' ?_ | refine o_some' ?_ | refine l_lst ?_ | refine l_comp ?_ | refine l_val (fun _ _ _ => rfl) ?_ | refine i_seq' ?_ | refine i_tmp' ?_ | refine i_rng ?_ | refine ts_nil' ?_ | refine ts_one' ?_ | refine Rs.ok ?_ | refine And.intro (by simp only [List.length_cons, List.length_nil] <;> decide) ?_)
  refine ⟨_, rfl, fun hk => ?_, fun hk => b_nil' ?_⟩
  · repeat' (first | refine rs_of (newT_tup (by simp only [List.length_cons, List.length_nil] <;> decide)) ?_ | refine rs_of (newL_add (by simp only [List.length_cons, List.length_nil] <;> decide)) ?_ | refine b_cons' ?_ | refine b_nil' ?_ | refine S_set ?_ | refine S_iff ?_ | refine S_ret ?_ | refine S_expr ?_ | refine S_put ?_ | refine S_par ?_ | refine S_par3 ?_ | refine S_for ?_ | refine e_lit ?_ | refine e_var rfl ?_ | refine e_bin ?_ | refine e_cmp ?_ | refine e_cmpL ?_ | refine e_isN ?_ | refine e_isB ?_ | refine e_and ?_ | refine e_or ?_ | refine e_not ?_ | refine e_ifx ?_ | refine e_idx ?_ | refine e_slc ?_ | refine e_tup ?_ | refine e_mk ?_ | refine e_dic (by decide) ?_ | refine e_call ?_ | refine e_bi ?_ | refine e_all ?_ | refine e_any ?_ | refine e_join ?_ | refine e_neg ?_ | refine e_meth ?_ | refine e_fld ?_ | refine e_chain ?_ | refine t_and' ?_ | refine t_or' ?_ | refine t_not' ?_ | refine t_e (fun _ _ _ => rfl) ?_ | refine a_nil ?_ | refine a_cons ?_ | refine p_nil' ?_ | refine p_cons' ?_ | refine o_none' ?_ | refine o_some' ?_ | refine l_lst ?_ | refine l_comp ?_ | refine l_val (fun _ _ _ => rfl) ?_ | refine i_seq' ?_ | refine i_tmp' ?_ | refine i_rng ?_ | refine ts_nil' ?_ | refine ts_one' ?_ | refine Rs.ok ?_ | refine And.intro (by simp only [List.length_cons, List.length_nil] <;> decide) ?_)
    exact fin _ st3 (List.cons_ne_nil _ _) ((SmL.cons (smS (by decide +kernel)) (SmL.cons mq (SmL.cons mt (SmL.nil _ 0)))).le (Nat.le_refl _) (by decide)) h3 (Fr.refl _ _ _)
  repeat' (first | refine rs_of (newT_tup (by simp only [List.length_cons, List.length_nil] <;> decide)) ?_ | refine rs_of (newL_add (by simp only [List.length_cons, List.length_nil] <;> decide)) ?_ | refine b_cons' ?_ | refine b_nil' ?_ | refine S_set ?_ | refine S_iff ?_ | refine S_ret ?_ | refine S_expr ?_ | refine S_put ?_ | refine S_par ?_ | refine S_par3 ?_ | refine S_for ?_ | refine e_lit ?_ | refine e_var rfl ?_ | refine e_bin ?_ | refine e_cmp ?_ | refine e_cmpL ?_ | refine e_isN ?_ | refine e_isB ?_ | refine e_and ?_ | refine e_or ?_ | refine e_not ?_ | refine e_ifx ?_ | refine e_idx ?_ | refine e_slc ?_ | refine e_tup ?_ | refine e_mk ?_ | refine e_dic (by decide) ?_ | refine e_call ?_ | refine e_bi ?_ | refine e_all ?_ | refine e_any ?_ | refine e_join ?_ | refine e_neg ?_ | refine e_meth ?_ | refine e_fld ?_ | refine e_chain ?_ | refine t_and' ?_ | refine t_or' ?_ | refine t_not' ?_ | refine t_e (fun _ _ _ => rfl) ?_ | refine a_nil ?_ | refine a_cons ?_ | refine p_nil' ?_ | refine p_cons' ?_ | refine o_none' ?_ | refine o_some' ?_ | refine l_lst ?_ | refine l_comp ?_ | refine l_val (fun _ _ _ => rfl) ?_ | refine i_seq' ?_ | refine i_tmp' ?_ | refine i_rng ?_ | refine ts_nil' ?_ | refine ts_one' ?_ | refine Rs.ok ?_ | refine And.intro (by simp only [List.length_cons, List.length_nil] <;> decide) ?_)
  refine ⟨_, rfl, fun hk => ?_, fun hk => b_nil' ?_⟩
  · repeat' (first | refine rs_of (newT_tup (by simp only [List.length_cons, List.length_nil] <;> decide)) ?_ | refine rs_of (newL_add (by simp only [List.length_cons, List.length_nil] <;> decide)) ?_ | refine b_cons' ?_ | refine b_nil' ?_ | refine S_set ?_ | refine S_iff ?_ | refine S_ret ?_ | refine S_expr ?_ | refine S_put ?_ | refine S_par ?_ | refine S_par3 ?_ | refine S_for ?_ | refine e_lit ?_ | refine e_var rfl ?_ | refine e_bin ?_ | refine e_cmp ?_ | refine e_cmpL ?_ | refine e_isN ?_ | refine e_isB ?_ | refine e_and ?_ | refine e_or ?_ | refine e_not ?_ | refine e_ifx ?_ | refine e_idx ?_ | refine e_slc ?_ | refine e_tup ?_ | refine e_mk ?_ | refine e_dic (by decide) ?_ | refine e_call ?_ | refine e_bi ?_ | refine e_all ?_ | refine e_any ?_ | refine e_join ?_ | refine e_neg ?_ | refine e_meth ?_ | refine e_fld ?_ | refine e_chain ?_ | refine t_and' ?_ | refine t_or' ?_ | refine t_not' ?_ | refine t_e (fun _ _ _ => rfl) ?_ | refine a_nil ?_ | refine a_cons ?_ | refine p_nil' ?_ | refine p_cons' ?_ | refine o_none' ?_ | refine o_some' ?_ | refine l_lst ?_ | refine l_comp ?_ | refine l_val (fun _ _ _ => rfl) ?_ | refine i_seq' ?_ | refine i_tmp' ?_ | refine i_rng ?_ | refine ts_nil' ?_ | refine ts_one' ?_ | refine Rs.ok ?_ | refine And.intro (by simp only [List.length_cons, List.length_nil] <;> decide) ?_)
    exact fin _ st3 (List.cons_ne_nil _ _) ((SmL.cons (smS (by decide +kernel)) (SmL.cons mq (SmL.cons mt (SmL.nil _ 0)))).le (Nat.le_refl _) (by decide)) h3 (Fr.refl _ _ _)
  repeat' (first | refine rs_of (newT_tup (by simp only [List.length_cons, List.length_nil] <;> decide)) ?_ | refine rs_of (newL_add (by simp only [List.length_cons, List.length_nil] <;> decide)) ?_ | refine b_cons' ?_ | refine b_nil' ?_ | refine S_set ?_ | refine S_iff ?_ | refine S_ret ?_ | refine S_expr ?_ | refine S_put ?_ | refine S_par ?_ | refine S_par3 ?_ | refine S_for ?_ | refine e_lit ?_ | refine e_var rfl ?_ | refine e_bin ?_ | refine e_cmp ?_ | refine e_cmpL ?_ | refine e_isN ?_ | refine e_isB ?_ | refine e_and ?_ | refine e_or ?_ | refine e_not ?_ | refine e_ifx ?_ | refine e_idx ?_ | refine e_slc ?_ | refine e_tup ?_ | refine e_mk ?_ | refine e_dic (by decide) ?_ | refine e_call ?_ | refine e_bi ?_ | refine e_all ?_ | refine e_any ?_ | refine e_join ?_ | refine e_neg ?_ | refine e_meth ?_ | refine e_fld ?_ | refine e_chain ?_ | refine t_and' ?_ | refine t_or' ?_ | refine t_not' ?_ | refine t_e (fun _ _ _ => rfl) ?_ | refine a_nil ?_ | refine a_cons ?_ | refine p_nil' ?_ | refine p_cons' ?_ | refine o_none' ?_ | refine o_some' ?_ | refine l_lst ?_ | refine l_comp ?_ | refine l_val (fun _ _ _ => rfl) ?_ | refine i_seq' ?_ | refine i_tmp' ?_ | refine i_rng ?_ | refine ts_nil' ?_ | refine ts_one' ?_ | refine Rs.ok ?_ | refine And.intro (by simp only [List.length_cons, List.length_nil] <;> decide) ?_)
  refine ⟨_, rfl, fun hk => ?_, fun hk => b_nil' ?_⟩
  · repeat' (first | refine rs_of (newT_tup (by simp only [List.length_cons, List.length_nil] <;> decide)) ?_ | refine rs_of (newL_add (by simp only [List.length_cons, List.length_nil] <;> decide)) ?_ | refine b_cons' ?_ | refine b_nil' ?_ | refine S_set ?_ | refine S_iff ?_ | refine S_ret ?_ | refine S_expr ?_ | refine S_put ?_ | refine S_par ?_ | refine S_par3 ?_ | refine S_for ?_ | refine e_lit ?_ | refine e_var rfl ?_ | refine e_bin ?_ | refine e_cmp ?_ | refine e_cmpL ?_ | refine e_isN ?_ | refine e_isB ?_ | refine e_and ?_ | refine e_or ?_ | refine e_not ?_ | refine e_ifx ?_ | refine e_idx ?_ | refine e_slc ?_ | refine e_tup ?_ | refine e_mk ?_ | refine e_dic (by decide) ?_ | refine e_call ?_ | refine e_bi ?_ | refine e_all ?_ | refine e_any ?_ | refine e_join ?_ | refine e_neg ?_ | refine e_meth ?_ | refine e_fld ?_ | refine e_chain ?_ | refine t_and' ?_ | refine t_or' ?_ | refine t_not' ?_ | refine t_e (fun _ _ _ => rfl) ?_ | refine a_nil ?_ | refine a_cons ?_ | refine p_nil' ?_ | refine p_cons' ?_ | refine o_none' ?_ | refine o_some' ?_ | refine l_lst ?_ | refine l_comp ?_ | refine l_val (fun _ _ _ => rfl) ?_ | refine i_seq' ?_ | refine i_tmp' ?_ | refine i_rng ?_ | refine ts_nil' ?_ | refine ts_one' ?_ | refine Rs.ok ?_ | refine And.intro (by simp only [List.length_cons, List.length_nil] <;> decide) ?_)
    refine of_new h3 (by simp) (by simp) fun v st4 hv h4 f4 => ?_
    repeat' (first | refine rs_of (newT_tup (by simp only [List.length_cons, List.length_nil] <;> decide)) ?_ | refine rs_of (newL_add (by simp only [List.length_cons, List.length_nil] <;> decide)) ?_ | refine b_cons' ?_ | refine b_nil' ?_ | refine S_set ?_ | refine S_iff ?_ | refine S_ret ?_ | refine S_expr ?_ | refine S_put ?_ | refine S_par ?_ | refine S_par3 ?_ | refine S_for ?_ | refine e_lit ?_ | refine e_var rfl ?_ | refine e_bin ?_ | refine e_cmp ?_ | refine e_cmpL ?_ | refine e_isN ?_ | refine e_isB ?_ | refine e_and ?_ | refine e_or ?_ | refine e_not ?_ | refine e_ifx ?_ | refine e_idx ?_ | refine e_slc ?_ | refine e_tup ?_ | refine e_mk ?_ | refine e_dic (by decide) ?_ | refine e_call ?_ | refine e_bi ?_ | refine e_all ?_ | refine e_any ?_ | refine e_join ?_ | refine e_neg ?_ | refine e_meth ?_ | refine e_fld ?_ | refine e_chain ?_ | refine t_and' ?_ | refine t_or' ?_ | refine t_not' ?_ | refine t_e (fun _ _ _ => rfl) ?_ | refine a_nil ?_ | refine a_cons ?_ | refine p_nil' ?_ | refine p_cons' ?_ | refine o_none' ?_ | refine o_some' ?_ | refine l_lst ?_ | refine l_comp ?_ | refine l_val (fun _ _ _ => rfl) ?_ | refine i_seq' ?_ | refine i_tmp' ?_ | refine i_rng ?_ | refine ts_nil' ?_ | refine ts_one' ?_ | refine Rs.ok ?_ | refine And.intro (by simp only [List.length_cons, List.length_nil] <;> decide) ?_)
    refine mark_c h4 fun u st5 mu h5 f5 => ?_
    repeat' (first | refine rs_of (newT_tup (by simp only [List.length_cons, List.length_nil] <;> decide)) ?_ | refine rs_of (newL_add (by simp only [List.length_cons, List.length_nil] <;> decide)) ?_ | refine b_cons' ?_ | refine b_nil' ?_ | refine S_set ?_ | refine S_iff ?_ | refine S_ret ?_ | refine S_expr ?_ | refine S_put ?_ | refine S_par ?_ | refine S_par3 ?_ | refine S_for ?_ | refine e_lit ?_ | refine e_var rfl ?_ | refine e_bin ?_ | refine e_cmp ?_ | refine e_cmpL ?_ | refine e_isN ?_ | refine e_isB ?_ | refine e_and ?_ | refine e_or ?_ | refine e_not ?_ | refine e_ifx ?_ | refine e_idx ?_ | refine e_slc ?_ | refine e_tup ?_ | refine e_mk ?_ | refine e_dic (by decide) ?_ | refine e_call ?_ | refine e_bi ?_ | refine e_all ?_ | refine e_any ?_ | refine e_join ?_ | refine e_neg ?_ | refine e_meth ?_ | refine e_fld ?_ | refine e_chain ?_ | refine t_and' ?_ | refine t_or' ?_ | refine t_not' ?_ | refine t_e (fun _ _ _ => rfl) ?_ | refine a_nil ?_ | refine a_cons ?_ | refine p_nil' ?_ | refine p_cons' ?_ | refine o_none' ?_ | refine o_some' ?_ | refine l_lst ?_ | refine l_comp ?_ | refine l_val (fun _ _ _ => rfl) ?_ | refine i_seq' ?_ | refine i_tmp' ?_ | refine i_rng ?_ | refine ts_nil' ?_ | refine ts_one' ?_ | refine Rs.ok ?_ | refine And.intro (by simp only [List.length_cons, List.length_nil] <;> decide) ?_)
    have mv : Sm s g st5 3 13 v := lit_all (by decide +kernel) hv
    exact fin _ st5 (List.cons_ne_nil _ _) ((SmL.cons (smS (by decide +kernel)) (SmL.cons mv (SmL.cons (mu.upto (by decide)) (SmL.nil _ 0)))).le (Nat.le_refl _) (by decide)) h5 (f4.trans f5)
  repeat' (first | refine rs_of (newT_tup (by simp only [List.length_cons, List.length_nil] <;> decide)) ?_ | refine rs_of (newL_add (by simp only [List.length_cons, List.length_nil] <;> decide)) ?_ | refine b_cons' ?_ | refine b_nil' ?_ | refine S_set ?_ | refine S_iff ?_ | refine S_ret ?_ | refine S_expr ?_ | refine S_put ?_ | refine S_par ?_ | refine S_par3 ?_ | refine S_for ?_ | refine e_lit ?_ | refine e_var rfl ?_ | refine e_bin ?_ | refine e_cmp ?_ | refine e_cmpL ?_ | refine e_isN ?_ | refine e_isB ?_ | refine e_and ?_ | refine e_or ?_ | refine e_not ?_ | refine e_ifx ?_ | refine e_idx ?_ | refine e_slc ?_ | refine e_tup ?_ | refine e_mk ?_ | refine e_dic (by decide) ?_ | refine e_call ?_ | refine e_bi ?_ | refine e_all ?_ | refine e_any ?_ | refine e_join ?_ | refine e_neg ?_ | refine e_meth ?_ | refine e_fld ?_ | refine e_chain ?_ | refine t_and' ?_ | refine t_or' ?_ | refine t_not' ?_ | refine t_e (fun _ _ _ => rfl) ?_ | refine a_nil ?_ | refine a_cons ?_ | refine p_nil' ?_ | refine p_cons' ?_ | refine o_none' ?_ | refine o_some' ?_ | refine l_lst ?_ | refine l_comp ?_ | refine l_val (fun _ _ _ => rfl) ?_ | refine i_seq' ?_ | refine i_tmp' ?_ | refine i_rng ?_ | refine ts_nil' ?_ | refine ts_one' ?_ | refine Rs.ok ?_ | refine And.intro (by simp only [List.length_cons, List.length_nil] <;> decide) ?_)
  refine ⟨_, rfl, fun hk => ?_, fun hk => b_nil' ?_⟩
  · repeat' (first | refine rs_of (newT_tup (by simp only [List.length_cons, List.length_nil] <;> decide)) ?_ | refine rs_of (newL_add (by simp only [List.length_cons, List.length_nil] <;> decide)) ?_ | refine b_cons' ?_ | refine b_nil' ?_ | refine S_set ?_ | refine S_iff ?_ | refine S_ret ?_ | refine S_expr ?_ | refine S_put ?_ | refine S_par ?_ | refine S_par3 ?_ | refine S_for ?_ | refine e_lit ?_ | refine e_var rfl ?_ | refine e_bin ?_ | refine e_cmp ?_ | refine e_cmpL ?_ | refine e_isN ?_ | refine e_isB ?_ | refine e_and ?_ | refine e_or ?_ | refine e_not ?_ | refine e_ifx ?_ | refine e_idx ?_ | refine e_slc ?_ | refine e_tup ?_ | refine e_mk ?_ | refine e_dic (by decide) ?_ | refine e_call ?_ | refine e_bi ?_ | refine e_all ?_ | refine e_any ?_ | refine e_join ?_ | refine e_neg ?_ | refine e_meth ?_ | refine e_fld ?_ | refine e_chain ?_ | refine t_and' ?_ | refine t_or' ?_ | refine t_not' ?_ | refine t_e (fun _ _ _ => rfl) ?_ | refine a_nil ?_ | refine a_cons ?_ | refine p_nil' ?_ | refine p_cons' ?_ | refine o_none' ?_ | refine o_some' ?_ | refine l_lst ?_ | refine l_comp ?_ | refine l_val (fun _ _ _ => rfl) ?_ | refine i_seq' ?_ | refine i_tmp' ?_ | refine i_rng ?_ | refine ts_nil' ?_ | refine ts_one' ?_ | refine Rs.ok ?_ | refine And.intro (by simp only [List.length_cons, List.length_nil] <;> decide) ?_)
    refine of_new h3 (by simp) (by simp) fun v st4 hv h4 f4 => ?_
    repeat' (first | refine rs_of (newT_tup (by simp only [List.length_cons, List.length_nil] <;> decide)) ?_ | refine rs_of (newL_add (by simp only [List.length_cons, List.length_nil] <;> decide)) ?_ | refine b_cons' ?_ | refine b_nil' ?_ | refine S_set ?_ | refine S_iff ?_ | refine S_ret ?_ | refine S_expr ?_ | refine S_put ?_ | refine S_par ?_ | refine S_par3 ?_ | refine S_for ?_ | refine e_lit ?_ | refine e_var rfl ?_ | refine e_bin ?_ | refine e_cmp ?_ | refine e_cmpL ?_ | refine e_isN ?_ | refine e_isB ?_ | refine e_and ?_ | refine e_or ?_ | refine e_not ?_ | refine e_ifx ?_ | refine e_idx ?_ | refine e_slc ?_ | refine e_tup ?_ | refine e_mk ?_ | refine e_dic (by decide) ?_ | refine e_call ?_ | refine e_bi ?_ | refine e_all ?_ | refine e_any ?_ | refine e_join ?_ | refine e_neg ?_ | refine e_meth ?_ | refine e_fld ?_ | refine e_chain ?_ | refine t_and' ?_ | refine t_or' ?_ | refine t_not' ?_ | refine t_e (fun _ _ _ => rfl) ?_ | refine a_nil ?_ | refine a_cons ?_ | refine p_nil' ?_ | refine p_cons' ?_ | refine o_none' ?_ | refine o_some' ?_ | refine l_lst ?_ | refine l_comp ?_ | refine l_val (fun _ _ _ => rfl) ?_ | refine i_seq' ?_ | refine i_tmp' ?_ | refine i_rng ?_ | refine ts_nil' ?_ | refine ts_one' ?_ | refine Rs.ok ?_ | refine And.intro (by simp only [List.length_cons, List.length_nil] <;> decide) ?_)
    refine shape_c h4 fun u st5 mu h5 f5 => ?_
    repeat' (first | refine rs_of (newT_tup (by simp only [List.length_cons, List.length_nil] <;> decide)) ?_ | refine rs_of (newL_add (by simp only [List.length_cons, List.length_nil] <;> decide)) ?_ | refine b_cons' ?_ | refine b_nil' ?_ | refine S_set ?_ | refine S_iff ?_ | refine S_ret ?_ | refine S_expr ?_ | refine S_put ?_ | refine S_par ?_ | refine S_par3 ?_ | refine S_for ?_ | refine e_lit ?_ | refine e_var rfl ?_ | refine e_bin ?_ | refine e_cmp ?_ | refine e_cmpL ?_ | refine e_isN ?_ | refine e_isB ?_ | refine e_and ?_ | refine e_or ?_ | refine e_not ?_ | refine e_ifx ?_ | refine e_idx ?_ | refine e_slc ?_ | refine e_tup ?_ | refine e_mk ?_ | refine e_dic (by decide) ?_ | refine e_call ?_ | refine e_bi ?_ | refine e_all ?_ | refine e_any ?_ | refine e_join ?_ | refine e_neg ?_ | refine e_meth ?_ | refine e_fld ?_ | refine e_chain ?_ | refine t_and' ?_ | refine t_or' ?_ | refine t_not' ?_ | refine t_e (fun _ _ _ => rfl) ?_ | refine a_nil ?_ | refine a_cons ?_ | refine p_nil' ?_ | refine p_cons' ?_ | refine o_none' ?_ | refine o_some' ?_ | refine l_lst ?_ | refine l_comp ?_ | refine l_val (fun _ _ _ => rfl) ?_ | refine i_seq' ?_ | refine i_tmp' ?_ | refine i_rng ?_ | refine ts_nil' ?_ | refine ts_one' ?_ | refine Rs.ok ?_ | refine And.intro (by simp only [List.length_cons, List.length_nil] <;> decide) ?_)
    have mv : Sm s g st5 3 13 v := lit_all (by decide +kernel) hv
    exact fin _ st5 (List.cons_ne_nil _ _) ((SmL.cons (smS (by decide +kernel)) (SmL.cons mv (SmL.cons mu (SmL.nil _ 0)))).le (Nat.le_refl _) (by decide)) h5 (f4.trans f5)
  repeat' (first | refine rs_of (newT_tup (by simp only [List.length_cons, List.length_nil] <;> decide)) ?_ | refine rs_of (newL_add (by simp only [List.length_cons, List.length_nil] <;> decide)) ?_ | refine b_cons' ?_ | refine b_nil' ?_ | refine S_set ?_ | refine S_iff ?_ | refine S_ret ?_ | refine S_expr ?_ | refine S_put ?_ | refine S_par ?_ | refine S_par3 ?_ | refine S_for ?_ | refine e_lit ?_ | refine e_var rfl ?_ | refine e_bin ?_ | refine e_cmp ?_ | refine e_cmpL ?_ | refine e_isN ?_ | refine e_isB ?_ | refine e_and ?_ | refine e_or ?_ | refine e_not ?_ | refine e_ifx ?_ | refine e_idx ?_ | refine e_slc ?_ | refine e_tup ?_ | refine e_mk ?_ | refine e_dic (by decide) ?_ | refine e_call ?_ | refine e_bi ?_ | refine e_all ?_ | refine e_any ?_ | refine e_join ?_ | refine e_neg ?_ | refine e_meth ?_ | refine e_fld ?_ | refine e_chain ?_ | refine t_and' ?_ | refine t_or' ?_ | refine t_not' ?_ | refine t_e (fun _ _ _ => rfl) ?_ | refine a_nil ?_ | refine a_cons ?_ | refine p_nil' ?_ | refine p_cons' ?_ | refine o_none' ?_ | refine o_some' ?_ | refine l_lst ?_ | refine l_comp ?_ | refine l_val (fun _ _ _ => rfl) ?_ | refine i_seq' ?_ | refine i_tmp' ?_ | refine i_rng ?_ | refine ts_nil' ?_ | refine ts_one' ?_ | refine Rs.ok ?_ | refine And.intro (by simp only [List.length_cons, List.length_nil] <;> decide) ?_)
  refine of_new h3 (by simp) (by simp) fun v st4 hv h4 f4 => ?_
  repeat' (first | refine rs_of (newT_tup (by simp only [List.length_cons, List.length_nil] <;> decide)) ?_ | refine rs_of (newL_add (by simp only [List.length_cons, List.length_nil] <;> decide)) ?_ | refine b_cons' ?_ | refine b_nil' ?_ | refine S_set ?_ | refine S_iff ?_ | refine S_ret ?_ | refine S_expr ?_ | refine S_put ?_ | refine S_par ?_ | refine S_par3 ?_ | refine S_for ?_ | refine e_lit ?_ | refine e_var rfl ?_ | refine e_bin ?_ | refine e_cmp ?_ | refine e_cmpL ?_ | refine e_isN ?_ | refine e_isB ?_ | refine e_and ?_ | refine e_or ?_ | refine e_not ?_ | refine e_ifx ?_ | refine e_idx ?_ | refine e_slc ?_ | refine e_tup ?_ | refine e_mk ?_ | refine e_dic (by decide) ?_ | refine e_call ?_ | refine e_bi ?_ | refine e_all ?_ | refine e_any ?_ | refine e_join ?_ | refine e_neg ?_ | refine e_meth ?_ | refine e_fld ?_ | refine e_chain ?_ | refine t_and' ?_ | refine t_or' ?_ | refine t_not' ?_ | refine t_e (fun _ _ _ => rfl) ?_ | refine a_nil ?_ | refine a_cons ?_ | refine p_nil' ?_ | refine p_cons' ?_ | refine o_none' ?_ | refine o_some' ?_ | refine l_lst ?_ | refine l_comp ?_ | refine l_val (fun _ _ _ => rfl) ?_ | refine i_seq' ?_ | refine i_tmp' ?_ | refine i_rng ?_ | refine ts_nil' ?_ | refine ts_one' ?_ | refine Rs.ok ?_ | refine And.intro (by simp only [List.length_cons, List.length_nil] <;> decide) ?_)
  refine of_new h4 (by simp) (by simp) fun x st5 hx h5 f5 => ?_
  repeat' (first | refine rs_of (newT_tup (by simp only [List.length_cons, List.length_nil] <;> decide)) ?_ | refine rs_of (newL_add (by simp only [List.length_cons, List.length_nil] <;> decide)) ?_ | refine b_cons' ?_ | refine b_nil' ?_ | refine S_set ?_ | refine S_iff ?_ | refine S_ret ?_ | refine S_expr ?_ | refine S_put ?_ | refine S_par ?_ | refine S_par3 ?_ | refine S_for ?_ | refine e_lit ?_ | refine e_var rfl ?_ | refine e_bin ?_ | refine e_cmp ?_ | refine e_cmpL ?_ | refine e_isN ?_ | refine e_isB ?_ | refine e_and ?_ | refine e_or ?_ | refine e_not ?_ | refine e_ifx ?_ | refine e_idx ?_ | refine e_slc ?_ | refine e_tup ?_ | refine e_mk ?_ | refine e_dic (by decide) ?_ | refine e_call ?_ | refine e_bi ?_ | refine e_all ?_ | refine e_any ?_ | refine e_join ?_ | refine e_neg ?_ | refine e_meth ?_ | refine e_fld ?_ | refine e_chain ?_ | refine t_and' ?_ | refine t_or' ?_ | refine t_not' ?_ | refine t_e (fun _ _ _ => rfl) ?_ | refine a_nil ?_ | refine a_cons ?_ | refine p_nil' ?_ | refine p_cons' ?_ | refine o_none' ?_ | refine o_some' ?_ | refine l_lst ?_ | refine l_comp ?_ | refine l_val (fun _ _ _ => rfl) ?_ | refine i_seq' ?_ | refine i_tmp' ?_ | refine i_rng ?_ | refine ts_nil' ?_ | refine ts_one' ?_ | refine Rs.ok ?_ | refine And.intro (by simp only [List.length_cons, List.length_nil] <;> decide) ?_)
  refine mark_c h5 fun u st6 mu h6 f6 => ?_
  repeat' (first | refine rs_of (newT_tup (by simp only [List.length_cons, List.length_nil] <;> decide)) ?_ | refine rs_of (newL_add (by simp only [List.length_cons, List.length_nil] <;> decide)) ?_ | refine b_cons' ?_ | refine b_nil' ?_ | refine S_set ?_ | refine S_iff ?_ | refine S_ret ?_ | refine S_expr ?_ | refine S_put ?_ | refine S_par ?_ | refine S_par3 ?_ | refine S_for ?_ | refine e_lit ?_ | refine e_var rfl ?_ | refine e_bin ?_ | refine e_cmp ?_ | refine e_cmpL ?_ | refine e_isN ?_ | refine e_isB ?_ | refine e_and ?_ | refine e_or ?_ | refine e_not ?_ | refine e_ifx ?_ | refine e_idx ?_ | refine e_slc ?_ | refine e_tup ?_ | refine e_mk ?_ | refine e_dic (by decide) ?_ | refine e_call ?_ | refine e_bi ?_ | refine e_all ?_ | refine e_any ?_ | refine e_join ?_ | refine e_neg ?_ | refine e_meth ?_ | refine e_fld ?_ | refine e_chain ?_ | refine t_and' ?_ | refine t_or' ?_ | refine t_not' ?_ | refine t_e (fun _ _ _ => rfl) ?_ | refine a_nil ?_ | refine a_cons ?_ | refine p_nil' ?_ | refine p_cons' ?_ | refine o_none' ?_ | refine o_some' ?_ | refine l_lst ?_ | refine l_comp ?_ | refine l_val (fun _ _ _ => rfl) ?_ | refine i_seq' ?_ | refine i_tmp' ?_ | refine i_rng ?_ | refine ts_nil' ?_ | refine ts_one' ?_ | refine Rs.ok ?_ | refine And.intro (by simp only [List.length_cons, List.length_nil] <;> decide) ?_)
  have mv : Sm s g st6 3 13 v := lit_all (by decide +kernel) hv
  have mx : Sm s g st6 3 13 x := lit_all (by decide +kernel) hx
  exact fin _ st6 (List.cons_ne_nil _ _) ((SmL.cons (smS (by decide +kernel)) (SmL.cons mv (SmL.cons mx (SmL.cons (mu.upto (by decide)) (SmL.nil _ 0))))).le (Nat.le_refl _) (by decide)) h6 ((f4.trans f5).trans f6)
/-! ### odd things -/
def oddA : List MV := [.non, .bl true, .bl false, .int 0, .int 1, .int (-1), .str "", .str "a", .str "A", .str "1a", .str "none", .str "num", .str "kind", .str "obj"]
def oddB : List MV := [.str "abcdefghijkl", .str "abcdefghijklm", .str "a_b"]
theorem odd_c (h : Src st s g) (q : ∀ v st', Sm s g st' 3 50 v → Src st' s g → Fr s g st st' → Q v st') : wC Γ (d + 2) 35 [.ref s] st Q := by
  refine c_body rfl rfl ?_
  show wB Γ (d + 2) m__law_odd [some (.ref s), none] st _
  unfold m__law_odd
  repeat' (first | refine rs_of (newT_tup (by simp only [List.length_cons, List.length_nil] <;> decide)) ?_ | refine rs_of (newL_add (by simp only [List.length_cons, List.length_nil] <;> decide)) ?_ | refine b_cons' ?_ | refine b_nil' ?_ | refine S_set ?_ | refine S_iff ?_ | refine S_ret ?_ | refine S_expr ?_ | refine S_put ?_ | refine S_par ?_ | refine S_par3 ?_ | refine S_for ?_ | refine e_lit ?_ | refine e_var rfl ?_ | refine e_bin ?_ | refine e_cmp ?_ | refine e_cmpL ?_ | refine e_isN ?_ | refine e_isB ?_ | refine e_and ?_ | refine e_or ?_ | refine e_not ?_ | refine e_ifx ?_ | refine e_idx ?_ | refine e_slc ?_ | refine e_tup ?_ | refine e_mk ?_ | refine e_dic (by decide) ?_ | refine e_call ?_ | refine e_bi ?_ | refine e_all ?_ | refine e_any ?_ | refine e_join ?_ | refine e_neg ?_ | refine e_meth ?_ | refine e_fld ?_ | refine e_chain ?_ | refine t_and' ?_ | refine t_or' ?_ | refine t_not' ?_ | refine t_e (fun _ _ _ => rfl) ?_ | refine a_nil ?_ | refine a_cons ?_ | refine p_nil' ?_ | refine p_cons' ?_ | refine o_none' ?_ | refine o_some' ?_ | refine l_lst ?_ | refine l_comp ?_ | refine l_val (fun _ _ _ => rfl) ?_ | refine i_seq' ?_ | refine i_tmp' ?_ | refine i_rng ?_ | refine ts_nil' ?_ | refine ts_one' ?_ | refine Rs.ok ?_ | refine And.intro (by simp only [List.length_cons, List.length_nil] <;> decide) ?_)
  refine ⟨1, rfl, ?_⟩
  repeat' (first | refine rs_of (newT_tup (by simp only [List.length_cons, List.length_nil] <;> decide)) ?_ | refine rs_of (newL_add (by simp only [List.length_cons, List.length_nil] <;> decide)) ?_ | refine b_cons' ?_ | refine b_nil' ?_ | refine S_set ?_ | refine S_iff ?_ | refine S_ret ?_ | refine S_expr ?_ | refine S_put ?_ | refine S_par ?_ | refine S_par3 ?_ | refine S_for ?_ | refine e_lit ?_ | refine e_var rfl ?_ | refine e_bin ?_ | refine e_cmp ?_ | refine e_cmpL ?_ | refine e_isN ?_ | refine e_isB ?_ | refine e_and ?_ | refine e_or ?_ | refine e_not ?_ | refine e_ifx ?_ | refine e_idx ?_ | refine e_slc ?_ | refine e_tup ?_ | refine e_mk ?_ | refine e_dic (by decide) ?_ | refine e_call ?_ | refine e_bi ?_ | refine e_all ?_ | refine e_any ?_ | refine e_join ?_ | refine e_neg ?_ | refine e_meth ?_ | refine e_fld ?_ | refine e_chain ?_ | refine t_and' ?_ | refine t_or' ?_ | refine t_not' ?_ | refine t_e (fun _ _ _ => rfl) ?_ | refine a_nil ?_ | refine a_cons ?_ | refine p_nil' ?_ | refine p_cons' ?_ | refine o_none' ?_ | refine o_some' ?_ | refine l_lst ?_ | refine l_comp ?_ | refine l_val (fun _ _ _ => rfl) ?_ | refine i_seq' ?_ | refine i_tmp' ?_ | refine i_rng ?_ | refine ts_nil' ?_ | refine ts_one' ?_ | refine Rs.ok ?_ | refine And.intro (by simp only [List.length_cons, List.length_nil] <;> decide) ?_)
  refine rs_of (ls_bin ((ls_new h _).fr (add_fr (h.add _).wf _)) (ls_new (h.add _) _) (by decide)) ?_
  have h2 := (h.add (.lst oddA)).add (.lst oddB)
  have f2 := (add_fr h.wf (.lst oddA)).trans (add_fr (s := s) (g := g) (h.add _).wf (.lst oddB))
  show thenQ Γ (d + 2) _ (retQ Q) (Fl.nx, [some (.ref s), some (.ref ((st.add (.lst oddA)).add (.lst oddB)).next)]) (((st.add (.lst oddA)).add (.lst oddB)).add (.lst (oddA ++ oddB)))
  generalize ((st.add (.lst oddA)).add (.lst oddB)) = st2 at h2 f2 ⊢
  have l3 := ls_new h2 (oddA ++ oddB)
  have h3 := h2.add (.lst (oddA ++ oddB))
  have f3 := f2.trans (add_fr h2.wf (.lst (oddA ++ oddB)))
  generalize st2.next = n3 at l3 ⊢
  generalize st2.add (.lst (oddA ++ oddB)) = st3 at l3 h3 f3 ⊢
  clear h2 f2
  repeat' (first | refine rs_of (newT_tup (by simp only [List.length_cons, List.length_nil] <;> decide)) ?_ | refine rs_of (newL_add (by simp only [List.length_cons, List.length_nil] <;> decide)) ?_ | refine b_cons' ?_ | refine b_nil' ?_ | refine S_set ?_ | refine S_iff ?_ | refine S_ret ?_ | refine S_expr ?_ | refine S_put ?_ | refine S_par ?_ | refine S_par3 ?_ | refine S_for ?_ | refine e_lit ?_ | refine e_var rfl ?_ | refine e_bin ?_ | refine e_cmp ?_ | refine e_cmpL ?_ | refine e_isN ?_ | refine e_isB ?_ | refine e_and ?_ | refine e_or ?_ | refine e_not ?_ | refine e_ifx ?_ | refine e_idx ?_ | refine e_slc ?_ | refine e_tup ?_ | refine e_mk ?_ | refine e_dic (by decide) ?_ | refine e_call ?_ | refine e_bi ?_ | refine e_all ?_ | refine e_any ?_ | refine e_join ?_ | refine e_neg ?_ | refine e_meth ?_ | refine e_fld ?_ | refine e_chain ?_ | refine t_and' ?_ | refine t_or' ?_ | refine t_not' ?_ | refine t_e (fun _ _ _ => rfl) ?_ | refine a_nil ?_ | refine a_cons ?_ | refine p_nil' ?_ | refine p_cons' ?_ | refine o_none' ?_ | refine o_some' ?_ | refine l_lst ?_ | refine l_comp ?_ | refine l_val (fun _ _ _ => rfl) ?_ | refine i_seq' ?_ | refine i_tmp' ?_ | refine i_rng ?_ | refine ts_nil' ?_ | refine ts_one' ?_ | refine Rs.ok ?_ | refine And.intro (by simp only [List.length_cons, List.length_nil] <;> decide) ?_)
  have l4 := ls_new h3 []
  have f4 := f3.trans (add_fr h3.wf (.lst []))
  have l3' := l3.fr (add_fr h3.wf (.lst []))
  have h4 := h3.add (.lst [])
  generalize st3.next = n4 at l4 ⊢
  generalize st3.add (.lst []) = st4 at l4 l3' h4 f4 ⊢
  clear h3 f3 l3
  refine ⟨[], rfl, ?_⟩
  have m5 : Sm s g (st4.add (.dK (kvMerge [] []))) 1 0 (.ref st4.next) := .dic 0 0 (Nat.lt_succ_self _) h4.ne.1 h4.ne.2 (get_new h4.wf _)
  have f5 := f4.trans (add_fr h4.wf (.dK (kvMerge [] [])))
  have l4' := l4.fr (add_fr h4.wf (.dK (kvMerge [] [])))
  have l3 := l3'.fr (add_fr h4.wf (.dK (kvMerge [] [])))
  have h5 := h4.add (.dK (kvMerge [] []))
  generalize st4.next = n5 at m5 ⊢
  generalize st4.add (.dK (kvMerge [] [])) = st5 at m5 l4' l3 h5 f5 ⊢
  clear h4 f4 l3' l4
  repeat' (first | refine rs_of (newT_tup (by simp only [List.length_cons, List.length_nil] <;> decide)) ?_ | refine rs_of (newL_add (by simp only [List.length_cons, List.length_nil] <;> decide)) ?_ | refine b_cons' ?_ | refine b_nil' ?_ | refine S_set ?_ | refine S_iff ?_ | refine S_ret ?_ | refine S_expr ?_ | refine S_put ?_ | refine S_par ?_ | refine S_par3 ?_ | refine S_for ?_ | refine e_lit ?_ | refine e_var rfl ?_ | refine e_bin ?_ | refine e_cmp ?_ | refine e_cmpL ?_ | refine e_isN ?_ | refine e_isB ?_ | refine e_and ?_ | refine e_or ?_ | refine e_not ?_ | refine e_ifx ?_ | refine e_idx ?_ | refine e_slc ?_ | refine e_tup ?_ | refine e_mk ?_ | refine e_dic (by decide) ?_ | refine e_call ?_ | refine e_bi ?_ | refine e_all ?_ | refine e_any ?_ | refine e_join ?_ | refine e_neg ?_ | refine e_meth ?_ | refine e_fld ?_ | refine e_chain ?_ | refine t_and' ?_ | refine t_or' ?_ | refine t_not' ?_ | refine t_e (fun _ _ _ => rfl) ?_ | refine a_nil ?_ | refine a_cons ?_ | refine p_nil' ?_ | refine p_cons' ?_ | refine o_none' ?_ | refine o_some' ?_ | refine l_lst ?_ | refine l_comp ?_ | refine l_val (fun _ _ _ => rfl) ?_ | refine i_seq' ?_ | refine i_tmp' ?_ | refine i_rng ?_ | refine ts_nil' ?_ | refine ts_one' ?_ | refine Rs.ok ?_ | refine And.intro (by simp only [List.length_cons, List.length_nil] <;> decide) ?_)
  refine rs_of (ls_bin (l3.fr (add_fr h5.wf _)) (ls_new h5 _) (by simp only [List.length_append, List.length_cons, List.length_nil]; decide)) ?_
  generalize hC : ([.tup [], .ref n4, .ref n5, .tup [.str "none"], .tup [.str "obj", .int 0], .tup [.str "name", .str "a"], .tup [.str "tok", .str "far", .int 0], .tup [.str "bit", .str "on"], .tup [.non, .tup []]] : List MV) = oddC
  have lC : oddC.length = 9 := by rw [← hC]; rfl
  have h6 := h5.add (.lst oddC)
  have f6 := f5.trans (add_fr h5.wf (.lst oddC))
  have g6 : Fr s g st5 (st5.add (.lst oddC)) := add_fr h5.wf (.lst oddC)
  generalize st5.add (.lst oddC) = st6 at h6 f6 g6 ⊢
  have l7 := ls_new h6 (oddA ++ oddB ++ oddC)
  have f7 := f6.trans (add_fr h6.wf (.lst (oddA ++ oddB ++ oddC)))
  have g7 := g6.trans (add_fr h6.wf (.lst (oddA ++ oddB ++ oddC)))
  have h7 := h6.add (.lst (oddA ++ oddB ++ oddC))
  generalize st6.next = n7 at l7 ⊢
  generalize st6.add (.lst (oddA ++ oddB ++ oddC)) = st7 at l7 h7 f7 g7 ⊢
  clear h6 f6 g6
  repeat' (first | refine rs_of (newT_tup (by simp only [List.length_cons, List.length_nil] <;> decide)) ?_ | refine rs_of (newL_add (by simp only [List.length_cons, List.length_nil] <;> decide)) ?_ | refine b_cons' ?_ | refine b_nil' ?_ | refine S_set ?_ | refine S_iff ?_ | refine S_ret ?_ | refine S_expr ?_ | refine S_put ?_ | refine S_par ?_ | refine S_par3 ?_ | refine S_for ?_ | refine e_lit ?_ | refine e_var rfl ?_ | refine e_bin ?_ | refine e_cmp ?_ | refine e_cmpL ?_ | refine e_isN ?_ | refine e_isB ?_ | refine e_and ?_ | refine e_or ?_ | refine e_not ?_ | refine e_ifx ?_ | refine e_idx ?_ | refine e_slc ?_ | refine e_tup ?_ | refine e_mk ?_ | refine e_dic (by decide) ?_ | refine e_call ?_ | refine e_bi ?_ | refine e_all ?_ | refine e_any ?_ | refine e_join ?_ | refine e_neg ?_ | refine e_meth ?_ | refine e_fld ?_ | refine e_chain ?_ | refine t_and' ?_ | refine t_or' ?_ | refine t_not' ?_ | refine t_e (fun _ _ _ => rfl) ?_ | refine a_nil ?_ | refine a_cons ?_ | refine p_nil' ?_ | refine p_cons' ?_ | refine o_none' ?_ | refine o_some' ?_ | refine l_lst ?_ | refine l_comp ?_ | refine l_val (fun _ _ _ => rfl) ?_ | refine i_seq' ?_ | refine i_tmp' ?_ | refine i_rng ?_ | refine ts_nil' ?_ | refine ts_one' ?_ | refine Rs.ok ?_ | refine And.intro (by simp only [List.length_cons, List.length_nil] <;> decide) ?_)
  have l8 := ls_new h7 [.str "a"]
  have l7' := l7.fr (add_fr h7.wf (.lst [.str "a"]))
  have f8 := f7.trans (add_fr h7.wf (.lst [.str "a"]))
  have g8 := g7.trans (add_fr h7.wf (.lst [.str "a"]))
  have h8 := h7.add (.lst [.str "a"])
  generalize st7.next = n8 at l8 ⊢
  generalize st7.add (.lst [.str "a"]) = st8 at l8 l7' h8 f8 g8 ⊢
  refine rs_of (ls_bin (l7'.fr (add_fr h8.wf _)) (ls_new h8 _) (by simp only [List.length_append, lC, List.length_cons, List.length_nil]; decide)) ?_
  generalize hD : ([.tup [.non, .tup [.str "f", .str "f"]], .tup [.str "tok", .str "num", .bl true], .tup [.str "tok", .str "num", .int 99], .ref n8] : List MV) = oddD
  have h9 := h8.add (.lst oddD)
  have g9 : Fr s g st8 (st8.add (.lst oddD)) := add_fr h8.wf (.lst oddD)
  have lD : oddD.length = 4 := by rw [← hD]; rfl
  generalize st8.add (.lst oddD) = st9 at h9 g9 ⊢
  repeat' (first | refine rs_of (newT_tup (by simp only [List.length_cons, List.length_nil] <;> decide)) ?_ | refine rs_of (newL_add (by simp only [List.length_cons, List.length_nil] <;> decide)) ?_ | refine b_cons' ?_ | refine b_nil' ?_ | refine S_set ?_ | refine S_iff ?_ | refine S_ret ?_ | refine S_expr ?_ | refine S_put ?_ | refine S_par ?_ | refine S_par3 ?_ | refine S_for ?_ | refine e_lit ?_ | refine e_var rfl ?_ | refine e_bin ?_ | refine e_cmp ?_ | refine e_cmpL ?_ | refine e_isN ?_ | refine e_isB ?_ | refine e_and ?_ | refine e_or ?_ | refine e_not ?_ | refine e_ifx ?_ | refine e_idx ?_ | refine e_slc ?_ | refine e_tup ?_ | refine e_mk ?_ | refine e_dic (by decide) ?_ | refine e_call ?_ | refine e_bi ?_ | refine e_all ?_ | refine e_any ?_ | refine e_join ?_ | refine e_neg ?_ | refine e_meth ?_ | refine e_fld ?_ | refine e_chain ?_ | refine t_and' ?_ | refine t_or' ?_ | refine t_not' ?_ | refine t_e (fun _ _ _ => rfl) ?_ | refine a_nil ?_ | refine a_cons ?_ | refine p_nil' ?_ | refine p_cons' ?_ | refine o_none' ?_ | refine o_some' ?_ | refine l_lst ?_ | refine l_comp ?_ | refine l_val (fun _ _ _ => rfl) ?_ | refine i_seq' ?_ | refine i_tmp' ?_ | refine i_rng ?_ | refine ts_nil' ?_ | refine ts_one' ?_ | refine Rs.ok ?_ | refine And.intro (by simp only [List.length_cons, List.length_nil] <;> decide) ?_)
  refine of_new h9 (by intro e; have := congrArg List.length e; simp [lC, lD] at this) (by simp [lC, lD]; decide) fun v st10 hv h10 f10 => ?_
  refine q v st10 ?_ h10 ((f8.trans g9).trans f10)
  have fA : Fr s g st8 st10 := g9.trans f10
  have fB : Fr s g st5 st10 := g8.trans fA
  rcases List.mem_append.mp hv with hv | hv
  · rcases List.mem_append.mp hv with hv | hv
    · exact (lit_all (k := 1) (w := 13) (xs := oddA ++ oddB) (by decide +kernel) hv).le (by decide) (by decide)
    · rw [← hC] at hv
      simp only [List.mem_cons, List.not_mem_nil, or_false] at hv
      rcases hv with rfl | rfl | rfl | rfl | rfl | rfl | rfl | rfl | rfl
      · exact (lit_all (k := 3) (w := 50) (xs := [.tup []]) (by decide +kernel) (by simp))
      · exact ((SmL.lst l4'.lt l4'.ns l4'.ng l4'.gt (SmL.nil 0 0)).fr fB).le (by decide) (by decide)
      · exact (m5.fr fB).le (by decide) (by decide)
      · exact (lit_all (k := 3) (w := 50) (xs := [.tup [.str "none"]]) (by decide +kernel) (by simp))
      · exact (lit_all (k := 3) (w := 50) (xs := [.tup [.str "obj", .int 0]]) (by decide +kernel) (by simp))
      · exact (lit_all (k := 3) (w := 50) (xs := [.tup [.str "name", .str "a"]]) (by decide +kernel) (by simp))
      · exact (lit_all (k := 3) (w := 50) (xs := [.tup [.str "tok", .str "far", .int 0]]) (by decide +kernel) (by simp))
      · exact (lit_all (k := 3) (w := 50) (xs := [.tup [.str "bit", .str "on"]]) (by decide +kernel) (by simp))
      · exact (lit_all (k := 3) (w := 50) (xs := [.tup [.non, .tup []]]) (by decide +kernel) (by simp))
  · rw [← hD] at hv
    simp only [List.mem_cons, List.not_mem_nil, or_false] at hv
    rcases hv with rfl | rfl | rfl | rfl
    · exact (lit_all (k := 3) (w := 50) (xs := [.tup [.non, .tup [.str "f", .str "f"]]]) (by decide +kernel) (by simp))
    · exact (lit_all (k := 3) (w := 50) (xs := [.tup [.str "tok", .str "num", .bl true]]) (by decide +kernel) (by simp))
    · exact (lit_all (k := 3) (w := 50) (xs := [.tup [.str "tok", .str "num", .int 99]]) (by decide +kernel) (by simp))
    · exact ((SmL.lst l8.lt l8.ns l8.ng l8.gt ((SmL.cons (smS (k := 2) (by decide +kernel)) (SmL.nil 2 0)).le (Nat.le_refl _) (by decide : _ ≤ 50))).fr fA)
end K45

set_option Elab.async false
set_option linter.all false
set_option maxRecDepth 100000
set_option maxHeartbeats 2000000
namespace K45
open PySem L2 MP
variable {d : Nat} {st st' : Store} {Q : MV → Store → Prop} {s g : Nat}
theorem sm_split {k w : Nat} {xs : List MV} (h : SmL s g st k w xs) {i : Nat} {x : MV} (hx : xs[i]? = some x) : ∃ w1 w2 w3, SmL s g st k w1 (xs.take i) ∧ Sm s g st k w2 x ∧ SmL s g st k w3 (xs.drop (i + 1)) ∧ w1 + (w2 + 1) + w3 ≤ w := by
  obtain ⟨ps, rfl, h2, h3⟩ := h
  rw [List.getElem?_map] at hx
  cases hp : ps[i]? with
  | none => rw [hp] at hx; cases hx
  | some p =>
    rw [hp] at hx
    cases hx
    have hi : i < ps.length := by
      rcases Nat.lt_or_ge i ps.length with h1 | h1
      · exact h1
      · rw [List.getElem?_eq_none h1] at hp; cases hp
    have e : ps = ps.take i ++ p :: ps.drop (i + 1) := by
      have e1 : ps.drop i = p :: ps.drop (i + 1) := by
        rw [List.drop_eq_getElem_cons hi]
        rw [List.getElem?_eq_getElem hi] at hp
        cases hp
        rfl
      rw [← e1, List.take_append_drop]
    refine ⟨wsum (ps.take i), p.1, wsum (ps.drop (i + 1)), ⟨ps.take i, by rw [List.map_take], fun q hq => h2 q (List.mem_of_mem_take hq), Nat.le_refl _⟩, h2 p (List.mem_of_getElem? hp), ⟨ps.drop (i + 1), by rw [List.map_drop], fun q hq => h2 q (List.mem_of_mem_drop hq), Nat.le_refl _⟩, ?_⟩
    have e2 : wsum ps = wsum (ps.take i) + (p.1 + 1 + wsum (ps.drop (i + 1))) := by
      conv => lhs; rw [e]
      rw [wsum_append]
      rfl
    omega
theorem cut_lo {xs : List MV} {i : Nat} (h : i ≤ xs.length) : cut xs none (some (i : Int)) = xs.take i := by
  unfold cut
  rw [HT.sIx_none, HT.sIx_nat, List.drop_zero, Nat.sub_zero, Nat.min_eq_left h]
theorem cut_hi {xs : List MV} {i : Nat} : cut xs (some (i : Int)) none = xs.drop i := by
  unfold cut
  rw [HT.sIx_none, HT.sIx_nat]
  rcases Nat.le_total i xs.length with h | h
  · rw [Nat.min_eq_left h]
    exact List.take_of_length_le (by rw [List.length_drop]; omega)
  · rw [Nat.min_eq_right h, List.drop_of_length_le h, List.drop_of_length_le (Nat.le_refl _), List.take_nil]
theorem sm_pos {k w : Nat} {xs : List MV} (h : Sm s g st k w (.tup xs)) : 1 ≤ k := by
  cases h with
  | tup _ _ _ => omega
/-- a tuple, or none -/
theorem tupOr {k w : Nat} {v : MV} (h : Sm s g st k w v) : (∃ xs, v = .tup xs) ∨ biV (.isi [.tuple]) [v] st = .ok (.bl false) st := by
  have e := isi_tup h.g1
  cases v with
  | tup xs => exact .inl ⟨xs, rfl⟩
  | _ => exact .inr e
def bentA : List MS := [.set 4 (.call 23 [.var 0, .lit (.int 5)]),
  .iff (.and (.bi (.isi [.tuple]) [.var 1]) (.cmp .lt (.var 4) (.lit (.int 4))))
  [.ret (.idx (.mk (.lstD [.slc (.var 1) (some (.lit (.int 1))) (none), .slc (.var 1) (none) (some (.neg (.lit (.int 1)))), .bin .add (.var 1) (.tupD [.call 35 [.var 0]]), .bi .list [.var 1]])) (.var 4))]
  [],
  .ret (.call 35 [.var 0])]
theorem bentA_ok {k w : Nat} {v dp : MV} {a3 a4 : Option MV} (h : Src st s g) (hv : Sm s g st k w v) (hw : w ≤ 800) {R : List MS} (q : ∀ u st', Sm s g st' (k + 4) (w + 60) u → Src st' s g → Fr s g st st' → Q u st') : wB Γ (d + 3) bentA [some (.ref s), some v, some dp, a3, a4] st (thenQ Γ (d + 3) R (retQ Q)) := by
  unfold bentA
  repeat' (first | refine rs_of (newT_tup (by simp only [List.length_cons, List.length_nil] <;> decide)) ?_ | refine rs_of (newL_add (by simp only [List.length_cons, List.length_nil] <;> decide)) ?_ | refine b_cons' ?_ | refine b_nil' ?_ | refine S_set ?_ | refine S_iff ?_ | refine S_ret ?_ | refine S_expr ?_ | refine S_put ?_ | refine S_par ?_ | refine S_par3 ?_ | refine S_for ?_ | refine e_lit ?_ | refine e_var rfl ?_ | refine e_bin ?_ | refine e_cmp ?_ | refine e_cmpL ?_ | refine e_isN ?_ | refine e_isB ?_ | refine e_and ?_ | refine e_or ?_ | refine e_not ?_ | refine e_ifx ?_ | refine e_idx ?_ | refine e_slc ?_ | refine e_tup ?_ | refine e_mk ?_ | refine e_dic (by decide) ?_ | refine e_call ?_ | refine e_bi ?_ | refine e_all ?_ | refine e_any ?_ | refine e_join ?_ | refine e_neg ?_ | refine e_meth ?_ | refine e_fld ?_ | refine e_chain ?_ | refine t_and' ?_ | refine t_or' ?_ | refine t_not' ?_ | refine t_e (fun _ _ _ => rfl) ?_ | refine a_nil ?_ | refine a_cons ?_ | refine p_nil' ?_ | refine p_cons' ?_ | refine o_none' ?_ | refine o_some' ?_ | refine l_lst ?_ | refine l_comp ?_ | refine l_val (fun _ _ _ => rfl) ?_ | refine i_seq' ?_ | refine i_tmp' ?_ | refine i_rng ?_ | refine ts_nil' ?_ | refine ts_one' ?_ | refine Rs.ok ?_ | refine And.intro (by simp only [List.length_cons, List.length_nil] <;> decide) ?_)
  refine pick_c h (by decide) (by decide) fun way st1 w0 w1 h1 f1 => ?_
  have v1 := hv.fr f1
  have odd : wB Γ (d + 3) [.ret (.call 35 [.var 0])] [some (.ref s), some v, some dp, a3, some (.int way)] st1 (thenQ Γ (d + 3) R (retQ Q)) := by
    repeat' (first | refine rs_of (newT_tup (by simp only [List.length_cons, List.length_nil] <;> decide)) ?_ | refine rs_of (newL_add (by simp only [List.length_cons, List.length_nil] <;> decide)) ?_ | refine b_cons' ?_ | refine b_nil' ?_ | refine S_set ?_ | refine S_iff ?_ | refine S_ret ?_ | refine S_expr ?_ | refine S_put ?_ | refine S_par ?_ | refine S_par3 ?_ | refine S_for ?_ | refine e_lit ?_ | refine e_var rfl ?_ | refine e_bin ?_ | refine e_cmp ?_ | refine e_cmpL ?_ | refine e_isN ?_ | refine e_isB ?_ | refine e_and ?_ | refine e_or ?_ | refine e_not ?_ | refine e_ifx ?_ | refine e_idx ?_ | refine e_slc ?_ | refine e_tup ?_ | refine e_mk ?_ | refine e_dic (by decide) ?_ | refine e_call ?_ | refine e_bi ?_ | refine e_all ?_ | refine e_any ?_ | refine e_join ?_ | refine e_neg ?_ | refine e_meth ?_ | refine e_fld ?_ | refine e_chain ?_ | refine t_and' ?_ | refine t_or' ?_ | refine t_not' ?_ | refine t_e (fun _ _ _ => rfl) ?_ | refine a_nil ?_ | refine a_cons ?_ | refine p_nil' ?_ | refine p_cons' ?_ | refine o_none' ?_ | refine o_some' ?_ | refine l_lst ?_ | refine l_comp ?_ | refine l_val (fun _ _ _ => rfl) ?_ | refine i_seq' ?_ | refine i_tmp' ?_ | refine i_rng ?_ | refine ts_nil' ?_ | refine ts_one' ?_ | refine Rs.ok ?_ | refine And.intro (by simp only [List.length_cons, List.length_nil] <;> decide) ?_)
    exact odd_c h1 fun u st2 hu h2 f2 => q u st2 (hu.le (by omega) (by omega)) h2 (f1.trans f2)
  rcases tupOr v1 with ⟨xs, rfl⟩ | e
  · have items := v1.items
    have hl : xs.length ≤ 800 := Nat.le_trans items.len hw
    refine b_cons' (S_iff (t_and' (t_e (fun _ _ _ => rfl) (e_bi (a_cons (e_var rfl (a_nil (rs_of (isi_of rfl) ⟨true, rfl, (fun _ => ?_), fun z => by cases z⟩))))))))
    refine t_e (fun _ _ _ => rfl) (e_cmp (e_var rfl (e_lit (Rs.ok ⟨_, rfl, fun hk => ?_, fun hk => b_nil' odd⟩))))
    have w4 : way < 4 := of_decide_eq_true hk
    repeat' (first | refine rs_of (newT_tup (by simp only [List.length_cons, List.length_nil] <;> decide)) ?_ | refine rs_of (newL_add (by simp only [List.length_cons, List.length_nil] <;> decide)) ?_ | refine b_cons' ?_ | refine b_nil' ?_ | refine S_set ?_ | refine S_iff ?_ | refine S_ret ?_ | refine S_expr ?_ | refine S_put ?_ | refine S_par ?_ | refine S_par3 ?_ | refine S_for ?_ | refine e_lit ?_ | refine e_var rfl ?_ | refine e_bin ?_ | refine e_cmp ?_ | refine e_cmpL ?_ | refine e_isN ?_ | refine e_isB ?_ | refine e_and ?_ | refine e_or ?_ | refine e_not ?_ | refine e_ifx ?_ | refine e_idx ?_ | refine e_slc ?_ | refine e_tup ?_ | refine e_mk ?_ | refine e_dic (by decide) ?_ | refine e_call ?_ | refine e_bi ?_ | refine e_all ?_ | refine e_any ?_ | refine e_join ?_ | refine e_neg ?_ | refine e_meth ?_ | refine e_fld ?_ | refine e_chain ?_ | refine t_and' ?_ | refine t_or' ?_ | refine t_not' ?_ | refine t_e (fun _ _ _ => rfl) ?_ | refine a_nil ?_ | refine a_cons ?_ | refine p_nil' ?_ | refine p_cons' ?_ | refine o_none' ?_ | refine o_some' ?_ | refine l_lst ?_ | refine l_comp ?_ | refine l_val (fun _ _ _ => rfl) ?_ | refine i_seq' ?_ | refine i_tmp' ?_ | refine i_rng ?_ | refine ts_nil' ?_ | refine ts_one' ?_ | refine Rs.ok ?_ | refine And.intro (by simp only [List.length_cons, List.length_nil] <;> decide) ?_)
    refine ⟨1, rfl, ?_⟩
    repeat' (first | refine rs_of (newT_tup (by simp only [List.length_cons, List.length_nil] <;> decide)) ?_ | refine rs_of (newL_add (by simp only [List.length_cons, List.length_nil] <;> decide)) ?_ | refine b_cons' ?_ | refine b_nil' ?_ | refine S_set ?_ | refine S_iff ?_ | refine S_ret ?_ | refine S_expr ?_ | refine S_put ?_ | refine S_par ?_ | refine S_par3 ?_ | refine S_for ?_ | refine e_lit ?_ | refine e_var rfl ?_ | refine e_bin ?_ | refine e_cmp ?_ | refine e_cmpL ?_ | refine e_isN ?_ | refine e_isB ?_ | refine e_and ?_ | refine e_or ?_ | refine e_not ?_ | refine e_ifx ?_ | refine e_idx ?_ | refine e_slc ?_ | refine e_tup ?_ | refine e_mk ?_ | refine e_dic (by decide) ?_ | refine e_call ?_ | refine e_bi ?_ | refine e_all ?_ | refine e_any ?_ | refine e_join ?_ | refine e_neg ?_ | refine e_meth ?_ | refine e_fld ?_ | refine e_chain ?_ | refine t_and' ?_ | refine t_or' ?_ | refine t_not' ?_ | refine t_e (fun _ _ _ => rfl) ?_ | refine a_nil ?_ | refine a_cons ?_ | refine p_nil' ?_ | refine p_cons' ?_ | refine o_none' ?_ | refine o_some' ?_ | refine l_lst ?_ | refine l_comp ?_ | refine l_val (fun _ _ _ => rfl) ?_ | refine i_seq' ?_ | refine i_tmp' ?_ | refine i_rng ?_ | refine ts_nil' ?_ | refine ts_one' ?_ | refine Rs.ok ?_ | refine And.intro (by simp only [List.length_cons, List.length_nil] <;> decide) ?_)
    refine ⟨1, rfl, -1, rfl, ?_⟩
    repeat' (first | refine rs_of (newT_tup (by simp only [List.length_cons, List.length_nil] <;> decide)) ?_ | refine rs_of (newL_add (by simp only [List.length_cons, List.length_nil] <;> decide)) ?_ | refine b_cons' ?_ | refine b_nil' ?_ | refine S_set ?_ | refine S_iff ?_ | refine S_ret ?_ | refine S_expr ?_ | refine S_put ?_ | refine S_par ?_ | refine S_par3 ?_ | refine S_for ?_ | refine e_lit ?_ | refine e_var rfl ?_ | refine e_bin ?_ | refine e_cmp ?_ | refine e_cmpL ?_ | refine e_isN ?_ | refine e_isB ?_ | refine e_and ?_ | refine e_or ?_ | refine e_not ?_ | refine e_ifx ?_ | refine e_idx ?_ | refine e_slc ?_ | refine e_tup ?_ | refine e_mk ?_ | refine e_dic (by decide) ?_ | refine e_call ?_ | refine e_bi ?_ | refine e_all ?_ | refine e_any ?_ | refine e_join ?_ | refine e_neg ?_ | refine e_meth ?_ | refine e_fld ?_ | refine e_chain ?_ | refine t_and' ?_ | refine t_or' ?_ | refine t_not' ?_ | refine t_e (fun _ _ _ => rfl) ?_ | refine a_nil ?_ | refine a_cons ?_ | refine p_nil' ?_ | refine p_cons' ?_ | refine o_none' ?_ | refine o_some' ?_ | refine l_lst ?_ | refine l_comp ?_ | refine l_val (fun _ _ _ => rfl) ?_ | refine i_seq' ?_ | refine i_tmp' ?_ | refine i_rng ?_ | refine ts_nil' ?_ | refine ts_one' ?_ | refine Rs.ok ?_ | refine And.intro (by simp only [List.length_cons, List.length_nil] <;> decide) ?_)
    refine odd_c h1 fun u st2 hu h2 f2 => ?_
    repeat' (first | refine rs_of (newT_tup (by simp only [List.length_cons, List.length_nil] <;> decide)) ?_ | refine rs_of (newL_add (by simp only [List.length_cons, List.length_nil] <;> decide)) ?_ | refine b_cons' ?_ | refine b_nil' ?_ | refine S_set ?_ | refine S_iff ?_ | refine S_ret ?_ | refine S_expr ?_ | refine S_put ?_ | refine S_par ?_ | refine S_par3 ?_ | refine S_for ?_ | refine e_lit ?_ | refine e_var rfl ?_ | refine e_bin ?_ | refine e_cmp ?_ | refine e_cmpL ?_ | refine e_isN ?_ | refine e_isB ?_ | refine e_and ?_ | refine e_or ?_ | refine e_not ?_ | refine e_ifx ?_ | refine e_idx ?_ | refine e_slc ?_ | refine e_tup ?_ | refine e_mk ?_ | refine e_dic (by decide) ?_ | refine e_call ?_ | refine e_bi ?_ | refine e_all ?_ | refine e_any ?_ | refine e_join ?_ | refine e_neg ?_ | refine e_meth ?_ | refine e_fld ?_ | refine e_chain ?_ | refine t_and' ?_ | refine t_or' ?_ | refine t_not' ?_ | refine t_e (fun _ _ _ => rfl) ?_ | refine a_nil ?_ | refine a_cons ?_ | refine p_nil' ?_ | refine p_cons' ?_ | refine o_none' ?_ | refine o_some' ?_ | refine l_lst ?_ | refine l_comp ?_ | refine l_val (fun _ _ _ => rfl) ?_ | refine i_seq' ?_ | refine i_tmp' ?_ | refine i_rng ?_ | refine ts_nil' ?_ | refine ts_one' ?_ | refine Rs.ok ?_ | refine And.intro (by simp only [List.length_cons, List.length_nil] <;> decide) ?_)
    refine rs_of (add_tup (by rw [List.length_cons, List.length_nil]; omega)) ?_
    refine a_cons (e_bi (a_cons (e_var rfl (a_nil (rs_of (newL_add (xs := xs) (by omega)) (a_nil ⟨by simp only [List.length_cons, List.length_nil]; decide, ?_⟩))))))
    have l3 := ls_new h2 xs
    have f3 := f2.trans (add_fr h2.wf (.lst xs))
    have g3 : Fr s g st2 (st2.add (.lst xs)) := add_fr h2.wf (.lst xs)
    have h3 := h2.add (.lst xs)
    generalize st2.next = n3 at l3 ⊢
    generalize st2.add (.lst xs) = st3 at l3 f3 g3 h3 ⊢
    refine rs_of (newL_add (by simp only [List.length_cons, List.length_nil]; decide)) (e_var rfl ?_)
    obtain ⟨u4, hu4, e4⟩ := idx_lst (r := way) (get_new h3.wf (.lst [.tup (cut xs (some 1) none), .tup (cut xs none (some (-1))), .tup (xs ++ [u]), .ref n3])) w0 (by simp only [List.length_cons, List.length_nil]; omega)
    refine rs_of e4 ?_
    have f4 := f3.trans (add_fr h3.wf (.lst [.tup (cut xs (some 1) none), .tup (cut xs none (some (-1))), .tup (xs ++ [u]), .ref n3]))
    have g4 : Fr s g st3 _ := add_fr h3.wf (.lst [.tup (cut xs (some 1) none), .tup (cut xs none (some (-1))), .tup (xs ++ [u]), .ref n3])
    refine q u4 _ ?_ (h3.add _) (f1.trans f4)
    have it4 : SmL s g (st3.add (.lst [.tup (cut xs (some 1) none), .tup (cut xs none (some (-1))), .tup (xs ++ [u]), .ref n3])) (k - 1) w xs := items.fr f4
    simp only [List.mem_cons, List.not_mem_nil, or_false] at hu4
    rcases hu4 with rfl | rfl | rfl | rfl
    · exact (it4.cut _ _).tup.le (by omega) (by omega)
    · exact (it4.cut _ _).tup.le (by omega) (by omega)
    · exact ((it4.le (by omega : k - 1 ≤ k + 3) (Nat.le_refl w)).append (SmL.cons ((hu.fr (g3.trans g4)).le (by omega : 3 ≤ k + 3) (Nat.le_refl 50)) (SmL.nil (k + 3) 0))).tup.le (by omega) (by omega)
    · exact (SmL.lst (l3.fr g4).lt l3.ns l3.ng (l3.fr g4).gt it4).le (by omega) (by omega)
  · refine b_cons' (S_iff (t_and' (t_e (fun _ _ _ => rfl) (e_bi (a_cons (e_var rfl (a_nil (rs_of e ⟨false, rfl, (fun z => by cases z), fun _ => ⟨(fun z => by cases z), fun _ => b_nil' odd⟩⟩))))))))
theorem bent_c : ∀ (n : Nat) {d k w : Nat} {v : MV} {st : Store} {Q : MV → Store → Prop}, Src st s g → Sm s g st k w v → w ≤ 800 → (∀ u st', Sm s g st' (k + 4) (w + 60) u → Src st' s g → Fr s g st st' → Q u st') → wC Γ (d + n + 3) 36 [.ref s, v, .int n] st Q
  | n, d, k, w, v, st, Q, h, hv, hw, q => by
    refine c_body rfl rfl ?_
    show wB Γ (d + n + 3) (.iff _ bentA [] :: _) [some (.ref s), some v, some (.int n), none, none] st _
    rcases tupOr hv with ⟨xs, rfl⟩ | e
    · have items := hv.items
      have hl : xs.length ≤ 800 := Nat.le_trans items.len hw
      refine b_cons' (S_iff (t_or' (t_not' (t_e (fun _ _ _ => rfl) (e_bi (a_cons (e_var rfl (a_nil (rs_of (isi_of rfl) ⟨true, rfl, (fun _ => ?_), fun z => by cases z⟩)))))))))
      refine t_or' (t_e (fun _ _ _ => rfl) (e_cmp (e_var rfl (e_tup (a_nil (rs_of (newT_tup (Nat.zero_le _)) (rs_of (eq_nil _) ⟨_, rfl, fun hk => ?_, fun hk => ⟨fun _ => bentA_ok h hv hw q, fun z => by cases z⟩⟩)))))))
      refine t_or' (t_e (fun _ _ _ => rfl) (e_cmp (e_var rfl (e_lit (rs_of (eq_int _ _) ⟨_, rfl, fun h0 => ?_, fun hk => ⟨fun _ => bentA_ok h hv hw q, fun z => by cases z⟩⟩)))))
      refine t_e (fun _ _ _ => rfl) (e_cmp (e_call (a_cons (e_var rfl (a_cons (e_lit (a_nil ?_))))))) 
      refine pick_c h (by decide) (by decide) fun p st1 p0 p1 h1 f1 => ?_
      have v1 := hv.fr f1
      refine e_lit (rs_of (eq_int _ _) ⟨_, rfl, fun _ => bentA_ok h1 v1 hw fun u st' hu hs hf => q u st' hu hs (f1.trans hf), fun _ => b_nil' ?_⟩)
      -- a member
      have hp : 0 < xs.length := by
        cases xs with
        | nil => cases hk
        | cons x r => exact Nat.succ_pos _
      refine b_cons' (S_set (e_call (a_cons (e_var rfl (a_cons (e_bi (a_cons (e_var rfl (a_nil (rs_of (len_tup _) (a_nil ?_)))))))))))
      refine pick_c h1 (by omega) (by omega) fun i st2 i0 i1 h2 f2 => ?_
      obtain ⟨j, rfl⟩ : ∃ j : Nat, i = (j : Int) := ⟨i.toNat, by omega⟩
      have hj : j < xs.length := by omega
      have hx : xs[j]? = some xs[j] := List.getElem?_eq_getElem hj
      generalize xs[j] = x at hx
      obtain ⟨w1, wx, w2, s1, sx, s2, hs⟩ := sm_split ((v1.fr f2).items) hx
      have n1 : n ≠ 0 := by
        intro hn
        subst hn
        cases h0
      obtain ⟨m, rfl⟩ : ∃ m, n = m + 1 := ⟨n - 1, by omega⟩
      refine b_cons' (S_ret (e_bin (e_bin (e_slc (e_var rfl (o_none' (o_some' (e_var rfl ⟨_, rfl, Rs.ok ?_⟩))))))))
      refine e_tup (a_cons (e_call (a_cons (e_var rfl (a_cons (e_idx (e_var rfl (e_var rfl (rs_of (ix_c hx) (a_cons (e_bin (e_var rfl (e_lit (Rs.ok (a_nil ?_)))))))))))))))
      have em : (((m + 1 : Nat) : Int) - 1) = (m : Int) := by omega
      rw [em]
      refine bent_c m h2 sx (by omega) fun u st3 hu h3 f3 => ?_
      refine a_nil (rs_of (newT_tup (by simp only [List.length_cons, List.length_nil]; decide)) ?_)
      have ce : cut xs none (some (j : Int)) = xs.take j := cut_lo (by omega)
      rw [ce]
      refine rs_of (add_tup (by rw [List.length_take, List.length_cons, List.length_nil]; omega)) ?_
      refine e_slc (e_var rfl (o_some' (e_bin (e_var rfl (e_lit (Rs.ok ⟨((j + 1 : Nat) : Int), by congr 1, o_none' (Rs.ok ?_)⟩))))))
      rw [cut_hi]
      refine rs_of (add_tup (by rw [List.length_append, List.length_take, List.length_cons, List.length_nil, List.length_drop]; omega)) ?_
      refine q _ st3 ?_ h3 ((f1.trans f2).trans f3)
      have hk1 : k - 1 ≤ k + 3 := by omega
      exact ((((s1.fr f3).le hk1 (Nat.le_refl _)).append (SmL.cons (hu.upto (by have := sm_pos hv; omega : k - 1 + 4 ≤ k + 3) ) (SmL.nil _ 0))).append ((s2.fr f3).le hk1 (Nat.le_refl _))).tup.le (by omega) (by omega)
    · refine b_cons' (S_iff (t_or' (t_not' (t_e (fun _ _ _ => rfl) (e_bi (a_cons (e_var rfl (a_nil (rs_of e ⟨false, rfl, (fun z => by cases z), fun _ => ⟨fun _ => bentA_ok h hv hw q, fun z => by cases z⟩⟩)))))))))
end K45

set_option Elab.async false
set_option linter.all false
set_option maxRecDepth 100000
set_option maxHeartbeats 2000000
namespace K45
open PySem L2 MP
variable {d : Nat} {st st' : Store} {Q : MV → Store → Prop} {s g c r : Nat}
/-- turns over a list that stays -/
theorem f_inv_live {Γ : Tab} {n : Nat} {xs : List MV} {tg : Tg} {body : List MS} (P : MP.Env → Store → Prop) (hP : ∀ env st, P env st → st.get n = some (.lst xs))
    (step : ∀ v env st, v ∈ xs → P env st → ∃ env1, tg.set v env = some env1 ∧ wB Γ d body env1 st fun r st2 => (r.1 = .nx ∨ r.1 = .ct) ∧ P r.2 st2) {Q : Fl × MP.Env → Store → Prop}
    (out : ∀ env st, P env st → Q (.nx, env) st) : ∀ (m i : Nat) (env : MP.Env) (st : Store), xs.length ≤ i + m → P env st → wF Γ d (.live n i) tg body env st Q
  | m, i, env, st, hm, h0 => by
    have en : (Itv.live n i).next st = some (match xs[i]? with
      | some x => some (x, .live n (i + 1))
      | none => none) := by
      show (match st.get n with
        | some (.lst xs) => some (match xs[i]? with
          | some x => some (x, Itv.live n (i + 1))
          | none => none)
        | _ => none) = _
      rw [hP env st h0]
    cases hx : xs[i]? with
    | none =>
      rw [hx] at en
      exact f_live en (out env st h0)
    | some x =>
      rw [hx] at en
      have hi : i < xs.length := by
        rcases Nat.lt_or_ge i xs.length with h1 | h1
        · exact h1
        · rw [List.getElem?_eq_none h1] at hx; cases hx
      obtain ⟨env1, e, hb⟩ := step x env st (List.mem_of_getElem? hx) h0
      refine f_live en ⟨env1, e, hb.mono fun r st2 ⟨h1, h2⟩ => ?_⟩
      obtain ⟨fl, env'⟩ := r
      obtain ⟨m', rfl⟩ : ∃ m', m = m' + 1 := ⟨m - 1, by omega⟩
      have q := f_inv_live P hP step out m' (i + 1) env' st2 (by omega) h2
      rcases h1 with h1 | h1 <;> (simp only at h1; subst h1; exact q)
theorem repr_bl (b : Bool) : biV .repr [.bl b] st = .ok (.str (PyData.shown (.bool b))) st := by
  show (match toR st 66 (.bl b) with
    | some d => if d.showable = true ∧ d.shown.length ≤ sizeLine ∧ d.depth ≤ 64 then Res.ok (MV.str d.shown) st else .stuck
    | none => .stuck) = _
  exact if_pos (by cases b <;> decide +kernel)
theorem Sig.fr (h : Sig st c r) (f : Fr s g st st') (hc : c ≠ s ∧ c ≠ g) (hr : r ≠ s ∧ r ≠ g) : Sig st' c r :=
  ⟨Nat.lt_of_lt_of_le h.lc f.le, Nat.lt_of_lt_of_le h.lr f.le, h.gc.imp fun _ x => (f.kp _ h.lc hc.1 hc.2).trans x, (f.kp _ h.lr hr.1 hr.2).trans h.gr⟩
def lookB : List MS := [.set 7 (.bi .repr [.var 6]),
  .iff (.cmp .ne (.bi .repr [.call 9 [.var 2, .var 6]]) (.bi .repr [.call 33 [.var 6]]))
  [.ret (.lit (.bl false))]
  [],
  .iff (.or (.cmp .ne (.bi .repr [.call 10 [.var 2, .var 6]]) (.bi .repr [.call 34 [.var 6]])) (.cmp .ne (.bi .repr [.var 6]) (.var 7)))
  [.ret (.lit (.bl false))]
  []]
theorem look_ok {x : MV} {a0 a3 a4 a5 a7 : Option MV} (h : Src st s g) (S : Sig st c r) (hc : c ≠ s ∧ c ≠ g) (hr : r ≠ s ∧ r ≠ g) (hx : Sm s g st 12 400 x) {Q : Fl × MP.Env → Store → Prop}
    (q : ∀ st' b7, Src st' s g → Fr s g st st' → Q (.nx, [a0, some (.ref s), some (.ref c), a3, a4, a5, some x, b7]) st') :
    wB Γ (d + 4) lookB [a0, some (.ref s), some (.ref c), a3, a4, a5, some x, a7] st Q := by
  obtain ⟨dt, D⟩ := hx.da
  have gg : GG st x := ⟨s, g, 12, 400, by decide, hx⟩
  unfold lookB
  refine b_cons' (S_set (e_bi (a_cons (e_var rfl (a_nil (rs_of (repr_da (by decide) (by decide) D) ?_))))))
  refine b_cons' (S_iff (t_e (fun _ _ _ => rfl) (e_cmp (e_bi (a_cons (e_call (a_cons (e_var rfl (a_cons (e_var rfl (a_nil ?_)))))))))))
  refine is_fact_ok S gg (a_nil (rs_of (repr_bl _) ?_))
  refine e_bi (a_cons (e_call (a_cons (e_var rfl (a_nil ?_)))))
  refine law_fact_ok h.wf gg fun st1 e1 => a_nil (rs_of (repr_bl _) (rs_of ne_str' ⟨_, rfl, fun hk => ?_, fun _ => b_nil' ?_⟩))
  · simp at hk
  have h1 := Src.ext h e1
  have S1 := S.ext e1
  have x1 := hx.fr (Fr.ext (s := s) (g := g) e1)
  have gg1 : GG st1 x := ⟨s, g, 12, 400, by decide, x1⟩
  refine b_cons' (S_iff (t_or' (t_e (fun _ _ _ => rfl) (e_cmp (e_bi (a_cons (e_call (a_cons (e_var rfl (a_cons (e_var rfl (a_nil ?_))))))))))))
  refine is_watched_ok S1 gg1 (a_nil (rs_of (repr_bl _) ?_))
  refine e_bi (a_cons (e_call (a_cons (e_var rfl (a_nil ?_)))))
  refine law_watched_ok h1.wf gg1 fun st2 e2 => a_nil (rs_of (repr_bl _) (rs_of ne_str' ⟨_, rfl, fun _ => ?_, fun hk => ?_⟩))
  · have f02 : Fr s g st st2 := (Fr.ext e1).trans (Fr.ext e2)
    refine t_e (fun _ _ _ => rfl) (e_cmp (e_bi (a_cons (e_var rfl (a_nil (rs_of (repr_da (by decide) (by decide) (D.fr f02 hx)) (e_var rfl (rs_of ne_str' ⟨_, rfl, fun hk => ?_, fun _ => b_nil' ?_⟩))))))))
    · simp at hk
    · exact b_nil' (q st2 _ (Src.ext h1 e2) f02)
  · simp at hk
/-- the last of a tuple -/
theorem last_ix {xs : List MV} (h : xs ≠ []) : ∃ l, l ∈ xs ∧ idxV (.tup xs) (.int (-1)) st = .ok l st := by
  have hl : 0 < xs.length := List.length_pos_iff.mpr h
  have hi : xs.length - 1 < xs.length := by omega
  refine ⟨xs[xs.length - 1], List.getElem_mem hi, ?_⟩
  have e : atI xs (-1) = some xs[xs.length - 1] := by
    unfold atI ixN
    rw [if_neg (by decide), if_pos (by omega)]
    have e2 : ((-1 : Int) + (xs.length : Int)).toNat = xs.length - 1 := by omega
    simp only [e2]
    exact List.getElem?_eq_getElem hi
  show (match atI xs (-1) with
    | some v => Res.ok v st
    | none => .stuck) = _
  rw [e]
def turnB : List MS := [.set 4 (.call 28 [.var 1, .lit (.int 9)]),
  .set 5 (.mk (.lstD [.var 4, .call 35 [.var 1], .call 36 [.var 1, .var 4, .lit (.int 3)], .call 36 [.var 1, .call 36 [.var 1, .var 4, .lit (.int 3)], .lit (.int 3)]])),
  .set 5 (.bin .add (.var 5) (.mk (.lstD [.bin .add (.var 4) (.tupD [.idx (.var 4) (.neg (.lit (.int 1)))]), .bin .add (.tupD [.lit (.str ("slot" : Str))]) (.slc (.var 4) (some (.lit (.int 1))) (none)), .bin .add (.tupD [.lit (.str ("global" : Str))]) (.slc (.var 4) (some (.lit (.int 1))) (none)), .bin .add (.bin .add (.slc (.var 4) (none) (some (.lit (.int 1)))) (.tupD [.lit (.int 99)])) (.slc (.var 4) (some (.lit (.int 2))) (none))]))),
  .for_ (.one 6) (.seq (.var 5)) lookB]
theorem turn_ok {a0 a3 a4 a5 a6 a7 : Option MV} (h : Src st s g) (S : Sig st c r) (hc : c ≠ s ∧ c ≠ g) (hr : r ≠ s ∧ r ≠ g) {Q : Fl × MP.Env → Store → Prop}
    (q : ∀ st' b4 b5 b6 b7, Src st' s g → Fr s g st st' → Q (.nx, [a0, some (.ref s), some (.ref c), a3, b4, b5, b6, b7]) st') :
    wB Γ (d + 7) turnB [a0, some (.ref s), some (.ref c), a3, a4, a5, a6, a7] st Q := by
  unfold turnB
  repeat' (first | refine rs_of (newT_tup (by simp only [List.length_cons, List.length_nil] <;> decide)) ?_ | refine rs_of (newL_add (by simp only [List.length_cons, List.length_nil] <;> decide)) ?_ | refine b_cons' ?_ | refine b_nil' ?_ | refine S_set ?_ | refine S_iff ?_ | refine S_ret ?_ | refine S_expr ?_ | refine S_put ?_ | refine S_par ?_ | refine S_par3 ?_ | refine S_for ?_ | refine e_lit ?_ | refine e_var rfl ?_ | refine e_bin ?_ | refine e_cmp ?_ | refine e_cmpL ?_ | refine e_isN ?_ | refine e_isB ?_ | refine e_and ?_ | refine e_or ?_ | refine e_not ?_ | refine e_ifx ?_ | refine e_idx ?_ | refine e_slc ?_ | refine e_tup ?_ | refine e_mk ?_ | refine e_dic (by decide) ?_ | refine e_call ?_ | refine e_bi ?_ | refine e_all ?_ | refine e_any ?_ | refine e_join ?_ | refine e_neg ?_ | refine e_meth ?_ | refine e_fld ?_ | refine e_chain ?_ | refine t_and' ?_ | refine t_or' ?_ | refine t_not' ?_ | refine t_e (fun _ _ _ => rfl) ?_ | refine a_nil ?_ | refine a_cons ?_ | refine p_nil' ?_ | refine p_cons' ?_ | refine o_none' ?_ | refine o_some' ?_ | refine l_lst ?_ | refine l_comp ?_ | refine l_val (fun _ _ _ => rfl) ?_ | refine i_seq' ?_ | refine i_tmp' ?_ | refine i_rng ?_ | refine ts_nil' ?_ | refine ts_one' ?_ | refine Rs.ok ?_ | refine And.intro (by simp only [List.length_cons, List.length_nil] <;> decide) ?_)
  refine fact_c h fun xs st1 h0 m1 h1 f1 => ?_
  repeat' (first | refine rs_of (newT_tup (by simp only [List.length_cons, List.length_nil] <;> decide)) ?_ | refine rs_of (newL_add (by simp only [List.length_cons, List.length_nil] <;> decide)) ?_ | refine b_cons' ?_ | refine b_nil' ?_ | refine S_set ?_ | refine S_iff ?_ | refine S_ret ?_ | refine S_expr ?_ | refine S_put ?_ | refine S_par ?_ | refine S_par3 ?_ | refine S_for ?_ | refine e_lit ?_ | refine e_var rfl ?_ | refine e_bin ?_ | refine e_cmp ?_ | refine e_cmpL ?_ | refine e_isN ?_ | refine e_isB ?_ | refine e_and ?_ | refine e_or ?_ | refine e_not ?_ | refine e_ifx ?_ | refine e_idx ?_ | refine e_slc ?_ | refine e_tup ?_ | refine e_mk ?_ | refine e_dic (by decide) ?_ | refine e_call ?_ | refine e_bi ?_ | refine e_all ?_ | refine e_any ?_ | refine e_join ?_ | refine e_neg ?_ | refine e_meth ?_ | refine e_fld ?_ | refine e_chain ?_ | refine t_and' ?_ | refine t_or' ?_ | refine t_not' ?_ | refine t_e (fun _ _ _ => rfl) ?_ | refine a_nil ?_ | refine a_cons ?_ | refine p_nil' ?_ | refine p_cons' ?_ | refine o_none' ?_ | refine o_some' ?_ | refine l_lst ?_ | refine l_comp ?_ | refine l_val (fun _ _ _ => rfl) ?_ | refine i_seq' ?_ | refine i_tmp' ?_ | refine i_rng ?_ | refine ts_nil' ?_ | refine ts_one' ?_ | refine Rs.ok ?_ | refine And.intro (by simp only [List.length_cons, List.length_nil] <;> decide) ?_)
  refine odd_c h1 fun o st2 mo h2 f2 => ?_
  repeat' (first | refine rs_of (newT_tup (by simp only [List.length_cons, List.length_nil] <;> decide)) ?_ | refine rs_of (newL_add (by simp only [List.length_cons, List.length_nil] <;> decide)) ?_ | refine b_cons' ?_ | refine b_nil' ?_ | refine S_set ?_ | refine S_iff ?_ | refine S_ret ?_ | refine S_expr ?_ | refine S_put ?_ | refine S_par ?_ | refine S_par3 ?_ | refine S_for ?_ | refine e_lit ?_ | refine e_var rfl ?_ | refine e_bin ?_ | refine e_cmp ?_ | refine e_cmpL ?_ | refine e_isN ?_ | refine e_isB ?_ | refine e_and ?_ | refine e_or ?_ | refine e_not ?_ | refine e_ifx ?_ | refine e_idx ?_ | refine e_slc ?_ | refine e_tup ?_ | refine e_mk ?_ | refine e_dic (by decide) ?_ | refine e_call ?_ | refine e_bi ?_ | refine e_all ?_ | refine e_any ?_ | refine e_join ?_ | refine e_neg ?_ | refine e_meth ?_ | refine e_fld ?_ | refine e_chain ?_ | refine t_and' ?_ | refine t_or' ?_ | refine t_not' ?_ | refine t_e (fun _ _ _ => rfl) ?_ | refine a_nil ?_ | refine a_cons ?_ | refine p_nil' ?_ | refine p_cons' ?_ | refine o_none' ?_ | refine o_some' ?_ | refine l_lst ?_ | refine l_comp ?_ | refine l_val (fun _ _ _ => rfl) ?_ | refine i_seq' ?_ | refine i_tmp' ?_ | refine i_rng ?_ | refine ts_nil' ?_ | refine ts_one' ?_ | refine Rs.ok ?_ | refine And.intro (by simp only [List.length_cons, List.length_nil] <;> decide) ?_)
  have m2 := m1.fr f2
  refine bent_c 3 (d := d) h2 m2 (by decide) fun b1 st3 mb h3 f3 => ?_
  repeat' (first | refine rs_of (newT_tup (by simp only [List.length_cons, List.length_nil] <;> decide)) ?_ | refine rs_of (newL_add (by simp only [List.length_cons, List.length_nil] <;> decide)) ?_ | refine b_cons' ?_ | refine b_nil' ?_ | refine S_set ?_ | refine S_iff ?_ | refine S_ret ?_ | refine S_expr ?_ | refine S_put ?_ | refine S_par ?_ | refine S_par3 ?_ | refine S_for ?_ | refine e_lit ?_ | refine e_var rfl ?_ | refine e_bin ?_ | refine e_cmp ?_ | refine e_cmpL ?_ | refine e_isN ?_ | refine e_isB ?_ | refine e_and ?_ | refine e_or ?_ | refine e_not ?_ | refine e_ifx ?_ | refine e_idx ?_ | refine e_slc ?_ | refine e_tup ?_ | refine e_mk ?_ | refine e_dic (by decide) ?_ | refine e_call ?_ | refine e_bi ?_ | refine e_all ?_ | refine e_any ?_ | refine e_join ?_ | refine e_neg ?_ | refine e_meth ?_ | refine e_fld ?_ | refine e_chain ?_ | refine t_and' ?_ | refine t_or' ?_ | refine t_not' ?_ | refine t_e (fun _ _ _ => rfl) ?_ | refine a_nil ?_ | refine a_cons ?_ | refine p_nil' ?_ | refine p_cons' ?_ | refine o_none' ?_ | refine o_some' ?_ | refine l_lst ?_ | refine l_comp ?_ | refine l_val (fun _ _ _ => rfl) ?_ | refine i_seq' ?_ | refine i_tmp' ?_ | refine i_rng ?_ | refine ts_nil' ?_ | refine ts_one' ?_ | refine Rs.ok ?_ | refine And.intro (by simp only [List.length_cons, List.length_nil] <;> decide) ?_)
  have m3 := m2.fr f3
  refine bent_c 3 (d := d) h3 m3 (by decide) fun b2 st4 mb2 h4 f4 => ?_
  repeat' (first | refine rs_of (newT_tup (by simp only [List.length_cons, List.length_nil] <;> decide)) ?_ | refine rs_of (newL_add (by simp only [List.length_cons, List.length_nil] <;> decide)) ?_ | refine b_cons' ?_ | refine b_nil' ?_ | refine S_set ?_ | refine S_iff ?_ | refine S_ret ?_ | refine S_expr ?_ | refine S_put ?_ | refine S_par ?_ | refine S_par3 ?_ | refine S_for ?_ | refine e_lit ?_ | refine e_var rfl ?_ | refine e_bin ?_ | refine e_cmp ?_ | refine e_cmpL ?_ | refine e_isN ?_ | refine e_isB ?_ | refine e_and ?_ | refine e_or ?_ | refine e_not ?_ | refine e_ifx ?_ | refine e_idx ?_ | refine e_slc ?_ | refine e_tup ?_ | refine e_mk ?_ | refine e_dic (by decide) ?_ | refine e_call ?_ | refine e_bi ?_ | refine e_all ?_ | refine e_any ?_ | refine e_join ?_ | refine e_neg ?_ | refine e_meth ?_ | refine e_fld ?_ | refine e_chain ?_ | refine t_and' ?_ | refine t_or' ?_ | refine t_not' ?_ | refine t_e (fun _ _ _ => rfl) ?_ | refine a_nil ?_ | refine a_cons ?_ | refine p_nil' ?_ | refine p_cons' ?_ | refine o_none' ?_ | refine o_some' ?_ | refine l_lst ?_ | refine l_comp ?_ | refine l_val (fun _ _ _ => rfl) ?_ | refine i_seq' ?_ | refine i_tmp' ?_ | refine i_rng ?_ | refine ts_nil' ?_ | refine ts_one' ?_ | refine Rs.ok ?_ | refine And.intro (by simp only [List.length_cons, List.length_nil] <;> decide) ?_)
  refine bent_c 3 (d := d) h4 mb2 (by decide) fun b3 st5 mb3 h5 f5 => ?_
  repeat' (first | refine rs_of (newT_tup (by simp only [List.length_cons, List.length_nil] <;> decide)) ?_ | refine rs_of (newL_add (by simp only [List.length_cons, List.length_nil] <;> decide)) ?_ | refine b_cons' ?_ | refine b_nil' ?_ | refine S_set ?_ | refine S_iff ?_ | refine S_ret ?_ | refine S_expr ?_ | refine S_put ?_ | refine S_par ?_ | refine S_par3 ?_ | refine S_for ?_ | refine e_lit ?_ | refine e_var rfl ?_ | refine e_bin ?_ | refine e_cmp ?_ | refine e_cmpL ?_ | refine e_isN ?_ | refine e_isB ?_ | refine e_and ?_ | refine e_or ?_ | refine e_not ?_ | refine e_ifx ?_ | refine e_idx ?_ | refine e_slc ?_ | refine e_tup ?_ | refine e_mk ?_ | refine e_dic (by decide) ?_ | refine e_call ?_ | refine e_bi ?_ | refine e_all ?_ | refine e_any ?_ | refine e_join ?_ | refine e_neg ?_ | refine e_meth ?_ | refine e_fld ?_ | refine e_chain ?_ | refine t_and' ?_ | refine t_or' ?_ | refine t_not' ?_ | refine t_e (fun _ _ _ => rfl) ?_ | refine a_nil ?_ | refine a_cons ?_ | refine p_nil' ?_ | refine p_cons' ?_ | refine o_none' ?_ | refine o_some' ?_ | refine l_lst ?_ | refine l_comp ?_ | refine l_val (fun _ _ _ => rfl) ?_ | refine i_seq' ?_ | refine i_tmp' ?_ | refine i_rng ?_ | refine ts_nil' ?_ | refine ts_one' ?_ | refine Rs.ok ?_ | refine And.intro (by simp only [List.length_cons, List.length_nil] <;> decide) ?_)
  have f15 : Fr s g st1 st5 := ((f2.trans f3).trans f4).trans f5
  have l6 := ls_new h5 [.tup xs, o, b1, b3]
  have f6 : Fr s g st5 (st5.add (.lst [.tup xs, o, b1, b3])) := add_fr h5.wf _
  have h6 := h5.add (.lst [.tup xs, o, b1, b3])
  generalize st5.next = n6 at l6 ⊢
  generalize st5.add (.lst [.tup xs, o, b1, b3]) = st6 at l6 f6 h6 ⊢
  have hl : xs.length ≤ 150 := m1.items.len
  refine ⟨1, rfl, ?_⟩
  obtain ⟨l, hl1, el⟩ := last_ix (st := st6) h0
  refine rs_of el ?_
  repeat' (first | refine rs_of (newT_tup (by simp only [List.length_cons, List.length_nil] <;> decide)) ?_ | refine rs_of (newL_add (by simp only [List.length_cons, List.length_nil] <;> decide)) ?_ | refine b_cons' ?_ | refine b_nil' ?_ | refine S_set ?_ | refine S_iff ?_ | refine S_ret ?_ | refine S_expr ?_ | refine S_put ?_ | refine S_par ?_ | refine S_par3 ?_ | refine S_for ?_ | refine e_lit ?_ | refine e_var rfl ?_ | refine e_bin ?_ | refine e_cmp ?_ | refine e_cmpL ?_ | refine e_isN ?_ | refine e_isB ?_ | refine e_and ?_ | refine e_or ?_ | refine e_not ?_ | refine e_ifx ?_ | refine e_idx ?_ | refine e_slc ?_ | refine e_tup ?_ | refine e_mk ?_ | refine e_dic (by decide) ?_ | refine e_call ?_ | refine e_bi ?_ | refine e_all ?_ | refine e_any ?_ | refine e_join ?_ | refine e_neg ?_ | refine e_meth ?_ | refine e_fld ?_ | refine e_chain ?_ | refine t_and' ?_ | refine t_or' ?_ | refine t_not' ?_ | refine t_e (fun _ _ _ => rfl) ?_ | refine a_nil ?_ | refine a_cons ?_ | refine p_nil' ?_ | refine p_cons' ?_ | refine o_none' ?_ | refine o_some' ?_ | refine l_lst ?_ | refine l_comp ?_ | refine l_val (fun _ _ _ => rfl) ?_ | refine i_seq' ?_ | refine i_tmp' ?_ | refine i_rng ?_ | refine ts_nil' ?_ | refine ts_one' ?_ | refine Rs.ok ?_ | refine And.intro (by simp only [List.length_cons, List.length_nil] <;> decide) ?_)
  refine rs_of (add_tup (by simp only [List.length_cons, List.length_nil]; omega)) ?_
  repeat' (first | refine rs_of (newT_tup (by simp only [List.length_cons, List.length_nil] <;> decide)) ?_ | refine rs_of (newL_add (by simp only [List.length_cons, List.length_nil] <;> decide)) ?_ | refine b_cons' ?_ | refine b_nil' ?_ | refine S_set ?_ | refine S_iff ?_ | refine S_ret ?_ | refine S_expr ?_ | refine S_put ?_ | refine S_par ?_ | refine S_par3 ?_ | refine S_for ?_ | refine e_lit ?_ | refine e_var rfl ?_ | refine e_bin ?_ | refine e_cmp ?_ | refine e_cmpL ?_ | refine e_isN ?_ | refine e_isB ?_ | refine e_and ?_ | refine e_or ?_ | refine e_not ?_ | refine e_ifx ?_ | refine e_idx ?_ | refine e_slc ?_ | refine e_tup ?_ | refine e_mk ?_ | refine e_dic (by decide) ?_ | refine e_call ?_ | refine e_bi ?_ | refine e_all ?_ | refine e_any ?_ | refine e_join ?_ | refine e_neg ?_ | refine e_meth ?_ | refine e_fld ?_ | refine e_chain ?_ | refine t_and' ?_ | refine t_or' ?_ | refine t_not' ?_ | refine t_e (fun _ _ _ => rfl) ?_ | refine a_nil ?_ | refine a_cons ?_ | refine p_nil' ?_ | refine p_cons' ?_ | refine o_none' ?_ | refine o_some' ?_ | refine l_lst ?_ | refine l_comp ?_ | refine l_val (fun _ _ _ => rfl) ?_ | refine i_seq' ?_ | refine i_tmp' ?_ | refine i_rng ?_ | refine ts_nil' ?_ | refine ts_one' ?_ | refine Rs.ok ?_ | refine And.intro (by simp only [List.length_cons, List.length_nil] <;> decide) ?_)
  refine ⟨1, rfl, ?_⟩
  repeat' (first | refine rs_of (newT_tup (by simp only [List.length_cons, List.length_nil] <;> decide)) ?_ | refine rs_of (newL_add (by simp only [List.length_cons, List.length_nil] <;> decide)) ?_ | refine b_cons' ?_ | refine b_nil' ?_ | refine S_set ?_ | refine S_iff ?_ | refine S_ret ?_ | refine S_expr ?_ | refine S_put ?_ | refine S_par ?_ | refine S_par3 ?_ | refine S_for ?_ | refine e_lit ?_ | refine e_var rfl ?_ | refine e_bin ?_ | refine e_cmp ?_ | refine e_cmpL ?_ | refine e_isN ?_ | refine e_isB ?_ | refine e_and ?_ | refine e_or ?_ | refine e_not ?_ | refine e_ifx ?_ | refine e_idx ?_ | refine e_slc ?_ | refine e_tup ?_ | refine e_mk ?_ | refine e_dic (by decide) ?_ | refine e_call ?_ | refine e_bi ?_ | refine e_all ?_ | refine e_any ?_ | refine e_join ?_ | refine e_neg ?_ | refine e_meth ?_ | refine e_fld ?_ | refine e_chain ?_ | refine t_and' ?_ | refine t_or' ?_ | refine t_not' ?_ | refine t_e (fun _ _ _ => rfl) ?_ | refine a_nil ?_ | refine a_cons ?_ | refine p_nil' ?_ | refine p_cons' ?_ | refine o_none' ?_ | refine o_some' ?_ | refine l_lst ?_ | refine l_comp ?_ | refine l_val (fun _ _ _ => rfl) ?_ | refine i_seq' ?_ | refine i_tmp' ?_ | refine i_rng ?_ | refine ts_nil' ?_ | refine ts_one' ?_ | refine Rs.ok ?_ | refine And.intro (by simp only [List.length_cons, List.length_nil] <;> decide) ?_)
  have cl : ∀ lo hi, (cut xs lo hi).length ≤ 150 := fun lo hi => by
    unfold cut
    rw [List.length_take, List.length_drop]
    omega
  refine rs_of (add_tup (by have := cl (some 1) none; simp only [List.length_cons, List.length_nil]; omega)) ?_
  repeat' (first | refine rs_of (newT_tup (by simp only [List.length_cons, List.length_nil] <;> decide)) ?_ | refine rs_of (newL_add (by simp only [List.length_cons, List.length_nil] <;> decide)) ?_ | refine b_cons' ?_ | refine b_nil' ?_ | refine S_set ?_ | refine S_iff ?_ | refine S_ret ?_ | refine S_expr ?_ | refine S_put ?_ | refine S_par ?_ | refine S_par3 ?_ | refine S_for ?_ | refine e_lit ?_ | refine e_var rfl ?_ | refine e_bin ?_ | refine e_cmp ?_ | refine e_cmpL ?_ | refine e_isN ?_ | refine e_isB ?_ | refine e_and ?_ | refine e_or ?_ | refine e_not ?_ | refine e_ifx ?_ | refine e_idx ?_ | refine e_slc ?_ | refine e_tup ?_ | refine e_mk ?_ | refine e_dic (by decide) ?_ | refine e_call ?_ | refine e_bi ?_ | refine e_all ?_ | refine e_any ?_ | refine e_join ?_ | refine e_neg ?_ | refine e_meth ?_ | refine e_fld ?_ | refine e_chain ?_ | refine t_and' ?_ | refine t_or' ?_ | refine t_not' ?_ | refine t_e (fun _ _ _ => rfl) ?_ | refine a_nil ?_ | refine a_cons ?_ | refine p_nil' ?_ | refine p_cons' ?_ | refine o_none' ?_ | refine o_some' ?_ | refine l_lst ?_ | refine l_comp ?_ | refine l_val (fun _ _ _ => rfl) ?_ | refine i_seq' ?_ | refine i_tmp' ?_ | refine i_rng ?_ | refine ts_nil' ?_ | refine ts_one' ?_ | refine Rs.ok ?_ | refine And.intro (by simp only [List.length_cons, List.length_nil] <;> decide) ?_)
  refine ⟨1, rfl, ?_⟩
  repeat' (first | refine rs_of (newT_tup (by simp only [List.length_cons, List.length_nil] <;> decide)) ?_ | refine rs_of (newL_add (by simp only [List.length_cons, List.length_nil] <;> decide)) ?_ | refine b_cons' ?_ | refine b_nil' ?_ | refine S_set ?_ | refine S_iff ?_ | refine S_ret ?_ | refine S_expr ?_ | refine S_put ?_ | refine S_par ?_ | refine S_par3 ?_ | refine S_for ?_ | refine e_lit ?_ | refine e_var rfl ?_ | refine e_bin ?_ | refine e_cmp ?_ | refine e_cmpL ?_ | refine e_isN ?_ | refine e_isB ?_ | refine e_and ?_ | refine e_or ?_ | refine e_not ?_ | refine e_ifx ?_ | refine e_idx ?_ | refine e_slc ?_ | refine e_tup ?_ | refine e_mk ?_ | refine e_dic (by decide) ?_ | refine e_call ?_ | refine e_bi ?_ | refine e_all ?_ | refine e_any ?_ | refine e_join ?_ | refine e_neg ?_ | refine e_meth ?_ | refine e_fld ?_ | refine e_chain ?_ | refine t_and' ?_ | refine t_or' ?_ | refine t_not' ?_ | refine t_e (fun _ _ _ => rfl) ?_ | refine a_nil ?_ | refine a_cons ?_ | refine p_nil' ?_ | refine p_cons' ?_ | refine o_none' ?_ | refine o_some' ?_ | refine l_lst ?_ | refine l_comp ?_ | refine l_val (fun _ _ _ => rfl) ?_ | refine i_seq' ?_ | refine i_tmp' ?_ | refine i_rng ?_ | refine ts_nil' ?_ | refine ts_one' ?_ | refine Rs.ok ?_ | refine And.intro (by simp only [List.length_cons, List.length_nil] <;> decide) ?_)
  refine rs_of (add_tup (by have := cl (some 1) none; simp only [List.length_cons, List.length_nil]; omega)) ?_
  repeat' (first | refine rs_of (newT_tup (by simp only [List.length_cons, List.length_nil] <;> decide)) ?_ | refine rs_of (newL_add (by simp only [List.length_cons, List.length_nil] <;> decide)) ?_ | refine b_cons' ?_ | refine b_nil' ?_ | refine S_set ?_ | refine S_iff ?_ | refine S_ret ?_ | refine S_expr ?_ | refine S_put ?_ | refine S_par ?_ | refine S_par3 ?_ | refine S_for ?_ | refine e_lit ?_ | refine e_var rfl ?_ | refine e_bin ?_ | refine e_cmp ?_ | refine e_cmpL ?_ | refine e_isN ?_ | refine e_isB ?_ | refine e_and ?_ | refine e_or ?_ | refine e_not ?_ | refine e_ifx ?_ | refine e_idx ?_ | refine e_slc ?_ | refine e_tup ?_ | refine e_mk ?_ | refine e_dic (by decide) ?_ | refine e_call ?_ | refine e_bi ?_ | refine e_all ?_ | refine e_any ?_ | refine e_join ?_ | refine e_neg ?_ | refine e_meth ?_ | refine e_fld ?_ | refine e_chain ?_ | refine t_and' ?_ | refine t_or' ?_ | refine t_not' ?_ | refine t_e (fun _ _ _ => rfl) ?_ | refine a_nil ?_ | refine a_cons ?_ | refine p_nil' ?_ | refine p_cons' ?_ | refine o_none' ?_ | refine o_some' ?_ | refine l_lst ?_ | refine l_comp ?_ | refine l_val (fun _ _ _ => rfl) ?_ | refine i_seq' ?_ | refine i_tmp' ?_ | refine i_rng ?_ | refine ts_nil' ?_ | refine ts_one' ?_ | refine Rs.ok ?_ | refine And.intro (by simp only [List.length_cons, List.length_nil] <;> decide) ?_)
  refine ⟨1, rfl, ?_⟩
  repeat' (first | refine rs_of (newT_tup (by simp only [List.length_cons, List.length_nil] <;> decide)) ?_ | refine rs_of (newL_add (by simp only [List.length_cons, List.length_nil] <;> decide)) ?_ | refine b_cons' ?_ | refine b_nil' ?_ | refine S_set ?_ | refine S_iff ?_ | refine S_ret ?_ | refine S_expr ?_ | refine S_put ?_ | refine S_par ?_ | refine S_par3 ?_ | refine S_for ?_ | refine e_lit ?_ | refine e_var rfl ?_ | refine e_bin ?_ | refine e_cmp ?_ | refine e_cmpL ?_ | refine e_isN ?_ | refine e_isB ?_ | refine e_and ?_ | refine e_or ?_ | refine e_not ?_ | refine e_ifx ?_ | refine e_idx ?_ | refine e_slc ?_ | refine e_tup ?_ | refine e_mk ?_ | refine e_dic (by decide) ?_ | refine e_call ?_ | refine e_bi ?_ | refine e_all ?_ | refine e_any ?_ | refine e_join ?_ | refine e_neg ?_ | refine e_meth ?_ | refine e_fld ?_ | refine e_chain ?_ | refine t_and' ?_ | refine t_or' ?_ | refine t_not' ?_ | refine t_e (fun _ _ _ => rfl) ?_ | refine a_nil ?_ | refine a_cons ?_ | refine p_nil' ?_ | refine p_cons' ?_ | refine o_none' ?_ | refine o_some' ?_ | refine l_lst ?_ | refine l_comp ?_ | refine l_val (fun _ _ _ => rfl) ?_ | refine i_seq' ?_ | refine i_tmp' ?_ | refine i_rng ?_ | refine ts_nil' ?_ | refine ts_one' ?_ | refine Rs.ok ?_ | refine And.intro (by simp only [List.length_cons, List.length_nil] <;> decide) ?_)
  refine rs_of (add_tup (by have := cl none (some 1); simp only [List.length_cons, List.length_nil]; omega)) ?_
  repeat' (first | refine rs_of (newT_tup (by simp only [List.length_cons, List.length_nil] <;> decide)) ?_ | refine rs_of (newL_add (by simp only [List.length_cons, List.length_nil] <;> decide)) ?_ | refine b_cons' ?_ | refine b_nil' ?_ | refine S_set ?_ | refine S_iff ?_ | refine S_ret ?_ | refine S_expr ?_ | refine S_put ?_ | refine S_par ?_ | refine S_par3 ?_ | refine S_for ?_ | refine e_lit ?_ | refine e_var rfl ?_ | refine e_bin ?_ | refine e_cmp ?_ | refine e_cmpL ?_ | refine e_isN ?_ | refine e_isB ?_ | refine e_and ?_ | refine e_or ?_ | refine e_not ?_ | refine e_ifx ?_ | refine e_idx ?_ | refine e_slc ?_ | refine e_tup ?_ | refine e_mk ?_ | refine e_dic (by decide) ?_ | refine e_call ?_ | refine e_bi ?_ | refine e_all ?_ | refine e_any ?_ | refine e_join ?_ | refine e_neg ?_ | refine e_meth ?_ | refine e_fld ?_ | refine e_chain ?_ | refine t_and' ?_ | refine t_or' ?_ | refine t_not' ?_ | refine t_e (fun _ _ _ => rfl) ?_ | refine a_nil ?_ | refine a_cons ?_ | refine p_nil' ?_ | refine p_cons' ?_ | refine o_none' ?_ | refine o_some' ?_ | refine l_lst ?_ | refine l_comp ?_ | refine l_val (fun _ _ _ => rfl) ?_ | refine i_seq' ?_ | refine i_tmp' ?_ | refine i_rng ?_ | refine ts_nil' ?_ | refine ts_one' ?_ | refine Rs.ok ?_ | refine And.intro (by simp only [List.length_cons, List.length_nil] <;> decide) ?_)
  refine ⟨2, rfl, ?_⟩
  repeat' (first | refine rs_of (newT_tup (by simp only [List.length_cons, List.length_nil] <;> decide)) ?_ | refine rs_of (newL_add (by simp only [List.length_cons, List.length_nil] <;> decide)) ?_ | refine b_cons' ?_ | refine b_nil' ?_ | refine S_set ?_ | refine S_iff ?_ | refine S_ret ?_ | refine S_expr ?_ | refine S_put ?_ | refine S_par ?_ | refine S_par3 ?_ | refine S_for ?_ | refine e_lit ?_ | refine e_var rfl ?_ | refine e_bin ?_ | refine e_cmp ?_ | refine e_cmpL ?_ | refine e_isN ?_ | refine e_isB ?_ | refine e_and ?_ | refine e_or ?_ | refine e_not ?_ | refine e_ifx ?_ | refine e_idx ?_ | refine e_slc ?_ | refine e_tup ?_ | refine e_mk ?_ | refine e_dic (by decide) ?_ | refine e_call ?_ | refine e_bi ?_ | refine e_all ?_ | refine e_any ?_ | refine e_join ?_ | refine e_neg ?_ | refine e_meth ?_ | refine e_fld ?_ | refine e_chain ?_ | refine t_and' ?_ | refine t_or' ?_ | refine t_not' ?_ | refine t_e (fun _ _ _ => rfl) ?_ | refine a_nil ?_ | refine a_cons ?_ | refine p_nil' ?_ | refine p_cons' ?_ | refine o_none' ?_ | refine o_some' ?_ | refine l_lst ?_ | refine l_comp ?_ | refine l_val (fun _ _ _ => rfl) ?_ | refine i_seq' ?_ | refine i_tmp' ?_ | refine i_rng ?_ | refine ts_nil' ?_ | refine ts_one' ?_ | refine Rs.ok ?_ | refine And.intro (by simp only [List.length_cons, List.length_nil] <;> decide) ?_)
  refine rs_of (add_tup (by have := cl none (some 1); have := cl (some 2) none; simp only [List.length_append, List.length_cons, List.length_nil]; omega)) ?_
  repeat' (first | refine rs_of (newT_tup (by simp only [List.length_cons, List.length_nil] <;> decide)) ?_ | refine rs_of (newL_add (by simp only [List.length_cons, List.length_nil] <;> decide)) ?_ | refine b_cons' ?_ | refine b_nil' ?_ | refine S_set ?_ | refine S_iff ?_ | refine S_ret ?_ | refine S_expr ?_ | refine S_put ?_ | refine S_par ?_ | refine S_par3 ?_ | refine S_for ?_ | refine e_lit ?_ | refine e_var rfl ?_ | refine e_bin ?_ | refine e_cmp ?_ | refine e_cmpL ?_ | refine e_isN ?_ | refine e_isB ?_ | refine e_and ?_ | refine e_or ?_ | refine e_not ?_ | refine e_ifx ?_ | refine e_idx ?_ | refine e_slc ?_ | refine e_tup ?_ | refine e_mk ?_ | refine e_dic (by decide) ?_ | refine e_call ?_ | refine e_bi ?_ | refine e_all ?_ | refine e_any ?_ | refine e_join ?_ | refine e_neg ?_ | refine e_meth ?_ | refine e_fld ?_ | refine e_chain ?_ | refine t_and' ?_ | refine t_or' ?_ | refine t_not' ?_ | refine t_e (fun _ _ _ => rfl) ?_ | refine a_nil ?_ | refine a_cons ?_ | refine p_nil' ?_ | refine p_cons' ?_ | refine o_none' ?_ | refine o_some' ?_ | refine l_lst ?_ | refine l_comp ?_ | refine l_val (fun _ _ _ => rfl) ?_ | refine i_seq' ?_ | refine i_tmp' ?_ | refine i_rng ?_ | refine ts_nil' ?_ | refine ts_one' ?_ | refine Rs.ok ?_ | refine And.intro (by simp only [List.length_cons, List.length_nil] <;> decide) ?_)
  refine rs_of (ls_bin (l6.fr (add_fr h6.wf _)) (ls_new h6 _) (by simp only [List.length_cons, List.length_nil]; decide)) ?_
  generalize hB : ([.tup (xs ++ [l]), .tup ([.str "slot"] ++ cut xs (some 1) none), .tup ([.str "global"] ++ cut xs (some 1) none), .tup (cut xs none (some 1) ++ [.int 99] ++ cut xs (some 2) none)] : List MV) = B
  have h7 := h6.add (.lst B)
  have f7 := f6.trans (add_fr h6.wf (.lst B))
  generalize st6.add (.lst B) = st7 at h7 f7 ⊢
  have l8 := ls_new h7 ([.tup xs, o, b1, b3] ++ B)
  have f8 := f7.trans (add_fr h7.wf (.lst ([.tup xs, o, b1, b3] ++ B)))
  have h8 := h7.add (.lst ([.tup xs, o, b1, b3] ++ B))
  show wB Γ (d + 7) [.for_ (.one 6) (.seq (.var 5)) lookB] [a0, some (.ref s), some (.ref c), a3, some (.tup xs), some (.ref st7.next), a6, a7] (st7.add (.lst ([.tup xs, o, b1, b3] ++ B))) Q
  generalize st7.next = n8 at l8 ⊢
  generalize st7.add (.lst ([.tup xs, o, b1, b3] ++ B)) = st8 at l8 f8 h8 ⊢
  have f18 : Fr s g st1 st8 := f15.trans f8
  have f08 : Fr s g st st8 := f1.trans f18
  have all : ∀ x ∈ ([.tup xs, o, b1, b3] ++ B : List MV), Sm s g st8 12 400 x := by
    have mx : Sm s g st8 4 150 (.tup xs) := m1.fr f18
    have it : SmL s g st8 3 150 xs := mx.items
    have ml : Sm s g st8 3 150 l := it.mem hl1
    intro x hx
    rcases List.mem_append.mp hx with hx | hx
    · simp only [List.mem_cons, List.not_mem_nil, or_false] at hx
      rcases hx with rfl | rfl | rfl | rfl
      · exact mx.le (by decide) (by decide)
      · exact (mo.fr (((f3.trans f4).trans f5).trans f8)).le (by decide) (by decide)
      · exact (mb.fr ((f4.trans f5).trans f8)).le (by decide) (by decide)
      · exact (mb3.fr f8).le (by decide) (by decide)
    · rw [← hB] at hx
      simp only [List.mem_cons, List.not_mem_nil, or_false] at hx
      rcases hx with rfl | rfl | rfl | rfl
      · exact (it.append (SmL.cons ml (SmL.nil 3 0))).tup.le (by decide) (by decide)
      · exact ((SmL.cons (smS (k := 3) (by decide +kernel)) (SmL.nil 3 0)).append (it.cut _ _)).tup.le (by decide) (by decide)
      · exact ((SmL.cons (smS (k := 3) (by decide +kernel)) (SmL.nil 3 0)).append (it.cut _ _)).tup.le (by decide) (by decide)
      · exact (((it.cut _ _).append (SmL.cons (sm_int (by decide) (by decide)) (SmL.nil 3 0))).append (it.cut _ _)).tup.le (by decide) (by decide)
  generalize ([.tup xs, o, b1, b3] ++ B : List MV) = vals at l8 all
  refine b_cons' (S_for (i_seq' (e_var rfl ⟨.live n8 0, ?_, ?_⟩)))
  · show (match st8.get n8 with
      | some (.lst _) => some (Itv.live n8 0)
      | _ => none) = _
    rw [l8.gt]
  refine f_inv_live (xs := vals) (fun env st => Src st s g ∧ Fr s g st8 st ∧ ∃ b6 b7 : Option MV, env = [a0, some (.ref s), some (.ref c), a3, some (.tup xs), some (.ref n8), b6, b7]) (fun env st ⟨_, f, _⟩ => (l8.fr f).gt) ?_ ?_ vals.length 0 _ _ (by omega) ⟨h8, Fr.refl _ _ _, _, _, rfl⟩
  · rintro x env st' hx ⟨hs, fs, b6, b7, rfl⟩
    refine ⟨_, rfl, ?_⟩
    exact look_ok hs ((S.fr f08 hc hr).fr fs hc hr) hc hr ((all x hx).fr fs) fun st2 c7 hs2 f2 => ⟨.inl rfl, hs2, fs.trans f2, _, _, rfl⟩
  · rintro env st' ⟨hs, fs, b6, b7, rfl⟩
    exact b_nil' (q st' _ _ _ _ hs (f08.trans fs))
theorem law_c {st : Store} {xs : List Int} (wf : st.wf) (h0 : st.next = 0) (hl : xs.length ≤ 63) : wC Γ 20 37 [.scr (xs.map MV.int)] st fun v _ => v = .bl true := by
  refine c_body rfl rfl ?_
  show wB Γ 20 [.set 1 (.call 22 [.var 0]), .set 2 (.call 25 []), .for_ (.one 3) (.rng1 (.lit (.int 12))) turnB, .ret (.lit (.bl true))] [some (.scr (xs.map MV.int)), none, none, none, none, none, none, none] st _
  refine b_cons' (S_set (e_call (a_cons (e_var rfl (a_nil ?_)))))
  have src : wC Γ 19 22 [.scr (xs.map MV.int)] st fun v st' => ∃ s g, v = .ref s ∧ Src st' s g ∧ st'.next = st.next + 3 := by
    refine c_body rfl rfl ?_
    show wB Γ 19 srcBody [some (.scr (xs.map MV.int)), none, none, none, none] st _
    exact source_ok wf hl
  refine src.mono fun v st1 ⟨s, g, e, h, nx⟩ => ?_
  subst e
  have nx3 : st1.next = 3 := by omega
  refine b_cons' (S_set (e_call (a_nil ?_)))
  refine sig_c h.wf nx3 fun c r st2 c3 r3 S e12 => ?_
  have hs3 : s < 3 ∧ g < 3 := by
    obtain ⟨_, _, _, _, hh⟩ := h
    exact ⟨nx3 ▸ hh.ls, nx3 ▸ hh.lg⟩
  have hc : c ≠ s ∧ c ≠ g := by omega
  have hr : r ≠ s ∧ r ≠ g := by omega
  refine b_cons' (S_for (i_rng (e_lit ⟨12, rfl, by decide, ?_⟩)))
  refine f_inv (fun env st => Src st s g ∧ Sig st c r ∧ ∃ b0 b3 b4 b5 b6 b7 : Option MV, env = [b0, some (.ref s), some (.ref c), b3, b4, b5, b6, b7]) ⟨Src.ext h e12, S, _, _, _, _, _, _, rfl⟩ ?_ ?_
  · rintro v env st hv ⟨hs, S, b0, b3, b4, b5, b6, b7, rfl⟩
    refine ⟨_, rfl, ?_⟩
    exact turn_ok (d := 13) hs S hc hr fun st' c4 c5 c6 c7 hs' f' => ⟨.inl rfl, hs', S.fr f' hc hr, _, _, _, _, _, _, rfl⟩
  · rintro env st ⟨hs, S, b0, b3, b4, b5, b6, b7, rfl⟩
    exact b_cons' (S_ret (e_lit rfl))
theorem plain (xs : List Int) (hl : xs.length ≤ 63) : ∃ n st, callB (ev Γ n 20) ⟨1, 8, m_law⟩ [.scr (xs.map MV.int)] Store.emp = .ok (.bl true) st := by
  obtain ⟨fn, hf, n, v, st, e, q⟩ := law_c (st := Store.emp) Store.wf_emp rfl hl
  cases hf
  have q' : v = .bl true := q
  subst q'
  exact ⟨n, st, e n (Nat.le_refl _)⟩
end K45

open PySem PySem.W PyProof.Rows
set_option maxRecDepth 100000 in
set_option maxHeartbeats 0 in
theorem PySem.Challenge.cw_shapeguess_k45_facts_recognized_holds : PySem.Challenge.rw_shapeguess_k45_facts_recognized.Holds := by
  w_on; o_law; k_head; (case hw => w_witness2)
  k_fill
  refine MP.walk_go (l := PySem.Challenge.rw_shapeguess_k45_facts_recognized) (n := 63) (k := 21) (x := "script") (sp := fun K ca => MP.spF K ca K45.Γ 20 37) rfl (by decide) rfl ⟨rfl, by decide, by decide⟩ (fun w h Y => PySem.W.kIn_of Y) ?F ?S
  case S =>
    intro K ca H a xs hl hS
    obtain ⟨n, st, he⟩ := K45.plain xs hl
    exact MP.sp_of rfl hS he
  case F =>
    intro w mg fa h KX G hmg
    refine' K45.all_fn KX G hmg (aC_Signature := ?aC_Signature) (pg_Signature := ?pg_Signature) (hd_Signature := ?hd_Signature) (po_Signature := ?po_Signature) (sa_Signature := ?sa_Signature) (mk_Signature := ?mk_Signature) (kc_Signature := ?kc_Signature) (no_Signature_kind_row := ?no_Signature_kind_row) (no_Signature_primitive_rows := ?no_Signature_primitive_rows) (a__wall := ?a__wall) (l__wall := ?l__wall) (c__wall := ?c__wall) (k__wall := ?k__wall) (a_is_word := ?a_is_word) (l_is_word := ?l_is_word) (c_is_word := ?c_is_word) (k_is_word := ?k_is_word) (a_is_count := ?a_is_count) (l_is_count := ?l_is_count) (c_is_count := ?c_is_count) (k_is_count := ?k_is_count) (a_is_value := ?a_is_value) (l_is_value := ?l_is_value) (c_is_value := ?c_is_value) (k_is_value := ?k_is_value) (a_is_register := ?a_is_register) (l_is_register := ?l_is_register) (c_is_register := ?c_is_register) (k_is_register := ?k_is_register) (a_is_tuple_of := ?a_is_tuple_of) (l_is_tuple_of := ?l_is_tuple_of) (c_is_tuple_of := ?c_is_tuple_of) (k_is_tuple_of := ?k_is_tuple_of) (a_is_mark := ?a_is_mark) (l_is_mark := ?l_is_mark) (c_is_mark := ?c_is_mark) (k_is_mark := ?k_is_mark) (a_is_told_shape := ?a_is_told_shape) (l_is_told_shape := ?l_is_told_shape) (c_is_told_shape := ?c_is_told_shape) (k_is_told_shape := ?k_is_told_shape) (a_is_known_kind := ?a_is_known_kind) (l_is_known_kind := ?l_is_known_kind) (c_is_known_kind := ?c_is_known_kind) (k_is_known_kind := ?k_is_known_kind) (a_is_fact := ?a_is_fact) (l_is_fact := ?l_is_fact) (c_is_fact := ?c_is_fact) (k_is_fact := ?k_is_fact) (a_is_watched := ?a_is_watched) (l_is_watched := ?l_is_watched) (c_is_watched := ?c_is_watched) (k_is_watched := ?k_is_watched) (a_look_at_kinds := ?a_look_at_kinds) (l_look_at_kinds := ?l_look_at_kinds) (c_look_at_kinds := ?c_look_at_kinds) (k_look_at_kinds := ?k_look_at_kinds) (a_is_variant := ?a_is_variant) (l_is_variant := ?l_is_variant) (c_is_variant := ?c_is_variant) (k_is_variant := ?k_is_variant) (a_look_at_primitives := ?a_look_at_primitives) (l_look_at_primitives := ?l_look_at_primitives) (c_look_at_primitives := ?c_look_at_primitives) (k_look_at_primitives := ?k_look_at_primitives) (a_Signature____init__ := ?a_Signature____init__) (i_Signature____init__ := ?i_Signature____init__) (l_Signature____init__ := ?l_Signature____init__) (c_Signature____init__ := ?c_Signature____init__) (k_Signature____init__ := ?k_Signature____init__) (a_Signature__kinds := ?a_Signature__kinds) (i_Signature__kinds := ?i_Signature__kinds) (l_Signature__kinds := ?l_Signature__kinds) (c_Signature__kinds := ?c_Signature__kinds) (k_Signature__kinds := ?k_Signature__kinds) (a_Signature__primitives := ?a_Signature__primitives) (i_Signature__primitives := ?i_Signature__primitives) (l_Signature__primitives := ?l_Signature__primitives) (c_Signature__primitives := ?c_Signature__primitives) (k_Signature__primitives := ?k_Signature__primitives) (a_Signature__variants := ?a_Signature__variants) (i_Signature__variants := ?i_Signature__variants) (l_Signature__variants := ?l_Signature__variants) (c_Signature__variants := ?c_Signature__variants) (k_Signature__variants := ?k_Signature__variants) (a_Signature__variant := ?a_Signature__variant) (i_Signature__variant := ?i_Signature__variant) (l_Signature__variant := ?l_Signature__variant) (c_Signature__variant := ?c_Signature__variant) (k_Signature__variant := ?k_Signature__variant) (a_Signature__has_kind := ?a_Signature__has_kind) (i_Signature__has_kind := ?i_Signature__has_kind) (l_Signature__has_kind := ?l_Signature__has_kind) (c_Signature__has_kind := ?c_Signature__has_kind) (k_Signature__has_kind := ?k_Signature__has_kind) (a_Signature__has_primitive := ?a_Signature__has_primitive) (i_Signature__has_primitive := ?i_Signature__has_primitive) (l_Signature__has_primitive := ?l_Signature__has_primitive) (c_Signature__has_primitive := ?c_Signature__has_primitive) (k_Signature__has_primitive := ?k_Signature__has_primitive) (a_Signature____eq__ := ?a_Signature____eq__) (i_Signature____eq__ := ?i_Signature____eq__) (l_Signature____eq__ := ?l_Signature____eq__) (c_Signature____eq__ := ?c_Signature____eq__) (k_Signature____eq__ := ?k_Signature____eq__) (a__law_source := ?a__law_source) (l__law_source := ?l__law_source) (c__law_source := ?c__law_source) (k__law_source := ?k__law_source) (a__law_pick := ?a__law_pick) (l__law_pick := ?l__law_pick) (c__law_pick := ?c__law_pick) (k__law_pick := ?k__law_pick) (a__law_one_of := ?a__law_one_of) (l__law_one_of := ?l__law_one_of) (c__law_one_of := ?c__law_one_of) (k__law_one_of := ?k__law_one_of) (a__law_signature := ?a__law_signature) (l__law_signature := ?l__law_signature) (c__law_signature := ?c__law_signature) (k__law_signature := ?k__law_signature) (a__law_mark := ?a__law_mark) (l__law_mark := ?l__law_mark) (c__law_mark := ?c__law_mark) (k__law_mark := ?k__law_mark) (a__law_shape := ?a__law_shape) (l__law_shape := ?l__law_shape) (c__law_shape := ?c__law_shape) (k__law_shape := ?k__law_shape) (a__law_fact := ?a__law_fact) (l__law_fact := ?l__law_fact) (c__law_fact := ?c__law_fact) (k__law_fact := ?k__law_fact) (a__law_is_word := ?a__law_is_word) (l__law_is_word := ?l__law_is_word) (c__law_is_word := ?c__law_is_word) (k__law_is_word := ?k__law_is_word) (a__law_is_number := ?a__law_is_number) (l__law_is_number := ?l__law_is_number) (c__law_is_number := ?c__law_is_number) (k__law_is_number := ?k__law_is_number) (a__law_is_mark := ?a__law_is_mark) (l__law_is_mark := ?l__law_is_mark) (c__law_is_mark := ?c__law_is_mark) (k__law_is_mark := ?k__law_is_mark) (a__law_is_shape := ?a__law_is_shape) (l__law_is_shape := ?l__law_is_shape) (c__law_is_shape := ?c__law_is_shape) (k__law_is_shape := ?k__law_is_shape) (a__law_is_fact := ?a__law_is_fact) (l__law_is_fact := ?l__law_is_fact) (c__law_is_fact := ?c__law_is_fact) (k__law_is_fact := ?k__law_is_fact) (a__law_is_watched := ?a__law_is_watched) (l__law_is_watched := ?l__law_is_watched) (c__law_is_watched := ?c__law_is_watched) (k__law_is_watched := ?k__law_is_watched) (a__law_odd := ?a__law_odd) (l__law_odd := ?l__law_odd) (c__law_odd := ?c__law_odd) (k__law_odd := ?k__law_odd) (a__law_bent := ?a__law_bent) (l__law_bent := ?l__law_bent) (c__law_bent := ?c__law_bent) (k__law_bent := ?k__law_bent) (a_law := ?a_law) (l_law := ?l_law) (c_law := ?c_law) (k_law := ?k_law) (z_abs := ?z_abs) (z_all := ?z_all) (z_bool := ?z_bool) (z_enumerate := ?z_enumerate) (z_int := ?z_int) (z_isinstance := ?z_isinstance) (z_len := ?z_len) (z_list := ?z_list) (z_range := ?z_range) (z_repr := ?z_repr) (z_set := ?z_set) (z_str := ?z_str) (z_tuple := ?z_tuple) (g_LETTERS := ?g_LETTERS) (g_OWN_KINDS := ?g_OWN_KINDS) (l_OWN_KINDS := ?l_OWN_KINDS) (g_REGISTER_WORDS := ?g_REGISTER_WORDS) (l_REGISTER_WORDS := ?l_REGISTER_WORDS) (g_RESERVED := ?g_RESERVED) (l_RESERVED := ?l_RESERVED) (g_WATCHED_WORDS := ?g_WATCHED_WORDS) (l_WATCHED_WORDS := ?l_WATCHED_WORDS) (d_OWN_KINDS := ?d_OWN_KINDS) (d_REGISTER_WORDS := ?d_REGISTER_WORDS) (d_RESERVED := ?d_RESERVED) (d_WATCHED_WORDS := ?d_WATCHED_WORDS)
    (case aC_Signature => k_is)
    (case pg_Signature => k_is)
    (case hd_Signature => k_is)
    (case po_Signature => k_is)
    (case sa_Signature => k_is)
    (case mk_Signature => k_is)
    (case kc_Signature => k_is)
    (case no_Signature_kind_row => k_is)
    (case no_Signature_primitive_rows => k_is)
    (case a__wall => k_is)
    (case l__wall => k_is)
    (case c__wall => k_is)
    (case k__wall => k_is)
    (case a_is_word => k_is)
    (case l_is_word => k_is)
    (case c_is_word => k_is)
    (case k_is_word => k_is)
    (case a_is_count => k_is)
    (case l_is_count => k_is)
    (case c_is_count => k_is)
    (case k_is_count => k_is)
    (case a_is_value => k_is)
    (case l_is_value => k_is)
    (case c_is_value => k_is)
    (case k_is_value => k_is)
    (case a_is_register => k_is)
    (case l_is_register => k_is)
    (case c_is_register => k_is)
    (case k_is_register => k_is)
    (case a_is_tuple_of => k_is)
    (case l_is_tuple_of => k_is)
    (case c_is_tuple_of => k_is)
    (case k_is_tuple_of => k_is)
    (case a_is_mark => k_is)
    (case l_is_mark => k_is)
    (case c_is_mark => k_is)
    (case k_is_mark => k_is)
    (case a_is_told_shape => k_is)
    (case l_is_told_shape => k_is)
    (case c_is_told_shape => k_is)
    (case k_is_told_shape => k_is)
    (case a_is_known_kind => k_is)
    (case l_is_known_kind => k_is)
    (case c_is_known_kind => k_is)
    (case k_is_known_kind => k_is)
    (case a_is_fact => k_is)
    (case l_is_fact => k_is)
    (case c_is_fact => k_is)
    (case k_is_fact => k_is)
    (case a_is_watched => k_is)
    (case l_is_watched => k_is)
    (case c_is_watched => k_is)
    (case k_is_watched => k_is)
    (case a_look_at_kinds => k_is)
    (case l_look_at_kinds => k_is)
    (case c_look_at_kinds => k_is)
    (case k_look_at_kinds => k_is)
    (case a_is_variant => k_is)
    (case l_is_variant => k_is)
    (case c_is_variant => k_is)
    (case k_is_variant => k_is)
    (case a_look_at_primitives => k_is)
    (case l_look_at_primitives => k_is)
    (case c_look_at_primitives => k_is)
    (case k_look_at_primitives => k_is)
    (case a_Signature____init__ => k_is)
    (case i_Signature____init__ => k_is)
    (case l_Signature____init__ => k_is)
    (case c_Signature____init__ => k_is)
    (case k_Signature____init__ => k_is)
    (case a_Signature__kinds => k_is)
    (case i_Signature__kinds => k_is)
    (case l_Signature__kinds => k_is)
    (case c_Signature__kinds => k_is)
    (case k_Signature__kinds => k_is)
    (case a_Signature__primitives => k_is)
    (case i_Signature__primitives => k_is)
    (case l_Signature__primitives => k_is)
    (case c_Signature__primitives => k_is)
    (case k_Signature__primitives => k_is)
    (case a_Signature__variants => k_is)
    (case i_Signature__variants => k_is)
    (case l_Signature__variants => k_is)
    (case c_Signature__variants => k_is)
    (case k_Signature__variants => k_is)
    (case a_Signature__variant => k_is)
    (case i_Signature__variant => k_is)
    (case l_Signature__variant => k_is)
    (case c_Signature__variant => k_is)
    (case k_Signature__variant => k_is)
    (case a_Signature__has_kind => k_is)
    (case i_Signature__has_kind => k_is)
    (case l_Signature__has_kind => k_is)
    (case c_Signature__has_kind => k_is)
    (case k_Signature__has_kind => k_is)
    (case a_Signature__has_primitive => k_is)
    (case i_Signature__has_primitive => k_is)
    (case l_Signature__has_primitive => k_is)
    (case c_Signature__has_primitive => k_is)
    (case k_Signature__has_primitive => k_is)
    (case a_Signature____eq__ => k_is)
    (case i_Signature____eq__ => k_is)
    (case l_Signature____eq__ => k_is)
    (case c_Signature____eq__ => k_is)
    (case k_Signature____eq__ => k_is)
    (case a__law_source => k_is)
    (case l__law_source => k_is)
    (case c__law_source => k_is)
    (case k__law_source => k_is)
    (case a__law_pick => k_is)
    (case l__law_pick => k_is)
    (case c__law_pick => k_is)
    (case k__law_pick => k_is)
    (case a__law_one_of => k_is)
    (case l__law_one_of => k_is)
    (case c__law_one_of => k_is)
    (case k__law_one_of => k_is)
    (case a__law_signature => k_is)
    (case l__law_signature => k_is)
    (case c__law_signature => k_is)
    (case k__law_signature => k_is)
    (case a__law_mark => k_is)
    (case l__law_mark => k_is)
    (case c__law_mark => k_is)
    (case k__law_mark => k_is)
    (case a__law_shape => k_is)
    (case l__law_shape => k_is)
    (case c__law_shape => k_is)
    (case k__law_shape => k_is)
    (case a__law_fact => k_is)
    (case l__law_fact => k_is)
    (case c__law_fact => k_is)
    (case k__law_fact => k_is)
    (case a__law_is_word => k_is)
    (case l__law_is_word => k_is)
    (case c__law_is_word => k_is)
    (case k__law_is_word => k_is)
    (case a__law_is_number => k_is)
    (case l__law_is_number => k_is)
    (case c__law_is_number => k_is)
    (case k__law_is_number => k_is)
    (case a__law_is_mark => k_is)
    (case l__law_is_mark => k_is)
    (case c__law_is_mark => k_is)
    (case k__law_is_mark => k_is)
    (case a__law_is_shape => k_is)
    (case l__law_is_shape => k_is)
    (case c__law_is_shape => k_is)
    (case k__law_is_shape => k_is)
    (case a__law_is_fact => k_is)
    (case l__law_is_fact => k_is)
    (case c__law_is_fact => k_is)
    (case k__law_is_fact => k_is)
    (case a__law_is_watched => k_is)
    (case l__law_is_watched => k_is)
    (case c__law_is_watched => k_is)
    (case k__law_is_watched => k_is)
    (case a__law_odd => k_is)
    (case l__law_odd => k_is)
    (case c__law_odd => k_is)
    (case k__law_odd => k_is)
    (case a__law_bent => k_is)
    (case l__law_bent => k_is)
    (case c__law_bent => k_is)
    (case k__law_bent => k_is)
    (case a_law => k_is)
    (case l_law => k_is)
    (case c_law => k_is)
    (case k_law => k_is)
    (case z_abs => k_is)
    (case z_all => k_is)
    (case z_bool => k_is)
    (case z_enumerate => k_is)
    (case z_int => k_is)
    (case z_isinstance => k_is)
    (case z_len => k_is)
    (case z_list => k_is)
    (case z_range => k_is)
    (case z_repr => k_is)
    (case z_set => k_is)
    (case z_str => k_is)
    (case z_tuple => k_is)
    (case g_LETTERS => k_is)
    (case g_OWN_KINDS => k_is)
    (case l_OWN_KINDS => k_is)
    (case g_REGISTER_WORDS => k_is)
    (case l_REGISTER_WORDS => k_is)
    (case g_RESERVED => k_is)
    (case l_RESERVED => k_is)
    (case g_WATCHED_WORDS => k_is)
    (case l_WATCHED_WORDS => k_is)
    (case d_OWN_KINDS => exact ⟨rfl, _, _, rfl, by decide, .cons ⟨_, rfl⟩ (.cons ⟨_, rfl⟩ (.cons ⟨_, rfl⟩ (.cons ⟨_, rfl⟩ (.cons ⟨_, rfl⟩ (.nil)))))⟩)
    (case d_REGISTER_WORDS => exact ⟨rfl, _, _, rfl, by decide, .cons ⟨_, rfl⟩ (.cons ⟨_, rfl⟩ (.cons ⟨_, rfl⟩ (.cons ⟨_, rfl⟩ (.cons ⟨_, rfl⟩ (.nil)))))⟩)
    (case d_RESERVED => exact ⟨rfl, _, _, rfl, by decide, .cons ⟨_, rfl⟩ (.cons ⟨_, rfl⟩ (.cons ⟨_, rfl⟩ (.cons ⟨_, rfl⟩ (.cons ⟨_, rfl⟩ (.nil)))))⟩)
    (case d_WATCHED_WORDS => exact ⟨rfl, _, _, rfl, by decide, .cons ⟨_, rfl⟩ (.cons ⟨_, rfl⟩ (.cons ⟨_, rfl⟩ (.nil)))⟩)
