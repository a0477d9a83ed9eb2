import PyProof.Rows.All
import Wide.All
import OpenK.AllK
import Wide.FinOn
import HandS.ForMost
import HandS.IsInst
import HandS.Deep
import HandS.TupLe
import HandS.TupAny
import HandS.TupMul
import HandS.Defaults
import PyProof.StrBlock2
import PyProof.FactsAll.dict_1
import PyProof.Rows.StrRules
import PyProof.ReprRoads
import HandS.Flow
import PyProof.StrLawsRepr
import PyProof.ReprLen
import PySem.Challenge.RW_shapeguess_k13_values_judged
set_option Elab.async false
set_option linter.all false
set_option maxRecDepth 100000
set_option maxHeartbeats 4000000
/-! MP: a small Python of its own (values, a store, an evaluator), and that what it reckons is what the model's run does (over HandS). -/
namespace MP
open PySem L2

/-! ### values, objects, the store -/
inductive MV where
  | non | bl (b : Bool) | int (i : Int) | str (s : Str) | tup (xs : List MV) | ref (n : Nat) | scr (xs : List MV)
inductive MO where
  | lst (xs : List MV)
  | dK (kvs : List (Key × MV))
  | ins (c : Nat) (fs : List (Str × MV))

/-- a tree keyed by numbers -/
inductive Tr where
  | nil
  | leaf (l : List (Nat × MO))
  | node (v : Option MO) (l r : Tr)
def alGet : List (Nat × MO) → Nat → Option MO
  | [], _ => none
  | (j, o) :: t, i => if i = j then some o else alGet t i
def Tr.get : Nat → Tr → Nat → Option MO
  | _, .nil, _ => none
  | _, .leaf l, i => alGet l i
  | 0, .node _ _ _, _ => none
  | f + 1, .node v l r, i => if i = 0 then v else if i % 2 = 1 then Tr.get f l (i / 2) else Tr.get f r (i / 2 - 1)
def Tr.put : Nat → Tr → Nat → MO → Tr
  | 0, .leaf l, i, o => .leaf ((i, o) :: l)
  | 0, _, i, o => .leaf [(i, o)]
  | f + 1, .node v l r, i, o => if i = 0 then .node (some o) l r else if i % 2 = 1 then .node v (Tr.put f l (i / 2) o) r else .node v l (Tr.put f r (i / 2 - 1) o)
  | f + 1, _, i, o => if i = 0 then .node (some o) .nil .nil else if i % 2 = 1 then .node none (Tr.put f .nil (i / 2) o) .nil else .node none .nil (Tr.put f .nil (i / 2 - 1) o)
/-- well formed to the depth f -/
def Tr.wf : Nat → Tr → Prop
  | _, .nil => True
  | 0, .leaf _ => True
  | 0, .node _ _ _ => False
  | _ + 1, .leaf _ => False
  | f + 1, .node _ l r => Tr.wf f l ∧ Tr.wf f r
theorem alGet_cons (l : List (Nat × MO)) (i j : Nat) (o : MO) : alGet ((j, o) :: l) i = if i = j then some o else alGet l i := rfl
theorem Tr.get_nil (f i : Nat) : Tr.get f .nil i = none := by cases f <;> rfl
theorem Tr.wf_put : ∀ (f : Nat) (t : Tr) (i : Nat) (o : MO), Tr.wf f t → Tr.wf f (Tr.put f t i o)
  | 0, .nil, _, _, _ => trivial
  | 0, .leaf _, _, _, _ => trivial
  | 0, .node _ _ _, _, _, h => h.elim
  | f + 1, .nil, i, o, _ => by
    have n : Tr.wf f .nil := by cases f <;> trivial
    unfold Tr.put
    split
    · exact ⟨n, n⟩
    · split
      · exact ⟨Tr.wf_put f _ _ _ n, n⟩
      · exact ⟨n, Tr.wf_put f _ _ _ n⟩
  | f + 1, .leaf _, _, _, h => h.elim
  | f + 1, .node v l r, i, o, h => by
    unfold Tr.put
    split
    · exact h
    · split
      · exact ⟨Tr.wf_put f _ _ _ h.1, h.2⟩
      · exact ⟨h.1, Tr.wf_put f _ _ _ h.2⟩
theorem Tr.get_node (f : Nat) (v : Option MO) (l r : Tr) (j : Nat) : Tr.get (f + 1) (.node v l r) j = if j = 0 then v else if j % 2 = 1 then Tr.get f l (j / 2) else Tr.get f r (j / 2 - 1) := rfl
theorem Tr.get_put : ∀ (f : Nat) (t : Tr) (i j : Nat) (o : MO), Tr.wf f t → Tr.get f (Tr.put f t i o) j = if j = i then some o else Tr.get f t j
  | 0, .nil, i, j, o, _ => by
    unfold Tr.put Tr.get
    rw [alGet_cons]; rfl
  | 0, .leaf l, i, j, o, _ => by
    unfold Tr.put Tr.get
    rw [alGet_cons]
  | 0, .node _ _ _, _, _, _, h => h.elim
  | f + 1, .nil, i, j, o, _ => by
    have n : Tr.wf f .nil := by cases f <;> trivial
    have e1 : Tr.get (f + 1) .nil j = none := rfl
    rw [e1]
    unfold Tr.put
    by_cases hi : i = 0
    · rw [if_pos hi]
      rw [Tr.get_node]
      by_cases hj : j = 0
      · rw [if_pos hj, if_pos (show j = i by omega)]
      · rw [if_neg hj, if_neg (show ¬ j = i by omega), Tr.get_nil, Tr.get_nil]
        split <;> rfl
    · rw [if_neg hi]
      by_cases hi2 : i % 2 = 1
      · rw [if_pos hi2]
        rw [Tr.get_node]
        by_cases hj : j = 0
        · rw [if_pos hj, if_neg (show ¬ j = i by omega)]
        · rw [if_neg hj]
          by_cases hj2 : j % 2 = 1
          · rw [if_pos hj2, Tr.get_put f .nil _ _ _ n, Tr.get_nil]
            by_cases e : j = i
            · rw [if_pos e, if_pos (show j / 2 = i / 2 by omega)]
            · rw [if_neg e, if_neg (show ¬ j / 2 = i / 2 by omega)]
          · rw [if_neg hj2, Tr.get_nil, if_neg (show ¬ j = i by omega)]
      · rw [if_neg hi2]
        rw [Tr.get_node]
        by_cases hj : j = 0
        · rw [if_pos hj, if_neg (show ¬ j = i by omega)]
        · rw [if_neg hj]
          by_cases hj2 : j % 2 = 1
          · rw [if_pos hj2, Tr.get_nil, if_neg (show ¬ j = i by omega)]
          · rw [if_neg hj2, Tr.get_put f .nil _ _ _ n, Tr.get_nil]
            by_cases e : j = i
            · rw [if_pos e, if_pos (show j / 2 - 1 = i / 2 - 1 by omega)]
            · rw [if_neg e, if_neg (show ¬ j / 2 - 1 = i / 2 - 1 by omega)]
  | f + 1, .leaf _, _, _, _, h => h.elim
  | f + 1, .node v l r, i, j, o, h => by
    rw [Tr.get_node f v l r]
    unfold Tr.put
    by_cases hi : i = 0
    · rw [if_pos hi]
      rw [Tr.get_node]
      by_cases hj : j = 0
      · rw [if_pos hj, if_pos (show j = i by omega)]
      · rw [if_neg hj, if_neg hj, if_neg (show ¬ j = i by omega)]
    · rw [if_neg hi]
      by_cases hi2 : i % 2 = 1
      · rw [if_pos hi2]
        rw [Tr.get_node]
        by_cases hj : j = 0
        · rw [if_pos hj, if_pos hj, if_neg (show ¬ j = i by omega)]
        · rw [if_neg hj, if_neg hj]
          by_cases hj2 : j % 2 = 1
          · rw [if_pos hj2, if_pos hj2, Tr.get_put f l _ _ _ h.1]
            by_cases e : j = i
            · rw [if_pos e, if_pos (show j / 2 = i / 2 by omega)]
            · rw [if_neg e, if_neg (show ¬ j / 2 = i / 2 by omega)]
          · rw [if_neg hj2, if_neg hj2, if_neg (show ¬ j = i by omega)]
      · rw [if_neg hi2]
        rw [Tr.get_node]
        by_cases hj : j = 0
        · rw [if_pos hj, if_pos hj, if_neg (show ¬ j = i by omega)]
        · rw [if_neg hj, if_neg hj]
          by_cases hj2 : j % 2 = 1
          · rw [if_pos hj2, if_pos hj2, if_neg (show ¬ j = i by omega)]
          · rw [if_neg hj2, if_neg hj2, Tr.get_put f r _ _ _ h.2]
            by_cases e : j = i
            · rw [if_pos e, if_pos (show j / 2 - 1 = i / 2 - 1 by omega)]
            · rw [if_neg e, if_neg (show ¬ j / 2 - 1 = i / 2 - 1 by omega)]
/-- the store: what stands below next -/
structure Store where
  next : Nat
  tr : Tr
def Store.emp : Store := ⟨0, .nil⟩
def Store.get (st : Store) (n : Nat) : Option MO := st.tr.get 40 n
def Store.set (st : Store) (n : Nat) (o : MO) : Store := ⟨st.next, st.tr.put 40 n o⟩
def Store.add (st : Store) (o : MO) : Store := ⟨st.next + 1, st.tr.put 40 st.next o⟩
def Store.wf (st : Store) : Prop := st.tr.wf 40
theorem Store.wf_emp : Store.emp.wf := trivial
theorem Store.wf_set {st : Store} (h : st.wf) (n : Nat) (o : MO) : (st.set n o).wf := Tr.wf_put 40 _ _ _ h
theorem Store.wf_add {st : Store} (h : st.wf) (o : MO) : (st.add o).wf := Tr.wf_put 40 _ _ _ h
theorem Store.get_set {st : Store} (h : st.wf) (n m : Nat) (o : MO) : (st.set n o).get m = if m = n then some o else st.get m := Tr.get_put 40 _ _ _ _ h
theorem Store.get_add {st : Store} (h : st.wf) (m : Nat) (o : MO) : (st.add o).get m = if m = st.next then some o else st.get m := Tr.get_put 40 _ _ _ _ h
theorem Store.next_set (st : Store) (n : Nat) (o : MO) : (st.set n o).next = st.next := rfl
theorem Store.next_add (st : Store) (o : MO) : (st.add o).next = st.next + 1 := rfl

/-! ### what a run leaves -/
inductive Res (α : Type) where
  | stuck
  | ok (a : α) (st : Store)
def Res.bind {α β : Type} (r : Res α) (f : α → Store → Res β) : Res β := match r with
  | .stuck => .stuck
  | .ok a st => f a st
theorem Res.bind_ok {α β : Type} {r : Res α} {f : α → Store → Res β} {b : β} {st' : Store} (h : r.bind f = .ok b st') : ∃ a st, r = .ok a st ∧ f a st = .ok b st' := by
  cases r with
  | stuck => cases h
  | ok a st => exact ⟨a, st, rfl, h⟩
@[simp] theorem Res.ok_bind {α β : Type} (a : α) (st : Store) (f : α → Store → Res β) : (Res.ok a st).bind f = f a st := rfl

/-! ### the relation to HandS's values and heap -/
/-- what is never written: a tuple, a frozen list, an object of the module -/
def FrzL (K : PySem.W.Frag) (H : Hp) (a : Addr) (xs : List V) : Prop :=
  (∃ o, H a = some (.frz o (.lst xs))) ∨
    ∃ (o : Obj) (its : Array Value) (n : Nat), K.lookup a = some o ∧ o.cls = .type "list" ∧ o.dict = none ∧ o.data = .seq its n ∧ its.size ≤ sizeLine ∧ Vals xs its.toList
theorem FrzL.sq {K : PySem.W.Frag} {H : Hp} {a : Addr} {xs : List V} (h : FrzL K H a xs) : SqL K H a xs := by
  rcases h with ⟨o, h⟩ | h
  · exact .inl (.inr ⟨o, h⟩)
  · exact .inr h
mutual
inductive Rv (K : PySem.W.Frag) (ρ : Nat → Addr) (N : Nat) (H : Hp) : MV → V → Prop
  | non : Rv K ρ N H .non .non
  | bl (b : Bool) : Rv K ρ N H (.bl b) (.bl b)
  | int (i : Int) : Rv K ρ N H (.int i) (.int i)
  | str (x : Str) : Rv K ρ N H (.str x) (.str x)
  | tup {p : Addr} {ys : List V} {xs : List MV} : SqT K H p ys → RvL K ρ N H xs ys → Rv K ρ N H (.tup xs) (.ref p)
  | ref {n : Nat} : n < N → Rv K ρ N H (.ref n) (.ref (ρ n))
  | scr {p : Addr} {ys : List V} {xs : List MV} : FrzL K H p ys → RvL K ρ N H xs ys → Rv K ρ N H (.scr xs) (.ref p)
inductive RvL (K : PySem.W.Frag) (ρ : Nat → Addr) (N : Nat) (H : Hp) : List MV → List V → Prop
  | nil : RvL K ρ N H [] []
  | cons {x : MV} {y : V} {xs : List MV} {ys : List V} : Rv K ρ N H x y → RvL K ρ N H xs ys → RvL K ρ N H (x :: xs) (y :: ys)
end
/-- pairs with equal keys -/
inductive RvP (K : PySem.W.Frag) (ρ : Nat → Addr) (N : Nat) (H : Hp) {κ : Type} : List (κ × MV) → List (κ × V) → Prop
  | nil : RvP K ρ N H [] []
  | cons {k : κ} {x : MV} {y : V} {xs : List (κ × MV)} {ys : List (κ × V)} : Rv K ρ N H x y → RvP K ρ N H xs ys → RvP K ρ N H ((k, x) :: xs) ((k, y) :: ys)
/-- where the classes stand -/
abbrev Cls0 := Nat → Addr
inductive RO (K : PySem.W.Frag) (ca : Cls0) (ρ : Nat → Addr) (N : Nat) (H : Hp) : MO → HO → Prop
  | lst {xs : List MV} {ys : List V} : RvL K ρ N H xs ys → RO K ca ρ N H (.lst xs) (.lst ys)
  | dK {xs : List (Key × MV)} {ys : List (Key × V)} : RvP K ρ N H xs ys → RO K ca ρ N H (.dK xs) (.dK ys)
  | ins {c : Nat} {dx : Addr} {xs : List (Str × MV)} {ys : List (Str × V)} : RvP K ρ N H xs ys → RO K ca ρ N H (.ins c xs) (.ins (ca c) dx ys)
structure Sim (K : PySem.W.Frag) (ca : Cls0) (ρ : Nat → Addr) (st : Store) (H : Hp) : Prop where
  wf : st.wf
  inj : ∀ n m, n < st.next → m < st.next → ρ n = ρ m → n = m
  obj : ∀ n, n < st.next → ∃ o u, st.get n = some o ∧ H (ρ n) = some u ∧ RO K ca ρ st.next H o u
/-- later: what is not of the store stands as it stood -/
structure Fut (ρ : Nat → Addr) (N : Nat) (H : Hp) (ρ' : Nat → Addr) (N' : Nat) (H' : Hp) : Prop where
  le : N ≤ N'
  agr : ∀ n, n < N → ρ' n = ρ n
  fr : ∀ a o, H a = some o → (∀ n, n < N → ρ n ≠ a) → H' a = some o ∧ ∀ n, n < N' → ρ' n ≠ a
theorem Fut.refl (ρ : Nat → Addr) (N : Nat) (H : Hp) : Fut ρ N H ρ N H := ⟨Nat.le_refl _, fun _ _ => rfl, fun _ _ h n => ⟨h, n⟩⟩
theorem Fut.trans {ρ ρ1 ρ2 : Nat → Addr} {N N1 N2 : Nat} {H H1 H2 : Hp} (a : Fut ρ N H ρ1 N1 H1) (b : Fut ρ1 N1 H1 ρ2 N2 H2) : Fut ρ N H ρ2 N2 H2 where
  le := Nat.le_trans a.le b.le
  agr := fun n h => (b.agr n (Nat.lt_of_lt_of_le h a.le)).trans (a.agr n h)
  fr := fun p o h hn => let ⟨h1, h2⟩ := a.fr p o h hn; b.fr p o h1 h2
/-- not an object of the store -/
def Imm : HO → Prop
  | .tup _ => True
  | .frz _ _ => True
  | _ => False
theorem Sim.imm {K : PySem.W.Frag} {ca : Cls0} {ρ : Nat → Addr} {st : Store} {H : Hp} (S : Sim K ca ρ st H) {a : Addr} {o : HO} (h : H a = some o) (i : Imm o) : ∀ n, n < st.next → ρ n ≠ a := fun n hn e => by
  obtain ⟨mo, u, _, hu, r⟩ := S.obj n hn
  rw [e, h] at hu
  cases hu
  cases r <;> exact i
theorem Fut.sqT {K : PySem.W.Frag} {ca : Cls0} {ρ ρ' : Nat → Addr} {st : Store} {N' : Nat} {H H' : Hp} (S : Sim K ca ρ st H) (F : Fut ρ st.next H ρ' N' H') {a : Addr} {ys : List V} (h : SqT K H a ys) : SqT K H' a ys := by
  rcases h with (h | ⟨o, h⟩) | h
  · exact .inl (.inl (F.fr _ _ h (S.imm h trivial)).1)
  · exact .inl (.inr ⟨o, (F.fr _ _ h (S.imm h trivial)).1⟩)
  · exact .inr h
theorem Fut.frzL {K : PySem.W.Frag} {ca : Cls0} {ρ ρ' : Nat → Addr} {st : Store} {N' : Nat} {H H' : Hp} (S : Sim K ca ρ st H) (F : Fut ρ st.next H ρ' N' H') {a : Addr} {ys : List V} (h : FrzL K H a ys) : FrzL K H' a ys := by
  rcases h with ⟨o, h⟩ | h
  · exact .inl ⟨o, (F.fr _ _ h (S.imm h trivial)).1⟩
  · exact .inr h
section
variable {K : PySem.W.Frag} {ca : Cls0} {ρ ρ' : Nat → Addr} {st : Store} {N' : Nat} {H H' : Hp}
mutual
theorem Fut.rv (S : Sim K ca ρ st H) (F : Fut ρ st.next H ρ' N' H') : ∀ {x : MV} {y : V}, Rv K ρ st.next H x y → Rv K ρ' N' H' x y
  | _, _, .non => .non
  | _, _, .bl b => .bl b
  | _, _, .int i => .int i
  | _, _, .str x => .str x
  | _, _, .tup h t => .tup (F.sqT S h) (Fut.rvL S F t)
  | _, _, .ref h => by rw [← F.agr _ h]; exact .ref (Nat.lt_of_lt_of_le h F.le)
  | _, _, .scr h t => .scr (F.frzL S h) (Fut.rvL S F t)
theorem Fut.rvL (S : Sim K ca ρ st H) (F : Fut ρ st.next H ρ' N' H') : ∀ {x : List MV} {y : List V}, RvL K ρ st.next H x y → RvL K ρ' N' H' x y
  | _, _, .nil => .nil
  | _, _, .cons h t => .cons (Fut.rv S F h) (Fut.rvL S F t)
end
theorem Fut.rvP {κ : Type} (S : Sim K ca ρ st H) (F : Fut ρ st.next H ρ' N' H') : ∀ {x : List (κ × MV)} {y : List (κ × V)}, RvP K ρ st.next H x y → RvP K ρ' N' H' x y
  | _, _, .nil => .nil
  | _, _, .cons h t => .cons (F.rv S h) (Fut.rvP S F t)
theorem Fut.ro (S : Sim K ca ρ st H) (F : Fut ρ st.next H ρ' N' H') {o : MO} {u : HO} (r : RO K ca ρ st.next H o u) : RO K ca ρ' N' H' o u := by
  cases r with
  | lst h => exact .lst (F.rvL S h)
  | dK h => exact .dK (F.rvP S h)
  | ins h => exact .ins (F.rvP S h)
/-- slots -/
def SlotsR (K : PySem.W.Frag) (ρ : Nat → Addr) (N : Nat) (H : Hp) (env : List (Option MV)) (σ : St) : Prop :=
  env.length = σ.length ∧ ∀ (i : Nat) (v : MV), env[i]? = some (some v) → ∃ x, σ[i]? = some (some x) ∧ Rv K ρ N H v x
theorem Fut.slots (S : Sim K ca ρ st H) (F : Fut ρ st.next H ρ' N' H') {env : List (Option MV)} {σ : St} (h : SlotsR K ρ st.next H env σ) : SlotsR K ρ' N' H' env σ :=
  ⟨h.1, fun i v e => let ⟨x, h1, h2⟩ := h.2 i v e; ⟨x, h1, F.rv S h2⟩⟩
theorem SlotsR.set {N : Nat} {env : List (Option MV)} {σ : St} (h : SlotsR K ρ N H env σ) {v : MV} {x : V} (i : Nat) (r : Rv K ρ N H v x) : SlotsR K ρ N H (env.set i (some v)) (σ.set i (some x)) := by
  refine ⟨by rw [List.length_set, List.length_set, h.1], fun j w e => ?_⟩
  by_cases hj : i = j
  · subst hj
    by_cases hl : i < env.length
    · rw [List.getElem?_set_self hl] at e
      cases e
      exact ⟨x, List.getElem?_set_self (by rw [← h.1]; exact hl), r⟩
    · rw [List.getElem?_eq_none (by simpa using hl)] at e
      cases e
  · rw [List.getElem?_set_ne hj] at e
    obtain ⟨y, h1, h2⟩ := h.2 j w e
    exact ⟨y, by rw [List.getElem?_set_ne hj]; exact h1, h2⟩
end
section
variable {K : PySem.W.Frag} {ρ : Nat → Addr} {N : Nat} {H : Hp}
theorem RvL.length : ∀ {xs : List MV} {ys : List V}, RvL K ρ N H xs ys → xs.length = ys.length
  | _, _, .nil => rfl
  | _, _, .cons _ t => by rw [List.length_cons, List.length_cons, RvL.length t]
theorem RvL.get : ∀ {xs : List MV} {ys : List V} {i : Nat} {x : MV}, RvL K ρ N H xs ys → xs[i]? = some x → ∃ y, ys[i]? = some y ∧ Rv K ρ N H x y
  | _, _, i, _, .nil, e => by simp at e
  | _, _, 0, _, .cons h _, e => by simp at e; subst e; exact ⟨_, rfl, h⟩
  | _, _, i + 1, x, .cons _ t, e => by
    obtain ⟨y, h1, h2⟩ := RvL.get (i := i) (x := x) t (by simpa using e)
    exact ⟨y, by simpa using h1, h2⟩
theorem RvL.append : ∀ {xs xs' : List MV} {ys ys' : List V}, RvL K ρ N H xs ys → RvL K ρ N H xs' ys' → RvL K ρ N H (xs ++ xs') (ys ++ ys')
  | _, _, _, _, .nil, s => s
  | _, _, _, _, .cons h t, s => .cons h (RvL.append t s)
theorem RvL.take : ∀ {xs : List MV} {ys : List V} (n : Nat), RvL K ρ N H xs ys → RvL K ρ N H (xs.take n) (ys.take n)
  | _, _, 0, _ => .nil
  | _, _, _ + 1, .nil => .nil
  | _, _, n + 1, .cons h t => .cons h (RvL.take n t)
theorem RvL.drop : ∀ {xs : List MV} {ys : List V} (n : Nat), RvL K ρ N H xs ys → RvL K ρ N H (xs.drop n) (ys.drop n)
  | _, _, 0, r => r
  | _, _, _ + 1, .nil => .nil
  | _, _, n + 1, .cons _ t => RvL.drop n t
theorem RvL.set {x : MV} {y : V} (r : Rv K ρ N H x y) : ∀ {xs : List MV} {ys : List V} (n : Nat), RvL K ρ N H xs ys → RvL K ρ N H (xs.set n x) (ys.set n y)
  | _, _, _, .nil => .nil
  | _, _, 0, .cons _ t => .cons r t
  | _, _, n + 1, .cons h t => .cons h (RvL.set r n t)
theorem RvL.dropLast : ∀ {xs : List MV} {ys : List V}, RvL K ρ N H xs ys → RvL K ρ N H xs.dropLast ys.dropLast := fun {xs ys} r => by
  rw [List.dropLast_eq_take, List.dropLast_eq_take, r.length]
  exact r.take _
theorem RvL.erase : ∀ {xs : List MV} {ys : List V} (n : Nat), RvL K ρ N H xs ys → RvL K ρ N H (xs.eraseIdx n) (ys.eraseIdx n)
  | _, _, _, .nil => by simp; exact .nil
  | _, _, 0, .cons _ t => t
  | _, _, n + 1, .cons h t => .cons h (RvL.erase n t)
theorem RvL.nil_iff {xs : List MV} {ys : List V} (r : RvL K ρ N H xs ys) : xs = [] ↔ ys = [] := by
  cases r <;> simp
end
section
variable {K : PySem.W.Frag} {ca : Cls0} {ρ : Nat → Addr} {st : Store} {H : Hp}
/-- a new object of the store at a fresh place -/
def ext (ρ : Nat → Addr) (n : Nat) (p : Addr) : Nat → Addr := fun m => if m = n then p else ρ m
theorem ext_same {n : Nat} {p : Addr} : ext ρ n p n = p := if_pos rfl
theorem ext_ne {n m : Nat} {p : Addr} (h : m ≠ n) : ext ρ n p m = ρ m := if_neg h
/-- the heap may gain what the store has not -/
theorem Fut.grow (S : Sim K ca ρ st H) {p : Addr} {o : HO} (hp : H p = none) : Fut ρ st.next H ρ st.next (upd H p o) :=
  ⟨Nat.le_refl _, fun _ _ => rfl, fun a u h hn => ⟨by rw [upd_ne (ne_of_none h hp)]; exact h, hn⟩⟩
theorem Sim.grow (S : Sim K ca ρ st H) {p : Addr} {o : HO} (hp : H p = none) : Sim K ca ρ st (upd H p o) :=
  ⟨S.wf, S.inj, fun n hn => by
    obtain ⟨mo, u, h1, h2, r⟩ := S.obj n hn
    exact ⟨mo, u, h1, by rw [upd_ne (ne_of_none h2 hp)]; exact h2, (Fut.grow S hp).ro S r⟩⟩
theorem Fut.alloc (S : Sim K ca ρ st H) {p : Addr} {o : HO} (hp : H p = none) : Fut ρ st.next H (ext ρ st.next p) (st.next + 1) (upd H p o) :=
  ⟨Nat.le_succ _, fun n h => ext_ne (Nat.ne_of_lt h), fun a u h hn => ⟨by rw [upd_ne (ne_of_none h hp)]; exact h, fun n hl => by
    by_cases e : n = st.next
    · rw [e, ext_same]; exact fun z => ne_of_none h hp z.symm
    · rw [ext_ne e]; exact hn n (Nat.lt_of_le_of_ne (Nat.le_of_lt_succ hl) e)⟩⟩
theorem Sim.alloc (S : Sim K ca ρ st H) {p : Addr} {o : HO} {mo : MO} (hp : H p = none) (r : RO K ca ρ st.next H mo o) : Sim K ca (ext ρ st.next p) (st.add mo) (upd H p o) := by
  have F : Fut ρ st.next H (ext ρ st.next p) (st.next + 1) (upd H p o) := Fut.alloc S hp
  have fresh : ∀ n, n < st.next → ρ n ≠ p := fun n hn e => by
    obtain ⟨_, u, _, h2, _⟩ := S.obj n hn
    rw [e, hp] at h2; cases h2
  refine ⟨Store.wf_add S.wf _, fun n m hn hm e => ?_, fun n hn => ?_⟩
  · rw [Store.next_add] at hn hm
    by_cases h1 : n = st.next
    · by_cases h2 : m = st.next
      · rw [h1, h2]
      · rw [h1, ext_same, ext_ne h2] at e
        exact absurd e.symm (fresh m (by omega))
    · by_cases h2 : m = st.next
      · rw [h2, ext_same, ext_ne h1] at e
        exact absurd e (fresh n (by omega))
      · rw [ext_ne h1, ext_ne h2] at e
        exact S.inj n m (by omega) (by omega) e
  · rw [Store.next_add] at hn
    rw [Store.get_add S.wf]
    by_cases h1 : n = st.next
    · rw [if_pos h1, h1, ext_same]
      exact ⟨mo, o, rfl, upd_same, F.ro S r⟩
    · rw [if_neg h1, ext_ne h1]
      obtain ⟨mo', u, e1, e2, r'⟩ := S.obj n (by omega)
      exact ⟨mo', u, e1, by rw [upd_ne (ne_of_none e2 hp)]; exact e2, F.ro S r'⟩
/-- an object of the store is written -/
theorem Fut.write (S : Sim K ca ρ st H) {n : Nat} {o : HO} (hn : n < st.next) : Fut ρ st.next H ρ st.next (upd H (ρ n) o) :=
  ⟨Nat.le_refl _, fun _ _ => rfl, fun a u h hx => ⟨by rw [upd_ne (fun e => hx n hn e.symm)]; exact h, hx⟩⟩
theorem Sim.write (S : Sim K ca ρ st H) {n : Nat} {o : HO} {mo : MO} (hn : n < st.next) (r : RO K ca ρ st.next H mo o) : Sim K ca ρ (st.set n mo) (upd H (ρ n) o) := by
  refine ⟨Store.wf_set S.wf _ _, S.inj, fun m hm => ?_⟩
  rw [Store.next_set] at hm ⊢
  rw [Store.get_set S.wf]
  by_cases e : m = n
  · rw [if_pos e, e]
    exact ⟨mo, o, rfl, upd_same, (Fut.write S hn).ro S r⟩
  · rw [if_neg e]
    obtain ⟨mo', u, e1, e2, r'⟩ := S.obj m hm
    exact ⟨mo', u, e1, by rw [upd_ne (fun z => e (S.inj _ _ hm hn z))]; exact e2, (Fut.write S hn).ro S r'⟩
theorem Sim.at (S : Sim K ca ρ st H) {n : Nat} {o : MO} (hn : n < st.next) (e : st.get n = some o) : ∃ u, H (ρ n) = some u ∧ RO K ca ρ st.next H o u := by
  obtain ⟨mo, u, h1, h2, r⟩ := S.obj n hn
  rw [e] at h1; cases h1
  exact ⟨u, h2, r⟩
end
end MP

set_option Elab.async false
set_option linter.all false
set_option maxRecDepth 100000
set_option maxHeartbeats 4000000
namespace MP
open PySem L2

inductive BOp where | add | sub | mul | mod | fdiv | pow
inductive COp where | eq | ne | lt | le | gt | ge | isin | notin
inductive TN where | str | int | bool | tuple | list | dict | cls (c : Nat)
  deriving DecidableEq
inductive BI where | len | abs | int | repr | list | tuple | str | isi (ts : List TN) | max2 | min2
inductive Mt where | pop | pop1 | append | index
inductive Tg where | one (i : Nat) | many (is : List Nat)

mutual
inductive ME where
  | var (i : Nat)
  | lit (v : MV)
  | bin (op : BOp) (a b : ME)
  | cmp (op : COp) (a b : ME)
  | cmpL (op : COp) (a b : ME)
  | isN (neg : Bool) (a : ME)
  | isB (c : Bool) (neg : Bool) (a : ME)
  | and (a b : ME)
  | or (a b : ME)
  | not (a : ME)
  | ifx (c a b : ME)
  | idx (a i : ME)
  | slc (a : ME) (lo hi : Option ME)
  | tupD (es : List ME)
  | lstD (es : List ME)
  | comp (elt : ME) (tg : Tg) (it : MI) (conds : List ME) (ws : List Nat)
  | mk (e : ME)
  | dicD (kvs : List (ME × ME))
  | call (f : Nat) (args : List ME)
  | bi (b : BI) (args : List ME)
  | all (e : ME)
  | any (e : ME)
  | join (s e : ME)
  | tupL (e : ME)
  | neg (a : ME)
  | meth (m : Mt) (o : ME) (args : List ME)
inductive MI where
  | seq (e : ME)
  | tmp (e : ME)
  | rng1 (a : ME)
  | rng2 (a b : ME)
end
inductive MS where
  | set (i : Nat) (e : ME)
  | par (i j : Nat) (a b : ME)
  | unp (is : List Nat) (e : ME)
  | put (o i e : ME)
  | iff (c : ME) (a b : List MS)
  | ret (e : ME)
  | expr (e : ME)
  | for_ (tg : Tg) (it : MI) (body : List MS)
  | while_ (c : ME) (body : List MS)
  | pass | brk | cont

abbrev Env := List (Option MV)
inductive Fl where | nx | bk | ct | rt (v : MV)
structure MFn where
  np : Nat
  ns : Nat
  body : List MS
abbrev Tab := Nat → Option MFn

/-! ### what operators do with values -/
/-- a value as data, to a depth -/
def toD (st : Store) : Nat → MV → Option PyData
  | 0, _ => none
  | f + 1, v => match v with
    | .non => some .none
    | .bl b => some (.bool b)
    | .int i => some (.int i)
    | .str x => some (.str x)
    | .tup xs => (xs.mapM (toD st f)).map .tuple
    | .scr xs => (xs.mapM (toD st f)).map .list
    | .ref n => match st.get n with
      | some (.lst xs) => (xs.mapM (toD st f)).map .list
      | _ => none
/-- a value as data for repr: dicts too -/
def toR (st : Store) : Nat → MV → Option PyData
  | 0, _ => none
  | f + 1, v => match v with
    | .non => some .none
    | .bl b => some (.bool b)
    | .int i => some (.int i)
    | .str x => some (.str x)
    | .tup xs => (xs.mapM (toR st f)).map .tuple
    | .scr xs => (xs.mapM (toR st f)).map .list
    | .ref n => match st.get n with
      | some (.lst xs) => (xs.mapM (toR st f)).map .list
      | some (.dK []) => some (.dict [])
      | _ => none
/-- data that == may be asked of -/
def toS (st : Store) (v : MV) : Option PyData := match toD st 66 v with
  | some d => if SeqAt.shaped d = true then some d else none
  | none => none
/-- a sequence's items -/
def seqV (st : Store) : MV → Option (List MV)
  | .tup xs => some xs
  | .scr xs => some xs
  | .ref n => match st.get n with
    | some (.lst xs) => some xs
    | _ => none
  | _ => none
def lstV (st : Store) : MV → Option (List MV)
  | .scr xs => some xs
  | .ref n => match st.get n with
    | some (.lst xs) => some xs
    | _ => none
  | _ => none
def txtsV : List MV → Option (List Str)
  | [] => some []
  | .str x :: r => match txtsV r with
    | some t => some (x :: t)
    | none => none
  | _ :: _ => none
def newL (xs : List MV) (st : Store) : Res MV := if xs.length ≤ sizeLine then .ok (.ref st.next) (st.add (.lst xs)) else .stuck
def newT (xs : List MV) (st : Store) : Res MV := if xs.length ≤ sizeLine then .ok (.tup xs) st else .stuck
def small (i : Int) : Bool := decide (-(2 ^ 64) < i) && decide (i < 2 ^ 64)
def binV (op : BOp) (a b : MV) (st : Store) : Res MV := match op, a, b with
  | .add, .int i, .int j => .ok (.int (i + j)) st
  | .add, .str x, .str y => if x.length + y.length ≤ sizeLine then .ok (.str (x ++ y)) st else .stuck
  | .add, .tup xs, .tup ys => if xs.length + ys.length ≤ sizeLine then .ok (.tup (xs ++ ys)) st else .stuck
  | .add, .ref n, .ref m => match st.get n, st.get m with
    | some (.lst xs), some (.lst ys) => newL (xs ++ ys) st
    | _, _ => .stuck
  | .sub, .int i, .int j => .ok (.int (i - j)) st
  | .mul, .int i, .int j => if (small i || small j) = true then .ok (.int (i * j)) st else .stuck
  | .mul, .str x, .int k => if 0 ≤ k ∧ k < 1000 ∧ x.length < 1000 then .ok (.str (Txt.mul x k)) st else .stuck
  | .mod, .int i, .int j => if 0 < j then .ok (.int (i % j)) st else .stuck
  | .fdiv, .int i, .int j => if 0 < j ∧ j < 1073741824 then .ok (.int (i / j)) st else .stuck
  | .pow, .int i, .int j => if 0 ≤ j ∧ j ≤ 1000000 ∧ i.natAbs < 2 ^ 64 then .ok (.int (i ^ j.toNat)) st else .stuck
  | _, _, _ => .stuck
def inTxt (x z : Str) : Bool := match x.cps.toList with
  | [c] => decide (c ∈ z.cps.toList)
  | _ => !(Builtin.Str.occurrences z x 0 z.length 1).isEmpty
def keyV : MV → Option Key
  | .int i => some (.inl i)
  | .str x => some (.inr x)
  | _ => none
def kvLook (kvs : List (Key × MV)) (k : Key) : Option MV := (kvs.find? fun kv => decide (kv.1 = k)).map (·.2)
def kvPut (kvs : List (Key × MV)) (k : Key) (v : MV) : List (Key × MV) :=
  if (kvs.any fun kv => decide (kv.1 = k)) = true then kvs.map fun kv => if kv.1 = k then (kv.1, v) else kv else kvs ++ [(k, v)]
/-- is an item a text -/
def itemS (st : Store) (x : MV) (z : Str) : Option Bool := match x with
  | .str y => some (z == y)
  | .ref n => match st.get n with
    | some (.lst _) => some false
    | some (.dK _) => some false
    | _ => none
  | _ => some false
/-- are items texts, one by one -/
def itemsS (st : Store) : List MV → List Str → Option Bool
  | [], [] => some true
  | x :: xs, z :: zs => match itemS st x z, itemsS st xs zs with
    | some a, some b => some (a && b)
    | _, _ => none
  | _, _ => some false
def tupsV : List MV → Option (List (List Str))
  | [] => some []
  | .tup xs :: r => match txtsV xs, tupsV r with
    | some t, some q => some (t :: q)
    | _, _ => none
  | _ :: _ => none
def anyS (st : Store) (xs : List MV) : List (List Str) → Option Bool
  | [] => some false
  | z :: zs => match itemsS st xs z, anyS st xs zs with
    | some a, some b => some (a || b)
    | _, _ => none
def frV (st : Store) : MV → Option (List MV)
  | .tup xs => some xs
  | .ref n => match st.get n with
    | some (.lst xs) => some xs
    | _ => none
  | _ => none
/-- a tuple among tuples of texts -/
def inTS (a b : MV) (st : Store) : Option Bool := match a with
  | .tup xs => match frV st b with
    | some items => match tupsV items with
      | some zss => anyS st xs zss
      | none => none
    | none => none
  | _ => none
/-- x in y -/
def inV (a b : MV) (st : Store) : Option Bool := match b with
  | .str z => match a with
    | .str x => some (inTxt x z)
    | _ => none
  | .ref n => match st.get n with
    | some (.dK kvs) => (keyV a).map fun k => (kvLook kvs k).isSome
    | some (.lst _) => match toS st a, toS st b with
      | some d, some (.list ds) => some (ds.any fun e => PyData.eqv e d)
      | _, _ => none
    | _ => none
  | .scr _ => match toS st a, toS st b with
    | some d, some (.list ds) => some (ds.any fun e => PyData.eqv e d)
    | _, _ => none
  | .tup _ => match toS st a, toS st b with
    | some d, some (.tuple ds) => some (ds.any fun e => PyData.eqv e d)
    | _, _ => none
  | _ => none
def eqV (a b : MV) (st : Store) : Option Bool := match toS st a, toS st b with
  | some d, some e => some (PyData.eqv d e)
  | _, _ => none
/-- against the empty tuple -/
def eqT0 (a b : MV) : Option Bool := match a, b with
  | .tup xs, .tup [] => some xs.isEmpty
  | _, _ => none
/-- two texts -/
def eqSS (a b : MV) : Option Bool := match a, b with
  | .str x, .str y => some (x == y)
  | _, _ => none
def orO (a b : Option Bool) : Option Bool := match a with
  | some k => some k
  | none => b
def okB (o : Option Bool) (f : Bool → Bool) (st : Store) : Res MV := match o with
  | some k => .ok (.bl (f k)) st
  | none => .stuck
def cmpV (op : COp) (a b : MV) (st : Store) : Res MV := match op with
  | .eq => okB (orO (eqSS a b) (orO (eqT0 a b) (eqV a b st))) id st
  | .ne => okB (orO (eqSS a b) (eqV a b st)) (!·) st
  | .isin => okB (orO (inTS a b st) (inV a b st)) id st
  | .notin => okB (inV a b st) (!·) st
  | .lt => match a, b with
    | .int i, .int j => .ok (.bl (decide (i < j))) st
    | _, _ => .stuck
  | .le => match a, b with
    | .int i, .int j => .ok (.bl (decide (i ≤ j))) st
    | _, _ => .stuck
  | .gt => match a, b with
    | .int i, .int j => .ok (.bl (decide (j < i))) st
    | _, _ => .stuck
  | .ge => match a, b with
    | .int i, .int j => .ok (.bl (decide (j ≤ i))) st
    | _, _ => .stuck
/-- two lists that were just made, by == -/
def cmpLV (op : COp) (xs ys : List MV) (st : Store) : Res MV :=
  match toS st (.scr xs), toS st (.scr ys) with
  | some d, some e => match op with
    | .eq => .ok (.bl (PyData.eqv d e)) st
    | .ne => .ok (.bl (!PyData.eqv d e)) st
    | _ => .stuck
  | _, _ => .stuck
/-- the place an index means -/
def at_ {α : Type} (xs : List α) (i : Int) : Option α := atI xs i
def idxV (a i : MV) (st : Store) : Res MV := match a, i with
  | .tup xs, .int k => match atI xs k with
    | some v => .ok v st
    | none => .stuck
  | .scr xs, .int k => match atI xs k with
    | some v => .ok v st
    | none => .stuck
  | .str z, .int k => if z.length ≤ sizeLine then (match atI z.cps.toList k with
    | some c => .ok (.str ⟨#[c]⟩) st
    | none => .stuck) else .stuck
  | .ref n, k => match st.get n with
    | some (.lst xs) => (match k with
      | .int k => match atI xs k with
        | some v => .ok v st
        | none => .stuck
      | _ => .stuck)
    | some (.dK kvs) => (match keyV k with
      | some q => match kvLook kvs q with
        | some v => .ok v st
        | none => .stuck
      | none => .stuck)
    | _ => .stuck
  | _, _ => .stuck
/-- a cut -/
def cut {α : Type} (xs : List α) (lo hi : Option Int) : List α := (xs.drop (HT.sIx xs.length 0 lo)).take (HT.sIx xs.length xs.length hi - HT.sIx xs.length 0 lo)
def slcV (a : MV) (lo hi : Option Int) (st : Store) : Res MV := match a with
  | .tup xs => .ok (.tup (cut xs lo hi)) st
  | .scr xs => newL (cut xs lo hi) st
  | .ref n => match st.get n with
    | some (.lst xs) => newL (cut xs lo hi) st
    | _ => .stuck
  | _ => .stuck
def truV (v : MV) (st : Store) : Option Bool := match v with
  | .non => some false
  | .bl b => some b
  | .int i => some (i != 0)
  | .str y => if y.length ≤ sizeLine then some ((y.length : Int) != 0) else none
  | .tup xs => some (!xs.isEmpty)
  | .scr xs => some (!xs.isEmpty)
  | .ref n => match st.get n with
    | some (.lst xs) => some (!xs.isEmpty)
    | some (.dK kvs) => some (!kvs.isEmpty)
    | _ => none
def isT (st : Store) (v : MV) : TN → Option Bool := fun t => match v with
  | .non => match t with
    | .cls _ => none
    | _ => some false
  | .bl _ => match t with
    | .int => some true
    | .bool => some true
    | .cls _ => none
    | _ => some false
  | .int _ => match t with
    | .int => some true
    | .cls _ => none
    | _ => some false
  | .str _ => match t with
    | .str => some true
    | .cls _ => none
    | _ => some false
  | .tup _ => match t with
    | .tuple => some true
    | .cls _ => none
    | _ => some false
  | .scr _ => match t with
    | .list => some true
    | .cls _ => none
    | _ => some false
  | .ref n => match st.get n with
    | some (.lst _) => (match t with
      | .list => some true
      | .cls _ => none
      | _ => some false)
    | some (.dK _) => (match t with
      | .dict => some true
      | .cls _ => none
      | _ => some false)
    | _ => none
def isTs (st : Store) (v : MV) : List TN → Option Bool
  | [] => some false
  | t :: ts => match isT st v t with
    | some true => some true
    | some false => isTs st v ts
    | none => none
def biV (b : BI) (vs : List MV) (st : Store) : Res MV := match b, vs with
  | .len, [.str z] => if z.length ≤ sizeLine then .ok (.int z.length) st else .stuck
  | .len, [.tup xs] => .ok (.int xs.length) st
  | .len, [.scr xs] => .ok (.int xs.length) st
  | .len, [.ref n] => match st.get n with
    | some (.lst xs) => .ok (.int xs.length) st
    | some (.dK kvs) => .ok (.int kvs.length) st
    | _ => .stuck
  | .abs, [.int i] => .ok (.int (if i < 0 then -i else i)) st
  | .int, [.int i] => .ok (.int i) st
  | .int, [.bl k] => .ok (.int (if k then 1 else 0)) st
  | .list, [v] => match seqV st v with
    | some xs => newL xs st
    | none => .stuck
  | .tuple, [.tup xs] => .ok (.tup xs) st
  | .tuple, [v] => match lstV st v with
    | some xs => newT xs st
    | none => .stuck
  | .repr, [v] => match toR st 66 v with
    | some d => if d.showable = true ∧ d.shown.length ≤ sizeLine ∧ d.depth ≤ 64 then .ok (.str d.shown) st else .stuck
    | none => .stuck
  | .str, [.int i] => if i.natAbs.log2 < 1920 then .ok (.str (toString i)) st else .stuck
  | .isi ts, [v] => match isTs st v ts with
    | some k => .ok (.bl k) st
    | none => .stuck
  | .max2, [.int i, .int j] => .ok (.int (if j > i then j else i)) st
  | .min2, [.int i, .int j] => .ok (.int (if j < i then j else i)) st
  | _, _ => .stuck
def methV (m : Mt) (o : MV) (vs : List MV) (st : Store) : Res MV := match m, o, vs with
  | .pop, .ref n, [] => match st.get n with
    | some (.lst xs) => match xs[xs.length - 1]? with
      | some v => .ok v (st.set n (.lst xs.dropLast))
      | none => .stuck
    | _ => .stuck
  | .append, .ref n, [v] => match st.get n with
    | some (.lst xs) => if xs.length < sizeLine then .ok .non (st.set n (.lst (xs ++ [v]))) else .stuck
    | _ => .stuck
  | _, _, _ => .stuck
def isLst (st : Store) (v : MV) : Bool := match v with
  | .ref n => match st.get n with
    | some (.lst _) => true
    | _ => false
  | _ => false
def putO (ob : MO) (n : Nat) (i v : MV) (st : Store) : Option Store := match ob, i with
  | .lst xs, .int k => match ixN xs.length k with
    | some j => some (st.set n (.lst (xs.set j v)))
    | none => none
  | .dK kvs, q => match keyV q with
    | some q => if kvs.length < sizeLine then some (st.set n (.dK (kvPut kvs q v))) else none
    | none => none
  | _, _ => none
def putV (o i v : MV) (st : Store) : Option Store := match o with
  | .ref n => match st.get n with
    | some ob => putO ob n i v st
    | none => none
  | _ => none
def strsV : List MV → Option (List Str)
  | [] => some []
  | .str x :: r => match strsV r with
    | some t => some (x :: t)
    | none => none
  | _ :: _ => none
def blsV : List MV → Option (List Bool)
  | [] => some []
  | .bl x :: r => match blsV r with
    | some t => some (x :: t)
    | none => none
  | _ :: _ => none
def kvsV : List (MV × MV) → Option (List (Key × MV))
  | [] => some []
  | (k, v) :: r => match keyV k, kvsV r with
    | some q, some t => some ((q, v) :: t)
    | _, _ => none
def kvMerge (acc more : List (Key × MV)) : List (Key × MV) := more.foldl (fun acc kv => kvPut acc kv.1 kv.2) acc

/-! ### what a loop walks -/
inductive Itv where
  | snap (xs : List MV)
  | live (n i : Nat)
def signs (z : Str) : List MV := z.cps.toList.map fun c => MV.str ⟨#[c]⟩
def rngV (lo : Int) : Nat → List MV
  | 0 => []
  | n + 1 => .int lo :: rngV (lo + 1) n
/-- the next item, if there is one -/
def Itv.next (it : Itv) (st : Store) : Option (Option (MV × Itv)) := match it with
  | .snap [] => some none
  | .snap (x :: xs) => some (some (x, .snap xs))
  | .live n i => match st.get n with
    | some (.lst xs) => some (match xs[i]? with
      | some x => some (x, .live n (i + 1))
      | none => none)
    | _ => none
def setMany : List Nat → List MV → Env → Option Env
  | [], [], env => some env
  | i :: is, v :: vs, env => setMany is vs (env.set i (some v))
  | _, _, _ => none
def Tg.set (t : Tg) (v : MV) (env : Env) : Option Env := match t with
  | .one i => some (env.set i (some v))
  | .many is => match v with
    | .tup vs => setMany is vs env
    | _ => none
def wipeE (env : Env) : List Nat → Env
  | [] => env
  | v :: vs => (wipeE env vs).set v none

/-! ### the evaluator -/
structure Ev where
  e : ME → Env → Store → Res MV
  t : ME → Env → Store → Res Bool
  a : List ME → Env → Store → Res (List MV)
  p : List (ME × ME) → Env → Store → Res (List (MV × MV))
  o : Option ME → Env → Store → Res (Option Int)
  l : ME → Env → Store → Res (List MV)
  i : MI → Env → Store → Res Itv
  ts : List ME → Env → Store → Res Bool
  f : Itv → Tg → List MS → Env → Store → Res (Fl × Env)
  g : Itv → Tg → List ME → ME → Env → List MV → Store → Res (List MV)
  s : MS → Env → Store → Res (Fl × Env)
  b : List MS → Env → Store → Res (Fl × Env)
def Ev.none : Ev where
  e _ _ _ := .stuck
  t _ _ _ := .stuck
  a _ _ _ := .stuck
  p _ _ _ := .stuck
  o _ _ _ := .stuck
  l _ _ _ := .stuck
  i _ _ _ := .stuck
  ts _ _ _ := .stuck
  f _ _ _ _ _ := .stuck
  g _ _ _ _ _ _ _ := .stuck
  s _ _ _ := .stuck
  b _ _ _ := .stuck
def startE (vs : List MV) (ns : Nat) : Env := vs.map some ++ List.replicate (ns - vs.length) none
/-- a call: the body from its start -/
def callB (R : Ev) (fn : MFn) (vs : List MV) (st : Store) : Res MV :=
  if vs.length = fn.np then (R.b fn.body (startE vs fn.ns) st).bind fun r st' => match r.1 with
    | .nx => .ok .non st'
    | .rt v => .ok v st'
    | _ => .stuck
  else .stuck
def stepE (Γ : Tab) (R : Nat → Ev) (d : Nat) (m : ME) (env : Env) (st : Store) : Res MV := match m with
  | .var i => match env[i]? with
    | some (some v) => .ok v st
    | _ => .stuck
  | .lit v => .ok v st
  | .bin op a b => ((R d).e a env st).bind fun x st => ((R d).e b env st).bind fun y st => binV op x y st
  | .cmp op a b => ((R d).e a env st).bind fun x st => ((R d).e b env st).bind fun y st => cmpV op x y st
  | .cmpL op a b => ((R d).l a env st).bind fun x st => ((R d).l b env st).bind fun y st => cmpLV op x y st
  | .isN neg a => ((R d).e a env st).bind fun x st => match x with
    | .non => .ok (.bl (!neg)) st
    | _ => .ok (.bl neg) st
  | .isB c neg a => ((R d).e a env st).bind fun x st => match x with
    | .bl k => .ok (.bl (if neg then !(decide (k = c)) else decide (k = c))) st
    | _ => .stuck
  | .and a b => ((R d).e a env st).bind fun x st => match x with
    | .bl true => (R d).e b env st
    | .bl false => .ok (.bl false) st
    | _ => .stuck
  | .or a b => ((R d).e a env st).bind fun x st => match x with
    | .bl false => (R d).e b env st
    | .bl true => .ok (.bl true) st
    | _ => .stuck
  | .not a => ((R d).t a env st).bind fun k st => .ok (.bl (!k)) st
  | .ifx c a b => ((R d).t c env st).bind fun k st => if k = true then (R d).e a env st else (R d).e b env st
  | .idx a i => ((R d).e a env st).bind fun x st => ((R d).e i env st).bind fun y st => idxV x y st
  | .slc a lo hi => ((R d).e a env st).bind fun x st => ((R d).o lo env st).bind fun l st => ((R d).o hi env st).bind fun h st => slcV x l h st
  | .tupD es => ((R d).a es env st).bind fun vs st => newT vs st
  | .mk e => ((R d).l e env st).bind fun vs st => newL vs st
  | .dicD kvs => if kvs.length ≤ 15 then ((R d).p kvs env st).bind fun ps st => match kvsV ps with
    | some q => .ok (.ref st.next) (st.add (.dK (kvMerge [] q)))
    | none => .stuck else .stuck
  | .call f args => ((R d).a args env st).bind fun vs st => match Γ f, d with
    | some fn, d' + 1 => callB (R d') fn vs st
    | _, _ => .stuck
  | .bi b args => ((R d).a args env st).bind fun vs st => biV b vs st
  | .all e => ((R d).l e env st).bind fun vs st => match blsV vs with
    | some bs => .ok (.bl (bs.all id)) st
    | none => .stuck
  | .any e => ((R d).l e env st).bind fun vs st => match blsV vs with
    | some bs => .ok (.bl (bs.any id)) st
    | none => .stuck
  | .join s e => ((R d).e s env st).bind fun x st => ((R d).l e env st).bind fun vs st => match x, strsV vs with
    | .str a, some ys => if (ys.map (·.length)).sum + ys.length * a.length ≤ 16777216 then .ok (.str (Txt.join a ys)) st else .stuck
    | _, _ => .stuck
  | .tupL e => ((R d).l e env st).bind fun vs st => newT vs st
  | .neg a => ((R d).e a env st).bind fun x st => match x with
    | .int i => .ok (.int (-i)) st
    | _ => .stuck
  | .meth m o args => ((R d).e o env st).bind fun x st => if isLst st x = true then ((R d).a args env st).bind fun vs st => methV m x vs st else .stuck
  | .lstD _ => .stuck
  | .comp _ _ _ _ _ => .stuck
def stepT (R : Ev) (m : ME) (env : Env) (st : Store) : Res Bool := match m with
  | .and a b => (R.t a env st).bind fun k st => if k = true then R.t b env st else .ok false st
  | .or a b => (R.t a env st).bind fun k st => if k = true then .ok true st else R.t b env st
  | .not a => (R.t a env st).bind fun k st => .ok (!k) st
  | m => (R.e m env st).bind fun v st => match truV v st with
    | some k => .ok k st
    | none => .stuck
def stepL (R : Ev) (m : ME) (env : Env) (st : Store) : Res (List MV) := match m with
  | .lstD es => (R.a es env st).bind fun vs st => if vs.length ≤ sizeLine then .ok vs st else .stuck
  | .comp elt tg it conds ws => (R.i it env st).bind fun w st => R.g w tg conds elt (wipeE env ws) [] st
  | m => (R.e m env st).bind fun v st => match lstV st v with
    | some xs => .ok xs st
    | none => .stuck
def stepI (R : Ev) (m : MI) (env : Env) (st : Store) : Res Itv := match m with
  | .seq e => (R.e e env st).bind fun v st => match v with
    | .tup xs => .ok (.snap xs) st
    | .scr xs => .ok (.snap xs) st
    | .str z => .ok (.snap (signs z)) st
    | .ref n => match st.get n with
      | some (.lst _) => .ok (.live n 0) st
      | _ => .stuck
    | _ => .stuck
  | .tmp e => (R.l e env st).bind fun xs st => .ok (.snap xs) st
  | .rng1 a => (R.e a env st).bind fun v st => match v with
    | .int j => if -(2 ^ 62) ≤ j ∧ j < 2 ^ 62 then .ok (.snap (rngV 0 j.toNat)) st else .stuck
    | _ => .stuck
  | .rng2 a b => (R.e a env st).bind fun v st => (R.e b env st).bind fun u st => match v, u with
    | .int i, .int j => if -(2 ^ 62) ≤ i ∧ i < 2 ^ 62 ∧ -(2 ^ 62) ≤ j ∧ j < 2 ^ 62 then .ok (.snap (rngV i (j - i).toNat)) st else .stuck
    | _, _ => .stuck
def stepS (R : Ev) (m : MS) (env : Env) (st : Store) : Res (Fl × Env) := match m with
  | .set i e => (R.e e env st).bind fun v st => .ok (.nx, env.set i (some v)) st
  | .par i j a b => (R.e a env st).bind fun v st => (R.e b env st).bind fun u st => .ok (.nx, (env.set i (some v)).set j (some u)) st
  | .unp is e => (R.e e env st).bind fun v st => match v with
    | .tup vs => match setMany is vs env with
      | some env' => .ok (.nx, env') st
      | none => .stuck
    | _ => .stuck
  | .put o i e => (R.e e env st).bind fun v st => (R.e o env st).bind fun x st => (R.e i env st).bind fun y st => match putV x y v st with
    | some st' => .ok (.nx, env) st'
    | none => .stuck
  | .iff c a b => (R.t c env st).bind fun k st => if k = true then R.b a env st else R.b b env st
  | .ret e => (R.e e env st).bind fun v st => .ok (.rt v, env) st
  | .expr e => (R.e e env st).bind fun _ st => .ok (.nx, env) st
  | .for_ tg it body => (R.i it env st).bind fun w st => R.f w tg body env st
  | .while_ c body => (R.t c env st).bind fun k st => if k = true then (R.b body env st).bind fun r st => (match r.1 with
      | .nx => R.s (.while_ c body) r.2 st
      | .ct => R.s (.while_ c body) r.2 st
      | .bk => .ok (.nx, r.2) st
      | .rt v => .ok (.rt v, r.2) st) else .ok (.nx, env) st
  | .pass => .ok (.nx, env) st
  | .brk => .ok (.bk, env) st
  | .cont => .ok (.ct, env) st
def stepEv (Γ : Tab) (R : Nat → Ev) (d : Nat) : Ev where
  e := stepE Γ R d
  t := stepT (R d)
  a := fun es env st => match es with
    | [] => .ok [] st
    | m :: r => ((R d).e m env st).bind fun v st => ((R d).a r env st).bind fun vs st => .ok (v :: vs) st
  p := fun es env st => match es with
    | [] => .ok [] st
    | (k, m) :: r => ((R d).e k env st).bind fun q st => ((R d).e m env st).bind fun v st => ((R d).p r env st).bind fun vs st => .ok ((q, v) :: vs) st
  o := fun m env st => match m with
    | none => .ok none st
    | some m => ((R d).e m env st).bind fun v st => match v with
      | .int i => .ok (some i) st
      | _ => .stuck
  l := stepL (R d)
  i := stepI (R d)
  ts := fun es env st => match es with
    | [] => .ok true st
    | m :: r => ((R d).t m env st).bind fun k st => if k = true then (R d).ts r env st else .ok false st
  f := fun w tg body env st => match w.next st with
    | none => .stuck
    | some none => .ok (.nx, env) st
    | some (some (v, w')) => match tg.set v env with
      | none => .stuck
      | some env1 => ((R d).b body env1 st).bind fun r st => match r.1 with
        | .nx => (R d).f w' tg body r.2 st
        | .ct => (R d).f w' tg body r.2 st
        | .bk => .ok (.nx, r.2) st
        | .rt v => .ok (.rt v, r.2) st
  g := fun w tg conds elt env acc st => match w.next st with
    | none => .stuck
    | some none => .ok acc st
    | some (some (v, w')) => match tg.set v env with
      | none => .stuck
      | some env1 => ((R d).ts conds env1 st).bind fun k st => if k = true then ((R d).e elt env1 st).bind fun y st =>
          if acc.length < sizeLine then (R d).g w' tg conds elt env (acc ++ [y]) st else .stuck
        else (R d).g w' tg conds elt env acc st
  s := stepS (R d)
  b := fun ms env st => match ms with
    | [] => .ok (.nx, env) st
    | m :: r => ((R d).s m env st).bind fun x st => match x.1 with
      | .nx => (R d).b r x.2 st
      | fl => .ok (fl, x.2) st
/-- with n units of fuel, at depth d -/
def ev (Γ : Tab) : Nat → Nat → Ev
  | 0, _ => Ev.none
  | n + 1, d => stepEv Γ (ev Γ n) d
end MP

set_option Elab.async false
set_option linter.all false
set_option maxRecDepth 100000
set_option maxHeartbeats 4000000
namespace MP
open PySem L2

/-! ### readings by the evaluator -/
section
variable (K : PySem.W.Frag) (ca : Cls0)
/-- what a result that came through leaves -/
def Out {α β : Type} (Rel : (Nat → Addr) → Nat → Hp → α → β → Prop) (ρ : Nat → Addr) (st : Store) (H : Hp) (r : Res α) (Q : β → Hp → Prop) : Prop :=
  ∃ a st', r = .ok a st' ∧ ∀ ρ' H' b, Fut ρ st.next H ρ' st'.next H' → Sim K ca ρ' st' H' → Rel ρ' st'.next H' a b → Q b H'
def rd {α β : Type} (Rel : (Nat → Addr) → Nat → Hp → α → β → Prop) (run : Nat → Env → Store → Res α) (σ : St) (H : Hp) (Q : β → Hp → Prop) : Prop :=
  ∃ (n : Nat) (ρ : Nat → Addr) (st : Store) (env : Env), Sim K ca ρ st H ∧ SlotsR K ρ st.next H env σ ∧ Out K ca Rel ρ st H (run n env st) Q
/-- a list that may be read now -/
def RvS (K : PySem.W.Frag) (ρ : Nat → Addr) (N : Nat) (H : Hp) (xs : List MV) (x : V) : Prop := ∃ p ys, x = .ref p ∧ SqL K H p ys ∧ RvL K ρ N H xs ys
variable (Γ : Tab) (d : Nat)
def rE (m : ME) : TE := rd K ca (Rv K) fun n => (ev Γ n d).e m
def rT (m : ME) : TT := rd K ca (fun _ _ _ a b => a = b) fun n => (ev Γ n d).t m
def rA (ms : List ME) : TA := rd K ca (RvL K) fun n => (ev Γ n d).a ms
def rL (m : ME) : TE := rd K ca (RvS K) fun n => (ev Γ n d).l m
/-- statements -/
def EndS (D : Ends) (ρ : Nat → Addr) (N : Nat) (H : Hp) (r : Fl × Env) (σ : St) : Prop := match r.1 with
  | .nx => SlotsR K ρ N H r.2 σ → D.nx σ H
  | .bk => SlotsR K ρ N H r.2 σ → D.bk σ H
  | .ct => SlotsR K ρ N H r.2 σ → D.ct σ H
  | .rt v => ∀ x, Rv K ρ N H v x → D.rt x H
def OutS (ρ : Nat → Addr) (st : Store) (H : Hp) (r : Res (Fl × Env)) (D : Ends) : Prop :=
  ∃ a st', r = .ok a st' ∧ ∀ ρ' H' σ', Fut ρ st.next H ρ' st'.next H' → Sim K ca ρ' st' H' → EndS K D ρ' st'.next H' a σ'
def rS (run : Nat → Env → Store → Res (Fl × Env)) : TS := fun D σ H =>
  ∃ (n : Nat) (ρ : Nat → Addr) (st : Store) (env : Env), Sim K ca ρ st H ∧ SlotsR K ρ st.next H env σ ∧ OutS K ca ρ st H (run n env st) D
def rS1 (m : MS) : TS := rS K ca fun n => (ev Γ n d).s m
def rSs (ms : List MS) : TS := rS K ca fun n => (ev Γ n d).b ms
end

section
variable {X : Cx} {ca : Cls0} {Γ : Tab} {d : Nat}
theorem PE.wk {e : Expr} {t t' : TE} (h : PE X e t) (w : ∀ σ H Q, t' σ H Q → t σ H Q) : PE X e t' := ⟨fun pins s σ H Q I q => h.run pins s σ H Q I (w σ H Q q)⟩
theorem PT.wk {e : Expr} {t t' : TT} (h : PT X e t) (w : ∀ σ H Q, t' σ H Q → t σ H Q) : PT X e t' := ⟨fun pins s σ H Q I q => h.run pins s σ H Q I (w σ H Q q)⟩
theorem PW.wk {e : Expr} {t t' : TT} (h : PW X e t) (w : ∀ σ H Q, t' σ H Q → t σ H Q) : PW X e t' := ⟨fun wh pins s σ H Q I q => h.run wh pins s σ H Q I (w σ H Q q)⟩
theorem PA.wk {e : List Expr} {t t' : TA} (h : PA X e t) (w : ∀ σ H Q, t' σ H Q → t σ H Q) : PA X e t' := ⟨fun pos pins s σ H Q I q => h.run pos pins s σ H Q I (w σ H Q q)⟩
theorem PS.wk {e : Stmt} {t t' : TS} (h : PS X e t) (w : ∀ D σ H, t' D σ H → t D σ H) : PS X e t' := ⟨fun pins s σ H D I q => h.run pins s σ H D I (w D σ H q)⟩
theorem PSs.wk {e : List Stmt} {t t' : TS} (h : PSs X e t) (w : ∀ D σ H, t' D σ H → t D σ H) : PSs X e t' := ⟨fun pins s σ H D I q => h.run pins s σ H D I (w D σ H q)⟩

/-- a value goes on -/
def Cont (K : PySem.W.Frag) (ca : Cls0) (ρ : Nat → Addr) (st : Store) (H : Hp) (v : MV) (st' : Store) (Q : VK) : Prop :=
  ∀ ρ' H' z, Fut ρ st.next H ρ' st'.next H' → Sim K ca ρ' st' H' → Rv K ρ' st'.next H' v z → Q z H'
theorem Cont.after {K : PySem.W.Frag} {ρ ρ1 : Nat → Addr} {st st1 st' : Store} {H H1 : Hp} {v : MV} {Q : VK} (c : Cont K ca ρ st H v st' Q) (F : Fut ρ st.next H ρ1 st1.next H1) : Cont K ca ρ1 st1 H1 v st' Q :=
  fun ρ' H' z F' S' r => c ρ' H' z (F.trans F') S' r
theorem Cont.here {K : PySem.W.Frag} {ρ : Nat → Addr} {st : Store} {H : Hp} {v : MV} {Q : VK} (c : Cont K ca ρ st H v st Q) (S : Sim K ca ρ st H) {z : V} (r : Rv K ρ st.next H v z) : Q z H := c ρ H z (Fut.refl _ _ _) S r

/-- one expression, then what its value is put to -/
theorem e1_wk {e : Expr} {m a : ME} {r : V → Hp → VK → Prop} {te : TE} {f : Nat → MV → Store → Res MV} (h : PE X e (fun σ H Q => te σ H fun x H1 => r x H1 Q)) (hte : te = rE X.K ca Γ d a)
    (hm : ∀ n env st, (ev Γ (n + 1) d).e m env st = ((ev Γ n d).e a env st).bind fun x st => f n x st)
    (op : ∀ n ρ st H x xv v st' Q, f n x st = .ok v st' → Sim X.K ca ρ st H → Rv X.K ρ st.next H x xv → Cont X.K ca ρ st H v st' Q → r xv H Q) : PE X e (rE X.K ca Γ d m) := by
  subst hte
  refine PE.wk h fun σ H Q q => ?_
  obtain ⟨n, ρ, st, env, S, L, v, st', he, k⟩ := q
  cases n with
  | zero => cases he
  | succ n =>
    have he : (ev Γ (n + 1) d).e m env st = .ok v st' := he
    rw [hm] at he
    obtain ⟨x, st1, e1, e2⟩ := Res.bind_ok he
    exact ⟨n, ρ, st, env, S, L, x, st1, e1, fun ρ1 H1 xv F1 S1 R1 => op n ρ1 st1 H1 x xv v st' Q e2 S1 R1 (Cont.after k F1)⟩
/-- two expressions, then what their values are put to -/
theorem e2_wk {e : Expr} {m a b : ME} {r : R2} {ta tb : TE} {f : MV → MV → Store → Res MV} (h : PE X e (fun σ H Q => ta σ H fun x H1 => tb σ H1 fun y H2 => r x y H2 Q)) (hta : ta = rE X.K ca Γ d a) (htb : tb = rE X.K ca Γ d b)
    (hm : ∀ n env st, (ev Γ (n + 1) d).e m env st = ((ev Γ n d).e a env st).bind fun x st => ((ev Γ n d).e b env st).bind fun y st => f x y st)
    (op : ∀ ρ st H x y xv yv v st' Q, f x y st = .ok v st' → Sim X.K ca ρ st H → Rv X.K ρ st.next H x xv → Rv X.K ρ st.next H y yv → Cont X.K ca ρ st H v st' Q → r xv yv H Q) : PE X e (rE X.K ca Γ d m) := by
  subst hta htb
  refine PE.wk h fun σ H Q q => ?_
  obtain ⟨n, ρ, st, env, S, L, v, st', he, k⟩ := q
  cases n with
  | zero => cases he
  | succ n =>
    have he : (ev Γ (n + 1) d).e m env st = .ok v st' := he
    rw [hm] at he
    obtain ⟨x, st1, e1, e2⟩ := Res.bind_ok he
    obtain ⟨y, st2, e3, e4⟩ := Res.bind_ok e2
    exact ⟨n, ρ, st, env, S, L, x, st1, e1, fun ρ1 H1 xv F1 S1 R1 => ⟨n, ρ1, st1, env, S1, F1.slots S L, y, st2, e3, fun ρ2 H2 yv F2 S2 R2 => op ρ2 st2 H2 x y xv yv v st' Q e4 S2 (F2.rv S1 R1) R2 (Cont.after k (F1.trans F2))⟩⟩

/-! ### names and constants -/
theorem s_var {i : Nat} {e : Expr} (h : PE X e (tVar i)) : PE X e (rE X.K ca Γ d (.var i)) := by
  refine PE.wk h fun σ H Q q => ?_
  obtain ⟨n, ρ, st, env, S, L, v, st', he, k⟩ := q
  cases n with
  | zero => cases he
  | succ n =>
    have he' : (match env[i]? with
      | some (some v) => Res.ok v st
      | _ => .stuck) = .ok v st' := he
    cases hi : env[i]? with
    | none => rw [hi] at he'; cases he'
    | some o =>
      cases o with
      | none => rw [hi] at he'; cases he'
      | some w =>
        rw [hi] at he'
        cases he'
        obtain ⟨x, h1, h2⟩ := L.2 i _ hi
        exact ⟨x, h1, k ρ H x (Fut.refl _ _ _) S h2⟩
theorem s_lit {e : Expr} {v : V} {mv : MV} (h : PE X e (tC v)) (r : ∀ ρ N H, Rv X.K ρ N H mv v) : PE X e (rE X.K ca Γ d (.lit mv)) := by
  refine PE.wk h fun σ H Q q => ?_
  obtain ⟨n, ρ, st, env, S, L, w, st', he, k⟩ := q
  cases n with
  | zero => cases he
  | succ n =>
    cases he
    exact k ρ H v (Fut.refl _ _ _) S (r _ _ _)
theorem s_int {i j pos} : PE X (.Constant (.int i) j pos) (rE X.K ca Γ d (.lit (.int i))) := s_lit pe_int fun _ _ _ => .int _
theorem s_bl {b j pos} : PE X (.Constant (.bool b) j pos) (rE X.K ca Γ d (.lit (.bl b))) := s_lit pe_bl fun _ _ _ => .bl _
theorem s_non {j pos} : PE X (.Constant .none j pos) (rE X.K ca Γ d (.lit .non)) := s_lit pe_non fun _ _ _ => .non
theorem s_str {x j pos} : PE X (.Constant (.str x) j pos) (rE X.K ca Γ d (.lit (.str x))) := s_lit pe_str fun _ _ _ => .str _

/-! ### new things -/
theorem Cont.newL {K : PySem.W.Frag} {ρ : Nat → Addr} {st st' : Store} {H : Hp} {v : MV} {Q : VK} {xs : List MV} {ys : List V} (h : newL xs st = .ok v st') (c : Cont K ca ρ st H v st' Q) (S : Sim K ca ρ st H) (r : RvL K ρ st.next H xs ys) :
    xs.length ≤ sizeLine ∧ ∀ p, H p = none → Q (.ref p) (upd H p (.lst ys)) := by
  unfold MP.newL at h
  split at h
  · cases h
    refine ⟨by assumption, fun p hp => ?_⟩
    have q := c (ext ρ st.next p) (upd H p (.lst ys)) (.ref p) (Fut.alloc S hp) (Sim.alloc S hp (.lst r))
    refine q ?_
    have e : ext ρ st.next p st.next = p := ext_same
    have q2 : Rv K (ext ρ st.next p) (st.add (.lst xs)).next (upd H p (.lst ys)) (.ref st.next) (.ref (ext ρ st.next p st.next)) := .ref (Nat.lt_succ_self _)
    rw [e] at q2
    exact q2
  · cases h
theorem Cont.newT {K : PySem.W.Frag} {ρ : Nat → Addr} {st : Store} {H : Hp} {Q : VK} {xs : List MV} {ys : List V} (c : Cont K ca ρ st H (.tup xs) st Q) (S : Sim K ca ρ st H) (r : RvL K ρ st.next H xs ys) :
    ∀ p, H p = none → Q (.ref p) (upd H p (.tup ys)) := fun p hp =>
  c ρ _ _ (Fut.grow S hp) (Sim.grow S hp) (.tup (SqT.of upd_same) ((Fut.grow S hp).rvL S r))

/-! ### operators -/
theorem add_ok {K : PySem.W.Frag} {ρ : Nat → Addr} {st st' : Store} {H : Hp} {x y v : MV} {xv yv : V} {Q : VK} (h : binV .add x y st = .ok v st') (S : Sim K ca ρ st H) (hx : Rv K ρ st.next H x xv) (hy : Rv K ρ st.next H y yv) (c : Cont K ca ρ st H v st' Q) :
    (rI0 (fun i j => .int (i + j)) xv yv H Q ∨ (∃ i j, xv = .str i ∧ yv = .str j ∧ i.length + j.length ≤ sizeLine ∧ Q (.str (i ++ j)) H)) ∨ (rCatA K xv yv H Q ∨ rCat xv yv H Q) := by
  cases hx with
  | int i =>
    cases hy with
    | int j => cases h; exact .inl (.inl ⟨i, j, rfl, rfl, c.here S (.int _)⟩)
    | _ => cases h
  | str a =>
    cases hy with
    | str b =>
      unfold binV at h
      simp only at h
      split at h
      · cases h; exact .inl (.inr ⟨a, b, rfl, rfl, by assumption, c.here S (.str _)⟩)
      · cases h
    | _ => cases h
  | @tup p ys xs hp hr =>
    cases hy with
    | @tup p' ys' xs' hp' hr' =>
      unfold binV at h
      simp only at h
      split at h
      · cases h
        rename_i hl
        refine .inr (.inl ⟨p, p', ys, ys', rfl, rfl, hp, hp', by rw [← hr.length, ← hr'.length]; exact hl, fun e => ?_, fun _ e => ?_, fun _ _ => c.newT S (hr.append hr')⟩)
        · have e2 := hr.nil_iff.mpr e
          subst e2
          exact c.here S (.tup hp' hr')
        · have e2 := hr'.nil_iff.mpr e
          subst e2
          rw [List.append_nil] at c
          exact c.here S (.tup hp hr)
      · cases h
    | _ => cases h
  | @ref n hn =>
    cases hy with
    | @ref m hm =>
      unfold binV at h
      simp only at h
      split at h
      · rename_i xs ys e1 e2
        obtain ⟨u1, h1, r1⟩ := S.at hn e1
        obtain ⟨u2, h2, r2⟩ := S.at hm e2
        cases r1 with
        | lst r1 =>
          cases r2 with
          | lst r2 =>
            obtain ⟨hl, q⟩ := Cont.newL h c S (r1.append r2)
            refine .inr (.inr ⟨_, _, _, _, rfl, rfl, h1, h2, ?_, q⟩)
            rw [← r1.length, ← r2.length, ← List.length_append]
            exact hl
      · cases h
    | _ => cases h
  | _ => cases h
theorem s_add {a b : Expr} {ma mb : ME} {pos : Pos} (ha : PE X a (rE X.K ca Γ d ma)) (hb : PE X b (rE X.K ca Γ d mb)) : PE X (.BinOp a .Add b pos) (rE X.K ca Γ d (.bin .add ma mb)) :=
  e2_wk (pe_op (OpR.or (OpR.or op_add op_add_str) (OpR.or op_catA op_cat)) ha hb) rfl rfl (fun _ _ _ => rfl) fun ρ st H x y xv yv v st' Q h S hx hy c => add_ok h S hx hy c
theorem s_sub {a b : Expr} {ma mb : ME} {pos : Pos} (ha : PE X a (rE X.K ca Γ d ma)) (hb : PE X b (rE X.K ca Γ d mb)) : PE X (.BinOp a .Sub b pos) (rE X.K ca Γ d (.bin .sub ma mb)) :=
  e2_wk (pe_op op_sub ha hb) rfl rfl (fun _ _ _ => rfl) fun ρ st H x y xv yv v st' Q h S hx hy c => by
    cases hx with
    | int i =>
      cases hy with
      | int j => cases h; exact ⟨i, j, rfl, rfl, c.here S (.int _)⟩
      | _ => cases h
    | _ => cases hy <;> cases h
theorem small_or {i j : Int} (h : (small i || small j) = true) : CMul i j := by
  unfold small at h
  simp only [Bool.or_eq_true, Bool.and_eq_true, decide_eq_true_eq] at h
  exact h
theorem mul_ok {x : Str} {n : Int} (h1 : 0 ≤ n) (h2 : n < 1000) (h3 : x.length < 1000) : MulOk x n := by
  refine ⟨by simp only [Bool.or_eq_false_iff, decide_eq_false_iff_not]; omega, fun q _ => ?_, fun q _ => ?_⟩
  · have h4 : (9223372036854775 : Int) ≤ (2 ^ 63 - 1) / n := by
      rw [Int.le_ediv_iff_mul_le (by omega)]
      have : (9223372036854775 : Int) * n ≤ 9223372036854775 * 999 := Int.mul_le_mul_of_nonneg_left (by omega) (by decide)
      omega
    omega
  · unfold Builtin.Str.tooLong
    have h5 : n.toNat < 1000 := by omega
    have h6 : x.length * n.toNat ≤ 1000 * 1000 := Nat.mul_le_mul (by omega) (by omega)
    have h7 := sizeLine_eq
    simp only [decide_eq_false_iff_not]
    omega
def rMulS : R2 := fun x y H Q => ∃ z k, x = .str z ∧ y = .int k ∧ 0 ≤ k ∧ k < 1000 ∧ z.length < 1000 ∧ Q (.str (Txt.mul z k)) H
theorem op_mulS : OpR X (binaryOp .Mult) rMulS := by
  intro pins s σ H x y v u Q I rx ry h
  obtain ⟨z, k, rfl, rfl, h1, h2, h3, q⟩ := h
  obtain ⟨t, rfl⟩ := rx
  obtain ⟨t2, rfl⟩ := ry
  exact SB.mul (mul_ok h1 h2 h3) fun t' k' => ⟨.str _, H, I.tok _, ⟨_, rfl⟩, q⟩
theorem s_mul {a b : Expr} {ma mb : ME} {pos : Pos} (ha : PE X a (rE X.K ca Γ d ma)) (hb : PE X b (rE X.K ca Γ d mb)) : PE X (.BinOp a .Mult b pos) (rE X.K ca Γ d (.bin .mul ma mb)) :=
  e2_wk (pe_op (OpR.or op_mul op_mulS) ha hb) rfl rfl (fun _ _ _ => rfl) fun ρ st H x y xv yv v st' Q h S hx hy c => by
    cases hx with
    | int i =>
      cases hy with
      | int j =>
        unfold binV at h
        simp only at h
        split at h
        · cases h; exact .inl ⟨i, j, rfl, rfl, small_or (by assumption), c.here S (.int _)⟩
        · cases h
      | _ => cases h
    | str z =>
      cases hy with
      | int j =>
        unfold binV at h
        simp only at h
        split at h
        · rename_i q
          cases h; exact .inr ⟨z, j, rfl, rfl, q.1, q.2.1, q.2.2, c.here S (.str _)⟩
        · cases h
      | _ => cases h
    | _ => cases hy <;> cases h
theorem s_mod {a b : Expr} {ma mb : ME} {pos : Pos} (ha : PE X a (rE X.K ca Γ d ma)) (hb : PE X b (rE X.K ca Γ d mb)) : PE X (.BinOp a .Mod b pos) (rE X.K ca Γ d (.bin .mod ma mb)) :=
  e2_wk (pe_op op_mod ha hb) rfl rfl (fun _ _ _ => rfl) fun ρ st H x y xv yv v st' Q h S hx hy c => by
    cases hx with
    | int i =>
      cases hy with
      | int j =>
        unfold binV at h
        simp only at h
        split at h
        · cases h; exact ⟨i, j, rfl, rfl, by assumption, c.here S (.int _)⟩
        · cases h
      | _ => cases h
    | _ => cases hy <;> cases h
theorem s_fdiv {a b : Expr} {ma mb : ME} {pos : Pos} (ha : PE X a (rE X.K ca Γ d ma)) (hb : PE X b (rE X.K ca Γ d mb)) : PE X (.BinOp a .FloorDiv b pos) (rE X.K ca Γ d (.bin .fdiv ma mb)) :=
  e2_wk (pe_op op_fdiv ha hb) rfl rfl (fun _ _ _ => rfl) fun ρ st H x y xv yv v st' Q h S hx hy c => by
    cases hx with
    | int i =>
      cases hy with
      | int j =>
        unfold binV at h
        simp only at h
        split at h
        · cases h; exact ⟨i, j, rfl, rfl, by assumption, c.here S (.int _)⟩
        · cases h
      | _ => cases h
    | _ => cases hy <;> cases h
theorem s_pow {a b : Expr} {ma mb : ME} {pos : Pos} (ha : PE X a (rE X.K ca Γ d ma)) (hb : PE X b (rE X.K ca Γ d mb)) : PE X (.BinOp a .Pow b pos) (rE X.K ca Γ d (.bin .pow ma mb)) :=
  e2_wk (pe_op op_pow ha hb) rfl rfl (fun _ _ _ => rfl) fun ρ st H x y xv yv v st' Q h S hx hy c => by
    cases hx with
    | int i =>
      cases hy with
      | int j =>
        unfold binV at h
        simp only at h
        split at h
        · cases h; exact ⟨i, j, rfl, rfl, by assumption, c.here S (.int _)⟩
        · cases h
      | _ => cases h
    | _ => cases hy <;> cases h
theorem s_neg {a : Expr} {ma : ME} {pos : Pos} (ha : PE X a (rE X.K ca Γ d ma)) : PE X (.UnaryOp .USub a pos) (rE X.K ca Γ d (.neg ma)) :=
  e1_wk (r := rU fun i => .int (-i)) (te := rE X.K ca Γ d ma) (f := fun _ x st => match x with
    | .int i => .ok (.int (-i)) st
    | _ => .stuck) (pe_un un_neg ha) rfl (fun _ _ _ => rfl) fun n ρ st H x xv v st' Q h S hx c => by
    cases hx with
    | int i => cases h; exact ⟨i, rfl, c.here S (.int _)⟩
    | _ => cases h
end
end MP

set_option Elab.async false
set_option linter.all false
set_option maxRecDepth 100000
set_option maxHeartbeats 4000000
namespace MP
open PySem L2

section
variable {K : PySem.W.Frag} {ca : Cls0} {ρ : Nat → Addr} {st : Store} {H : Hp}
/-! ### data -/
theorem dp_list (f : Nat) (ih : ∀ (v : MV) (x : V) (d : PyData), toD st f v = some d → Rv K ρ st.next H v x → Dp K H x d) : ∀ (xs : List MV) (ys : List V) (ds : List PyData), xs.mapM (toD st f) = some ds → RvL K ρ st.next H xs ys → DpAll K H ys ds
  | [], _, ds, h, r => by
    cases r
    simp at h
    subst h
    exact .nil
  | v :: vs, _, ds, h, r => by
    cases r with
    | cons r1 r2 =>
      rw [List.mapM_cons] at h
      cases e1 : toD st f v with
      | none => rw [e1] at h; cases h
      | some d =>
        rw [e1] at h
        cases e2 : vs.mapM (toD st f) with
        | none => rw [e2] at h; cases h
        | some t =>
          rw [e2] at h
          cases h
          exact .cons (ih v _ d e1 r1) (dp_list f ih vs _ t e2 r2)
theorem dp_of (S : Sim K ca ρ st H) : ∀ (f : Nat) (v : MV) (x : V) (d : PyData), toD st f v = some d → Rv K ρ st.next H v x → Dp K H x d
  | 0, _, _, _, h, _ => by cases h
  | f + 1, v, x, d, h, r => by
    cases r with
    | non => cases h; exact .non
    | bl b => cases h; exact .bl b
    | int i => cases h; exact .int i
    | str x => cases h; exact .str x
    | @tup p ys xs hp hr =>
      have h' : (xs.mapM (toD st f)).map PyData.tuple = some d := h
      cases e : xs.mapM (toD st f) with
      | none => rw [e] at h'; cases h'
      | some ds =>
        rw [e] at h'
        cases h'
        exact .tup hp (dp_list f (dp_of S f) xs ys ds e hr)
    | @scr p ys xs hp hr =>
      have h' : (xs.mapM (toD st f)).map PyData.list = some d := h
      cases e : xs.mapM (toD st f) with
      | none => rw [e] at h'; cases h'
      | some ds =>
        rw [e] at h'
        cases h'
        exact .lst hp.sq (dp_list f (dp_of S f) xs ys ds e hr)
    | @ref n hn =>
      have h' : (match st.get n with
        | some (.lst xs) => (xs.mapM (toD st f)).map PyData.list
        | _ => none) = some d := h
      cases e0 : st.get n with
      | none => rw [e0] at h'; cases h'
      | some o =>
        rw [e0] at h'
        cases o with
        | lst xs =>
          obtain ⟨u, hu, ro⟩ := S.at hn e0
          cases ro with
          | lst hr =>
            have h2 : (xs.mapM (toD st f)).map PyData.list = some d := h'
            cases e : xs.mapM (toD st f) with
            | none => rw [e] at h2; cases h2
            | some ds =>
              rw [e] at h2
              cases h2
              exact .lst (SqL.of hu) (dp_list f (dp_of S f) xs _ ds e hr)
        | dK _ => cases h'
        | ins _ _ => cases h'
theorem dp_toS (S : Sim K ca ρ st H) {v : MV} {x : V} {d : PyData} (h : toS st v = some d) (r : Rv K ρ st.next H v x) : Dp K H x d ∧ SeqAt.shaped d = true := by
  unfold toS at h
  cases e : toD st 66 v with
  | none => rw [e] at h; cases h
  | some d' =>
    rw [e] at h
    simp only at h
    split at h
    · cases h
      exact ⟨dp_of S _ _ _ _ e r, by assumption⟩
    · cases h
/-- a list as data, told by its items -/
theorem dp_scr (S : Sim K ca ρ st H) {xs : List MV} {ys : List V} {d : PyData} {p : Addr} (h : toS st (.scr xs) = some d) (hp : SqL K H p ys) (r : RvL K ρ st.next H xs ys) : Dp K H (.ref p) d ∧ SeqAt.shaped d = true := by
  unfold toS at h
  cases e : toD st 66 (.scr xs) with
  | none => rw [e] at h; cases h
  | some d' =>
    rw [e] at h
    simp only at h
    split at h
    · cases h
      refine ⟨?_, by assumption⟩
      have h' : (xs.mapM (toD st 65)).map PyData.list = some d := e
      cases e2 : xs.mapM (toD st 65) with
      | none => rw [e2] at h'; cases h'
      | some ds =>
        rw [e2] at h'
        cases h'
        exact .lst hp (dp_list 65 (dp_of S 65) xs ys ds e2 r)
    · cases h
/-! ### keys -/
theorem key_rv {v : MV} {x : V} {k : Key} (h : keyV v = some k) (r : Rv K ρ st.next H v x) : x = kV k := by
  cases r <;> first
    | (cases h; rfl)
    | cases h
theorem look_rv {k : Key} : ∀ {kvs : List (Key × MV)} {ys : List (Key × V)}, RvP K ρ st.next H kvs ys → (kvLook kvs k = none ∧ valV ys k = none) ∨ ∃ v x, kvLook kvs k = some v ∧ valV ys k = some x ∧ Rv K ρ st.next H v x
  | _, _, .nil => .inl ⟨rfl, rfl⟩
  | _, _, @RvP.cons _ _ _ _ _ q x y xs ys h t => by
    by_cases e : q = k
    · refine .inr ⟨x, y, ?_, ?_, h⟩
      · simp [kvLook, e]
      · simp [valV, e]
    · have e1 : kvLook ((q, x) :: xs) k = kvLook xs k := by simp [kvLook, e]
      have e2 : valV ((q, y) :: ys) k = valV ys k := by simp [valV, e]
      rw [e1, e2]
      exact look_rv t
theorem any_rv {k : Key} : ∀ {kvs : List (Key × MV)} {ys : List (Key × V)}, RvP K ρ st.next H kvs ys → (kvs.any fun kv => decide (kv.1 = k)) = (ys.any fun kv => decide (kv.1 = k))
  | _, _, .nil => rfl
  | _, _, .cons _ t => by rw [List.any_cons, List.any_cons, any_rv t]
theorem map_rv {k : Key} {v : MV} {x : V} (r : Rv K ρ st.next H v x) : ∀ {kvs : List (Key × MV)} {ys : List (Key × V)}, RvP K ρ st.next H kvs ys →
    RvP K ρ st.next H (kvs.map fun kv => if kv.1 = k then (kv.1, v) else kv) (ys.map fun kv => if kv.1 = k then (kv.1, x) else kv)
  | _, _, .nil => .nil
  | _, _, @RvP.cons _ _ _ _ _ q x' y' xs ys h t => by
    rw [List.map_cons, List.map_cons]
    by_cases e : q = k
    · rw [if_pos e, if_pos e]
      exact .cons r (map_rv r t)
    · rw [if_neg e, if_neg e]
      exact .cons h (map_rv r t)
theorem RvP.append {κ : Type} : ∀ {xs xs' : List (κ × MV)} {ys ys' : List (κ × V)}, RvP K ρ st.next H xs ys → RvP K ρ st.next H xs' ys' → RvP K ρ st.next H (xs ++ xs') (ys ++ ys')
  | _, _, _, _, .nil, s => s
  | _, _, _, _, .cons h t, s => .cons h (RvP.append t s)
theorem put_rv {k : Key} {v : MV} {x : V} (r : Rv K ρ st.next H v x) {kvs : List (Key × MV)} {ys : List (Key × V)} (h : RvP K ρ st.next H kvs ys) : RvP K ρ st.next H (kvPut kvs k v) (putK ys k x) := by
  unfold kvPut putK
  rw [any_rv h]
  split
  · exact map_rv r h
  · exact h.append (.cons r .nil)
theorem merge_rv : ∀ {more : List (Key × MV)} {ys : List (Key × V)} {acc : List (Key × MV)} {zs : List (Key × V)}, RvP K ρ st.next H acc zs → RvP K ρ st.next H more ys → RvP K ρ st.next H (kvMerge acc more) (mergeK zs ys)
  | _, _, _, _, a, .nil => a
  | _, _, acc, zs, a, @RvP.cons _ _ _ _ _ q x y xs ys h t => by
    show RvP K ρ st.next H (kvMerge (kvPut acc q x) xs) (mergeK (putK zs q y) ys)
    exact merge_rv (put_rv h a) t
theorem RvP.length {κ : Type} : ∀ {xs : List (κ × MV)} {ys : List (κ × V)}, RvP K ρ st.next H xs ys → xs.length = ys.length
  | _, _, .nil => rfl
  | _, _, .cons _ t => by rw [List.length_cons, List.length_cons, RvP.length t]
end
end MP

set_option Elab.async false
set_option linter.all false
set_option maxRecDepth 100000
set_option maxHeartbeats 4000000
/-! equality of texts with what is not a text, tuples of texts -/
namespace PySem.SeqAt
open AutoSeq1 (wpAny_loadPart')
open MeetsSeq
theorem mp_str_dict (b : Str) (u : Tok) (l : Addr) (es : Array DictEntry) (n : Nat) (dd : Option Addr) (sl : Array (Option Value)) :
    Meets (Builtin.«str.__eq__» ⟨[.str b u, .ref l], []⟩) (fun _ R s => s.heap.get? l = some { cls := .type "dict", dict := dd, data := .dict es n, slots := sl } ∧ R (.ok (.ret .notImplemented)) s) :=
  .of_wp fun prog w A R s h => by obtain ⟨hp, g, d, tk, os⟩ := s; obtain ⟨hl, h⟩ := h; wp_walk using wpAny_loadPart' hl, wpAny_load hl; exact ⟨_, rfl, h⟩
theorem mp_rc_str_dict {A : Around} {s : Shared} {l : Addr} {es : Array DictEntry} {n : Nat} {o : Obj} (b : Str) (u : Tok) (ho : s.heap.get? l = some o) (hc : o.cls = .type "dict") (hd : o.data = .dict es n) (hu : A.units < cLine) : RcAt A s (.str b u) (.ref l) false := fun prog w E Q h => by
  obtain ⟨cls, dd, data, sl⟩ := o
  simp only at hc hd
  subst hc hd
  exact rc_eq_decline_or (k := false) (typeIs_str s b u) ⟨_, ho, rfl⟩ (by decide) F.sub_dict_str F.slot_str_eq F.slot_dict_eq_refl
    (fun _ hq => call_meets F.slot_str_eq (typeIs_str s b u) F.entry_str_eq (F.args_str_eq_2 _ _) (mp_str_dict b u l es n dd sl) ⟨ho, hq⟩)
    (fun Q' hq => by
      refine wpAny_call_entry F.slot_dict_eq ⟨_, ho, rfl⟩ F.entry_dict_eq ?_ (F.args_dict_eq_2 _ _)
      show wpAny _ _ (Builtin.Dict.dictSlotArgs "__eq__" ⟨[.ref l, .str b u], []⟩ >>= _) _ _ s
      refine wpAny_bind ?_
      unfold Builtin.Dict.dictSlotArgs
      refine wpAny_bind (wpAny_notOrdered_dict ⟨_, ho, rfl⟩ ?_)
      show wpAny _ _ (pure (Value.ref l, Value.str b u)) _ _ s
      refine wpAny_pure ?_
      refine wpAny_bind (wpAny_isInstance (T := "str") (typeIs_str s b u) F.sub_str_dict ?_)
      simp only [Bool.not_false, if_true]
      exact wpAny_bind (wpAny_rule (wpAny_pure ⟨_, rfl, hq⟩)))
    (fun _ hq => wpAny_of_eq (rfl : isSame (.str b u) (.ref l) = pure false) hq) (.inr hu) h
theorem mp_str_dict_eq {A : Around} {s : Shared} {l : Addr} {es : Array DictEntry} {n : Nat} {o : Obj} (b : Str) (u : Tok) (ho : s.heap.get? l = some o) (hc : o.cls = .type "dict") (hd : o.data = .dict es n) (hu : A.units < cLine) : EqAt A s (.str b u) (.ref l) false := fun prog w E Q h => by
  unfold eqBool
  refine wpAny_holding ?_
  refine wpAny_ite_split (fun hab => absurd (eq_of_beq hab) nofun) (fun _ => ?_)
  exact wpAny_bind (mp_rc_str_dict b u ho hc hd hu prog w E _ (wpAny_truthy_bool h))
end PySem.SeqAt
namespace MP
open PySem L2
section
variable {X : Cx} {ca : Cls0} {ρ : Nat → Addr} {st : Store} {H : Hp} {pins : List (Addr × Obj)} {σ : L2.St} {s : Shared}
theorem orO_eq {a b : Option Bool} {k : Bool} (h : orO a b = some k) : a = some k ∨ b = some k := by
  cases a with
  | none => exact .inr h
  | some c => exact .inl h
theorem PlainIs {h : Heap} {a : Addr} {its : Array Value} (p : PlainL h a its) : h.IsList a its := let ⟨o, n, e, c, _, d⟩ := p; ⟨o, e, c, n, d⟩
theorem item_eq (I : Inv X pins σ H s) (S : Sim X.K ca ρ st H) {x : MV} {xv : V} {u : Value} {z : Str} {t : Tok} {k : Bool} {A : Around} (h : itemS st x z = some k) (r : Rv X.K ρ st.next H x xv) (rx : RelV xv u) (hu : A.units < cLine) : SeqAt.EqAt A s (.str z t) u k := by
  cases r with
  | non => cases h; cases rx; exact SeqAt.EqAt.str_none _ _
  | bl b => cases h; cases rx; exact SeqAt.EqAt.str_bool _ _ _
  | int i => cases h; obtain ⟨t2, rfl⟩ := rx; exact SeqAt.EqAt.str_int _ _ _ _
  | str y => cases h; obtain ⟨t2, rfl⟩ := rx; exact SeqAt.EqAt.str_str _ _ _ _
  | @tup p ys xs hp hr =>
    cases h
    cases rx
    obtain ⟨its, _, q, _⟩ := I.tuple hp
    exact SeqAt.EqAt.str_tuple _ _ q hu
  | @scr p ys xs hp hr =>
    cases h
    cases rx
    obtain ⟨its, _, q, _⟩ := I.list hp.sq
    exact SeqAt.EqAt.str_list _ _ (PlainIs q) hu
  | @ref n hn =>
    cases rx
    have h' : (match st.get n with
      | some (.lst _) => some false
      | some (.dK _) => some false
      | _ => none) = some k := h
    cases e0 : st.get n with
    | none => rw [e0] at h'; cases h'
    | some o =>
      rw [e0] at h'
      obtain ⟨w, hw, ro⟩ := S.at hn e0
      cases ro with
      | lst hr =>
        cases h'
        obtain ⟨its, _, q, _⟩ := I.list (SqL.of hw)
        exact SeqAt.EqAt.str_list _ _ (PlainIs q) hu
      | dK hr =>
        cases h'
        obtain ⟨_, _, vs, _, o, es, ep, e, c, dd, _⟩ := dk_of I.hok hw
        exact SeqAt.mp_str_dict_eq _ _ e c.1 dd hu
      | ins _ => cases h'
theorem itemsS_at {st : Store} : ∀ {xs : List MV} {zs : List Str} {k : Bool}, itemsS st xs zs = some k → ∃ e : Nat → Bool, (∀ (j : Nat) (x : MV) (z : Str), xs[j]? = some x → zs[j]? = some z → itemS st x z = some (e j)) ∧
    ((List.range (min zs.length xs.length)).all e && zs.length == xs.length) = k
  | [], [], k, h => by cases h; exact ⟨fun _ => true, fun j x z e => by simp at e, rfl⟩
  | [], z :: zs, k, h => by cases h; exact ⟨fun _ => true, fun j x z e => by simp at e, by simp⟩
  | x :: xs, [], k, h => by cases h; exact ⟨fun _ => true, fun j x z _ e => by simp at e, by simp⟩
  | x :: xs, z :: zs, k, h => by
    have h' : (match itemS st x z, itemsS st xs zs with
      | some a, some b => some (a && b)
      | _, _ => none) = some k := h
    cases e1 : itemS st x z with
    | none => rw [e1] at h'; cases h'
    | some a =>
      cases e2 : itemsS st xs zs with
      | none => rw [e1, e2] at h'; cases h'
      | some b =>
        rw [e1, e2] at h'
        cases h'
        obtain ⟨e, he, hk⟩ := itemsS_at e2
        refine ⟨fun j => match j with | 0 => a | j + 1 => e j, fun j y w h1 h2 => ?_, ?_⟩
        · cases j with
          | zero => simp at h1 h2; subst h1 h2; exact e1
          | succ j => exact he j y w (by simpa using h1) (by simpa using h2)
        · rw [← hk]
          have e3 : min (z :: zs).length (x :: xs).length = min zs.length xs.length + 1 := by simp only [List.length_cons]; omega
          rw [e3, List.range_succ_eq_map, List.all_cons, List.all_map]
          have e4 : ((z :: zs).length == (x :: xs).length) = (zs.length == xs.length) := by simp
          rw [e4, Bool.and_assoc]
          rfl
theorem txts_rv {K : PySem.W.Frag} {N : Nat} : ∀ {xs : List MV} {ys : List V} {zs : List Str}, txtsV xs = some zs → RvL K ρ N H xs ys → ys = zs.map V.str
  | [], _, zs, h, r => by cases r; cases h; rfl
  | x :: xs, _, zs, h, r => by
    cases r with
    | cons r1 r2 =>
      cases x with
      | str w =>
        have h' : (match txtsV xs with
          | some t => some (w :: t)
          | none => none) = some zs := h
        cases e : txtsV xs with
        | none => rw [e] at h'; cases h'
        | some t =>
          rw [e] at h'
          cases h'
          cases r1
          rw [txts_rv e r2]
          rfl
      | _ => cases h
theorem itemsS_same {K : PySem.W.Frag} {N : Nat} : ∀ {xs : List MV} {zs : List Str}, RvL K ρ N H xs (zs.map V.str) → itemsS st xs zs = some true
  | [], [], _ => rfl
  | [], z :: zs, h => by cases h
  | x :: xs, [], h => by cases h
  | x :: xs, z :: zs, h => by
    cases h with
    | cons h1 h2 =>
      cases h1
      show (match some (z == z), itemsS st xs zs with
        | some a, some b => some (a && b)
        | _, _ => none) = some true
      rw [itemsS_same h2]
      simp
/-- a tuple of texts and a tuple, by == -/
theorem tup_eq (I : Inv X pins σ H s) (S : Sim X.K ca ρ st H) {xs : List MV} {ys : List V} {zs : List Str} {p q : Addr} {k : Bool} {A : Around} (h : itemsS st xs zs = some k) (hp : SqT X.K H p (zs.map V.str)) (hq : SqT X.K H q ys) (r : RvL X.K ρ st.next H xs ys) (hu : A.units + 1 < cLine) :
    SeqAt.EqAt A s (.ref p) (.ref q) k := by
  by_cases e : p = q
  · subst e
    have e2 := I.tuple_inj hq hp
    subst e2
    rw [itemsS_same r] at h
    cases h
    exact SeqAt.EqAt.same _
  · obtain ⟨e, he, hk⟩ := itemsS_at h
    obtain ⟨its1, r1, q1, _⟩ := I.tuple hp
    obtain ⟨its2, r2, q2, _⟩ := I.tuple hq
    have l1 : its1.length = zs.length := by have := r1.length; simpa using this.symm
    have l2 : its2.length = xs.length := by rw [← r2.length, ← r.length]
    refine SeqAt.EqAt.of_refs (by assumption) ?_
    have := SeqAt.RcAt.tuples (A := A) (s := s) (e := e) q1 q2 (by omega) fun j h1 h2 => by
      have hj1 : j < zs.length := by rw [← l1]; simpa using h1
      have hj2 : j < xs.length := by rw [← l2]; simpa using h2
      have a1 := he j xs[j] zs[j] (List.getElem?_eq_getElem hj2) (List.getElem?_eq_getElem hj1)
      obtain ⟨y, b1, b2⟩ := r.get (List.getElem?_eq_getElem hj2)
      have c1 : (zs.map V.str)[j]? = some (V.str zs[j]) := by simp [hj1]
      obtain ⟨u1, d1, d2⟩ := Vals.get r1 c1
      obtain ⟨u2, d3, d4⟩ := Vals.get r2 b1
      have f1 : its1.toArray[j] = u1 := by simpa [List.getElem?_eq_some_iff] using (List.getElem?_eq_some_iff.mp d1).2
      have f2 : its2.toArray[j] = u2 := by simpa [List.getElem?_eq_some_iff] using (List.getElem?_eq_some_iff.mp d3).2
      rw [f1, f2]
      obtain ⟨t, rfl⟩ := d2
      exact item_eq I S a1 b2 d4 (by show A.units + 1 < cLine; exact hu)
    rw [← hk, ← l1, ← l2]
    simpa using this
/-! ### the rules -/
def rEqSS (neg : Bool) : R2 := fun x y H Q => ∃ a b, x = .str a ∧ y = .str b ∧ Q (.bl (if neg then !(a == b) else a == b)) H
theorem op_eqSS : OpR X (compareOp .Eq) (rEqSS false) := by
  intro pins s σ H x y v u Q I rx ry h
  obtain ⟨a, b, rfl, rfl, q⟩ := h
  obtain ⟨t, rfl⟩ := rx
  obtain ⟨t2, rfl⟩ := ry
  exact SeqAt.RcAt.str_str a t b t2 _ _ _ _ ⟨.bl _, H, I, rfl, q⟩
theorem op_neSS : OpR X (compareOp .NotEq) (rEqSS true) := by
  intro pins s σ H x y v u Q I rx ry h
  obtain ⟨a, b, rfl, rfl, q⟩ := h
  obtain ⟨t, rfl⟩ := rx
  obtain ⟨t2, rfl⟩ := ry
  exact PyProof.Rows.ne_str ⟨.bl _, H, I, rfl, q⟩
theorem eqSS_ok {K : PySem.W.Frag} {N : Nat} {a b : MV} {x y : V} {k neg : Bool} {Q : VK} (h : eqSS a b = some k) (hx : Rv K ρ N H a x) (hy : Rv K ρ N H b y) (q : Q (.bl (if neg then !k else k)) H) : rEqSS neg x y H Q := by
  cases hx with
  | str x =>
    cases hy with
    | str y => cases h; exact ⟨x, y, rfl, rfl, q⟩
    | _ => cases h
  | _ => cases h
def rEqT0 (K : PySem.W.Frag) : R2 := fun x y H Q => ∃ a b xs, x = .ref a ∧ y = .ref b ∧ SqT K H a xs ∧ SqT K H b [] ∧ Q (.bl xs.isEmpty) H
theorem op_eqT0 (hu : X.A.units + 64 < cLine) : OpR X (compareOp .Eq) (rEqT0 X.K) := by
  intro pins s σ H x y v u Q I rx ry h
  obtain ⟨a, b, xs, rfl, rfl, h1, h2, q⟩ := h
  cases rx
  cases ry
  obtain ⟨its1, r1, q1, _⟩ := I.tuple h1
  obtain ⟨its2, r2, q2, _⟩ := I.tuple h2
  cases r2
  refine SeqAt.eq_tupleAt (e := fun _ => true) q1 q2 (by omega) (fun j _ h2 => by simp at h2) ⟨.bl _, H, I, ?_, q⟩
  cases r1 <;> rfl
theorem eqT0_ok {K : PySem.W.Frag} {N : Nat} {a b : MV} {x y : V} {k : Bool} {Q : VK} (h : eqT0 a b = some k) (hx : Rv K ρ N H a x) (hy : Rv K ρ N H b y) (q : Q (.bl k) H) : rEqT0 K x y H Q := by
  cases hx with
  | @tup p ys xs hp hr =>
    cases hy with
    | @tup p' ys' xs' hp' hr' =>
      cases xs' with
      | nil =>
        cases hr'
        cases h
        refine ⟨p, p', ys, rfl, rfl, hp, hp', ?_⟩
        cases hr <;> exact q
      | cons _ _ => cases h
    | _ => cases h
  | _ => cases h
/-- a tuple among tuples of texts -/
def rInTS (K : PySem.W.Frag) : R2 := fun x y H Q => ∃ k : Bool, Q (.bl k) H ∧ ∃ (ca : Cls0) (ρ : Nat → Addr) (st : Store) (xs : List MV) (ys : List V) (q b : Addr) (zss : List (List Str)) (ps : List Addr),
  Sim K ca ρ st H ∧ x = .ref q ∧ y = .ref b ∧ SqT K H q ys ∧ RvL K ρ st.next H xs ys ∧ (SqL K H b (ps.map V.ref) ∨ SqT K H b (ps.map V.ref)) ∧ Paired (fun p zs => SqT K H p (zs.map V.str)) ps zss ∧ anyS st xs zss = some k
theorem any_at (I : Inv X pins σ H s) (S : Sim X.K ca ρ st H) {xs : List MV} {ys : List V} {q : Addr} {A : Around} (hq : SqT X.K H q ys) (r : RvL X.K ρ st.next H xs ys) (hu : A.units + 2 < cLine) :
    ∃ e : Value → Bool, (∀ (ps : List Addr) (zss : List (List Str)) (k : Bool), Paired (fun p zs => SqT X.K H p (zs.map V.str)) ps zss → anyS st xs zss = some k → (∀ y, y ∈ (ps.map Value.ref) → SeqAt.EqAt A.in1 s y (.ref q) (e y)) ∧ (ps.map Value.ref).any e = k) := by
  classical
  let e : Value → Bool := fun y => match y with
    | .ref p => decide (∃ zs : List Str, SqT X.K H p (zs.map V.str) ∧ itemsS st xs zs = some true)
    | _ => false
  have he : ∀ (p : Addr) (zs : List Str) (k : Bool), SqT X.K H p (zs.map V.str) → itemsS st xs zs = some k → e (.ref p) = k := fun p zs k h1 h2 => by
    show decide (∃ zs : List Str, SqT X.K H p (zs.map V.str) ∧ itemsS st xs zs = some true) = k
    have inj : ∀ {a b : List Str}, a.map V.str = b.map V.str → a = b := fun {a b} z => by
      induction a generalizing b with
      | nil => cases b with
        | nil => rfl
        | cons _ _ => cases z
      | cons x xs ih => cases b with
        | nil => cases z
        | cons y ys =>
          rw [List.map_cons, List.map_cons] at z
          injection z with z1 z2
          injection z1 with z1
          rw [z1, ih z2]
    cases k with
    | true => exact decide_eq_true ⟨zs, h1, h2⟩
    | false =>
      refine decide_eq_false fun ⟨zs', h3, h4⟩ => ?_
      have := inj (I.tuple_inj h1 h3)
      subst this
      rw [h2] at h4
      cases h4
  refine ⟨e, fun ps zss k hp => ?_⟩
  induction hp generalizing k with
  | nil => intro h; cases h; exact ⟨fun y hy => by simp at hy, rfl⟩
  | @cons p zs ps zss h1 h2 ih =>
    intro h
    have h' : (match itemsS st xs zs, anyS st xs zss with
      | some a, some b => some (a || b)
      | _, _ => none) = some k := h
    cases e1 : itemsS st xs zs with
    | none => rw [e1] at h'; cases h'
    | some a =>
      cases e2 : anyS st xs zss with
      | none => rw [e1, e2] at h'; cases h'
      | some b =>
        rw [e1, e2] at h'
        cases h'
        obtain ⟨g1, g2⟩ := ih b e2
        have e3 := he p zs a h1 e1
        refine ⟨fun y hy => ?_, ?_⟩
        · rw [List.map_cons, List.mem_cons] at hy
          rcases hy with rfl | hy
          · rw [e3]
            exact tup_eq I S e1 h1 hq r (by show A.units + 1 + 1 < cLine; exact hu)
          · exact g1 y hy
        · rw [List.map_cons, List.any_cons, e3, g2]
theorem refs_of {ps : List Addr} {us : List Value} (r : Vals (ps.map V.ref) us) : us = ps.map Value.ref := by
  induction ps generalizing us with
  | nil => cases r; rfl
  | cons p ps ih =>
    rw [List.map_cons] at r
    cases r with
    | cons h t =>
      cases h
      rw [ih t]
      rfl
theorem op_inTS (hu : X.A.units + 65 < cLine) : OpR X (compareOp .In) (rInTS X.K) := by
  intro pins s σ H x y v u Q I rx ry h
  obtain ⟨k, q, ca, ρ, st, xs, ys, p, b, zss, ps, S, rfl, rfl, h1, h2, h3, h4, h5⟩ := h
  cases rx
  cases ry
  obtain ⟨e, he⟩ := any_at (A := X.A) I S h1 h2 (by omega)
  obtain ⟨g1, g2⟩ := he ps zss k h4 h5
  rcases h3 with h3 | h3
  · obtain ⟨its, r1, q1, _⟩ := I.list h3
    obtain rfl := refs_of r1
    refine SeqAt.in_listAt e (PlainIs q1) (fun y hy => g1 y (by simpa using hy)) ⟨.bl _, H, I, ?_, q⟩
    rw [← g2]
    simp
    rfl
  · obtain ⟨its, r1, q1, _⟩ := I.tuple h3
    obtain rfl := refs_of r1
    refine SeqAt.in_tupleAt e q1 (fun y hy => g1 y (by simpa using hy)) ⟨.bl _, H, I, ?_, q⟩
    rw [← g2]
    simp
    rfl
theorem tups_rv {K : PySem.W.Frag} {N : Nat} : ∀ {items : List MV} {ys : List V} {zss : List (List Str)}, tupsV items = some zss → RvL K ρ N H items ys → ∃ ps : List Addr, ys = ps.map V.ref ∧ Paired (fun p zs => SqT K H p (zs.map V.str)) ps zss
  | [], _, zss, h, r => by cases r; cases h; exact ⟨[], rfl, .nil⟩
  | x :: xs, _, zss, h, r => by
    cases r with
    | cons r1 r2 =>
      cases x with
      | tup w =>
        have h' : (match txtsV w, tupsV xs with
          | some t, some q => some (t :: q)
          | _, _ => none) = some zss := h
        cases e1 : txtsV w with
        | none => rw [e1] at h'; cases h'
        | some t =>
          cases e2 : tupsV xs with
          | none => rw [e1, e2] at h'; cases h'
          | some z =>
            rw [e1, e2] at h'
            cases h'
            obtain ⟨ps, rfl, hp⟩ := tups_rv e2 r2
            cases r1 with
            | tup hs hr =>
              rw [txts_rv e1 hr] at hs
              exact ⟨_ :: ps, rfl, .cons hs hp⟩
      | _ => cases h
theorem inTS_ok {K : PySem.W.Frag} {a b : MV} {x y : V} {k : Bool} {Q : VK} (h : inTS a b st = some k) (S : Sim K ca ρ st H) (hx : Rv K ρ st.next H a x) (hy : Rv K ρ st.next H b y) (q : Q (.bl k) H) : rInTS K x y H Q := by
  cases hx with
  | @tup p ys xs hp hr =>
    have h' : (match frV st b with
      | some items => match tupsV items with
        | some zss => anyS st xs zss
        | none => none
      | none => none) = some k := h
    cases e1 : frV st b with
    | none => rw [e1] at h'; cases h'
    | some items =>
      rw [e1] at h'
      cases e2 : tupsV items with
      | none => simp only [e2] at h'; cases h'
      | some zss =>
        simp only [e2] at h'
        have main : ∃ (r : Addr) (zs : List V), y = .ref r ∧ (SqL K H r zs ∨ SqT K H r zs) ∧ RvL K ρ st.next H items zs := by
          cases hy with
          | @tup p' ys' xs' hp' hr' => cases e1; exact ⟨p', ys', rfl, .inr hp', hr'⟩
          | @ref n hn =>
            have e3 : (match st.get n with
              | some (.lst xs) => some xs
              | _ => none) = some items := e1
            cases e0 : st.get n with
            | none => rw [e0] at e3; cases e3
            | some o =>
              rw [e0] at e3
              cases o with
              | lst ys2 =>
                cases e3
                obtain ⟨w, hw, ro⟩ := S.at hn e0
                cases ro with
                | lst hr2 => exact ⟨_, _, rfl, .inl (SqL.of hw), hr2⟩
              | dK _ => cases e3
              | ins _ _ => cases e3
          | _ => cases e1
        obtain ⟨r, zs, rfl, h2, h3⟩ := main
        obtain ⟨ps, rfl, hps⟩ := tups_rv e2 h3
        exact ⟨k, q, ca, ρ, st, xs, ys, p, r, zss, ps, S, rfl, rfl, hp, hr, h2, hps, h'⟩
  | _ => cases h
end
end MP

set_option Elab.async false
set_option linter.all false
set_option maxRecDepth 100000
set_option maxHeartbeats 4000000
namespace MP
open PySem L2

/-! ### membership by values -/
section
variable {X : Cx}
def rInT (K : PySem.W.Frag) (neg : Bool) : R2 := fun x y H Q => ∃ d ds, Dp K H x d ∧ Dp K H y (.tuple ds) ∧ SeqAt.shaped d = true ∧ SeqAt.shaped (.tuple ds) = true ∧ Q (.bl (if neg then !(ds.any fun z => PyData.eqv z d) else ds.any fun z => PyData.eqv z d)) H
theorem room_in_shapedT {A : Around} {ds : List PyData} {d : PyData} (h : SeqAt.shaped d = true) (hu : A.units + 65 < cLine) : A.units + 1 + min (PyData.depthAll ds) d.depth < cLine := by
  have h1 := SeqAt.depth_of_shaped h
  omega
theorem op_inT (hu : X.A.units + 65 < cLine) : OpR X (compareOp .In) (rInT X.K false) := by
  intro pins s σ H x y v u Q I rx ry h
  obtain ⟨d, ds, hd, he, sd, se, q⟩ := h
  obtain ⟨as, r1⟩ := Dp.reads I d x v hd rx
  obtain ⟨bs, r2⟩ := Dp.reads I (.tuple ds) y u he ry
  exact SeqAt.in_tuple_reads r2 r1 (SeqAt.canLay_of_shaped se) (SeqAt.canLay_of_shaped sd) (room_in_shapedT sd hu) ⟨.bl _, H, I, rfl, q⟩
theorem op_notInT (hu : X.A.units + 65 < cLine) : OpR X (compareOp .NotIn) (rInT X.K true) := by
  intro pins s σ H x y v u Q I rx ry h
  obtain ⟨d, ds, hd, he, sd, se, q⟩ := h
  obtain ⟨as, r1⟩ := Dp.reads I d x v hd rx
  obtain ⟨bs, r2⟩ := Dp.reads I (.tuple ds) y u he ry
  exact SeqAt.notIn_tuple_reads r2 r1 (SeqAt.canLay_of_shaped se) (SeqAt.canLay_of_shaped sd) (room_in_shapedT sd hu) ⟨.bl _, H, I, rfl, q⟩
def rInDk (neg : Bool) : R2 := fun y x H Q => ∃ a o, x = .ref a ∧ DGet H a y o ∧ Q (.bl (if neg then !o.isSome else o.isSome)) H
theorem op_inDk (hu : X.A.units + 1 < cLine) : OpR X (compareOp .In) (rInDk false) := by
  intro pins s σ H x y v u Q I rx ry h
  obtain ⟨a, o, rfl, g, q⟩ := h
  obtain rfl : u = Value.ref a := ry
  exact d_in hu I g rx fun s3 I3 => ⟨.bl o.isSome, H, I3, rfl, q⟩
theorem op_notInDk (hu : X.A.units + 1 < cLine) : OpR X (compareOp .NotIn) (rInDk true) := by
  intro pins s σ H x y v u Q I rx ry h
  obtain ⟨a, o, rfl, g, q⟩ := h
  obtain rfl : u = Value.ref a := ry
  exact d_notIn hu I g rx fun s3 I3 => ⟨.bl (!o.isSome), H, I3, rfl, q⟩
/-- x in y, all that is served -/
def rInAll (K : PySem.W.Frag) (neg : Bool) : R2 := fun x y H Q => ∃ k : Bool, Q (.bl (if neg then !k else k)) H ∧
  ((∃ (c : Nat) (z : Str), x = .str ⟨#[c]⟩ ∧ y = .str z ∧ k = decide (c ∈ z.cps.toList)) ∨ (∃ i j, x = .str i ∧ y = .str j ∧ k = !(Builtin.Str.occurrences j i 0 j.length 1).isEmpty) ∨
    (∃ a o, y = .ref a ∧ DGet H a x o ∧ k = o.isSome) ∨ (∃ d ds, Dp K H x d ∧ (Dp K H y (.tuple ds) ∧ SeqAt.shaped (.tuple ds) = true ∨ Dp K H y (.list ds) ∧ SeqAt.shaped (.list ds) = true) ∧ SeqAt.shaped d = true ∧ k = ds.any fun z => PyData.eqv z d))
theorem op_inAll (hu : X.A.units + 65 < cLine) : OpR X (compareOp .In) (rInAll X.K false) := by
  intro pins s σ H x y v u Q I rx ry h
  obtain ⟨k, q, h⟩ := h
  rcases h with ⟨c, z, h1, h2, rfl⟩ | ⟨i, j, h1, h2, rfl⟩ | ⟨a, o, h1, h2, rfl⟩ | ⟨d, ds, h1, h2 | h2, h3, rfl⟩
  · exact op_in_sign pins s σ H x y v u Q I rx ry ⟨c, z, h1, h2, q⟩
  · exact op_in_str pins s σ H x y v u Q I rx ry ⟨i, j, h1, h2, q⟩
  · exact op_inDk (by omega) pins s σ H x y v u Q I rx ry ⟨a, o, h1, h2, q⟩
  · exact op_inT hu pins s σ H x y v u Q I rx ry ⟨d, ds, h1, h2.1, h3, h2.2, q⟩
  · exact op_inD hu pins s σ H x y v u Q I rx ry ⟨d, ds, h1, h2.1, h3, h2.2, q⟩
theorem op_notInAll (hu : X.A.units + 65 < cLine) : OpR X (compareOp .NotIn) (rInAll X.K true) := by
  intro pins s σ H x y v u Q I rx ry h
  obtain ⟨k, q, h⟩ := h
  rcases h with ⟨c, z, h1, h2, rfl⟩ | ⟨i, j, h1, h2, rfl⟩ | ⟨a, o, h1, h2, rfl⟩ | ⟨d, ds, h1, h2 | h2, h3, rfl⟩
  · exact op_notIn_sign pins s σ H x y v u Q I rx ry ⟨c, z, h1, h2, q⟩
  · exact op_notin_str pins s σ H x y v u Q I rx ry ⟨i, j, h1, h2, q⟩
  · exact op_notInDk (by omega) pins s σ H x y v u Q I rx ry ⟨a, o, h1, h2, q⟩
  · exact op_notInT hu pins s σ H x y v u Q I rx ry ⟨d, ds, h1, h2.1, h3, h2.2, q⟩
  · exact op_notInD hu pins s σ H x y v u Q I rx ry ⟨d, ds, h1, h2.1, h3, h2.2, q⟩
end

section
variable {K : PySem.W.Frag} {ca : Cls0} {ρ : Nat → Addr} {st : Store} {H : Hp}
theorem okB_eq {o : Option Bool} {f : Bool → Bool} {v : MV} {st' : Store} (h : okB o f st = .ok v st') : ∃ k, o = some k ∧ v = .bl (f k) ∧ st' = st := by
  cases o with
  | none => cases h
  | some k => cases h; exact ⟨k, rfl, rfl, rfl⟩
theorem inTxt_ok (x z : Str) : (∃ c, x = ⟨#[c]⟩ ∧ inTxt x z = decide (c ∈ z.cps.toList)) ∨ inTxt x z = !(Builtin.Str.occurrences z x 0 z.length 1).isEmpty := by
  unfold inTxt
  split
  · rename_i c e
    refine .inl ⟨c, ?_, rfl⟩
    obtain ⟨⟨l⟩⟩ := x
    have e' : l = [c] := e
    subst e'
    rfl
  · exact .inr rfl
theorem inV_ok {a b : MV} {x y : V} {k : Bool} {neg : Bool} {Q : VK} (h : inV a b st = some k) (S : Sim K ca ρ st H) (hx : Rv K ρ st.next H a x) (hy : Rv K ρ st.next H b y) (q : Q (.bl (if neg then !k else k)) H) : rInAll K neg x y H Q := by
  refine ⟨k, q, ?_⟩
  have dat : ∀ {d : PyData} {e : PyData}, toS st a = some d → toS st b = some e → ∀ ds, (e = .tuple ds ∨ e = .list ds) → k = (ds.any fun z => PyData.eqv z d) →
      ∃ d ds, Dp K H x d ∧ (Dp K H y (.tuple ds) ∧ SeqAt.shaped (.tuple ds) = true ∨ Dp K H y (.list ds) ∧ SeqAt.shaped (.list ds) = true) ∧ SeqAt.shaped d = true ∧ k = ds.any fun z => PyData.eqv z d := fun {d e} e1 e2 ds hd hk => by
    obtain ⟨d1, s1⟩ := dp_toS S e1 hx
    obtain ⟨d2, s2⟩ := dp_toS S e2 hy
    refine ⟨d, ds, d1, ?_, s1, hk⟩
    rcases hd with rfl | rfl
    · exact .inl ⟨d2, s2⟩
    · exact .inr ⟨d2, s2⟩
  cases hy with
  | str z =>
    cases hx with
    | str w =>
      have h' : inTxt w z = k := Option.some.inj h
      rcases inTxt_ok w z with ⟨c, e, e2⟩ | e2
      · exact .inl ⟨c, z, by rw [e], rfl, by rw [← h', e2]⟩
      · exact .inr (.inl ⟨w, z, rfl, rfl, by rw [← h', e2]⟩)
    | _ => cases h
  | @ref n hn =>
    have h' : (match st.get n with
      | some (.dK kvs) => (keyV a).map fun k => (kvLook kvs k).isSome
      | some (.lst _) => (match toS st a, toS st (.ref n) with
        | some d, some (.list ds) => some (ds.any fun e => PyData.eqv e d)
        | _, _ => none)
      | _ => none) = some k := h
    cases e0 : st.get n with
    | none => rw [e0] at h'; cases h'
    | some o =>
      rw [e0] at h'
      cases o with
      | dK kvs =>
        obtain ⟨u, hu, ro⟩ := S.at hn e0
        cases ro with
        | dK rp =>
          rename_i ys
          cases ek : keyV a with
          | none => rw [ek] at h'; cases h'
          | some q =>
            rw [ek] at h'
            have h2 : (kvLook kvs q).isSome = k := Option.some.inj h'
            refine .inr (.inr (.inl ⟨ρ n, valV ys q, rfl, ?_, ?_⟩))
            · rw [key_rv ek hx]; exact DGet.k hu
            · rw [← h2]
              rcases look_rv (k := q) rp with ⟨e1, e2⟩ | ⟨v, x, e1, e2, _⟩ <;> rw [e1, e2] <;> rfl
      | lst xs =>
        simp only at h'
        split at h'
        · rename_i d ds e1 e2
          exact .inr (.inr (.inr (dat e1 e2 ds (.inr rfl) (Option.some.inj h').symm)))
        · cases h'
      | ins _ _ => cases h'
  | @scr p ys xs hp hr =>
    unfold inV at h
    simp only at h
    split at h
    · rename_i d ds e1 e2
      exact .inr (.inr (.inr (dat e1 e2 ds (.inr rfl) (Option.some.inj h).symm)))
    · cases h
  | @tup p ys xs hp hr =>
    unfold inV at h
    simp only at h
    split at h
    · rename_i d ds e1 e2
      exact .inr (.inr (.inr (dat e1 e2 ds (.inl rfl) (Option.some.inj h).symm)))
    · cases h
  | _ => cases hx <;> cases h
theorem eqV_ok {a b : MV} {x y : V} {k : Bool} (h : eqV a b st = some k) (S : Sim K ca ρ st H) (hx : Rv K ρ st.next H a x) (hy : Rv K ρ st.next H b y) :
    ∃ d e, Dp K H x d ∧ Dp K H y e ∧ SeqAt.shaped d = true ∧ SeqAt.shaped e = true ∧ k = PyData.eqv d e := by
  unfold eqV at h
  split at h
  · rename_i d e e1 e2
    obtain ⟨d1, s1⟩ := dp_toS S e1 hx
    obtain ⟨d2, s2⟩ := dp_toS S e2 hy
    exact ⟨d, e, d1, d2, s1, s2, (Option.some.inj h).symm⟩
  · cases h
end

section
variable {X : Cx} {ca : Cls0} {Γ : Tab} {d : Nat} {a b : Expr} {ma mb : ME} {pos : Pos}
/-- the room that a body has -/
theorem hu65 {A : Around} {k : Nat} (hr : Room k A) : A.units + 65 < cLine := by have := hr.un; omega
theorem eq_all {K : PySem.W.Frag} {ρ : Nat → Addr} {st st' : Store} {H : Hp} {x y v : MV} {xv yv : V} {Q : VK} (h : cmpV .eq x y st = .ok v st') (S : Sim K ca ρ st H) (hx : Rv K ρ st.next H x xv) (hy : Rv K ρ st.next H y yv) (c : Cont K ca ρ st H v st' Q) :
    rEqSS false xv yv H Q ∨ (rEqT0 K xv yv H Q ∨ rEqD K xv yv H Q) := by
  obtain ⟨k, e, rfl, rfl⟩ := okB_eq (show okB (orO (eqSS x y) (orO (eqT0 x y) (eqV x y st))) id st = .ok v st' from h)
  rcases orO_eq e with e | e
  · exact .inl (eqSS_ok (neg := false) e hx hy (c.here S (.bl _)))
  rcases orO_eq e with e | e
  · exact .inr (.inl (eqT0_ok e hx hy (c.here S (.bl _))))
  · obtain ⟨d1, d2, h1, h2, s1, s2, rfl⟩ := eqV_ok e S hx hy
    exact .inr (.inr ⟨d1, d2, h1, h2, s1, s2, c.here S (.bl _)⟩)
theorem ne_all {K : PySem.W.Frag} {ρ : Nat → Addr} {st st' : Store} {H : Hp} {x y v : MV} {xv yv : V} {Q : VK} (h : cmpV .ne x y st = .ok v st') (S : Sim K ca ρ st H) (hx : Rv K ρ st.next H x xv) (hy : Rv K ρ st.next H y yv) (c : Cont K ca ρ st H v st' Q) :
    rEqSS true xv yv H Q ∨ rNeD K xv yv H Q := by
  obtain ⟨k, e, rfl, rfl⟩ := okB_eq (show okB (orO (eqSS x y) (eqV x y st)) (!·) st = .ok v st' from h)
  rcases orO_eq e with e | e
  · exact .inl (eqSS_ok (neg := true) e hx hy (c.here S (.bl _)))
  · obtain ⟨d1, d2, h1, h2, s1, s2, rfl⟩ := eqV_ok e S hx hy
    exact .inr ⟨d1, d2, h1, h2, s1, s2, c.here S (.bl _)⟩
theorem in_all {K : PySem.W.Frag} {ρ : Nat → Addr} {st st' : Store} {H : Hp} {x y v : MV} {xv yv : V} {Q : VK} (h : cmpV .isin x y st = .ok v st') (S : Sim K ca ρ st H) (hx : Rv K ρ st.next H x xv) (hy : Rv K ρ st.next H y yv) (c : Cont K ca ρ st H v st' Q) :
    rInTS K xv yv H Q ∨ rInAll K false xv yv H Q := by
  obtain ⟨k, e, rfl, rfl⟩ := okB_eq (show okB (orO (inTS x y st) (inV x y st)) id st = .ok v st' from h)
  rcases orO_eq e with e | e
  · exact .inl (inTS_ok e S hx hy (c.here S (.bl _)))
  · exact .inr (inV_ok (neg := false) e S hx hy (c.here S (.bl _)))
theorem s_eq (hr : Room d X.A) (ha : PE X a (rE X.K ca Γ d ma)) (hb : PE X b (rE X.K ca Γ d mb)) : PE X (.Compare a [.Eq] [b] pos) (rE X.K ca Γ d (.cmp .eq ma mb)) :=
  e2_wk (pe_cmpR (OpR.or op_eqSS (OpR.or (op_eqT0 hr.units) (op_eqD hr.units))) ha hb (nomark _)) rfl rfl (fun _ _ _ => rfl) fun ρ st H x y xv yv v st' Q h S hx hy c => eq_all h S hx hy c
theorem s_ne (hr : Room d X.A) (ha : PE X a (rE X.K ca Γ d ma)) (hb : PE X b (rE X.K ca Γ d mb)) : PE X (.Compare a [.NotEq] [b] pos) (rE X.K ca Γ d (.cmp .ne ma mb)) :=
  e2_wk (pe_cmpR (OpR.or op_neSS (op_neD hr.units)) ha hb (nomark _)) rfl rfl (fun _ _ _ => rfl) fun ρ st H x y xv yv v st' Q h S hx hy c => ne_all h S hx hy c
theorem s_in (hr : Room d X.A) (ha : PE X a (rE X.K ca Γ d ma)) (hb : PE X b (rE X.K ca Γ d mb)) (hm : behindInMarks .In b = false := by rfl) : PE X (.Compare a [.In] [b] pos) (rE X.K ca Γ d (.cmp .isin ma mb)) :=
  e2_wk (pe_cmpR (OpR.or (op_inTS (hu65 hr)) (op_inAll (hu65 hr))) ha hb hm) rfl rfl (fun _ _ _ => rfl) fun ρ st H x y xv yv v st' Q h S hx hy c => in_all h S hx hy c
theorem s_notin (hr : Room d X.A) (ha : PE X a (rE X.K ca Γ d ma)) (hb : PE X b (rE X.K ca Γ d mb)) (hm : behindInMarks .NotIn b = false := by rfl) : PE X (.Compare a [.NotIn] [b] pos) (rE X.K ca Γ d (.cmp .notin ma mb)) :=
  e2_wk (pe_cmpR (op_notInAll (hu65 hr)) ha hb hm) rfl rfl (fun _ _ _ => rfl) fun ρ st H x y xv yv v st' Q h S hx hy c => by
    obtain ⟨k, e, rfl, rfl⟩ := okB_eq (show okB (inV x y st) (!·) st = .ok v st' from h)
    exact inV_ok (neg := true) e S hx hy (c.here S (.bl _))
theorem cmpI_ok {p : Int → Int → Bool} {K : PySem.W.Frag} {ρ : Nat → Addr} {st st' : Store} {H : Hp} {x y v : MV} {xv yv : V} {Q : VK} (S : Sim K ca ρ st H) (hx : Rv K ρ st.next H x xv) (hy : Rv K ρ st.next H y yv) (c : Cont K ca ρ st H v st' Q)
    (h : (match x, y with
      | .int i, .int j => Res.ok (MV.bl (p i j)) st
      | _, _ => .stuck) = .ok v st') : rI0 (fun i j => .bl (p i j)) xv yv H Q := by
  cases hx with
  | int i =>
    cases hy with
    | int j => cases h; exact ⟨i, j, rfl, rfl, c.here S (.bl _)⟩
    | _ => cases h
  | _ => cases hy <;> cases h
theorem s_lt (ha : PE X a (rE X.K ca Γ d ma)) (hb : PE X b (rE X.K ca Γ d mb)) : PE X (.Compare a [.Lt] [b] pos) (rE X.K ca Γ d (.cmp .lt ma mb)) :=
  e2_wk (pe_cmpR op_lt ha hb (nomark _)) rfl rfl (fun _ _ _ => rfl) fun ρ st H x y xv yv v st' Q h S hx hy c => cmpI_ok (p := fun i j => decide (i < j)) S hx hy c h
theorem s_le (ha : PE X a (rE X.K ca Γ d ma)) (hb : PE X b (rE X.K ca Γ d mb)) : PE X (.Compare a [.LtE] [b] pos) (rE X.K ca Γ d (.cmp .le ma mb)) :=
  e2_wk (pe_cmpR op_le ha hb (nomark _)) rfl rfl (fun _ _ _ => rfl) fun ρ st H x y xv yv v st' Q h S hx hy c => cmpI_ok (p := fun i j => decide (i ≤ j)) S hx hy c h
theorem s_gt (ha : PE X a (rE X.K ca Γ d ma)) (hb : PE X b (rE X.K ca Γ d mb)) : PE X (.Compare a [.Gt] [b] pos) (rE X.K ca Γ d (.cmp .gt ma mb)) :=
  e2_wk (pe_cmpR op_gt ha hb (nomark _)) rfl rfl (fun _ _ _ => rfl) fun ρ st H x y xv yv v st' Q h S hx hy c => cmpI_ok (p := fun i j => decide (j < i)) S hx hy c h
theorem s_ge (ha : PE X a (rE X.K ca Γ d ma)) (hb : PE X b (rE X.K ca Γ d mb)) : PE X (.Compare a [.GtE] [b] pos) (rE X.K ca Γ d (.cmp .ge ma mb)) :=
  e2_wk (pe_cmpR op_ge ha hb (nomark _)) rfl rfl (fun _ _ _ => rfl) fun ρ st H x y xv yv v st' Q h S hx hy c => cmpI_ok (p := fun i j => decide (j ≤ i)) S hx hy c h
/-- .. is None, is not None -/
theorem isN_ok {K : PySem.W.Frag} {ρ : Nat → Addr} {st : Store} {H : Hp} {x : MV} {xv : V} (hx : Rv K ρ st.next H x xv) (neg : Bool) : (match x with
    | .non => Res.ok (MV.bl (!neg)) st
    | _ => .ok (MV.bl neg) st) = .ok (MV.bl (if neg then !(decide (xv = V.non)) else decide (xv = V.non))) st := by
  cases hx <;> cases neg <;> rfl
theorem s_isN {j pos'} (ha : PE X a (rE X.K ca Γ d ma)) : PE X (.Compare a [.Is] [.Constant .none j pos'] pos) (rE X.K ca Γ d (.isN false ma)) :=
  e1_wk (r := fun x H Q => Q (.bl (decide (x = .non))) H) (te := rE X.K ca Γ d ma) (pe_cmp (pc_isN ha)) rfl (fun _ _ _ => rfl) fun n ρ st H x xv v st' Q h S hx c => by
    have h2 := (isN_ok hx false).symm.trans h
    cases h2
    exact c.here S (.bl _)
theorem s_notN {j pos'} (ha : PE X a (rE X.K ca Γ d ma)) : PE X (.Compare a [.IsNot] [.Constant .none j pos'] pos) (rE X.K ca Γ d (.isN true ma)) :=
  e1_wk (r := fun x H Q => Q (.bl (!decide (x = .non))) H) (te := rE X.K ca Γ d ma) (pe_cmp (pc_notN ha)) rfl (fun _ _ _ => rfl) fun n ρ st H x xv v st' Q h S hx c => by
    have h2 := (isN_ok hx true).symm.trans h
    cases h2
    exact c.here S (.bl _)
theorem s_isB {k : Bool} {j pos'} (ha : PE X a (rE X.K ca Γ d ma)) : PE X (.Compare a [.Is] [.Constant (.bool k) j pos'] pos) (rE X.K ca Γ d (.isB k false ma)) :=
  e1_wk (r := fun x H Q => ∃ a b, x = .bl a ∧ V.bl k = .bl b ∧ Q (.bl (decide (a = b))) H) (te := rE X.K ca Γ d ma) (f := fun _ x st => match x with
    | .bl q => .ok (.bl (if false then !(decide (q = k)) else decide (q = k))) st
    | _ => .stuck) (pe_cmpR op_is_bl ha pe_bl (nomark _)) rfl (fun _ _ _ => rfl) fun n ρ st H x xv v st' Q h S hx c => by
    cases hx with
    | bl q => cases h; exact ⟨q, k, rfl, rfl, c.here S (.bl _)⟩
    | _ => cases h
theorem s_notB {k : Bool} {j pos'} (ha : PE X a (rE X.K ca Γ d ma)) : PE X (.Compare a [.IsNot] [.Constant (.bool k) j pos'] pos) (rE X.K ca Γ d (.isB k true ma)) :=
  e1_wk (r := fun x H Q => ∃ a b, x = .bl a ∧ V.bl k = .bl b ∧ Q (.bl (!decide (a = b))) H) (te := rE X.K ca Γ d ma) (f := fun _ x st => match x with
    | .bl q => .ok (.bl (if true then !(decide (q = k)) else decide (q = k))) st
    | _ => .stuck) (pe_cmpR op_isnot_bl ha pe_bl (nomark _)) rfl (fun _ _ _ => rfl) fun n ρ st H x xv v st' Q h S hx c => by
    cases hx with
    | bl q => cases h; exact ⟨q, k, rfl, rfl, c.here S (.bl _)⟩
    | _ => cases h
end
end MP

set_option Elab.async false
set_option linter.all false
set_option maxRecDepth 100000
set_option maxHeartbeats 4000000
namespace MP
open PySem L2

section
variable {K : PySem.W.Frag} {ca : Cls0} {ρ ρ' : Nat → Addr} {st : Store} {N N' : Nat} {H H' : Hp}
mutual
theorem Rv.more (ag : ∀ n, n < N → ρ' n = ρ n) (le : N ≤ N') : ∀ {x : MV} {y : V}, Rv K ρ N H x y → Rv K ρ' N' H x y
  | _, _, .non => .non
  | _, _, .bl b => .bl b
  | _, _, .int i => .int i
  | _, _, .str x => .str x
  | _, _, .tup h t => .tup h (RvL.more ag le t)
  | _, _, .ref h => by rw [← ag _ h]; exact .ref (Nat.lt_of_lt_of_le h le)
  | _, _, .scr h t => .scr h (RvL.more ag le t)
theorem RvL.more (ag : ∀ n, n < N → ρ' n = ρ n) (le : N ≤ N') : ∀ {x : List MV} {y : List V}, RvL K ρ N H x y → RvL K ρ' N' H x y
  | _, _, .nil => .nil
  | _, _, .cons h t => .cons (Rv.more ag le h) (RvL.more ag le t)
end
theorem RvP.more {κ : Type} (ag : ∀ n, n < N → ρ' n = ρ n) (le : N ≤ N') : ∀ {x : List (κ × MV)} {y : List (κ × V)}, RvP K ρ N H x y → RvP K ρ' N' H x y
  | _, _, .nil => .nil
  | _, _, .cons h t => .cons (h.more ag le) (RvP.more ag le t)
theorem RO.more (ag : ∀ n, n < N → ρ' n = ρ n) (le : N ≤ N') {o : MO} {u : HO} (r : RO K ca ρ N H o u) : RO K ca ρ' N' H o u := by
  cases r with
  | lst h => exact .lst (h.more ag le)
  | dK h => exact .dK (h.more ag le)
  | ins h => exact .ins (h.more ag le)
/-- what is free later was free -/
theorem Fut.none (S : Sim K ca ρ st H) (F : Fut ρ st.next H ρ' N' H') (S' : ∀ n, n < st.next → ∃ u, H' (ρ' n) = some u) {a : Addr} (h : H' a = Option.none) : H a = Option.none := by
  cases e : H a with
  | none => rfl
  | some o =>
    by_cases hx : ∃ n, n < st.next ∧ ρ n = a
    · obtain ⟨n, hn, rfl⟩ := hx
      obtain ⟨u, hu⟩ := S' n hn
      rw [F.agr n hn, h] at hu
      cases hu
    · have q := (F.fr a o e fun n hn z => hx ⟨n, hn, z⟩).1
      rw [h] at q; cases q
theorem Fut.none' {st' : Store} (S : Sim K ca ρ st H) (F : Fut ρ st.next H ρ' st'.next H') (S' : Sim K ca ρ' st' H') {a : Addr} (h : H' a = Option.none) : H a = Option.none :=
  F.none S (fun n hn => let ⟨_, u, _, hu, _⟩ := S'.obj n (Nat.lt_of_lt_of_le hn F.le); ⟨u, hu⟩) h
/-- a list that was just made comes to the store -/
theorem Sim.adopt (S : Sim K ca ρ st H) {p : Addr} {o : HO} {mo : MO} (hp : H p = some o) (hx : ∀ n, n < st.next → ρ n ≠ p) (r : RO K ca ρ st.next H mo o) : Sim K ca (ext ρ st.next p) (st.add mo) H := by
  have ag : ∀ n, n < st.next → ext ρ st.next p n = ρ n := fun n h => ext_ne (Nat.ne_of_lt h)
  refine ⟨Store.wf_add S.wf _, fun n m hn hm e => ?_, fun n hn => ?_⟩
  · rw [Store.next_add] at hn hm
    by_cases h1 : n = st.next
    · by_cases h2 : m = st.next
      · rw [h1, h2]
      · rw [h1, ext_same, ext_ne h2] at e
        exact absurd e.symm (hx m (by omega))
    · by_cases h2 : m = st.next
      · rw [h2, ext_same, ext_ne h1] at e
        exact absurd e (hx n (by omega))
      · rw [ext_ne h1, ext_ne h2] at e
        exact S.inj n m (by omega) (by omega) e
  · rw [Store.next_add] at hn ⊢
    rw [Store.get_add S.wf]
    by_cases h1 : n = st.next
    · rw [if_pos h1, h1, ext_same]
      exact ⟨mo, o, rfl, hp, r.more ag (Nat.le_succ _)⟩
    · rw [if_neg h1, ext_ne h1]
      obtain ⟨mo', u, e1, e2, r'⟩ := S.obj n (by omega)
      exact ⟨mo', u, e1, e2, r'.more ag (Nat.le_succ _)⟩
theorem Fut.adopt {st' : Store} (S : Sim K ca ρ st H) (F : Fut ρ st.next H ρ' st'.next H') {p : Addr} (h0 : H p = Option.none) : Fut ρ st.next H (ext ρ' st'.next p) (st'.next + 1) H' :=
  ⟨Nat.le_succ_of_le F.le, fun n h => (ext_ne (Nat.ne_of_lt (Nat.lt_of_lt_of_le h F.le))).trans (F.agr n h), fun a o e hx => by
    obtain ⟨h1, h2⟩ := F.fr a o e hx
    refine ⟨h1, fun n hn => ?_⟩
    by_cases e2 : n = st'.next
    · rw [e2, ext_same]; exact fun z => by rw [z, e] at h0; cases h0
    · rw [ext_ne e2]; exact h2 n (by omega)⟩
end

/-- a list that was just made -/
def rF (K : PySem.W.Frag) (ca : Cls0) (Γ : Tab) (d : Nat) (m : ME) : TE := fun σ H Q =>
  ∃ (n : Nat) (ρ : Nat → Addr) (st : Store) (env : Env), Sim K ca ρ st H ∧ SlotsR K ρ st.next H env σ ∧ ∃ xs st', (ev Γ n d).l m env st = .ok xs st' ∧
    ∀ ρ' H' p ys, Fut ρ st.next H ρ' st'.next H' → Sim K ca ρ' st' H' → H p = none → H' p = some (.lst ys) → (∀ n, n < st'.next → ρ' n ≠ p) → RvL K ρ' st'.next H' xs ys → Q (.ref p) H'

section
variable {X : Cx} {ca : Cls0} {Γ : Tab} {d : Nat} {a b e : Expr} {ma mb m : ME} {pos : Pos}
theorem l_of_f (h : PE X e (rF X.K ca Γ d m)) : PE X e (rL X.K ca Γ d m) :=
  PE.wk h fun σ H Q ⟨n, ρ, st, env, S, L, xs, st', he, k⟩ => ⟨n, ρ, st, env, S, L, xs, st', he, fun ρ' H' p ys F S' _ hp _ r => k ρ' H' (.ref p) F S' ⟨p, ys, rfl, SqL.of hp, r⟩⟩
theorem s_mk (h : PE X e (rF X.K ca Γ d m)) : PE X e (rE X.K ca Γ d (.mk m)) := by
  refine PE.wk h fun σ H Q q => ?_
  obtain ⟨n, ρ, st, env, S, L, v, st', he, k⟩ := q
  cases n with
  | zero => cases he
  | succ n =>
    have he : ((ev Γ n d).l m env st).bind (fun vs st => newL vs st) = .ok v st' := he
    obtain ⟨xs, st1, e1, e2⟩ := Res.bind_ok he
    refine ⟨n, ρ, st, env, S, L, xs, st1, e1, fun ρ' H' p ys F S' h0 hp hx r => ?_⟩
    unfold newL at e2
    split at e2
    · cases e2
      have q := k (ext ρ' st1.next p) H' (.ref p) (Fut.adopt S F h0) (Sim.adopt S' hp hx (.lst r))
      refine q ?_
      have q2 : Rv X.K (ext ρ' st1.next p) (st1.add (.lst xs)).next H' (.ref st1.next) (.ref (ext ρ' st1.next p st1.next)) := .ref (Nat.lt_succ_self _)
      rw [ext_same] at q2
      exact q2
    · cases e2
/-- a list that stands, as a list -/
theorem s_lv (h : PE X e (rE X.K ca Γ d m)) (hm : ∀ n env st, (ev Γ (n + 1) d).l m env st = ((ev Γ n d).e m env st).bind fun v st => match lstV st v with
    | some xs => .ok xs st
    | none => .stuck) : PE X e (rL X.K ca Γ d m) := by
  refine PE.wk h fun σ H Q q => ?_
  obtain ⟨n, ρ, st, env, S, L, xs, st', he, k⟩ := q
  cases n with
  | zero => cases he
  | succ n =>
    have he : (ev Γ (n + 1) d).l m env st = .ok xs st' := he
    rw [hm] at he
    obtain ⟨v, st1, e1, e2⟩ := Res.bind_ok he
    refine ⟨n, ρ, st, env, S, L, v, st1, e1, fun ρ' H' x F S' r => ?_⟩
    cases r with
    | @scr p ys xs' hp hr => cases e2; exact k ρ' H' _ F S' ⟨p, ys, rfl, hp.sq, hr⟩
    | @ref n hn =>
      have e3 : (match (match st1.get n with
        | some (.lst xs) => some xs
        | _ => none) with
        | some xs => Res.ok xs st1
        | none => .stuck) = .ok xs st' := e2
      cases e0 : st1.get n with
      | none => rw [e0] at e3; cases e3
      | some o =>
        rw [e0] at e3
        cases o with
        | lst ys' =>
          cases e3
          obtain ⟨u, hu, ro⟩ := S'.at hn e0
          cases ro with
          | lst hr => exact k ρ' H' _ F S' ⟨_, _, rfl, SqL.of hu, hr⟩
        | dK _ => cases e3
        | ins _ _ => cases e3
    | _ => cases e2

/-! ### arguments, displays -/
theorem s_nil : PA X [] (rA X.K ca Γ d []) := PA.wk pa_nil fun σ H Q q => by
  obtain ⟨n, ρ, st, env, S, L, vs, st', he, k⟩ := q
  cases n with
  | zero => cases he
  | succ n => cases he; exact k ρ H [] (Fut.refl _ _ _) S .nil
theorem s_cons {es : List Expr} {ms : List ME} (ha : PE X a (rE X.K ca Γ d ma)) (hr : PA X es (rA X.K ca Γ d ms)) (hs : starEach (a :: es) X.env = (false, eval a X.env) :: starEach es X.env := by rfl) : PA X (a :: es) (rA X.K ca Γ d (ma :: ms)) :=
  PA.wk (pa_cons ha hr hs) fun σ H Q q => by
    obtain ⟨n, ρ, st, env, S, L, vs, st', he, k⟩ := q
    cases n with
    | zero => cases he
    | succ n =>
      have he : ((ev Γ n d).e ma env st).bind (fun v st => ((ev Γ n d).a ms env st).bind fun vs st => .ok (v :: vs) st) = .ok vs st' := he
      obtain ⟨x, st1, e1, e2⟩ := Res.bind_ok he
      obtain ⟨xs, st2, e3, e4⟩ := Res.bind_ok e2
      cases e4
      exact ⟨n, ρ, st, env, S, L, x, st1, e1, fun ρ1 H1 xv F1 S1 R1 => ⟨n, ρ1, st1, env, S1, F1.slots S L, xs, _, e3, fun ρ2 H2 ys F2 S2 R2 => k ρ2 H2 (xv :: ys) (F1.trans F2) S2 (.cons (F2.rv S1 R1) R2)⟩⟩
theorem s_tup {es : List Expr} {ms : List ME} {x1} (h : PA X es (rA X.K ca Γ d ms)) : PE X (.Tuple es x1 pos) (rE X.K ca Γ d (.tupD ms)) :=
  PE.wk (pe_tup h) fun σ H Q q => by
    obtain ⟨n, ρ, st, env, S, L, v, st', he, k⟩ := q
    cases n with
    | zero => cases he
    | succ n =>
      have he : ((ev Γ n d).a ms env st).bind (fun vs st => newT vs st) = .ok v st' := he
      obtain ⟨xs, st1, e1, e2⟩ := Res.bind_ok he
      refine ⟨n, ρ, st, env, S, L, xs, st1, e1, fun ρ1 H1 ys F1 S1 R1 => ?_⟩
      unfold newT at e2
      split at e2
      · cases e2
        exact ⟨by rw [← R1.length]; assumption, Cont.newT (Cont.after k F1) S1 R1⟩
      · cases e2
theorem s_lstD {es : List Expr} {ms : List ME} (h : PA X es (rA X.K ca Γ d ms)) : PE X (.List es pos) (rF X.K ca Γ d (.lstD ms)) :=
  PE.wk (pe_lst h) fun σ H Q q => by
    obtain ⟨n, ρ, st, env, S, L, xs, st', he, k⟩ := q
    cases n with
    | zero => cases he
    | succ n =>
      have he : ((ev Γ n d).a ms env st).bind (fun vs st => if vs.length ≤ sizeLine then .ok vs st else .stuck) = .ok xs st' := he
      obtain ⟨xs, st1, e1, e2⟩ := Res.bind_ok he
      refine ⟨n, ρ, st, env, S, L, xs, st1, e1, fun ρ1 H1 ys F1 S1 R1 => ?_⟩
      split at e2
      · cases e2
        refine ⟨by rw [← R1.length]; assumption, fun p hp => ?_⟩
        exact k ρ1 _ p ys (F1.trans (Fut.grow S1 hp)) (Sim.grow S1 hp) (Fut.none' S F1 S1 hp) upd_same (fun n hn z => by
          obtain ⟨_, u, _, hu, _⟩ := S1.obj n hn
          rw [z, hp] at hu; cases hu) ((Fut.grow S1 hp).rvL S1 R1)
      · cases e2

/-! ### and, or, not, if -/
theorem s_one {op m'} (h : PE X a (rE X.K ca Γ d m')) : PE X (.BoolOp op [a] pos) (rE X.K ca Γ d m') := pe_one h
theorem s_and {rest : List Expr} (ha : PE X a (rE X.K ca Γ d ma)) (hb : PE X (.BoolOp .And (b :: rest) pos) (rE X.K ca Γ d mb)) : PE X (.BoolOp .And (a :: b :: rest) pos) (rE X.K ca Γ d (.and ma mb)) :=
  PE.wk (pe_and ha hb) fun σ H Q q => by
    obtain ⟨n, ρ, st, env, S, L, v, st', he, k⟩ := q
    cases n with
    | zero => cases he
    | succ n =>
      have he : ((ev Γ n d).e ma env st).bind (fun x st => match x with
        | .bl true => (ev Γ n d).e mb env st
        | .bl false => .ok (.bl false) st
        | _ => .stuck) = .ok v st' := he
      obtain ⟨x, st1, e1, e2⟩ := Res.bind_ok he
      refine ⟨n, ρ, st, env, S, L, x, st1, e1, fun ρ1 H1 xv F1 S1 R1 => ?_⟩
      cases R1 with
      | bl c =>
        refine ⟨c, rfl, ?_⟩
        cases c with
        | true =>
          refine iteT ?_
          exact ⟨n, ρ1, st1, env, S1, F1.slots S L, v, st', e2, fun ρ2 H2 z F2 S2 R2 => k ρ2 H2 z (F1.trans F2) S2 R2⟩
        | false =>
          refine iteF ?_
          cases e2
          exact k ρ1 H1 _ F1 S1 (.bl _)
      | _ => cases e2
theorem s_or {rest : List Expr} (ha : PE X a (rE X.K ca Γ d ma)) (hb : PE X (.BoolOp .Or (b :: rest) pos) (rE X.K ca Γ d mb)) : PE X (.BoolOp .Or (a :: b :: rest) pos) (rE X.K ca Γ d (.or ma mb)) :=
  PE.wk (pe_or ha hb) fun σ H Q q => by
    obtain ⟨n, ρ, st, env, S, L, v, st', he, k⟩ := q
    cases n with
    | zero => cases he
    | succ n =>
      have he : ((ev Γ n d).e ma env st).bind (fun x st => match x with
        | .bl false => (ev Γ n d).e mb env st
        | .bl true => .ok (.bl true) st
        | _ => .stuck) = .ok v st' := he
      obtain ⟨x, st1, e1, e2⟩ := Res.bind_ok he
      refine ⟨n, ρ, st, env, S, L, x, st1, e1, fun ρ1 H1 xv F1 S1 R1 => ?_⟩
      cases R1 with
      | bl c =>
        refine ⟨c, rfl, ?_⟩
        cases c with
        | false =>
          refine iteF ?_
          exact ⟨n, ρ1, st1, env, S1, F1.slots S L, v, st', e2, fun ρ2 H2 z F2 S2 R2 => k ρ2 H2 z (F1.trans F2) S2 R2⟩
        | true =>
          refine iteT ?_
          cases e2
          exact k ρ1 H1 _ F1 S1 (.bl _)
      | _ => cases e2
theorem s_ifx {c : Expr} {mc : ME} (hc : PT X c (rT X.K ca Γ d mc)) (ha : PE X a (rE X.K ca Γ d ma)) (hb : PE X b (rE X.K ca Γ d mb)) : PE X (.IfExp c a b pos) (rE X.K ca Γ d (.ifx mc ma mb)) :=
  PE.wk (pe_ifExp hc ha hb) fun σ H Q q => by
    obtain ⟨n, ρ, st, env, S, L, v, st', he, k⟩ := q
    cases n with
    | zero => cases he
    | succ n =>
      have he : ((ev Γ n d).t mc env st).bind (fun k st => if k = true then (ev Γ n d).e ma env st else (ev Γ n d).e mb env st) = .ok v st' := he
      obtain ⟨x, st1, e1, e2⟩ := Res.bind_ok he
      refine ⟨n, ρ, st, env, S, L, x, st1, e1, fun ρ1 H1 c F1 S1 R1 => ?_⟩
      subst R1
      cases x with
      | true =>
        refine iteT ?_
        rw [if_pos rfl] at e2
        exact ⟨n, ρ1, st1, env, S1, F1.slots S L, v, st', e2, fun ρ2 H2 z F2 S2 R2 => k ρ2 H2 z (F1.trans F2) S2 R2⟩
      | false =>
        refine iteF ?_
        rw [if_neg Bool.false_ne_true] at e2
        exact ⟨n, ρ1, st1, env, S1, F1.slots S L, v, st', e2, fun ρ2 H2 z F2 S2 R2 => k ρ2 H2 z (F1.trans F2) S2 R2⟩
/-! ### tests -/
theorem tru_rv {K : PySem.W.Frag} {ρ : Nat → Addr} {st : Store} {H : Hp} {v : MV} {x : V} {k : Bool} (S : Sim K ca ρ st H) (r : Rv K ρ st.next H v x) (h : truV v st = some k) : TruV K x H k := by
  cases r with
  | non => cases h; rfl
  | bl b => cases h; rfl
  | int i => cases h; rfl
  | str y =>
    unfold truV at h
    simp only at h
    split at h
    · cases h; exact ⟨by assumption, rfl⟩
    · cases h
  | @tup p ys xs hp hr =>
    cases h
    refine .inr (.inl ⟨ys, hp, ?_⟩)
    cases hr <;> rfl
  | @scr p ys xs hp hr =>
    cases h
    refine .inl ⟨ys, hp.sq, ?_⟩
    cases hr <;> rfl
  | @ref n hn =>
    have h' : (match st.get n with
      | some (.lst xs) => some (!xs.isEmpty)
      | some (.dK kvs) => some (!kvs.isEmpty)
      | _ => none) = some k := h
    cases e0 : st.get n with
    | none => rw [e0] at h'; cases h'
    | some o =>
      rw [e0] at h'
      obtain ⟨u, hu, ro⟩ := S.at hn e0
      cases ro with
      | lst hr =>
        cases h'
        refine .inl ⟨_, SqL.of hu, ?_⟩
        cases hr <;> rfl
      | dK hr =>
        cases h'
        refine .inr (.inr ⟨_, hu, ?_⟩)
        cases hr <;> rfl
      | ins _ => cases h'
/-- a value by its truth -/
theorem t_val (ha : PE X a (rE X.K ca Γ d ma)) (hm : ∀ n env st, (ev Γ (n + 1) d).t ma env st = ((ev Γ n d).e ma env st).bind fun v st => match truV v st with
      | some k => .ok k st
      | none => .stuck) (he : ∀ whole, isTrue a X.env whole = (do let v ← whole; standAt a.pos; holding [v] (truthy v)) := by intro _; rfl) : PT X a (rT X.K ca Γ d ma) :=
  PT.wk (pt_truth ha he) fun σ H Q q => by
    obtain ⟨n, ρ, st, env, S, L, v, st', he, k⟩ := q
    cases n with
    | zero => cases he
    | succ n =>
      have he : (ev Γ (n + 1) d).t ma env st = .ok v st' := he
      rw [hm] at he
      obtain ⟨x, st1, e1, e2⟩ := Res.bind_ok he
      refine ⟨n, ρ, st, env, S, L, x, st1, e1, fun ρ1 H1 xv F1 S1 R1 => ?_⟩
      cases e3 : truV x st1 with
      | none => rw [e3] at e2; cases e2
      | some b =>
        rw [e3] at e2
        cases e2
        exact ⟨_, tru_rv S1 R1 e3, k ρ1 H1 _ F1 S1 rfl⟩
/-- a comparison as a test -/
theorem t_cmp {op : CmpOp} {r : R2} (ho : OpR X (compareOp op) r) (hm : behindInMarks op b = false) {cop : COp} (ha : PE X a (rE X.K ca Γ d ma)) (hb : PE X b (rE X.K ca Γ d mb))
    (hr : ∀ (x y : V) (H : Hp) (Q Q' : VK), (∀ v H', Q v H' → Q' v H') → r x y H Q → r x y H Q')
    (ok : ∀ ρ st H x y xv yv v st' Q, cmpV cop x y st = .ok v st' → Sim X.K ca ρ st H → Rv X.K ρ st.next H x xv → Rv X.K ρ st.next H y yv → Cont X.K ca ρ st H v st' Q → r xv yv H Q) : PT X (.Compare a [op] [b] pos) (rT X.K ca Γ d (.cmp cop ma mb)) :=
  PT.wk (pt_cmpR ho ha hb hm) fun σ H Q q => by
    obtain ⟨n, ρ, st, env, S, L, v, st', he, k⟩ := q
    cases n with
    | zero => cases he
    | succ n =>
      have he : ((ev Γ n d).e (.cmp cop ma mb) env st).bind (fun v st => match truV v st with
        | some k => .ok k st
        | none => .stuck) = .ok v st' := he
      obtain ⟨z, st3, e0, e9⟩ := Res.bind_ok he
      cases n with
      | zero => cases e0
      | succ n =>
        have e0 : ((ev Γ n d).e ma env st).bind (fun x st => ((ev Γ n d).e mb env st).bind fun y st => cmpV cop x y st) = .ok z st3 := e0
        obtain ⟨x, st1, e1, e2⟩ := Res.bind_ok e0
        obtain ⟨y, st2, e3, e4⟩ := Res.bind_ok e2
        refine ⟨n, ρ, st, env, S, L, x, st1, e1, fun ρ1 H1 xv F1 S1 R1 => ⟨n, ρ1, st1, env, S1, F1.slots S L, y, st2, e3, fun ρ2 H2 yv F2 S2 R2 => ?_⟩⟩
        refine ok ρ2 st2 H2 x y xv yv z st3 _ e4 S2 (F2.rv S1 R1) R2 fun ρ3 H3 w F3 S3 R3 => ?_
        have bz : ∃ q, z = .bl q := by
          cases cop <;> simp only [cmpV] at e4
          · obtain ⟨q, _, rfl, _⟩ := okB_eq e4; exact ⟨_, rfl⟩
          · obtain ⟨q, _, rfl, _⟩ := okB_eq e4; exact ⟨_, rfl⟩
          all_goals first
            | (obtain ⟨q, _, rfl, _⟩ := okB_eq e4; exact ⟨_, rfl⟩)
            | (split at e4
               · cases e4; exact ⟨_, rfl⟩
               · cases e4)
        obtain ⟨q, rfl⟩ := bz
        cases R3 with
        | bl q =>
          cases e9
          exact ⟨_, rfl, k ρ3 H3 _ ((F1.trans F2).trans F3) S3 rfl⟩
end
end MP

set_option Elab.async false
set_option linter.all false
set_option maxRecDepth 100000
set_option maxHeartbeats 4000000
namespace MP
open PySem PySem.Spec PyProof.Rows L2

section
variable {X : Cx} {ca : Cls0} {Γ : Tab} {d : Nat} {a b e : Expr} {ma mb m : ME} {pos : Pos}
/-! ### and, or, not as tests -/
theorem w_one {op} (h : PT X a (rT X.K ca Γ d m)) : PW X (.BoolOp op [a] pos) (rT X.K ca Γ d m) := by
  cases op with
  | And => exact pw_and1 h
  | Or => exact pw_or1 h
theorem w_and {rest : List Expr} (ha : PT X a (rT X.K ca Γ d ma)) (hb : PW X (.BoolOp .And (b :: rest) pos) (rT X.K ca Γ d mb)) : PW X (.BoolOp .And (a :: b :: rest) pos) (rT X.K ca Γ d (.and ma mb)) :=
  PW.wk (pw_and ha hb) fun σ H Q q => by
    obtain ⟨n, ρ, st, env, S, L, v, st', he, k⟩ := q
    cases n with
    | zero => cases he
    | succ n =>
      have he : ((ev Γ n d).t ma env st).bind (fun k st => if k = true then (ev Γ n d).t mb env st else .ok false st) = .ok v st' := he
      obtain ⟨x, st1, e1, e2⟩ := Res.bind_ok he
      refine ⟨n, ρ, st, env, S, L, x, st1, e1, fun ρ1 H1 c F1 S1 R1 => ?_⟩
      subst R1
      cases x with
      | true =>
        refine iteT ?_
        rw [if_pos rfl] at e2
        exact ⟨n, ρ1, st1, env, S1, F1.slots S L, v, st', e2, fun ρ2 H2 z F2 S2 R2 => k ρ2 H2 z (F1.trans F2) S2 R2⟩
      | false =>
        refine iteF ?_
        rw [if_neg Bool.false_ne_true] at e2
        cases e2
        exact k ρ1 H1 _ F1 S1 rfl
theorem w_or {rest : List Expr} (ha : PT X a (rT X.K ca Γ d ma)) (hb : PW X (.BoolOp .Or (b :: rest) pos) (rT X.K ca Γ d mb)) : PW X (.BoolOp .Or (a :: b :: rest) pos) (rT X.K ca Γ d (.or ma mb)) :=
  PW.wk (pw_or ha hb) fun σ H Q q => by
    obtain ⟨n, ρ, st, env, S, L, v, st', he, k⟩ := q
    cases n with
    | zero => cases he
    | succ n =>
      have he : ((ev Γ n d).t ma env st).bind (fun k st => if k = true then .ok true st else (ev Γ n d).t mb env st) = .ok v st' := he
      obtain ⟨x, st1, e1, e2⟩ := Res.bind_ok he
      refine ⟨n, ρ, st, env, S, L, x, st1, e1, fun ρ1 H1 c F1 S1 R1 => ?_⟩
      subst R1
      cases x with
      | true =>
        refine iteT ?_
        rw [if_pos rfl] at e2
        cases e2
        exact k ρ1 H1 _ F1 S1 rfl
      | false =>
        refine iteF ?_
        rw [if_neg Bool.false_ne_true] at e2
        exact ⟨n, ρ1, st1, env, S1, F1.slots S L, v, st', e2, fun ρ2 H2 z F2 S2 R2 => k ρ2 H2 z (F1.trans F2) S2 R2⟩
theorem t_not (ha : PT X a (rT X.K ca Γ d ma)) : PT X (.UnaryOp .Not a pos) (rT X.K ca Γ d (.not ma)) :=
  PT.wk (pt_not ha) fun σ H Q q => by
    obtain ⟨n, ρ, st, env, S, L, v, st', he, k⟩ := q
    cases n with
    | zero => cases he
    | succ n =>
      have he : ((ev Γ n d).t ma env st).bind (fun k st => .ok (!k) st) = .ok v st' := he
      obtain ⟨x, st1, e1, e2⟩ := Res.bind_ok he
      cases e2
      exact ⟨n, ρ, st, env, S, L, x, st', e1, fun ρ1 H1 c F1 S1 R1 => by subst R1; exact k ρ1 H1 _ F1 S1 rfl⟩
/-- comparisons as tests -/
theorem tb_of {r : V → Hp → VK → Prop} {te : TE} {f : Nat → MV → Store → Res MV} (h : PT X e (fun σ H Q => te σ H fun x H1 => r x H1 fun z H2 => ∃ k, z = .bl k ∧ Q k H2)) (hte : te = rE X.K ca Γ d a')
    (hm : ∀ n env st, (ev Γ (n + 1) d).e m env st = ((ev Γ n d).e a' env st).bind fun x st => f n x st)
    (ht : ∀ n env st, (ev Γ (n + 1) d).t m env st = ((ev Γ n d).e m env st).bind fun v st => match truV v st with
      | some k => .ok k st
      | none => .stuck)
    (bl : ∀ n x st v st', f n x st = .ok v st' → ∃ q, v = .bl q)
    (op : ∀ n ρ st H x xv v st' Q, f n x st = .ok v st' → Sim X.K ca ρ st H → Rv X.K ρ st.next H x xv → Cont X.K ca ρ st H v st' Q → r xv H Q) : PT X e (rT X.K ca Γ d m) := by
  subst hte
  refine PT.wk h fun σ H Q q => ?_
  obtain ⟨n, ρ, st, env, S, L, v, st', he, k⟩ := q
  cases n with
  | zero => cases he
  | succ n =>
    have he : (ev Γ (n + 1) d).t m env st = .ok v st' := he
    rw [ht] at he
    obtain ⟨z, st3, e0, e9⟩ := Res.bind_ok he
    cases n with
    | zero => cases e0
    | succ n =>
      have e0 : (ev Γ (n + 1) d).e m env st = .ok z st3 := e0
      rw [hm] at e0
      obtain ⟨x, st1, e1, e2⟩ := Res.bind_ok e0
      refine ⟨n, ρ, st, env, S, L, x, st1, e1, fun ρ1 H1 xv F1 S1 R1 => ?_⟩
      refine op n ρ1 st1 H1 x xv z st3 _ e2 S1 R1 fun ρ3 H3 w F3 S3 R3 => ?_
      obtain ⟨q, rfl⟩ := bl _ _ _ _ _ e2
      cases R3 with
      | bl q =>
        cases e9
        exact ⟨_, rfl, k ρ3 H3 _ (F1.trans F3) S3 rfl⟩
end

section
variable {X : Cx} {ca : Cls0} {Γ : Tab} {d : Nat} {a b e : Expr} {ma mb m : ME} {pos : Pos}
theorem t_eq (hr : Room d X.A) (ha : PE X a (rE X.K ca Γ d ma)) (hb : PE X b (rE X.K ca Γ d mb)) : PT X (.Compare a [.Eq] [b] pos) (rT X.K ca Γ d (.cmp .eq ma mb)) :=
  t_cmp (OpR.or op_eqSS (OpR.or (op_eqT0 hr.units) (op_eqD hr.units))) (nomark _) ha hb (fun _ _ _ _ _ hq h => h.elim (fun ⟨a, b, h1, h2, q⟩ => .inl ⟨a, b, h1, h2, hq _ _ q⟩) (fun h => .inr (h.elim (fun ⟨a, b, xs, h1, h2, h3, h4, q⟩ => .inl ⟨a, b, xs, h1, h2, h3, h4, hq _ _ q⟩) (fun ⟨d1, d2, h1, h2, h3, h4, q⟩ => .inr ⟨d1, d2, h1, h2, h3, h4, hq _ _ q⟩)))) fun ρ st H x y xv yv v st' Q h S hx hy c => eq_all h S hx hy c
theorem t_ne (hr : Room d X.A) (ha : PE X a (rE X.K ca Γ d ma)) (hb : PE X b (rE X.K ca Γ d mb)) : PT X (.Compare a [.NotEq] [b] pos) (rT X.K ca Γ d (.cmp .ne ma mb)) :=
  t_cmp (OpR.or op_neSS (op_neD hr.units)) (nomark _) ha hb (fun _ _ _ _ _ hq h => h.elim (fun ⟨a, b, h1, h2, q⟩ => .inl ⟨a, b, h1, h2, hq _ _ q⟩) (fun ⟨d1, d2, h1, h2, h3, h4, q⟩ => .inr ⟨d1, d2, h1, h2, h3, h4, hq _ _ q⟩)) fun ρ st H x y xv yv v st' Q h S hx hy c => ne_all h S hx hy c
theorem t_in (hr : Room d X.A) (ha : PE X a (rE X.K ca Γ d ma)) (hb : PE X b (rE X.K ca Γ d mb)) (hm : behindInMarks .In b = false := by rfl) : PT X (.Compare a [.In] [b] pos) (rT X.K ca Γ d (.cmp .isin ma mb)) :=
  t_cmp (OpR.or (op_inTS (hu65 hr)) (op_inAll (hu65 hr))) hm ha hb (fun _ _ _ _ _ hq h => h.elim (fun ⟨k, q, h⟩ => .inl ⟨k, hq _ _ q, h⟩) (fun ⟨k, q, h⟩ => .inr ⟨k, hq _ _ q, h⟩)) fun ρ st H x y xv yv v st' Q h S hx hy c => in_all h S hx hy c
theorem t_notin (hr : Room d X.A) (ha : PE X a (rE X.K ca Γ d ma)) (hb : PE X b (rE X.K ca Γ d mb)) (hm : behindInMarks .NotIn b = false := by rfl) : PT X (.Compare a [.NotIn] [b] pos) (rT X.K ca Γ d (.cmp .notin ma mb)) :=
  t_cmp (op_notInAll (hu65 hr)) hm ha hb (fun _ _ _ _ _ hq ⟨k, q, h⟩ => ⟨k, hq _ _ q, h⟩) fun ρ st H x y xv yv v st' Q h S hx hy c => by
    obtain ⟨k, e, rfl, rfl⟩ := okB_eq (show okB (inV x y st) (!·) st = .ok v st' from h)
    exact inV_ok (neg := true) e S hx hy (c.here S (.bl _))
theorem rI0_mono {g : Int → Int → V} : ∀ (x y : V) (H : Hp) (Q Q' : VK), (∀ v H', Q v H' → Q' v H') → rI0 g x y H Q → rI0 g x y H Q' := fun _ _ _ _ _ hq ⟨i, j, h1, h2, q⟩ => ⟨i, j, h1, h2, hq _ _ q⟩
theorem t_lt (ha : PE X a (rE X.K ca Γ d ma)) (hb : PE X b (rE X.K ca Γ d mb)) : PT X (.Compare a [.Lt] [b] pos) (rT X.K ca Γ d (.cmp .lt ma mb)) :=
  t_cmp op_lt (nomark _) ha hb rI0_mono fun ρ st H x y xv yv v st' Q h S hx hy c => cmpI_ok (p := fun i j => decide (i < j)) S hx hy c h
theorem t_le (ha : PE X a (rE X.K ca Γ d ma)) (hb : PE X b (rE X.K ca Γ d mb)) : PT X (.Compare a [.LtE] [b] pos) (rT X.K ca Γ d (.cmp .le ma mb)) :=
  t_cmp op_le (nomark _) ha hb rI0_mono fun ρ st H x y xv yv v st' Q h S hx hy c => cmpI_ok (p := fun i j => decide (i ≤ j)) S hx hy c h
theorem t_gt (ha : PE X a (rE X.K ca Γ d ma)) (hb : PE X b (rE X.K ca Γ d mb)) : PT X (.Compare a [.Gt] [b] pos) (rT X.K ca Γ d (.cmp .gt ma mb)) :=
  t_cmp op_gt (nomark _) ha hb rI0_mono fun ρ st H x y xv yv v st' Q h S hx hy c => cmpI_ok (p := fun i j => decide (j < i)) S hx hy c h
theorem t_ge (ha : PE X a (rE X.K ca Γ d ma)) (hb : PE X b (rE X.K ca Γ d mb)) : PT X (.Compare a [.GtE] [b] pos) (rT X.K ca Γ d (.cmp .ge ma mb)) :=
  t_cmp op_ge (nomark _) ha hb rI0_mono fun ρ st H x y xv yv v st' Q h S hx hy c => cmpI_ok (p := fun i j => decide (j ≤ i)) S hx hy c h
theorem isN_bl {neg : Bool} {x v : MV} {st st' : Store} (h : (match x with
    | .non => Res.ok (MV.bl (!neg)) st
    | _ => .ok (MV.bl neg) st) = .ok v st') : ∃ q, v = .bl q := by
  split at h <;> (cases h; exact ⟨_, rfl⟩)
theorem t_isN {j pos'} (ha : PE X a (rE X.K ca Γ d ma)) : PT X (.Compare a [.Is] [.Constant .none j pos'] pos) (rT X.K ca Γ d (.isN false ma)) :=
  tb_of (a' := ma) (r := fun x H Q => Q (.bl (decide (x = .non))) H) (te := rE X.K ca Γ d ma) (pt_cmp (pc_isN ha)) rfl (fun _ _ _ => rfl) (fun _ _ _ => rfl) (fun _ _ _ _ _ h => isN_bl h) fun n ρ st H x xv v st' Q h S hx c => by
    have h2 := (isN_ok hx false).symm.trans h
    cases h2
    exact c.here S (.bl _)
theorem t_notN {j pos'} (ha : PE X a (rE X.K ca Γ d ma)) : PT X (.Compare a [.IsNot] [.Constant .none j pos'] pos) (rT X.K ca Γ d (.isN true ma)) :=
  tb_of (a' := ma) (r := fun x H Q => Q (.bl (!decide (x = .non))) H) (te := rE X.K ca Γ d ma) (pt_cmp (pc_notN ha)) rfl (fun _ _ _ => rfl) (fun _ _ _ => rfl) (fun _ _ _ _ _ h => isN_bl h) fun n ρ st H x xv v st' Q h S hx c => by
    have h2 := (isN_ok hx true).symm.trans h
    cases h2
    exact c.here S (.bl _)
theorem isB_bl {neg k : Bool} {x v : MV} {st st' : Store} (h : (match x with
    | .bl q => Res.ok (MV.bl (if neg then !(decide (q = k)) else decide (q = k))) st
    | _ => .stuck) = .ok v st') : ∃ q, v = .bl q := by
  split at h
  · cases h; exact ⟨_, rfl⟩
  · cases h
theorem t_isB {k : Bool} {j pos'} (ha : PE X a (rE X.K ca Γ d ma)) : PT X (.Compare a [.Is] [.Constant (.bool k) j pos'] pos) (rT X.K ca Γ d (.isB k false ma)) :=
  tb_of (a' := ma) (r := fun x H Q => ∃ a b, x = .bl a ∧ V.bl k = .bl b ∧ Q (.bl (decide (a = b))) H) (te := rE X.K ca Γ d ma) (f := fun _ x st => match x with
    | .bl q => .ok (.bl (if false then !(decide (q = k)) else decide (q = k))) st
    | _ => .stuck) (pt_cmpR op_is_bl ha pe_bl (nomark _)) rfl (fun _ _ _ => rfl) (fun _ _ _ => rfl) (fun _ _ _ _ _ h => isB_bl h) fun n ρ st H x xv v st' Q h S hx c => by
    cases hx with
    | bl q => cases h; exact ⟨q, k, rfl, rfl, c.here S (.bl _)⟩
    | _ => cases h
theorem t_notB {k : Bool} {j pos'} (ha : PE X a (rE X.K ca Γ d ma)) : PT X (.Compare a [.IsNot] [.Constant (.bool k) j pos'] pos) (rT X.K ca Γ d (.isB k true ma)) :=
  tb_of (a' := ma) (r := fun x H Q => ∃ a b, x = .bl a ∧ V.bl k = .bl b ∧ Q (.bl (!decide (a = b))) H) (te := rE X.K ca Γ d ma) (f := fun _ x st => match x with
    | .bl q => .ok (.bl (if true then !(decide (q = k)) else decide (q = k))) st
    | _ => .stuck) (pt_cmpR op_isnot_bl ha pe_bl (nomark _)) rfl (fun _ _ _ => rfl) (fun _ _ _ => rfl) (fun _ _ _ _ _ h => isB_bl h) fun n ρ st H x xv v st' Q h S hx c => by
    cases hx with
    | bl q => cases h; exact ⟨q, k, rfl, rfl, c.here S (.bl _)⟩
    | _ => cases h

/-! ### lists just made, compared -/
theorem cmpL_ok {K : PySem.W.Frag} {ρ : Nat → Addr} {st st' : Store} {H : Hp} {op : COp} {xs ys : List MV} {v : MV} {xv yv : V} (h : cmpLV op xs ys st = .ok v st') (S : Sim K ca ρ st H) (hx : RvS K ρ st.next H xs xv) (hy : RvS K ρ st.next H ys yv) :
    ∃ d e, Dp K H xv d ∧ Dp K H yv e ∧ SeqAt.shaped d = true ∧ SeqAt.shaped e = true ∧ st' = st ∧ ((op = .eq ∧ v = .bl (PyData.eqv d e)) ∨ (op = .ne ∧ v = .bl (!PyData.eqv d e))) := by
  obtain ⟨p, ps, rfl, hp, rp⟩ := hx
  obtain ⟨q, qs, rfl, hq, rq⟩ := hy
  unfold cmpLV at h
  split at h
  · rename_i d e e1 e2
    obtain ⟨d1, s1⟩ := dp_scr S e1 hp rp
    obtain ⟨d2, s2⟩ := dp_scr S e2 hq rq
    refine ⟨d, e, d1, d2, s1, s2, ?_⟩
    cases op <;> simp only at h
    · cases h; exact ⟨rfl, .inl ⟨rfl, rfl⟩⟩
    · cases h; exact ⟨rfl, .inr ⟨rfl, rfl⟩⟩
    all_goals cases h
  · cases h
theorem RvS.mono {K : PySem.W.Frag} {ρ ρ' : Nat → Addr} {st : Store} {N' : Nat} {H H' : Hp} {xs : List MV} {x : V} (S : Sim K ca ρ st H) (F : Fut ρ st.next H ρ' N' H') (h : RvS K ρ st.next H xs x) (hs : ∀ p ys, SqL K H p ys → SqL K H' p ys) : RvS K ρ' N' H' xs x :=
  let ⟨p, ys, e, hp, r⟩ := h; ⟨p, ys, e, hs p ys hp, F.rvL S r⟩
/-- the left list stands while the right one is made: it was just made -/
theorem e2L {op : CmpOp} {cop : COp} {neg : Bool} {r : R2} (h : PE X (.Compare a [op] [b] pos) (tOp r (rF X.K ca Γ d ma) (rL X.K ca Γ d mb)))
    (hop : ∀ ρ st H xs ys xv yv v st' Q, cmpLV cop xs ys st = .ok v st' → Sim X.K ca ρ st H → RvS X.K ρ st.next H xs xv → RvS X.K ρ st.next H ys yv → Cont X.K ca ρ st H v st' Q → r xv yv H Q) : PE X (.Compare a [op] [b] pos) (rE X.K ca Γ d (.cmpL cop ma mb)) :=
  PE.wk h fun σ H Q q => by
    obtain ⟨n, ρ, st, env, S, L, v, st', he, k⟩ := q
    cases n with
    | zero => cases he
    | succ n =>
      have he : ((ev Γ n d).l ma env st).bind (fun x st => ((ev Γ n d).l mb env st).bind fun y st => cmpLV cop x y st) = .ok v st' := he
      obtain ⟨xs, st1, e1, e2⟩ := Res.bind_ok he
      obtain ⟨ys, st2, e3, e4⟩ := Res.bind_ok e2
      refine ⟨n, ρ, st, env, S, L, xs, st1, e1, fun ρ1 H1 p ps F1 S1 h0 hp hx R1 => ⟨n, ρ1, st1, env, S1, F1.slots S L, ys, st2, e3, fun ρ2 H2 yv F2 S2 R2 => ?_⟩⟩
      exact hop ρ2 st2 H2 xs ys (.ref p) yv v st' Q e4 S2 ⟨p, ps, rfl, SqL.of (F2.fr p _ hp hx).1, F2.rvL S1 R1⟩ R2 (Cont.after k (F1.trans F2))
theorem s_eqL (hr : Room d X.A) (ha : PE X a (rF X.K ca Γ d ma)) (hb : PE X b (rL X.K ca Γ d mb)) : PE X (.Compare a [.Eq] [b] pos) (rE X.K ca Γ d (.cmpL .eq ma mb)) :=
  e2L (neg := false) (pe_cmpR (op_eqD (hr.units)) ha hb (nomark _)) fun ρ st H xs ys xv yv v st' Q h S hx hy c => by
    obtain ⟨d1, d2, h1, h2, s1, s2, rfl, ⟨_, rfl⟩ | ⟨z, _⟩⟩ := cmpL_ok h S hx hy
    · exact ⟨d1, d2, h1, h2, s1, s2, c.here S (.bl _)⟩
    · cases z
theorem s_neL (hr : Room d X.A) (ha : PE X a (rF X.K ca Γ d ma)) (hb : PE X b (rL X.K ca Γ d mb)) : PE X (.Compare a [.NotEq] [b] pos) (rE X.K ca Γ d (.cmpL .ne ma mb)) :=
  e2L (neg := false) (pe_cmpR (op_neD (hr.units)) ha hb (nomark _)) fun ρ st H xs ys xv yv v st' Q h S hx hy c => by
    obtain ⟨d1, d2, h1, h2, s1, s2, rfl, ⟨z, _⟩ | ⟨_, rfl⟩⟩ := cmpL_ok h S hx hy
    · cases z
    · exact ⟨d1, d2, h1, h2, s1, s2, c.here S (.bl _)⟩

/-! ### places and cuts -/
theorem ix_dict (hu : X.A.units + 1 < cLine) : IxR X (fun x y H Q => ∃ a v, x = .ref a ∧ DGet H a y (some v) ∧ Q v H) := by
  intro value slice pins s σ H x y v u Q I rx ry h hs
  obtain ⟨a, z, rfl, g, q⟩ := h
  obtain rfl : v = Value.ref a := rx
  have hT := dict_typeIs I g
  unfold subscriptTail
  refine wpAny_bind ?_
  rw [getitemInPython_of_ne hT.not_modules]
  refine wpAny_bind (wpAny_specialOf hT PySem.F.slot_dict_getitem.lookup ?_)
  have fin : wpAny (model X.prog X.w) X.A (subscripted slice false (Value.ref a) u) (fun r s₃ => wpAny (model X.prog X.w) X.A (letTemporaryGo value (Value.ref a) r >>= fun _ => pure r) (EP X pins σ Q) X.xe s₃) X.xe s := by
    rw [hs]
    exact wpAny_operating (d_getItem hu I g ry fun w' s3 I3 rw' => wpAny_bind (wpAny_letTemporaryGo (wpAny_pure ⟨z, H, I3, rw', q⟩)))
  first
    | exact wpAny_pure (wpAny_bind fin)
    | exact wpAny_bind (wpAny_pure (wpAny_bind fin))
    | exact wpAny_bind fin
theorem atI_rv {K : PySem.W.Frag} {ρ : Nat → Addr} {N : Nat} {H : Hp} {xs : List MV} {ys : List V} {k : Int} {v : MV} (r : RvL K ρ N H xs ys) (h : atI xs k = some v) : ∃ x, atI ys k = some x ∧ Rv K ρ N H v x := by
  unfold atI at h ⊢
  rw [← r.length]
  cases e : ixN xs.length k with
  | none => rw [e] at h; cases h
  | some j =>
    rw [e] at h
    have h' : xs[j]? = some v := h
    obtain ⟨y, h1, h2⟩ := r.get h'
    exact ⟨y, h1, h2⟩
theorem idx_ok {K : PySem.W.Frag} {ρ : Nat → Addr} {st st' : Store} {H : Hp} {x y v : MV} {xv yv : V} {Q : VK} (h : idxV x y st = .ok v st') (S : Sim K ca ρ st H) (hx : Rv K ρ st.next H x xv) (hy : Rv K ρ st.next H y yv) (c : Cont K ca ρ st H v st' Q) :
    rIx K xv yv H Q ∨ (∃ a v, xv = .ref a ∧ DGet H a yv (some v) ∧ Q v H) := by
  cases hx with
  | @tup p ys xs hp hr =>
    cases hy with
    | int k =>
      unfold idxV at h
      simp only at h
      split at h
      · cases h
        rename_i e
        obtain ⟨z, h1, h2⟩ := atI_rv hr e
        exact .inl (.inr (.inl ⟨p, ys, k, z, rfl, rfl, hp, h1, c.here S h2⟩))
      · cases h
    | _ => cases h
  | @scr p ys xs hp hr =>
    cases hy with
    | int k =>
      unfold idxV at h
      simp only at h
      split at h
      · cases h
        rename_i e
        obtain ⟨z, h1, h2⟩ := atI_rv hr e
        exact .inl (.inl ⟨p, ys, k, z, rfl, rfl, hp.sq, h1, c.here S h2⟩)
      · cases h
    | _ => cases h
  | str z =>
    cases hy with
    | int k =>
      unfold idxV at h
      simp only at h
      split at h
      · split at h
        · cases h
          exact .inl (.inr (.inr ⟨z, k, _, rfl, rfl, by assumption, by assumption, c.here S (.str _)⟩))
        · cases h
      · cases h
    | _ => cases h
  | @ref n hn =>
    have h' : (match st.get n with
      | some (.lst xs) => (match y with
        | .int k => match atI xs k with
          | some v => Res.ok v st
          | none => .stuck
        | _ => .stuck)
      | some (.dK kvs) => (match keyV y with
        | some q => match kvLook kvs q with
          | some v => .ok v st
          | none => .stuck
        | none => .stuck)
      | _ => .stuck) = .ok v st' := h
    cases e0 : st.get n with
    | none => rw [e0] at h'; cases h'
    | some o =>
      rw [e0] at h'
      obtain ⟨u, hu, ro⟩ := S.at hn e0
      cases ro with
      | lst hr =>
        cases hy with
        | int k =>
          simp only at h'
          split at h'
          · cases h'
            rename_i e
            obtain ⟨z, h1, h2⟩ := atI_rv hr e
            exact .inl (.inl ⟨ρ n, _, k, z, rfl, rfl, SqL.of hu, h1, c.here S h2⟩)
          · cases h'
        | _ => cases h'
      | dK hr =>
        simp only at h'
        split at h'
        · rename_i q eq
          split at h'
          · cases h'
            rename_i e
            refine .inr ⟨ρ n, ?_⟩
            rw [key_rv eq hy]
            rcases look_rv (k := q) hr with ⟨e1, e2⟩ | ⟨w, x, e1, e2, r⟩
            · rw [e1] at e; cases e
            · rw [e1] at e; cases e
              refine ⟨x, rfl, ?_, c.here S r⟩
              rw [← e2]
              exact DGet.k hu
          · cases h'
        · cases h'
      | ins _ => cases h'
  | _ => cases h
theorem s_idx (hr : Room d X.A) (ha : PE X a (rE X.K ca Γ d ma)) (hb : PE X b (rE X.K ca Γ d mb)) (hs : PlainIx b := by exact fun _ _ => rfl) : PE X (.Subscript a b pos) (rE X.K ca Γ d (.idx ma mb)) :=
  e2_wk (pe_ix (IxR.or ix_seq (ix_dict (hu_of hr))) ha hb hs) rfl rfl (fun _ _ _ => rfl) fun ρ st H x y xv yv v st' Q h S hx hy c => idx_ok h S hx hy c
def rO (K : PySem.W.Frag) (ca : Cls0) (Γ : Tab) (d : Nat) (m : Option ME) : TO := rd K ca (fun _ _ _ a b => a = b) fun n => (ev Γ n d).o m
theorem o_none : PO X none (rO X.K ca Γ d none) := ⟨fun pins s σ H Q I q => by
  obtain ⟨n, ρ, st, env, S, L, v, st', he, k⟩ := q
  cases n with
  | zero => cases he
  | succ n =>
    cases he
    exact po_none.run pins s σ H Q I (k ρ H none (Fut.refl _ _ _) S rfl)⟩
theorem o_some (ha : PE X a (rE X.K ca Γ d ma)) : PO X (some a) (rO X.K ca Γ d (some ma)) := ⟨fun pins s σ H Q I q => by
  obtain ⟨n, ρ, st, env, S, L, v, st', he, k⟩ := q
  cases n with
  | zero => cases he
  | succ n =>
    have he : ((ev Γ n d).e ma env st).bind (fun v st => match v with
      | .int i => .ok (some i) st
      | _ => .stuck) = .ok v st' := he
    obtain ⟨x, st1, e1, e2⟩ := Res.bind_ok he
    refine (po_some ha).run pins s σ H Q I ⟨n, ρ, st, env, S, L, x, st1, e1, fun ρ1 H1 xv F1 S1 R1 => ?_⟩
    cases R1 with
    | int i => cases e2; exact ⟨i, rfl, k ρ1 H1 _ F1 S1 rfl⟩
    | _ => cases e2⟩
theorem cut_rv {K : PySem.W.Frag} {ρ : Nat → Addr} {N : Nat} {H : Hp} {xs : List MV} {ys : List V} {lo hi : Option Int} (r : RvL K ρ N H xs ys) : RvL K ρ N H (cut xs lo hi) (cutV ys lo hi) := by
  unfold cut cutV
  rw [← r.length]
  exact (r.drop _).take _
theorem slc_ok {K : PySem.W.Frag} {ρ : Nat → Addr} {st st' : Store} {H : Hp} {x v : MV} {xv : V} {lo hi : Option Int} {Q : VK} (h : slcV x lo hi st = .ok v st') (S : Sim K ca ρ st H) (hx : Rv K ρ st.next H x xv) (c : Cont K ca ρ st H v st' Q) :
    rSlL K xv lo hi H Q ∨ rSlA K xv lo hi H Q := by
  cases hx with
  | @tup p ys xs hp hr =>
    cases h
    refine .inr ⟨p, ys, rfl, hp, fun ⟨e1, e2⟩ => ?_, fun _ => c.newT S (cut_rv hr)⟩
    refine c.here S ?_
    have e : cut xs lo hi = xs := by
      unfold cut
      rw [hr.length, e1, e2, List.drop_zero, Nat.sub_zero, ← hr.length, List.take_length]
    rw [e]
    exact .tup hp hr
  | @scr p ys xs hp hr =>
    obtain ⟨_, q⟩ := Cont.newL (show newL (cut xs lo hi) st = .ok v st' from h) c S (cut_rv hr)
    exact .inl ⟨p, ys, rfl, hp.sq, q⟩
  | @ref n hn =>
    have h' : (match st.get n with
      | some (.lst xs) => newL (cut xs lo hi) st
      | _ => .stuck) = .ok v st' := h
    cases e0 : st.get n with
    | none => rw [e0] at h'; cases h'
    | some o =>
      rw [e0] at h'
      obtain ⟨u, hu, ro⟩ := S.at hn e0
      cases ro with
      | lst hr =>
        obtain ⟨_, q⟩ := Cont.newL h' c S (cut_rv hr)
        exact .inl ⟨_, _, rfl, SqL.of hu, q⟩
      | dK _ => cases h'
      | ins _ => cases h'
  | _ => cases h
theorem s_slc {lo hi : Option Expr} {ml mh : Option ME} {p2 : Pos} (ha : PE X a (rE X.K ca Γ d ma)) (hl : PO X lo (rO X.K ca Γ d ml)) (hh : PO X hi (rO X.K ca Γ d mh)) : PE X (.Subscript a (.Slice lo hi none p2) pos) (rE X.K ca Γ d (.slc ma ml mh)) :=
  PE.wk (pe_slice (SlR.or sl_list sl_tupA) ha hl hh) fun σ H Q q => by
    obtain ⟨n, ρ, st, env, S, L, v, st', he, k⟩ := q
    cases n with
    | zero => cases he
    | succ n =>
      have he : ((ev Γ n d).e ma env st).bind (fun x st => ((ev Γ n d).o ml env st).bind fun l st => ((ev Γ n d).o mh env st).bind fun h st => slcV x l h st) = .ok v st' := he
      obtain ⟨x, st1, e1, e2⟩ := Res.bind_ok he
      obtain ⟨l, st2, e3, e4⟩ := Res.bind_ok e2
      obtain ⟨h, st3, e5, e6⟩ := Res.bind_ok e4
      refine ⟨n, ρ, st, env, S, L, x, st1, e1, fun ρ1 H1 xv F1 S1 R1 => ⟨n, ρ1, st1, env, S1, F1.slots S L, l, st2, e3, fun ρ2 H2 lv F2 S2 R2 => ?_⟩⟩
      refine ⟨n, ρ2, st2, env, S2, (F1.trans F2).slots S L, h, st3, e5, fun ρ3 H3 hv F3 S3 R3 => ?_⟩
      subst R2 R3
      exact slc_ok e6 S3 ((F2.trans F3).rv S1 R1) (Cont.after k ((F1.trans F2).trans F3))
end
end MP

set_option Elab.async false
set_option linter.all false
set_option maxRecDepth 100000
set_option maxHeartbeats 4000000
namespace MP
open PySem PySem.Spec PyProof.Rows L2

/-- no star -/
def ns : Expr → Bool
  | .Starred .. => false
  | _ => true
theorem star_cons {e : Expr} {es : List Expr} {env : PySem.Env} (h : ns e = true) : starEach (e :: es) env = (false, eval e env) :: starEach es env := by
  cases e <;> first
    | rfl
    | cases h
theorem star_any {es : List Expr} {env : PySem.Env} {pos : Pos} (h : es.all ns = true) : (backTo pos (starEach es env)).any (·.1) = false := by
  induction es with
  | nil => rfl
  | cons e es ih =>
    rw [List.all_cons, Bool.and_eq_true] at h
    rw [star_cons h.1]
    show (false || (backTo pos (starEach es env)).any (·.1)) = false
    rw [ih h.2]
    rfl
theorem star_all {es : List Expr} {env : PySem.Env} {pos : Pos} (h : es.all ns = true) : (backTo pos (starEach es env)).all (fun x => !x.1) = true := by
  induction es with
  | nil => rfl
  | cons e es ih =>
    rw [List.all_cons, Bool.and_eq_true] at h
    rw [star_cons h.1]
    show (true && (backTo pos (starEach es env)).all (fun x => !x.1)) = true
    rw [ih h.2]
    rfl
section
variable {X : Cx} {ca : Cls0} {Γ : Tab} {d : Nat} {a b e : Expr} {ma mb m : ME} {pos : Pos}
/-- arguments, then what their values are put to -/
theorem eA_wk {e : Expr} {m : ME} {ms : List ME} {r : List V → Hp → VK → Prop} {f : List MV → Store → Res MV} (h : PE X e (tCB r (rA X.K ca Γ d ms)))
    (hm : ∀ n env st, (ev Γ (n + 1) d).e m env st = ((ev Γ n d).a ms env st).bind fun x st => f x st)
    (op : ∀ ρ st H x xv v st' Q, f x st = .ok v st' → Sim X.K ca ρ st H → RvL X.K ρ st.next H x xv → Cont X.K ca ρ st H v st' Q → r xv H Q) : PE X e (rE X.K ca Γ d m) := by
  refine PE.wk h fun σ H Q q => ?_
  obtain ⟨n, ρ, st, env, S, L, v, st', he, k⟩ := q
  cases n with
  | zero => cases he
  | succ n =>
    have he : (ev Γ (n + 1) d).e m env st = .ok v st' := he
    rw [hm] at he
    obtain ⟨x, st1, e1, e2⟩ := Res.bind_ok he
    exact ⟨n, ρ, st, env, S, L, x, st1, e1, fun ρ1 H1 xv F1 S1 R1 => op ρ1 st1 H1 x xv v st' Q e2 S1 R1 (Cont.after k F1)⟩
/-- a list, then what it is put to -/
theorem eL_wk {e : Expr} {m ml : ME} {r : List V → Hp → VK → Prop} {f : List MV → Store → Res MV} (h : PE X e (tCB r (tCons (rL X.K ca Γ d ml) tNil)))
    (hm : ∀ n env st, (ev Γ (n + 1) d).e m env st = ((ev Γ n d).l ml env st).bind fun x st => f x st)
    (op : ∀ ρ st H x xv v st' Q, f x st = .ok v st' → Sim X.K ca ρ st H → RvS X.K ρ st.next H x xv → Cont X.K ca ρ st H v st' Q → r [xv] H Q) : PE X e (rE X.K ca Γ d m) := by
  refine PE.wk h fun σ H Q q => ?_
  obtain ⟨n, ρ, st, env, S, L, v, st', he, k⟩ := q
  cases n with
  | zero => cases he
  | succ n =>
    have he : (ev Γ (n + 1) d).e m env st = .ok v st' := he
    rw [hm] at he
    obtain ⟨x, st1, e1, e2⟩ := Res.bind_ok he
    exact ⟨n, ρ, st, env, S, L, x, st1, e1, fun ρ1 H1 xv F1 S1 R1 => op ρ1 st1 H1 x xv v st' Q e2 S1 R1 (Cont.after k F1)⟩
theorem rv1 {K : PySem.W.Frag} {ρ : Nat → Addr} {N : Nat} {H : Hp} {x : MV} {ys : List V} (r : RvL K ρ N H [x] ys) : ∃ y, ys = [y] ∧ Rv K ρ N H x y := by
  cases r with
  | cons h t => cases t; exact ⟨_, rfl, h⟩
theorem rv2 {K : PySem.W.Frag} {ρ : Nat → Addr} {N : Nat} {H : Hp} {x x' : MV} {ys : List V} (r : RvL K ρ N H [x, x'] ys) : ∃ y y', ys = [y, y'] ∧ Rv K ρ N H x y ∧ Rv K ρ N H x' y' := by
  cases r with
  | cons h t => cases t with
    | cons h' t' => cases t'; exact ⟨_, _, rfl, h, h'⟩
/-! ### built-in functions -/
def rLen (K : PySem.W.Frag) : List V → Hp → VK → Prop := fun xs H Q => (∃ x n, xs = [x] ∧ LenV K x H n ∧ Q (.int n) H) ∨ ∃ a kvs, xs = [V.ref a] ∧ H a = some (.dK kvs) ∧ Q (.int kvs.length) H
theorem s_len {p : Pos} (hg : Gl X "len") (hm : X.mg "len" = none) (ha : PA X [a] (rA X.K ca Γ d [ma])) (na : ns a = true := by rfl) : PE X (.Call (.Name "len" p) [a] [] pos) (rE X.K ca Γ d (.bi .len [ma])) :=
  eA_wk (r := rLen X.K) (pe_callB (CallR.or call_len call_lenD) hg hm boot_len ha (by decide) (by decide) (star_cons na) rfl) (fun _ _ _ => rfl) fun ρ st H x xv v st' Q h S hx c => by
    cases hx with
    | nil => cases h
    | cons h1 t =>
      cases t with
      | cons _ _ => cases h1 <;> cases h
      | nil =>
        cases h1 with
        | str z =>
          unfold biV at h
          simp only at h
          split at h
          · cases h; exact .inl ⟨_, _, rfl, ⟨by assumption, rfl⟩, c.here S (.int _)⟩
          · cases h
        | tup hp hr => cases h; exact .inl ⟨_, _, rfl, .inr ⟨_, hp, rfl⟩, by rw [← hr.length]; exact c.here S (.int _)⟩
        | scr hp hr => cases h; exact .inl ⟨_, _, rfl, .inl ⟨_, hp.sq, rfl⟩, by rw [← hr.length]; exact c.here S (.int _)⟩
        | @ref n hn =>
          have h' : (match st.get n with
            | some (.lst xs) => Res.ok (MV.int xs.length) st
            | some (.dK kvs) => .ok (MV.int kvs.length) st
            | _ => .stuck) = .ok v st' := h
          cases e0 : st.get n with
          | none => rw [e0] at h'; cases h'
          | some o =>
            rw [e0] at h'
            obtain ⟨u, hu, ro⟩ := S.at hn e0
            cases ro with
            | lst hr => cases h'; exact .inl ⟨_, _, rfl, .inl ⟨_, SqL.of hu, rfl⟩, by rw [← hr.length]; exact c.here S (.int _)⟩
            | dK hr => cases h'; exact .inr ⟨_, _, rfl, hu, by rw [← hr.length]; exact c.here S (.int _)⟩
            | ins _ => cases h'
        | _ => cases h
theorem s_abs {p : Pos} (hg : Gl X "abs") (hm : X.mg "abs" = none) (ha : PA X [a] (rA X.K ca Γ d [ma])) (na : ns a = true := by rfl) : PE X (.Call (.Name "abs" p) [a] [] pos) (rE X.K ca Γ d (.bi .abs [ma])) :=
  eA_wk (pe_callB call_abs hg hm (by decide +kernel) ha (by decide) (by decide) (star_cons na) rfl) (fun _ _ _ => rfl) fun ρ st H x xv v st' Q h S hx c => by
    cases hx with
    | nil => cases h
    | cons h1 t =>
      cases t with
      | cons _ _ => cases h1 <;> cases h
      | nil =>
        cases h1 with
        | int i => cases h; exact ⟨i, rfl, c.here S (.int _)⟩
        | _ => cases h
theorem s_int1 {p : Pos} (hg : Gl X "int") (hm : X.mg "int" = none) (ha : PA X [a] (rA X.K ca Γ d [ma])) (na : ns a = true := by rfl) : PE X (.Call (.Name "int" p) [a] [] pos) (rE X.K ca Γ d (.bi .int [ma])) :=
  eA_wk (pe_callTy call_int1 hg hm boot_int ha (by decide) (by decide) (star_cons na) rfl) (fun _ _ _ => rfl) fun ρ st H x xv v st' Q h S hx c => by
    cases hx with
    | nil => cases h
    | cons h1 t =>
      cases t with
      | cons _ _ => cases h1 <;> cases h
      | nil =>
        cases h1 with
        | int i => cases h; exact .inl ⟨i, rfl, c.here S (.int _)⟩
        | bl k => cases h; exact .inr ⟨k, rfl, c.here S (.int _)⟩
        | _ => cases h
theorem s_str1 {p : Pos} (hg : Gl X "str") (hm : X.mg "str" = none) (ha : PA X [a] (rA X.K ca Γ d [ma])) (na : ns a = true := by rfl) : PE X (.Call (.Name "str" p) [a] [] pos) (rE X.K ca Γ d (.bi .str [ma])) :=
  eA_wk (pe_callTy call_str_int hg hm (by decide +kernel) ha (by decide) (by decide) (star_cons na) rfl) (fun _ _ _ => rfl) fun ρ st H x xv v st' Q h S hx c => by
    cases hx with
    | nil => cases h
    | cons h1 t =>
      cases t with
      | cons _ _ => cases h1 <;> cases h
      | nil =>
        cases h1 with
        | int i =>
          unfold biV at h
          simp only at h
          split at h
          · cases h; exact ⟨i, rfl, by assumption, c.here S (.str _)⟩
          · cases h
        | _ => cases h
theorem s_max2 {p : Pos} (hc : X.calm = true) (hg : Gl X "max") (hm : X.mg "max" = none) (ha : PA X [a, b] (rA X.K ca Γ d [ma, mb])) (na : ns a = true := by rfl) (nb : ns b = true := by rfl) : PE X (.Call (.Name "max" p) [a, b] [] pos) (rE X.K ca Γ d (.bi .max2 [ma, mb])) :=
  eA_wk (pe_callB (call_max2 hc) hg hm (by decide +kernel) ha (by decide) (by decide) (star_cons na) (star_any (by rw [List.all_cons, nb]; rfl))) (fun _ _ _ => rfl) fun ρ st H x xv v st' Q h S hx c => by
    cases hx with
    | nil => cases h
    | cons h1 t =>
      cases t with
      | nil => cases h1 <;> cases h
      | cons h2 t =>
        cases t with
        | cons _ _ => cases h1 <;> cases h2 <;> cases h
        | nil =>
          cases h1 with
          | int i =>
            cases h2 with
            | int j => cases h; exact ⟨i, j, rfl, c.here S (.int _)⟩
            | _ => cases h
          | _ => cases h2 <;> cases h
/-- list(x) of a list or tuple -/
theorem seqV_rv {K : PySem.W.Frag} {ρ : Nat → Addr} {st : Store} {H : Hp} {v : MV} {x : V} {xs : List MV} (S : Sim K ca ρ st H) (r : Rv K ρ st.next H v x) (h : seqV st v = some xs) : ∃ p ys, x = .ref p ∧ (SqL K H p ys ∨ SqT K H p ys) ∧ RvL K ρ st.next H xs ys := by
  cases r with
  | tup hp hr => cases h; exact ⟨_, _, rfl, .inr hp, hr⟩
  | scr hp hr => cases h; exact ⟨_, _, rfl, .inl hp.sq, hr⟩
  | @ref n hn =>
    have h' : (match st.get n with
      | some (.lst xs) => some xs
      | _ => none) = some xs := h
    cases e0 : st.get n with
    | none => rw [e0] at h'; cases h'
    | some o =>
      rw [e0] at h'
      obtain ⟨u, hu, ro⟩ := S.at hn e0
      cases ro with
      | lst hr => cases h'; exact ⟨_, _, rfl, .inl (SqL.of hu), hr⟩
      | dK _ => cases h'
      | ins _ => cases h'
  | _ => cases h
theorem lstV_rv {K : PySem.W.Frag} {ρ : Nat → Addr} {st : Store} {H : Hp} {v : MV} {x : V} {xs : List MV} (S : Sim K ca ρ st H) (r : Rv K ρ st.next H v x) (h : lstV st v = some xs) : RvS K ρ st.next H xs x := by
  cases r with
  | scr hp hr => cases h; exact ⟨_, _, rfl, hp.sq, hr⟩
  | @ref n hn =>
    have h' : (match st.get n with
      | some (.lst xs) => some xs
      | _ => none) = some xs := h
    cases e0 : st.get n with
    | none => rw [e0] at h'; cases h'
    | some o =>
      rw [e0] at h'
      obtain ⟨u, hu, ro⟩ := S.at hn e0
      cases ro with
      | lst hr => cases h'; exact ⟨_, _, rfl, SqL.of hu, hr⟩
      | dK _ => cases h'
      | ins _ => cases h'
  | _ => cases h
theorem s_list1 {p : Pos} (hg : Gl X "list") (hm : X.mg "list" = none) (ha : PA X [a] (rA X.K ca Γ d [ma])) (na : ns a = true := by rfl) : PE X (.Call (.Name "list" p) [a] [] pos) (rE X.K ca Γ d (.bi .list [ma])) :=
  eA_wk (pe_callTy call_list_of hg hm (by decide +kernel) ha (by decide) (by decide) (star_cons na) rfl) (fun _ _ _ => rfl) fun ρ st H x xv v st' Q h S hx c => by
    cases hx with
    | nil => cases h
    | @cons x y xs ys h1 t =>
      cases t with
      | cons _ _ => cases h
      | nil =>
        have h' : (match seqV st x with
          | some xs => newL xs st
          | none => .stuck) = .ok v st' := h
        cases e0 : seqV st x with
        | none => rw [e0] at h'; cases h'
        | some xs =>
          rw [e0] at h'
          obtain ⟨p, ys, rfl, hp, hr⟩ := seqV_rv S h1 e0
          obtain ⟨_, q⟩ := Cont.newL h' c S hr
          exact ⟨p, ys, rfl, hp, q⟩
theorem s_tuple1 {p : Pos} (hg : Gl X "tuple") (hm : X.mg "tuple" = none) (ha : PA X [a] (rA X.K ca Γ d [ma])) (na : ns a = true := by rfl) : PE X (.Call (.Name "tuple" p) [a] [] pos) (rE X.K ca Γ d (.bi .tuple [ma])) :=
  eA_wk (pe_callTy call_tuple_of hg hm (by decide +kernel) ha (by decide) (by decide) (star_cons na) rfl) (fun _ _ _ => rfl) fun ρ st H x xv v st' Q h S hx c => by
    cases hx with
    | nil => cases h
    | @cons x y xs ys h1 t =>
      cases t with
      | cons _ _ => cases h1 <;> cases h
      | nil =>
        have fin : (match lstV st x with
          | some xs => newT xs st
          | none => .stuck) = .ok v st' → ∃ p ys, [y] = [V.ref p] ∧ ((SqL X.K H p ys ∧ ∀ l, H l = none → Q (.ref l) (upd H l (.tup ys))) ∨ (SqT X.K H p ys ∧ Q (.ref p) H)) := fun h' => by
          cases e0 : lstV st x with
          | none => rw [e0] at h'; cases h'
          | some xs =>
            rw [e0] at h'
            obtain ⟨p, ys, rfl, hp, hr⟩ := lstV_rv S h1 e0
            unfold newT at h'
            simp only at h'
            split at h'
            · cases h'
              exact ⟨p, ys, rfl, .inl ⟨hp, c.newT S hr⟩⟩
            · cases h'
        cases h1 with
        | tup hp hr => cases h; exact ⟨_, _, rfl, .inr ⟨hp, c.here S (.tup hp hr)⟩⟩
        | _ => exact fin h
theorem bls_rv {K : PySem.W.Frag} {ρ : Nat → Addr} {N : Nat} {H : Hp} : ∀ {xs : List MV} {ys : List V} {bs : List Bool}, blsV xs = some bs → RvL K ρ N H xs ys → ys = bs.map V.bl := by
  intro xs
  induction xs with
  | nil =>
    intro ys bs h r
    cases r
    cases h
    rfl
  | cons x xs ih =>
    intro ys bs h r
    cases r with
    | cons r t =>
      cases r with
      | bl k =>
        have h' : (match blsV xs with
          | some t => some (k :: t)
          | none => none) = some bs := h
        cases e : blsV xs with
        | none => rw [e] at h'; cases h'
        | some u =>
          rw [e] at h'
          cases h'
          rw [ih e t]
          rfl
      | _ => cases h
theorem strs_rv {K : PySem.W.Frag} {ρ : Nat → Addr} {N : Nat} {H : Hp} : ∀ {xs : List MV} {ys : List V} {bs : List Str}, strsV xs = some bs → RvL K ρ N H xs ys → ys = bs.map V.str := by
  intro xs
  induction xs with
  | nil =>
    intro ys bs h r
    cases r
    cases h
    rfl
  | cons x xs ih =>
    intro ys bs h r
    cases r with
    | cons r t =>
      cases r with
      | str k =>
        have h' : (match strsV xs with
          | some t => some (k :: t)
          | none => none) = some bs := h
        cases e : strsV xs with
        | none => rw [e] at h'; cases h'
        | some u =>
          rw [e] at h'
          cases h'
          rw [ih e t]
          rfl
      | _ => cases h
theorem s_all {p : Pos} (hc : X.calm = true) (hg : Gl X "all") (hm : X.mg "all" = none) (ha : PE X a (rL X.K ca Γ d ma)) (na : ns a = true := by rfl) : PE X (.Call (.Name "all" p) [a] [] pos) (rE X.K ca Γ d (.all ma)) :=
  eL_wk (pe_callB (cr_all hc) hg hm (by decide +kernel) (pa_cons ha pa_nil (star_cons na)) (by decide) (by decide) (star_cons na) rfl) (fun _ _ _ => rfl) fun ρ st H x xv v st' Q h S hx c => by
    obtain ⟨p, ys, rfl, hp, hr⟩ := hx
    split at h
    · cases h
      rename_i bs e
      exact ⟨p, bs, rfl, by rw [← bls_rv e hr]; exact hp, c.here S (.bl _)⟩
    · cases h
theorem s_any {p : Pos} (hc : X.calm = true) (hg : Gl X "any") (hm : X.mg "any" = none) (ha : PE X a (rL X.K ca Γ d ma)) (na : ns a = true := by rfl) : PE X (.Call (.Name "any" p) [a] [] pos) (rE X.K ca Γ d (.any ma)) :=
  eL_wk (pe_callB (cr_any hc) hg hm (by decide +kernel) (pa_cons ha pa_nil (star_cons na)) (by decide) (by decide) (star_cons na) rfl) (fun _ _ _ => rfl) fun ρ st H x xv v st' Q h S hx c => by
    obtain ⟨p, ys, rfl, hp, hr⟩ := hx
    split at h
    · cases h
      rename_i bs e
      exact ⟨p, bs, rfl, by rw [← bls_rv e hr]; exact hp, c.here S (.bl _)⟩
    · cases h
theorem s_tupL {p : Pos} (hg : Gl X "tuple") (hm : X.mg "tuple" = none) (ha : PE X a (rL X.K ca Γ d ma)) (na : ns a = true := by rfl) : PE X (.Call (.Name "tuple" p) [a] [] pos) (rE X.K ca Γ d (.tupL ma)) :=
  eL_wk (pe_callTy call_tuple_of hg hm (by decide +kernel) (pa_cons ha pa_nil (star_cons na)) (by decide) (by decide) (star_cons na) rfl) (fun _ _ _ => rfl) fun ρ st H x xv v st' Q h S hx c => by
    obtain ⟨p, ys, rfl, hp, hr⟩ := hx
    unfold newT at h
    split at h
    · cases h
      exact ⟨p, ys, rfl, .inl ⟨hp, c.newT S hr⟩⟩
    · cases h
theorem s_join {apos : Pos} {o : Expr} {mo : ME} (ho : PE X o (rE X.K ca Γ d mo)) (ha : PE X a (rL X.K ca Γ d ma)) (na : ns a = true := by rfl)
    (hbase : attributeBase o "join" X.env (eval o X.env) = eval o X.env := by rfl) (hline : (apos.endLine == pos.line) = true := by rfl) : PE X (.Call (.Attribute o "join" apos) [a] [] pos) (rE X.K ca Γ d (.join mo ma)) :=
  PE.wk (pe_join ho ha (star_cons na) hbase hline) fun σ H Q q => by
    obtain ⟨n, ρ, st, env, S, L, v, st', he, k⟩ := q
    cases n with
    | zero => cases he
    | succ n =>
      have he : ((ev Γ n d).e mo env st).bind (fun x st => ((ev Γ n d).l ma env st).bind fun vs st => match x, strsV vs with
        | .str a, some ys => if (ys.map (·.length)).sum + ys.length * a.length ≤ 16777216 then .ok (.str (Txt.join a ys)) st else .stuck
        | _, _ => .stuck) = .ok v st' := he
      obtain ⟨x, st1, e1, e2⟩ := Res.bind_ok he
      obtain ⟨xs, st2, e3, e4⟩ := Res.bind_ok e2
      split at e4
      · rename_i a' ys e5
        split at e4
        · cases e4
          refine ⟨n, ρ, st, env, S, L, _, st1, e1, fun ρ1 H1 xv F1 S1 R1 => ?_⟩
          cases R1 with
          | str _ =>
            refine ⟨⟨_, rfl⟩, n, ρ1, st1, env, S1, F1.slots S L, xs, _, e3, fun ρ2 H2 yv F2 S2 R2 => ?_⟩
            obtain ⟨p, zs, rfl, hp, hr⟩ := R2
            refine ⟨_, p, ys, rfl, rfl, .inl ?_, by assumption, k ρ2 H2 _ (F1.trans F2) S2 (.str _)⟩
            rw [← strs_rv e5 hr]
            exact hp
        · cases e4
      · cases e4
/-! ### isinstance -/
def tyS : TN → String
  | .str => "str"
  | .int => "int"
  | .bool => "bool"
  | .tuple => "tuple"
  | .list => "list"
  | .dict => "dict"
  | .cls _ => "object"
def tab0 : List (String × TN × Bool) :=
  [("NoneType", .str, false), ("NoneType", .int, false), ("NoneType", .bool, false), ("NoneType", .tuple, false), ("NoneType", .list, false), ("NoneType", .dict, false),
   ("bool", .str, false), ("bool", .int, true), ("bool", .bool, true), ("bool", .tuple, false), ("bool", .list, false), ("bool", .dict, false),
   ("int", .str, false), ("int", .int, true), ("int", .bool, false), ("int", .tuple, false), ("int", .list, false), ("int", .dict, false),
   ("str", .str, true), ("str", .int, false), ("str", .bool, false), ("str", .tuple, false), ("str", .list, false), ("str", .dict, false),
   ("tuple", .str, false), ("tuple", .int, false), ("tuple", .bool, false), ("tuple", .tuple, true), ("tuple", .list, false), ("tuple", .dict, false),
   ("list", .str, false), ("list", .int, false), ("list", .bool, false), ("list", .tuple, false), ("list", .list, true), ("list", .dict, false),
   ("dict", .str, false), ("dict", .int, false), ("dict", .bool, false), ("dict", .tuple, false), ("dict", .list, false), ("dict", .dict, true)]
theorem tab0_ok : ∀ x ∈ tab0, kitB x.1 (tyS x.2.1) = some x.2.2 := by
  have h : (tab0.all fun x => decide (kitB x.1 (tyS x.2.1) = some x.2.2)) = true := by decide +kernel
  intro x hx
  exact of_decide_eq_true (List.all_eq_true.mp h x hx)
theorem tyX_tup {K : PySem.W.Frag} {H : Hp} {p : Addr} {ys : List V} (h : SqT K H p ys) : TyX K H (.ref p) (.type "tuple") := by
  rcases h with (h | ⟨o, h⟩) | ⟨o, its, n, h, hc, _⟩
  · exact .base (.tup h)
  · exact .fTuple h
  · exact .kTuple h hc
theorem tyX_lst {K : PySem.W.Frag} {H : Hp} {p : Addr} {ys : List V} (h : SqL K H p ys) : TyX K H (.ref p) (.type "list") := by
  rcases h with (h | ⟨o, h⟩) | ⟨o, its, n, h, hc, _⟩
  · exact .base (.lst h)
  · exact .base (.frz h)
  · exact .kList h hc
theorem isT_ok {K : PySem.W.Frag} {ρ : Nat → Addr} {st : Store} {H : Hp} {v : MV} {x : V} (S : Sim K ca ρ st H) (r : Rv K ρ st.next H v x) : ∀ (c : TN) (k : Bool), isT st v c = some k → ∃ t, TyX K H x (.type t) ∧ ∀ (c : TN) (k : Bool), isT st v c = some k → PySem.W.kitOne K (.type t) (.type (tyS c)) = some k := by
  intro c0 k0 h0
  have go : ∀ t, TyX K H x (.type t) → (∀ (c : TN) (k : Bool), isT st v c = some k → (t, c, k) ∈ tab0) → ∃ t, TyX K H x (.type t) ∧ ∀ (c : TN) (k : Bool), isT st v c = some k → PySem.W.kitOne K (.type t) (.type (tyS c)) = some k :=
    fun t ht hh => ⟨t, ht, fun c k h => kit_ty (tab0_ok _ (hh c k h))⟩
  cases r with
  | non => exact go "NoneType" (.base .non) fun c k h => by cases c <;> cases h <;> decide
  | bl b => exact go "bool" (.base (.bl _)) fun c k h => by cases c <;> cases h <;> decide
  | int i => exact go "int" (.base (.int _)) fun c k h => by cases c <;> cases h <;> decide
  | str z => exact go "str" (.base (.str _)) fun c k h => by cases c <;> cases h <;> decide
  | tup hp hr => exact go "tuple" (tyX_tup hp) fun c k h => by cases c <;> cases h <;> decide
  | scr hp hr => exact go "list" (tyX_lst hp.sq) fun c k h => by cases c <;> cases h <;> decide
  | @ref n hn =>
    cases e0 : st.get n with
    | none =>
      simp only [isT, e0] at h0
      cases h0
    | some o =>
      obtain ⟨u, hu, ro⟩ := S.at hn e0
      cases ro with
      | lst hr => exact go "list" (.base (.lst hu)) fun c k h => by simp only [isT, e0] at h; cases c <;> cases h <;> decide
      | dK hr => exact go "dict" (.base (.dK hu)) fun c k h => by simp only [isT, e0] at h; cases c <;> cases h <;> decide
      | ins _ =>
        simp only [isT, e0] at h0
        cases h0
/-- a built-in class's name -/
structure TyNm (X : Cx) (c : Expr) (t : TN) : Prop where
  pe : PE X c (tC (.ty (tyS t)))
theorem tyNm {x : Str} {t : TN} {p : Pos} (hg : Gl X x) (hm : X.mg x = none) (hv : bootBuiltins x = some (.type (tyS t))) (hn : x ≠ "__name__" := by decide) (hd : (x == ("__debug__" : Str)) = false := by decide) : TyNm X (.Name x p) t :=
  ⟨pe_bltn hg hm hv rfl hn hd⟩
theorem s_isi {p : Pos} {c : Expr} {t : TN} (hg : Gl X "isinstance") (hm : X.mg "isinstance" = none) (ha : PE X a (rE X.K ca Γ d ma)) (hc : TyNm X c t) (na : ns a = true := by rfl) (nc : ns c = true := by rfl) : PE X (.Call (.Name "isinstance" p) [a, c] [] pos) (rE X.K ca Γ d (.bi (.isi [t]) [ma])) := by
  refine PE.wk (pe_callB call_isi hg hm (by decide +kernel) (pa_cons ha (pa_cons hc.pe pa_nil (star_cons nc)) (star_cons na)) (by decide) (by decide) (star_cons na) (star_any (by rw [List.all_cons, nc]; rfl))) fun σ H Q q => ?_
  obtain ⟨n, ρ, st, env, S, L, v, st', he, k⟩ := q
  cases n with
  | zero => cases he
  | succ n =>
    have he : ((ev Γ n d).a [ma] env st).bind (fun vs st => biV (.isi [t]) vs st) = .ok v st' := he
    obtain ⟨xs, st1, e1, e2⟩ := Res.bind_ok he
    cases n with
    | zero => cases e1
    | succ n =>
      have e1 : ((ev Γ n d).e ma env st).bind (fun v st => ((ev Γ n d).a [] env st).bind fun vs st => .ok (v :: vs) st) = .ok xs st1 := e1
      obtain ⟨x, st2, e3, e4⟩ := Res.bind_ok e1
      cases n with
      | zero => cases e3
      | succ n =>
        cases e4
        refine ⟨n + 1, ρ, st, env, S, L, x, st1, e3, fun ρ1 H1 xv F1 S1 R1 => ?_⟩
        have e5 : (match isTs st1 x [t] with
          | some k => Res.ok (MV.bl k) st1
          | none => .stuck) = .ok v st' := e2
        cases e6 : isT st1 x t with
        | none =>
          have : isTs st1 x [t] = none := by unfold isTs; rw [e6]
          rw [this] at e5; cases e5
        | some q =>
          have e7 : isTs st1 x [t] = some q := by unfold isTs; rw [e6]; cases q <;> rfl
          rw [e7] at e5
          cases e5
          obtain ⟨ty, h1, h2⟩ := isT_ok S1 R1 t q e6
          exact ⟨xv, .ty (tyS t), .type ty, .type (tyS t), q, rfl, .ty _, h1, h2 t q e6, k ρ1 H1 _ F1 S1 (.bl _)⟩
/-! ### methods of lists -/
theorem isLst_rv {K : PySem.W.Frag} {ρ : Nat → Addr} {st : Store} {H : Hp} {v : MV} {x : V} (S : Sim K ca ρ st H) (r : Rv K ρ st.next H v x) (h : isLst st v = true) : ∃ n xs ys, v = .ref n ∧ n < st.next ∧ st.get n = some (.lst xs) ∧ x = .ref (ρ n) ∧ H (ρ n) = some (.lst ys) ∧ RvL K ρ st.next H xs ys := by
  cases r with
  | @ref n hn =>
    have h' : (match st.get n with
      | some (.lst _) => true
      | _ => false) = true := h
    cases e0 : st.get n with
    | none => rw [e0] at h'; cases h'
    | some o =>
      rw [e0] at h'
      obtain ⟨u, hu, ro⟩ := S.at hn e0
      cases ro with
      | lst hr => exact ⟨n, _, _, rfl, hn, e0, rfl, hu, hr⟩
      | dK _ => cases h'
      | ins _ => cases h'
  | _ => cases h
theorem s_pop {apos : Pos} {o : Expr} {mo : ME} (ho : PE X o (rE X.K ca Γ d mo)) (hbase : attributeBase o "pop" X.env (eval o X.env) = eval o X.env := by rfl) (hline : (apos.endLine == pos.line) = true := by rfl) :
    PE X (.Call (.Attribute o "pop" apos) [] [] pos) (rE X.K ca Γ d (.meth .pop mo [])) :=
  PE.wk (pe_bm0 PySem.F.plainAttrs_list PySem.F.slot_list_pop PySem.F.type_list_pop mt_pop ho hbase hline) fun σ H Q q => by
    obtain ⟨n, ρ, st, env, S, L, v, st', he, k⟩ := q
    cases n with
    | zero => cases he
    | succ n =>
      have he : ((ev Γ n d).e mo env st).bind (fun x st => if isLst st x = true then ((ev Γ n d).a [] env st).bind fun vs st => methV .pop x vs st else .stuck) = .ok v st' := he
      obtain ⟨x, st1, e1, e2⟩ := Res.bind_ok he
      refine ⟨n, ρ, st, env, S, L, x, st1, e1, fun ρ1 H1 xv F1 S1 R1 => ?_⟩
      split at e2
      · rename_i hl
        obtain ⟨a, xs, ys, rfl, hn, e0, rfl, hu, hr⟩ := isLst_rv S1 R1 hl
        cases n with
        | zero => cases e1
        | succ n =>
          have e3 : (match st1.get a with
            | some (.lst xs) => match xs[xs.length - 1]? with
              | some v => Res.ok v (st1.set a (.lst xs.dropLast))
              | none => .stuck
            | _ => .stuck) = .ok v st' := e2
          rw [e0] at e3
          simp only at e3
          split at e3
          · rename_i w ew
            cases e3
            obtain ⟨z, hz, rz⟩ := hr.get ew
            refine ⟨.inl ⟨rfl, ys, SqL.of hu⟩, ρ1 a, ys, z, rfl, rfl, hu, by rw [← hr.length]; exact hz, ?_⟩
            exact k ρ1 _ z (F1.trans (Fut.write S1 hn)) (Sim.write S1 hn (.lst hr.dropLast)) ((Fut.write S1 hn).rv S1 rz)
          · cases e3
      · cases e2
theorem s_append {apos : Pos} {o : Expr} {mo : ME} (ho : PE X o (rE X.K ca Γ d mo)) (ha : PA X [a] (rA X.K ca Γ d [ma])) (hbase : attributeBase o "append" X.env (eval o X.env) = eval o X.env := by rfl) (na : ns a = true := by rfl) (hline : (apos.endLine == pos.line) = true := by rfl) :
    PE X (.Call (.Attribute o "append" apos) [a] [] pos) (rE X.K ca Γ d (.meth .append mo [ma])) :=
  PE.wk (pe_bm PySem.F.plainAttrs_list PySem.F.slot_list_append PySem.F.type_list_append mt_append ho ha hbase (by rw [star_all (by rw [List.all_cons, na]; rfl)]; rfl) hline (star_cons na) rfl) fun σ H Q q => by
    obtain ⟨n, ρ, st, env, S, L, v, st', he, k⟩ := q
    cases n with
    | zero => cases he
    | succ n =>
      have he : ((ev Γ n d).e mo env st).bind (fun x st => if isLst st x = true then ((ev Γ n d).a [ma] env st).bind fun vs st => methV .append x vs st else .stuck) = .ok v st' := he
      obtain ⟨x, st1, e1, e2⟩ := Res.bind_ok he
      refine ⟨n, ρ, st, env, S, L, x, st1, e1, fun ρ1 H1 xv F1 S1 R1 => ?_⟩
      split at e2
      · rename_i hl
        obtain ⟨a', xs, ys, rfl, hn, e0, rfl, hu, hr⟩ := isLst_rv S1 R1 hl
        obtain ⟨vs, st2, e3, e4⟩ := Res.bind_ok e2
        refine ⟨.inl ⟨rfl, ys, SqL.of hu⟩, n, ρ1, st1, env, S1, F1.slots S L, vs, st2, e3, fun ρ2 H2 zs F2 S2 R2 => ?_⟩
        cases R2 with
        | nil => cases e4
        | @cons w z ws zs r t =>
          cases t with
          | cons _ _ => cases e4
          | nil =>
            have e5 : (match st2.get a' with
              | some (.lst xs) => if xs.length < sizeLine then Res.ok MV.non (st2.set a' (.lst (xs ++ [w]))) else .stuck
              | _ => .stuck) = .ok v st' := e4
            have hn2 : a' < st2.next := Nat.lt_of_lt_of_le hn F2.le
            cases e6 : st2.get a' with
            | none => rw [e6] at e5; cases e5
            | some o2 =>
              rw [e6] at e5
              obtain ⟨u2, hu2, ro2⟩ := S2.at hn2 e6
              cases ro2 with
              | @lst xs2 ys2 hr2 =>
                simp only at e5
                split at e5
                · cases e5
                  refine ⟨ρ2 a', ys2, z, by rw [F2.agr _ hn], rfl, hu2, by rw [← hr2.length]; assumption, ?_⟩
                  exact k ρ2 _ .non ((F1.trans F2).trans (Fut.write S2 hn2)) (Sim.write S2 hn2 (.lst (hr2.append (.cons r .nil)))) .non
                · cases e5
              | dK _ => cases e5
              | ins _ => cases e5
      · cases e2
end
end MP

set_option Elab.async false
set_option linter.all false
set_option maxRecDepth 100000
set_option maxHeartbeats 4000000
namespace MP
open PySem PySem.Spec PyProof.Rows L2

/-! ### what is walked -/
/-- J goes as the turns wf tell, from now on -/
def IterP (K : PySem.W.Frag) (ca : Cls0) (J : It) (wf : Nat → Itv) (ρ : Nat → Addr) (st : Store) (H : Hp) : Prop :=
  ∀ i ρ' st' H', Fut ρ st.next H ρ' st'.next H' → Sim K ca ρ' st' H' → match (wf i).next st' with
    | none => True
    | some none => J.stop i H'
    | some (some (v, w')) => w' = wf (i + 1) ∧ J.go i H' ∧ ∀ x H'', J.yld i H' x H'' → Fut ρ' st'.next H' ρ' st'.next H'' ∧ Sim K ca ρ' st' H'' ∧ Rv K ρ' st'.next H'' v x
def rI (K : PySem.W.Frag) (ca : Cls0) (Γ : Tab) (d : Nat) (m : MI) : TI := fun σ H R =>
  ∃ (n : Nat) (ρ : Nat → Addr) (st : Store) (env : Env), Sim K ca ρ st H ∧ SlotsR K ρ st.next H env σ ∧ ∃ w st', (ev Γ n d).i m env st = .ok w st' ∧
    ∀ ρ' H' J wf, Fut ρ st.next H ρ' st'.next H' → Sim K ca ρ' st' H' → wf 0 = w → IterP K ca J wf ρ' st' H' → R J H'
theorem PI.wk {X : Cx} {tg iter : Expr} {w w' : TI} (h : PI X tg iter w) (k : ∀ σ H R, w' σ H R → w σ H R) : PI X tg iter w' := ⟨fun pins s σ H R I q => h.run pins s σ H R I (k σ H R q)⟩
theorem PI.or {X : Cx} {tg iter : Expr} {w w' : TI} (h : PI X tg iter w) (h' : PI X tg iter w') : PI X tg iter (fun σ H R => w σ H R ∨ w' σ H R) := ⟨fun pins s σ H R I q => q.elim (h.run pins s σ H R I) (h'.run pins s σ H R I)⟩
section
variable {K : PySem.W.Frag} {ca : Cls0} {ρ : Nat → Addr} {st : Store} {H : Hp}
theorem snap_next (xs : List MV) (i : Nat) (st : Store) : (Itv.snap (xs.drop i)).next st = match xs[i]? with
    | some x => some (some (x, .snap (xs.drop (i + 1))))
    | none => some none := by
  by_cases h : i < xs.length
  · rw [List.getElem?_eq_getElem h, List.drop_eq_getElem_cons h]
    rfl
  · rw [List.getElem?_eq_none (by omega), List.drop_of_length_le (by omega)]
    rfl
/-- a snapshot of what stands at p and stays -/
theorem iter_snap {J : It} {xs : List MV} (f : ∀ i ρ' st' H', Fut ρ st.next H ρ' st'.next H' → Sim K ca ρ' st' H' →
    (∀ x, xs[i]? = some x → J.go i H' ∧ ∀ y H'', J.yld i H' y H'' → H'' = H' ∧ Rv K ρ' st'.next H' x y) ∧ (xs[i]? = none → J.stop i H')) : IterP K ca J (fun i => .snap (xs.drop i)) ρ st H := by
  intro i ρ' st' H' F S
  rw [snap_next]
  obtain ⟨f1, f2⟩ := f i ρ' st' H' F S
  cases e : xs[i]? with
  | none => exact f2 e
  | some x =>
    refine ⟨rfl, (f1 x e).1, fun y H'' hy => ?_⟩
    obtain ⟨e2, r⟩ := (f1 x e).2 y H'' hy
    subst e2
    exact ⟨Fut.refl _ _ _, S, r⟩
end

section
variable {X : Cx} {ca : Cls0} {Γ : Tab} {d : Nat} {a b e tg : Expr} {ma mb m : ME} {pos : Pos}
/-- over a tuple, a list, a text -/
theorem i_seq (ha : PE X a (rE X.K ca Γ d ma)) : PI X tg a (rI X.K ca Γ d (.seq ma)) := by
  refine PI.wk (PI.or (PI.or (pi_list ha) (pi_tup ha)) (pi_str ha)) fun σ H R q => ?_
  obtain ⟨n, ρ, st, env, S, L, w, st', he, k⟩ := q
  cases n with
  | zero => cases he
  | succ n =>
    have he : ((ev Γ n d).e ma env st).bind (fun v st => match v with
      | .tup xs => .ok (.snap xs) st
      | .scr xs => .ok (.snap xs) st
      | .str z => .ok (.snap (signs z)) st
      | .ref n => match st.get n with
        | some (.lst _) => .ok (.live n 0) st
        | _ => .stuck
      | _ => .stuck) = .ok w st' := he
    obtain ⟨v, st1, e1, e2⟩ := Res.bind_ok he
    cases v with
    | tup xs =>
      cases e2
      refine .inl (.inr ⟨n, ρ, st, env, S, L, _, _, e1, fun ρ1 H1 x F1 S1 R1 => ?_⟩)
      cases R1 with
      | @tup p ys _ hp hr =>
        refine ⟨p, rfl, ⟨ys, hp⟩, k ρ1 H1 _ (fun i => .snap (xs.drop i)) F1 S1 rfl (iter_snap fun i ρ' st2 H' F S2 => ⟨fun x e => ?_, fun e => ?_⟩)⟩
        · have hp2 := F.sqT S1 hp
          obtain ⟨y, hy, ry⟩ := (F.rvL S1 hr).get e
          refine ⟨⟨ys, y, hp2, hy⟩, fun z H'' hz => ⟨hz.1, ?_⟩⟩
          have h3 := hz.2 ys hp2
          rw [hy] at h3
          cases h3
          exact ry
        · exact ⟨ys, F.sqT S1 hp, by rw [← hr.length]; exact List.getElem?_eq_none_iff.mp e⟩
    | scr xs =>
      cases e2
      refine .inl (.inl ⟨n, ρ, st, env, S, L, _, _, e1, fun ρ1 H1 x F1 S1 R1 => ?_⟩)
      cases R1 with
      | @scr p ys _ hp hr =>
        refine ⟨p, rfl, ⟨ys, hp.sq⟩, k ρ1 H1 _ (fun i => .snap (xs.drop i)) F1 S1 rfl (iter_snap fun i ρ' st2 H' F S2 => ⟨fun x e => ?_, fun e => ?_⟩)⟩
        · have hp2 := (F.frzL S1 hp).sq
          obtain ⟨y, hy, ry⟩ := (F.rvL S1 hr).get e
          refine ⟨⟨ys, y, hp2, hy⟩, fun z H'' hz => ⟨hz.1, ?_⟩⟩
          have h3 := hz.2 ys hp2
          rw [hy] at h3
          cases h3
          exact ry
        · exact ⟨ys, (F.frzL S1 hp).sq, by rw [← hr.length]; exact List.getElem?_eq_none_iff.mp e⟩
    | str z =>
      cases e2
      refine .inr ⟨n, ρ, st, env, S, L, _, _, e1, fun ρ1 H1 x F1 S1 R1 => ?_⟩
      cases R1 with
      | str z =>
        refine ⟨z, rfl, k ρ1 H1 _ (fun i => .snap ((signs z).drop i)) F1 S1 rfl (iter_snap fun i ρ' st2 H' F S2 => ⟨fun x e => ?_, fun e => ?_⟩)⟩
        · unfold signs at e
          rw [List.getElem?_map] at e
          cases ec : z.cps.toList[i]? with
          | none => rw [ec] at e; cases e
          | some c =>
            rw [ec] at e
            cases e
            have ec2 : z.cps[i]? = some c := by rw [← Array.getElem?_toList]; exact ec
            have hi : i < z.cps.size := by
              have := (List.getElem?_eq_some_iff.mp ec).1
              simpa using this
            refine ⟨hi, fun y H'' hy => ⟨hy.1, ?_⟩⟩
            obtain ⟨_, c', hc, rfl⟩ := hy
            rw [ec2] at hc
            cases hc
            exact .str _
        · have := List.getElem?_eq_none_iff.mp e
          unfold signs at this
          rw [List.length_map, Array.length_toList] at this
          exact this
    | ref a' =>
      have e3 : (match st1.get a' with
        | some (.lst _) => Res.ok (Itv.live a' 0) st1
        | _ => .stuck) = .ok w st' := e2
      cases e0 : st1.get a' with
      | none => rw [e0] at e3; cases e3
      | some o =>
        rw [e0] at e3
        cases o with
        | lst xs =>
          cases e3
          refine .inl (.inl ⟨n, ρ, st, env, S, L, _, _, e1, fun ρ1 H1 x F1 S1 R1 => ?_⟩)
          cases R1 with
          | ref hn =>
            obtain ⟨u, hu, ro⟩ := S1.at hn e0
            cases ro with
            | lst hr =>
              refine ⟨ρ1 a', rfl, ⟨_, SqL.of hu⟩, k ρ1 H1 _ (fun i => .live a' i) F1 S1 rfl ?_⟩
              intro i ρ' st2 H' F S2
              have hn2 := Nat.lt_of_lt_of_le hn F.le
              have e5 : (Itv.live a' i).next st2 = match st2.get a' with
                | some (.lst xs) => some (match xs[i]? with
                  | some x => some (x, .live a' (i + 1))
                  | none => none)
                | _ => none := rfl
              rw [e5]
              cases e6 : st2.get a' with
              | none => trivial
              | some o2 =>
                cases o2 with
                | dK _ => trivial
                | ins _ _ => trivial
                | lst xs2 =>
                  obtain ⟨u2, hu2, ro2⟩ := S2.at hn2 e6
                  rw [F.agr _ hn] at hu2
                  cases ro2 with
                  | @lst _ ys2 hr2 =>
                    simp only
                    cases e7 : xs2[i]? with
                    | none => exact ⟨ys2, SqL.of hu2, by rw [← hr2.length]; exact List.getElem?_eq_none_iff.mp e7⟩
                    | some x =>
                      obtain ⟨y, hy, ry⟩ := hr2.get e7
                      refine ⟨rfl, ⟨ys2, y, SqL.of hu2, hy⟩, fun z H'' hz => ?_⟩
                      obtain ⟨rfl, hz⟩ := hz
                      have h3 := hz ys2 (SqL.of hu2)
                      rw [hy] at h3
                      cases h3
                      exact ⟨Fut.refl _ _ _, S2, ry⟩
        | dK _ => cases e3
        | ins _ _ => cases e3
    | _ => cases e2
/-- over a list that was just made -/
theorem i_tmp (ha : PE X a (rF X.K ca Γ d ma)) : PI X tg a (rI X.K ca Γ d (.tmp ma)) := by
  refine PI.wk (pi_list ha) fun σ H R q => ?_
  obtain ⟨n, ρ, st, env, S, L, w, st', he, k⟩ := q
  cases n with
  | zero => cases he
  | succ n =>
    have he : ((ev Γ n d).l ma env st).bind (fun xs st => .ok (.snap xs) st) = .ok w st' := he
    obtain ⟨xs, st1, e1, e2⟩ := Res.bind_ok he
    cases e2
    refine ⟨n, ρ, st, env, S, L, xs, _, e1, fun ρ1 H1 p ys F1 S1 _ hp hx hr => ?_⟩
    refine ⟨p, rfl, ⟨ys, SqL.of hp⟩, k ρ1 H1 _ (fun i => .snap (xs.drop i)) F1 S1 rfl (iter_snap fun i ρ' st2 H' F S2 => ⟨fun x e => ?_, fun e => ?_⟩)⟩
    · have hp2 : SqL X.K H' p ys := SqL.of (F.fr p _ hp hx).1
      obtain ⟨y, hy, ry⟩ := (F.rvL S1 hr).get e
      refine ⟨⟨ys, y, hp2, hy⟩, fun z H'' hz => ⟨hz.1, ?_⟩⟩
      have h3 := hz.2 ys hp2
      rw [hy] at h3
      cases h3
      exact ry
    · exact ⟨ys, SqL.of (F.fr p _ hp hx).1, by rw [← hr.length]; exact List.getElem?_eq_none_iff.mp e⟩
theorem rngV_get (lo : Int) (m : Nat) : ∀ i, (rngV lo m)[i]? = if i < m then some (MV.int (lo + (i : Nat))) else none := by
  induction m generalizing lo with
  | zero => intro i; simp [rngV]
  | succ m ih =>
    intro i
    cases i with
    | zero => simp [rngV]
    | succ i =>
      show (rngV (lo + 1) m)[i]? = _
      rw [ih (lo + 1) i]
      by_cases h : i < m
      · rw [if_pos h, if_pos (show i + 1 < m + 1 by omega)]
        congr 2
        omega
      · rw [if_neg h, if_neg (show ¬ i + 1 < m + 1 by omega)]
theorem iter_rng {K : PySem.W.Frag} {ρ : Nat → Addr} {st : Store} {H : Hp} (lo : Int) (m : Nat) : IterP K ca (Itr lo m) (fun i => .snap ((rngV lo m).drop i)) ρ st H := by
  refine iter_snap fun i ρ' st2 H' F S2 => ⟨fun x e => ?_, fun e => ?_⟩
  · rw [rngV_get] at e
    split at e
    · rename_i h
      cases e
      refine ⟨h, fun y H'' hy => ⟨hy.1, ?_⟩⟩
      obtain ⟨_, rfl⟩ := hy
      exact .int _
    · cases e
  · rw [rngV_get] at e
    split at e
    · cases e
    · rename_i h
      show m ≤ i
      omega
theorem i_rng1 {p : Pos} (hg : Gl X "range") (hm : X.mg "range" = none) (ha : PE X a (rE X.K ca Γ d ma)) (na : ns a = true := by rfl) : PI X tg (.Call (.Name "range" p) [a] [] pos) (rI X.K ca Γ d (.rng1 ma)) := by
  refine PI.wk (pi_range1 hg hm (pa_cons ha pa_nil (star_cons na)) (star_cons na)) fun σ H R q => ?_
  obtain ⟨n, ρ, st, env, S, L, w, st', he, k⟩ := q
  cases n with
  | zero => cases he
  | succ n =>
    have he : ((ev Γ n d).e ma env st).bind (fun v st => match v with
      | .int j => if -(2 ^ 62) ≤ j ∧ j < 2 ^ 62 then .ok (.snap (rngV 0 j.toNat)) st else .stuck
      | _ => .stuck) = .ok w st' := he
    obtain ⟨v, st1, e1, e2⟩ := Res.bind_ok he
    refine ⟨n, ρ, st, env, S, L, v, st1, e1, fun ρ1 H1 x F1 S1 R1 => ?_⟩
    cases R1 with
    | int j =>
      simp only at e2
      split at e2
      · rename_i hj
        cases e2
        exact ⟨j, rfl, hj.1, hj.2, k ρ1 H1 _ (fun i => .snap ((rngV 0 j.toNat).drop i)) F1 S1 rfl (iter_rng _ _)⟩
      · cases e2
    | _ => cases e2
theorem i_rng2 {p : Pos} (hg : Gl X "range") (hm : X.mg "range" = none) (ha : PE X a (rE X.K ca Γ d ma)) (hb : PE X b (rE X.K ca Γ d mb)) (na : ns a = true := by rfl) (nb : ns b = true := by rfl) : PI X tg (.Call (.Name "range" p) [a, b] [] pos) (rI X.K ca Γ d (.rng2 ma mb)) := by
  refine PI.wk (pi_range2 hg hm (pa_cons ha (pa_cons hb pa_nil (star_cons nb)) (star_cons na)) (by rw [star_cons na, star_cons nb]; rfl) (star_cons nb)) fun σ H R q => ?_
  obtain ⟨n, ρ, st, env, S, L, w, st', he, k⟩ := q
  cases n with
  | zero => cases he
  | succ n =>
    have he : ((ev Γ n d).e ma env st).bind (fun v st => ((ev Γ n d).e mb env st).bind fun u st => match v, u with
      | .int i, .int j => if -(2 ^ 62) ≤ i ∧ i < 2 ^ 62 ∧ -(2 ^ 62) ≤ j ∧ j < 2 ^ 62 then .ok (.snap (rngV i (j - i).toNat)) st else .stuck
      | _, _ => .stuck) = .ok w st' := he
    obtain ⟨v, st1, e1, e2⟩ := Res.bind_ok he
    obtain ⟨u, st2, e3, e4⟩ := Res.bind_ok e2
    refine ⟨n, ρ, st, env, S, L, v, st1, e1, fun ρ1 H1 x F1 S1 R1 => ⟨n, ρ1, st1, env, S1, F1.slots S L, u, st2, e3, fun ρ2 H2 y F2 S2 R2 => ?_⟩⟩
    cases R1 with
    | int i =>
      cases R2 with
      | int j =>
        simp only at e4
        split at e4
        · rename_i hj
          cases e4
          exact ⟨i, j, rfl, hj, k ρ2 H2 _ (fun q => .snap ((rngV i (j - i).toNat).drop q)) (F1.trans F2) S2 rfl (iter_rng _ _)⟩
        · cases e4
      | _ => cases e4
    | _ => cases R2 <;> cases e4

/-! ### targets -/
/-- a target's reading serves the evaluator's -/
def TgOk (K : PySem.W.Frag) (t : Tg) (g : TG) : Prop := ∀ (ca : Cls0) (ρ : Nat → Addr) (st : Store) (H : Hp) (v : MV) (x : V) (env env1 : Env) (σ : L2.St) (Q : L2.St → Hp → Prop), Sim K ca ρ st H → t.set v env = some env1 → Rv K ρ st.next H v x → SlotsR K ρ st.next H env σ →
  (∀ σ1, SlotsR K ρ st.next H env1 σ1 → (∀ vs, (∀ i, i ∈ (match t with | .one i => [i] | .many is => is) → i ∈ vs) → wipe σ1 vs = wipe σ vs) → Q σ1 H) → g x σ H Q
theorem wipe_set {σ : L2.St} {vs : List Nat} {j : Nat} {x : V} (h : j ∈ vs) : wipe (σ.set j (some x)) vs = wipe σ vs := by
  induction vs with
  | nil => cases h
  | cons v vs ih =>
    unfold wipe
    by_cases e : v = j
    · subst e
      by_cases h2 : v ∈ vs
      · rw [ih h2]
      · clear ih h
        have comm : ∀ (ws : List Nat) (τ : L2.St), v ∉ ws → wipe (τ.set v (some x)) ws = (wipe τ ws).set v (some x) := by
          intro ws
          induction ws with
          | nil => intro τ _; rfl
          | cons w ws ih2 =>
            intro τ hw
            unfold wipe
            rw [ih2 τ (fun z => hw (List.mem_cons_of_mem _ z)), List.set_comm]
            exact fun z => hw (z ▸ List.mem_cons_self)
        rw [comm vs σ h2, List.set_set]
    · rcases List.mem_cons.mp h with z | z
      · exact absurd z.symm e
      · rw [ih z]
theorem tg_one (K : PySem.W.Frag) (i : Nat) : TgOk K (.one i) (gName i) := fun ca ρ st H v x env env1 σ Q S h r L k => by
  cases h
  exact k _ (L.set i r) fun vs hv => wipe_set (hv i (List.mem_singleton.mpr rfl))
theorem setMany_ok {K : PySem.W.Frag} {ρ : Nat → Addr} {N : Nat} {H : Hp} : ∀ (is : List Nat) (vs : List MV) (xs : List V) (env env1 : Env) (σ : L2.St) (Q : L2.St → Hp → Prop), setMany is vs env = some env1 → RvL K ρ N H vs xs → SlotsR K ρ N H env σ →
    (∀ σ1, SlotsR K ρ N H env1 σ1 → (∀ ws, (∀ i, i ∈ is → i ∈ ws) → wipe σ1 ws = wipe σ ws) → Q σ1 H) → (is.foldr (fun i u => gCons (gName i) u) gNil) xs σ H Q
  | [], [], _, env, env1, σ, Q, h, r, L, k => by
    cases r
    cases h
    exact ⟨rfl, k σ L fun _ _ => rfl⟩
  | [], _ :: _, _, _, _, _, _, h, _, _, _ => by cases h
  | _ :: _, [], _, _, _, _, _, h, _, _, _ => by cases h
  | i :: is, v :: vs, _, env, env1, σ, Q, h, r, L, k => by
    cases r with
    | cons r t =>
      refine ⟨_, _, rfl, ?_⟩
      exact setMany_ok is vs _ (env.set i (some v)) env1 _ Q h t (L.set i r) fun σ1 L1 w1 => k σ1 L1 fun ws hw => (w1 ws fun j hj => hw j (List.mem_cons_of_mem _ hj)).trans (wipe_set (hw i List.mem_cons_self))
theorem setMany_len : ∀ (is : List Nat) (vs : List MV) (env env1 : Env), setMany is vs env = some env1 → vs.length = is.length
  | [], [], _, _, _ => rfl
  | [], _ :: _, _, _, h => by cases h
  | _ :: _, [], _, _, h => by cases h
  | i :: is, v :: vs, env, env1, h => by rw [List.length_cons, List.length_cons, setMany_len is vs _ _ h]
theorem tg_many (K : PySem.W.Frag) (is : List Nat) : TgOk K (.many is) (gTup K is.length (is.foldr (fun i u => gCons (gName i) u) gNil)) := fun ca ρ st H v x env env1 σ Q S h r L k => by
  cases r with
  | @tup p ys xs hp hr => exact ⟨p, ys, rfl, hp, by rw [← hr.length]; exact setMany_len is xs _ _ h, setMany_ok is xs ys env env1 σ Q h hr L k⟩
  | _ => cases h
end
end MP

set_option Elab.async false
set_option linter.all false
set_option maxRecDepth 100000
set_option maxHeartbeats 4000000
namespace MP
open PySem PySem.Spec PyProof.Rows L2

section
variable {K : PySem.W.Frag} {ca : Cls0} {ρ ρ1 : Nat → Addr} {st st1 : Store} {H H1 : Hp}
theorem OutS.after {r : Res (Fl × Env)} {D : Ends} (h : OutS K ca ρ st H r D) (F : Fut ρ st.next H ρ1 st1.next H1) : OutS K ca ρ1 st1 H1 r D :=
  let ⟨a, st', e, k⟩ := h; ⟨a, st', e, fun ρ' H' σ' F' S' => k ρ' H' σ' (F.trans F') S'⟩
theorem OutS.of {r r' : Res (Fl × Env)} {D : Ends} (h : OutS K ca ρ st H r D) (e : r = r') : OutS K ca ρ st H r' D := e ▸ h
end

section
variable {X : Cx} {ca : Cls0} {Γ : Tab} {d : Nat} {a b e : Expr} {ma mb m : ME} {pos : Pos}
/-! ### statements -/
/-- a statement that evaluates one thing and goes on -/
theorem s1_wk {s : Stmt} {m : MS} {t : TS} (h : PS X s t)
    (k : ∀ n ρ st env σ H D, Sim X.K ca ρ st H → SlotsR X.K ρ st.next H env σ → OutS X.K ca ρ st H ((ev Γ (n + 1) d).s m env st) D → t D σ H) : PS X s (rS1 X.K ca Γ d m) :=
  PS.wk h fun D σ H q => by
    obtain ⟨n, ρ, st, env, S, L, o⟩ := q
    cases n with
    | zero => obtain ⟨_, _, e, _⟩ := o; cases e
    | succ n => exact k n ρ st env σ H D S L o
theorem s_set {s : Stmt} {i : Nat} {te : TE} (h : PS X s (tAsg te (gName i))) (hte : ∀ σ H Q, rE X.K ca Γ d ma σ H Q → te σ H Q) : PS X s (rS1 X.K ca Γ d (.set i ma)) :=
  s1_wk h fun n ρ st env σ H D S L o => by
    obtain ⟨r, st', he, k⟩ := o
    have he : ((ev Γ n d).e ma env st).bind (fun v st => .ok (.nx, env.set i (some v)) st) = .ok r st' := he
    obtain ⟨v, st1, e1, e2⟩ := Res.bind_ok he
    cases e2
    refine hte σ H _ ⟨n, ρ, st, env, S, L, v, _, e1, fun ρ1 H1 x F1 S1 R1 => ?_⟩
    exact k ρ1 H1 _ F1 S1 ((F1.slots S L).set i R1)
theorem s_expr (he : PE X e (rE X.K ca Γ d m)) (hs : swapsWith e none pos.line X.env = pure false := by rfl) : PS X (.Expr e pos) (rS1 X.K ca Γ d (.expr m)) :=
  s1_wk (ps_expr he hs) fun n ρ st env σ H D S L o => by
    obtain ⟨r, st', he, k⟩ := o
    have he : ((ev Γ n d).e m env st).bind (fun _ st => .ok (.nx, env) st) = .ok r st' := he
    obtain ⟨v, st1, e1, e2⟩ := Res.bind_ok he
    cases e2
    exact ⟨n, ρ, st, env, S, L, v, _, e1, fun ρ1 H1 x F1 S1 R1 => k ρ1 H1 _ F1 S1 (F1.slots S L)⟩
theorem s_ret (he : PE X e (rE X.K ca Γ d m)) : PS X (.Return (some e) pos) (rS1 X.K ca Γ d (.ret m)) :=
  s1_wk (ps_ret he) fun n ρ st env σ H D S L o => by
    obtain ⟨r, st', he, k⟩ := o
    have he : ((ev Γ n d).e m env st).bind (fun v st => .ok (.rt v, env) st) = .ok r st' := he
    obtain ⟨v, st1, e1, e2⟩ := Res.bind_ok he
    cases e2
    exact ⟨n, ρ, st, env, S, L, v, _, e1, fun ρ1 H1 x F1 S1 R1 => k ρ1 H1 σ F1 S1 x R1⟩
theorem s_pass : PS X (.Pass pos) (rS1 X.K ca Γ d .pass) :=
  s1_wk ps_pass fun n ρ st env σ H D S L o => by
    obtain ⟨r, st', he, k⟩ := o
    cases he
    exact k ρ H σ (Fut.refl _ _ _) S L
theorem s_brk : PS X (.Break pos) (rS1 X.K ca Γ d .brk) :=
  s1_wk ps_break fun n ρ st env σ H D S L o => by
    obtain ⟨r, st', he, k⟩ := o
    cases he
    exact k ρ H σ (Fut.refl _ _ _) S L
theorem s_cont : PS X (.Continue pos) (rS1 X.K ca Γ d .cont) :=
  s1_wk ps_continue fun n ρ st env σ H D S L o => by
    obtain ⟨r, st', he, k⟩ := o
    cases he
    exact k ρ H σ (Fut.refl _ _ _) S L
theorem s_par {i j : Nat} {x y : Str} {px py pt : Pos} {kt k2 pt2} (hc : X.calm = true) (hN : X.N.Nodup) (hi : X.N[i]? = some x) (hj : X.N[j]? = some y) (hij : i ≠ j)
    (hx : X.env.scope.names.lookup x = some .local) (hy : X.env.scope.names.lookup y = some .local) (ha : PE X a (rE X.K ca Γ d ma)) (hb : PE X b (rE X.K ca Γ d mb)) (na : ns a = true) (nb : ns b = true)
    (hw : swappedStores [.Tuple [.Name x px, .Name y py] kt pt] (.Tuple [a, b] k2 pt2) X.env = pure (some [x, y]))
    (hs : swapsWithSole [.Tuple [.Name x px, .Name y py] kt pt] (.Tuple [a, b] k2 pt2) pos.line X.env = pure false := by rfl) :
    PS X (.Assign [.Tuple [.Name x px, .Name y py] kt pt] (.Tuple [a, b] k2 pt2) pos) (rS1 X.K ca Γ d (.par i j ma mb)) :=
  s1_wk (ps_par hc hN hi hj hij hx hy (pa_cons ha (pa_cons hb pa_nil (star_cons nb)) (star_cons na)) hw hs) fun n ρ st env σ H D S L o => by
    obtain ⟨r, st', he, k⟩ := o
    have he : ((ev Γ n d).e ma env st).bind (fun v st => ((ev Γ n d).e mb env st).bind fun u st => .ok (.nx, (env.set i (some v)).set j (some u)) st) = .ok r st' := he
    obtain ⟨v, st1, e1, e2⟩ := Res.bind_ok he
    obtain ⟨u, st2, e3, e4⟩ := Res.bind_ok e2
    cases e4
    exact ⟨n, ρ, st, env, S, L, v, st1, e1, fun ρ1 H1 x F1 S1 R1 => ⟨n, ρ1, st1, env, S1, F1.slots S L, u, _, e3, fun ρ2 H2 y F2 S2 R2 =>
      ⟨x, y, rfl, k ρ2 H2 _ (F1.trans F2) S2 ((((F1.trans F2).slots S L).set i (F2.rv S1 R1)).set j R2)⟩⟩⟩
/-- a, b = e: of a tuple -/
theorem s_unp {s : Stmt} {is : List Nat} (h : PS X s (tAsg (rE X.K ca Γ d ma) (gTup X.K is.length (is.foldr (fun i u => gCons (gName i) u) gNil)))) : PS X s (rS1 X.K ca Γ d (.unp is ma)) :=
  s1_wk h fun n ρ st env σ H D S L o => by
    obtain ⟨r, st', he, k⟩ := o
    have he : ((ev Γ n d).e ma env st).bind (fun v st => match v with
      | .tup vs => match setMany is vs env with
        | some env' => .ok (.nx, env') st
        | none => .stuck
      | _ => .stuck) = .ok r st' := he
    obtain ⟨v, st1, e1, e2⟩ := Res.bind_ok he
    refine ⟨n, ρ, st, env, S, L, v, st1, e1, fun ρ1 H1 x F1 S1 R1 => ?_⟩
    split at e2
    · rename_i vs
      split at e2
      · rename_i env' eS
        cases e2
        exact tg_many X.K is ca ρ1 _ H1 (.tup vs) x env env' σ D.nx S1 eS R1 (F1.slots S L) fun σ1 L1 _ => k ρ1 H1 σ1 F1 S1 L1
      · cases e2
    · cases e2
/-- o[i] = v -/
def rSetAll (t : TSet) : TSet := fun o i v H Q => t o i v H Q ∨ ∃ a H4, o = .ref a ∧ DPut H a i v H4 ∧ Q H4
theorem set_all {t : TSet} (hu : X.A.units + 1 < cLine) (h : PSet X t) : PSet X (rSetAll t) := by
  intro pins s σ H o i v ov iv u Q I ro ri rv q
  rcases q with q | ⟨a, H4, rfl, g, q⟩
  · exact h pins s σ H o i v ov iv u Q I ro ri rv q
  · obtain rfl : ov = Value.ref a := ro
    exact d_setItem hu I g ri rv fun s4 I4 => ⟨H4, I4, q⟩
theorem putV_ok {K : PySem.W.Frag} {ρ : Nat → Addr} {st st' : Store} {H : Hp} {o i v : MV} {ov iv x : V} {Q : Hp → Prop} (h : putV o i v st = some st') (S : Sim K ca ρ st H) (ho : Rv K ρ st.next H o ov) (hi : Rv K ρ st.next H i iv) (hv : Rv K ρ st.next H v x)
    (c : ∀ H', Fut ρ st.next H ρ st'.next H' → Sim K ca ρ st' H' → Q H') : rSetAll rSetL ov iv x H Q := by
  cases ho with
  | @ref n hn =>
    have h' : (match st.get n with
      | some ob => putO ob n i v st
      | none => none) = some st' := h
    cases e0 : st.get n with
    | none => rw [e0] at h'; cases h'
    | some ob =>
      rw [e0] at h'
      have h' : putO ob n i v st = some st' := h'
      obtain ⟨u, hu, ro⟩ := S.at hn e0
      cases ro with
      | lst hr =>
        cases hi with
        | int k =>
          unfold putO at h'
          simp only at h'
          split at h'
          · rename_i j ej
            cases h'
            refine .inl ⟨ρ n, _, k, j, rfl, rfl, hu, by rw [← hr.length]; exact ej, c _ (Fut.write S hn) (Sim.write S hn (.lst (RvL.set hv j hr)))⟩
          · cases h'
        | _ => cases h'
      | dK hr =>
        unfold putO at h'
        simp only at h'
        split at h'
        · rename_i q eq
          split at h'
          · rename_i hl
            cases h'
            refine .inr ⟨ρ n, _, rfl, ?_, c _ (Fut.write S hn) (Sim.write S hn (.dK (put_rv hv hr)))⟩
            rw [key_rv eq hi]
            exact DPut.k hu (by rw [← hr.length]; exact hl)
          · cases h'
        · cases h'
      | ins _ => cases hi <;> cases h'
  | _ => cases h
theorem s_put {o i : Expr} {mo mi : ME} {pos' : Pos} (hg : PG X (.Subscript o i pos') (gSub (rE X.K ca Γ d mo) (rE X.K ca Γ d mi) (rSetAll rSetL))) (he : PE X e (rE X.K ca Γ d m)) (hs : swapsWithSole [.Subscript o i pos'] e pos.line X.env = pure false := by rfl)
    (hw : swappedStores [.Subscript o i pos'] e X.env = pure none := by rfl) : PS X (.Assign [.Subscript o i pos'] e pos) (rS1 X.K ca Γ d (.put mo mi m)) :=
  s1_wk (ps_asg he hg hs hw) fun n ρ st env σ H D S L q => by
    obtain ⟨r, st', he, k⟩ := q
    have he : ((ev Γ n d).e m env st).bind (fun v st => ((ev Γ n d).e mo env st).bind fun x st => ((ev Γ n d).e mi env st).bind fun y st => match putV x y v st with
      | some st' => .ok (.nx, env) st'
      | none => .stuck) = .ok r st' := he
    obtain ⟨v, st1, e1, e2⟩ := Res.bind_ok he
    obtain ⟨x, st2, e3, e4⟩ := Res.bind_ok e2
    obtain ⟨y, st3, e5, e6⟩ := Res.bind_ok e4
    refine ⟨n, ρ, st, env, S, L, v, st1, e1, fun ρ1 H1 vv F1 S1 R1 => ⟨n, ρ1, st1, env, S1, F1.slots S L, x, st2, e3, fun ρ2 H2 xv F2 S2 R2 => ?_⟩⟩
    refine ⟨n, ρ2, st2, env, S2, (F1.trans F2).slots S L, y, st3, e5, fun ρ3 H3 yv F3 S3 R3 => ?_⟩
    split at e6
    · rename_i stx ex
      cases e6
      exact putV_ok ex S3 (F3.rv S2 R2) R3 ((F2.trans F3).rv S1 R1) fun H4 F4 S4 => k ρ3 H4 σ (((F1.trans F2).trans F3).trans F4) S4 ((((F1.trans F2).trans F3).trans F4).slots S L)
    · cases e6
/-! ### blocks -/
theorem b_nil : PSs X [] (rSs X.K ca Γ d []) := PSs.wk pss_nil fun D σ H q => by
  obtain ⟨n, ρ, st, env, S, L, r, st', he, k⟩ := q
  cases n with
  | zero => cases he
  | succ n =>
    cases he
    exact k ρ H σ (Fut.refl _ _ _) S L
theorem b_cons {s : Stmt} {ss : List Stmt} {m : MS} {ms : List MS} (h1 : PS X s (rS1 X.K ca Γ d m)) (h2 : PSs X ss (rSs X.K ca Γ d ms)) : PSs X (s :: ss) (rSs X.K ca Γ d (m :: ms)) := PSs.wk (pss_cons h1 h2) fun D σ H q => by
  obtain ⟨n, ρ, st, env, S, L, r, st', he, k⟩ := q
  cases n with
  | zero => cases he
  | succ n =>
    have he : ((ev Γ n d).s m env st).bind (fun x st => match x.1 with
      | .nx => (ev Γ n d).b ms x.2 st
      | fl => .ok (fl, x.2) st) = .ok r st' := he
    obtain ⟨⟨f, env1⟩, st1, e1, e2⟩ := Res.bind_ok he
    refine ⟨n, ρ, st, env, S, L, (f, env1), st1, e1, fun ρ1 H1 σ1 F1 S1 => ?_⟩
    cases f with
    | nx => exact fun L1 => ⟨n, ρ1, st1, env1, S1, L1, r, st', e2, fun ρ' H' σ' F' S' => k ρ' H' σ' (F1.trans F') S'⟩
    | bk => cases e2; exact k ρ1 H1 σ1 F1 S1
    | ct => cases e2; exact k ρ1 H1 σ1 F1 S1
    | rt v => cases e2; exact k ρ1 H1 σ1 F1 S1
theorem s_if {c : Expr} {mc : ME} {sa sb : List Stmt} {msa msb : List MS} (hc : PT X c (rT X.K ca Γ d mc)) (ha : PSs X sa (rSs X.K ca Γ d msa)) (hb : PSs X sb (rSs X.K ca Γ d msb)) : PS X (.If c sa sb pos) (rS1 X.K ca Γ d (.iff mc msa msb)) :=
  s1_wk (ps_if hc ha hb) fun n ρ st env σ H D S L o => by
    obtain ⟨r, st', he, k⟩ := o
    have he : ((ev Γ n d).t mc env st).bind (fun k st => if k = true then (ev Γ n d).b msa env st else (ev Γ n d).b msb env st) = .ok r st' := he
    obtain ⟨x, st1, e1, e2⟩ := Res.bind_ok he
    refine ⟨n, ρ, st, env, S, L, x, st1, e1, fun ρ1 H1 c F1 S1 R1 => ?_⟩
    subst R1
    cases x with
    | true =>
      refine iteT ?_
      rw [if_pos rfl] at e2
      exact ⟨n, ρ1, st1, env, S1, F1.slots S L, r, st', e2, fun ρ' H' σ' F' S' => k ρ' H' σ' (F1.trans F') S'⟩
    | false =>
      refine iteF ?_
      rw [if_neg Bool.false_ne_true] at e2
      exact ⟨n, ρ1, st1, env, S1, F1.slots S L, r, st', e2, fun ρ' H' σ' F' S' => k ρ' H' σ' (F1.trans F') S'⟩
/-! ### loops -/
theorem s_while {c : Expr} {mc : ME} {body : List Stmt} {mb : List MS} (hp : PassesOwn (model X.prog X.w) X.A X.env X.xe) (hc : PT X c (rT X.K ca Γ d mc)) (hb : PSs X body (rSs X.K ca Γ d mb)) : PS X (.While c body [] pos) (rS1 X.K ca Γ d (.while_ mc mb)) :=
  s1_wk (ps_while hp hc hb) fun n ρ0 st0 env0 σ0 H0 D S0 L0 o0 => by
    refine ⟨fun n σ H => ∃ ρ st env, Sim X.K ca ρ st H ∧ SlotsR X.K ρ st.next H env σ ∧ OutS X.K ca ρ st H ((ev Γ n d).s (.while_ mc mb) env st) D, ⟨n + 1, ρ0, st0, env0, S0, L0, o0⟩, ?_⟩
    rintro n σ H ⟨ρ, st, env, S, L, o⟩
    obtain ⟨r, st', he, k⟩ := o
    cases n with
    | zero => cases he
    | succ n =>
      have he : ((ev Γ n d).t mc env st).bind (fun k st => if k = true then ((ev Γ n d).b mb env st).bind fun r st => (match r.1 with
        | .nx => (ev Γ n d).s (.while_ mc mb) r.2 st
        | .ct => (ev Γ n d).s (.while_ mc mb) r.2 st
        | .bk => .ok (.nx, r.2) st
        | .rt v => .ok (.rt v, r.2) st) else .ok (.nx, env) st) = .ok r st' := he
      obtain ⟨x, st1, e1, e2⟩ := Res.bind_ok he
      refine ⟨n, ρ, st, env, S, L, x, st1, e1, fun ρ1 H1 c F1 S1 R1 => ?_⟩
      subst R1
      cases x with
      | false =>
        refine iteF ?_
        rw [if_neg Bool.false_ne_true] at e2
        cases e2
        exact k ρ1 H1 σ F1 S1 (F1.slots S L)
      | true =>
        refine iteT ?_
        rw [if_pos rfl] at e2
        obtain ⟨⟨f, env2⟩, st2, e3, e4⟩ := Res.bind_ok e2
        refine ⟨fun σ' H' => ∃ ρ st env, Sim X.K ca ρ st H' ∧ SlotsR X.K ρ st.next H' env σ' ∧ OutS X.K ca ρ st H' ((ev Γ n d).s (.while_ mc mb) env st) D, fun σ' H' q => ⟨n, Nat.lt_succ_self _, q⟩, ?_⟩
        refine ⟨n, ρ1, st1, env, S1, F1.slots S L, (f, env2), st2, e3, fun ρ2 H2 σ2 F2 S2 => ?_⟩
        cases f with
        | nx => exact fun L2 => ⟨ρ2, st2, env2, S2, L2, r, st', e4, fun ρ' H' σ' F' S' => k ρ' H' σ' ((F1.trans F2).trans F') S'⟩
        | ct => exact fun L2 => ⟨ρ2, st2, env2, S2, L2, r, st', e4, fun ρ' H' σ' F' S' => k ρ' H' σ' ((F1.trans F2).trans F') S'⟩
        | bk => cases e4; exact k ρ2 H2 σ2 (F1.trans F2) S2
        | rt v => cases e4; exact k ρ2 H2 σ2 (F1.trans F2) S2
theorem s_for {tg iter : Expr} {t : Tg} {mi : MI} {g : TG} {body : List Stmt} {mb : List MS} (hp : PassesOwn (model X.prog X.w) X.A X.env X.xe) (hc : X.calm = true) (hi : PI X tg iter (rI X.K ca Γ d mi)) (hg : PG X tg g) (ht : TgOk X.K t g) (hb : PSs X body (rSs X.K ca Γ d mb))
    (hs : ∀ x, foldedSetIterable iter X.env x = pure x := by intro _; rfl) : PS X (.For tg iter body [] pos) (rS1 X.K ca Γ d (.for_ t mi mb)) :=
  s1_wk (ps_for hp hc hi hg hb hs) fun n ρ st env σ H D S L o => by
    obtain ⟨r, st', he, k⟩ := o
    have he : ((ev Γ n d).i mi env st).bind (fun w st => (ev Γ n d).f w t mb env st) = .ok r st' := he
    obtain ⟨w, st1, e1, e2⟩ := Res.bind_ok he
    refine ⟨n, ρ, st, env, S, L, w, st1, e1, fun ρ1 H1 J wf F1 S1 hw P => ?_⟩
    refine ⟨fun i m σ H => ∃ ρ st env, Fut ρ1 st1.next H1 ρ st.next H ∧ Sim X.K ca ρ st H ∧ SlotsR X.K ρ st.next H env σ ∧ OutS X.K ca ρ st H ((ev Γ m d).f (wf i) t mb env st) D,
      ⟨n, ρ1, st1, env, Fut.refl _ _ _, S1, F1.slots S L, r, st', by rw [hw]; exact e2, fun ρ' H' σ' F' S' => k ρ' H' σ' (F1.trans F') S'⟩, ?_⟩
    rintro i m σ2 H2 ⟨ρ2, st2, env2, F2, S2, L2, r2, st3, he2, k2⟩
    cases m with
    | zero => cases he2
    | succ m =>
      have p := P i ρ2 st2 H2 F2 S2
      have he2 : (match (wf i).next st2 with
        | none => .stuck
        | some none => .ok (.nx, env2) st2
        | some (some (v, w')) => match t.set v env2 with
          | none => .stuck
          | some env1 => ((ev Γ m d).b mb env1 st2).bind fun r st => match r.1 with
            | .nx => (ev Γ m d).f w' t mb r.2 st
            | .ct => (ev Γ m d).f w' t mb r.2 st
            | .bk => .ok (.nx, r.2) st
            | .rt v => .ok (.rt v, r.2) st) = Res.ok r2 st3 := he2
      cases ew : (wf i).next st2 with
      | none => rw [ew] at he2; cases he2
      | some q =>
        rw [ew] at he2 p
        cases q with
        | none =>
          cases he2
          exact .inl ⟨p, k2 ρ2 H2 σ2 (Fut.refl _ _ _) S2 L2⟩
        | some q =>
          obtain ⟨v, w'⟩ := q
          obtain ⟨rfl, go, yl⟩ := p
          refine .inr ⟨go, fun σ' H' => ∃ ρ st env, Fut ρ1 st1.next H1 ρ st.next H' ∧ Sim X.K ca ρ st H' ∧ SlotsR X.K ρ st.next H' env σ' ∧ OutS X.K ca ρ st H' ((ev Γ m d).f (wf (i + 1)) t mb env st) D, fun σ' H' q => ⟨m, Nat.lt_succ_self _, q⟩, fun x H3 hy => ?_⟩
          obtain ⟨F3, S3, R3⟩ := yl x H3 hy
          simp only at he2
          cases et : t.set v env2 with
          | none => rw [et] at he2; cases he2
          | some env3 =>
            rw [et] at he2
            obtain ⟨⟨f, env4⟩, st4, e5, e6⟩ := Res.bind_ok he2
            refine ht ca ρ2 st2 H3 v x env2 env3 σ2 _ S3 et R3 (F3.slots S2 L2) fun σ3 L3 _ => ?_
            refine ⟨m, ρ2, st2, env3, S3, L3, (f, env4), st4, e5, fun ρ4 H4 σ4 F4 S4 => ?_⟩
            cases f with
            | nx => exact fun L4 => ⟨ρ4, st4, env4, (F2.trans F3).trans F4, S4, L4, r2, st3, e6, fun ρ' H' σ' F' S' => k2 ρ' H' σ' ((F3.trans F4).trans F') S'⟩
            | ct => exact fun L4 => ⟨ρ4, st4, env4, (F2.trans F3).trans F4, S4, L4, r2, st3, e6, fun ρ' H' σ' F' S' => k2 ρ' H' σ' ((F3.trans F4).trans F') S'⟩
            | bk => cases e6; exact k2 ρ4 H4 σ4 (F3.trans F4) S4
            | rt v => cases e6; exact k2 ρ4 H4 σ4 (F3.trans F4) S4
end
end MP

set_option Elab.async false
set_option linter.all false
set_option maxRecDepth 100000
set_option maxHeartbeats 4000000
namespace MP
open PySem PySem.Spec PyProof.Rows L2

section
variable {K : PySem.W.Frag} {ca : Cls0} {ρ ρ' : Nat → Addr} {st : Store} {N : Nat} {H H' : Hp}
mutual
theorem Rv.keep (k : ∀ a o, Imm o → H a = some o → H' a = some o) : ∀ {x : MV} {y : V}, Rv K ρ N H x y → Rv K ρ N H' x y
  | _, _, .non => .non
  | _, _, .bl b => .bl b
  | _, _, .int i => .int i
  | _, _, .str x => .str x
  | _, _, .tup h t => .tup (by
      rcases h with (h | ⟨o, h⟩) | h
      · exact .inl (.inl (k _ _ trivial h))
      · exact .inl (.inr ⟨o, k _ _ trivial h⟩)
      · exact .inr h) (RvL.keep k t)
  | _, _, .ref h => .ref h
  | _, _, .scr h t => .scr (by
      rcases h with ⟨o, h⟩ | h
      · exact .inl ⟨o, k _ _ trivial h⟩
      · exact .inr h) (RvL.keep k t)
theorem RvL.keep (k : ∀ a o, Imm o → H a = some o → H' a = some o) : ∀ {x : List MV} {y : List V}, RvL K ρ N H x y → RvL K ρ N H' x y
  | _, _, .nil => .nil
  | _, _, .cons h t => .cons (Rv.keep k h) (RvL.keep k t)
end
theorem RvP.keep {κ : Type} (k : ∀ a o, Imm o → H a = some o → H' a = some o) : ∀ {x : List (κ × MV)} {y : List (κ × V)}, RvP K ρ N H x y → RvP K ρ N H' x y
  | _, _, .nil => .nil
  | _, _, .cons h t => .cons (h.keep k) (RvP.keep k t)
theorem RO.keep (k : ∀ a o, Imm o → H a = some o → H' a = some o) {o : MO} {u : HO} (r : RO K ca ρ N H o u) : RO K ca ρ N H' o u := by
  cases r with
  | lst h => exact .lst (h.keep k)
  | dK h => exact .dK (h.keep k)
  | ins h => exact .ins (h.keep k)
theorem poke_keep {D : Addr} {ys zs : List V} (h : H D = some (.lst ys)) : ∀ a o, Imm o → H a = some o → upd H D (.lst zs) a = some o := fun a o i e => by
  have ne : a ≠ D := fun z => by
    rw [z, h] at e
    cases e
    exact i
  rw [upd_ne ne]
  exact e
/-- the list that is being made grows -/
theorem Sim.poke (S : Sim K ca ρ st H) {D : Addr} {ys zs : List V} (h : H D = some (.lst ys)) (hx : ∀ n, n < st.next → ρ n ≠ D) : Sim K ca ρ st (upd H D (.lst zs)) :=
  ⟨S.wf, S.inj, fun n hn => by
    obtain ⟨o, u, h1, h2, r⟩ := S.obj n hn
    exact ⟨o, u, h1, by rw [upd_ne (hx n hn)]; exact h2, r.keep (poke_keep h)⟩⟩
theorem SlotsR.keep (k : ∀ a o, Imm o → H a = some o → H' a = some o) {env : Env} {σ : L2.St} (h : SlotsR K ρ N H env σ) : SlotsR K ρ N H' env σ :=
  ⟨h.1, fun i v e => let ⟨x, h1, h2⟩ := h.2 i v e; ⟨x, h1, h2.keep k⟩⟩
/-- with regard to what stood before D was there -/
theorem Fut.poke {N' : Nat} (F : Fut ρ N H ρ' N' H') {D : Addr} {o : HO} (h0 : H D = Option.none) : Fut ρ N H ρ' N' (upd H' D o) :=
  ⟨F.le, F.agr, fun a u e hn => by
    obtain ⟨h1, h2⟩ := F.fr a u e hn
    exact ⟨by rw [upd_ne (ne_of_none e h0)]; exact h1, h2⟩⟩
theorem wipe_setN (σ : L2.St) (j : Nat) : ∀ vs : List Nat, L2.wipe (σ.set j Option.none) vs = (L2.wipe σ vs).set j Option.none
  | [] => rfl
  | v :: vs => by
    unfold L2.wipe
    rw [wipe_setN σ j vs]
    by_cases e : j = v
    · rw [e]
    · rw [List.set_comm _ _ e]
theorem wipe_wipe (σ : L2.St) : ∀ vs : List Nat, L2.wipe (L2.wipe σ vs) vs = L2.wipe σ vs
  | [] => rfl
  | v :: vs => by
    show (L2.wipe ((L2.wipe σ vs).set v Option.none) vs).set v Option.none = (L2.wipe σ vs).set v Option.none
    rw [wipe_setN, wipe_wipe σ vs, List.set_set]
theorem SlotsR.wipe {env : Env} {σ : L2.St} (h : SlotsR K ρ N H env σ) : ∀ vs : List Nat, SlotsR K ρ N H (wipeE env vs) (wipe σ vs)
  | [] => h
  | v :: vs => by
    have ih := SlotsR.wipe h vs
    unfold wipeE L2.wipe
    refine ⟨by rw [List.length_set, List.length_set]; exact ih.1, fun i w e => ?_⟩
    by_cases hi : v = i
    · subst hi
      by_cases hl : v < (wipeE env vs).length
      · rw [List.getElem?_set_self hl] at e; cases e
      · rw [List.getElem?_eq_none (by simpa using hl)] at e; cases e
    · rw [List.getElem?_set_ne hi] at e
      obtain ⟨x, h1, h2⟩ := ih.2 i w e
      exact ⟨x, by rw [List.getElem?_set_ne hi]; exact h1, h2⟩
end

section
variable {X : Cx} {ca : Cls0} {Γ : Tab} {d : Nat} {a b e : Expr} {ma mb m : ME} {pos : Pos}
def rTs (K : PySem.W.Frag) (ca : Cls0) (Γ : Tab) (d : Nat) (ms : List ME) : TT := rd K ca (fun _ _ _ a b => a = b) fun n => (ev Γ n d).ts ms
theorem PTs.wk {X : Cx} {es : List Expr} {t t' : TT} (h : PTs X es t) (w : ∀ σ H Q, t' σ H Q → t σ H Q) : PTs X es t' := ⟨fun pins s σ H Q I q => h.run pins s σ H Q I (w σ H Q q)⟩
theorem ts_nil : PTs X [] (rTs X.K ca Γ d []) := PTs.wk pts_nil fun σ H Q q => by
  obtain ⟨n, ρ, st, env, S, L, v, st', he, k⟩ := q
  cases n with
  | zero => cases he
  | succ n =>
    cases he
    exact k ρ H true (Fut.refl _ _ _) S rfl
theorem ts_one (h : PT X a (rT X.K ca Γ d ma)) : PTs X [a] (rTs X.K ca Γ d [ma]) := PTs.wk (pts_one h) fun σ H Q q => by
  obtain ⟨n, ρ, st, env, S, L, v, st', he, k⟩ := q
  cases n with
  | zero => cases he
  | succ n =>
    have he : ((ev Γ n d).t ma env st).bind (fun k st => if k = true then (ev Γ n d).ts [] env st else .ok false st) = .ok v st' := he
    obtain ⟨x, st1, e1, e2⟩ := Res.bind_ok he
    refine ⟨n, ρ, st, env, S, L, x, st1, e1, fun ρ1 H1 c F1 S1 R1 => ?_⟩
    subst R1
    cases x with
    | true =>
      rw [if_pos rfl] at e2
      cases n with
      | zero => cases e2
      | succ n => cases e2; exact k ρ1 H1 true F1 S1 rfl
    | false =>
      rw [if_neg Bool.false_ne_true] at e2
      cases e2
      exact k ρ1 H1 false F1 S1 rfl
/-- a comprehension's reading -/
theorem comp_ok {K : PySem.W.Frag} {t : Tg} {g : TG} {mi : MI} {conds : List ME} {elt : ME} {ws : List Nat} (ht : TgOk K t g) (hw : ∀ i, i ∈ (match t with | .one i => [i] | .many is => is) → i ∈ ws) :
    ∀ σ H Q, rF K ca Γ d (.comp elt t mi conds ws) σ H Q → tLc (rI K ca Γ d mi) g (rTs K ca Γ d conds) (rE K ca Γ d elt) ws σ H Q := by
  intro σ H Q q
  obtain ⟨n, ρ, st, env, S, L, xs, st', he, k⟩ := q
  cases n with
  | zero => cases he
  | succ n =>
    have he : ((ev Γ n d).i mi env st).bind (fun w st => (ev Γ n d).g w t conds elt (wipeE env ws) [] st) = .ok xs st' := he
    obtain ⟨w, st1, e1, e2⟩ := Res.bind_ok he
    refine ⟨n, ρ, st, env, S, L, w, st1, e1, fun ρ1 H1 J wf F1 S1 hwf P D hD => ?_⟩
    have hD0 : H D = none := Fut.none' S F1 S1 hD
    have hx1 : ∀ n, n < st1.next → ρ1 n ≠ D := fun n hn z => by
      obtain ⟨_, u, _, hu, _⟩ := S1.obj n hn
      rw [z, hD] at hu; cases hu
    refine ⟨fun i m H => ∃ ρ2 st2 acc ys, Fut ρ1 st1.next H1 ρ2 st2.next H ∧ Sim K ca ρ2 st2 H ∧ H D = some (.lst ys) ∧ (∀ n, n < st2.next → ρ2 n ≠ D) ∧ RvL K ρ2 st2.next H acc ys ∧
      SlotsR K ρ2 st2.next H (wipeE env ws) (wipe σ ws) ∧ (ev Γ m d).g (wf i) t conds elt (wipeE env ws) acc st2 = .ok xs st', ⟨n, ρ1, st1, [], [], Fut.poke (Fut.refl _ _ _) hD, Sim.grow S1 hD, upd_same, hx1, .nil,
        (Fut.grow S1 hD).slots S1 ((F1.slots S L).wipe ws), by rw [hwf]; exact e2⟩, ?_⟩
    rintro i m H2 ⟨ρ2, st2, acc, ys, F2, S2, hD2, hx2, R2, L2, he2⟩
    cases m with
    | zero => cases he2
    | succ m =>
      have p := P i ρ2 st2 H2 F2 S2
      have he2 : (match (wf i).next st2 with
        | none => .stuck
        | some none => .ok acc st2
        | some (some (v, w')) => match t.set v (wipeE env ws) with
          | none => .stuck
          | some env1 => ((ev Γ m d).ts conds env1 st2).bind fun k st => if k = true then ((ev Γ m d).e elt env1 st).bind fun y st =>
              if acc.length < sizeLine then (ev Γ m d).g w' t conds elt (wipeE env ws) (acc ++ [y]) st else .stuck
            else (ev Γ m d).g w' t conds elt (wipeE env ws) acc st) = Res.ok xs st' := he2
      cases ew : (wf i).next st2 with
      | none => rw [ew] at he2; cases he2
      | some q =>
        rw [ew] at he2 p
        cases q with
        | none =>
          cases he2
          exact .inl ⟨p, k ρ2 H2 D ys (F1.trans F2) S2 hD0 hD2 hx2 R2⟩
        | some q =>
          obtain ⟨v, w'⟩ := q
          obtain ⟨rfl, go, yl⟩ := p
          refine .inr ⟨go, fun H => ∃ ρ2 st2 acc ys, Fut ρ1 st1.next H1 ρ2 st2.next H ∧ Sim K ca ρ2 st2 H ∧ H D = some (.lst ys) ∧ (∀ n, n < st2.next → ρ2 n ≠ D) ∧ RvL K ρ2 st2.next H acc ys ∧
            SlotsR K ρ2 st2.next H (wipeE env ws) (wipe σ ws) ∧ (ev Γ m d).g (wf (i + 1)) t conds elt (wipeE env ws) acc st2 = .ok xs st', fun H' q => ⟨m, Nat.lt_succ_self _, q⟩, fun x H3 hy => ?_⟩
          obtain ⟨F3, S3, R3⟩ := yl x H3 hy
          have hD3 := F3.fr D _ hD2 hx2
          simp only at he2
          cases et : t.set v (wipeE env ws) with
          | none => rw [et] at he2; cases he2
          | some env3 =>
            rw [et] at he2
            obtain ⟨kb, st4, e5, e6⟩ := Res.bind_ok he2
            refine ht ca ρ2 st2 H3 v x (wipeE env ws) env3 _ _ S3 et R3 (F3.slots S2 L2) fun σ3 L3 hw3 => ⟨(hw3 ws hw).trans (wipe_wipe σ ws), ?_⟩
            refine ⟨m, ρ2, st2, env3, S3, L3, kb, st4, e5, fun ρ4 H4 bb F4 S4 R4 => ?_⟩
            subst R4
            have hD4 := F4.fr D _ hD3.1 hD3.2
            cases kb with
            | false =>
              rw [if_neg Bool.false_ne_true] at e6
              refine iteF ?_
              exact ⟨ρ4, st4, acc, ys, (F2.trans F3).trans F4, S4, hD4.1, hD4.2, (F3.trans F4).rvL S2 R2, (F3.trans F4).slots S2 L2, e6⟩
            | true =>
              rw [if_pos rfl] at e6
              refine iteT ?_
              obtain ⟨y, st5, e7, e8⟩ := Res.bind_ok e6
              refine ⟨m, ρ4, st4, env3, S4, F4.slots S3 L3, y, st5, e7, fun ρ5 H5 yv F5 S5 R5 => ?_⟩
              have hD5 := F5.fr D _ hD4.1 hD4.2
              have R2' := ((F3.trans F4).trans F5).rvL S2 R2
              split at e8
              · rename_i hl
                refine ⟨ys, hD5.1, by rw [← R2.length]; exact hl, ρ5, st5, acc ++ [y], ys ++ [yv], (((F2.trans F3).trans F4).trans F5).poke hD, S5.poke hD5.1 hD5.2, upd_same, hD5.2, ?_, ?_, e8⟩
                · exact (R2'.append (.cons R5 .nil)).keep (poke_keep hD5.1)
                · exact (((F3.trans F4).trans F5).slots S2 L2).keep (poke_keep hD5.1)
              · cases e8
theorem s_comp {elt tg iter : Expr} {ifs : List Expr} {scope : Scope} {own : List (Str × Nat)} {t : Tg} {g : TG} {mi : MI} {conds : List ME} {me : ME} (hc : X.calm = true) (hN : X.N.Nodup) (hi : PI X tg iter (rI X.K ca Γ d mi)) (ok : BlkOk X.N X.env.scope scope own)
    (hg : ∀ (s : Shared) (H : Hp) (C : Addr) (cl : List (Str × Addr)) (fp : List Addr), PG (X.blk s H scope (compEnvC scope cl C X.env) fp) tg g)
    (ht : ∀ (s : Shared) (H : Hp) (C : Addr) (cl : List (Str × Addr)) (fp : List Addr), PTs (X.blk s H scope (compEnvC scope cl C X.env) fp) ifs (rTs X.K ca Γ d conds))
    (he : ∀ (s : Shared) (H : Hp) (C : Addr) (cl : List (Str × Addr)) (fp : List Addr), PE (X.blk s H scope (compEnvC scope cl C X.env) fp) elt (rE X.K ca Γ d me))
    (htg : TgOk X.K t g) (hw : ∀ i, i ∈ (match t with | .one i => [i] | .many is => is) → i ∈ own.map (·.2)) (hs : ∀ x, foldedSetIterable iter X.env x = pure x := by intro _; rfl) :
    PE X (.ListComp elt [⟨tg, iter, ifs, 0⟩] scope pos) (rF X.K ca Γ d (.comp me t mi conds (own.map (·.2)))) :=
  PE.wk (pe_lc hc hN hi ok hg ht he hs) (comp_ok htg hw)
/-- y = [..] -/
theorem s_setC {i : Nat} {y : Str} {py : Pos} {elt tg iter : Expr} {ifs : List Expr} {scope : Scope} {own : List (Str × Nat)} {spos : Pos} {t : Tg} {g : TG} {mi : MI} {conds : List ME} {me : ME} (hc : X.calm = true) (hN : X.N.Nodup) (hy : X.N[i]? = some y) (hyl : X.env.scope.names.lookup y = some .local)
    (hsw : swapsWith (.ListComp elt [⟨tg, iter, ifs, 0⟩] scope pos) (some (.Name y py)) spos.line X.env = pure true) (hi : PI X tg iter (rI X.K ca Γ d mi)) (ok : BlkOk X.N X.env.scope scope own)
    (hg : ∀ (s : Shared) (H : Hp) (C : Addr) (cl : List (Str × Addr)) (fp : List Addr), PG (X.blk s H scope (compEnvC scope cl C X.env) fp) tg g)
    (ht : ∀ (s : Shared) (H : Hp) (C : Addr) (cl : List (Str × Addr)) (fp : List Addr), PTs (X.blk s H scope (compEnvC scope cl C X.env) fp) ifs (rTs X.K ca Γ d conds))
    (he : ∀ (s : Shared) (H : Hp) (C : Addr) (cl : List (Str × Addr)) (fp : List Addr), PE (X.blk s H scope (compEnvC scope cl C X.env) fp) elt (rE X.K ca Γ d me))
    (htg : TgOk X.K t g) (hw : ∀ i, i ∈ (match t with | .one i => [i] | .many is => is) → i ∈ own.map (·.2)) (hs : ∀ x, foldedSetIterable iter X.env x = pure x := by intro _; rfl) :
    PS X (.Assign [.Name y py] (.ListComp elt [⟨tg, iter, ifs, 0⟩] scope pos) spos) (rS1 X.K ca Γ d (.set i (.mk (.comp me t mi conds (own.map (·.2)))))) :=
  s_set (ps_setLc hc hN hy hyl hsw hi ok hg ht he hs) fun σ H Q q => comp_ok htg hw σ H Q (by
    obtain ⟨n, ρ, st, env, S, L, v, st', he, k⟩ := q
    cases n with
    | zero => cases he
    | succ n =>
      have he : ((ev Γ n d).l (.comp me t mi conds (own.map (·.2))) env st).bind (fun vs st => newL vs st) = .ok v st' := he
      obtain ⟨xs, st1, e1, e2⟩ := Res.bind_ok he
      refine ⟨n, ρ, st, env, S, L, xs, st1, e1, fun ρ' H' p ys F S' h0 hp hx r => ?_⟩
      unfold newL at e2
      split at e2
      · cases e2
        have q := k (ext ρ' st1.next p) H' (.ref p) (Fut.adopt S F h0) (Sim.adopt S' hp hx (.lst r))
        refine q ?_
        have q2 : Rv X.K (ext ρ' st1.next p) (st1.add (.lst xs)).next H' (.ref st1.next) (.ref (ext ρ' st1.next p st1.next)) := .ref (Nat.lt_succ_self _)
        rw [ext_same] at q2
        exact q2
      · cases e2)
end
end MP

set_option Elab.async false
set_option linter.all false
set_option maxRecDepth 100000
set_option maxHeartbeats 4000000
namespace MP
open PySem PySem.Spec PyProof.Rows L2
section
variable {X : Cx} {ca : Cls0} {ρ : Nat → Addr} {st : Store} {H : Hp} {pins : List (Addr × Obj)} {σ : L2.St} {s : Shared}
/-- what repr asks of a value: it reads as data, and its text is made -/
def ReprV (X : Cx) (h : Heap) (u : Value) (d : PyData) : Prop := (∃ as, Reads h u d as) ∧ ∃ bs, ReadAtMost h d.depth bs ∧ ReprK X.prog X.w bs h d.depth u d.shown
def ReprVs (X : Cx) (h : Heap) (us : List Value) (ds : List PyData) : Prop := (∃ as, ReadsAll h us ds as) ∧ ∃ bs, ReadAtMost h (PyData.depthAll ds) bs ∧ ReprAllK X.prog X.w bs h (PyData.depthAll ds) us (PyData.shownAll ds)
theorem repr_list (f : Nat) (ih : ∀ (v : MV) (x : V) (u : Value) (d : PyData), toR st f v = some d → Rv X.K ρ st.next H v x → RelV x u → d.showable = true → d.shown.length ≤ sizeLine → ReprV X s.heap u d) :
    ∀ (xs : List MV) (ys : List V) (us : List Value) (ds : List PyData), xs.mapM (toR st f) = some ds → RvL X.K ρ st.next H xs ys → Vals ys us → PyData.showableAll ds = true → (∀ t ∈ PyData.shownAll ds, t.length ≤ sizeLine) → ReprVs X s.heap us ds
  | [], _, _, ds, h, r, rv, _, _ => by
    cases r; cases rv
    simp at h
    subst h
    exact ⟨⟨_, .nil⟩, [], (fun _ h => nomatch h), by simp only [PyData.shownAll]; exact .nil⟩
  | v :: vs, _, _, ds, h, r, rv, hs, hz => by
    cases r with
    | cons r1 r2 =>
      cases rv with
      | cons v1 v2 =>
        rw [List.mapM_cons] at h
        cases e1 : toR st f v with
        | none => rw [e1] at h; cases h
        | some d =>
          rw [e1] at h
          cases e2 : vs.mapM (toR st f) with
          | none => rw [e2] at h; cases h
          | some t =>
            rw [e2] at h
            cases h
            have hs' : d.showable = true ∧ PyData.showableAll t = true := by simpa [PyData.showableAll] using hs
            obtain ⟨⟨as1, a1⟩, b1, hb1, k1⟩ := ih v _ _ d e1 r1 v1 hs'.1 (hz _ (by simp only [PyData.shownAll]; exact List.mem_cons_self ..))
            obtain ⟨⟨as2, a2⟩, b2, hb2, k2⟩ := repr_list f ih vs _ _ t e2 r2 v2 hs'.2 (fun q hq => hz q (by simp only [PyData.shownAll]; exact List.mem_cons_of_mem _ hq))
            refine ⟨⟨_, .cons a1 a2⟩, b1 ++ b2, ?_, ?_⟩
            · intro b hm
              simp only [PyData.depthAll]
              rcases List.mem_append.mp hm with hm | hm
              · obtain ⟨d', as', r', hd'⟩ := hb1 b hm
                exact ⟨d', as', r', Nat.le_trans hd' (Nat.le_max_left _ _)⟩
              · obtain ⟨d', as', r', hd'⟩ := hb2 b hm
                exact ⟨d', as', r', Nat.le_trans hd' (Nat.le_max_right _ _)⟩
            · simp only [PyData.depthAll, PyData.shownAll]
              exact .cons ((k1.more fun b hb => List.mem_append_left _ hb).level_le (Nat.le_max_left _ _)) (k2.more_le (fun b hb => List.mem_append_right _ hb) (Nat.le_max_right _ _))
/-- a list's parts -/
theorem repr_lst {a : Addr} {its : List Value} {ds : List PyData} (p : PlainL s.heap a its.toArray) (q : ReprVs X s.heap its ds) (hz : (listText (PyData.shownAll ds)).length ≤ sizeLine) : ReprV X s.heap (.ref a) (.list ds) := by
  obtain ⟨o, n, h1, h2, _, h3⟩ := p
  obtain ⟨⟨as, ha⟩, bs, hb, hk⟩ := q
  have r : Reads s.heap (.ref a) (.list ds) _ := .list h1 h2 h3 ha
  have hna : a ∉ bs := not_mem_of_deeper r (by simp only [PyData.depth]; omega) hb
  refine ⟨⟨_, r⟩, a :: bs, ReadAtMost.cons r (by simp only [PyData.depth]; omega) hb, ?_⟩
  simp only [PyData.depth, PyData.shown]
  cases its with
  | nil =>
    cases ha
    simp only [PyData.shownAll, listText_nil]
    exact ReprK.listEmpty h1 h2 h3
  | cons x l => exact ReprK.list h1 h2 h3 hna (by simpa using hk.length_eq) (fun i y e => hk.item i y (by simpa using e))
theorem repr_tup {a : Addr} {its : List Value} {ds : List PyData} (p : IsTup s.heap a its.toArray) (q : ReprVs X s.heap its ds) : ReprV X s.heap (.ref a) (.tuple ds) := by
  obtain ⟨o, h1, h2, n, h3⟩ := p
  obtain ⟨⟨as, ha⟩, bs, hb, hk⟩ := q
  have r : Reads s.heap (.ref a) (.tuple ds) _ := .tuple h1 h2 h3 ha
  have hna : a ∉ bs := not_mem_of_deeper r (by simp only [PyData.depth]; omega) hb
  refine ⟨⟨_, r⟩, a :: bs, ReadAtMost.cons r (by simp only [PyData.depth]; omega) hb, ?_⟩
  simp only [PyData.depth, PyData.shown]
  exact ReprK.tuple h1 h2 h3 hna hk
/-- an empty dict's object -/
theorem dk0 (I : Inv X pins σ H s) {a : Addr} (e : H a = some (.dK [])) : (a == sysModules) = false ∧ ∃ (o : Obj) (n : Nat), s.heap.get? a = some o ∧ o.cls = .type "dict" ∧ o.data = .dict #[] n := by
  obtain ⟨_, z, vs, r, o, es, ep, h1, h2, h3, _, hp, _⟩ := dk_of I.hok e
  cases r
  obtain ⟨l⟩ := es
  cases hp
  exact ⟨z, o, ep, h1, h2.1, h3⟩
theorem repr_dk {a : Addr} {o : Obj} {n : Nat} (h1 : s.heap.get? a = some o) (h2 : o.cls = .type "dict") (h3 : o.data = .dict #[] n) (hsys : (a == sysModules) = false) : ReprV X s.heap (.ref a) (.dict []) := by
  have r : Reads s.heap (.ref a) (.dict []) _ := .dict h1 h2 h3 .nil .nil
  refine ⟨⟨_, r⟩, [a], ReadAtMost.cons r (Nat.zero_le _) (fun _ h => nomatch h), ?_⟩
  simp only [PyData.depth, PyData.shown, PyData.depthKv]
  exact ReprK.dict h1 h2 h3 hsys (fun h => nomatch h) .nil
theorem repr_rv (I : Inv X pins σ H s) (S : Sim X.K ca ρ st H) : ∀ (f : Nat) (v : MV) (x : V) (u : Value) (d : PyData), toR st f v = some d → Rv X.K ρ st.next H v x → RelV x u → d.showable = true → d.shown.length ≤ sizeLine → ReprV X s.heap u d
  | 0, _, _, _, _, h, _, _, _, _ => by cases h
  | f + 1, v, x, u, d, h, r, ru, hs, hz => by
    cases r with
    | non => cases h; cases ru; exact ⟨⟨_, .none⟩, [], (fun _ h => nomatch h), by simp only [PyData.shown]; exact .of_is ReprIs.none _ _ _⟩
    | bl b => cases h; cases ru; exact ⟨⟨_, .bool b⟩, [], (fun _ h => nomatch h), by simp only [PyData.shown]; exact .of_is (ReprIs.bool b) _ _ _⟩
    | int i => cases h; obtain ⟨t, rfl⟩ := ru; exact ⟨⟨_, .int i t⟩, [], (fun _ h => nomatch h), by simp only [PyData.shown]; exact .of_is (ReprIs.int t (by simpa [PyData.showable] using hs)) _ _ _⟩
    | str x => cases h; obtain ⟨t, rfl⟩ := ru; exact ⟨⟨_, .str x t⟩, [], (fun _ h => nomatch h), by simp only [PyData.shown]; exact .of_is (ReprIs.str x t (by simpa only [PyData.shown] using hz)) _ _ _⟩
    | @tup p ys xs hp hr =>
      cases ru
      have h' : (xs.mapM (toR st f)).map PyData.tuple = some d := h
      cases e : xs.mapM (toR st f) with
      | none => rw [e] at h'; cases h'
      | some ds =>
        rw [e] at h'
        cases h'
        obtain ⟨its, rv, q, _⟩ := I.tuple hp
        have hz' : (tupleText (PyData.shownAll ds)).length ≤ sizeLine := by simpa only [PyData.shown] using hz
        exact repr_tup q (repr_list f (repr_rv I S f) xs ys its ds e hr rv (by simpa [PyData.showable] using hs) (fun t ht => Nat.le_trans (tupleText_mem_le ht) hz'))
    | @scr p ys xs hp hr =>
      cases ru
      have h' : (xs.mapM (toR st f)).map PyData.list = some d := h
      cases e : xs.mapM (toR st f) with
      | none => rw [e] at h'; cases h'
      | some ds =>
        rw [e] at h'
        cases h'
        obtain ⟨its, rv, q, _⟩ := I.list hp.sq
        have hz' : (listText (PyData.shownAll ds)).length ≤ sizeLine := by simpa only [PyData.shown] using hz
        exact repr_lst q (repr_list f (repr_rv I S f) xs ys its ds e hr rv (by simpa [PyData.showable] using hs) (fun t ht => Nat.le_trans (listText_mem_le ht) hz')) hz'
    | @ref n hn =>
      cases ru
      have h' : (match st.get n with
        | some (.lst xs) => (xs.mapM (toR st f)).map PyData.list
        | some (.dK []) => some (.dict [])
        | _ => none) = some d := h
      cases e0 : st.get n with
      | none => rw [e0] at h'; cases h'
      | some o =>
        rw [e0] at h'
        obtain ⟨w, hw, ro⟩ := S.at hn e0
        cases ro with
        | @lst xs ys hr =>
          have h2 : (xs.mapM (toR st f)).map PyData.list = some d := h'
          cases e : xs.mapM (toR st f) with
          | none => rw [e] at h2; cases h2
          | some ds =>
            rw [e] at h2
            cases h2
            obtain ⟨its, rv, q, _⟩ := I.list (SqL.of hw)
            have hz' : (listText (PyData.shownAll ds)).length ≤ sizeLine := by simpa only [PyData.shown] using hz
            exact repr_lst q (repr_list f (repr_rv I S f) xs _ its ds e hr rv (by simpa [PyData.showable] using hs) (fun t ht => Nat.le_trans (listText_mem_le ht) hz')) hz'
        | @dK xs ys hr =>
          cases xs with
          | cons _ _ => cases h'
          | nil =>
            cases h'
            cases hr
            obtain ⟨hsys, o, n, h1, h2, h3⟩ := dk0 I hw
            exact repr_dk h1 h2 h3 hsys
        | ins _ => cases h'
/-- repr's call -/
def rRepr (K : PySem.W.Frag) : List V → Hp → VK → Prop := fun xs H Q => ∃ (ca : Cls0) (ρ : Nat → Addr) (st : Store) (v : MV) (x : V) (d : PyData), xs = [x] ∧ Sim K ca ρ st H ∧ Rv K ρ st.next H v x ∧ toR st 66 v = some d ∧
  (d.showable = true ∧ d.shown.length ≤ sizeLine ∧ d.depth ≤ 64) ∧ Q (.str d.shown) H
theorem call_reprR (hg : X.A.guards = some []) (hu : X.A.units + 67 < cLine) : CallR X (.builtin "repr") (rRepr X.K) := by
  intro pins s σ H xs us Q I rv h
  obtain ⟨ca, ρ, st, v, x, d, rfl, S, r, e, ⟨h1, h2, h3⟩, q⟩ := h
  obtain ⟨u, rfl, ru⟩ := Vals.one rv
  have e' : toR st (65 + 1) v = some d := e
  cases r with
  | non => cases e'; cases ru; exact P.repr_of_none ⟨.str _, H, I.tok _, ⟨_, rfl⟩, by simpa [PyData.shown] using q⟩
  | bl b => cases e'; cases ru; exact P.repr_of_bool ⟨.str _, H, I.tok _, ⟨_, rfl⟩, by simpa [PyData.shown] using q⟩
  | int i => cases e'; obtain ⟨t, rfl⟩ := ru; exact P.repr_of_int (by simpa [PyData.showable] using h1) ⟨.str _, H, I.tok _, ⟨_, rfl⟩, by simpa [PyData.shown] using q⟩
  | str x => cases e'; obtain ⟨t, rfl⟩ := ru; exact P.repr_of_str ⟨.str _, H, I.tok _, ⟨_, rfl⟩, by simpa [PyData.shown] using q⟩ (by simpa [PyData.shown] using h2)
  | @tup p ys xs hp hr =>
    cases ru
    have h' : (xs.mapM (toR st 65)).map PyData.tuple = some d := e'
    cases e2 : xs.mapM (toR st 65) with
    | none => rw [e2] at h'; cases h'
    | some ds =>
      rw [e2] at h'
      cases h'
      obtain ⟨its, rv, pq, _⟩ := I.tuple hp
      have hz' : (tupleText (PyData.shownAll ds)).length ≤ sizeLine := by simpa only [PyData.shown] using h2
      have hq := repr_list (s := s) 65 (repr_rv I S 65) xs ys its ds e2 hr rv (by simpa [PyData.showable] using h1) (fun t ht => Nat.le_trans (tupleText_mem_le ht) hz')
      obtain ⟨o, g1, g2, n, g3⟩ := pq
      obtain ⟨⟨as, ha⟩, bs, hb, hk⟩ := hq
      have hna : p ∉ bs := not_mem_of_deeper (.tuple g1 g2 g3 ha) (by simp only [PyData.depth]; omega) hb
      simp only [PyData.depth] at h3
      refine call_repr_slot (by omega) ⟨o, g1, g2⟩ F.slot_tuple_repr (call_tuple_reprK g1 g2 g3 hna hk hg (fun b _ => Clear.nil b) (by show X.A.units + 1 + (PyData.depthAll ds + 1) < cLine; omega) (fun _ _ e => e) (fun h' u tk hk' => ⟨_, _, rfl, .str _, H, I.kept hk', ⟨_, rfl⟩, by simpa only [PyData.shown] using q⟩) hz')
  | @scr p ys xs hp hr =>
    cases ru
    have h' : (xs.mapM (toR st 65)).map PyData.list = some d := e'
    cases e2 : xs.mapM (toR st 65) with
    | none => rw [e2] at h'; cases h'
    | some ds =>
      rw [e2] at h'
      cases h'
      obtain ⟨its, rv, pq, _⟩ := I.list hp.sq
      have hz' : (listText (PyData.shownAll ds)).length ≤ sizeLine := by simpa only [PyData.shown] using h2
      have hq := repr_list (s := s) 65 (repr_rv I S 65) xs ys its ds e2 hr rv (by simpa [PyData.showable] using h1) (fun t ht => Nat.le_trans (listText_mem_le ht) hz')
      exact repr_top hg hu pq hq h3 hz' I (by simpa only [PyData.shown] using q)
  | @ref n hn =>
    cases ru
    have h' : (match st.get n with
      | some (.lst xs) => (xs.mapM (toR st 65)).map PyData.list
      | some (.dK []) => some (.dict [])
      | _ => none) = some d := e'
    cases e0 : st.get n with
    | none => rw [e0] at h'; cases h'
    | some o =>
      rw [e0] at h'
      obtain ⟨w, hw, ro⟩ := S.at hn e0
      cases ro with
      | @lst xs ys hr =>
        have h5 : (xs.mapM (toR st 65)).map PyData.list = some d := h'
        cases e2 : xs.mapM (toR st 65) with
        | none => rw [e2] at h5; cases h5
        | some ds =>
          rw [e2] at h5
          cases h5
          obtain ⟨its, rv, pq, _⟩ := I.list (SqL.of hw)
          have hz' : (listText (PyData.shownAll ds)).length ≤ sizeLine := by simpa only [PyData.shown] using h2
          have hq := repr_list (s := s) 65 (repr_rv I S 65) xs _ its ds e2 hr rv (by simpa [PyData.showable] using h1) (fun t ht => Nat.le_trans (listText_mem_le ht) hz')
          exact repr_top hg hu pq hq h3 hz' I (by simpa only [PyData.shown] using q)
      | @dK xs ys hr =>
        cases xs with
        | cons _ _ => cases h'
        | nil =>
          cases h'
          cases hr
          obtain ⟨hsys, o, n, g1, g2, g3⟩ := dk0 I hw
          have e3 : (PyData.dict []).shown = dictText [] := by simp only [PyData.shown, PyData.shownKv]
          rw [e3] at q h2
          exact call_repr_slot (by omega) ⟨o, g1, g2⟩ F.slot_dict_repr (call_dict_reprK (as := []) (d := 0) g1 g2 g3 hsys (fun h => nomatch h) .nil hg (fun b _ => Clear.nil b) (by show X.A.units + 1 + (0 + 1) < cLine; omega) (fun _ _ e => e) (fun h' u tk hk' => ⟨_, _, rfl, .str _, H, I.kept hk', ⟨_, rfl⟩, q⟩) h2)
      | ins _ => cases h'
where
  repr_top {X : Cx} {pins : List (Addr × Obj)} {σ : L2.St} {H : Hp} {s : Shared} {a : Addr} {its : List Value} {ds : List PyData} {Q : VK} (hg : X.A.guards = some []) (hu : X.A.units + 67 < cLine) (p : PlainL s.heap a its.toArray) (q : ReprVs X s.heap its ds) (h3 : (PyData.list ds).depth ≤ 64)
      (hz : (listText (PyData.shownAll ds)).length ≤ sizeLine) (I : Inv X pins σ H s) (k : Q (.str (listText (PyData.shownAll ds))) H) : wpAny (model X.prog X.w) X.A (call (.builtin "repr") [.ref a]) (EP X pins σ Q) X.xe s := by
    obtain ⟨o, n, g1, g2, _, g3⟩ := p
    obtain ⟨⟨as, ha⟩, bs, hb, hk⟩ := q
    have hna : a ∉ bs := not_mem_of_deeper (.list g1 g2 g3 ha) (by simp only [PyData.depth]; omega) hb
    simp only [PyData.depth] at h3
    refine call_repr_slot (by omega) ⟨o, g1, g2⟩ F.slot_list_repr.toG ?_
    cases its with
    | nil =>
      cases ha
      simp only [PyData.shownAll, listText_nil] at k
      exact call_list_repr_empty ⟨o, g1, g2⟩ g1 g3 ⟨_, _, rfl, .str _, H, I.tok _, ⟨_, rfl⟩, k⟩
    | cons x l =>
      exact call_list_reprK g1 g2 g3 hna (by simpa using hk.length_eq) (fun i y e => hk.item i y (by simpa using e)) hg (fun b _ => Clear.nil b) (by show X.A.units + 1 + (PyData.depthAll ds + 1) < cLine; omega) (fun _ _ e => e) (fun h' u tk hk' => ⟨_, _, rfl, .str _, H, I.kept hk', ⟨_, rfl⟩, k⟩) hz
end
section
variable {X : Cx} {ca : Cls0} {Γ : Tab} {d : Nat} {a : Expr} {ma : ME} {pos : Pos}
theorem boot_repr : bootBuiltins "repr" = some (.builtin "repr") := by decide +kernel
theorem s_repr {p : Pos} {k : Nat} (hr : Room k X.A) (hgd : X.A.guards = some []) (hg : Gl X "repr") (hm : X.mg "repr" = none) (ha : PA X [a] (rA X.K ca Γ d [ma])) (na : ns a = true := by rfl) : PE X (.Call (.Name "repr" p) [a] [] pos) (rE X.K ca Γ d (.bi .repr [ma])) :=
  eA_wk (r := rRepr X.K) (pe_callB (call_reprR hgd (by have := hr.un; omega)) hg hm boot_repr ha (by decide) (by decide) (star_cons na) rfl) (fun _ _ _ => rfl) fun ρ st H x xv v st' Q h S hx c => by
    cases hx with
    | nil => cases h
    | @cons w y _ _ h1 t =>
      cases t with
      | cons _ _ => cases h1 <;> cases h
      | nil =>
        have h' : (match toR st 66 w with
          | some d => if d.showable = true ∧ d.shown.length ≤ sizeLine ∧ d.depth ≤ 64 then Res.ok (MV.str d.shown) st else .stuck
          | none => .stuck) = .ok v st' := by
          exact h
        cases e : toR st 66 w with
        | none => rw [e] at h'; cases h'
        | some dd =>
          rw [e] at h'
          simp only at h'
          split at h'
          · cases h'
            exact ⟨ca, ρ, st, w, y, dd, rfl, S, h1, e, by assumption, c.here S (.str _)⟩
          · cases h'
/-! ### a dict's display -/
def readsP (K : PySem.W.Frag) (ca : Cls0) (Γ : Tab) (d : Nat) (kvs : List (ME × ME)) : List (TE × TE) := kvs.map fun kv => (rE K ca Γ d kv.1, rE K ca Γ d kv.2)
theorem p_nil {pos : Pos} : PPs X pos [] [] (readsP X.K ca Γ d []) := pps_nil
theorem p_cons {pos : Pos} {k v : Expr} {ks : List (Option Expr)} {vs : List Expr} {mk mv : ME} {kvs : List (ME × ME)} (hk : PE X k (rE X.K ca Γ d mk)) (hv : PE X v (rE X.K ca Γ d mv)) (hr : PPs X pos ks vs (readsP X.K ca Γ d kvs)) :
    PPs X pos (some k :: ks) (v :: vs) (readsP X.K ca Γ d ((mk, mv) :: kvs)) := pps_cons hk hv hr
theorem pairs_rd {K : PySem.W.Frag} : ∀ (kvs : List (ME × ME)) (n : Nat) (ρ : Nat → Addr) (st : Store) (env : Env) (σ : L2.St) (H : Hp) (ps : List (MV × MV)) (st' : Store) (q : List (Key × MV)) (Q : List (V × V) → Hp → Prop), Sim K ca ρ st H → SlotsR K ρ st.next H env σ →
    (ev Γ n d).p kvs env st = .ok ps st' → kvsV ps = some q →
    (∀ ρ' H' ys, Fut ρ st.next H ρ' st'.next H' → Sim K ca ρ' st' H' → RvP K ρ' st'.next H' q ys → ys.length = kvs.length → Q (ys.map fun kv => (kV kv.1, kv.2)) H') → tPairs (readsP K ca Γ d kvs) σ H Q
  | [], n, ρ, st, env, σ, H, ps, st', q, Q, S, L, he, hq, k => by
    cases n with
    | zero => cases he
    | succ n =>
      cases he
      cases hq
      exact k ρ H [] (Fut.refl _ _ _) S .nil rfl
  | (mk, mv) :: kvs, n, ρ, st, env, σ, H, ps, st', q, Q, S, L, he, hq, k => by
    cases n with
    | zero => cases he
    | succ n =>
      have he : ((ev Γ n d).e mk env st).bind (fun q st => ((ev Γ n d).e mv env st).bind fun v st => ((ev Γ n d).p kvs env st).bind fun vs st => .ok ((q, v) :: vs) st) = .ok ps st' := he
      obtain ⟨x, st1, e1, e2⟩ := Res.bind_ok he
      obtain ⟨y, st2, e3, e4⟩ := Res.bind_ok e2
      obtain ⟨r, st3, e5, e6⟩ := Res.bind_ok e4
      cases e6
      have hq' : (match keyV x, kvsV r with
        | some q, some t => some ((q, y) :: t)
        | _, _ => none) = some q := hq
      cases e7 : keyV x with
      | none => rw [e7] at hq'; cases hq'
      | some kx =>
        cases e8 : kvsV r with
        | none => rw [e7, e8] at hq'; cases hq'
        | some t =>
          rw [e7, e8] at hq'
          cases hq'
          refine ⟨n, ρ, st, env, S, L, x, st1, e1, fun ρ1 H1 xv F1 S1 R1 => ⟨n, ρ1, st1, env, S1, F1.slots S L, y, st2, e3, fun ρ2 H2 yv F2 S2 R2 => ?_⟩⟩
          refine pairs_rd kvs n ρ2 st2 env σ H2 r _ t _ S2 (F2.slots S1 (F1.slots S L)) e5 e8 fun ρ3 H3 ys F3 S3 R3 hl => ?_
          have hx : xv = kV kx := key_rv e7 R1
          have := k ρ3 H3 ((kx, yv) :: ys) ((F1.trans F2).trans F3) S3 (.cons (F3.rv S2 R2) R3) (by simp [hl])
          rw [hx]
          exact this
theorem s_dic {ks : List (Option Expr)} {vs : List Expr} {kvs : List (ME × ME)} (h : PPs X pos ks vs (readsP X.K ca Γ d kvs)) (hall : ks.all (·.isSome) = true := by rfl) (hl : ks.length = vs.length := by rfl) (h0 : ks ≠ [] := by exact List.cons_ne_nil _ _) (h15 : ks.length ≤ 15 := by decide) (hk : kvs.length = ks.length := by rfl) :
    PE X (.Dict ks vs pos) (rE X.K ca Γ d (.dicD kvs)) := by
  refine PE.wk (pe_disp h hall hl h0 h15) fun σ H Q q => ?_
  obtain ⟨n, ρ, st, env, S, L, v, st', he, k⟩ := q
  cases n with
  | zero => cases he
  | succ n =>
    have he : (if kvs.length ≤ 15 then ((ev Γ n d).p kvs env st).bind (fun ps st => match kvsV ps with
      | some q => Res.ok (MV.ref st.next) (st.add (.dK (kvMerge [] q)))
      | none => .stuck) else .stuck) = .ok v st' := he
    rw [if_pos (by rw [hk]; exact h15)] at he
    obtain ⟨ps, st1, e1, e2⟩ := Res.bind_ok he
    cases e3 : kvsV ps with
    | none => rw [e3] at e2; cases e2
    | some t =>
      rw [e3] at e2
      cases e2
      intro p hp
      refine pairs_rd kvs n ρ st env σ _ ps st1 t _ (S.grow hp) ((Fut.grow S hp).slots S L) e1 e3 fun ρ' H' ys F S' R hlen => ?_
      have hpx : ∀ n, n < st.next → ρ n ≠ p := fun n hn z => by
        obtain ⟨_, u, _, hu, _⟩ := S.obj n hn
        rw [z, hp] at hu; cases hu
      obtain ⟨h1, h2⟩ := F.fr p _ (upd_same) hpx
      refine ⟨h1, ys, rfl, by rw [hlen, hk]; exact h15, ?_⟩
      have keep : ∀ a o, Imm o → H' a = some o → (upd H' p (.dK (mergeK [] ys))) a = some o := fun a o i e => by
        have : a ≠ p := fun z => by rw [z, h1] at e; cases e; exact i
        rw [upd_ne this]; exact e
      have Rm : RvP X.K ρ' st1.next H' (kvMerge [] t) (mergeK [] ys) := merge_rv .nil R
      have S2 : Sim X.K ca ρ' st1 (upd H' p (.dK (mergeK [] ys))) := ⟨S'.wf, S'.inj, fun n hn => by
        obtain ⟨mo, u, g1, g2, g3⟩ := S'.obj n hn
        exact ⟨mo, u, g1, by rw [upd_ne (h2 n hn)]; exact g2, RO.keep keep g3⟩⟩
      have S3 := Sim.adopt S2 (p := p) (mo := .dK (kvMerge [] t)) upd_same h2 (.dK (RvP.keep keep Rm))
      have F0 : Fut ρ st.next H ρ' st1.next H' := (Fut.grow S hp).trans F
      have F2 : Fut ρ st.next H ρ' st1.next (upd H' p (.dK (mergeK [] ys))) := ⟨F0.le, F0.agr, fun a o e hx => by
        obtain ⟨g1, g2⟩ := F0.fr a o e hx
        have : a ≠ p := ne_of_none e hp
        exact ⟨by rw [upd_ne this]; exact g1, g2⟩⟩
      have F3 := Fut.adopt S F2 hp
      have q := k _ _ (.ref p) F3 S3
      refine q ?_
      have q2 : Rv X.K (ext ρ' st1.next p) (st1.add (.dK (kvMerge [] t))).next (upd H' p (.dK (mergeK [] ys))) (.ref st1.next) (.ref (ext ρ' st1.next p st1.next)) := .ref (Nat.lt_succ_self _)
      rw [ext_same] at q2
      exact q2
theorem s_dic0 : PE X (.Dict [] [] pos) (rE X.K ca Γ d (.dicD [])) := by
  refine PE.wk pe_dnewK fun σ H Q q => ?_
  obtain ⟨n, ρ, st, env, S, L, v, st', he, k⟩ := q
  cases n with
  | zero => cases he
  | succ n =>
    cases n with
    | zero => cases he
    | succ n =>
      have he : Res.ok (MV.ref st.next) (st.add (.dK [])) = .ok v st' := he
      cases he
      intro p hp
      have q := k (ext ρ st.next p) (upd H p (.dK [])) (.ref p) (Fut.alloc S hp) (Sim.alloc S hp (.dK .nil))
      refine q ?_
      have q2 : Rv X.K (ext ρ st.next p) (st.add (.dK [])).next (upd H p (.dK [])) (.ref st.next) (.ref (ext ρ st.next p st.next)) := .ref (Nat.lt_succ_self _)
      rw [ext_same] at q2
      exact q2
end
end MP

set_option Elab.async false
set_option linter.all false
set_option maxRecDepth 100000
set_option maxHeartbeats 4000000
namespace MP
open PySem PySem.Spec PyProof.Rows L2

/-- a def's promise, where no guard is up -/
structure FnG (P : Program) (w : World) (K : PySem.W.Frag) (mg : Str → Option Value) (base : Heap) (k : Nat) (f : Addr) (fd : FuncData) (ps : List Str) (sp : Sp) : Prop where
  len : ∀ vs H Q E, sp vs H Q E → vs.length = ps.length
  go : ∀ (A : Around) (outer : List PySem.Env) (s : Shared) (H : Hp) (args : Args) (us : List Value) (vs : List V) (Q : VK) (E : XK), Room k A → A.guards = some [] →
    Env0 P w K mg base A outer s H → BindsTo s fd args (ps.zip us) → Vals vs us → sp vs H Q E → codeAny (model P w) A (.call (.ref f) args) (CR CX0 outer P w H s Q E) s
/-- what a def of the table promises: what the evaluator reckons of its body -/
def spF (K : PySem.W.Frag) (ca : Cls0) (Γ : Tab) (d f : Nat) : Sp := fun vs H Q _ =>
  ∃ n ρ st mvs fn, Γ f = some fn ∧ Sim K ca ρ st H ∧ RvL K ρ st.next H mvs vs ∧ Out K ca (Rv K) ρ st H (callB (ev Γ n d) fn mvs st) Q
/-- all defs of the table, for a body at depth d -/
def Fns (P : Program) (w : World) (K : PySem.W.Frag) (mg : Str → Option Value) (base : Heap) (ca : Cls0) (Γ : Tab) (nm : Nat → Str) (d : Nat) : Prop :=
  ∀ d', d = d' + 1 → ∀ f fn, Γ f = some fn → ∃ a fd ps, mg (nm f) = some (.ref a) ∧ PySem.W.keepIn K (.ref a) = true ∧ Binds K fd ps [] ∧ FnG P w K mg base d a fd ps (spF K ca Γ d' f)
/-- what a body's context bears -/
structure Cg (X : Cx) (ca : Cls0) (Γ : Tab) (nm : Nat → Str) (d : Nat) : Prop where
  room : Room d X.A
  gd : X.A.guards = some []
  calm : X.calm = true
  fns : Fns X.prog X.w X.K X.mg X.base ca Γ nm d
theorem Cg.blk {X : Cx} {ca : Cls0} {Γ : Tab} {nm : Nat → Str} {d : Nat} (C : Cg X ca Γ nm d) (s : Shared) (H : Hp) (sc : Scope) (env : PySem.Env) (fp : List Addr) : Cg (X.blk s H sc env fp) ca Γ nm d := ⟨C.room, C.gd, C.calm, C.fns⟩
section
variable {X : Cx} {ca : Cls0} {Γ : Tab} {nm : Nat → Str} {d : Nat}
theorem FnG.call {k : Nat} {f : Addr} {fd : FuncData} {ps : List Str} {sp : Sp} {pins : List (Addr × Obj)} {σ : L2.St} {H : Hp} {s : Shared} {Q : VK} {us : List Value} {vs : List V} (F : FnG X.prog X.w X.K X.mg X.base k f fd ps sp) (hr : Room k X.A) (hg : X.A.guards = some []) (hb : Binds X.K fd ps [])
    (I : Inv X pins σ H s) (r : Vals vs us) (h : sp vs H Q E0) : wpAny (model X.prog X.w) X.A (PySem.call (.ref f) us) (EP X pins σ Q) X.xe s := by
  have hz : us.length = ps.length := r.length.symm.trans (F.len _ _ _ _ h)
  have bt := hb s us I.kIn (by rw [List.append_nil]; exact hz)
  rw [List.append_nil] at bt
  refine wpAny_call (codeAny_mono (F.go X.A X.stack s H ⟨us, []⟩ us vs Q E0 hr hg I.env0 bt r h) fun res s2 hq => ?_)
  match res, hq with
  | .ok (.ret _), hq => exact I.after hq
  | .ok .next, hq => exact False.elim hq
  | .ok .brk, hq => exact False.elim hq
  | .ok .cont, hq => exact False.elim hq
  | .error _, hq => exact False.elim hq
theorem pe_false {e : Expr} : PE X e (fun _ _ _ => False) := ⟨fun _ _ _ _ _ _ h => h.elim⟩
theorem s_call {f : Nat} {x : Str} {p pos : Pos} {e : Expr} {es : List Expr} {ms : List ME} (C : Cg X ca Γ nm d) (hg : Gl X x) (hx : nm f = x) (ha : PA X (e :: es) (rA X.K ca Γ d ms)) (hs : (e :: es).all ns = true := by rfl) (hd : (x == ("__debug__" : Str)) = false := by decide) :
    PE X (.Call (.Name x p) (e :: es) [] pos) (rE X.K ca Γ d (.call f ms)) := by
  have dead : (∀ n env st vs st1, (ev Γ n d).a ms env st = .ok vs st1 → (match Γ f, d with
      | some fn, d' + 1 => callB (ev Γ n d') fn vs st1
      | _, _ => .stuck) = Res.stuck) → PE X (.Call (.Name x p) (e :: es) [] pos) (rE X.K ca Γ d (.call f ms)) := fun hst => PE.wk pe_false fun σ H Q q => by
    obtain ⟨n, ρ, st, env, S, L, v, st', he, k⟩ := q
    cases n with
    | zero => cases he
    | succ n =>
      have he : ((ev Γ n d).a ms env st).bind (fun vs st => match Γ f, d with
        | some fn, d' + 1 => callB (ev Γ n d') fn vs st
        | _, _ => .stuck) = .ok v st' := he
      obtain ⟨vs, st1, e1, e2⟩ := Res.bind_ok he
      have e3 := (hst n env st vs st1 e1).symm.trans e2
      cases e3
  cases hd0 : d with
  | zero => subst hd0; exact dead fun _ _ _ _ _ _ => by cases Γ f <;> rfl
  | succ d' =>
    cases hf : Γ f with
    | none => rw [← hd0]; exact dead fun _ _ _ _ _ _ => by rw [hf]
    | some fn =>
      subst hd0
      obtain ⟨a, fd, ps, m1, kp, bd, F⟩ := C.fns d' rfl f fn hf
      rw [hx] at m1
      rw [List.all_cons, Bool.and_eq_true] at hs
      have core : PE X (.Call (.Name x p) (e :: es) [] pos) (fun σ H Q => rA X.K ca Γ (d' + 1) ms σ H fun vs H1 => spF X.K ca Γ d' f vs H1 Q E0) := ⟨fun pins s σ H Q I h => by
        refine wpAny_Call_Name_kw (ld_glob I hg m1 ?_ hd)
        refine PySem.W.callWith_K (h₀ := X.base) I.ok.mod.kin kp (thn (ha.run pos pins s σ H _ I h) fun us s1 ⟨vs, H1, I1, r, q⟩ => ⟨I1.kIn, ?_⟩) (star_cons hs.1) (star_any hs.2)
        exact F.call C.room C.gd bd I1 r q⟩
      refine PE.wk core fun σ H Q q => ?_
      obtain ⟨n, ρ, st, env, S, L, v, st', he, k⟩ := q
      cases n with
      | zero => cases he
      | succ n =>
        have he : ((ev Γ n (d' + 1)).a ms env st).bind (fun vs st => match Γ f, d' + 1 with
          | some fn, d' + 1 => callB (ev Γ n d') fn vs st
          | _, _ => .stuck) = .ok v st' := he
        obtain ⟨vs, st1, e1, e2⟩ := Res.bind_ok he
        rw [hf] at e2
        exact ⟨n, ρ, st, env, S, L, vs, st1, e1, fun ρ1 H1 ys F1 S1 R1 => ⟨n, ρ1, st1, vs, fn, hf, S1, R1, v, st', e2, fun ρ2 H2 z F2 S2 R2 => k ρ2 H2 z (F1.trans F2) S2 R2⟩⟩
/-- a call without arguments -/
theorem s_call0 {f : Nat} {x : Str} {p pos : Pos} (C : Cg X ca Γ nm d) (hg : Gl X x) (hx : nm f = x) (hd : (x == ("__debug__" : Str)) = false := by decide) : PE X (.Call (.Name x p) [] [] pos) (rE X.K ca Γ d (.call f [])) := by
  cases hd0 : d with
  | zero =>
    refine PE.wk pe_false fun σ H Q q => ?_
    obtain ⟨n, ρ, st, env, S, L, v, st', he, k⟩ := q
    cases n with
    | zero => cases he
    | succ n =>
      cases n with
      | zero => cases he
      | succ n =>
        have he : (match Γ f, 0 with
          | some fn, d' + 1 => callB (ev Γ (n + 1) d') fn [] st
          | _, _ => .stuck) = Res.ok v st' := he
        cases hf : Γ f <;> rw [hf] at he <;> cases he
  | succ d' =>
    subst hd0
    cases hf : Γ f with
    | none =>
      refine PE.wk pe_false fun σ H Q q => ?_
      obtain ⟨n, ρ, st, env, S, L, v, st', he, k⟩ := q
      cases n with
      | zero => cases he
      | succ n =>
        cases n with
        | zero => cases he
        | succ n =>
          have he : (match Γ f, d' + 1 with
            | some fn, d' + 1 => callB (ev Γ (n + 1) d') fn [] st
            | _, _ => .stuck) = Res.ok v st' := he
          rw [hf] at he
          cases he
    | some fn =>
      obtain ⟨a, fd, ps, m1, kp, bd, F⟩ := C.fns d' rfl f fn hf
      rw [hx] at m1
      have core : PE X (.Call (.Name x p) [] [] pos) (fun σ H Q => spF X.K ca Γ d' f [] H Q E0) := ⟨fun pins s σ H Q I h => by
        refine wpAny_Call_Name_kw (ld_glob I hg m1 ?_ hd)
        exact PySem.W.callWith_K0 I.kIn kp (F.call (us := []) C.room C.gd bd I .nil h)⟩
      refine PE.wk core fun σ H Q q => ?_
      obtain ⟨n, ρ, st, env, S, L, v, st', he, k⟩ := q
      cases n with
      | zero => cases he
      | succ n =>
        cases n with
        | zero => cases he
        | succ n =>
          have he : (match Γ f, d' + 1 with
            | some fn, d' + 1 => callB (ev Γ (n + 1) d') fn [] st
            | _, _ => .stuck) = Res.ok v st' := he
          rw [hf] at he
          exact ⟨n + 1, ρ, st, [], fn, hf, S, .nil, v, st', he, k⟩
end

/-! ### a def by its body -/
section
variable {P : Program} {w : World} {K : PySem.W.Frag} {mg : Str → Option Value} {base : Heap} {ca : Cls0} {Γ : Tab} {nm : Nat → Str} {d : Nat}
/-- the body's derivation, at every entry -/
def BodyOk (P : Program) (w : World) (K : PySem.W.Frag) (mg : Str → Option Value) (base : Heap) (ca : Cls0) (Γ : Tab) (nm : Nat → Str) (d : Nat) (N : List Str) (qual : Str) (st : Stmt) (ms : List MS) : Prop :=
  ∀ (f : Addr) (cdv : Value) (A : Around) (outer : List PySem.Env) (s : Shared) (H : Hp) (E : XK), Cg (cxOf CX0 P w K mg base N qual (defScope st) f cdv A outer s H E).nox ca Γ nm d →
    PSs (cxOf CX0 P w K mg base N qual (defScope st) f cdv A outer s H E).nox (defBody st) (rSs K ca Γ d ms)
theorem start_slots {ρ : Nat → Addr} {N0 : Nat} {H : Hp} {mvs : List MV} {vs : List V} {N : List Str} {k : Nat} (r : RvL K ρ N0 H mvs vs) (hk : N.length = k) : SlotsR K ρ N0 H (startE mvs k) (L2.start N vs) := by
  subst hk
  unfold startE L2.start
  refine ⟨by simp [r.length], fun i v e => ?_⟩
  by_cases hi : i < mvs.length
  · rw [List.getElem?_append_left (by rw [List.length_map]; exact hi), List.getElem?_map] at e
    cases e2 : mvs[i]? with
    | none => rw [e2] at e; cases e
    | some u =>
      rw [e2] at e
      cases e
      obtain ⟨y, h1, h2⟩ := r.get e2
      refine ⟨y, ?_, h2⟩
      rw [List.getElem?_append_left (by rw [List.length_map, ← r.length]; exact hi), List.getElem?_map, h1]
      rfl
  · rw [List.getElem?_append_right (by rw [List.length_map]; omega), List.getElem?_replicate] at e
    split at e <;> cases e
theorem fn_sound {f : Nat} {fn : MFn} {x qual : Str} {st : Stmt} {fa : Addr} {fd : FuncData} {N ps : List Str} (F : Fun K x qual st fa fd) (S : FnScope N ps (defScope st)) (hΓ : Γ f = some fn) (hp : ps.length = fn.np) (hn : N.length = fn.ns)
    (B : BodyOk P w K mg base ca Γ nm d N qual st fn.body) (C : Fns P w K mg base ca Γ nm d) : FnG P w K mg base (d + 1) fa fd ps (spF K ca Γ d f) := by
  obtain ⟨oc, od, kV, doc, pm, an, cdv, ct, osl, rfl, lk, hcd⟩ := F.ex
  refine ⟨fun vs H Q E h => ?_, fun A outer s H args us vs Q E hr hg e0 hb r hsp => ?_⟩
  · obtain ⟨n, ρ, st', mvs, fn', h1, S', R, v, st2, he, _⟩ := h
    rw [hΓ] at h1
    cases h1
    unfold callB at he
    split at he
    · rw [← R.length, hp]; assumption
    · cases he
  · obtain ⟨n, ρ, st0, mvs, fn', h1, S0, R, v, st2, he, k⟩ := hsp
    rw [hΓ] at h1
    cases h1
    have hl : vs.length = ps.length := by
      unfold callB at he
      split at he
      · rw [← R.length, hp]; assumption
      · cases he
    have keepB : ∀ b o, base.get? b = some o → s.heap.get? b = some o := fun b o q => (e0.bs b o q).1
    have KX : K.In s.heap := e0.mod.kin.keeps keepB
    have lim : s.heap.NoLimit := e0.mod.nolimit.keeps keepB
    refine codeAny_call_function hr.depth (KX _ _ lk) rfl S.co S.gen rfl (PySem.W.codeRec_of KX hcd) (hb _ _ _ _ ?_)
    refine wpAny_newFunctionEnv_cells S.kind (fun y hy => ?_) fun env he' s1 x => ?_
    · obtain ⟨nm', u⟩ := y
      rcases S.par nm' (List.of_mem_zip hy).1 with q | q
      · exact .inl q
      · exact .inr ⟨q, PySem.W.cellsFrom_some _ _ _ (.inl q)⟩
    · subst he'
      refine ⟨lim.keeps x.toInCall.keep, codeAny_func ?_⟩
      have hroom : Room d (A.deeper (envOfC qual (defScope st) s.heap.objs.size fa cdv)) := hr.deeper _
      have D := B fa cdv A outer s H E ⟨hroom, hg, rfl, C⟩
      have I : Inv (cxOf CX0 P w K mg base N qual (defScope st) fa cdv A outer s H E) [] (L2.start N vs) H s1 := inv_start S hr.hd e0 hl r x
      unfold callB at he
      split at he
      · obtain ⟨⟨fl, env2⟩, st3, e1, e2⟩ := Res.bind_ok he
        have T : rSs K ca Γ d fn.body { nx := fun _ H' => Q .non H', rt := Q } (L2.start N vs) H := by
          refine ⟨n, ρ, st0, startE mvs fn.ns, S0, start_slots R hn, (fl, env2), st3, e1, fun ρ' H' σ' F' S' => ?_⟩
          cases fl with
          | nx => cases e2; exact fun _ => k ρ' H' .non F' S' .non
          | rt v' => cases e2; exact fun x rx => k ρ' H' x F' S' rx
          | bk => cases e2
          | ct => cases e2
        refine wpAny_mono (D.nox.run [] s1 (L2.start N vs) H _ I T) (fun res s3 hs => ?_) fun e s3 hs => hs
        match res, hs with
        | .ret u, ⟨v', σ', H', J, rv, q⟩ => exact ⟨v', H', J.os, J.bare, J.base, J.hok, rv, q⟩
        | .next, ⟨σ', H', J, q⟩ => exact ⟨V.non, H', J.os, J.bare, J.base, J.hok, (rfl : Value.none = Value.none), q⟩
        | .brk, ⟨_, _, _, q⟩ => exact False.elim q
        | .cont, ⟨_, _, _, q⟩ => exact False.elim q
      · cases he
/-- all depths -/
theorem fns_all (h : ∀ d, Fns P w K mg base ca Γ nm d → ∀ f fn, Γ f = some fn → ∃ a fd ps, mg (nm f) = some (.ref a) ∧ PySem.W.keepIn K (.ref a) = true ∧ Binds K fd ps [] ∧ FnG P w K mg base (d + 1) a fd ps (spF K ca Γ d f)) : ∀ d, Fns P w K mg base ca Γ nm d
  | 0 => fun d' e => by cases e
  | d + 1 => fun d' e f fn hf => by
    cases e
    exact h d (fns_all h d) f fn hf
end

/-! ### the end of a law -/
/-- nothing but the script is tracked at first -/
theorem sim_start {K : PySem.W.Frag} {ca : Cls0} {H : Hp} : Sim K ca (fun _ => 0) Store.emp H := ⟨Store.wf_emp, fun n m h => absurd h (Nat.not_lt_zero _), fun n h => absurd h (Nat.not_lt_zero _)⟩
theorem law_go {P : Program} {w : World} {K : PySem.W.Frag} {mg mb : Str → Option Value} {k : Nat} {fa a : Addr} {fd : FuncData} {x : Str} {sp : Sp} {s₁ : Shared} {vs : List Value} {ns' : List Int}
    (KX : K.In s₁.heap) (hns : s₁.heap.Ns mainGlobals mg) (hb : s₁.heap.Ns builtinsNs mb) (hbb : ∀ x : Str, x ≠ "__name__" → mb x = bootBuiltins x) (hlim : s₁.heap.NoLimit) (hg : s₁.gens = #[])
    (ha : s₁.heap.get? a = some { cls := .type "list", data := .seq vs.toArray }) (hi : IntsAre vs ns') (hl : ns'.length ≤ sizeLine) (hr : Room k callerA)
    (F : ∀ base : Heap, K.In base → base.Ns mainGlobals mg → FnG P w K mg base k fa fd [x] sp) (hbind : ∀ (s : Shared) (u : Value), BindsTo s fd ⟨[u], []⟩ [(x, u)])
    (hsp : ∀ H : Hp, FrzL K H a (ns'.map V.int) → sp [.ref a] H (fun v _ => v = .bl true) fun _ _ _ => False) :
    codeAny (model P w) callerA (.call (.ref fa) ⟨[.ref a], []⟩) (fun r s' => r = .ok (.ret (.bool true)) ∧ OldK s₁.heap s'.heap ∧ s'.os = s₁.os ∧ AllBare s'.gens) s₁ := by
  have rv := vals_ints hi
  have core : ∀ H : Hp, (∀ b, H b = none ∨ b = a ∧ K.lookup a = none ∧ H b = some (.frz { cls := .type "list", data := .seq vs.toArray } (.lst (ns'.map V.int)))) → FrzL K H a (ns'.map V.int) → HOk P w H s₁.heap →
      codeAny (model P w) callerA (.call (.ref fa) ⟨[.ref a], []⟩) (fun r s' => r = .ok (.ret (.bool true)) ∧ OldK s₁.heap s'.heap ∧ s'.os = s₁.os ∧ AllBare s'.gens) s₁ := by
    intro H hO hS hok
    have plain : ∀ {b : Addr} {o : Obj}, s₁.heap.get? b = some o → o ≠ { cls := .type "list", data := .seq vs.toArray } → H b = none := fun {b o} e hne => by
      rcases hO b with z | ⟨z, _, _⟩
      · exact z
      · subst z; rw [ha] at e; exact absurd (Option.some.inj e).symm hne
    have lay : ∀ {b : Addr} {m : Str → Option Value}, s₁.heap.Ns b m → (hidT s₁.heap H).Ns b m := fun {b m} ⟨o, es, ep, e, d, r⟩ => ⟨o, es, ep, hidT_get e (plain e fun z => by rw [z] at d; cases d), d, r⟩
    have hKb : K.In (hidT s₁.heap H) := fun b o e => hidT_get (KX b o e) (by
      rcases hO b with z | ⟨z, hk, _⟩
      · exact z
      · subst z; rw [hk] at e; cases e)
    have hM : Mod K mg (hidT s₁.heap H) := ⟨hKb, lay hns, ⟨mb, lay hb, hbb⟩, let ⟨mc, h1, h2⟩ := hlim; ⟨mc, lay h1, h2⟩⟩
    have e0 : Env0 P w K mg (hidT s₁.heap H) callerA [] s₁ H := ⟨rfl, hM, fun b o e => of_hidT e, Nat.le_of_eq (hidT_size _ _), trivial, fun b hb => absurd hb List.not_mem_nil, hok, .of_eq hg⟩
    refine codeAny_mono ((F _ hKb (lay hns)).go callerA [] s₁ H ⟨[.ref a], []⟩ [.ref a] [.ref a] _ _ hr rfl e0 (hbind s₁ (.ref a)) (.cons rfl .nil) (hsp H hS)) fun r s' h => ?_
    match r, h with
    | .error e, h => exact False.elim h
    | .ok .next, h => exact False.elim h
    | .ok .brk, h => exact False.elim h
    | .ok .cont, h => exact False.elim h
    | .ok (.ret u), ⟨v, H', os, bare, un, hok', r', q⟩ =>
      have q2 : v = .bl true := q
      subst q2
      obtain rfl : u = Value.bool true := r'
      refine ⟨rfl, OldK.of_keep fun b o e => ?_, os, bare⟩
      rcases hO b with z | ⟨z, _, hz⟩
      · exact un.keep b o e z List.not_mem_nil List.not_mem_nil
      · subst z
        obtain ⟨e1, _⟩ := hok b _ hz
        obtain ⟨e2, _⟩ := hok' b _ (un.frzs b _ _ hz)
        rw [e] at e1
        cases e1
        exact e2
  cases hk : K.lookup a with
  | some o =>
    have e := KX a o hk
    rw [ha] at e
    cases e
    refine core (fun _ => none) (fun _ => .inl rfl) (.inr ⟨_, vs.toArray, _, hk, rfl, rfl, rfl, ?_, by simpa using rv⟩) fun b u z => by cases z
    rw [List.size_toArray, hi.length]
    exact hl
  | none =>
    let H : Hp := fun b => if b = a then some (.frz { cls := .type "list", data := .seq vs.toArray } (.lst (ns'.map V.int))) else none
    have at_a : H a = some (.frz { cls := .type "list", data := .seq vs.toArray } (.lst (ns'.map V.int))) := if_pos rfl
    have off : ∀ b, b ≠ a → H b = none := fun b h => if_neg h
    refine core H (fun b => ?_) (.inl ⟨_, at_a⟩) fun b u z => ?_
    · by_cases h : b = a
      · subst h; exact .inr ⟨rfl, hk, at_a⟩
      · exact .inl (off b h)
    · by_cases h : b = a
      · subst h
        rw [at_a] at z
        cases z
        exact ⟨ha, by rw [List.length_map]; exact hl, vs, _, rv, ha⟩
      · rw [off b h] at z; cases z
theorem walk_go {l : PySem.W.OpenLaw} {n k : Nat} {q : Program} {loose : List Str} {XP : (Str → Option Value) → Heap → Prop} {YP : World → Heap → Prop} {dr : DefRec} {K : Params → PySem.W.Frag} {sp : PySem.W.Frag → Sp} {x : Str}
    (hn : l.most = some n) (hn2 : n ≤ sizeLine) (hdf : dr.params.defaults = []) (hr : Room k callerA) (hY : ∀ (w : World) (h : Heap), YP w h → (K w.params).In h)
    (F : ∀ (w : World) (mg : Str → Option Value) (fa : Addr) (h : Heap), (K w.params).In h → h.Ns mainGlobals mg → mg dr.name = some (.ref fa) →
      ∃ fd : FuncData, (∀ (s : Shared) (u : Value), BindsTo s fd ⟨[u], []⟩ [(x, u)]) ∧ ∀ base : Heap, (K w.params).In base → base.Ns mainGlobals mg → FnG l.prog w (K w.params) mg base k fa fd [x] (sp (K w.params)))
    (hsp : ∀ (K : PySem.W.Frag) (H : Hp) (a : Addr) (ns' : List Int), ns'.length ≤ n → FrzL K H a (ns'.map V.int) → sp K [.ref a] H (fun v _ => v = .bl true) fun _ _ _ => False) :
    PySem.W.WalkO q loose XP YP l.row.toRowW dr [] (fun f vs => PySem.call f vs) := by
  refine Att.attach_call hn hdf fun w s₀ s₁ mg mb fa o pm cd doc a vs ns' G Y ho hd hcd hmg hobj hints hlen hg => ?_
  have KX := hY w _ Y
  obtain ⟨fd, hb, hF⟩ := F w mg fa _ KX G.T.g hmg
  exact law_go KX G.T.g G.T.b G.T.builtins G.T.nolimit hg hobj hints (Nat.le_trans hlen hn2) hr hF hb fun H hS => hsp (K w.params) H a ns' hlen hS
end MP

set_option Elab.async false
set_option linter.all false
set_option maxRecDepth 100000
set_option maxHeartbeats 4000000
namespace MP
open PySem PySem.Spec PyProof.Rows L2
section
variable {X : Cx} {ca : Cls0} {Γ : Tab} {d : Nat} {a b e : Expr} {ma mb m : ME} {pos : Pos}
theorem s_not (ha : PE X a (rE X.K ca Γ d ma)) (hm : ∀ n env st, (ev Γ (n + 1) d).t ma env st = ((ev Γ n d).e ma env st).bind fun v st => match truV v st with
      | some k => .ok k st
      | none => .stuck) : PE X (.UnaryOp .Not a pos) (rE X.K ca Γ d (.not ma)) :=
  PE.wk (pe_notT ha) fun σ H Q q => by
    obtain ⟨n, ρ, st, env, S, L, v, st', he, k⟩ := q
    cases n with
    | zero => cases he
    | succ n =>
      have he : ((ev Γ n d).t ma env st).bind (fun k st => .ok (.bl (!k)) st) = .ok v st' := he
      obtain ⟨c, st1, e1, e2⟩ := Res.bind_ok he
      cases e2
      cases n with
      | zero => cases e1
      | succ n =>
        rw [hm] at e1
        obtain ⟨x, st2, e3, e4⟩ := Res.bind_ok e1
        refine ⟨n, ρ, st, env, S, L, x, st2, e3, fun ρ1 H1 xv F1 S1 R1 => ?_⟩
        cases e5 : truV x st2 with
        | none => rw [e5] at e4; cases e4
        | some b =>
          rw [e5] at e4
          cases e4
          exact ⟨_, tru_rv S1 R1 e5, k ρ1 H1 _ F1 S1 (.bl _)⟩
/-- a module's constant -/
def Glb (K : PySem.W.Frag) (mg : Str → Option Value) (x : Str) (mv : MV) : Prop := ∃ v u, mg x = some u ∧ RelV v u ∧ ∀ ρ N H, Rv K ρ N H mv v
theorem s_glob {x : Str} {mv : MV} {p : Pos} (hg : Gl X x) (h : Glb X.K X.mg x mv) (hd : (x == ("__debug__" : Str)) = false := by decide) : PE X (.Name x p) (rE X.K ca Γ d (.lit mv)) := by
  obtain ⟨v, u, h1, h2, h3⟩ := h
  exact s_lit (pe_glob hg h1 h2 hd) h3
end
end MP
namespace MP
open PySem L2
theorem own_ok {N : List Str} {sc scope : Scope} (own : List (Str × Nat)) (h : BlkOk N sc scope own) : BlkOk N sc scope own := h
/-- a constant tuple's object -/
def TupC (o : Obj) (ys : List V) : Prop := o.cls = .type "tuple" ∧ ∃ (its : Array Value) (n : Nat), o.data = .seq its n ∧ its.size ≤ sizeLine ∧ Vals ys its.toList
theorem glb_str {K : PySem.W.Frag} {mg : Str → Option Value} {x y : Str} {t : Tok} (h : mg x = some (.str y t)) : Glb K mg x (.str y) := ⟨.str y, _, h, ⟨t, rfl⟩, fun _ _ _ => .str _⟩
theorem glb_int {K : PySem.W.Frag} {mg : Str → Option Value} {x : Str} {y : Int} {t : Tok} (h : mg x = some (.int y t)) : Glb K mg x (.int y) := ⟨.int y, _, h, ⟨t, rfl⟩, fun _ _ _ => .int _⟩
theorem glb_tup {K : PySem.W.Frag} {mg : Str → Option Value} {x : Str} {a : Addr} {o : Obj} {mvs : List MV} {ys : List V} (h : mg x = some (.ref a)) (l : K.lookup a = some o) (t : TupC o ys) (r : ∀ ρ N H, RvL K ρ N H mvs ys) : Glb K mg x (.tup mvs) :=
  ⟨.ref a, _, h, rfl, fun ρ N H => .tup (.inr ⟨o, t.2.choose, t.2.choose_spec.choose, l, t.1, t.2.choose_spec.choose_spec⟩) (r ρ N H)⟩
theorem Fun.binds_ok {K : PySem.W.Frag} {x qual : Str} {st : Stmt} {f : Addr} {fd : FuncData} {ps : List Str} (F : Fun K x qual st f fd)
    (h : ∀ (kV doc pm : Value) (an : Option Addr) (cdv ct : Value) (us : List Value), us.length = ps.length → bindArgs (PySem.W.fnOf x qual (defArgs st) (defBody st) (defScope st) .none kV doc pm an cdv ct) ⟨us, []⟩ = pure (ps.zip us)) : Binds K fd ps [] := F.binds h
/-- what the evaluator says of the law, at the promise -/
theorem sp_of {K : PySem.W.Frag} {ca : Cls0} {Γ : Tab} {d f n : Nat} {fn : MFn} {H : Hp} {a : Addr} {xs : List Int} {st' : Store} (hΓ : Γ f = some fn) (hS : FrzL K H a (xs.map V.int)) (he : callB (ev Γ n d) fn [.scr (xs.map MV.int)] Store.emp = .ok (.bl true) st') :
    spF K ca Γ d f [.ref a] H (fun v _ => v = .bl true) fun _ _ _ => False := by
  refine ⟨n, fun _ => 0, Store.emp, _, fn, hΓ, sim_start, .cons (.scr hS ?_) .nil, .bl true, st', he, fun _ _ b _ _ r => by cases r; rfl⟩
  induction xs with
  | nil => exact .nil
  | cons x xs ih =>
    have q : ∀ (xs : List Int), RvL K (fun _ => 0) Store.emp.next H (xs.map MV.int) (xs.map V.int) := fun xs => by
      induction xs with
      | nil => exact .nil
      | cons x xs ih => exact .cons (.int _) ih
    exact q _
end MP

set_option Elab.async false
set_option linter.all false
set_option maxRecDepth 100000
set_option maxHeartbeats 4000000
/-! the evaluator by weakest preconditions: for the plain laws -/
namespace MP
open PySem L2
def W {α : Type} (run : Nat → Res α) (Q : α → Store → Prop) : Prop := ∃ n a st', (∀ k, n ≤ k → run k = .ok a st') ∧ Q a st'
def Rs {α : Type} (r : Res α) (Q : α → Store → Prop) : Prop := ∃ a st', r = .ok a st' ∧ Q a st'
section
variable {α β : Type}
theorem Rs.ok {a : α} {st : Store} {Q : α → Store → Prop} (h : Q a st) : Rs (.ok a st) Q := ⟨a, st, rfl, h⟩
theorem W.res {r : Res α} {Q : α → Store → Prop} (h : Rs r Q) : W (fun _ => r) Q := let ⟨a, st, e, q⟩ := h; ⟨0, a, st, fun _ _ => e, q⟩
theorem W.ok {a : α} {st : Store} {Q : α → Store → Prop} (h : Q a st) : W (fun _ => .ok a st) Q := W.res (Rs.ok h)
theorem W.up {run : Nat → Res α} {run' : Nat → Res α} {Q : α → Store → Prop} (e : ∀ k, run (k + 1) = run' k) (h : W run' Q) : W run Q := by
  obtain ⟨n, a, st, hr, q⟩ := h
  refine ⟨n + 1, a, st, fun k hk => ?_, q⟩
  cases k with
  | zero => omega
  | succ k => rw [e]; exact hr k (by omega)
theorem W.bind {run : Nat → Res α} {f : Nat → α → Store → Res β} {Q : β → Store → Prop} (h : W run fun a st => W (fun k => f k a st) Q) : W (fun k => (run k).bind (f k)) Q := by
  obtain ⟨n, a, st, h1, n2, b, st2, h2, q⟩ := h
  refine ⟨max n n2, b, st2, fun k hk => ?_, q⟩
  show (run k).bind (f k) = _
  rw [h1 k (by omega)]
  exact h2 k (by omega)
theorem W.mono {run : Nat → Res α} {Q Q' : α → Store → Prop} (h : W run Q) (k : ∀ a st, Q a st → Q' a st) : W run Q' := let ⟨n, a, st, e, q⟩ := h; ⟨n, a, st, e, k _ _ q⟩
theorem W.eq {run run' : Nat → Res α} {Q : α → Store → Prop} (h : W run Q) (e : ∀ k, run' k = run k) : W run' Q := by
  have : run' = run := funext e
  rw [this]; exact h
theorem Rs.mono {r : Res α} {Q Q' : α → Store → Prop} (h : Rs r Q) (k : ∀ a st, Q a st → Q' a st) : Rs r Q' := let ⟨a, st, e, q⟩ := h; ⟨a, st, e, k _ _ q⟩
end
section
variable (Γ : Tab) (d : Nat)
def wE (m : ME) (env : Env) (st : Store) (Q : MV → Store → Prop) : Prop := W (fun k => (ev Γ k d).e m env st) Q
def wT (m : ME) (env : Env) (st : Store) (Q : Bool → Store → Prop) : Prop := W (fun k => (ev Γ k d).t m env st) Q
def wA (m : List ME) (env : Env) (st : Store) (Q : List MV → Store → Prop) : Prop := W (fun k => (ev Γ k d).a m env st) Q
def wP (m : List (ME × ME)) (env : Env) (st : Store) (Q : List (MV × MV) → Store → Prop) : Prop := W (fun k => (ev Γ k d).p m env st) Q
def wO (m : Option ME) (env : Env) (st : Store) (Q : Option Int → Store → Prop) : Prop := W (fun k => (ev Γ k d).o m env st) Q
def wL (m : ME) (env : Env) (st : Store) (Q : List MV → Store → Prop) : Prop := W (fun k => (ev Γ k d).l m env st) Q
def wI (m : MI) (env : Env) (st : Store) (Q : Itv → Store → Prop) : Prop := W (fun k => (ev Γ k d).i m env st) Q
def wTs (m : List ME) (env : Env) (st : Store) (Q : Bool → Store → Prop) : Prop := W (fun k => (ev Γ k d).ts m env st) Q
def wF (w : Itv) (tg : Tg) (b : List MS) (env : Env) (st : Store) (Q : Fl × Env → Store → Prop) : Prop := W (fun k => (ev Γ k d).f w tg b env st) Q
def wG (w : Itv) (tg : Tg) (cs : List ME) (el : ME) (env : Env) (acc : List MV) (st : Store) (Q : List MV → Store → Prop) : Prop := W (fun k => (ev Γ k d).g w tg cs el env acc st) Q
def wS (m : MS) (env : Env) (st : Store) (Q : Fl × Env → Store → Prop) : Prop := W (fun k => (ev Γ k d).s m env st) Q
def wB (m : List MS) (env : Env) (st : Store) (Q : Fl × Env → Store → Prop) : Prop := W (fun k => (ev Γ k d).b m env st) Q
/-- a call -/
def wC (f : Nat) (vs : List MV) (st : Store) (Q : MV → Store → Prop) : Prop := ∃ fn, Γ f = some fn ∧ W (fun k => callB (ev Γ k d) fn vs st) Q
end
section
variable {Γ : Tab} {d : Nat} {env : Env} {st : Store}
/-- a body's end as a call's -/
def retQ (Q : MV → Store → Prop) : Fl × Env → Store → Prop := fun r st => match r.1 with
  | .nx => Q .non st
  | .rt v => Q v st
  | _ => False
theorem c_body {f : Nat} {fn : MFn} {vs : List MV} {Q : MV → Store → Prop} (hf : Γ f = some fn) (hl : vs.length = fn.np) (h : wB Γ d fn.body (startE vs fn.ns) st (retQ Q)) : wC Γ d f vs st Q := by
  refine ⟨fn, hf, ?_⟩
  obtain ⟨n, r, st', e, q⟩ := h
  obtain ⟨fl, env'⟩ := r
  cases fl with
  | nx => exact ⟨n, .non, st', fun k hk => by
      have e2 : (ev Γ k d).b fn.body (startE vs fn.ns) st = _ := e k hk
      show callB _ fn vs st = _
      unfold callB
      rw [if_pos hl, e2]
      rfl, q⟩
  | rt v => exact ⟨n, v, st', fun k hk => by
      have e2 : (ev Γ k d).b fn.body (startE vs fn.ns) st = _ := e k hk
      show callB _ fn vs st = _
      unfold callB
      rw [if_pos hl, e2]
      rfl, q⟩
  | bk => exact q.elim
  | ct => exact q.elim
theorem wC.mono {f : Nat} {vs : List MV} {Q Q' : MV → Store → Prop} (h : wC Γ d f vs st Q) (k : ∀ a st, Q a st → Q' a st) : wC Γ d f vs st Q' := let ⟨fn, h1, h2⟩ := h; ⟨fn, h1, h2.mono k⟩
/-! ### expressions -/
theorem e_lit {v : MV} {Q : MV → Store → Prop} (h : Q v st) : wE Γ d (.lit v) env st Q := W.up (run' := fun _ => .ok v st) (fun _ => rfl) (W.ok h)
theorem e_var {i : Nat} {v : MV} {Q : MV → Store → Prop} (e : env[i]? = some (some v)) (h : Q v st) : wE Γ d (.var i) env st Q := W.up (run' := fun _ => .ok v st) (fun k => by
    show (match env[i]? with
      | some (some v) => Res.ok v st
      | _ => .stuck) = _
    rw [e]) (W.ok h)
theorem e_bin {op : BOp} {a b : ME} {Q : MV → Store → Prop} (h : wE Γ d a env st fun x st1 => wE Γ d b env st1 fun y st2 => Rs (binV op x y st2) Q) : wE Γ d (.bin op a b) env st Q :=
  W.up (fun _ => rfl) (W.bind (h.mono fun x st1 h => W.bind (h.mono fun y st2 h => W.res h)))
theorem e_cmp {op : COp} {a b : ME} {Q : MV → Store → Prop} (h : wE Γ d a env st fun x st1 => wE Γ d b env st1 fun y st2 => Rs (cmpV op x y st2) Q) : wE Γ d (.cmp op a b) env st Q :=
  W.up (fun _ => rfl) (W.bind (h.mono fun x st1 h => W.bind (h.mono fun y st2 h => W.res h)))
theorem e_cmpL {op : COp} {a b : ME} {Q : MV → Store → Prop} (h : wL Γ d a env st fun x st1 => wL Γ d b env st1 fun y st2 => Rs (cmpLV op x y st2) Q) : wE Γ d (.cmpL op a b) env st Q :=
  W.up (fun _ => rfl) (W.bind (h.mono fun x st1 h => W.bind (h.mono fun y st2 h => W.res h)))
theorem e_isN {neg : Bool} {a : ME} {Q : MV → Store → Prop} (h : wE Γ d a env st fun x st1 => Rs (match x with
    | .non => .ok (.bl (!neg)) st1
    | _ => .ok (.bl neg) st1) Q) : wE Γ d (.isN neg a) env st Q :=
  W.up (fun _ => rfl) (W.bind (h.mono fun x st1 h => W.res h))
theorem e_isB {c neg : Bool} {a : ME} {Q : MV → Store → Prop} (h : wE Γ d a env st fun x st1 => ∃ k, x = .bl k ∧ Q (.bl (if neg then !(decide (k = c)) else decide (k = c))) st1) : wE Γ d (.isB c neg a) env st Q :=
  W.up (fun _ => rfl) (W.bind (h.mono fun x st1 ⟨k, e, h⟩ => by subst e; exact W.ok h))
theorem e_and {a b : ME} {Q : MV → Store → Prop} (h : wE Γ d a env st fun x st1 => ∃ k, x = .bl k ∧ (k = true → wE Γ d b env st1 Q) ∧ (k = false → Q (.bl false) st1)) : wE Γ d (.and a b) env st Q :=
  W.up (fun _ => rfl) (W.bind (h.mono fun x st1 ⟨k, e, h1, h2⟩ => by
    subst e
    cases k with
    | true => exact h1 rfl
    | false => exact W.ok (h2 rfl)))
theorem e_or {a b : ME} {Q : MV → Store → Prop} (h : wE Γ d a env st fun x st1 => ∃ k, x = .bl k ∧ (k = false → wE Γ d b env st1 Q) ∧ (k = true → Q (.bl true) st1)) : wE Γ d (.or a b) env st Q :=
  W.up (fun _ => rfl) (W.bind (h.mono fun x st1 ⟨k, e, h1, h2⟩ => by
    subst e
    cases k with
    | false => exact h1 rfl
    | true => exact W.ok (h2 rfl)))
theorem e_not {a : ME} {Q : MV → Store → Prop} (h : wT Γ d a env st fun k st1 => Q (.bl (!k)) st1) : wE Γ d (.not a) env st Q :=
  W.up (fun _ => rfl) (W.bind (h.mono fun x st1 h => W.ok h))
theorem e_ifx {c a b : ME} {Q : MV → Store → Prop} (h : wT Γ d c env st fun k st1 => (k = true → wE Γ d a env st1 Q) ∧ (k = false → wE Γ d b env st1 Q)) : wE Γ d (.ifx c a b) env st Q :=
  W.up (fun _ => rfl) (W.bind (h.mono fun k st1 ⟨h1, h2⟩ => by
    cases k with
    | true => exact (h1 rfl).eq fun _ => if_pos rfl
    | false => exact (h2 rfl).eq fun _ => if_neg Bool.false_ne_true))
theorem e_idx {a b : ME} {Q : MV → Store → Prop} (h : wE Γ d a env st fun x st1 => wE Γ d b env st1 fun y st2 => Rs (idxV x y st2) Q) : wE Γ d (.idx a b) env st Q :=
  W.up (fun _ => rfl) (W.bind (h.mono fun x st1 h => W.bind (h.mono fun y st2 h => W.res h)))
theorem e_slc {a : ME} {lo hi : Option ME} {Q : MV → Store → Prop} (h : wE Γ d a env st fun x st1 => wO Γ d lo env st1 fun l st2 => wO Γ d hi env st2 fun r st3 => Rs (slcV x l r st3) Q) : wE Γ d (.slc a lo hi) env st Q :=
  W.up (fun _ => rfl) (W.bind (h.mono fun x st1 h => W.bind (h.mono fun y st2 h => W.bind (h.mono fun z st3 h => W.res h))))
theorem e_tup {es : List ME} {Q : MV → Store → Prop} (h : wA Γ d es env st fun vs st1 => Rs (newT vs st1) Q) : wE Γ d (.tupD es) env st Q :=
  W.up (fun _ => rfl) (W.bind (h.mono fun x st1 h => W.res h))
theorem e_mk {e : ME} {Q : MV → Store → Prop} (h : wL Γ d e env st fun vs st1 => Rs (newL vs st1) Q) : wE Γ d (.mk e) env st Q :=
  W.up (fun _ => rfl) (W.bind (h.mono fun x st1 h => W.res h))
theorem e_dic {kvs : List (ME × ME)} {Q : MV → Store → Prop} (hl : kvs.length ≤ 15) (h : wP Γ d kvs env st fun ps st1 => ∃ q, kvsV ps = some q ∧ Q (.ref st1.next) (st1.add (.dK (kvMerge [] q)))) : wE Γ d (.dicD kvs) env st Q :=
  W.up (run' := fun k => ((ev Γ k d).p kvs env st).bind fun ps st => match kvsV ps with
    | some q => .ok (MV.ref st.next) (st.add (.dK (kvMerge [] q)))
    | none => .stuck) (fun k => by
      show (if kvs.length ≤ 15 then _ else Res.stuck) = _
      rw [if_pos hl]
      all_goals rfl) (W.bind (h.mono fun x st1 ⟨q, e, h⟩ => by rw [e]; exact W.ok h))
theorem e_call {f : Nat} {es : List ME} {Q : MV → Store → Prop} (h : wA Γ (d + 1) es env st fun vs st1 => wC Γ d f vs st1 Q) : wE Γ (d + 1) (.call f es) env st Q :=
  W.up (fun _ => rfl) (W.bind (h.mono fun x st1 ⟨fn, e, h⟩ => h.eq fun k => by rw [e]))
theorem e_bi {b : BI} {es : List ME} {Q : MV → Store → Prop} (h : wA Γ d es env st fun vs st1 => Rs (biV b vs st1) Q) : wE Γ d (.bi b es) env st Q :=
  W.up (fun _ => rfl) (W.bind (h.mono fun x st1 h => W.res h))
theorem e_all {e : ME} {Q : MV → Store → Prop} (h : wL Γ d e env st fun vs st1 => ∃ bs, blsV vs = some bs ∧ Q (.bl (bs.all id)) st1) : wE Γ d (.all e) env st Q :=
  W.up (fun _ => rfl) (W.bind (h.mono fun x st1 ⟨bs, e, h⟩ => by rw [e]; exact W.ok h))
theorem e_any {e : ME} {Q : MV → Store → Prop} (h : wL Γ d e env st fun vs st1 => ∃ bs, blsV vs = some bs ∧ Q (.bl (bs.any id)) st1) : wE Γ d (.any e) env st Q :=
  W.up (fun _ => rfl) (W.bind (h.mono fun x st1 ⟨bs, e, h⟩ => by rw [e]; exact W.ok h))
theorem e_join {s e : ME} {Q : MV → Store → Prop} (h : wE Γ d s env st fun x st1 => wL Γ d e env st1 fun vs st2 => ∃ a ys, x = .str a ∧ strsV vs = some ys ∧ (ys.map (·.length)).sum + ys.length * a.length ≤ 16777216 ∧ Q (.str (Txt.join a ys)) st2) : wE Γ d (.join s e) env st Q :=
  W.up (fun _ => rfl) (W.bind (h.mono fun x st1 h => W.bind (h.mono fun vs st2 ⟨a, ys, e1, e2, e3, hq⟩ => by
    subst e1
    refine (W.ok (a := MV.str (Txt.join a ys)) hq).eq fun k => ?_
    simp only [e2]
    rw [if_pos e3])))
theorem e_neg {a : ME} {Q : MV → Store → Prop} (h : wE Γ d a env st fun x st1 => ∃ i, x = .int i ∧ Q (.int (-i)) st1) : wE Γ d (.neg a) env st Q :=
  W.up (fun _ => rfl) (W.bind (h.mono fun x st1 ⟨i, e, h⟩ => by subst e; exact W.ok h))
theorem e_meth {m : Mt} {o : ME} {es : List ME} {Q : MV → Store → Prop} (h : wE Γ d o env st fun x st1 => isLst st1 x = true ∧ wA Γ d es env st1 fun vs st2 => Rs (methV m x vs st2) Q) : wE Γ d (.meth m o es) env st Q :=
  W.up (fun _ => rfl) (W.bind (h.mono fun x st1 ⟨e, h⟩ => (W.bind (f := fun _ vs st => methV m x vs st) (h.mono fun vs st2 h => W.res h)).eq fun k => if_pos e))
/-! ### tests -/
theorem t_e {m : ME} {Q : Bool → Store → Prop} (hm : ∀ n env st, (ev Γ (n + 1) d).t m env st = ((ev Γ n d).e m env st).bind fun v st => match truV v st with
      | some k => .ok k st
      | none => .stuck) (h : wE Γ d m env st fun v st1 => ∃ k, truV v st1 = some k ∧ Q k st1) : wT Γ d m env st Q :=
  W.up (fun k => hm k env st) (W.bind (h.mono fun v st1 ⟨k, e, h⟩ => by rw [e]; exact W.ok h))
theorem t_and' {a b : ME} {Q : Bool → Store → Prop} (h : wT Γ d a env st fun k st1 => (k = true → wT Γ d b env st1 Q) ∧ (k = false → Q false st1)) : wT Γ d (.and a b) env st Q :=
  W.up (fun _ => rfl) (W.bind (h.mono fun k st1 ⟨h1, h2⟩ => by
    cases k with
    | true => exact (h1 rfl).eq fun _ => if_pos rfl
    | false => exact (W.ok (h2 rfl)).eq fun _ => if_neg Bool.false_ne_true))
theorem t_or' {a b : ME} {Q : Bool → Store → Prop} (h : wT Γ d a env st fun k st1 => (k = false → wT Γ d b env st1 Q) ∧ (k = true → Q true st1)) : wT Γ d (.or a b) env st Q :=
  W.up (fun _ => rfl) (W.bind (h.mono fun k st1 ⟨h1, h2⟩ => by
    cases k with
    | true => exact (W.ok (h2 rfl)).eq fun _ => if_pos rfl
    | false => exact (h1 rfl).eq fun _ => if_neg Bool.false_ne_true))
theorem t_not' {a : ME} {Q : Bool → Store → Prop} (h : wT Γ d a env st fun k st1 => Q (!k) st1) : wT Γ d (.not a) env st Q :=
  W.up (fun _ => rfl) (W.bind (h.mono fun x st1 h => W.ok h))
/-! ### arguments, lists -/
theorem a_nil {Q : List MV → Store → Prop} (h : Q [] st) : wA Γ d [] env st Q := W.up (run' := fun _ => .ok [] st) (fun _ => rfl) (W.ok h)
theorem a_cons {m : ME} {ms : List ME} {Q : List MV → Store → Prop} (h : wE Γ d m env st fun v st1 => wA Γ d ms env st1 fun vs st2 => Q (v :: vs) st2) : wA Γ d (m :: ms) env st Q :=
  W.up (fun _ => rfl) (W.bind (h.mono fun v st1 h => W.bind (h.mono fun vs st2 h => W.ok h)))
theorem p_nil' {Q : List (MV × MV) → Store → Prop} (h : Q [] st) : wP Γ d [] env st Q := W.up (run' := fun _ => .ok [] st) (fun _ => rfl) (W.ok h)
theorem p_cons' {k m : ME} {ms : List (ME × ME)} {Q : List (MV × MV) → Store → Prop} (h : wE Γ d k env st fun q st0 => wE Γ d m env st0 fun v st1 => wP Γ d ms env st1 fun vs st2 => Q ((q, v) :: vs) st2) : wP Γ d ((k, m) :: ms) env st Q :=
  W.up (fun _ => rfl) (W.bind (h.mono fun q st0 h => W.bind (h.mono fun v st1 h => W.bind (h.mono fun vs st2 h => W.ok h))))
theorem o_none' {Q : Option Int → Store → Prop} (h : Q none st) : wO Γ d none env st Q := W.up (run' := fun _ => .ok none st) (fun _ => rfl) (W.ok h)
theorem o_some' {m : ME} {Q : Option Int → Store → Prop} (h : wE Γ d m env st fun v st1 => ∃ i, v = .int i ∧ Q (some i) st1) : wO Γ d (some m) env st Q :=
  W.up (fun _ => rfl) (W.bind (h.mono fun v st1 ⟨i, e, h⟩ => by subst e; exact W.ok h))
theorem l_lst {es : List ME} {Q : List MV → Store → Prop} (h : wA Γ d es env st fun vs st1 => vs.length ≤ sizeLine ∧ Q vs st1) : wL Γ d (.lstD es) env st Q :=
  W.up (fun _ => rfl) (W.bind (h.mono fun v st1 ⟨e, h⟩ => (W.ok h).eq fun _ => if_pos e))
theorem l_comp {elt : ME} {tg : Tg} {it : MI} {conds : List ME} {ws : List Nat} {Q : List MV → Store → Prop} (h : wI Γ d it env st fun w st1 => wG Γ d w tg conds elt (wipeE env ws) [] st1 Q) : wL Γ d (.comp elt tg it conds ws) env st Q :=
  W.up (fun _ => rfl) (W.bind (h.mono fun v st1 h => h))
theorem l_val {m : ME} {Q : List MV → Store → Prop} (hm : ∀ n env st, (ev Γ (n + 1) d).l m env st = ((ev Γ n d).e m env st).bind fun v st => match lstV st v with
    | some xs => .ok xs st
    | none => .stuck) (h : wE Γ d m env st fun v st1 => ∃ xs, lstV st1 v = some xs ∧ Q xs st1) : wL Γ d m env st Q :=
  W.up (fun k => hm k env st) (W.bind (h.mono fun v st1 ⟨xs, e, h⟩ => by rw [e]; exact W.ok h))
/-! ### what is walked -/
def itOf (v : MV) (st : Store) : Option Itv := match v with
  | .tup xs => some (.snap xs)
  | .scr xs => some (.snap xs)
  | .str z => some (.snap (signs z))
  | .ref n => match st.get n with
    | some (.lst _) => some (.live n 0)
    | _ => none
  | _ => none
theorem i_seq' {m : ME} {Q : Itv → Store → Prop} (h : wE Γ d m env st fun v st1 => ∃ w, itOf v st1 = some w ∧ Q w st1) : wI Γ d (.seq m) env st Q :=
  W.up (fun _ => rfl) (W.bind (h.mono fun v st1 ⟨w, e, h⟩ => by
    cases v with
    | tup xs => cases e; exact W.ok h
    | scr xs => cases e; exact W.ok h
    | str z => cases e; exact W.ok h
    | ref n =>
      have e' : (match st1.get n with
        | some (.lst _) => some (Itv.live n 0)
        | _ => none) = some w := e
      refine (W.ok h).eq fun k => ?_
      show (match st1.get n with
        | some (.lst _) => Res.ok (Itv.live n 0) st1
        | _ => .stuck) = _
      cases hg : st1.get n with
      | none => rw [hg] at e'; cases e'
      | some o =>
        rw [hg] at e'
        cases o with
        | lst _ => cases e'; rfl
        | dK _ => cases e'
        | ins _ _ => cases e'
    | _ => cases e))
theorem i_tmp' {m : ME} {Q : Itv → Store → Prop} (h : wL Γ d m env st fun xs st1 => Q (.snap xs) st1) : wI Γ d (.tmp m) env st Q :=
  W.up (fun _ => rfl) (W.bind (h.mono fun v st1 h => W.ok h))
theorem i_rng {m : ME} {Q : Itv → Store → Prop} (h : wE Γ d m env st fun v st1 => ∃ j, v = .int j ∧ (-(2 ^ 62) ≤ j ∧ j < 2 ^ 62) ∧ Q (.snap (rngV 0 j.toNat)) st1) : wI Γ d (.rng1 m) env st Q :=
  W.up (fun _ => rfl) (W.bind (h.mono fun v st1 ⟨j, e, hj, h⟩ => by subst e; exact (W.ok h).eq fun _ => if_pos hj))
theorem ts_nil' {Q : Bool → Store → Prop} (h : Q true st) : wTs Γ d [] env st Q := W.up (run' := fun _ => .ok true st) (fun _ => rfl) (W.ok h)
theorem ts_one' {c : ME} {Q : Bool → Store → Prop} (h : wT Γ d c env st Q) : wTs Γ d [c] env st Q :=
  W.up (fun _ => rfl) (W.bind (h.mono fun k st1 h => by
    cases k with
    | true => exact (ts_nil' h).eq fun _ => if_pos rfl
    | false => exact (W.ok h).eq fun _ => if_neg Bool.false_ne_true))
/-! ### comprehensions over what does not change -/
theorem g_nil {tg : Tg} {cs : List ME} {el : ME} {acc : List MV} {Q : List MV → Store → Prop} (h : Q acc st) : wG Γ d (.snap []) tg cs el env acc st Q := W.up (run' := fun _ => .ok acc st) (fun _ => rfl) (W.ok h)
theorem g_cons {tg : Tg} {cs : List ME} {el : ME} {acc : List MV} {v : MV} {xs : List MV} {env1 : Env} {Q : List MV → Store → Prop} (ht : tg.set v env = some env1)
    (h : wTs Γ d cs env1 st fun k st1 => (k = true → wE Γ d el env1 st1 fun y st2 => acc.length < sizeLine ∧ wG Γ d (.snap xs) tg cs el env (acc ++ [y]) st2 Q) ∧ (k = false → wG Γ d (.snap xs) tg cs el env acc st1 Q)) :
    wG Γ d (.snap (v :: xs)) tg cs el env acc st Q :=
  W.up (run' := fun k => ((ev Γ k d).ts cs env1 st).bind fun c st => if c = true then ((ev Γ k d).e el env1 st).bind fun y st =>
          if acc.length < sizeLine then (ev Γ k d).g (.snap xs) tg cs el env (acc ++ [y]) st else .stuck
        else (ev Γ k d).g (.snap xs) tg cs el env acc st) (fun k => by
      show (match tg.set v env with
        | none => Res.stuck
        | some env1 => _) = _
      rw [ht]) (W.bind (h.mono fun k st1 ⟨h1, h2⟩ => by
    cases k with
    | true => exact (W.bind ((h1 rfl).mono fun y st2 ⟨e, h⟩ => h.eq fun _ => if_pos e)).eq fun _ => if_pos rfl
    | false => exact (h2 rfl).eq fun _ => if_neg Bool.false_ne_true))
/-! ### statements -/
theorem b_nil' {Q : Fl × Env → Store → Prop} (h : Q (.nx, env) st) : wB Γ d [] env st Q := W.up (run' := fun _ => .ok (.nx, env) st) (fun _ => rfl) (W.ok h)
/-- what comes behind a statement -/
def thenQ (Γ : Tab) (d : Nat) (r : List MS) (Q : Fl × Env → Store → Prop) : Fl × Env → Store → Prop := fun x st => match x.1 with
  | .nx => wB Γ d r x.2 st Q
  | fl => Q (fl, x.2) st
theorem b_cons' {m : MS} {r : List MS} {Q : Fl × Env → Store → Prop} (h : wS Γ d m env st (thenQ Γ d r Q)) : wB Γ d (m :: r) env st Q :=
  W.up (fun _ => rfl) (W.bind (h.mono fun x st1 h => by
    obtain ⟨fl, env'⟩ := x
    cases fl with
    | nx => exact h
    | bk => exact W.ok h
    | ct => exact W.ok h
    | rt v => exact W.ok h))
theorem S_set {i : Nat} {e : ME} {Q : Fl × Env → Store → Prop} (h : wE Γ d e env st fun v st1 => Q (.nx, env.set i (some v)) st1) : wS Γ d (.set i e) env st Q :=
  W.up (fun _ => rfl) (W.bind (h.mono fun v st1 h => W.ok h))
theorem S_par {i j : Nat} {a b : ME} {Q : Fl × Env → Store → Prop} (h : wE Γ d a env st fun v st1 => wE Γ d b env st1 fun u st2 => Q (.nx, (env.set i (some v)).set j (some u)) st2) : wS Γ d (.par i j a b) env st Q :=
  W.up (fun _ => rfl) (W.bind (h.mono fun v st1 h => W.bind (h.mono fun u st2 h => W.ok h)))
theorem S_put {o i e : ME} {Q : Fl × Env → Store → Prop} (h : wE Γ d e env st fun v st1 => wE Γ d o env st1 fun x st2 => wE Γ d i env st2 fun y st3 => ∃ st', putV x y v st3 = some st' ∧ Q (.nx, env) st') : wS Γ d (.put o i e) env st Q :=
  W.up (fun _ => rfl) (W.bind (h.mono fun v st1 h => W.bind (h.mono fun x st2 h => W.bind (h.mono fun y st3 ⟨st', e, h⟩ => by rw [e]; exact W.ok h))))
theorem S_iff {c : ME} {a b : List MS} {Q : Fl × Env → Store → Prop} (h : wT Γ d c env st fun k st1 => (k = true → wB Γ d a env st1 Q) ∧ (k = false → wB Γ d b env st1 Q)) : wS Γ d (.iff c a b) env st Q :=
  W.up (fun _ => rfl) (W.bind (h.mono fun k st1 ⟨h1, h2⟩ => by
    cases k with
    | true => exact (h1 rfl).eq fun _ => if_pos rfl
    | false => exact (h2 rfl).eq fun _ => if_neg Bool.false_ne_true))
theorem S_ret {e : ME} {Q : Fl × Env → Store → Prop} (h : wE Γ d e env st fun v st1 => Q (.rt v, env) st1) : wS Γ d (.ret e) env st Q :=
  W.up (fun _ => rfl) (W.bind (h.mono fun v st1 h => W.ok h))
theorem S_expr {e : ME} {Q : Fl × Env → Store → Prop} (h : wE Γ d e env st fun v st1 => Q (.nx, env) st1) : wS Γ d (.expr e) env st Q :=
  W.up (fun _ => rfl) (W.bind (h.mono fun v st1 h => W.ok h))
theorem S_for {tg : Tg} {it : MI} {body : List MS} {Q : Fl × Env → Store → Prop} (h : wI Γ d it env st fun w st1 => wF Γ d w tg body env st1 Q) : wS Γ d (.for_ tg it body) env st Q :=
  W.up (fun _ => rfl) (W.bind (h.mono fun v st1 h => h))
theorem S_while {c : ME} {body : List MS} {Q : Fl × Env → Store → Prop} (h : wT Γ d c env st fun k st1 => (k = true → wB Γ d body env st1 fun r st2 => match r.1 with
      | .nx => wS Γ d (.while_ c body) r.2 st2 Q
      | .ct => wS Γ d (.while_ c body) r.2 st2 Q
      | .bk => Q (.nx, r.2) st2
      | .rt v => Q (.rt v, r.2) st2) ∧ (k = false → Q (.nx, env) st1)) : wS Γ d (.while_ c body) env st Q :=
  W.up (fun _ => rfl) (W.bind (h.mono fun k st1 ⟨h1, h2⟩ => by
    cases k with
    | true =>
      refine (W.bind ((h1 rfl).mono fun r st2 h => ?_)).eq fun _ => if_pos rfl
      obtain ⟨fl, env'⟩ := r
      cases fl with
      | nx => exact h
      | ct => exact h
      | bk => exact W.ok h
      | rt v => exact W.ok h
    | false => exact (W.ok (h2 rfl)).eq fun _ => if_neg Bool.false_ne_true))
theorem f_nil {tg : Tg} {body : List MS} {Q : Fl × Env → Store → Prop} (h : Q (.nx, env) st) : wF Γ d (.snap []) tg body env st Q := W.up (run' := fun _ => .ok (.nx, env) st) (fun _ => rfl) (W.ok h)
/-- a turn's end: the next turns, or out -/
def turnQ (Γ : Tab) (d : Nat) (w : Itv) (tg : Tg) (body : List MS) (Q : Fl × Env → Store → Prop) : Fl × Env → Store → Prop := fun r st2 => match r.1 with
  | .nx => wF Γ d w tg body r.2 st2 Q
  | .ct => wF Γ d w tg body r.2 st2 Q
  | .bk => Q (.nx, r.2) st2
  | .rt v => Q (.rt v, r.2) st2
theorem f_cons {tg : Tg} {body : List MS} {v : MV} {xs : List MV} {env1 : Env} {Q : Fl × Env → Store → Prop} (ht : tg.set v env = some env1) (h : wB Γ d body env1 st (turnQ Γ d (.snap xs) tg body Q)) : wF Γ d (.snap (v :: xs)) tg body env st Q :=
  W.up (run' := fun k => ((ev Γ k d).b body env1 st).bind fun r st => match r.1 with
        | .nx => (ev Γ k d).f (.snap xs) tg body r.2 st
        | .ct => (ev Γ k d).f (.snap xs) tg body r.2 st
        | .bk => .ok (.nx, r.2) st
        | .rt v => .ok (.rt v, r.2) st) (fun k => by
      show (match tg.set v env with
        | none => Res.stuck
        | some env1 => _) = _
      rw [ht]
      all_goals rfl) (W.bind (h.mono fun r st2 h => by
    obtain ⟨fl, env'⟩ := r
    cases fl with
    | nx => exact h
    | ct => exact h
    | bk => exact W.ok h
    | rt v => exact W.ok h))
/-- turns that keep an invariant -/
theorem f_inv {tg : Tg} {body : List MS} {xs : List MV} {Q : Fl × Env → Store → Prop} (P : Env → Store → Prop) (h0 : P env st) (step : ∀ v env st, v ∈ xs → P env st → ∃ env1, tg.set v env = some env1 ∧ wB Γ d body env1 st fun r st2 => (r.1 = .nx ∨ r.1 = .ct) ∧ P r.2 st2)
    (out : ∀ env st, P env st → Q (.nx, env) st) : wF Γ d (.snap xs) tg body env st Q := by
  induction xs generalizing env st with
  | nil => exact f_nil (out _ _ h0)
  | cons v xs ih =>
    obtain ⟨env1, e, hb⟩ := step v env st (List.mem_cons_self ..) h0
    refine f_cons e (hb.mono fun r st2 ⟨h1, h2⟩ => ?_)
    obtain ⟨fl, env'⟩ := r
    have q := ih h2 fun v env st hv => step v env st (List.mem_cons_of_mem _ hv)
    rcases h1 with h1 | h1 <;> (simp only at h1; subst h1; exact q)
/-- a comprehension without tests, item by item -/
theorem g_inv {tg : Tg} {el : ME} {xs acc : List MV} {Q : List MV → Store → Prop} (P : List MV → Store → Prop) (h0 : P [] st) (hl : acc.length + xs.length ≤ sizeLine)
    (step : ∀ v ys st, v ∈ xs → P ys st → ∃ env1, tg.set v env = some env1 ∧ wE Γ d el env1 st fun y st2 => P (ys ++ [y]) st2)
    (out : ∀ ys st, ys.length = xs.length → P ys st → Q (acc ++ ys) st) : wG Γ d (.snap xs) tg [] el env acc st Q := by
  have main : ∀ (xs' : List MV) (ys : List MV) (st : Store), (∀ v, v ∈ xs' → v ∈ xs) → acc.length + ys.length + xs'.length ≤ sizeLine → ys.length + xs'.length = xs.length → P ys st → wG Γ d (.snap xs') tg [] el env (acc ++ ys) st Q := by
    intro xs'
    induction xs' with
    | nil => exact fun ys st _ _ h2 hp => g_nil (out ys st h2 hp)
    | cons v xs' ih =>
      intro ys st hv h1 h2 hp
      obtain ⟨env1, e, he⟩ := step v ys st (hv v (List.mem_cons_self ..)) hp
      refine g_cons e (ts_nil' ⟨fun _ => he.mono fun y st2 hy => ⟨?_, ?_⟩, fun z => by cases z⟩)
      · rw [List.length_append]; simp only [List.length_cons] at h1; omega
      · rw [List.append_assoc]
        refine ih (ys ++ [y]) st2 (fun u hu => hv u (List.mem_cons_of_mem _ hu)) ?_ ?_ hy
        · simp only [List.length_append, List.length_cons, List.length_nil] at *; omega
        · simp only [List.length_append, List.length_cons, List.length_nil] at *; omega
  have q := main xs [] st (fun _ h => h) (by simpa using hl) (by simp) h0
  rw [List.append_nil] at q
  exact q
end
end MP

set_option Elab.async false
set_option linter.all false
set_option maxRecDepth 100000
set_option maxHeartbeats 4000000
/-! the laws' own source of choices -/
namespace MP
open PySem L2
theorem Rs.ite {α : Type} {c : Prop} [Decidable c] {r : Res α} {Q : α → Store → Prop} (hc : c) (h : Rs r Q) : Rs (if c then r else .stuck) Q := by rw [if_pos hc]; exact h
/-- the dict of a source -/
def srcKv (g : Nat) (l m t : Int) : List (Key × MV) := [(.inr "cells", .ref g), (.inr "left", .int l), (.inr "mixed", .int m), (.inr "turn", .int t)]
theorem k_cl : ¬ (("cells" : Str) = "left") := by decide +kernel
theorem k_cm : ¬ (("cells" : Str) = "mixed") := by decide +kernel
theorem k_ct : ¬ (("cells" : Str) = "turn") := by decide +kernel
theorem k_lm : ¬ (("left" : Str) = "mixed") := by decide +kernel
theorem k_lt : ¬ (("left" : Str) = "turn") := by decide +kernel
theorem k_mt : ¬ (("mixed" : Str) = "turn") := by decide +kernel
structure SrcAt (st : Store) (s g : Nat) (ds : List Int) (l m t : Int) : Prop where
  wf : st.wf
  ls : s < st.next
  lg : g < st.next
  ne : s ≠ g
  gs : st.get s = some (.dK (srcKv g l m t))
  gg : st.get g = some (.lst (ds.map MV.int))
def Src (st : Store) (s g : Nat) : Prop := ∃ ds l m t, SrcAt st s g ds l m t
/-- only the source has changed -/
structure Fr (s g : Nat) (st st' : Store) : Prop where
  le : st.next ≤ st'.next
  kp : ∀ n, n < st.next → n ≠ s → n ≠ g → st'.get n = st.get n
theorem Fr.refl (s g : Nat) (st : Store) : Fr s g st st := ⟨Nat.le_refl _, fun _ _ _ _ => rfl⟩
theorem Fr.trans {s g : Nat} {a b c : Store} (h : Fr s g a b) (k : Fr s g b c) : Fr s g a c := ⟨Nat.le_trans h.le k.le, fun n hn h1 h2 => (k.kp n (Nat.lt_of_lt_of_le hn h.le) h1 h2).trans (h.kp n hn h1 h2)⟩
theorem Fr.add {s g : Nat} {st : Store} (wf : st.wf) (o : MO) : Fr s g st (st.add o) := ⟨Nat.le_succ _, fun n hn _ _ => by rw [Store.get_add wf, if_neg (Nat.ne_of_lt hn)]⟩
theorem SrcAt.add {st : Store} {s g : Nat} {ds : List Int} {l m t : Int} (h : SrcAt st s g ds l m t) (o : MO) : SrcAt (st.add o) s g ds l m t :=
  ⟨Store.wf_add h.wf _, Nat.lt_succ_of_lt h.ls, Nat.lt_succ_of_lt h.lg, h.ne, by rw [Store.get_add h.wf, if_neg (Nat.ne_of_lt h.ls)]; exact h.gs, by rw [Store.get_add h.wf, if_neg (Nat.ne_of_lt h.lg)]; exact h.gg⟩
theorem Src.add {st : Store} {s g : Nat} (h : Src st s g) (o : MO) : Src (st.add o) s g := let ⟨_, _, _, _, h⟩ := h; ⟨_, _, _, _, h.add o⟩
theorem Src.wf {st : Store} {s g : Nat} (h : Src st s g) : st.wf := let ⟨_, _, _, _, h⟩ := h; h.wf
section
variable {st : Store} {s g : Nat} {ds : List Int} {l m t : Int}
theorem SrcAt.iC (h : SrcAt st s g ds l m t) : idxV (.ref s) (.str "cells") st = .ok (.ref g) st := by
  unfold idxV; simp only [h.gs, keyV, kvLook, srcKv]; simp [k_cl, k_cm, k_ct]
theorem SrcAt.iL (h : SrcAt st s g ds l m t) : idxV (.ref s) (.str "left") st = .ok (.int l) st := by
  unfold idxV; simp only [h.gs, keyV, kvLook, srcKv]; simp [k_cl]
theorem SrcAt.iM (h : SrcAt st s g ds l m t) : idxV (.ref s) (.str "mixed") st = .ok (.int m) st := by
  unfold idxV; simp only [h.gs, keyV, kvLook, srcKv]; simp [k_cm, k_lm]
theorem SrcAt.iT (h : SrcAt st s g ds l m t) : idxV (.ref s) (.str "turn") st = .ok (.int t) st := by
  unfold idxV; simp only [h.gs, keyV, kvLook, srcKv]; simp [k_ct, k_lt, k_mt]
theorem SrcAt.pL (h : SrcAt st s g ds l m t) (x : Int) : ∃ st', putV (.ref s) (.str "left") (.int x) st = some st' ∧ SrcAt st' s g ds x m t ∧ Fr s g st st' := by
  refine ⟨st.set s (.dK (srcKv g x m t)), ?_, ⟨Store.wf_set h.wf _ _, h.ls, h.lg, h.ne, by rw [Store.get_set h.wf, if_pos rfl], by rw [Store.get_set h.wf, if_neg h.ne.symm]; exact h.gg⟩, ⟨Nat.le_refl _, fun n _ h1 _ => by rw [Store.get_set h.wf, if_neg h1]⟩⟩
  unfold putV
  simp only [h.gs, putO, keyV]
  rw [if_pos (show (srcKv g l m t).length < sizeLine from by show 4 < sizeLine; decide)]
  simp [kvPut, srcKv, k_cl, k_lm, k_lt, Ne.symm k_lm, Ne.symm k_lt]
theorem SrcAt.pT (h : SrcAt st s g ds l m t) (x : Int) : ∃ st', putV (.ref s) (.str "turn") (.int x) st = some st' ∧ SrcAt st' s g ds l m x ∧ Fr s g st st' := by
  refine ⟨st.set s (.dK (srcKv g l m x)), ?_, ⟨Store.wf_set h.wf _ _, h.ls, h.lg, h.ne, by rw [Store.get_set h.wf, if_pos rfl], by rw [Store.get_set h.wf, if_neg h.ne.symm]; exact h.gg⟩, ⟨Nat.le_refl _, fun n _ h1 _ => by rw [Store.get_set h.wf, if_neg h1]⟩⟩
  unfold putV
  simp only [h.gs, putO, keyV]
  rw [if_pos (show (srcKv g l m t).length < sizeLine from by show 4 < sizeLine; decide)]
  simp [kvPut, srcKv, k_ct, k_lt, k_mt]
end
def srcBody : List MS :=
  [.set 1 (.lit (.int 11)),
  .for_ (.one 2) (.seq (.var 0))
  [.set 1 (.bin .mod (.bi .int [.bin .add (.bin .add (.bin .mul (.var 1) (.lit (.int 69069))) (.bin .mul (.var 2) (.lit (.int 31)))) (.lit (.int 5))]) (.lit (.int 2147483629)))],
  .set 3 (.mk (.comp (.bi .abs [.var 2]) (.one 2) (.seq (.var 0)) [] [2])),
  .ret (.dicD [(.lit (.str ("cells" : Str)), .mk (.comp (.idx (.var 3) (.bin .sub (.bin .sub (.bi .len [.var 3]) (.lit (.int 1))) (.var 4))) (.one 4) (.rng1 (.bi .len [.var 3])) [] [4])), (.lit (.str ("left" : Str)), .lit (.int 1)), (.lit (.str ("mixed" : Str)), .var 1), (.lit (.str ("turn" : Str)), .lit (.int 0))])]
def whC : ME := .and (.cmp .lt (.idx (.var 0) (.lit (.str ("left" : Str)))) (.lit (.int 2))) (.cmp .gt (.bi .len [.var 2]) (.lit (.int 0)))
def whB : List MS := [.put (.var 0) (.lit (.str ("left" : Str))) (.meth .pop (.var 2) [])]
def pickBody : List MS :=
  [.iff (.cmp .lt (.var 1) (.lit (.int 2)))
  [.ret (.lit (.int 0))]
  [],
  .set 2 (.idx (.var 0) (.lit (.str ("cells" : Str)))),
  .while_ whC whB,
  .set 3 (.idx (.var 0) (.lit (.str ("left" : Str)))),
  .iff (.cmp .gt (.var 3) (.lit (.int 1)))
  [.put (.var 0) (.lit (.str ("left" : Str))) (.bin .fdiv (.var 3) (.var 1)),
  .ret (.bin .mod (.bi .int [.var 3]) (.var 1))]
  [],
  .put (.var 0) (.lit (.str ("turn" : Str))) (.bin .add (.idx (.var 0) (.lit (.str ("turn" : Str)))) (.lit (.int 1))),
  .set 4 (.idx (.var 0) (.lit (.str ("turn" : Str)))),
  .set 5 (.bin .mod (.bi .int [.bin .add (.idx (.var 0) (.lit (.str ("mixed" : Str)))) (.bin .mul (.var 4) (.lit (.int 104729)))]) (.lit (.int 998244353))),
  .set 5 (.bin .mod (.bi .int [.bin .add (.bin .mul (.var 5) (.var 5)) (.bin .mul (.var 4) (.lit (.int 17)))]) (.lit (.int 2147483647))),
  .iff (.cmp .gt (.var 1) (.bin .pow (.lit (.int 10)) (.lit (.int 7))))
  [.set 5 (.bin .pow (.bi .int [.bin .add (.bin .mul (.var 5) (.lit (.int 48271))) (.var 4)]) (.lit (.int 9)))]
  [],
  .ret (.bin .mod (.bi .int [.bin .fdiv (.var 5) (.lit (.int 16))]) (.var 1))]
section
variable {Γ : Tab} {d : Nat}
theorem ixs {i : MV → MV → Store → Res MV} {a b v : MV} {st st' : Store} {Q : MV → Store → Prop} (e : i a b st = .ok v st') (h : Q v st') : Rs (i a b st) Q := ⟨v, st', e, h⟩
theorem while_ok {s g : Nat} {m t : Int} {env : Env} {Q : Fl × Env → Store → Prop} (e0 : env[0]? = some (some (.ref s))) (e2 : env[2]? = some (some (.ref g))) :
    ∀ (n : Nat) (ds : List Int) (l : Int) (st : Store), ds.length = n → SrcAt st s g ds l m t → (∀ ds' l' st', SrcAt st' s g ds' l' m t → Fr s g st st' → Q (.nx, env) st') → wS Γ d (.while_ whC whB) env st Q := by
  intro n
  induction n with
  | zero =>
    intro ds l st hn h k
    have : ds = [] := List.length_eq_zero_iff.mp hn
    subst this
    refine S_while ?_
    unfold whC
    refine t_and' (t_e (fun _ _ _ => rfl) (e_cmp (e_idx (e_var e0 (e_lit (ixs h.iL (e_lit (Rs.ok ⟨_, rfl, fun hk => ?_, fun hk => ⟨(fun z => by cases z), fun _ => k _ _ _ h (Fr.refl _ _ _)⟩⟩))))))))
    refine t_e (fun _ _ _ => rfl) (e_cmp (e_bi (a_cons (e_var e2 (a_nil ?_)))))
    refine ⟨.int 0, st, ?_, e_lit (Rs.ok ⟨_, rfl, fun z => by simp at z, fun _ => k _ _ _ h (Fr.refl _ _ _)⟩)⟩
    unfold biV
    simp only [h.gg]
    rfl
  | succ n ih =>
    intro ds l st hn h k
    refine S_while ?_
    unfold whC
    refine t_and' (t_e (fun _ _ _ => rfl) (e_cmp (e_idx (e_var e0 (e_lit (ixs h.iL (e_lit (Rs.ok ⟨_, rfl, fun hk => ?_, fun hk => ⟨(fun z => by cases z), fun _ => k _ _ _ h (Fr.refl _ _ _)⟩⟩))))))))
    refine t_e (fun _ _ _ => rfl) (e_cmp (e_bi (a_cons (e_var e2 (a_nil ?_)))))
    refine ⟨.int (ds.length : Int), st, ?_, e_lit (Rs.ok ⟨_, rfl, fun _ => ?_, fun z => by simp [hn] at z⟩)⟩
    · unfold biV
      simp only [h.gg]
      simp
    obtain ⟨ds', x, rfl⟩ : ∃ ds' x, ds = ds' ++ [x] := by
      rcases List.eq_nil_or_concat ds with e | ⟨a, b, e⟩
      · subst e; cases hn
      · exact ⟨a, b, by simpa using e⟩
    unfold whB
    refine b_cons' (S_put (e_meth (e_var e2 ⟨?_, a_nil ?_⟩)))
    · unfold isLst
      simp only [h.gg]
    have hs : SrcAt (st.set g (.lst (ds'.map MV.int))) s g ds' l m t := ⟨Store.wf_set h.wf _ _, h.ls, h.lg, h.ne, by rw [Store.get_set h.wf, if_neg h.ne]; exact h.gs, by rw [Store.get_set h.wf, if_pos rfl]⟩
    have hf : Fr s g st (st.set g (.lst (ds'.map MV.int))) := ⟨Nat.le_refl _, fun n _ _ h2 => by rw [Store.get_set h.wf, if_neg h2]⟩
    refine ⟨.int x, st.set g (.lst (ds'.map MV.int)), ?_, e_var e0 (e_lit ?_)⟩
    · unfold methV
      simp only [h.gg]
      simp
    obtain ⟨st', e, hs', hf'⟩ := hs.pL x
    refine ⟨st', e, b_nil' ?_⟩
    exact ih ds' x st' (by simpa using hn) hs' fun ds2 l2 st2 h2 f2 => k ds2 l2 st2 h2 ((hf.trans hf').trans f2)
theorem pick_ok {s g : Nat} {st : Store} {many : Int} (h : Src st s g) (h0 : 0 < many) (h1 : many < 1000) :
    wB Γ d pickBody [some (.ref s), some (.int many), none, none, none, none] st (retQ fun v st' => ∃ r : Int, v = .int r ∧ 0 ≤ r ∧ r < many ∧ Src st' s g ∧ Fr s g st st') := by
  obtain ⟨ds, l, m, t, h⟩ := h
  unfold pickBody
  repeat (first | refine b_cons' ?_ | refine b_nil' ?_ | refine S_set ?_ | refine S_iff ?_ | refine S_ret ?_ | refine S_expr ?_ | refine S_put ?_ | refine S_par ?_ | refine S_for ?_ | refine e_lit ?_ | refine e_var rfl ?_ | refine e_bin ?_ | refine e_cmp ?_ | refine e_cmpL ?_ | refine e_isN ?_ | refine e_isB ?_ | refine e_and ?_ | refine e_or ?_ | refine e_not ?_ | refine e_ifx ?_ | refine e_idx ?_ | refine e_slc ?_ | refine e_tup ?_ | refine e_mk ?_ | refine e_dic (by decide) ?_ | refine e_call ?_ | refine e_bi ?_ | refine e_all ?_ | refine e_any ?_ | refine e_join ?_ | refine e_neg ?_ | refine e_meth ?_ | refine t_and' ?_ | refine t_or' ?_ | refine t_not' ?_ | refine t_e (fun _ _ _ => rfl) ?_ | refine a_nil ?_ | refine a_cons ?_ | refine p_nil' ?_ | refine p_cons' ?_ | refine o_none' ?_ | refine o_some' ?_ | refine l_lst ?_ | refine l_comp ?_ | refine l_val (fun _ _ _ => rfl) ?_ | refine i_seq' ?_ | refine i_tmp' ?_ | refine i_rng ?_ | refine ts_nil' ?_ | refine ts_one' ?_ | refine Rs.ok ?_)
  refine ⟨_, rfl, fun hk => ?_, fun hk => ?_⟩
  · repeat (first | refine b_cons' ?_ | refine b_nil' ?_ | refine S_set ?_ | refine S_iff ?_ | refine S_ret ?_ | refine S_expr ?_ | refine S_put ?_ | refine S_par ?_ | refine S_for ?_ | refine e_lit ?_ | refine e_var rfl ?_ | refine e_bin ?_ | refine e_cmp ?_ | refine e_cmpL ?_ | refine e_isN ?_ | refine e_isB ?_ | refine e_and ?_ | refine e_or ?_ | refine e_not ?_ | refine e_ifx ?_ | refine e_idx ?_ | refine e_slc ?_ | refine e_tup ?_ | refine e_mk ?_ | refine e_dic (by decide) ?_ | refine e_call ?_ | refine e_bi ?_ | refine e_all ?_ | refine e_any ?_ | refine e_join ?_ | refine e_neg ?_ | refine e_meth ?_ | refine t_and' ?_ | refine t_or' ?_ | refine t_not' ?_ | refine t_e (fun _ _ _ => rfl) ?_ | refine a_nil ?_ | refine a_cons ?_ | refine p_nil' ?_ | refine p_cons' ?_ | refine o_none' ?_ | refine o_some' ?_ | refine l_lst ?_ | refine l_comp ?_ | refine l_val (fun _ _ _ => rfl) ?_ | refine i_seq' ?_ | refine i_tmp' ?_ | refine i_rng ?_ | refine ts_nil' ?_ | refine ts_one' ?_ | refine Rs.ok ?_)
    exact ⟨0, rfl, by omega, by omega, ⟨_, _, _, _, h⟩, Fr.refl _ _ _⟩
  repeat (first | refine b_cons' ?_ | refine b_nil' ?_ | refine S_set ?_ | refine S_iff ?_ | refine S_ret ?_ | refine S_expr ?_ | refine S_put ?_ | refine S_par ?_ | refine S_for ?_ | refine e_lit ?_ | refine e_var rfl ?_ | refine e_bin ?_ | refine e_cmp ?_ | refine e_cmpL ?_ | refine e_isN ?_ | refine e_isB ?_ | refine e_and ?_ | refine e_or ?_ | refine e_not ?_ | refine e_ifx ?_ | refine e_idx ?_ | refine e_slc ?_ | refine e_tup ?_ | refine e_mk ?_ | refine e_dic (by decide) ?_ | refine e_call ?_ | refine e_bi ?_ | refine e_all ?_ | refine e_any ?_ | refine e_join ?_ | refine e_neg ?_ | refine e_meth ?_ | refine t_and' ?_ | refine t_or' ?_ | refine t_not' ?_ | refine t_e (fun _ _ _ => rfl) ?_ | refine a_nil ?_ | refine a_cons ?_ | refine p_nil' ?_ | refine p_cons' ?_ | refine o_none' ?_ | refine o_some' ?_ | refine l_lst ?_ | refine l_comp ?_ | refine l_val (fun _ _ _ => rfl) ?_ | refine i_seq' ?_ | refine i_tmp' ?_ | refine i_rng ?_ | refine ts_nil' ?_ | refine ts_one' ?_ | refine Rs.ok ?_)
  refine ixs h.iC ?_
  refine b_cons' (while_ok rfl rfl _ ds l st rfl h fun ds1 l1 st1 h1' f1 => ?_)
  repeat (first | refine b_cons' ?_ | refine b_nil' ?_ | refine S_set ?_ | refine S_iff ?_ | refine S_ret ?_ | refine S_expr ?_ | refine S_put ?_ | refine S_par ?_ | refine S_for ?_ | refine e_lit ?_ | refine e_var rfl ?_ | refine e_bin ?_ | refine e_cmp ?_ | refine e_cmpL ?_ | refine e_isN ?_ | refine e_isB ?_ | refine e_and ?_ | refine e_or ?_ | refine e_not ?_ | refine e_ifx ?_ | refine e_idx ?_ | refine e_slc ?_ | refine e_tup ?_ | refine e_mk ?_ | refine e_dic (by decide) ?_ | refine e_call ?_ | refine e_bi ?_ | refine e_all ?_ | refine e_any ?_ | refine e_join ?_ | refine e_neg ?_ | refine e_meth ?_ | refine t_and' ?_ | refine t_or' ?_ | refine t_not' ?_ | refine t_e (fun _ _ _ => rfl) ?_ | refine a_nil ?_ | refine a_cons ?_ | refine p_nil' ?_ | refine p_cons' ?_ | refine o_none' ?_ | refine o_some' ?_ | refine l_lst ?_ | refine l_comp ?_ | refine l_val (fun _ _ _ => rfl) ?_ | refine i_seq' ?_ | refine i_tmp' ?_ | refine i_rng ?_ | refine ts_nil' ?_ | refine ts_one' ?_ | refine Rs.ok ?_)
  refine ixs h1'.iL ?_
  repeat (first | refine b_cons' ?_ | refine b_nil' ?_ | refine S_set ?_ | refine S_iff ?_ | refine S_ret ?_ | refine S_expr ?_ | refine S_put ?_ | refine S_par ?_ | refine S_for ?_ | refine e_lit ?_ | refine e_var rfl ?_ | refine e_bin ?_ | refine e_cmp ?_ | refine e_cmpL ?_ | refine e_isN ?_ | refine e_isB ?_ | refine e_and ?_ | refine e_or ?_ | refine e_not ?_ | refine e_ifx ?_ | refine e_idx ?_ | refine e_slc ?_ | refine e_tup ?_ | refine e_mk ?_ | refine e_dic (by decide) ?_ | refine e_call ?_ | refine e_bi ?_ | refine e_all ?_ | refine e_any ?_ | refine e_join ?_ | refine e_neg ?_ | refine e_meth ?_ | refine t_and' ?_ | refine t_or' ?_ | refine t_not' ?_ | refine t_e (fun _ _ _ => rfl) ?_ | refine a_nil ?_ | refine a_cons ?_ | refine p_nil' ?_ | refine p_cons' ?_ | refine o_none' ?_ | refine o_some' ?_ | refine l_lst ?_ | refine l_comp ?_ | refine l_val (fun _ _ _ => rfl) ?_ | refine i_seq' ?_ | refine i_tmp' ?_ | refine i_rng ?_ | refine ts_nil' ?_ | refine ts_one' ?_ | refine Rs.ok ?_)
  refine ⟨_, rfl, fun hk => ?_, fun hk => ?_⟩
  · repeat (first | refine b_cons' ?_ | refine b_nil' ?_ | refine S_set ?_ | refine S_iff ?_ | refine S_ret ?_ | refine S_expr ?_ | refine S_put ?_ | refine S_par ?_ | refine S_for ?_ | refine e_lit ?_ | refine e_var rfl ?_ | refine e_bin ?_ | refine e_cmp ?_ | refine e_cmpL ?_ | refine e_isN ?_ | refine e_isB ?_ | refine e_and ?_ | refine e_or ?_ | refine e_not ?_ | refine e_ifx ?_ | refine e_idx ?_ | refine e_slc ?_ | refine e_tup ?_ | refine e_mk ?_ | refine e_dic (by decide) ?_ | refine e_call ?_ | refine e_bi ?_ | refine e_all ?_ | refine e_any ?_ | refine e_join ?_ | refine e_neg ?_ | refine e_meth ?_ | refine t_and' ?_ | refine t_or' ?_ | refine t_not' ?_ | refine t_e (fun _ _ _ => rfl) ?_ | refine a_nil ?_ | refine a_cons ?_ | refine p_nil' ?_ | refine p_cons' ?_ | refine o_none' ?_ | refine o_some' ?_ | refine l_lst ?_ | refine l_comp ?_ | refine l_val (fun _ _ _ => rfl) ?_ | refine i_seq' ?_ | refine i_tmp' ?_ | refine i_rng ?_ | refine ts_nil' ?_ | refine ts_one' ?_ | refine Rs.ok ?_)
    refine Rs.ite (by omega) (Rs.ok ?_)
    repeat (first | refine b_cons' ?_ | refine b_nil' ?_ | refine S_set ?_ | refine S_iff ?_ | refine S_ret ?_ | refine S_expr ?_ | refine S_put ?_ | refine S_par ?_ | refine S_for ?_ | refine e_lit ?_ | refine e_var rfl ?_ | refine e_bin ?_ | refine e_cmp ?_ | refine e_cmpL ?_ | refine e_isN ?_ | refine e_isB ?_ | refine e_and ?_ | refine e_or ?_ | refine e_not ?_ | refine e_ifx ?_ | refine e_idx ?_ | refine e_slc ?_ | refine e_tup ?_ | refine e_mk ?_ | refine e_dic (by decide) ?_ | refine e_call ?_ | refine e_bi ?_ | refine e_all ?_ | refine e_any ?_ | refine e_join ?_ | refine e_neg ?_ | refine e_meth ?_ | refine t_and' ?_ | refine t_or' ?_ | refine t_not' ?_ | refine t_e (fun _ _ _ => rfl) ?_ | refine a_nil ?_ | refine a_cons ?_ | refine p_nil' ?_ | refine p_cons' ?_ | refine o_none' ?_ | refine o_some' ?_ | refine l_lst ?_ | refine l_comp ?_ | refine l_val (fun _ _ _ => rfl) ?_ | refine i_seq' ?_ | refine i_tmp' ?_ | refine i_rng ?_ | refine ts_nil' ?_ | refine ts_one' ?_ | refine Rs.ok ?_)
    obtain ⟨st2, e, h2, f2⟩ := h1'.pL (l1 / many)
    refine ⟨st2, e, ?_⟩
    repeat (first | refine b_cons' ?_ | refine b_nil' ?_ | refine S_set ?_ | refine S_iff ?_ | refine S_ret ?_ | refine S_expr ?_ | refine S_put ?_ | refine S_par ?_ | refine S_for ?_ | refine e_lit ?_ | refine e_var rfl ?_ | refine e_bin ?_ | refine e_cmp ?_ | refine e_cmpL ?_ | refine e_isN ?_ | refine e_isB ?_ | refine e_and ?_ | refine e_or ?_ | refine e_not ?_ | refine e_ifx ?_ | refine e_idx ?_ | refine e_slc ?_ | refine e_tup ?_ | refine e_mk ?_ | refine e_dic (by decide) ?_ | refine e_call ?_ | refine e_bi ?_ | refine e_all ?_ | refine e_any ?_ | refine e_join ?_ | refine e_neg ?_ | refine e_meth ?_ | refine t_and' ?_ | refine t_or' ?_ | refine t_not' ?_ | refine t_e (fun _ _ _ => rfl) ?_ | refine a_nil ?_ | refine a_cons ?_ | refine p_nil' ?_ | refine p_cons' ?_ | refine o_none' ?_ | refine o_some' ?_ | refine l_lst ?_ | refine l_comp ?_ | refine l_val (fun _ _ _ => rfl) ?_ | refine i_seq' ?_ | refine i_tmp' ?_ | refine i_rng ?_ | refine ts_nil' ?_ | refine ts_one' ?_ | refine Rs.ok ?_)
    refine Rs.ite h0 (Rs.ok ?_)
    exact ⟨_, rfl, Int.emod_nonneg _ (by omega), Int.emod_lt_of_pos _ h0, ⟨_, _, _, _, h2⟩, f1.trans f2⟩
  repeat (first | refine b_cons' ?_ | refine b_nil' ?_ | refine S_set ?_ | refine S_iff ?_ | refine S_ret ?_ | refine S_expr ?_ | refine S_put ?_ | refine S_par ?_ | refine S_for ?_ | refine e_lit ?_ | refine e_var rfl ?_ | refine e_bin ?_ | refine e_cmp ?_ | refine e_cmpL ?_ | refine e_isN ?_ | refine e_isB ?_ | refine e_and ?_ | refine e_or ?_ | refine e_not ?_ | refine e_ifx ?_ | refine e_idx ?_ | refine e_slc ?_ | refine e_tup ?_ | refine e_mk ?_ | refine e_dic (by decide) ?_ | refine e_call ?_ | refine e_bi ?_ | refine e_all ?_ | refine e_any ?_ | refine e_join ?_ | refine e_neg ?_ | refine e_meth ?_ | refine t_and' ?_ | refine t_or' ?_ | refine t_not' ?_ | refine t_e (fun _ _ _ => rfl) ?_ | refine a_nil ?_ | refine a_cons ?_ | refine p_nil' ?_ | refine p_cons' ?_ | refine o_none' ?_ | refine o_some' ?_ | refine l_lst ?_ | refine l_comp ?_ | refine l_val (fun _ _ _ => rfl) ?_ | refine i_seq' ?_ | refine i_tmp' ?_ | refine i_rng ?_ | refine ts_nil' ?_ | refine ts_one' ?_ | refine Rs.ok ?_)
  refine ixs h1'.iT ?_
  repeat (first | refine b_cons' ?_ | refine b_nil' ?_ | refine S_set ?_ | refine S_iff ?_ | refine S_ret ?_ | refine S_expr ?_ | refine S_put ?_ | refine S_par ?_ | refine S_for ?_ | refine e_lit ?_ | refine e_var rfl ?_ | refine e_bin ?_ | refine e_cmp ?_ | refine e_cmpL ?_ | refine e_isN ?_ | refine e_isB ?_ | refine e_and ?_ | refine e_or ?_ | refine e_not ?_ | refine e_ifx ?_ | refine e_idx ?_ | refine e_slc ?_ | refine e_tup ?_ | refine e_mk ?_ | refine e_dic (by decide) ?_ | refine e_call ?_ | refine e_bi ?_ | refine e_all ?_ | refine e_any ?_ | refine e_join ?_ | refine e_neg ?_ | refine e_meth ?_ | refine t_and' ?_ | refine t_or' ?_ | refine t_not' ?_ | refine t_e (fun _ _ _ => rfl) ?_ | refine a_nil ?_ | refine a_cons ?_ | refine p_nil' ?_ | refine p_cons' ?_ | refine o_none' ?_ | refine o_some' ?_ | refine l_lst ?_ | refine l_comp ?_ | refine l_val (fun _ _ _ => rfl) ?_ | refine i_seq' ?_ | refine i_tmp' ?_ | refine i_rng ?_ | refine ts_nil' ?_ | refine ts_one' ?_ | refine Rs.ok ?_)
  obtain ⟨st2, e, h2, f2⟩ := h1'.pT (t + 1)
  refine ⟨st2, e, ?_⟩
  repeat (first | refine b_cons' ?_ | refine b_nil' ?_ | refine S_set ?_ | refine S_iff ?_ | refine S_ret ?_ | refine S_expr ?_ | refine S_put ?_ | refine S_par ?_ | refine S_for ?_ | refine e_lit ?_ | refine e_var rfl ?_ | refine e_bin ?_ | refine e_cmp ?_ | refine e_cmpL ?_ | refine e_isN ?_ | refine e_isB ?_ | refine e_and ?_ | refine e_or ?_ | refine e_not ?_ | refine e_ifx ?_ | refine e_idx ?_ | refine e_slc ?_ | refine e_tup ?_ | refine e_mk ?_ | refine e_dic (by decide) ?_ | refine e_call ?_ | refine e_bi ?_ | refine e_all ?_ | refine e_any ?_ | refine e_join ?_ | refine e_neg ?_ | refine e_meth ?_ | refine t_and' ?_ | refine t_or' ?_ | refine t_not' ?_ | refine t_e (fun _ _ _ => rfl) ?_ | refine a_nil ?_ | refine a_cons ?_ | refine p_nil' ?_ | refine p_cons' ?_ | refine o_none' ?_ | refine o_some' ?_ | refine l_lst ?_ | refine l_comp ?_ | refine l_val (fun _ _ _ => rfl) ?_ | refine i_seq' ?_ | refine i_tmp' ?_ | refine i_rng ?_ | refine ts_nil' ?_ | refine ts_one' ?_ | refine Rs.ok ?_)
  refine ixs h2.iT ?_
  repeat (first | refine b_cons' ?_ | refine b_nil' ?_ | refine S_set ?_ | refine S_iff ?_ | refine S_ret ?_ | refine S_expr ?_ | refine S_put ?_ | refine S_par ?_ | refine S_for ?_ | refine e_lit ?_ | refine e_var rfl ?_ | refine e_bin ?_ | refine e_cmp ?_ | refine e_cmpL ?_ | refine e_isN ?_ | refine e_isB ?_ | refine e_and ?_ | refine e_or ?_ | refine e_not ?_ | refine e_ifx ?_ | refine e_idx ?_ | refine e_slc ?_ | refine e_tup ?_ | refine e_mk ?_ | refine e_dic (by decide) ?_ | refine e_call ?_ | refine e_bi ?_ | refine e_all ?_ | refine e_any ?_ | refine e_join ?_ | refine e_neg ?_ | refine e_meth ?_ | refine t_and' ?_ | refine t_or' ?_ | refine t_not' ?_ | refine t_e (fun _ _ _ => rfl) ?_ | refine a_nil ?_ | refine a_cons ?_ | refine p_nil' ?_ | refine p_cons' ?_ | refine o_none' ?_ | refine o_some' ?_ | refine l_lst ?_ | refine l_comp ?_ | refine l_val (fun _ _ _ => rfl) ?_ | refine i_seq' ?_ | refine i_tmp' ?_ | refine i_rng ?_ | refine ts_nil' ?_ | refine ts_one' ?_ | refine Rs.ok ?_)
  refine ixs h2.iM ?_
  repeat (first | refine b_cons' ?_ | refine b_nil' ?_ | refine S_set ?_ | refine S_iff ?_ | refine S_ret ?_ | refine S_expr ?_ | refine S_put ?_ | refine S_par ?_ | refine S_for ?_ | refine e_lit ?_ | refine e_var rfl ?_ | refine e_bin ?_ | refine e_cmp ?_ | refine e_cmpL ?_ | refine e_isN ?_ | refine e_isB ?_ | refine e_and ?_ | refine e_or ?_ | refine e_not ?_ | refine e_ifx ?_ | refine e_idx ?_ | refine e_slc ?_ | refine e_tup ?_ | refine e_mk ?_ | refine e_dic (by decide) ?_ | refine e_call ?_ | refine e_bi ?_ | refine e_all ?_ | refine e_any ?_ | refine e_join ?_ | refine e_neg ?_ | refine e_meth ?_ | refine t_and' ?_ | refine t_or' ?_ | refine t_not' ?_ | refine t_e (fun _ _ _ => rfl) ?_ | refine a_nil ?_ | refine a_cons ?_ | refine p_nil' ?_ | refine p_cons' ?_ | refine o_none' ?_ | refine o_some' ?_ | refine l_lst ?_ | refine l_comp ?_ | refine l_val (fun _ _ _ => rfl) ?_ | refine i_seq' ?_ | refine i_tmp' ?_ | refine i_rng ?_ | refine ts_nil' ?_ | refine ts_one' ?_ | refine Rs.ok ?_)
  refine Rs.ite (by simp [small]) (Rs.ok ?_)
  repeat (first | refine b_cons' ?_ | refine b_nil' ?_ | refine S_set ?_ | refine S_iff ?_ | refine S_ret ?_ | refine S_expr ?_ | refine S_put ?_ | refine S_par ?_ | refine S_for ?_ | refine e_lit ?_ | refine e_var rfl ?_ | refine e_bin ?_ | refine e_cmp ?_ | refine e_cmpL ?_ | refine e_isN ?_ | refine e_isB ?_ | refine e_and ?_ | refine e_or ?_ | refine e_not ?_ | refine e_ifx ?_ | refine e_idx ?_ | refine e_slc ?_ | refine e_tup ?_ | refine e_mk ?_ | refine e_dic (by decide) ?_ | refine e_call ?_ | refine e_bi ?_ | refine e_all ?_ | refine e_any ?_ | refine e_join ?_ | refine e_neg ?_ | refine e_meth ?_ | refine t_and' ?_ | refine t_or' ?_ | refine t_not' ?_ | refine t_e (fun _ _ _ => rfl) ?_ | refine a_nil ?_ | refine a_cons ?_ | refine p_nil' ?_ | refine p_cons' ?_ | refine o_none' ?_ | refine o_some' ?_ | refine l_lst ?_ | refine l_comp ?_ | refine l_val (fun _ _ _ => rfl) ?_ | refine i_seq' ?_ | refine i_tmp' ?_ | refine i_rng ?_ | refine ts_nil' ?_ | refine ts_one' ?_ | refine Rs.ok ?_)
  refine Rs.ite (by
    have a1 := Int.emod_nonneg (m + (t + 1) * 104729) (b := 998244353) (by decide)
    have a2 := Int.emod_lt_of_pos (m + (t + 1) * 104729) (b := 998244353) (by decide)
    simp only [small, Bool.or_eq_true, Bool.and_eq_true, decide_eq_true_eq]
    omega) (Rs.ok ?_)
  repeat (first | refine b_cons' ?_ | refine b_nil' ?_ | refine S_set ?_ | refine S_iff ?_ | refine S_ret ?_ | refine S_expr ?_ | refine S_put ?_ | refine S_par ?_ | refine S_for ?_ | refine e_lit ?_ | refine e_var rfl ?_ | refine e_bin ?_ | refine e_cmp ?_ | refine e_cmpL ?_ | refine e_isN ?_ | refine e_isB ?_ | refine e_and ?_ | refine e_or ?_ | refine e_not ?_ | refine e_ifx ?_ | refine e_idx ?_ | refine e_slc ?_ | refine e_tup ?_ | refine e_mk ?_ | refine e_dic (by decide) ?_ | refine e_call ?_ | refine e_bi ?_ | refine e_all ?_ | refine e_any ?_ | refine e_join ?_ | refine e_neg ?_ | refine e_meth ?_ | refine t_and' ?_ | refine t_or' ?_ | refine t_not' ?_ | refine t_e (fun _ _ _ => rfl) ?_ | refine a_nil ?_ | refine a_cons ?_ | refine p_nil' ?_ | refine p_cons' ?_ | refine o_none' ?_ | refine o_some' ?_ | refine l_lst ?_ | refine l_comp ?_ | refine l_val (fun _ _ _ => rfl) ?_ | refine i_seq' ?_ | refine i_tmp' ?_ | refine i_rng ?_ | refine ts_nil' ?_ | refine ts_one' ?_ | refine Rs.ok ?_)
  refine Rs.ite (by simp [small]) (Rs.ok ?_)
  repeat (first | refine b_cons' ?_ | refine b_nil' ?_ | refine S_set ?_ | refine S_iff ?_ | refine S_ret ?_ | refine S_expr ?_ | refine S_put ?_ | refine S_par ?_ | refine S_for ?_ | refine e_lit ?_ | refine e_var rfl ?_ | refine e_bin ?_ | refine e_cmp ?_ | refine e_cmpL ?_ | refine e_isN ?_ | refine e_isB ?_ | refine e_and ?_ | refine e_or ?_ | refine e_not ?_ | refine e_ifx ?_ | refine e_idx ?_ | refine e_slc ?_ | refine e_tup ?_ | refine e_mk ?_ | refine e_dic (by decide) ?_ | refine e_call ?_ | refine e_bi ?_ | refine e_all ?_ | refine e_any ?_ | refine e_join ?_ | refine e_neg ?_ | refine e_meth ?_ | refine t_and' ?_ | refine t_or' ?_ | refine t_not' ?_ | refine t_e (fun _ _ _ => rfl) ?_ | refine a_nil ?_ | refine a_cons ?_ | refine p_nil' ?_ | refine p_cons' ?_ | refine o_none' ?_ | refine o_some' ?_ | refine l_lst ?_ | refine l_comp ?_ | refine l_val (fun _ _ _ => rfl) ?_ | refine i_seq' ?_ | refine i_tmp' ?_ | refine i_rng ?_ | refine ts_nil' ?_ | refine ts_one' ?_ | refine Rs.ok ?_)
  refine ⟨_, rfl, fun hk => ?_, fun hk => ?_⟩
  · exfalso
    have hk' := of_decide_eq_true hk
    have e : (10 : Int) ^ (7 : Int).toNat = 10000000 := by decide
    rw [e] at hk'
    omega
  repeat (first | refine b_cons' ?_ | refine b_nil' ?_ | refine S_set ?_ | refine S_iff ?_ | refine S_ret ?_ | refine S_expr ?_ | refine S_put ?_ | refine S_par ?_ | refine S_for ?_ | refine e_lit ?_ | refine e_var rfl ?_ | refine e_bin ?_ | refine e_cmp ?_ | refine e_cmpL ?_ | refine e_isN ?_ | refine e_isB ?_ | refine e_and ?_ | refine e_or ?_ | refine e_not ?_ | refine e_ifx ?_ | refine e_idx ?_ | refine e_slc ?_ | refine e_tup ?_ | refine e_mk ?_ | refine e_dic (by decide) ?_ | refine e_call ?_ | refine e_bi ?_ | refine e_all ?_ | refine e_any ?_ | refine e_join ?_ | refine e_neg ?_ | refine e_meth ?_ | refine t_and' ?_ | refine t_or' ?_ | refine t_not' ?_ | refine t_e (fun _ _ _ => rfl) ?_ | refine a_nil ?_ | refine a_cons ?_ | refine p_nil' ?_ | refine p_cons' ?_ | refine o_none' ?_ | refine o_some' ?_ | refine l_lst ?_ | refine l_comp ?_ | refine l_val (fun _ _ _ => rfl) ?_ | refine i_seq' ?_ | refine i_tmp' ?_ | refine i_rng ?_ | refine ts_nil' ?_ | refine ts_one' ?_ | refine Rs.ok ?_)
  refine Rs.ite h0 (Rs.ok ?_)
  exact ⟨_, rfl, Int.emod_nonneg _ (by omega), Int.emod_lt_of_pos _ h0, ⟨_, _, _, _, h2⟩, f1.trans f2⟩
theorem ints_mem {xs : List Int} {v : MV} (h : v ∈ xs.map MV.int) : ∃ i, v = .int i := by
  obtain ⟨i, _, e⟩ := List.mem_map.mp h
  exact ⟨i, e.symm⟩
theorem rngV_mem {n : Nat} {v : MV} : ∀ {lo : Int}, v ∈ rngV lo n → ∃ i : Int, v = .int i ∧ lo ≤ i ∧ i < lo + n := by
  induction n with
  | zero => intro lo h; cases h
  | succ n ih =>
    intro lo h
    rcases List.mem_cons.mp h with rfl | h
    · exact ⟨lo, rfl, by omega, by omega⟩
    · obtain ⟨i, e, h1, h2⟩ := ih h
      exact ⟨i, e, by omega, by omega⟩
theorem rngV_len (n : Nat) : ∀ lo : Int, (rngV lo n).length = n := by
  induction n with
  | zero => intro lo; rfl
  | succ n ih => intro lo; show (rngV (lo + 1) n).length + 1 = n + 1; rw [ih]
theorem atI_in {α : Type} {xs : List α} {i : Int} (h0 : 0 ≤ i) (h1 : i < xs.length) : ∃ x, atI xs i = some x ∧ x ∈ xs := by
  have hl : i.toNat < xs.length := by omega
  refine ⟨xs[i.toNat], ?_, List.getElem_mem hl⟩
  unfold atI ixN
  rw [if_pos h0, if_pos h1]
  exact List.getElem?_eq_getElem hl
theorem g_inv0 {env : Env} {st : Store} {tg : Tg} {el : ME} {xs : List MV} {Q : List MV → Store → Prop} (P : List MV → Store → Prop) (h0 : P [] st) (hl : xs.length ≤ sizeLine)
    (step : ∀ v ys st, v ∈ xs → P ys st → ∃ env1, tg.set v env = some env1 ∧ wE Γ d el env1 st fun y st2 => P (ys ++ [y]) st2)
    (out : ∀ ys st, ys.length = xs.length → P ys st → Q ys st) : wG Γ d (.snap xs) tg [] el env [] st Q :=
  g_inv (acc := []) P h0 (by rw [List.length_nil, Nat.zero_add]; exact hl) step fun ys st h1 h2 => by rw [List.nil_append]; exact out ys st h1 h2
theorem source_ok {st : Store} {xs : List Int} (wf : st.wf) (hl : xs.length ≤ 63) :
    wB Γ d srcBody [some (.scr (xs.map MV.int)), none, none, none, none] st (retQ fun v st' => ∃ s g, v = .ref s ∧ Src st' s g) := by
  have hz : (63 : Nat) ≤ sizeLine := by decide
  unfold srcBody
  refine b_cons' (S_set (e_lit ?_))
  refine b_cons' (S_for (i_seq' (e_var rfl ⟨_, rfl, ?_⟩)))
  refine f_inv (fun env st1 => st1 = st ∧ ∃ (m : Int) (c : Option MV), env = [some (.scr (xs.map MV.int)), some (.int m), c, none, none]) ⟨rfl, 11, none, rfl⟩ ?_ ?_
  · rintro v env st1 hv ⟨rfl, m, c, rfl⟩
    obtain ⟨i, rfl⟩ := ints_mem hv
    refine ⟨_, rfl, ?_⟩
    repeat (first | refine b_cons' ?_ | refine b_nil' ?_ | refine S_set ?_ | refine S_iff ?_ | refine S_ret ?_ | refine S_expr ?_ | refine S_put ?_ | refine S_par ?_ | refine S_for ?_ | refine e_lit ?_ | refine e_var rfl ?_ | refine e_bin ?_ | refine e_cmp ?_ | refine e_cmpL ?_ | refine e_isN ?_ | refine e_isB ?_ | refine e_and ?_ | refine e_or ?_ | refine e_not ?_ | refine e_ifx ?_ | refine e_idx ?_ | refine e_slc ?_ | refine e_tup ?_ | refine e_mk ?_ | refine e_dic (by decide) ?_ | refine e_call ?_ | refine e_bi ?_ | refine e_all ?_ | refine e_any ?_ | refine e_join ?_ | refine e_neg ?_ | refine e_meth ?_ | refine t_and' ?_ | refine t_or' ?_ | refine t_not' ?_ | refine t_e (fun _ _ _ => rfl) ?_ | refine a_nil ?_ | refine a_cons ?_ | refine p_nil' ?_ | refine p_cons' ?_ | refine o_none' ?_ | refine o_some' ?_ | refine l_lst ?_ | refine l_comp ?_ | refine l_val (fun _ _ _ => rfl) ?_ | refine i_seq' ?_ | refine i_tmp' ?_ | refine i_rng ?_ | refine ts_nil' ?_ | refine ts_one' ?_ | refine Rs.ok ?_)
    refine Rs.ite (by simp [small]) (Rs.ok ?_)
    repeat (first | refine b_cons' ?_ | refine b_nil' ?_ | refine S_set ?_ | refine S_iff ?_ | refine S_ret ?_ | refine S_expr ?_ | refine S_put ?_ | refine S_par ?_ | refine S_for ?_ | refine e_lit ?_ | refine e_var rfl ?_ | refine e_bin ?_ | refine e_cmp ?_ | refine e_cmpL ?_ | refine e_isN ?_ | refine e_isB ?_ | refine e_and ?_ | refine e_or ?_ | refine e_not ?_ | refine e_ifx ?_ | refine e_idx ?_ | refine e_slc ?_ | refine e_tup ?_ | refine e_mk ?_ | refine e_dic (by decide) ?_ | refine e_call ?_ | refine e_bi ?_ | refine e_all ?_ | refine e_any ?_ | refine e_join ?_ | refine e_neg ?_ | refine e_meth ?_ | refine t_and' ?_ | refine t_or' ?_ | refine t_not' ?_ | refine t_e (fun _ _ _ => rfl) ?_ | refine a_nil ?_ | refine a_cons ?_ | refine p_nil' ?_ | refine p_cons' ?_ | refine o_none' ?_ | refine o_some' ?_ | refine l_lst ?_ | refine l_comp ?_ | refine l_val (fun _ _ _ => rfl) ?_ | refine i_seq' ?_ | refine i_tmp' ?_ | refine i_rng ?_ | refine ts_nil' ?_ | refine ts_one' ?_ | refine Rs.ok ?_)
    refine Rs.ite (by simp [small]) (Rs.ok ?_)
    repeat (first | refine b_cons' ?_ | refine b_nil' ?_ | refine S_set ?_ | refine S_iff ?_ | refine S_ret ?_ | refine S_expr ?_ | refine S_put ?_ | refine S_par ?_ | refine S_for ?_ | refine e_lit ?_ | refine e_var rfl ?_ | refine e_bin ?_ | refine e_cmp ?_ | refine e_cmpL ?_ | refine e_isN ?_ | refine e_isB ?_ | refine e_and ?_ | refine e_or ?_ | refine e_not ?_ | refine e_ifx ?_ | refine e_idx ?_ | refine e_slc ?_ | refine e_tup ?_ | refine e_mk ?_ | refine e_dic (by decide) ?_ | refine e_call ?_ | refine e_bi ?_ | refine e_all ?_ | refine e_any ?_ | refine e_join ?_ | refine e_neg ?_ | refine e_meth ?_ | refine t_and' ?_ | refine t_or' ?_ | refine t_not' ?_ | refine t_e (fun _ _ _ => rfl) ?_ | refine a_nil ?_ | refine a_cons ?_ | refine p_nil' ?_ | refine p_cons' ?_ | refine o_none' ?_ | refine o_some' ?_ | refine l_lst ?_ | refine l_comp ?_ | refine l_val (fun _ _ _ => rfl) ?_ | refine i_seq' ?_ | refine i_tmp' ?_ | refine i_rng ?_ | refine ts_nil' ?_ | refine ts_one' ?_ | refine Rs.ok ?_)
    exact ⟨.inl rfl, rfl, _, _, rfl⟩
  rintro env st1 ⟨rfl, m, c, rfl⟩
  refine b_cons' (S_set (e_mk (l_comp (i_seq' (e_var rfl ⟨_, rfl, ?_⟩)))))
  refine g_inv0 (fun ys st2 => st2 = st1 ∧ ∃ ds : List Int, ys = ds.map MV.int) ⟨rfl, [], rfl⟩ (by rw [List.length_map]; omega) ?_ ?_
  · rintro v ys st2 hv ⟨rfl, ds, rfl⟩
    obtain ⟨i, rfl⟩ := ints_mem hv
    refine ⟨_, rfl, ?_⟩
    repeat (first | refine b_cons' ?_ | refine b_nil' ?_ | refine S_set ?_ | refine S_iff ?_ | refine S_ret ?_ | refine S_expr ?_ | refine S_put ?_ | refine S_par ?_ | refine S_for ?_ | refine e_lit ?_ | refine e_var rfl ?_ | refine e_bin ?_ | refine e_cmp ?_ | refine e_cmpL ?_ | refine e_isN ?_ | refine e_isB ?_ | refine e_and ?_ | refine e_or ?_ | refine e_not ?_ | refine e_ifx ?_ | refine e_idx ?_ | refine e_slc ?_ | refine e_tup ?_ | refine e_mk ?_ | refine e_dic (by decide) ?_ | refine e_call ?_ | refine e_bi ?_ | refine e_all ?_ | refine e_any ?_ | refine e_join ?_ | refine e_neg ?_ | refine e_meth ?_ | refine t_and' ?_ | refine t_or' ?_ | refine t_not' ?_ | refine t_e (fun _ _ _ => rfl) ?_ | refine a_nil ?_ | refine a_cons ?_ | refine p_nil' ?_ | refine p_cons' ?_ | refine o_none' ?_ | refine o_some' ?_ | refine l_lst ?_ | refine l_comp ?_ | refine l_val (fun _ _ _ => rfl) ?_ | refine i_seq' ?_ | refine i_tmp' ?_ | refine i_rng ?_ | refine ts_nil' ?_ | refine ts_one' ?_ | refine Rs.ok ?_)
    exact ⟨rfl, ds ++ [_], by simp; rfl⟩
  rintro ys st2 hy ⟨rfl, ds, rfl⟩
  have hd : ds.length = xs.length := by simpa using hy
  refine Rs.ite (by simp [hd]; omega) (Rs.ok ?_)
  have g1 : (st2.add (.lst (ds.map MV.int))).get st2.next = some (.lst (ds.map MV.int)) := by rw [Store.get_add wf, if_pos rfl]
  have w1 := Store.wf_add wf (.lst (ds.map MV.int))
  refine b_cons' (S_ret ?_)
  refine e_dic (by decide) ?_
  refine p_cons' (e_lit (e_mk (l_comp (i_rng (e_bi (a_cons (e_var rfl (a_nil ?_))))))))
  refine ⟨.int ds.length, st2.add (.lst (ds.map MV.int)), ?_, ds.length, rfl, by omega, ?_⟩
  · show biV .len [.ref st2.next] _ = _
    unfold biV
    simp only [g1]
    simp
  refine g_inv0 (fun ys st3 => st3 = st2.add (.lst (ds.map MV.int)) ∧ ∃ es : List Int, ys = es.map MV.int) ⟨rfl, [], rfl⟩ (by rw [rngV_len]; omega) ?_ ?_
  · rintro v ys st3 hv ⟨rfl, es, rfl⟩
    obtain ⟨i, rfl, h1, h2⟩ := rngV_mem hv
    refine ⟨_, rfl, ?_⟩
    refine e_idx (e_var rfl (e_bin (e_bin (e_bi (a_cons (e_var rfl (a_nil ?_)))))))
    refine ⟨.int ds.length, st2.add (.lst (ds.map MV.int)), ?_, ?_⟩
    · show biV .len [.ref st2.next] _ = _
      unfold biV
      simp only [g1]
      simp
    repeat (first | refine b_cons' ?_ | refine b_nil' ?_ | refine S_set ?_ | refine S_iff ?_ | refine S_ret ?_ | refine S_expr ?_ | refine S_put ?_ | refine S_par ?_ | refine S_for ?_ | refine e_lit ?_ | refine e_var rfl ?_ | refine e_bin ?_ | refine e_cmp ?_ | refine e_cmpL ?_ | refine e_isN ?_ | refine e_isB ?_ | refine e_and ?_ | refine e_or ?_ | refine e_not ?_ | refine e_ifx ?_ | refine e_idx ?_ | refine e_slc ?_ | refine e_tup ?_ | refine e_mk ?_ | refine e_dic (by decide) ?_ | refine e_call ?_ | refine e_bi ?_ | refine e_all ?_ | refine e_any ?_ | refine e_join ?_ | refine e_neg ?_ | refine e_meth ?_ | refine t_and' ?_ | refine t_or' ?_ | refine t_not' ?_ | refine t_e (fun _ _ _ => rfl) ?_ | refine a_nil ?_ | refine a_cons ?_ | refine p_nil' ?_ | refine p_cons' ?_ | refine o_none' ?_ | refine o_some' ?_ | refine l_lst ?_ | refine l_comp ?_ | refine l_val (fun _ _ _ => rfl) ?_ | refine i_seq' ?_ | refine i_tmp' ?_ | refine i_rng ?_ | refine ts_nil' ?_ | refine ts_one' ?_ | refine Rs.ok ?_)
    obtain ⟨x, hx, hm⟩ := atI_in (xs := ds.map MV.int) (i := (ds.length : Int) - 1 - i) (by omega) (by simp; omega)
    obtain ⟨j, rfl⟩ := ints_mem hm
    refine ⟨.int j, st2.add (.lst (ds.map MV.int)), ?_, rfl, es ++ [j], by simp⟩
    show idxV (.ref st2.next) (.int _) _ = _
    unfold idxV
    simp only [g1]
    rw [hx]
  rintro ys st3 hy ⟨rfl, es, rfl⟩
  have he : es.length = ds.length := by simpa [rngV_len] using hy
  refine Rs.ite (by simp [he, hd]; omega) (Rs.ok ?_)
  refine p_cons' (e_lit (e_lit (p_cons' (e_lit (e_var rfl (p_cons' (e_lit (e_lit (p_nil' ⟨_, rfl, ?_⟩)))))))))
  have w2 := Store.wf_add w1 (.lst (es.map MV.int))
  refine ⟨_, (st2.add (.lst (ds.map MV.int))).next, rfl, es, 1, m, 0, Store.wf_add w2 _, Nat.lt_succ_self _, ?_, ?_, ?_, ?_⟩
  · show _ + 1 < _ + 1 + 1 + 1
    omega
  · show _ + 1 + 1 ≠ _ + 1
    omega
  · rw [Store.get_add w2, if_pos rfl]
    simp [kvMerge, kvPut, srcKv, k_cl, k_cm, k_ct, k_lm, k_lt, k_mt]
  · have ne : (st2.add (.lst (ds.map MV.int))).next ≠ ((st2.add (.lst (ds.map MV.int))).add (.lst (es.map MV.int))).next := Nat.ne_of_lt (Nat.lt_succ_self _)
    rw [Store.get_add w2, if_neg ne, Store.get_add w1, if_pos rfl]
end
end MP

set_option Elab.async false
set_option linter.all false
set_option maxRecDepth 100000
set_option maxHeartbeats 4000000
/-! plain lemmas about the evaluator's operators -/
namespace MP
open PySem L2
theorem rs_of {α : Type} {r : Res α} {a : α} {st' : Store} {Q : α → Store → Prop} (e : r = .ok a st') (h : Q a st') : Rs r Q := ⟨a, st', e, h⟩
section
variable {st : Store}
theorem sh_int (i : Int) : SeqAt.shaped (.int i) = true := by simp [SeqAt.shaped, PyData.canLay0, PyData.depth]
theorem sh_str {x : Str} (h : PyData.strOk x = true) : SeqAt.shaped (.str x) = true := by simp [SeqAt.shaped, PyData.canLay0, PyData.depth, h]
theorem toS_int (i : Int) : toS st (.int i) = some (.int i) := by
  show (if SeqAt.shaped (.int i) = true then some (PyData.int i) else none) = _
  rw [if_pos (sh_int i)]
theorem toS_str {x : Str} (h : PyData.strOk x = true) : toS st (.str x) = some (.str x) := by
  show (if SeqAt.shaped (.str x) = true then some (PyData.str x) else none) = _
  rw [if_pos (sh_str h)]
theorem eqv_int (i j : Int) : PyData.eqv (.int i) (.int j) = (i == j) := by simp [PyData.eqv]
theorem eqv_str (a b : Str) : PyData.eqv (.str a) (.str b) = (a == b) := by simp [PyData.eqv]
theorem eq_int (i j : Int) : cmpV .eq (.int i) (.int j) st = .ok (.bl (i == j)) st := by
  show okB (eqV (.int i) (.int j) st) id st = _
  unfold eqV
  rw [toS_int, toS_int]
  show Res.ok (MV.bl (PyData.eqv (.int i) (.int j))) st = _
  rw [eqv_int]
theorem ne_int (i j : Int) : cmpV .ne (.int i) (.int j) st = .ok (.bl (!(i == j))) st := by
  show okB (eqV (.int i) (.int j) st) (!·) st = _
  unfold eqV
  rw [toS_int, toS_int]
  show Res.ok (MV.bl (!PyData.eqv (.int i) (.int j))) st = _
  rw [eqv_int]
theorem eq_str {a b : Str} (ha : PyData.strOk a = true) (hb : PyData.strOk b = true) : cmpV .eq (.str a) (.str b) st = .ok (.bl (a == b)) st := rfl
theorem eq_str' {a b : Str} : cmpV .eq (.str a) (.str b) st = .ok (.bl (a == b)) st := rfl
theorem ne_str' {a b : Str} : cmpV .ne (.str a) (.str b) st = .ok (.bl (!(a == b))) st := rfl
theorem in_str (x z : Str) : cmpV .isin (.str x) (.str z) st = .ok (.bl (inTxt x z)) st := rfl
theorem notin_str (x z : Str) : cmpV .notin (.str x) (.str z) st = .ok (.bl (!inTxt x z)) st := rfl
theorem add_str {x y : Str} (h : x.length + y.length ≤ sizeLine) : binV .add (.str x) (.str y) st = .ok (.str (x ++ y)) st := if_pos h
theorem inTxt_one (c : Nat) (z : Str) : inTxt ⟨#[c]⟩ z = decide (c ∈ z.cps.toList) := rfl
theorem len_str {z : Str} (h : z.length ≤ 1000) : biV .len [.str z] st = .ok (.int z.length) st := if_pos (Nat.le_trans h (by decide))
theorem mapM_strs (f : Nat) : ∀ xs : List Str, (xs.map MV.str).mapM (toD st (f + 1)) = some (xs.map PyData.str)
  | [] => rfl
  | x :: xs => by
    rw [List.map_cons, List.mapM_cons, mapM_strs f xs]
    rfl
theorem canLay_strs : ∀ {xs : List Str}, (∀ x ∈ xs, PyData.strOk x = true) → PyData.canLayAll0 (xs.map PyData.str) = true
  | [], _ => by simp [PyData.canLayAll0]
  | x :: xs, h => by
    rw [List.map_cons]
    simp [PyData.canLayAll0, PyData.canLay0, h x (List.mem_cons_self ..), canLay_strs fun y hy => h y (List.mem_cons_of_mem _ hy)]
theorem depth_strs : ∀ xs : List Str, PyData.depthAll (xs.map PyData.str) = 0
  | [] => by simp [PyData.depthAll]
  | x :: xs => by rw [List.map_cons]; simp [PyData.depthAll, PyData.depth, depth_strs xs]
theorem toS_scr {xs : List Str} (h : ∀ x ∈ xs, PyData.strOk x = true) : toS st (.scr (xs.map MV.str)) = some (.list (xs.map PyData.str)) := by
  have e : toD st 66 (.scr (xs.map MV.str)) = some (.list (xs.map PyData.str)) := by
    show ((xs.map MV.str).mapM (toD st 65)).map PyData.list = _
    rw [mapM_strs 64]
    rfl
  unfold toS
  rw [e]
  show (if SeqAt.shaped (.list (xs.map PyData.str)) = true then some _ else none) = _
  rw [if_pos]
  simp [SeqAt.shaped, PyData.canLay0, PyData.depth, canLay_strs h, depth_strs]
theorem toS_tup {xs : List Str} (h : ∀ x ∈ xs, PyData.strOk x = true) : toS st (.tup (xs.map MV.str)) = some (.tuple (xs.map PyData.str)) := by
  have e : toD st 66 (.tup (xs.map MV.str)) = some (.tuple (xs.map PyData.str)) := by
    show ((xs.map MV.str).mapM (toD st 65)).map PyData.tuple = _
    rw [mapM_strs 64]
    rfl
  unfold toS
  rw [e]
  show (if SeqAt.shaped (.tuple (xs.map PyData.str)) = true then some _ else none) = _
  rw [if_pos]
  simp [SeqAt.shaped, PyData.canLay0, PyData.depth, canLay_strs h, depth_strs]
theorem toS_ref {n : Nat} {xs : List Str} (hn : st.get n = some (.lst (xs.map MV.str))) (h : ∀ x ∈ xs, PyData.strOk x = true) : toS st (.ref n) = some (.list (xs.map PyData.str)) := by
  have e : toD st 66 (.ref n) = some (.list (xs.map PyData.str)) := by
    show (match st.get n with
      | some (.lst xs) => (xs.mapM (toD st 65)).map PyData.list
      | _ => none) = _
    rw [hn]
    show ((xs.map MV.str).mapM (toD st 65)).map PyData.list = _
    rw [mapM_strs 64]
    rfl
  unfold toS
  rw [e]
  show (if SeqAt.shaped (.list (xs.map PyData.str)) = true then some _ else none) = _
  rw [if_pos]
  simp [SeqAt.shaped, PyData.canLay0, PyData.depth, canLay_strs h, depth_strs]
theorem any_strs (a : Str) : ∀ xs : List Str, ((xs.map PyData.str).any fun e => PyData.eqv e (.str a)) = xs.any fun x => x == a
  | [] => rfl
  | x :: xs => by rw [List.map_cons, List.any_cons, List.any_cons, any_strs a xs, eqv_str]
theorem in_tup {a : Str} {xs : List Str} (ha : PyData.strOk a = true) (h : ∀ x ∈ xs, PyData.strOk x = true) : cmpV .isin (.str a) (.tup (xs.map MV.str)) st = .ok (.bl (xs.any fun x => x == a)) st := by
  show okB (inV (.str a) (.tup (xs.map MV.str)) st) id st = _
  unfold inV
  simp only [toS_str ha, toS_tup h]
  show Res.ok (MV.bl ((xs.map PyData.str).any fun e => PyData.eqv e (.str a))) st = _
  rw [any_strs]
theorem notin_tup {a : Str} {xs : List Str} (ha : PyData.strOk a = true) (h : ∀ x ∈ xs, PyData.strOk x = true) : cmpV .notin (.str a) (.tup (xs.map MV.str)) st = .ok (.bl (!xs.any fun x => x == a)) st := by
  show okB (inV (.str a) (.tup (xs.map MV.str)) st) (!·) st = _
  unfold inV
  simp only [toS_str ha, toS_tup h]
  show Res.ok (MV.bl (!(xs.map PyData.str).any fun e => PyData.eqv e (.str a))) st = _
  rw [any_strs]
theorem in_lst {a : Str} {n : Nat} {xs : List Str} (hn : st.get n = some (.lst (xs.map MV.str))) (ha : PyData.strOk a = true) (h : ∀ x ∈ xs, PyData.strOk x = true) : cmpV .isin (.str a) (.ref n) st = .ok (.bl (xs.any fun x => x == a)) st := by
  show okB (inV (.str a) (.ref n) st) id st = _
  unfold inV
  simp only [hn, toS_str ha, toS_ref hn h]
  show Res.ok (MV.bl ((xs.map PyData.str).any fun e => PyData.eqv e (.str a))) st = _
  rw [any_strs]
theorem notin_lst {a : Str} {n : Nat} {xs : List Str} (hn : st.get n = some (.lst (xs.map MV.str))) (ha : PyData.strOk a = true) (h : ∀ x ∈ xs, PyData.strOk x = true) : cmpV .notin (.str a) (.ref n) st = .ok (.bl (!xs.any fun x => x == a)) st := by
  show okB (inV (.str a) (.ref n) st) (!·) st = _
  unfold inV
  simp only [hn, toS_str ha, toS_ref hn h]
  show Res.ok (MV.bl (!(xs.map PyData.str).any fun e => PyData.eqv e (.str a))) st = _
  rw [any_strs]
theorem bls_map {α : Type} (f : α → Bool) : ∀ xs : List α, blsV (xs.map fun x => MV.bl (f x)) = some (xs.map f)
  | [] => rfl
  | x :: xs => by
    rw [List.map_cons]
    show (match blsV (xs.map fun x => MV.bl (f x)) with
      | some t => some (f x :: t)
      | none => none) = _
    rw [bls_map f xs]
    rfl
theorem strs_map (xs : List Str) : strsV (xs.map MV.str) = some xs := by
  induction xs with
  | nil => rfl
  | cons x xs ih =>
    show (match strsV (xs.map MV.str) with
      | some t => some (x :: t)
      | none => none) = _
    rw [ih]
end
section
variable {Γ : Tab} {d : Nat} {env : Env} {st : Store}
/-- items made one by one, nothing else touched -/
theorem g_map {tg : Tg} {el : ME} {Q : List MV → Store → Prop} (f : MV → MV) : ∀ {xs acc : List MV}, acc.length + xs.length ≤ sizeLine → (∀ v, v ∈ xs → ∃ env1, tg.set v env = some env1 ∧ ∀ Q' : MV → Store → Prop, Q' (f v) st → wE Γ d el env1 st Q') → Q (acc ++ xs.map f) st → wG Γ d (.snap xs) tg [] el env acc st Q
  | [], acc, _, _, q => g_nil (by simpa using q)
  | v :: xs, acc, hl, h, q => by
    obtain ⟨env1, e, he⟩ := h v (List.mem_cons_self ..)
    rw [List.length_cons] at hl
    refine g_cons e (ts_nil' ⟨fun _ => he _ ⟨by omega, ?_⟩, fun z => by cases z⟩)
    exact g_map f (by rw [List.length_append, List.length_cons, List.length_nil]; omega) (fun u hu => h u (List.mem_cons_of_mem _ hu)) (by simpa using q)
/-- items kept by a test -/
theorem g_filter {tg : Tg} {c el : ME} {Q : List MV → Store → Prop} (p : MV → Bool) : ∀ {xs acc : List MV}, acc.length + xs.length ≤ sizeLine → (∀ v, v ∈ xs → ∃ env1, tg.set v env = some env1 ∧ (∀ Q' : Bool → Store → Prop, Q' (p v) st → wT Γ d c env1 st Q') ∧ ∀ Q' : MV → Store → Prop, Q' v st → wE Γ d el env1 st Q') →
    Q (acc ++ xs.filter p) st → wG Γ d (.snap xs) tg [c] el env acc st Q
  | [], acc, _, _, q => g_nil (by simpa using q)
  | v :: xs, acc, hl, h, q => by
    obtain ⟨env1, e, hc, he⟩ := h v (List.mem_cons_self ..)
    rw [List.length_cons] at hl
    refine g_cons e (ts_one' (hc _ ⟨fun hp => he _ ⟨by omega, ?_⟩, fun hp => ?_⟩))
    · refine g_filter p (by rw [List.length_append, List.length_cons, List.length_nil]; omega) (fun u hu => h u (List.mem_cons_of_mem _ hu)) ?_
      rw [List.filter_cons_of_pos hp] at q
      simpa using q
    · refine g_filter p (by omega) (fun u hu => h u (List.mem_cons_of_mem _ hu)) ?_
      rw [List.filter_cons_of_neg (by rw [hp]; exact Bool.false_ne_true)] at q
      exact q
end
end MP

set_option Elab.async false
set_option linter.all false
set_option maxHeartbeats 4000000
/-! the text by places -/
set_option maxRecDepth 200000
namespace K13
open PySem PySem.Spec PyProof.Rows L2 MP
def top (i : Nat) : Stmt := PySem.Challenge.pw_shapeguess_k13_values_judged.main.body.getD i (.Pass ⟨0, 0, 0, 0⟩)
abbrev t_is_word : Stmt := top 3
abbrev N_is_word : List Str := ["value", "sign"]
theorem nd_is_word : (N_is_word).Nodup := by decide +kernel
def m_is_word : List MS :=
  [.iff (.or (.not (.bi (.isi [.str]) [.var 0])) (.or (.cmp .eq (.bi .len [.var 0]) (.lit (.int 0))) (.or (.cmp .gt (.bi .len [.var 0]) (.lit (.int 12))) (.cmp .notin (.idx (.var 0) (.lit (.int 0))) (.lit (.str ("abcdefghijklmnopqrstuvwxyz" : Str)))))))
  [.ret (.lit (.bl false))]
  [],
  .ret (.all (.comp (.or (.cmp .isin (.var 1) (.lit (.str ("abcdefghijklmnopqrstuvwxyz" : Str)))) (.cmp .isin (.var 1) (.lit (.str ("0123456789" : Str))))) (.one 1) (.seq (.var 0)) [] [1]))]
abbrev t_is_count : Stmt := top 4
abbrev N_is_count : List Str := ["value"]
theorem nd_is_count : (N_is_count).Nodup := by decide +kernel
def m_is_count : List MS :=
  [.ret (.and (.bi (.isi [.int]) [.var 0]) (.and (.not (.bi (.isi [.bool]) [.var 0])) (.cmp .ge (.var 0) (.lit (.int 0)))))]
abbrev t_is_value : Stmt := top 5
abbrev N_is_value : List Str := ["value", "word"]
theorem nd_is_value : (N_is_value).Nodup := by decide +kernel
def m_is_value : List MS :=
  [.iff (.or (.not (.bi (.isi [.tuple]) [.var 0])) (.or (.cmp .eq (.bi .len [.var 0]) (.lit (.int 0))) (.or (.cmp .gt (.bi .len [.var 0]) (.lit (.int 3))) (.not (.bi (.isi [.str]) [.idx (.var 0) (.lit (.int 0))])))))
  [.ret (.lit (.bl false))]
  [],
  .set 1 (.idx (.var 0) (.lit (.int 0))),
  .iff (.cmp .eq (.var 1) (.lit (.str ("none" : Str))))
  [.ret (.cmp .eq (.bi .len [.var 0]) (.lit (.int 1)))]
  [],
  .iff (.cmp .eq (.var 1) (.lit (.str ("tok" : Str))))
  [.ret (.and (.cmp .eq (.bi .len [.var 0]) (.lit (.int 3))) (.and (.call 0 [.idx (.var 0) (.lit (.int 1))]) (.and (.cmp .notin (.idx (.var 0) (.lit (.int 1))) (.lit (.tup [(.str ("none" : Str)), (.str ("bit" : Str)), (.str ("err" : Str)), (.str ("fun" : Str)), (.str ("obj" : Str))]))) (.call 1 [.idx (.var 0) (.lit (.int 2))]))))]
  [],
  .iff (.cmp .ne (.bi .len [.var 0]) (.lit (.int 2)))
  [.ret (.lit (.bl false))]
  [],
  .iff (.cmp .eq (.var 1) (.lit (.str ("bit" : Str))))
  [.ret (.and (.bi (.isi [.str]) [.idx (.var 0) (.lit (.int 1))]) (.cmp .isin (.idx (.var 0) (.lit (.int 1))) (.tupD [.lit (.str ("yes" : Str)), .lit (.str ("no" : Str))])))]
  [],
  .iff (.cmp .eq (.var 1) (.lit (.str ("obj" : Str))))
  [.ret (.call 1 [.idx (.var 0) (.lit (.int 1))])]
  [],
  .ret (.and (.cmp .isin (.var 1) (.tupD [.lit (.str ("err" : Str)), .lit (.str ("fun" : Str))])) (.call 0 [.idx (.var 0) (.lit (.int 1))]))]
abbrev t_kind_of : Stmt := top 6
abbrev N_kind_of : List Str := ["value"]
theorem nd_kind_of : (N_kind_of).Nodup := by decide +kernel
def m_kind_of : List MS :=
  [.ret (.ifx (.cmp .eq (.idx (.var 0) (.lit (.int 0))) (.lit (.str ("tok" : Str)))) (.idx (.var 0) (.lit (.int 1))) (.idx (.var 0) (.lit (.int 0))))]
abbrev t__law_source : Stmt := top 8
abbrev N__law_source : List Str := ["script", "mixed", "cell", "digits", "k"]
theorem nd__law_source : (N__law_source).Nodup := by decide +kernel
def m__law_source : List MS :=
  [.set 1 (.lit (.int 11)),
  .for_ (.one 2) (.seq (.var 0))
  [.set 1 (.bin .mod (.bi .int [.bin .add (.bin .add (.bin .mul (.var 1) (.lit (.int 69069))) (.bin .mul (.var 2) (.lit (.int 31)))) (.lit (.int 5))]) (.lit (.int 2147483629)))],
  .set 3 (.mk (.comp (.bi .abs [.var 2]) (.one 2) (.seq (.var 0)) [] [2])),
  .ret (.dicD [(.lit (.str ("cells" : Str)), .mk (.comp (.idx (.var 3) (.bin .sub (.bin .sub (.bi .len [.var 3]) (.lit (.int 1))) (.var 4))) (.one 4) (.rng1 (.bi .len [.var 3])) [] [4])), (.lit (.str ("left" : Str)), .lit (.int 1)), (.lit (.str ("mixed" : Str)), .var 1), (.lit (.str ("turn" : Str)), .lit (.int 0))])]
abbrev t__law_pick : Stmt := top 9
abbrev N__law_pick : List Str := ["source", "many", "digits", "left", "turn", "mixed"]
theorem nd__law_pick : (N__law_pick).Nodup := by decide +kernel
def m__law_pick : List MS :=
  [.iff (.cmp .lt (.var 1) (.lit (.int 2)))
  [.ret (.lit (.int 0))]
  [],
  .set 2 (.idx (.var 0) (.lit (.str ("cells" : Str)))),
  .while_ (.and (.cmp .lt (.idx (.var 0) (.lit (.str ("left" : Str)))) (.lit (.int 2))) (.cmp .gt (.bi .len [.var 2]) (.lit (.int 0))))
  [.put (.var 0) (.lit (.str ("left" : Str))) (.meth .pop (.var 2) [])],
  .set 3 (.idx (.var 0) (.lit (.str ("left" : Str)))),
  .iff (.cmp .gt (.var 3) (.lit (.int 1)))
  [.put (.var 0) (.lit (.str ("left" : Str))) (.bin .fdiv (.var 3) (.var 1)),
  .ret (.bin .mod (.bi .int [.var 3]) (.var 1))]
  [],
  .put (.var 0) (.lit (.str ("turn" : Str))) (.bin .add (.idx (.var 0) (.lit (.str ("turn" : Str)))) (.lit (.int 1))),
  .set 4 (.idx (.var 0) (.lit (.str ("turn" : Str)))),
  .set 5 (.bin .mod (.bi .int [.bin .add (.idx (.var 0) (.lit (.str ("mixed" : Str)))) (.bin .mul (.var 4) (.lit (.int 104729)))]) (.lit (.int 998244353))),
  .set 5 (.bin .mod (.bi .int [.bin .add (.bin .mul (.var 5) (.var 5)) (.bin .mul (.var 4) (.lit (.int 17)))]) (.lit (.int 2147483647))),
  .iff (.cmp .gt (.var 1) (.bin .pow (.lit (.int 10)) (.lit (.int 7))))
  [.set 5 (.bin .pow (.bi .int [.bin .add (.bin .mul (.var 5) (.lit (.int 48271))) (.var 4)]) (.lit (.int 9)))]
  [],
  .ret (.bin .mod (.bi .int [.bin .fdiv (.var 5) (.lit (.int 16))]) (.var 1))]
abbrev t__law_of : Stmt := top 10
abbrev N__law_of : List Str := ["source", "some"]
theorem nd__law_of : (N__law_of).Nodup := by decide +kernel
def m__law_of : List MS :=
  [.ret (.idx (.var 1) (.call 5 [.var 0, .bi .len [.var 1]]))]
abbrev t__law_is_word : Stmt := top 11
abbrev N__law_is_word : List Str := ["value", "letters", "sign"]
theorem nd__law_is_word : (N__law_is_word).Nodup := by decide +kernel
def m__law_is_word : List MS :=
  [.set 1 (.lit (.str ("abcdefghijklmnopqrstuvwxyz" : Str))),
  .iff (.or (.not (.bi (.isi [.str]) [.var 0])) (.or (.cmp .eq (.var 0) (.lit (.str ("" : Str)))) (.or (.cmp .gt (.bi .len [.var 0]) (.lit (.int 12))) (.cmp .notin (.idx (.var 0) (.lit (.int 0))) (.var 1)))))
  [.ret (.lit (.bl false))]
  [],
  .ret (.cmpL .eq (.comp (.var 2) (.one 2) (.seq (.var 0)) [.cmp .notin (.var 2) (.bin .add (.var 1) (.lit (.str ("0123456789" : Str))))] [2]) (.lstD []))]
abbrev t__law_is_value : Stmt := top 12
abbrev N__law_is_value : List Str := ["value", "is_whole"]
theorem nd__law_is_value : (N__law_is_value).Nodup := by decide +kernel
def m__law_is_value : List MS :=
  [.iff (.or (.not (.bi (.isi [.tuple]) [.var 0])) (.or (.cmp .eq (.var 0) (.tupD [])) (.not (.bi (.isi [.str]) [.idx (.var 0) (.lit (.int 0))]))))
  [.ret (.lit (.bl false))]
  [],
  .iff (.cmp .isin (.var 0) (.mk (.lstD [.tupD [.lit (.str ("none" : Str))], .tupD [.lit (.str ("bit" : Str)), .lit (.str ("yes" : Str))], .tupD [.lit (.str ("bit" : Str)), .lit (.str ("no" : Str))]])))
  [.ret (.lit (.bl true))]
  [],
  .set 1 (.and (.bi (.isi [.int]) [.idx (.var 0) (.neg (.lit (.int 1)))]) (.and (.not (.bi (.isi [.bool]) [.idx (.var 0) (.neg (.lit (.int 1)))])) (.cmp .ge (.idx (.var 0) (.neg (.lit (.int 1)))) (.lit (.int 0))))),
  .iff (.and (.cmp .eq (.idx (.var 0) (.lit (.int 0))) (.lit (.str ("tok" : Str)))) (.cmp .eq (.bi .len [.var 0]) (.lit (.int 3))))
  [.ret (.and (.call 7 [.idx (.var 0) (.lit (.int 1))]) (.and (.cmp .notin (.idx (.var 0) (.lit (.int 1))) (.mk (.lstD [.lit (.str ("none" : Str)), .lit (.str ("bit" : Str)), .lit (.str ("err" : Str)), .lit (.str ("fun" : Str)), .lit (.str ("obj" : Str))]))) (.var 1)))]
  [],
  .iff (.and (.cmp .isin (.idx (.var 0) (.lit (.int 0))) (.mk (.lstD [.lit (.str ("err" : Str)), .lit (.str ("fun" : Str))]))) (.cmp .eq (.bi .len [.var 0]) (.lit (.int 2))))
  [.ret (.call 7 [.idx (.var 0) (.lit (.int 1))])]
  [],
  .ret (.and (.cmp .eq (.idx (.var 0) (.lit (.int 0))) (.lit (.str ("obj" : Str)))) (.and (.cmp .eq (.bi .len [.var 0]) (.lit (.int 2))) (.var 1)))]
abbrev t__law_word : Stmt := top 13
abbrev N__law_word : List Str := ["source", "signs", "found", "k"]
theorem nd__law_word : (N__law_word).Nodup := by decide +kernel
def m__law_word : List MS :=
  [.set 1 (.lit (.str ("abyz0159AZ_- '" : Str))),
  .set 2 (.join (.lit (.str ("" : Str))) (.comp (.idx (.var 1) (.call 5 [.var 0, .ifx (.cmp .gt (.call 5 [.var 0, .lit (.int 4)]) (.lit (.int 0))) (.lit (.int 8)) (.lit (.int 14))])) (.one 3) (.rng1 (.call 5 [.var 0, .lit (.int 5)])) [] [3])),
  .ret (.call 6 [.var 0, .mk (.lstD [.var 2, .bin .add (.var 2) (.bin .mul (.lit (.str ("a" : Str))) (.lit (.int 9))), .bin .add (.var 2) (.bin .mul (.lit (.str ("b" : Str))) (.lit (.int 8))), .lit (.str ("none" : Str)), .lit (.str ("bit" : Str)), .lit (.str ("err" : Str)), .lit (.str ("fun" : Str)), .lit (.str ("obj" : Str)), .lit (.str ("tok" : Str)), .bin .add (.lit (.str ("a" : Str))) (.var 2)])])]
abbrev t__law_thing : Stmt := top 14
abbrev N__law_thing : List Str := ["source", "number"]
theorem nd__law_thing : (N__law_thing).Nodup := by decide +kernel
def m__law_thing : List MS :=
  [.set 1 (.idx (.mk (.lstD [.lit (.int 0), .lit (.int 1), .lit (.int 7), .bin .pow (.lit (.int 10)) (.lit (.int 30)), .bin .sub (.lit (.int 0)) (.lit (.int 1)), .lit (.bl true), .lit (.bl false), .lit .non, .lit (.str ("0" : Str)), .mk (.lstD []), .lit (.int 2)])) (.call 5 [.var 0, .lit (.int 11)])),
  .ret (.call 6 [.var 0, .mk (.lstD [.var 1, .var 1, .call 9 [.var 0], .call 9 [.var 0], .tupD [], .dicD [], .mk (.lstD [.call 9 [.var 0]]), .tupD [.lit (.str ("none" : Str))]])])]
abbrev t_law : Stmt := top 15
abbrev N_law : List Str := ["script", "source", "turn", "some", "value", "odd", "one", "word", "number", "printed", "told"]
theorem nd_law : (N_law).Nodup := by decide +kernel
def m_law : List MS :=
  [.set 1 (.call 4 [.var 0]),
  .for_ (.one 2) (.rng1 (.lit (.int 24)))
  [.par 7 8 (.call 9 [.var 1]) (.call 10 [.var 1]),
  .set 3 (.mk (.lstD [.tupD [.lit (.str ("none" : Str))], .tupD [.lit (.str ("bit" : Str)), .call 6 [.var 1, .mk (.lstD [.lit (.str ("yes" : Str)), .lit (.str ("no" : Str)), .lit (.str ("Yes" : Str)), .var 7])]], .tupD [.lit (.str ("tok" : Str)), .var 7, .var 8], .tupD [.lit (.str ("err" : Str)), .var 7]])),
  .set 3 (.bin .add (.var 3) (.mk (.lstD [.tupD [.lit (.str ("fun" : Str)), .var 7], .tupD [.lit (.str ("obj" : Str)), .var 8], .tupD [.lit (.str ("tok" : Str)), .lit (.str ("k" : Str)), .var 8], .tupD [.lit (.str ("err" : Str)), .var 8], .tupD [.lit (.str ("tok" : Str)), .var 8, .lit (.int 3)]]))),
  .set 4 (.call 6 [.var 1, .var 3]),
  .set 5 (.mk (.lstD [.slc (.var 4) (none) (some (.neg (.lit (.int 1)))), .bin .add (.var 4) (.tupD [.var 8]), .bi .list [.var 4], .bin .add (.tupD [.var 7]) (.slc (.var 4) (some (.lit (.int 1))) (none)), .var 8, .var 7, .bin .add (.tupD [.var 8]) (.slc (.var 4) (some (.lit (.int 1))) (none)), .tupD [.var 4]])),
  .for_ (.one 6) (.tmp (.lstD [.var 4, .call 6 [.var 1, .var 5]]))
  [.set 9 (.bi .repr [.var 6]),
  .set 10 (.mk (.lstD [.call 2 [.var 6], .call 0 [.var 6]])),
  .iff (.or (.cmp .ne (.bi .repr [.var 10]) (.bi .repr [.mk (.lstD [.call 8 [.var 6], .call 7 [.var 6]])])) (.cmp .ne (.bi .repr [.var 6]) (.var 9)))
  [.ret (.lit (.bl false))]
  [],
  .iff (.and (.call 8 [.var 6]) (.cmp .ne (.call 3 [.var 6]) (.ifx (.cmp .eq (.idx (.var 6) (.lit (.int 0))) (.lit (.str ("tok" : Str)))) (.idx (.var 6) (.lit (.int 1))) (.idx (.var 6) (.lit (.int 0))))))
  [.ret (.lit (.bl false))]
  []],
  .iff (.cmp .ne (.bi .repr [.mk (.lstD [.call 0 [.var 7], .call 0 [.var 8]])]) (.bi .repr [.mk (.lstD [.call 7 [.var 7], .call 7 [.var 8]])]))
  [.ret (.lit (.bl false))]
  []],
  .ret (.and (.isB true false (.call 0 [.bin .mul (.lit (.str ("a" : Str))) (.lit (.int 12))])) (.isB false false (.call 0 [.bin .mul (.lit (.str ("a" : Str))) (.lit (.int 13))])))]
def nm : Nat → Str
  | 0 => "is_word"
  | 1 => "is_count"
  | 2 => "is_value"
  | 3 => "kind_of"
  | 4 => "_law_source"
  | 5 => "_law_pick"
  | 6 => "_law_of"
  | 7 => "_law_is_word"
  | 8 => "_law_is_value"
  | 9 => "_law_word"
  | 10 => "_law_thing"
  | 11 => "law"
  | _ => ""
def Γ : Tab
  | 0 => some ⟨1, 2, m_is_word⟩
  | 1 => some ⟨1, 1, m_is_count⟩
  | 2 => some ⟨1, 2, m_is_value⟩
  | 3 => some ⟨1, 1, m_kind_of⟩
  | 4 => some ⟨1, 5, m__law_source⟩
  | 5 => some ⟨2, 6, m__law_pick⟩
  | 6 => some ⟨2, 2, m__law_of⟩
  | 7 => some ⟨1, 3, m__law_is_word⟩
  | 8 => some ⟨1, 2, m__law_is_value⟩
  | 9 => some ⟨1, 4, m__law_word⟩
  | 10 => some ⟨1, 2, m__law_thing⟩
  | 11 => some ⟨1, 11, m_law⟩
  | _ => none
structure Tx (K : PySem.W.Frag) (mg : Str → Option Value) : Prop where
  n_abs : mg "abs" = none
  n_all : mg "all" = none
  n_bool : mg "bool" = none
  n_int : mg "int" = none
  n_isinstance : mg "isinstance" = none
  n_len : mg "len" = none
  n_list : mg "list" = none
  n_range : mg "range" = none
  n_repr : mg "repr" = none
  n_str : mg "str" = none
  n_tuple : mg "tuple" = none
  c_LETTERS : Glb K mg "LETTERS" (.str ("abcdefghijklmnopqrstuvwxyz" : Str))
  c_RESERVED : Glb K mg "RESERVED" (.tup [(.str ("none" : Str)), (.str ("bit" : Str)), (.str ("err" : Str)), (.str ("fun" : Str)), (.str ("obj" : Str))])
section
variable {P : Program} {w : World} {K : PySem.W.Frag} {mg : Str → Option Value} {base : Heap} {ca : Cls0} {d : Nat}
theorem sc_is_word : FnScope N_is_word ["value"] (defScope t_is_word) := ⟨rfl, rfl, rfl, nd_is_word, rfl, by decide +kernel, by decide +kernel⟩
theorem b_is_word (T : Tx K mg) : BodyOk P w K mg base ca Γ nm d N_is_word "is_word" t_is_word m_is_word := fun f cdv A outer s H E C =>
  (b_cons (s_if (PW.pt (w_or (t_not (t_val (s_isi rfl T.n_isinstance (s_var (pv 0)) (tyNm rfl T.n_str (by decide +kernel))) (fun _ _ _ => rfl))) (w_or (t_eq C.room (s_len rfl T.n_len (s_cons (s_var (pv 0)) s_nil)) s_int) (w_or (t_gt (s_len rfl T.n_len (s_cons (s_var (pv 0)) s_nil)) s_int) (w_one (t_notin C.room (s_idx C.room (s_var (pv 0)) s_int) (s_glob rfl T.c_LETTERS))))))) (b_cons (s_ret s_bl)
  b_nil) b_nil)
  (b_cons (s_ret (s_all C.calm rfl T.n_all (l_of_f (s_comp C.calm nd_is_word (i_seq (s_var (pv 0))) (own_ok (N := N_is_word) (sc := defScope t_is_word) [(("sign" : Str), 1)] ⟨rfl, by decide +kernel, by decide +kernel, by decide +kernel, by decide +kernel⟩) (fun _ _ _ _ _ => (pg_name nd_is_word (i := 1) rfl (by first | exact Or.inl rfl | exact Or.inr rfl))) (fun _ _ _ _ _ => ts_nil) (fun _ _ _ _ _ => (s_or (s_in C.room (s_var (pv 1)) (s_glob rfl T.c_LETTERS)) (s_one (s_in C.room (s_var (pv 1)) s_str)))) (tg_one _ 1) (by decide)))))
  b_nil))
theorem sc_is_count : FnScope N_is_count ["value"] (defScope t_is_count) := ⟨rfl, rfl, rfl, nd_is_count, rfl, by decide +kernel, by decide +kernel⟩
theorem b_is_count (T : Tx K mg) : BodyOk P w K mg base ca Γ nm d N_is_count "is_count" t_is_count m_is_count := fun f cdv A outer s H E C =>
  (b_cons (s_ret (s_and (s_isi rfl T.n_isinstance (s_var (pv 0)) (tyNm rfl T.n_int (by decide +kernel))) (s_and (s_not (s_isi rfl T.n_isinstance (s_var (pv 0)) (tyNm rfl T.n_bool (by decide +kernel))) (fun _ _ _ => rfl)) (s_one (s_ge (s_var (pv 0)) s_int)))))
  b_nil)
theorem sc_is_value : FnScope N_is_value ["value"] (defScope t_is_value) := ⟨rfl, rfl, rfl, nd_is_value, rfl, by decide +kernel, by decide +kernel⟩
theorem b_is_value (T : Tx K mg) : BodyOk P w K mg base ca Γ nm d N_is_value "is_value" t_is_value m_is_value := fun f cdv A outer s H E C =>
  (b_cons (s_if (PW.pt (w_or (t_not (t_val (s_isi rfl T.n_isinstance (s_var (pv 0)) (tyNm rfl T.n_tuple (by decide +kernel))) (fun _ _ _ => rfl))) (w_or (t_eq C.room (s_len rfl T.n_len (s_cons (s_var (pv 0)) s_nil)) s_int) (w_or (t_gt (s_len rfl T.n_len (s_cons (s_var (pv 0)) s_nil)) s_int) (w_one (t_not (t_val (s_isi rfl T.n_isinstance (s_idx C.room (s_var (pv 0)) s_int) (tyNm rfl T.n_str (by decide +kernel))) (fun _ _ _ => rfl)))))))) (b_cons (s_ret s_bl)
  b_nil) b_nil)
  (b_cons (s_set (ps_set nd_is_value (i := 1) rfl (by first | exact Or.inl rfl | exact Or.inr rfl) (s_idx C.room (s_var (pv 0)) s_int)) (fun _ _ _ q => q))
  (b_cons (s_if (t_eq C.room (s_var (pv 1)) s_str) (b_cons (s_ret (s_eq C.room (s_len rfl T.n_len (s_cons (s_var (pv 0)) s_nil)) s_int))
  b_nil) b_nil)
  (b_cons (s_if (t_eq C.room (s_var (pv 1)) s_str) (b_cons (s_ret (s_and (s_eq C.room (s_len rfl T.n_len (s_cons (s_var (pv 0)) s_nil)) s_int) (s_and (s_call C rfl rfl (s_cons (s_idx C.room (s_var (pv 0)) s_int) s_nil)) (s_and (s_notin C.room (s_idx C.room (s_var (pv 0)) s_int) (s_glob rfl T.c_RESERVED)) (s_one (s_call C rfl rfl (s_cons (s_idx C.room (s_var (pv 0)) s_int) s_nil)))))))
  b_nil) b_nil)
  (b_cons (s_if (t_ne C.room (s_len rfl T.n_len (s_cons (s_var (pv 0)) s_nil)) s_int) (b_cons (s_ret s_bl)
  b_nil) b_nil)
  (b_cons (s_if (t_eq C.room (s_var (pv 1)) s_str) (b_cons (s_ret (s_and (s_isi rfl T.n_isinstance (s_idx C.room (s_var (pv 0)) s_int) (tyNm rfl T.n_str (by decide +kernel))) (s_one (s_in C.room (s_idx C.room (s_var (pv 0)) s_int) (s_tup (s_cons s_str (s_cons s_str s_nil)))))))
  b_nil) b_nil)
  (b_cons (s_if (t_eq C.room (s_var (pv 1)) s_str) (b_cons (s_ret (s_call C rfl rfl (s_cons (s_idx C.room (s_var (pv 0)) s_int) s_nil)))
  b_nil) b_nil)
  (b_cons (s_ret (s_and (s_in C.room (s_var (pv 1)) (s_tup (s_cons s_str (s_cons s_str s_nil)))) (s_one (s_call C rfl rfl (s_cons (s_idx C.room (s_var (pv 0)) s_int) s_nil)))))
  b_nil))))))))
theorem sc_kind_of : FnScope N_kind_of ["value"] (defScope t_kind_of) := ⟨rfl, rfl, rfl, nd_kind_of, rfl, by decide +kernel, by decide +kernel⟩
theorem b_kind_of (T : Tx K mg) : BodyOk P w K mg base ca Γ nm d N_kind_of "kind_of" t_kind_of m_kind_of := fun f cdv A outer s H E C =>
  (b_cons (s_ret (s_ifx (t_eq C.room (s_idx C.room (s_var (pv 0)) s_int) s_str) (s_idx C.room (s_var (pv 0)) s_int) (s_idx C.room (s_var (pv 0)) s_int)))
  b_nil)
theorem sc__law_source : FnScope N__law_source ["script"] (defScope t__law_source) := ⟨rfl, rfl, rfl, nd__law_source, rfl, by decide +kernel, by decide +kernel⟩
theorem b__law_source (T : Tx K mg) : BodyOk P w K mg base ca Γ nm d N__law_source "_law_source" t__law_source m__law_source := fun f cdv A outer s H E C =>
  (b_cons (s_set (ps_set nd__law_source (i := 1) rfl (by first | exact Or.inl rfl | exact Or.inr rfl) s_int) (fun _ _ _ q => q))
  (b_cons (s_for PassesOwn.never C.calm (i_seq (s_var (pv 0))) (pg_name nd__law_source (i := 2) rfl (by first | exact Or.inl rfl | exact Or.inr rfl)) (tg_one _ 2) (b_cons (s_set (ps_set nd__law_source (i := 1) rfl (by first | exact Or.inl rfl | exact Or.inr rfl) (s_mod (s_int1 rfl T.n_int (s_cons (s_add (s_add (s_mul (s_var (pv 1)) s_int) (s_mul (s_var (pv 2)) s_int)) s_int) s_nil)) s_int)) (fun _ _ _ q => q))
  b_nil))
  (b_cons (s_set (ps_set nd__law_source (i := 3) rfl (by first | exact Or.inl rfl | exact Or.inr rfl) (s_mk (s_comp C.calm nd__law_source (i_seq (s_var (pv 0))) (own_ok (N := N__law_source) (sc := defScope t__law_source) [(("cell" : Str), 2)] ⟨rfl, by decide +kernel, by decide +kernel, by decide +kernel, by decide +kernel⟩) (fun _ _ _ _ _ => (pg_name nd__law_source (i := 2) rfl (by first | exact Or.inl rfl | exact Or.inr rfl))) (fun _ _ _ _ _ => ts_nil) (fun _ _ _ _ _ => (s_abs rfl T.n_abs (s_cons (s_var (pv 2)) s_nil))) (tg_one _ 2) (by decide)))) (fun _ _ _ q => q))
  (b_cons (s_ret (s_dic (p_cons s_str (s_mk (s_comp C.calm nd__law_source (i_rng1 rfl T.n_range (s_len rfl T.n_len (s_cons (s_var (pv 3)) s_nil))) (own_ok (N := N__law_source) (sc := defScope t__law_source) [(("k" : Str), 4)] ⟨rfl, by decide +kernel, by decide +kernel, by decide +kernel, by decide +kernel⟩) (fun _ _ _ _ _ => (pg_name nd__law_source (i := 4) rfl (by first | exact Or.inl rfl | exact Or.inr rfl))) (fun _ _ _ _ _ => ts_nil) (fun _ _ _ _ _ => (s_idx C.room (s_var (pv 3)) (s_sub (s_sub (s_len rfl T.n_len (s_cons (s_var (pv 3)) s_nil)) s_int) (s_var (pv 4))))) (tg_one _ 4) (by decide))) (p_cons s_str s_int (p_cons s_str (s_var (pv 1)) (p_cons s_str s_int p_nil))))))
  b_nil))))
theorem sc__law_pick : FnScope N__law_pick ["source", "many"] (defScope t__law_pick) := ⟨rfl, rfl, rfl, nd__law_pick, rfl, by decide +kernel, by decide +kernel⟩
theorem b__law_pick (T : Tx K mg) : BodyOk P w K mg base ca Γ nm d N__law_pick "_law_pick" t__law_pick m__law_pick := fun f cdv A outer s H E C =>
  (b_cons (s_if (t_lt (s_var (pv 1)) s_int) (b_cons (s_ret s_int)
  b_nil) b_nil)
  (b_cons (s_set (ps_set nd__law_pick (i := 2) rfl (by first | exact Or.inl rfl | exact Or.inr rfl) (s_idx C.room (s_var (pv 0)) s_str)) (fun _ _ _ q => q))
  (b_cons (s_while PassesOwn.never (PW.pt (w_and (t_lt (s_idx C.room (s_var (pv 0)) s_str) s_int) (w_one (t_gt (s_len rfl T.n_len (s_cons (s_var (pv 2)) s_nil)) s_int)))) (b_cons (s_put (pg_sub (s_var (pv 0)) s_str (set_all (hu_of C.room) set_list)) (s_pop (s_var (pv 2))))
  b_nil))
  (b_cons (s_set (ps_set nd__law_pick (i := 3) rfl (by first | exact Or.inl rfl | exact Or.inr rfl) (s_idx C.room (s_var (pv 0)) s_str)) (fun _ _ _ q => q))
  (b_cons (s_if (t_gt (s_var (pv 3)) s_int) (b_cons (s_put (pg_sub (s_var (pv 0)) s_str (set_all (hu_of C.room) set_list)) (s_fdiv (s_var (pv 3)) (s_var (pv 1))))
  (b_cons (s_ret (s_mod (s_int1 rfl T.n_int (s_cons (s_var (pv 3)) s_nil)) (s_var (pv 1))))
  b_nil)) b_nil)
  (b_cons (s_put (pg_sub (s_var (pv 0)) s_str (set_all (hu_of C.room) set_list)) (s_add (s_idx C.room (s_var (pv 0)) s_str) s_int))
  (b_cons (s_set (ps_set nd__law_pick (i := 4) rfl (by first | exact Or.inl rfl | exact Or.inr rfl) (s_idx C.room (s_var (pv 0)) s_str)) (fun _ _ _ q => q))
  (b_cons (s_set (ps_set nd__law_pick (i := 5) rfl (by first | exact Or.inl rfl | exact Or.inr rfl) (s_mod (s_int1 rfl T.n_int (s_cons (s_add (s_idx C.room (s_var (pv 0)) s_str) (s_mul (s_var (pv 4)) s_int)) s_nil)) s_int)) (fun _ _ _ q => q))
  (b_cons (s_set (ps_set nd__law_pick (i := 5) rfl (by first | exact Or.inl rfl | exact Or.inr rfl) (s_mod (s_int1 rfl T.n_int (s_cons (s_add (s_mul (s_var (pv 5)) (s_var (pv 5))) (s_mul (s_var (pv 4)) s_int)) s_nil)) s_int)) (fun _ _ _ q => q))
  (b_cons (s_if (t_gt (s_var (pv 1)) (s_pow s_int s_int)) (b_cons (s_set (ps_set nd__law_pick (i := 5) rfl (by first | exact Or.inl rfl | exact Or.inr rfl) (s_pow (s_int1 rfl T.n_int (s_cons (s_add (s_mul (s_var (pv 5)) s_int) (s_var (pv 4))) s_nil)) s_int)) (fun _ _ _ q => q))
  b_nil) b_nil)
  (b_cons (s_ret (s_mod (s_int1 rfl T.n_int (s_cons (s_fdiv (s_var (pv 5)) s_int) s_nil)) (s_var (pv 1))))
  b_nil)))))))))))
theorem sc__law_of : FnScope N__law_of ["source", "some"] (defScope t__law_of) := ⟨rfl, rfl, rfl, nd__law_of, rfl, by decide +kernel, by decide +kernel⟩
theorem b__law_of (T : Tx K mg) : BodyOk P w K mg base ca Γ nm d N__law_of "_law_of" t__law_of m__law_of := fun f cdv A outer s H E C =>
  (b_cons (s_ret (s_idx C.room (s_var (pv 1)) (s_call C rfl rfl (s_cons (s_var (pv 0)) (s_cons (s_len rfl T.n_len (s_cons (s_var (pv 1)) s_nil)) s_nil)))))
  b_nil)
theorem sc__law_is_word : FnScope N__law_is_word ["value"] (defScope t__law_is_word) := ⟨rfl, rfl, rfl, nd__law_is_word, rfl, by decide +kernel, by decide +kernel⟩
theorem b__law_is_word (T : Tx K mg) : BodyOk P w K mg base ca Γ nm d N__law_is_word "_law_is_word" t__law_is_word m__law_is_word := fun f cdv A outer s H E C =>
  (b_cons (s_set (ps_set nd__law_is_word (i := 1) rfl (by first | exact Or.inl rfl | exact Or.inr rfl) s_str) (fun _ _ _ q => q))
  (b_cons (s_if (PW.pt (w_or (t_not (t_val (s_isi rfl T.n_isinstance (s_var (pv 0)) (tyNm rfl T.n_str (by decide +kernel))) (fun _ _ _ => rfl))) (w_or (t_eq C.room (s_var (pv 0)) s_str) (w_or (t_gt (s_len rfl T.n_len (s_cons (s_var (pv 0)) s_nil)) s_int) (w_one (t_notin C.room (s_idx C.room (s_var (pv 0)) s_int) (s_var (pv 1)))))))) (b_cons (s_ret s_bl)
  b_nil) b_nil)
  (b_cons (s_ret (s_eqL C.room (s_comp C.calm nd__law_is_word (i_seq (s_var (pv 0))) (own_ok (N := N__law_is_word) (sc := defScope t__law_is_word) [(("sign" : Str), 2)] ⟨rfl, by decide +kernel, by decide +kernel, by decide +kernel, by decide +kernel⟩) (fun _ _ _ _ _ => (pg_name nd__law_is_word (i := 2) rfl (by first | exact Or.inl rfl | exact Or.inr rfl))) (fun _ _ _ _ _ => (ts_one (t_notin C.room (s_var (pv 2)) (s_add (s_var (pv 1)) s_str)))) (fun _ _ _ _ _ => (s_var (pv 2))) (tg_one _ 2) (by decide)) (l_of_f (s_lstD s_nil))))
  b_nil)))
theorem sc__law_is_value : FnScope N__law_is_value ["value"] (defScope t__law_is_value) := ⟨rfl, rfl, rfl, nd__law_is_value, rfl, by decide +kernel, by decide +kernel⟩
theorem b__law_is_value (T : Tx K mg) : BodyOk P w K mg base ca Γ nm d N__law_is_value "_law_is_value" t__law_is_value m__law_is_value := fun f cdv A outer s H E C =>
  (b_cons (s_if (PW.pt (w_or (t_not (t_val (s_isi rfl T.n_isinstance (s_var (pv 0)) (tyNm rfl T.n_tuple (by decide +kernel))) (fun _ _ _ => rfl))) (w_or (t_eq C.room (s_var (pv 0)) (s_tup s_nil)) (w_one (t_not (t_val (s_isi rfl T.n_isinstance (s_idx C.room (s_var (pv 0)) s_int) (tyNm rfl T.n_str (by decide +kernel))) (fun _ _ _ => rfl))))))) (b_cons (s_ret s_bl)
  b_nil) b_nil)
  (b_cons (s_if (t_in C.room (s_var (pv 0)) (s_mk (s_lstD (s_cons (s_tup (s_cons s_str s_nil)) (s_cons (s_tup (s_cons s_str (s_cons s_str s_nil))) (s_cons (s_tup (s_cons s_str (s_cons s_str s_nil))) s_nil)))))) (b_cons (s_ret s_bl)
  b_nil) b_nil)
  (b_cons (s_set (ps_set nd__law_is_value (i := 1) rfl (by first | exact Or.inl rfl | exact Or.inr rfl) (s_and (s_isi rfl T.n_isinstance (s_idx C.room (s_var (pv 0)) (s_neg s_int)) (tyNm rfl T.n_int (by decide +kernel))) (s_and (s_not (s_isi rfl T.n_isinstance (s_idx C.room (s_var (pv 0)) (s_neg s_int)) (tyNm rfl T.n_bool (by decide +kernel))) (fun _ _ _ => rfl)) (s_one (s_ge (s_idx C.room (s_var (pv 0)) (s_neg s_int)) s_int))))) (fun _ _ _ q => q))
  (b_cons (s_if (PW.pt (w_and (t_eq C.room (s_idx C.room (s_var (pv 0)) s_int) s_str) (w_one (t_eq C.room (s_len rfl T.n_len (s_cons (s_var (pv 0)) s_nil)) s_int)))) (b_cons (s_ret (s_and (s_call C rfl rfl (s_cons (s_idx C.room (s_var (pv 0)) s_int) s_nil)) (s_and (s_notin C.room (s_idx C.room (s_var (pv 0)) s_int) (s_mk (s_lstD (s_cons s_str (s_cons s_str (s_cons s_str (s_cons s_str (s_cons s_str s_nil)))))))) (s_one (s_var (pv 1))))))
  b_nil) b_nil)
  (b_cons (s_if (PW.pt (w_and (t_in C.room (s_idx C.room (s_var (pv 0)) s_int) (s_mk (s_lstD (s_cons s_str (s_cons s_str s_nil))))) (w_one (t_eq C.room (s_len rfl T.n_len (s_cons (s_var (pv 0)) s_nil)) s_int)))) (b_cons (s_ret (s_call C rfl rfl (s_cons (s_idx C.room (s_var (pv 0)) s_int) s_nil)))
  b_nil) b_nil)
  (b_cons (s_ret (s_and (s_eq C.room (s_idx C.room (s_var (pv 0)) s_int) s_str) (s_and (s_eq C.room (s_len rfl T.n_len (s_cons (s_var (pv 0)) s_nil)) s_int) (s_one (s_var (pv 1))))))
  b_nil))))))
theorem sc__law_word : FnScope N__law_word ["source"] (defScope t__law_word) := ⟨rfl, rfl, rfl, nd__law_word, rfl, by decide +kernel, by decide +kernel⟩
theorem b__law_word (T : Tx K mg) : BodyOk P w K mg base ca Γ nm d N__law_word "_law_word" t__law_word m__law_word := fun f cdv A outer s H E C =>
  (b_cons (s_set (ps_set nd__law_word (i := 1) rfl (by first | exact Or.inl rfl | exact Or.inr rfl) s_str) (fun _ _ _ q => q))
  (b_cons (s_set (ps_set nd__law_word (i := 2) rfl (by first | exact Or.inl rfl | exact Or.inr rfl) (s_join s_str (l_of_f (s_comp C.calm nd__law_word (i_rng1 rfl T.n_range (s_call C rfl rfl (s_cons (s_var (pv 0)) (s_cons s_int s_nil)))) (own_ok (N := N__law_word) (sc := defScope t__law_word) [(("k" : Str), 3)] ⟨rfl, by decide +kernel, by decide +kernel, by decide +kernel, by decide +kernel⟩) (fun _ _ _ _ _ => (pg_name nd__law_word (i := 3) rfl (by first | exact Or.inl rfl | exact Or.inr rfl))) (fun _ _ _ _ _ => ts_nil) (fun _ _ _ _ _ => (s_idx C.room (s_var (pv 1)) (s_call (C.blk _ _ _ _ _) rfl rfl (s_cons (s_var (pv 0)) (s_cons (s_ifx (t_gt (s_call (C.blk _ _ _ _ _) rfl rfl (s_cons (s_var (pv 0)) (s_cons s_int s_nil))) s_int) s_int s_int) s_nil))))) (tg_one _ 3) (by decide))))) (fun _ _ _ q => q))
  (b_cons (s_ret (s_call C rfl rfl (s_cons (s_var (pv 0)) (s_cons (s_mk (s_lstD (s_cons (s_var (pv 2)) (s_cons (s_add (s_var (pv 2)) (s_mul s_str s_int)) (s_cons (s_add (s_var (pv 2)) (s_mul s_str s_int)) (s_cons s_str (s_cons s_str (s_cons s_str (s_cons s_str (s_cons s_str (s_cons s_str (s_cons (s_add s_str (s_var (pv 2))) s_nil)))))))))))) s_nil))))
  b_nil)))
theorem sc__law_thing : FnScope N__law_thing ["source"] (defScope t__law_thing) := ⟨rfl, rfl, rfl, nd__law_thing, rfl, by decide +kernel, by decide +kernel⟩
theorem b__law_thing (T : Tx K mg) : BodyOk P w K mg base ca Γ nm d N__law_thing "_law_thing" t__law_thing m__law_thing := fun f cdv A outer s H E C =>
  (b_cons (s_set (ps_set nd__law_thing (i := 1) rfl (by first | exact Or.inl rfl | exact Or.inr rfl) (s_idx C.room (s_mk (s_lstD (s_cons s_int (s_cons s_int (s_cons s_int (s_cons (s_pow s_int s_int) (s_cons (s_sub s_int s_int) (s_cons s_bl (s_cons s_bl (s_cons s_non (s_cons s_str (s_cons (s_mk (s_lstD s_nil)) (s_cons s_int s_nil))))))))))))) (s_call C rfl rfl (s_cons (s_var (pv 0)) (s_cons s_int s_nil))))) (fun _ _ _ q => q))
  (b_cons (s_ret (s_call C rfl rfl (s_cons (s_var (pv 0)) (s_cons (s_mk (s_lstD (s_cons (s_var (pv 1)) (s_cons (s_var (pv 1)) (s_cons (s_call C rfl rfl (s_cons (s_var (pv 0)) s_nil)) (s_cons (s_call C rfl rfl (s_cons (s_var (pv 0)) s_nil)) (s_cons (s_tup s_nil) (s_cons s_dic0 (s_cons (s_mk (s_lstD (s_cons (s_call C rfl rfl (s_cons (s_var (pv 0)) s_nil)) s_nil))) (s_cons (s_tup (s_cons s_str s_nil)) s_nil)))))))))) s_nil))))
  b_nil))
theorem sc_law : FnScope N_law ["script"] (defScope t_law) := ⟨rfl, rfl, rfl, nd_law, rfl, by decide +kernel, by decide +kernel⟩
theorem b_law (T : Tx K mg) : BodyOk P w K mg base ca Γ nm d N_law "law" t_law m_law := fun f cdv A outer s H E C =>
  (b_cons (s_set (ps_set nd_law (i := 1) rfl (by first | exact Or.inl rfl | exact Or.inr rfl) (s_call C rfl rfl (s_cons (s_var (pv 0)) s_nil))) (fun _ _ _ q => q))
  (b_cons (s_for PassesOwn.never C.calm (i_rng1 rfl T.n_range s_int) (pg_name nd_law (i := 2) rfl (by first | exact Or.inl rfl | exact Or.inr rfl)) (tg_one _ 2) (b_cons (s_par C.calm nd_law (i := 7) (j := 8) rfl rfl (by decide) rfl rfl (s_call C rfl rfl (s_cons (s_var (pv 1)) s_nil)) (s_call C rfl rfl (s_cons (s_var (pv 1)) s_nil)) rfl rfl rfl)
  (b_cons (s_set (ps_set nd_law (i := 3) rfl (by first | exact Or.inl rfl | exact Or.inr rfl) (s_mk (s_lstD (s_cons (s_tup (s_cons s_str s_nil)) (s_cons (s_tup (s_cons s_str (s_cons (s_call C rfl rfl (s_cons (s_var (pv 1)) (s_cons (s_mk (s_lstD (s_cons s_str (s_cons s_str (s_cons s_str (s_cons (s_var (pv 7)) s_nil)))))) s_nil))) s_nil))) (s_cons (s_tup (s_cons s_str (s_cons (s_var (pv 7)) (s_cons (s_var (pv 8)) s_nil)))) (s_cons (s_tup (s_cons s_str (s_cons (s_var (pv 7)) s_nil))) s_nil))))))) (fun _ _ _ q => q))
  (b_cons (s_set (ps_set nd_law (i := 3) rfl (by first | exact Or.inl rfl | exact Or.inr rfl) (s_add (s_var (pv 3)) (s_mk (s_lstD (s_cons (s_tup (s_cons s_str (s_cons (s_var (pv 7)) s_nil))) (s_cons (s_tup (s_cons s_str (s_cons (s_var (pv 8)) s_nil))) (s_cons (s_tup (s_cons s_str (s_cons s_str (s_cons (s_var (pv 8)) s_nil)))) (s_cons (s_tup (s_cons s_str (s_cons (s_var (pv 8)) s_nil))) (s_cons (s_tup (s_cons s_str (s_cons (s_var (pv 8)) (s_cons s_int s_nil)))) s_nil))))))))) (fun _ _ _ q => q))
  (b_cons (s_set (ps_set nd_law (i := 4) rfl (by first | exact Or.inl rfl | exact Or.inr rfl) (s_call C rfl rfl (s_cons (s_var (pv 1)) (s_cons (s_var (pv 3)) s_nil)))) (fun _ _ _ q => q))
  (b_cons (s_set (ps_set nd_law (i := 5) rfl (by first | exact Or.inl rfl | exact Or.inr rfl) (s_mk (s_lstD (s_cons (s_slc (s_var (pv 4)) o_none (o_some (s_neg s_int))) (s_cons (s_add (s_var (pv 4)) (s_tup (s_cons (s_var (pv 8)) s_nil))) (s_cons (s_list1 rfl T.n_list (s_cons (s_var (pv 4)) s_nil)) (s_cons (s_add (s_tup (s_cons (s_var (pv 7)) s_nil)) (s_slc (s_var (pv 4)) (o_some s_int) o_none)) (s_cons (s_var (pv 8)) (s_cons (s_var (pv 7)) (s_cons (s_add (s_tup (s_cons (s_var (pv 8)) s_nil)) (s_slc (s_var (pv 4)) (o_some s_int) o_none)) (s_cons (s_tup (s_cons (s_var (pv 4)) s_nil)) s_nil))))))))))) (fun _ _ _ q => q))
  (b_cons (s_for PassesOwn.never C.calm (i_tmp (s_lstD (s_cons (s_var (pv 4)) (s_cons (s_call C rfl rfl (s_cons (s_var (pv 1)) (s_cons (s_var (pv 5)) s_nil))) s_nil)))) (pg_name nd_law (i := 6) rfl (by first | exact Or.inl rfl | exact Or.inr rfl)) (tg_one _ 6) (b_cons (s_set (ps_set nd_law (i := 9) rfl (by first | exact Or.inl rfl | exact Or.inr rfl) (s_repr C.room C.gd rfl T.n_repr (s_cons (s_var (pv 6)) s_nil))) (fun _ _ _ q => q))
  (b_cons (s_set (ps_set nd_law (i := 10) rfl (by first | exact Or.inl rfl | exact Or.inr rfl) (s_mk (s_lstD (s_cons (s_call C rfl rfl (s_cons (s_var (pv 6)) s_nil)) (s_cons (s_call C rfl rfl (s_cons (s_var (pv 6)) s_nil)) s_nil))))) (fun _ _ _ q => q))
  (b_cons (s_if (PW.pt (w_or (t_ne C.room (s_repr C.room C.gd rfl T.n_repr (s_cons (s_var (pv 10)) s_nil)) (s_repr C.room C.gd rfl T.n_repr (s_cons (s_mk (s_lstD (s_cons (s_call C rfl rfl (s_cons (s_var (pv 6)) s_nil)) (s_cons (s_call C rfl rfl (s_cons (s_var (pv 6)) s_nil)) s_nil)))) s_nil))) (w_one (t_ne C.room (s_repr C.room C.gd rfl T.n_repr (s_cons (s_var (pv 6)) s_nil)) (s_var (pv 9)))))) (b_cons (s_ret s_bl)
  b_nil) b_nil)
  (b_cons (s_if (PW.pt (w_and (t_val (s_call C rfl rfl (s_cons (s_var (pv 6)) s_nil)) (fun _ _ _ => rfl)) (w_one (t_ne C.room (s_call C rfl rfl (s_cons (s_var (pv 6)) s_nil)) (s_ifx (t_eq C.room (s_idx C.room (s_var (pv 6)) s_int) s_str) (s_idx C.room (s_var (pv 6)) s_int) (s_idx C.room (s_var (pv 6)) s_int)))))) (b_cons (s_ret s_bl)
  b_nil) b_nil)
  b_nil)))))
  (b_cons (s_if (t_ne C.room (s_repr C.room C.gd rfl T.n_repr (s_cons (s_mk (s_lstD (s_cons (s_call C rfl rfl (s_cons (s_var (pv 7)) s_nil)) (s_cons (s_call C rfl rfl (s_cons (s_var (pv 8)) s_nil)) s_nil)))) s_nil)) (s_repr C.room C.gd rfl T.n_repr (s_cons (s_mk (s_lstD (s_cons (s_call C rfl rfl (s_cons (s_var (pv 7)) s_nil)) (s_cons (s_call C rfl rfl (s_cons (s_var (pv 8)) s_nil)) s_nil)))) s_nil))) (b_cons (s_ret s_bl)
  b_nil) b_nil)
  b_nil))))))))
  (b_cons (s_ret (s_and (s_isB (s_call C rfl rfl (s_cons (s_mul s_str s_int) s_nil))) (s_one (s_isB (s_call C rfl rfl (s_cons (s_mul s_str s_int) s_nil))))))
  b_nil)))
end
end K13
namespace K13
open PySem PySem.Spec PyProof.Rows L2 MP
abbrev ca0 : Cls0 := fun _ => 0
theorem all_fn {l : PySem.W.OpenLaw} {w : World} {K : PySem.W.Frag} {h : Heap} {mg : Str → Option Value} {fa : Addr} (X : K.In h) (G : h.Ns mainGlobals mg) (hfa : mg "law" = some (.ref fa))
    {f_is_word : Addr} {oc_is_word kV_is_word dc_is_word pm_is_word cd_is_word ct_is_word : Value} {od_is_word an_is_word : Option Addr} {sl_is_word : Array (Option Value)}
    {f_is_count : Addr} {oc_is_count kV_is_count dc_is_count pm_is_count cd_is_count ct_is_count : Value} {od_is_count an_is_count : Option Addr} {sl_is_count : Array (Option Value)}
    {f_is_value : Addr} {oc_is_value kV_is_value dc_is_value pm_is_value cd_is_value ct_is_value : Value} {od_is_value an_is_value : Option Addr} {sl_is_value : Array (Option Value)}
    {f_kind_of : Addr} {oc_kind_of kV_kind_of dc_kind_of pm_kind_of cd_kind_of ct_kind_of : Value} {od_kind_of an_kind_of : Option Addr} {sl_kind_of : Array (Option Value)}
    {f__law_source : Addr} {oc__law_source kV__law_source dc__law_source pm__law_source cd__law_source ct__law_source : Value} {od__law_source an__law_source : Option Addr} {sl__law_source : Array (Option Value)}
    {f__law_pick : Addr} {oc__law_pick kV__law_pick dc__law_pick pm__law_pick cd__law_pick ct__law_pick : Value} {od__law_pick an__law_pick : Option Addr} {sl__law_pick : Array (Option Value)}
    {f__law_of : Addr} {oc__law_of kV__law_of dc__law_of pm__law_of cd__law_of ct__law_of : Value} {od__law_of an__law_of : Option Addr} {sl__law_of : Array (Option Value)}
    {f__law_is_word : Addr} {oc__law_is_word kV__law_is_word dc__law_is_word pm__law_is_word cd__law_is_word ct__law_is_word : Value} {od__law_is_word an__law_is_word : Option Addr} {sl__law_is_word : Array (Option Value)}
    {f__law_is_value : Addr} {oc__law_is_value kV__law_is_value dc__law_is_value pm__law_is_value cd__law_is_value ct__law_is_value : Value} {od__law_is_value an__law_is_value : Option Addr} {sl__law_is_value : Array (Option Value)}
    {f__law_word : Addr} {oc__law_word kV__law_word dc__law_word pm__law_word cd__law_word ct__law_word : Value} {od__law_word an__law_word : Option Addr} {sl__law_word : Array (Option Value)}
    {f__law_thing : Addr} {oc__law_thing kV__law_thing dc__law_thing pm__law_thing cd__law_thing ct__law_thing : Value} {od__law_thing an__law_thing : Option Addr} {sl__law_thing : Array (Option Value)}
    {f_law : Addr} {oc_law kV_law dc_law pm_law cd_law ct_law : Value} {od_law an_law : Option Addr} {sl_law : Array (Option Value)}
    {tk_LETTERS : Tok}
    {r_RESERVED : Addr} {o_RESERVED : Obj}
    (a_is_word : PySem.W.nsIn K mainGlobals "is_word" = some (some (.ref f_is_word))) (l_is_word : K.lookup f_is_word = some ⟨oc_is_word, od_is_word, .func (PySem.W.fnOf "is_word" "is_word" (defArgs t_is_word) (defBody t_is_word) (defScope t_is_word) .none kV_is_word dc_is_word pm_is_word an_is_word cd_is_word ct_is_word), sl_is_word⟩) (c_is_word : PySem.W.codeIn K cd_is_word "is_word" = true) (k_is_word : PySem.W.keepIn K (.ref f_is_word) = true)
    (a_is_count : PySem.W.nsIn K mainGlobals "is_count" = some (some (.ref f_is_count))) (l_is_count : K.lookup f_is_count = some ⟨oc_is_count, od_is_count, .func (PySem.W.fnOf "is_count" "is_count" (defArgs t_is_count) (defBody t_is_count) (defScope t_is_count) .none kV_is_count dc_is_count pm_is_count an_is_count cd_is_count ct_is_count), sl_is_count⟩) (c_is_count : PySem.W.codeIn K cd_is_count "is_count" = true) (k_is_count : PySem.W.keepIn K (.ref f_is_count) = true)
    (a_is_value : PySem.W.nsIn K mainGlobals "is_value" = some (some (.ref f_is_value))) (l_is_value : K.lookup f_is_value = some ⟨oc_is_value, od_is_value, .func (PySem.W.fnOf "is_value" "is_value" (defArgs t_is_value) (defBody t_is_value) (defScope t_is_value) .none kV_is_value dc_is_value pm_is_value an_is_value cd_is_value ct_is_value), sl_is_value⟩) (c_is_value : PySem.W.codeIn K cd_is_value "is_value" = true) (k_is_value : PySem.W.keepIn K (.ref f_is_value) = true)
    (a_kind_of : PySem.W.nsIn K mainGlobals "kind_of" = some (some (.ref f_kind_of))) (l_kind_of : K.lookup f_kind_of = some ⟨oc_kind_of, od_kind_of, .func (PySem.W.fnOf "kind_of" "kind_of" (defArgs t_kind_of) (defBody t_kind_of) (defScope t_kind_of) .none kV_kind_of dc_kind_of pm_kind_of an_kind_of cd_kind_of ct_kind_of), sl_kind_of⟩) (c_kind_of : PySem.W.codeIn K cd_kind_of "kind_of" = true) (k_kind_of : PySem.W.keepIn K (.ref f_kind_of) = true)
    (a__law_source : PySem.W.nsIn K mainGlobals "_law_source" = some (some (.ref f__law_source))) (l__law_source : K.lookup f__law_source = some ⟨oc__law_source, od__law_source, .func (PySem.W.fnOf "_law_source" "_law_source" (defArgs t__law_source) (defBody t__law_source) (defScope t__law_source) .none kV__law_source dc__law_source pm__law_source an__law_source cd__law_source ct__law_source), sl__law_source⟩) (c__law_source : PySem.W.codeIn K cd__law_source "_law_source" = true) (k__law_source : PySem.W.keepIn K (.ref f__law_source) = true)
    (a__law_pick : PySem.W.nsIn K mainGlobals "_law_pick" = some (some (.ref f__law_pick))) (l__law_pick : K.lookup f__law_pick = some ⟨oc__law_pick, od__law_pick, .func (PySem.W.fnOf "_law_pick" "_law_pick" (defArgs t__law_pick) (defBody t__law_pick) (defScope t__law_pick) .none kV__law_pick dc__law_pick pm__law_pick an__law_pick cd__law_pick ct__law_pick), sl__law_pick⟩) (c__law_pick : PySem.W.codeIn K cd__law_pick "_law_pick" = true) (k__law_pick : PySem.W.keepIn K (.ref f__law_pick) = true)
    (a__law_of : PySem.W.nsIn K mainGlobals "_law_of" = some (some (.ref f__law_of))) (l__law_of : K.lookup f__law_of = some ⟨oc__law_of, od__law_of, .func (PySem.W.fnOf "_law_of" "_law_of" (defArgs t__law_of) (defBody t__law_of) (defScope t__law_of) .none kV__law_of dc__law_of pm__law_of an__law_of cd__law_of ct__law_of), sl__law_of⟩) (c__law_of : PySem.W.codeIn K cd__law_of "_law_of" = true) (k__law_of : PySem.W.keepIn K (.ref f__law_of) = true)
    (a__law_is_word : PySem.W.nsIn K mainGlobals "_law_is_word" = some (some (.ref f__law_is_word))) (l__law_is_word : K.lookup f__law_is_word = some ⟨oc__law_is_word, od__law_is_word, .func (PySem.W.fnOf "_law_is_word" "_law_is_word" (defArgs t__law_is_word) (defBody t__law_is_word) (defScope t__law_is_word) .none kV__law_is_word dc__law_is_word pm__law_is_word an__law_is_word cd__law_is_word ct__law_is_word), sl__law_is_word⟩) (c__law_is_word : PySem.W.codeIn K cd__law_is_word "_law_is_word" = true) (k__law_is_word : PySem.W.keepIn K (.ref f__law_is_word) = true)
    (a__law_is_value : PySem.W.nsIn K mainGlobals "_law_is_value" = some (some (.ref f__law_is_value))) (l__law_is_value : K.lookup f__law_is_value = some ⟨oc__law_is_value, od__law_is_value, .func (PySem.W.fnOf "_law_is_value" "_law_is_value" (defArgs t__law_is_value) (defBody t__law_is_value) (defScope t__law_is_value) .none kV__law_is_value dc__law_is_value pm__law_is_value an__law_is_value cd__law_is_value ct__law_is_value), sl__law_is_value⟩) (c__law_is_value : PySem.W.codeIn K cd__law_is_value "_law_is_value" = true) (k__law_is_value : PySem.W.keepIn K (.ref f__law_is_value) = true)
    (a__law_word : PySem.W.nsIn K mainGlobals "_law_word" = some (some (.ref f__law_word))) (l__law_word : K.lookup f__law_word = some ⟨oc__law_word, od__law_word, .func (PySem.W.fnOf "_law_word" "_law_word" (defArgs t__law_word) (defBody t__law_word) (defScope t__law_word) .none kV__law_word dc__law_word pm__law_word an__law_word cd__law_word ct__law_word), sl__law_word⟩) (c__law_word : PySem.W.codeIn K cd__law_word "_law_word" = true) (k__law_word : PySem.W.keepIn K (.ref f__law_word) = true)
    (a__law_thing : PySem.W.nsIn K mainGlobals "_law_thing" = some (some (.ref f__law_thing))) (l__law_thing : K.lookup f__law_thing = some ⟨oc__law_thing, od__law_thing, .func (PySem.W.fnOf "_law_thing" "_law_thing" (defArgs t__law_thing) (defBody t__law_thing) (defScope t__law_thing) .none kV__law_thing dc__law_thing pm__law_thing an__law_thing cd__law_thing ct__law_thing), sl__law_thing⟩) (c__law_thing : PySem.W.codeIn K cd__law_thing "_law_thing" = true) (k__law_thing : PySem.W.keepIn K (.ref f__law_thing) = true)
    (a_law : PySem.W.nsIn K mainGlobals "law" = some (some (.ref f_law))) (l_law : K.lookup f_law = some ⟨oc_law, od_law, .func (PySem.W.fnOf "law" "law" (defArgs t_law) (defBody t_law) (defScope t_law) .none kV_law dc_law pm_law an_law cd_law ct_law), sl_law⟩) (c_law : PySem.W.codeIn K cd_law "law" = true) (k_law : PySem.W.keepIn K (.ref f_law) = true)
    (z_abs : PySem.W.nsIn K mainGlobals "abs" = some none)
    (z_all : PySem.W.nsIn K mainGlobals "all" = some none)
    (z_bool : PySem.W.nsIn K mainGlobals "bool" = some none)
    (z_int : PySem.W.nsIn K mainGlobals "int" = some none)
    (z_isinstance : PySem.W.nsIn K mainGlobals "isinstance" = some none)
    (z_len : PySem.W.nsIn K mainGlobals "len" = some none)
    (z_list : PySem.W.nsIn K mainGlobals "list" = some none)
    (z_range : PySem.W.nsIn K mainGlobals "range" = some none)
    (z_repr : PySem.W.nsIn K mainGlobals "repr" = some none)
    (z_str : PySem.W.nsIn K mainGlobals "str" = some none)
    (z_tuple : PySem.W.nsIn K mainGlobals "tuple" = some none)
    (g_LETTERS : PySem.W.nsIn K mainGlobals "LETTERS" = some (some (.str ("abcdefghijklmnopqrstuvwxyz" : Str) tk_LETTERS)))
    (g_RESERVED : PySem.W.nsIn K mainGlobals "RESERVED" = some (some (.ref r_RESERVED))) (l_RESERVED : K.lookup r_RESERVED = some o_RESERVED) (d_RESERVED : TupC o_RESERVED [V.str ("none" : Str), V.str ("bit" : Str), V.str ("err" : Str), V.str ("fun" : Str), V.str ("obj" : Str)]) :
    ∃ fd : FuncData, (∀ (s : Shared) (v : Value), BindsTo s fd ⟨[v], []⟩ [("script", v)]) ∧ ∀ base : Heap, K.In base → base.Ns mainGlobals mg → FnG l.prog w K mg base 21 fa fd ["script"] (spF K ca0 Γ 20 11) := by
  have e := hfa.symm.trans (PySem.W.mg_of X G a_law)
  cases e
  have T : Tx K mg := ⟨PySem.W.mg_none_of X G z_abs, PySem.W.mg_none_of X G z_all, PySem.W.mg_none_of X G z_bool, PySem.W.mg_none_of X G z_int, PySem.W.mg_none_of X G z_isinstance, PySem.W.mg_none_of X G z_len, PySem.W.mg_none_of X G z_list, PySem.W.mg_none_of X G z_range, PySem.W.mg_none_of X G z_repr, PySem.W.mg_none_of X G z_str, PySem.W.mg_none_of X G z_tuple, glb_str (PySem.W.mg_of X G g_LETTERS), glb_tup (PySem.W.mg_of X G g_RESERVED) l_RESERVED d_RESERVED fun _ _ _ => .cons (.str _) (.cons (.str _) (.cons (.str _) (.cons (.str _) (.cons (.str _) (.nil)))))⟩
  have F_is_word := fun_mk (st := t_is_word) l_is_word c_is_word k_is_word
  have B_is_word := F_is_word.binds (ps := ["value"]) fun _ _ _ _ _ _ us hl => match us, hl with | [_], _ => rfl
  have F_is_count := fun_mk (st := t_is_count) l_is_count c_is_count k_is_count
  have B_is_count := F_is_count.binds (ps := ["value"]) fun _ _ _ _ _ _ us hl => match us, hl with | [_], _ => rfl
  have F_is_value := fun_mk (st := t_is_value) l_is_value c_is_value k_is_value
  have B_is_value := F_is_value.binds (ps := ["value"]) fun _ _ _ _ _ _ us hl => match us, hl with | [_], _ => rfl
  have F_kind_of := fun_mk (st := t_kind_of) l_kind_of c_kind_of k_kind_of
  have B_kind_of := F_kind_of.binds (ps := ["value"]) fun _ _ _ _ _ _ us hl => match us, hl with | [_], _ => rfl
  have F__law_source := fun_mk (st := t__law_source) l__law_source c__law_source k__law_source
  have B__law_source := F__law_source.binds (ps := ["script"]) fun _ _ _ _ _ _ us hl => match us, hl with | [_], _ => rfl
  have F__law_pick := fun_mk (st := t__law_pick) l__law_pick c__law_pick k__law_pick
  have B__law_pick := F__law_pick.binds (ps := ["source", "many"]) fun _ _ _ _ _ _ us hl => match us, hl with | [_, _], _ => rfl
  have F__law_of := fun_mk (st := t__law_of) l__law_of c__law_of k__law_of
  have B__law_of := F__law_of.binds (ps := ["source", "some"]) fun _ _ _ _ _ _ us hl => match us, hl with | [_, _], _ => rfl
  have F__law_is_word := fun_mk (st := t__law_is_word) l__law_is_word c__law_is_word k__law_is_word
  have B__law_is_word := F__law_is_word.binds (ps := ["value"]) fun _ _ _ _ _ _ us hl => match us, hl with | [_], _ => rfl
  have F__law_is_value := fun_mk (st := t__law_is_value) l__law_is_value c__law_is_value k__law_is_value
  have B__law_is_value := F__law_is_value.binds (ps := ["value"]) fun _ _ _ _ _ _ us hl => match us, hl with | [_], _ => rfl
  have F__law_word := fun_mk (st := t__law_word) l__law_word c__law_word k__law_word
  have B__law_word := F__law_word.binds (ps := ["source"]) fun _ _ _ _ _ _ us hl => match us, hl with | [_], _ => rfl
  have F__law_thing := fun_mk (st := t__law_thing) l__law_thing c__law_thing k__law_thing
  have B__law_thing := F__law_thing.binds (ps := ["source"]) fun _ _ _ _ _ _ us hl => match us, hl with | [_], _ => rfl
  have F_law := fun_mk (st := t_law) l_law c_law k_law
  have B_law := F_law.binds (ps := ["script"]) fun _ _ _ _ _ _ us hl => match us, hl with | [_], _ => rfl
  refine ⟨PySem.W.fnOf "law" "law" (defArgs t_law) (defBody t_law) (defScope t_law) .none kV_law dc_law pm_law an_law cd_law ct_law, fun s v => .of_eq rfl, fun base _ _ => ?_⟩
  have all := fns_all (P := l.prog) (w := w) (K := K) (mg := mg) (base := base) (ca := ca0) (Γ := Γ) (nm := nm) fun d C f fn hf => by
    match f, hf with
    | 0, hf => exact ⟨_, _, _, PySem.W.mg_of X G a_is_word, k_is_word, B_is_word, fn_sound F_is_word sc_is_word hf (by cases hf; rfl) (by cases hf; rfl) (by cases hf; exact b_is_word T) C⟩
    | 1, hf => exact ⟨_, _, _, PySem.W.mg_of X G a_is_count, k_is_count, B_is_count, fn_sound F_is_count sc_is_count hf (by cases hf; rfl) (by cases hf; rfl) (by cases hf; exact b_is_count T) C⟩
    | 2, hf => exact ⟨_, _, _, PySem.W.mg_of X G a_is_value, k_is_value, B_is_value, fn_sound F_is_value sc_is_value hf (by cases hf; rfl) (by cases hf; rfl) (by cases hf; exact b_is_value T) C⟩
    | 3, hf => exact ⟨_, _, _, PySem.W.mg_of X G a_kind_of, k_kind_of, B_kind_of, fn_sound F_kind_of sc_kind_of hf (by cases hf; rfl) (by cases hf; rfl) (by cases hf; exact b_kind_of T) C⟩
    | 4, hf => exact ⟨_, _, _, PySem.W.mg_of X G a__law_source, k__law_source, B__law_source, fn_sound F__law_source sc__law_source hf (by cases hf; rfl) (by cases hf; rfl) (by cases hf; exact b__law_source T) C⟩
    | 5, hf => exact ⟨_, _, _, PySem.W.mg_of X G a__law_pick, k__law_pick, B__law_pick, fn_sound F__law_pick sc__law_pick hf (by cases hf; rfl) (by cases hf; rfl) (by cases hf; exact b__law_pick T) C⟩
    | 6, hf => exact ⟨_, _, _, PySem.W.mg_of X G a__law_of, k__law_of, B__law_of, fn_sound F__law_of sc__law_of hf (by cases hf; rfl) (by cases hf; rfl) (by cases hf; exact b__law_of T) C⟩
    | 7, hf => exact ⟨_, _, _, PySem.W.mg_of X G a__law_is_word, k__law_is_word, B__law_is_word, fn_sound F__law_is_word sc__law_is_word hf (by cases hf; rfl) (by cases hf; rfl) (by cases hf; exact b__law_is_word T) C⟩
    | 8, hf => exact ⟨_, _, _, PySem.W.mg_of X G a__law_is_value, k__law_is_value, B__law_is_value, fn_sound F__law_is_value sc__law_is_value hf (by cases hf; rfl) (by cases hf; rfl) (by cases hf; exact b__law_is_value T) C⟩
    | 9, hf => exact ⟨_, _, _, PySem.W.mg_of X G a__law_word, k__law_word, B__law_word, fn_sound F__law_word sc__law_word hf (by cases hf; rfl) (by cases hf; rfl) (by cases hf; exact b__law_word T) C⟩
    | 10, hf => exact ⟨_, _, _, PySem.W.mg_of X G a__law_thing, k__law_thing, B__law_thing, fn_sound F__law_thing sc__law_thing hf (by cases hf; rfl) (by cases hf; rfl) (by cases hf; exact b__law_thing T) C⟩
    | 11, hf => exact ⟨_, _, _, PySem.W.mg_of X G a_law, k_law, B_law, fn_sound F_law sc_law hf (by cases hf; rfl) (by cases hf; rfl) (by cases hf; exact b_law T) C⟩
    | n + 12, hf => exact absurd hf (by intro z; cases z)
  exact fn_sound F_law sc_law (rfl : Γ 11 = some _) rfl rfl (b_law T) (all 20)
end K13

set_option Elab.async false
set_option linter.all false
set_option maxRecDepth 100000
set_option maxHeartbeats 4000000
namespace K13
open PySem L2 MP
def LE : Str := "abcdefghijklmnopqrstuvwxyz"
def DI : Str := "0123456789"
theorem ok_LE : PyData.strOk LE = true := by decide +kernel
theorem app_LD : (LE ++ DI).cps.toList = LE.cps.toList ++ DI.cps.toList := by decide +kernel
def sgn (c : Nat) : MV := .str ⟨#[c]⟩
theorem signs_eq (z : Str) : signs z = z.cps.toList.map sgn := rfl
def chk (c : Nat) : Bool := decide (c ∈ LE.cps.toList) || decide (c ∈ DI.cps.toList)
/-- what a word is -/
def wordA (z : Str) : Bool := decide (z.length ≤ 12) && (match z.cps.toList with
  | [] => false
  | c :: cs => decide (c ∈ LE.cps.toList) && (c :: cs).all chk)
def isWordV : MV → Bool
  | .str z => wordA z
  | _ => false
/-- a short text of signs -/
def Txt0 (z : Str) : Prop := z.length ≤ 100 ∧ PyData.strOk z = true
/-- what may be asked whether it is a word -/
def Ask (st : Store) (v : MV) : Prop := (∃ z, v = .str z ∧ Txt0 z) ∨ (isT st v .str = some false ∧ isWordV v = false)
variable {d : Nat} {st : Store} {Q : MV → Store → Prop}
theorem isi_of {v : MV} {t : TN} {k : Bool} (h : isT st v t = some k) : biV (.isi [t]) [v] st = .ok (.bl k) st := by
  show (match isTs st v [t] with
    | some k => Res.ok (MV.bl k) st
    | none => .stuck) = _
  unfold isTs
  rw [h]
  cases k <;> rfl
theorem chk_map (z : Str) : (signs z).map (fun v => match v with
    | .str x => MV.bl (inTxt x LE || inTxt x DI)
    | _ => .non) = z.cps.toList.map fun c => MV.bl (chk c) := by
  rw [signs_eq, List.map_map]
  rfl
theorem len_list (z : Str) : z.length = z.cps.toList.length := by
  show z.cps.size = _
  simp
theorem at0 {z : Str} {c : Nat} {cs : List Nat} (h : z.cps.toList = c :: cs) : atI z.cps.toList 0 = some c := by
  rw [h]
  unfold atI ixN
  rw [if_pos (Int.le_refl 0), if_pos (by simp)]
  rfl
theorem idx0 {z : Str} {c : Nat} {cs : List Nat} (hl : z.length ≤ 1000) (h : z.cps.toList = c :: cs) : idxV (.str z) (.int 0) st = .ok (sgn c) st := by
  show (if z.length ≤ sizeLine then (match atI z.cps.toList 0 with
    | some c => Res.ok (MV.str ⟨#[c]⟩) st
    | none => .stuck) else .stuck) = _
  rw [if_pos (Nat.le_trans hl (by decide)), at0 h]
  rfl
theorem is_word_ok {v : MV} (h : Ask st v) (q : Q (.bl (isWordV v)) st) : wC Γ d 0 [v] st Q := by
  refine c_body rfl rfl ?_
  show wB Γ d m_is_word [some v, none] st _
  unfold m_is_word
  rcases h with ⟨z, rfl, hz, ok⟩ | ⟨h1, h2⟩
  · have hz' : z.length ≤ 1000 := by omega
    refine b_cons' (S_iff (t_or' (t_not' (t_e (fun _ _ _ => rfl) (e_bi (a_cons (e_var rfl (a_nil (rs_of (isi_of rfl) ⟨true, rfl, fun _ => ?_, fun z => by cases z⟩)))))))))
    refine t_or' (t_e (fun _ _ _ => rfl) (e_cmp (e_bi (a_cons (e_var rfl (a_nil (rs_of (len_str hz') (e_lit (rs_of (eq_int _ _) ⟨_, rfl, ?_⟩)))))))))
    cases hc : z.cps.toList with
    | nil =>
      have l0 : z.length = 0 := by rw [len_list, hc]; rfl
      have e : wordA z = false := by unfold wordA; rw [hc]; simp
      refine ⟨fun hk => by simp [l0] at hk, fun _ => ⟨fun _ => ?_, fun z => by cases z⟩⟩
      refine b_cons' (S_ret (e_lit ?_))
      show Q (.bl false) st
      rw [← e]; exact q
    | cons c cs =>
      have l1 : z.length = cs.length + 1 := by rw [len_list, hc]; rfl
      refine ⟨fun _ => ?_, fun hk => by simp [l1] at hk; omega⟩
      refine t_or' (t_e (fun _ _ _ => rfl) (e_cmp (e_bi (a_cons (e_var rfl (a_nil (rs_of (len_str hz') (e_lit (Rs.ok ⟨_, rfl, ?_⟩)))))))))
      by_cases h12 : z.length ≤ 12
      · have e12 : decide ((12 : Int) < z.length) = false := decide_eq_false (by omega)
        rw [e12]
        refine ⟨fun _ => ?_, fun z => by cases z⟩
        refine t_e (fun _ _ _ => rfl) (e_cmp (e_idx (e_var rfl (e_lit (rs_of (idx0 hz' hc) (e_lit (rs_of (notin_str _ _) ⟨_, rfl, ?_⟩)))))))
        have e1 : inTxt ⟨#[c]⟩ ("abcdefghijklmnopqrstuvwxyz" : Str) = decide (c ∈ LE.cps.toList) := rfl
        rw [e1]
        cases hL : decide (c ∈ LE.cps.toList) with
        | false =>
          have e : wordA z = false := by unfold wordA; rw [hc]; simp only [hL]; simp
          refine ⟨fun _ => ?_, fun z => by cases z⟩
          refine b_cons' (S_ret (e_lit ?_))
          show Q (.bl false) st
          rw [← e]; exact q
        | true =>
          refine ⟨(fun z => by cases z), fun _ => b_nil' ?_⟩
          refine b_cons' (S_ret (e_all (l_comp (i_seq' (e_var rfl ⟨_, rfl, ?_⟩)))))
          refine g_map (fun v => match v with
            | .str x => MV.bl (inTxt x LE || inTxt x DI)
            | _ => .non) (by rw [signs_eq, List.length_map, ← len_list]; show 0 + z.length ≤ sizeLine; have : 1000 ≤ sizeLine := by decide
                             omega) (fun v hv => ?_) ?_
          · rw [signs_eq] at hv
            obtain ⟨c', _, rfl⟩ := List.mem_map.mp hv
            refine ⟨_, rfl, fun Q' q' => ?_⟩
            refine e_or (e_cmp (e_var rfl (e_lit (rs_of (in_str _ _) ⟨_, rfl, fun h1 => ?_, fun h1 => ?_⟩))))
            · refine e_cmp (e_var rfl (e_lit (rs_of (in_str _ _) ?_)))
              have e3 : inTxt ⟨#[c']⟩ LE = false := h1
              have q2 : Q' (.bl (inTxt ⟨#[c']⟩ LE || inTxt ⟨#[c']⟩ DI)) st := q'
              rw [e3, Bool.false_or] at q2
              exact q2
            · have e3 : inTxt ⟨#[c']⟩ LE = true := h1
              have q2 : Q' (.bl (inTxt ⟨#[c']⟩ LE || inTxt ⟨#[c']⟩ DI)) st := q'
              rw [e3, Bool.true_or] at q2
              exact q2
          · rw [chk_map, List.nil_append]
            refine ⟨_, bls_map chk _, ?_⟩
            show Q (.bl _) st
            have e : wordA z = (z.cps.toList.map chk).all id := by
              unfold wordA
              rw [hc]
              simp only [hL, h12]
              simp [List.all_map]
            rw [← e]; exact q
      · have e12 : decide ((12 : Int) < z.length) = true := decide_eq_true (by omega)
        rw [e12]
        have e : wordA z = false := by unfold wordA; simp [h12]
        refine ⟨(fun z => by cases z), fun _ => ⟨fun _ => ?_, fun z => by cases z⟩⟩
        refine b_cons' (S_ret (e_lit ?_))
        show Q (.bl false) st
        rw [← e]; exact q
  · refine b_cons' (S_iff (t_or' (t_not' (t_e (fun _ _ _ => rfl) (e_bi (a_cons (e_var rfl (a_nil (rs_of (isi_of h1) ⟨false, rfl, (fun z => by cases z), fun _ => ⟨fun _ => ?_, fun z => by cases z⟩⟩)))))))))
    refine b_cons' (S_ret (e_lit ?_))
    show Q (.bl false) st
    rw [← h2]; exact q
end K13

set_option Elab.async false
set_option linter.all false
set_option maxRecDepth 100000
set_option maxHeartbeats 4000000
namespace K13
open PySem L2 MP
variable {d : Nat} {st : Store} {Q : MV → Store → Prop}
def isCountV : MV → Bool
  | .int i => decide (0 ≤ i)
  | _ => false
/-- a value that may be looked at -/
inductive G1 (st : Store) : MV → Prop
  | non : G1 st .non
  | bl (b : Bool) : G1 st (.bl b)
  | int (i : Int) : G1 st (.int i)
  | str {z : Str} : Txt0 z → G1 st (.str z)
  | tup (xs : List MV) : G1 st (.tup xs)
  | lst {n : Nat} {xs : List MV} : n < st.next → st.get n = some (.lst xs) → G1 st (.ref n)
  | dK {n : Nat} {kvs : List (Key × MV)} : n < st.next → st.get n = some (.dK kvs) → G1 st (.ref n)
theorem isT_lst {n : Nat} {xs : List MV} {t : TN} (h : st.get n = some (.lst xs)) : isT st (.ref n) t = (match t with
      | .list => some true
      | .cls _ => none
      | _ => some false) := by
  show (match st.get n with
    | some (.lst _) => (match t with
      | .list => some true
      | .cls _ => none
      | _ => some false)
    | some (.dK _) => (match t with
      | .dict => some true
      | .cls _ => none
      | _ => some false)
    | _ => none) = _
  rw [h]
theorem isT_dK {n : Nat} {xs : List (Key × MV)} {t : TN} (h : st.get n = some (.dK xs)) : isT st (.ref n) t = (match t with
      | .dict => some true
      | .cls _ => none
      | _ => some false) := by
  show (match st.get n with
    | some (.lst _) => (match t with
      | .list => some true
      | .cls _ => none
      | _ => some false)
    | some (.dK _) => (match t with
      | .dict => some true
      | .cls _ => none
      | _ => some false)
    | _ => none) = _
  rw [h]
theorem G1.ask {v : MV} (h : G1 st v) : Ask st v := by
  cases h with
  | str h => exact .inl ⟨_, rfl, h⟩
  | lst _ h => exact .inr ⟨isT_lst h, rfl⟩
  | dK _ h => exact .inr ⟨isT_dK h, rfl⟩
  | _ => exact .inr ⟨rfl, rfl⟩
theorem is_count_ok {v : MV} (h : G1 st v) (q : Q (.bl (isCountV v)) st) : wC Γ d 1 [v] st Q := by
  refine c_body rfl rfl ?_
  show wB Γ d m_is_count [some v] st _
  unfold m_is_count
  have no : isT st v .int = some false → isCountV v = false → wB Γ d [.ret (.and (.bi (.isi [.int]) [.var 0]) (.and (.not (.bi (.isi [.bool]) [.var 0])) (.cmp .ge (.var 0) (.lit (.int 0)))))] [some v] st (retQ Q) := fun h1 h2 => by
    refine b_cons' (S_ret (e_and (e_bi (a_cons (e_var rfl (a_nil (rs_of (isi_of h1) ⟨false, rfl, (fun z => by cases z), fun _ => ?_⟩)))))))
    show Q (.bl false) st
    rw [← h2]; exact q
  cases h with
  | non => exact no rfl rfl
  | str h => exact no rfl rfl
  | tup xs => exact no rfl rfl
  | lst _ h => exact no (isT_lst h) rfl
  | dK _ h => exact no (isT_dK h) rfl
  | bl b =>
    refine b_cons' (S_ret (e_and (e_bi (a_cons (e_var rfl (a_nil (rs_of (isi_of rfl) ⟨true, rfl, fun _ => ?_, fun z => by cases z⟩)))))))
    exact e_and (e_not (t_e (fun _ _ _ => rfl) (e_bi (a_cons (e_var rfl (a_nil (rs_of (isi_of rfl) ⟨true, rfl, false, rfl, (fun z => by cases z), fun _ => q⟩)))))))
  | int i =>
    refine b_cons' (S_ret (e_and (e_bi (a_cons (e_var rfl (a_nil (rs_of (isi_of rfl) ⟨true, rfl, fun _ => ?_, fun z => by cases z⟩)))))))
    exact e_and (e_not (t_e (fun _ _ _ => rfl) (e_bi (a_cons (e_var rfl (a_nil (rs_of (isi_of rfl) ⟨false, rfl, true, rfl, (fun _ => e_cmp (e_var rfl (e_lit (Rs.ok q)))), fun z => by cases z⟩)))))))
/-! ### the law's own word -/
theorem one_ok {z : Str} (h : PyData.strOk z = true) {c : Nat} (hc : c ∈ z.cps.toList) : PyData.strOk ⟨#[c]⟩ = true := by
  unfold PyData.strOk at h ⊢
  rw [← Array.all_toList] at h
  have := List.all_eq_true.mp h c hc
  simpa using this
theorem chk_no (c : Nat) : (!inTxt ⟨#[c]⟩ (LE ++ DI)) = !chk c := by
  have : inTxt ⟨#[c]⟩ (LE ++ DI) = decide (c ∈ (LE ++ DI).cps.toList) := rfl
  rw [this, app_LD]
  unfold chk
  simp [List.mem_append]
def noS (v : MV) : Bool := match v with
  | .str x => !inTxt x (LE ++ DI)
  | _ => false
theorem flt_eq (z : Str) : (signs z).filter noS = ((z.cps.toList.filter fun c => !chk c).map fun c => (⟨#[c]⟩ : Str)).map MV.str := by
  rw [signs_eq, List.filter_map, List.map_map]
  have e : (noS ∘ sgn) = fun c => !chk c := funext fun c => chk_no c
  rw [e]
  rfl
theorem eqv_nil (xs : List Str) : PyData.eqv (.list (xs.map PyData.str)) (.list []) = xs.isEmpty := by
  cases xs <;> simp [PyData.eqv, PyData.eqvAll]
theorem law_word_ok {v : MV} (h : Ask st v) (q : Q (.bl (isWordV v)) st) : wC Γ d 7 [v] st Q := by
  refine c_body rfl rfl ?_
  show wB Γ d m__law_is_word [some v, none, none] st _
  unfold m__law_is_word
  refine b_cons' (S_set (e_lit ?_))
  rcases h with ⟨z, rfl, hz, ok⟩ | ⟨h1, h2⟩
  · have hz' : z.length ≤ 1000 := by omega
    refine b_cons' (S_iff (t_or' (t_not' (t_e (fun _ _ _ => rfl) (e_bi (a_cons (e_var rfl (a_nil (rs_of (isi_of rfl) ⟨true, rfl, fun _ => ?_, fun z => by cases z⟩)))))))))
    refine t_or' (t_e (fun _ _ _ => rfl) (e_cmp (e_var rfl (e_lit (rs_of (eq_str ok (by decide +kernel)) ⟨_, rfl, ?_⟩)))))
    cases hc : z.cps.toList with
    | nil =>
      have hz0 : z = ("" : Str) := by
        obtain ⟨⟨l⟩⟩ := z
        have : l = [] := hc
        subst this
        rfl
      have e : wordA z = false := by unfold wordA; rw [hc]; simp
      refine ⟨fun hk => by rw [hz0] at hk; simp at hk, fun _ => ⟨fun _ => ?_, fun z => by cases z⟩⟩
      refine b_cons' (S_ret (e_lit ?_))
      show Q (.bl false) st
      rw [← e]; exact q
    | cons c cs =>
      refine ⟨fun _ => ?_, fun hk => by
        have : z = ("" : Str) := eq_of_beq hk
        rw [this] at hc
        have e0 : (("" : Str)).cps.toList = [] := by decide +kernel
        rw [e0] at hc
        cases hc⟩
      refine t_or' (t_e (fun _ _ _ => rfl) (e_cmp (e_bi (a_cons (e_var rfl (a_nil (rs_of (len_str hz') (e_lit (Rs.ok ⟨_, rfl, ?_⟩)))))))))
      by_cases h12 : z.length ≤ 12
      · have e12 : decide ((12 : Int) < z.length) = false := decide_eq_false (by omega)
        rw [e12]
        refine ⟨fun _ => ?_, fun z => by cases z⟩
        refine t_e (fun _ _ _ => rfl) (e_cmp (e_idx (e_var rfl (e_lit (rs_of (idx0 hz' hc) (e_var rfl (rs_of (notin_str _ _) ⟨_, rfl, ?_⟩)))))))
        have e1 : inTxt ⟨#[c]⟩ ("abcdefghijklmnopqrstuvwxyz" : Str) = decide (c ∈ LE.cps.toList) := rfl
        rw [e1]
        cases hL : decide (c ∈ LE.cps.toList) with
        | false =>
          have e : wordA z = false := by unfold wordA; rw [hc]; simp only [hL]; simp
          refine ⟨fun _ => ?_, fun z => by cases z⟩
          refine b_cons' (S_ret (e_lit ?_))
          show Q (.bl false) st
          rw [← e]; exact q
        | true =>
          refine ⟨(fun z => by cases z), fun _ => b_nil' ?_⟩
          refine b_cons' (S_ret (e_cmpL (l_comp (i_seq' (e_var rfl ⟨_, rfl, ?_⟩)))))
          refine g_filter noS (by rw [signs_eq, List.length_map, ← len_list]; show 0 + z.length ≤ sizeLine; have : 1000 ≤ sizeLine := by decide
                                  omega) (fun v hv => ?_) ?_
          · rw [signs_eq] at hv
            obtain ⟨c', _, rfl⟩ := List.mem_map.mp hv
            refine ⟨_, rfl, fun Q' q' => ?_, fun Q' q' => e_var rfl q'⟩
            exact t_e (fun _ _ _ => rfl) (e_cmp (e_var rfl (e_bin (e_var rfl (e_lit (rs_of (add_str (by decide +kernel)) (rs_of (notin_str _ _) ⟨_, rfl, q'⟩)))))))
          · rw [flt_eq, List.nil_append]
            refine l_lst (a_nil ⟨Nat.zero_le _, ?_⟩)
            have oks : ∀ x ∈ (z.cps.toList.filter fun c => !chk c).map fun c => (⟨#[c]⟩ : Str), PyData.strOk x = true := fun x hx => by
              obtain ⟨c', h3, rfl⟩ := List.mem_map.mp hx
              exact one_ok ok (List.mem_filter.mp h3).1
            have e2 : cmpLV .eq (((z.cps.toList.filter fun c => !chk c).map fun c => (⟨#[c]⟩ : Str)).map MV.str) [] st = .ok (.bl (((z.cps.toList.filter fun c => !chk c).map fun c => (⟨#[c]⟩ : Str)).isEmpty)) st := by
              have e3 := toS_scr (st := st) (xs := []) (fun x hx => nomatch hx)
              have e3' : toS st (.scr []) = some (.list []) := e3
              unfold cmpLV
              rw [toS_scr oks, e3']
              show Res.ok (MV.bl (PyData.eqv _ (.list []))) st = _
              rw [eqv_nil]
            refine rs_of e2 ?_
            show Q (.bl _) st
            have e : wordA z = ((z.cps.toList.filter fun c => !chk c).map fun c => (⟨#[c]⟩ : Str)).isEmpty := by
              unfold wordA
              rw [hc]
              simp only [hL, h12]
              rw [List.isEmpty_map]
              rw [Bool.eq_iff_iff]
              simp only [decide_true, Bool.true_and, List.all_eq_true, List.isEmpty_iff, List.filter_eq_nil_iff]
              simp
            rw [← e]; exact q
      · have e12 : decide ((12 : Int) < z.length) = true := decide_eq_true (by omega)
        rw [e12]
        have e : wordA z = false := by unfold wordA; simp [h12]
        refine ⟨(fun z => by cases z), fun _ => ⟨fun _ => ?_, fun z => by cases z⟩⟩
        refine b_cons' (S_ret (e_lit ?_))
        show Q (.bl false) st
        rw [← e]; exact q
  · refine b_cons' (S_iff (t_or' (t_not' (t_e (fun _ _ _ => rfl) (e_bi (a_cons (e_var rfl (a_nil (rs_of (isi_of h1) ⟨false, rfl, (fun z => by cases z), fun _ => ⟨fun _ => ?_, fun z => by cases z⟩⟩)))))))))
    refine b_cons' (S_ret (e_lit ?_))
    show Q (.bl false) st
    rw [← h2]; exact q
end K13

set_option Elab.async false
set_option linter.all false
set_option maxRecDepth 100000
set_option maxHeartbeats 4000000
namespace K13
open PySem L2 MP
variable {d : Nat} {st : Store} {Q : MV → Store → Prop}
def RES : List Str := ["none", "bit", "err", "fun", "obj"]
theorem ok_RES : ∀ x ∈ RES, PyData.strOk x = true := by decide +kernel
def noRes : MV → Bool
  | .str x => !(RES.any fun y => y == x)
  | _ => false
def isBit : MV → Bool
  | .str x => (["yes", "no"] : List Str).any fun y => y == x
  | _ => false
def tokV : List MV → Bool
  | [a, b] => isWordV a && (noRes a && isCountV b)
  | _ => false
/-- the spec of a value, by its word and the rest -/
def valV (w : Str) (r : List MV) : Bool :=
  if (w == ("none" : Str)) = true then r.isEmpty
  else if (w == ("tok" : Str)) = true then tokV r
  else match r with
    | [a] => if (w == ("bit" : Str)) = true then isBit a else if (w == ("obj" : Str)) = true then isCountV a else ((["err", "fun"] : List Str).any fun y => y == w) && isWordV a
    | _ => false
def isValueV : MV → Bool
  | .tup (.str w :: r) => valV w r
  | _ => false
def G2 (st : Store) (v : MV) : Prop := G1 st v ∧ ∀ xs, v = .tup xs → ∀ x ∈ xs, G1 st x
theorem idx_head (x : MV) (r : List MV) : idxV (.tup (x :: r)) (.int 0) st = .ok x st := by
  have e : atI (x :: r) 0 = some x := by
    unfold atI ixN
    rw [if_pos (Int.le_refl 0), if_pos (by rw [List.length_cons]; omega)]
    rfl
  show (match atI (x :: r) 0 with
    | some v => Res.ok v st
    | none => .stuck) = _
  rw [e]
theorem len_tup (xs : List MV) : biV .len [.tup xs] st = .ok (.int xs.length) st := rfl
theorem G1.strOr {v : MV} (h : G1 st v) : (∃ w, v = .str w ∧ Txt0 w) ∨ (isT st v .str = some false ∧ isWordV v = false ∧ isBit v = false ∧ noRes v = false) := by
  cases h with
  | str h => exact .inl ⟨_, rfl, h⟩
  | lst _ h => exact .inr ⟨isT_lst h, rfl, rfl, rfl⟩
  | dK _ h => exact .inr ⟨isT_dK h, rfl, rfl, rfl⟩
  | _ => exact .inr ⟨rfl, rfl, rfl, rfl⟩
theorem G1.tupOr {v : MV} (h : G1 st v) : (∃ xs, v = .tup xs) ∨ (isT st v .tuple = some false ∧ isValueV v = false) := by
  cases h with
  | tup xs => exact .inl ⟨_, rfl⟩
  | lst _ h => exact .inr ⟨isT_lst h, rfl⟩
  | dK _ h => exact .inr ⟨isT_dK h, rfl⟩
  | _ => exact .inr ⟨rfl, rfl⟩
theorem two_ok : ∀ x ∈ (["yes", "no"] : List Str), PyData.strOk x = true := by decide +kernel
theorem two_ok2 : ∀ x ∈ (["err", "fun"] : List Str), PyData.strOk x = true := by decide +kernel
/-- what stands behind the first test of is_value -/
def restV : List MS := m_is_value.drop 1
theorem m_value_eq : m_is_value = (m_is_value.headD .pass) :: restV := rfl
theorem restV_ok {w : Str} {r : List MV} (hw : Txt0 w) (hr : ∀ x ∈ r, G1 st x) (h3 : r.length ≤ 2) (q : Q (.bl (valV w r)) st) : wB Γ (d + 1) restV [some (.tup (.str w :: r)), none] st (retQ Q) := by
  show wB Γ (d + 1) [_, _, _, _, _, _, _] _ _ _
  refine b_cons' (S_set (e_idx (e_var rfl (e_lit (rs_of (idx_head (.str w) r) ?_)))))
  refine b_cons' (S_iff (t_e (fun _ _ _ => rfl) (e_cmp (e_var rfl (e_lit (rs_of (eq_str hw.2 (by decide +kernel)) ⟨_, rfl, fun hk => ?_, fun hk => b_nil' ?_⟩))))))
  · refine b_cons' (S_ret (e_cmp (e_bi (a_cons (e_var rfl (a_nil (rs_of (len_tup _) (e_lit (rs_of (eq_int _ _) ?_)))))))))
    show Q (.bl _) st
    have hk' : (w == ("none" : Str)) = true := hk
    unfold valV at q
    rw [if_pos hk'] at q
    have e : (((MV.str w :: r).length : Int) == 1) = r.isEmpty := by cases r with
      | nil => rfl
      | cons a r => simp [beq_eq_false_iff_ne]; omega
    rw [e]
    exact q
  have hn : (w == ("none" : Str)) = false := hk
  refine b_cons' (S_iff (t_e (fun _ _ _ => rfl) (e_cmp (e_var rfl (e_lit (rs_of (eq_str hw.2 (by decide +kernel)) ⟨_, rfl, fun hk => ?_, fun hk => b_nil' ?_⟩))))))
  · have ht : (w == ("tok" : Str)) = true := hk
    unfold valV at q
    rw [if_neg (by rw [hn]; exact Bool.false_ne_true), if_pos ht] at q
    refine b_cons' (S_ret (e_and (e_cmp (e_bi (a_cons (e_var rfl (a_nil (rs_of (len_tup _) (e_lit (rs_of (eq_int _ _) ⟨_, rfl, fun hk => ?_, fun hk => ?_⟩))))))))))
    · obtain ⟨a, b, rfl⟩ : ∃ a b, r = [a, b] := by
        have hl : r.length = 2 := by
          have := eq_of_beq hk
          simp only [List.length_cons] at this
          omega
        match r, hl with
        | [a, b], _ => exact ⟨a, b, rfl⟩
      have ga := hr a (by simp)
      have gb := hr b (by simp)
      refine e_and (e_call (a_cons (e_idx (e_var rfl (e_lit (rs_of (rfl : idxV (.tup [.str w, a, b]) (.int 1) st = .ok a st) (a_nil ?_)))))))
      refine is_word_ok ga.ask ⟨_, rfl, fun hk => ?_, fun hk => ?_⟩
      · rcases ga.strOr with ⟨x, rfl, hx⟩ | ⟨_, z, _⟩
        · refine e_and (e_cmp (e_idx (e_var rfl (e_lit (rs_of (rfl : idxV (.tup [.str w, .str x, b]) (.int 1) st = .ok (.str x) st) (e_lit (rs_of (notin_tup (xs := RES) hx.2 ok_RES) ⟨_, rfl, fun hk2 => ?_, fun hk2 => ?_⟩)))))))
          · refine e_call (a_cons (e_idx (e_var rfl (e_lit (rs_of (rfl : idxV (.tup [.str w, .str x, b]) (.int 2) st = .ok b st) (a_nil ?_))))))
            refine is_count_ok gb ?_
            have e : (isWordV (.str x) && (noRes (.str x) && isCountV b)) = isCountV b := by
              have h2 : noRes (.str x) = true := hk2
              rw [hk, h2]; rfl
            have q2 : Q (.bl (isWordV (.str x) && (noRes (.str x) && isCountV b))) st := q
            rw [e] at q2
            exact q2
          · have e : (isWordV (.str x) && (noRes (.str x) && isCountV b)) = false := by
              have h2 : noRes (.str x) = false := hk2
              rw [hk, h2]; rfl
            have q2 : Q (.bl (isWordV (.str x) && (noRes (.str x) && isCountV b))) st := q
            rw [e] at q2
            exact q2
        · rw [z] at hk; cases hk
      · have q2 : Q (.bl (isWordV a && (noRes a && isCountV b))) st := q
        rw [hk] at q2
        exact q2
    · have e : tokV r = false := by
        clear q hr h3
        match r, hk with
        | [], _ => rfl
        | [a], _ => rfl
        | [a, b], hk => simp at hk
        | a :: b :: c :: r, _ => rfl
      rw [e] at q
      exact q
  have hnt : (w == ("tok" : Str)) = false := hk
  unfold valV at q
  rw [if_neg (by rw [hn]; exact Bool.false_ne_true), if_neg (by rw [hnt]; exact Bool.false_ne_true)] at q
  refine b_cons' (S_iff (t_e (fun _ _ _ => rfl) (e_cmp (e_bi (a_cons (e_var rfl (a_nil (rs_of (len_tup _) (e_lit (rs_of (ne_int _ _) ⟨_, rfl, fun hk => ?_, fun hk => b_nil' ?_⟩)))))))))) 
  · refine b_cons' (S_ret (e_lit ?_))
    show Q (.bl false) st
    match r, hk with
    | [], _ => exact q
    | [a], hk => exact absurd hk (by simp)
    | a :: b :: r, _ => exact q
  obtain ⟨a, rfl⟩ : ∃ a, r = [a] := by
    match r, hk with
    | [], hk => exact absurd hk (by simp)
    | [a], _ => exact ⟨a, rfl⟩
    | [a, b], hk => exact absurd hk (by simp)
    | a :: b :: c :: r, _ => simp at h3
  have ga := hr a (by simp)
  have i1 : idxV (.tup [.str w, a]) (.int 1) st = .ok a st := rfl
  refine b_cons' (S_iff (t_e (fun _ _ _ => rfl) (e_cmp (e_var rfl (e_lit (rs_of (eq_str hw.2 (by decide +kernel)) ⟨_, rfl, fun hk => ?_, fun hk => b_nil' ?_⟩))))))
  · have hb : (w == ("bit" : Str)) = true := hk
    have q2 : Q (.bl (if (w == ("bit" : Str)) = true then isBit a else if (w == ("obj" : Str)) = true then isCountV a else ((["err", "fun"] : List Str).any fun y => y == w) && isWordV a)) st := q
    rw [if_pos hb] at q2
    refine b_cons' (S_ret (e_and (e_bi (a_cons (e_idx (e_var rfl (e_lit (rs_of i1 (a_nil ?_)))))))))
    rcases ga.strOr with ⟨x, rfl, hx⟩ | ⟨h1, _, h2, _⟩
    · refine rs_of (isi_of rfl) ⟨true, rfl, fun _ => ?_, fun z => by cases z⟩
      refine e_cmp (e_idx (e_var rfl (e_lit (rs_of i1 (e_tup ?_)))))
      refine a_cons (e_lit (a_cons (e_lit (a_nil (Rs.ite (by decide) (Rs.ok ?_))))))
      refine rs_of (in_tup (xs := ["yes", "no"]) hx.2 two_ok) ?_
      exact q2
    · refine rs_of (isi_of h1) ⟨false, rfl, (fun z => by cases z), fun _ => ?_⟩
      rw [h2] at q2
      exact q2
  have hnb : (w == ("bit" : Str)) = false := hk
  have q2 : Q (.bl (if (w == ("bit" : Str)) = true then isBit a else if (w == ("obj" : Str)) = true then isCountV a else ((["err", "fun"] : List Str).any fun y => y == w) && isWordV a)) st := q
  rw [if_neg (by rw [hnb]; exact Bool.false_ne_true)] at q2
  refine b_cons' (S_iff (t_e (fun _ _ _ => rfl) (e_cmp (e_var rfl (e_lit (rs_of (eq_str hw.2 (by decide +kernel)) ⟨_, rfl, fun hk => ?_, fun hk => b_nil' ?_⟩))))))
  · have ho : (w == ("obj" : Str)) = true := hk
    rw [if_pos ho] at q2
    exact b_cons' (S_ret (e_call (a_cons (e_idx (e_var rfl (e_lit (rs_of i1 (a_nil (is_count_ok ga q2)))))))))
  have hno : (w == ("obj" : Str)) = false := hk
  rw [if_neg (by rw [hno]; exact Bool.false_ne_true)] at q2
  refine b_cons' (S_ret (e_and (e_cmp (e_var rfl (e_tup ?_)))))
  refine a_cons (e_lit (a_cons (e_lit (a_nil (Rs.ite (by decide) (Rs.ok ?_))))))
  refine rs_of (in_tup (xs := ["err", "fun"]) hw.2 two_ok2) ⟨_, rfl, fun hk => ?_, fun hk => ?_⟩
  · refine e_call (a_cons (e_idx (e_var rfl (e_lit (rs_of i1 (a_nil (is_word_ok ga.ask ?_)))))))
    rw [hk, Bool.true_and] at q2
    exact q2
  · rw [hk, Bool.false_and] at q2
    exact q2
theorem is_value_ok {v : MV} (h : G2 st v) (q : Q (.bl (isValueV v)) st) : wC Γ (d + 1) 2 [v] st Q := by
  refine c_body rfl rfl ?_
  show wB Γ (d + 1) (m_is_value.headD .pass :: restV) [some v, none] st _
  show wB Γ (d + 1) (.iff _ _ _ :: restV) [some v, none] st _
  obtain ⟨h1, h2⟩ := h
  have out : isValueV v = false → wB Γ (d + 1) [.ret (.lit (.bl false))] [some v, none] st (thenQ Γ (d + 1) restV (retQ Q)) := fun e => by
    refine b_cons' (S_ret (e_lit ?_))
    show Q (.bl false) st
    rw [← e]; exact q
  rcases h1.tupOr with ⟨xs, rfl⟩ | ⟨h3, h4⟩
  · have gx := h2 xs rfl
    refine b_cons' (S_iff (t_or' (t_not' (t_e (fun _ _ _ => rfl) (e_bi (a_cons (e_var rfl (a_nil (rs_of (isi_of rfl) ⟨true, rfl, fun _ => ?_, fun z => by cases z⟩)))))))))
    refine t_or' (t_e (fun _ _ _ => rfl) (e_cmp (e_bi (a_cons (e_var rfl (a_nil (rs_of (len_tup _) (e_lit (rs_of (eq_int _ _) ⟨_, rfl, ?_⟩)))))))))
    cases xs with
    | nil => exact ⟨(fun z => by cases z), fun _ => ⟨fun _ => out rfl, fun z => by cases z⟩⟩
    | cons x r =>
      refine ⟨fun _ => ?_, fun hk => by simp at hk; omega⟩
      refine t_or' (t_e (fun _ _ _ => rfl) (e_cmp (e_bi (a_cons (e_var rfl (a_nil (rs_of (len_tup _) (e_lit (Rs.ok ⟨_, rfl, fun hk => ?_, fun hk => ⟨fun _ => out ?_, fun z => by cases z⟩⟩)))))))))
      · refine t_not' (t_e (fun _ _ _ => rfl) (e_bi (a_cons (e_idx (e_var rfl (e_lit (rs_of (idx_head x r) (a_nil ?_))))))))
        have h3 : r.length ≤ 2 := by
          have := of_decide_eq_false hk
          simp only [List.length_cons] at this
          omega
        rcases (gx x (by simp)).strOr with ⟨w, rfl, hw⟩ | ⟨g1, _⟩
        · exact rs_of (isi_of rfl) ⟨true, rfl, (fun z => by cases z), fun _ => b_nil' (restV_ok hw (fun y hy => gx y (List.mem_cons_of_mem _ hy)) h3 q)⟩
        · refine rs_of (isi_of g1) ⟨false, rfl, (fun _ => out ?_), fun z => by cases z⟩
          cases x with
          | str w => cases g1
          | _ => rfl
      · have h3 : 3 ≤ r.length := by
          have := of_decide_eq_true hk
          simp only [List.length_cons] at this
          omega
        match r, h3 with
        | a :: b :: c :: r, _ =>
          cases x with
          | str w =>
            show valV w (a :: b :: c :: r) = false
            unfold valV
            by_cases hn : (w == ("none" : Str)) = true
            · rw [if_pos hn]; rfl
            · rw [if_neg hn]
              by_cases ht : (w == ("tok" : Str)) = true
              · rw [if_pos ht]; rfl
              · rw [if_neg ht]
          | _ => rfl
  · exact b_cons' (S_iff (t_or' (t_not' (t_e (fun _ _ _ => rfl) (e_bi (a_cons (e_var rfl (a_nil (rs_of (isi_of h3) ⟨false, rfl, (fun z => by cases z), fun _ => ⟨fun _ => out h4, fun z => by cases z⟩⟩)))))))))
end K13

set_option Elab.async false
set_option linter.all false
set_option maxRecDepth 100000
set_option maxHeartbeats 4000000
namespace K13
open PySem hiding Env
open L2 hiding wE
open MP
variable {d : Nat} {st st' : Store} {Q : MV → Store → Prop}
/-- more objects, nothing changed -/
structure Ext (st st' : Store) : Prop where
  wf : st'.wf
  le : st.next ≤ st'.next
  kp : ∀ n, n < st.next → st'.get n = st.get n
theorem Ext.refl (wf : st.wf) : Ext st st := ⟨wf, Nat.le_refl _, fun _ _ => rfl⟩
theorem Ext.trans {a b c : Store} (h : Ext a b) (k : Ext b c) : Ext a c := ⟨k.wf, Nat.le_trans h.le k.le, fun n hn => (k.kp n (Nat.lt_of_lt_of_le hn h.le)).trans (h.kp n hn)⟩
theorem Ext.add (wf : st.wf) (o : MO) : Ext st (st.add o) := ⟨Store.wf_add wf _, Nat.le_succ _, fun n hn => by rw [Store.get_add wf, if_neg (Nat.ne_of_lt hn)]⟩
theorem G1.ext {v : MV} (h : G1 st v) (e : Ext st st') : G1 st' v := by
  cases h with
  | non => exact .non
  | bl b => exact .bl b
  | int i => exact .int i
  | str h => exact .str h
  | tup xs => exact .tup xs
  | lst hn h => exact .lst (Nat.lt_of_lt_of_le hn e.le) ((e.kp _ hn).trans h)
  | dK hn h => exact .dK (Nat.lt_of_lt_of_le hn e.le) ((e.kp _ hn).trans h)
theorem G2.ext {v : MV} (h : G2 st v) (e : Ext st st') : G2 st' v := ⟨h.1.ext e, fun xs ex x hx => (h.2 xs ex x hx).ext e⟩
def eqS (v : MV) (z : Str) : Bool := match v with
  | .str x => z == x
  | _ => false
theorem itemS_g {v : MV} {z : Str} (h : G1 st v) : itemS st v z = some (eqS v z) := by
  cases h with
  | lst _ h =>
    show (match st.get _ with
      | some (.lst _) => some false
      | some (.dK _) => some false
      | _ => none) = _
    rw [h]; rfl
  | dK _ h =>
    show (match st.get _ with
      | some (.lst _) => some false
      | some (.dK _) => some false
      | _ => none) = _
    rw [h]; rfl
  | _ => rfl
def oneS (r : List MV) (z : Str) : Bool := match r with
  | [a] => eqS a z
  | _ => false
def inK (w : Str) (r : List MV) : Bool := ((("none" : Str) == w) && r.isEmpty) || (((("bit" : Str) == w) && oneS r "yes") || ((("bit" : Str) == w) && oneS r "no"))
theorem its_one {w z : Str} {r : List MV} (hr : ∀ x ∈ r, G1 st x) : itemsS st (.str w :: r) [z] = some ((z == w) && r.isEmpty) := by
  cases r <;> rfl
theorem its_two {w z y : Str} {r : List MV} (hr : ∀ x ∈ r, G1 st x) : itemsS st (.str w :: r) [z, y] = some ((z == w) && oneS r y) := by
  match r, hr with
  | [], _ => rfl
  | [a], hr =>
    show (match itemS st (.str w) z, (match itemS st a y, itemsS st [] [] with
      | some a, some b => some (a && b)
      | _, _ => none) with
      | some a, some b => some (a && b)
      | _, _ => none) = _
    rw [itemS_g (hr a (by simp))]
    show some ((z == w) && (eqS a y && true)) = _
    rw [Bool.and_true]
    rfl
  | a :: b :: r, hr =>
    show (match itemS st (.str w) z, (match itemS st a y, itemsS st (b :: r) [] with
      | some a, some b => some (a && b)
      | _, _ => none) with
      | some a, some b => some (a && b)
      | _, _ => none) = _
    rw [itemS_g (hr a (by simp))]
    show some ((z == w) && (eqS a y && false)) = _
    rw [Bool.and_false]
    rfl
theorem anyS_eq {w : Str} {r : List MV} (hr : ∀ x ∈ r, G1 st x) : anyS st (.str w :: r) [["none"], ["bit", "yes"], ["bit", "no"]] = some (inK w r) := by
  unfold anyS anyS anyS anyS
  rw [its_one hr, its_two hr, its_two hr]
  show some (_ || (_ || (_ || false))) = _
  rw [Bool.or_false]
  rfl
theorem in_tups {xs : List MV} {n : Nat} {k : Bool} (h : inTS (.tup xs) (.ref n) st = some k) : cmpV .isin (.tup xs) (.ref n) st = .ok (.bl k) st := by
  show okB (orO (inTS (.tup xs) (.ref n) st) (inV (.tup xs) (.ref n) st)) id st = _
  rw [h]
  rfl
def threes : List MV := [.tup [.str "none"], .tup [.str "bit", .str "yes"], .tup [.str "bit", .str "no"]]
theorem in_three {w : Str} {r : List MV} {n : Nat} (hr : ∀ x ∈ r, G1 st x) (hn : st.get n = some (.lst threes)) : cmpV .isin (.tup (.str w :: r)) (.ref n) st = .ok (.bl (inK w r)) st := by
  refine in_tups ?_
  have e : frV st (.ref n) = some threes := by
    show (match st.get n with
      | some (.lst xs) => some xs
      | _ => none) = _
    rw [hn]
  show (match frV st (.ref n) with
    | some items => match tupsV items with
      | some zss => anyS st (.str w :: r) zss
      | none => none
    | none => none) = _
  rw [e]
  exact anyS_eq hr
/-- the last item -/
theorem last_of (x : MV) (r : List MV) : ∃ l, l ∈ (x :: r) ∧ (x :: r).getLast? = some l ∧ idxV (.tup (x :: r)) (.int (-1)) st = .ok l st := by
  have hl : r.length < (x :: r).length := Nat.lt_succ_self _
  refine ⟨(x :: r)[r.length], List.getElem_mem hl, ?_, ?_⟩
  · rw [List.getLast?_eq_getElem?]
    exact List.getElem?_eq_getElem hl
  · have e : atI (x :: r) (-1) = some (x :: r)[r.length] := by
      unfold atI ixN
      rw [if_neg (by decide), if_pos (by simp only [List.length_cons]; omega)]
      have e2 : ((-1 : Int) + ((x :: r).length : Int)).toNat = r.length := by simp only [List.length_cons]; omega
      rw [e2]
      exact List.getElem?_eq_getElem hl
    show (match atI (x :: r) (-1) with
      | some v => Res.ok v st
      | none => .stuck) = _
    rw [e]
theorem cnt_expr {env : Env} {E : ME} {l : MV} (hE : ∀ Q' : MV → Store → Prop, Q' l st → wE Γ d E env st Q') (h : G1 st l) (q : Q (.bl (isCountV l)) st) :
    wE Γ d (.and (.bi (.isi [.int]) [E]) (.and (.not (.bi (.isi [.bool]) [E])) (.cmp .ge E (.lit (.int 0))))) env st Q := by
  have no : isT st l .int = some false → isCountV l = false → wE Γ d (.and (.bi (.isi [.int]) [E]) (.and (.not (.bi (.isi [.bool]) [E])) (.cmp .ge E (.lit (.int 0))))) env st Q := fun h1 h2 => by
    refine e_and (e_bi (a_cons (hE _ (a_nil (rs_of (isi_of h1) ⟨false, rfl, (fun z => by cases z), fun _ => ?_⟩)))))
    rw [← h2]; exact q
  cases h with
  | non => exact no rfl rfl
  | str h => exact no rfl rfl
  | tup xs => exact no rfl rfl
  | lst _ h => exact no (isT_lst h) rfl
  | dK _ h => exact no (isT_dK h) rfl
  | bl b =>
    refine e_and (e_bi (a_cons (hE _ (a_nil (rs_of (isi_of rfl) ⟨true, rfl, fun _ => ?_, fun z => by cases z⟩)))))
    exact e_and (e_not (t_e (fun _ _ _ => rfl) (e_bi (a_cons (hE _ (a_nil (rs_of (isi_of rfl) ⟨true, rfl, false, rfl, (fun z => by cases z), fun _ => q⟩)))))))
  | int i =>
    refine e_and (e_bi (a_cons (hE _ (a_nil (rs_of (isi_of rfl) ⟨true, rfl, fun _ => ?_, fun z => by cases z⟩)))))
    exact e_and (e_not (t_e (fun _ _ _ => rfl) (e_bi (a_cons (hE _ (a_nil (rs_of (isi_of rfl) ⟨false, rfl, true, rfl, (fun _ => e_cmp (hE _ (e_lit (Rs.ok q)))), fun z => by cases z⟩)))))))
/-! ### what the spec says -/
theorem val_in {w : Str} {r : List MV} (h : inK w r = true) : valV w r = true := by
  unfold inK at h
  simp only [Bool.or_eq_true, Bool.and_eq_true] at h
  have bit : ∀ z : Str, (z = "yes" ∨ z = "no") → ("bit" : Str) = w → oneS r z = true → valV w r = true := fun z hz hw ho => by
    subst hw
    match r, ho with
    | [a], ho =>
      cases a with
      | str x =>
        have hx : z = x := eq_of_beq ho
        subst hx
        rcases hz with rfl | rfl <;> decide +kernel
      | _ => cases ho
  rcases h with ⟨h1, h2⟩ | ⟨h1, h2⟩ | ⟨h1, h2⟩
  · have hw : ("none" : Str) = w := eq_of_beq h1
    subst hw
    unfold valV
    rw [if_pos (by decide +kernel)]
    exact h2
  · exact bit _ (.inl rfl) (eq_of_beq h1) h2
  · exact bit _ (.inr rfl) (eq_of_beq h1) h2
theorem val_tok {w : Str} {a b : MV} (h : (w == ("tok" : Str)) = true) : valV w [a, b] = (isWordV a && (noRes a && isCountV b)) := by
  have := eq_of_beq h
  subst this
  unfold valV
  rw [if_neg (by decide +kernel), if_pos (by decide +kernel)]
  rfl
theorem val_ef {w : Str} {a : MV} (h : ((["err", "fun"] : List Str).any fun y => y == w) = true) : valV w [a] = isWordV a := by
  have : w = "err" ∨ w = "fun" := by
    simp only [List.any_cons, List.any_nil, Bool.or_false, Bool.or_eq_true] at h
    exact h.elim (fun h => .inl (eq_of_beq h).symm) fun h => .inr (eq_of_beq h).symm
  unfold valV
  rcases this with rfl | rfl
  · rw [if_neg (by decide +kernel), if_neg (by decide +kernel)]
    show (if _ then _ else if _ then _ else _) = _
    rw [if_neg (by decide +kernel), if_neg (by decide +kernel), h, Bool.true_and]
  · rw [if_neg (by decide +kernel), if_neg (by decide +kernel)]
    show (if _ then _ else if _ then _ else _) = _
    rw [if_neg (by decide +kernel), if_neg (by decide +kernel), h, Bool.true_and]
theorem val_obj {w : Str} {a : MV} (h : (w == ("obj" : Str)) = true) : valV w [a] = isCountV a := by
  have := eq_of_beq h
  subst this
  unfold valV
  rw [if_neg (by decide +kernel), if_neg (by decide +kernel)]
  show (if _ then _ else if _ then _ else _) = _
  rw [if_neg (by decide +kernel), if_pos (by decide +kernel)]
theorem val_no {w : Str} {r : List MV} (h1 : inK w r = false) (h2 : (w == ("tok" : Str)) = true → r.length ≠ 2) (h3 : ((["err", "fun"] : List Str).any fun y => y == w) = true → r.length ≠ 1) (h4 : (w == ("obj" : Str)) = true → r.length ≠ 1) : valV w r = false := by
  unfold valV
  by_cases hn : (w == ("none" : Str)) = true
  · rw [if_pos hn]
    have := eq_of_beq hn
    subst this
    unfold inK at h1
    have e : (("none" : Str) == "none") = true := by decide +kernel
    rw [e, Bool.true_and] at h1
    cases hr : r.isEmpty with
    | false => rfl
    | true => rw [hr, Bool.true_or] at h1; cases h1
  · rw [if_neg hn]
    by_cases ht : (w == ("tok" : Str)) = true
    · rw [if_pos ht]
      have := h2 ht
      match r, this with
      | [], _ => rfl
      | [a], _ => rfl
      | [a, b], h => exact absurd rfl h
      | a :: b :: c :: r, _ => rfl
    · rw [if_neg ht]
      match r with
      | [] => rfl
      | a :: b :: r => rfl
      | [a] =>
        show (if _ then _ else if _ then _ else _) = _
        by_cases hb : (w == ("bit" : Str)) = true
        · rw [if_pos hb]
          have := eq_of_beq hb
          subst this
          unfold inK at h1
          have e : (("bit" : Str) == "bit") = true := by decide +kernel
          have e2 : (("none" : Str) == "bit") = false := by decide +kernel
          rw [e, e2, Bool.true_and, Bool.false_and, Bool.false_or, Bool.true_and] at h1
          cases a with
          | str x =>
            show ((("yes" : Str) == x) || ((("no" : Str) == x) || false)) = false
            rw [Bool.or_false]
            exact h1
          | _ => rfl
        · rw [if_neg hb]
          by_cases ho : (w == ("obj" : Str)) = true
          · exact absurd rfl (h4 ho)
          · rw [if_neg ho]
            cases he : ((["err", "fun"] : List Str).any fun y => y == w) with
            | true => exact absurd rfl (h3 he)
            | false => rfl
/-! ### the law's own value -/
theorem newL_add {xs : List MV} (h : xs.length ≤ 1000) : newL xs st = .ok (.ref st.next) (st.add (.lst xs)) := if_pos (Nat.le_trans h (by decide))
theorem newT_tup {xs : List MV} (h : xs.length ≤ 1000) : newT xs st = .ok (.tup xs) st := if_pos (Nat.le_trans h (by decide))
theorem tup_lit1 {env : MP.Env} {a : Str} (q : Q (.tup [.str a]) st) : MP.wE Γ d (.tupD [.lit (.str a)]) env st Q := e_tup (a_cons (e_lit (a_nil (rs_of (newT_tup (by simp)) q))))
theorem tup_lit2 {env : MP.Env} {a b : Str} (q : Q (.tup [.str a, .str b]) st) : MP.wE Γ d (.tupD [.lit (.str a), .lit (.str b)]) env st Q := e_tup (a_cons (e_lit (a_cons (e_lit (a_nil (rs_of (newT_tup (by simp)) q))))))
def l_lits (xs : List Str) : List ME := xs.map fun x => .lit (.str x)
theorem a_lits {env : MP.Env} {Q : List MV → Store → Prop} : ∀ {xs : List Str}, Q (xs.map MV.str) st → MP.wA Γ d (l_lits xs) env st Q
  | [], q => a_nil q
  | x :: xs, q => a_cons (e_lit (a_lits (Q := fun vs st2 => Q (.str x :: vs) st2) q))
theorem lst_lits {env : MP.Env} {xs : List Str} (hl : xs.length ≤ 1000) (q : Q (.ref st.next) (st.add (.lst (xs.map MV.str)))) : MP.wE Γ d (.mk (.lstD (l_lits xs))) env st Q :=
  e_mk (l_lst (a_lits ⟨by rw [List.length_map]; exact Nat.le_trans hl (by decide), rs_of (newL_add (by rw [List.length_map]; exact hl)) q⟩))
theorem law_value_ok {v : MV} (wf : st.wf) (h : G2 st v) (q : ∀ st', Ext st st' → Q (.bl (isValueV v)) st') : wC Γ (d + 1) 8 [v] st Q := by
  refine c_body rfl rfl ?_
  show MP.wB Γ (d + 1) [_, _, _, _, _, _] [some v, none] st _
  obtain ⟨h1, h2⟩ := h
  have out : ∀ {r : List MS}, isValueV v = false → MP.wB Γ (d + 1) [.ret (.lit (.bl false))] [some v, none] st (thenQ Γ (d + 1) r (retQ Q)) := fun e => by
    refine b_cons' (S_ret (e_lit ?_))
    show Q (.bl false) st
    rw [← e]; exact q st (Ext.refl wf)
  rcases h1.tupOr with ⟨xs, rfl⟩ | ⟨h3, h4⟩
  · have gx := h2 xs rfl
    refine b_cons' (S_iff (t_or' (t_not' (t_e (fun _ _ _ => rfl) (e_bi (a_cons (e_var rfl (a_nil (rs_of (isi_of rfl) ⟨true, rfl, fun _ => ?_, fun z => by cases z⟩)))))))))
    refine t_or' (t_e (fun _ _ _ => rfl) (e_cmp (e_var rfl (e_tup (a_nil (rs_of (newT_tup (Nat.zero_le _)) (rs_of (rfl : cmpV .eq (.tup xs) (.tup []) st = .ok (.bl xs.isEmpty) st) ⟨_, rfl, ?_⟩)))))))
    cases xs with
    | nil => exact ⟨(fun z => by cases z), fun _ => ⟨fun _ => out rfl, fun z => by cases z⟩⟩
    | cons x r =>
      refine ⟨fun _ => ?_, fun hk => by cases hk⟩
      refine t_not' (t_e (fun _ _ _ => rfl) (e_bi (a_cons (e_idx (e_var rfl (e_lit (rs_of (idx_head x r) (a_nil ?_))))))))
      rcases (gx x (by simp)).strOr with ⟨w, rfl, hw⟩ | ⟨g1, _⟩
      · refine rs_of (isi_of rfl) ⟨true, rfl, (fun z => by cases z), fun _ => b_nil' ?_⟩
        have hr : ∀ y ∈ r, G1 st y := fun y hy => gx y (List.mem_cons_of_mem _ hy)
        exact main wf hw hr q
      · refine rs_of (isi_of g1) ⟨false, rfl, (fun _ => out ?_), fun z => by cases z⟩
        cases x with
        | str w => cases g1
        | _ => rfl
  · exact b_cons' (S_iff (t_or' (t_not' (t_e (fun _ _ _ => rfl) (e_bi (a_cons (e_var rfl (a_nil (rs_of (isi_of h3) ⟨false, rfl, (fun z => by cases z), fun _ => ⟨fun _ => out h4, fun z => by cases z⟩⟩)))))))))
where
  main {d : Nat} {st : Store} {Q : MV → Store → Prop} {w : Str} {r : List MV} (wf : st.wf) (hw : Txt0 w) (hr : ∀ x ∈ r, G1 st x) (q : ∀ st', Ext st st' → Q (.bl (valV w r)) st') : MP.wB Γ (d + 1) (m__law_is_value.drop 1) [some (.tup (.str w :: r)), none] st (retQ Q) := by
    show MP.wB Γ (d + 1) [_, _, _, _, _] _ _ _
    refine b_cons' (S_iff (t_e (fun _ _ _ => rfl) (e_cmp (e_var rfl ?_))))
    refine e_mk (l_lst (a_cons (tup_lit1 (a_cons (tup_lit2 (a_cons (tup_lit2 (a_nil ⟨by decide, rs_of (newL_add (by decide)) ?_⟩))))))))
    have x1 : Ext st (st.add (.lst threes)) := Ext.add wf _
    have g1 : (st.add (.lst threes)).get st.next = some (.lst threes) := by rw [Store.get_add wf, if_pos rfl]
    refine rs_of (in_three (fun y hy => (hr y hy).ext x1) g1) ⟨_, rfl, fun hk => ?_, fun hk => b_nil' ?_⟩
    · refine b_cons' (S_ret (e_lit ?_))
      show Q (.bl true) _
      have := q _ x1
      rw [val_in hk] at this
      exact this
    have hin : inK w r = false := hk
    clear hk
    obtain ⟨l, hl1, hl2, hl3⟩ := last_of (st := st.add (.lst threes)) (.str w) r
    have gl : G1 (st.add (.lst threes)) l := by
      rcases List.mem_cons.mp hl1 with rfl | h
      · exact .str hw
      · exact (hr l h).ext x1
    refine b_cons' (S_set (cnt_expr (l := l) (fun Q' q' => e_idx (e_var rfl (e_neg (e_lit ⟨1, rfl, rs_of hl3 q'⟩)))) gl ?_))
    have i0 : ∀ st, idxV (.tup (.str w :: r)) (.int 0) st = .ok (.str w) st := fun st => idx_head _ _
    have w1 := x1.wf
    have i0 : ∀ st, idxV (.tup (.str w :: r)) (.int 0) st = .ok (.str w) st := fun st => idx_head _ _
    show MP.wB Γ (d + 1) (m__law_is_value.drop 3) [some (.tup (.str w :: r)), some (.bl (isCountV l))] (st.add (.lst threes)) (retQ Q)
    generalize hs1 : st.add (.lst threes) = st1 at x1 g1 gl hl3 w1 ⊢
    -- the last: an obj
    have contB : ∀ st2, Ext st st2 → ((w == ("tok" : Str)) = true → r.length ≠ 2) → (((["err", "fun"] : List Str).any fun y => y == w) = true → r.length ≠ 1) →
        MP.wB Γ (d + 1) (m__law_is_value.drop 5) [some (.tup (.str w :: r)), some (.bl (isCountV l))] st2 (retQ Q) := fun st2 x2 n1 n2 => by
      have no : ((w == ("obj" : Str)) = true → r.length ≠ 1) → Q (.bl false) st2 := fun n3 => by
        have := q _ x2
        rw [val_no hin n1 n2 n3] at this
        exact this
      refine b_cons' (S_ret (e_and (e_cmp (e_idx (e_var rfl (e_lit (rs_of (i0 _) (e_lit (rs_of (eq_str hw.2 (by decide +kernel)) ⟨_, rfl, fun hk => ?_, fun hk => ?_⟩)))))))))
      · refine e_and (e_cmp (e_bi (a_cons (e_var rfl (a_nil (rs_of (len_tup _) (e_lit (rs_of (eq_int _ _) ⟨_, rfl, fun hk2 => ?_, fun hk2 => ?_⟩))))))))
        · obtain ⟨a, rfl⟩ : ∃ a, r = [a] := by
            have hl : r.length = 1 := by
              have := eq_of_beq hk2
              simp only [List.length_cons] at this
              omega
            match r, hl with
            | [a], _ => exact ⟨a, rfl⟩
          have e : a = l := by simpa using hl2
          subst e
          refine e_var rfl ?_
          have := q _ x2
          rw [val_obj hk] at this
          exact this
        · refine no fun _ hl => ?_
          have hk3 : (((MV.str w :: r).length : Int) == 2) = false := hk2
          rw [List.length_cons, hl] at hk3
          cases hk3
      · refine no fun h => ?_
        have hk3 : (w == ("obj" : Str)) = false := hk
        rw [hk3] at h
        cases h
    -- err, fun
    have contA : ((w == ("tok" : Str)) = true → r.length ≠ 2) → MP.wB Γ (d + 1) (m__law_is_value.drop 4) [some (.tup (.str w :: r)), some (.bl (isCountV l))] st1 (retQ Q) := fun n1 => by
      have x2 : Ext st1 (st1.add (.lst ((["err", "fun"] : List Str).map MV.str))) := Ext.add w1 _
      have g2 : (st1.add (.lst ((["err", "fun"] : List Str).map MV.str))).get st1.next = some (.lst ((["err", "fun"] : List Str).map MV.str)) := by rw [Store.get_add w1, if_pos rfl]
      refine b_cons' (S_iff (t_and' (t_e (fun _ _ _ => rfl) (e_cmp (e_idx (e_var rfl (e_lit (rs_of (i0 _) ?_))))))))
      refine lst_lits (xs := ["err", "fun"]) (by decide) ?_
      refine rs_of (in_lst g2 hw.2 two_ok2) ⟨_, rfl, fun hk => ?_, fun hk => ⟨(fun z => by cases z), fun _ => b_nil' (contB _ (x1.trans x2) n1 fun h => ?_)⟩⟩
      · refine t_e (fun _ _ _ => rfl) (e_cmp (e_bi (a_cons (e_var rfl (a_nil (rs_of (len_tup _) (e_lit (rs_of (eq_int _ _) ⟨_, rfl, fun hk2 => ?_, fun hk2 => b_nil' (contB _ (x1.trans x2) n1 fun _ hl => ?_)⟩))))))))
        · obtain ⟨a, rfl⟩ : ∃ a, r = [a] := by
            have hl : r.length = 1 := by
              have := eq_of_beq hk2
              simp only [List.length_cons] at this
              omega
            match r, hl with
            | [a], _ => exact ⟨a, rfl⟩
          have i1 : ∀ st, idxV (.tup [.str w, a]) (.int 1) st = .ok a st := fun _ => rfl
          refine b_cons' (S_ret (e_call (a_cons (e_idx (e_var rfl (e_lit (rs_of (i1 _) (a_nil (law_word_ok ((hr a (by simp)).ext (x1.trans x2)).ask ?_)))))))))
          have := q _ (x1.trans x2)
          rw [val_ef hk] at this
          exact this
        · have hk3 : (((MV.str w :: r).length : Int) == 2) = false := hk2
          rw [List.length_cons, hl] at hk3
          cases hk3
      · have hk3 : ((["err", "fun"] : List Str).any fun y => y == w) = false := hk
        rw [hk3] at h
        cases h
    -- tok
    refine b_cons' (S_iff (t_and' (t_e (fun _ _ _ => rfl) (e_cmp (e_idx (e_var rfl (e_lit (rs_of (i0 _) (e_lit (rs_of (eq_str hw.2 (by decide +kernel)) ⟨_, rfl, fun hk => ?_, fun hk => ⟨(fun z => by cases z), fun _ => b_nil' (contA fun h => ?_)⟩⟩))))))))))
    · refine t_e (fun _ _ _ => rfl) (e_cmp (e_bi (a_cons (e_var rfl (a_nil (rs_of (len_tup _) (e_lit (rs_of (eq_int _ _) ⟨_, rfl, fun hk2 => ?_, fun hk2 => b_nil' (contA fun _ hl => ?_)⟩))))))))
      · obtain ⟨a, b, rfl⟩ : ∃ a b, r = [a, b] := by
          have hl : r.length = 2 := by
            have := eq_of_beq hk2
            simp only [List.length_cons] at this
            omega
          match r, hl with
          | [a, b], _ => exact ⟨a, b, rfl⟩
        have e : b = l := by simpa using hl2
        subst e
        have i1 : ∀ st, idxV (.tup [.str w, a, b]) (.int 1) st = .ok a st := fun _ => rfl
        have ga := (hr a (by simp)).ext x1
        refine b_cons' (S_ret (e_and (e_call (a_cons (e_idx (e_var rfl (e_lit (rs_of (i1 _) (a_nil ?_)))))))))
        refine law_word_ok ga.ask ⟨_, rfl, fun hk3 => ?_, fun hk3 => ?_⟩
        · rcases ga.strOr with ⟨x, rfl, hx⟩ | ⟨_, z, _⟩
          · have x2 : Ext st1 (st1.add (.lst (RES.map MV.str))) := Ext.add w1 _
            have g2 : (st1.add (.lst (RES.map MV.str))).get st1.next = some (.lst (RES.map MV.str)) := by rw [Store.get_add w1, if_pos rfl]
            refine e_and (e_cmp (e_idx (e_var rfl (e_lit (rs_of (i1 _) ?_)))))
            refine lst_lits (xs := RES) (by decide) ?_
            have := q _ (x1.trans x2)
            rw [val_tok hk, hk3, Bool.true_and] at this
            refine rs_of (notin_lst g2 hx.2 ok_RES) ⟨_, rfl, fun hk4 => ?_, fun hk4 => ?_⟩
            · have h2 : noRes (.str x) = true := hk4
              rw [h2, Bool.true_and] at this
              exact e_var rfl this
            · have h2 : noRes (.str x) = false := hk4
              rw [h2, Bool.false_and] at this
              exact this
          · rw [z] at hk3; cases hk3
        · have := q _ x1
          rw [val_tok hk, hk3, Bool.false_and] at this
          exact this
      · have hk3 : (((MV.str w :: r).length : Int) == 3) = false := hk2
        rw [List.length_cons, hl] at hk3
        cases hk3
    · have hk3 : (w == ("tok" : Str)) = false := hk
      rw [hk3] at h
      cases h
end K13

set_option Elab.async false
set_option linter.all false
set_option maxRecDepth 100000
set_option maxHeartbeats 4000000
namespace K13
open PySem hiding Env
open L2 hiding wE
open MP
variable {d : Nat} {st st' : Store} {Q : MV → Store → Prop} {s g : Nat}
/-- a law's word -/
def Wd (z : Str) : Prop := z.length ≤ 13 ∧ PyData.strOk z = true
def smallI : List Int := [0, 1, 7, 10 ^ 30, -1, 2, 3]
/-- a small value -/
inductive Sm (s g : Nat) (st : Store) : Nat → MV → Prop
  | non (k : Nat) : Sm s g st k .non
  | bl (k : Nat) (b : Bool) : Sm s g st k (.bl b)
  | int (k : Nat) {i : Int} : i ∈ smallI → Sm s g st k (.int i)
  | str (k : Nat) {z : Str} : Wd z → Sm s g st k (.str z)
  | tup {k : Nat} {xs : List MV} : xs.length ≤ 4 → (∀ x ∈ xs, Sm s g st k x) → Sm s g st (k + 1) (.tup xs)
  | lst {k n : Nat} {xs : List MV} : n < st.next → n ≠ s → n ≠ g → st.get n = some (.lst xs) → xs.length ≤ 4 → (∀ x ∈ xs, Sm s g st k x) → Sm s g st (k + 1) (.ref n)
  | dic (k : Nat) {n : Nat} : n < st.next → n ≠ s → n ≠ g → st.get n = some (.dK []) → Sm s g st (k + 1) (.ref n)
theorem Sm.fr {k : Nat} {v : MV} (f : Fr s g st st') (h : Sm s g st k v) : Sm s g st' k v := by
  induction h with
  | non k => exact .non k
  | bl k b => exact .bl k b
  | int k h => exact .int k h
  | str k h => exact .str k h
  | tup h1 _ ih => exact .tup h1 ih
  | lst h1 h2 h3 h4 h5 _ ih => exact .lst (Nat.lt_of_lt_of_le h1 f.le) h2 h3 ((f.kp _ h1 h2 h3).trans h4) h5 ih
  | dic k h1 h2 h3 h4 => exact .dic k (Nat.lt_of_lt_of_le h1 f.le) h2 h3 ((f.kp _ h1 h2 h3).trans h4)
theorem Sm.up {k : Nat} {v : MV} (h : Sm s g st k v) : Sm s g st (k + 1) v := by
  induction h with
  | non k => exact .non _
  | bl k b => exact .bl _ b
  | int k h => exact .int _ h
  | str k h => exact .str _ h
  | tup h1 _ ih => exact .tup h1 ih
  | lst h1 h2 h3 h4 h5 _ ih => exact .lst h1 h2 h3 h4 h5 ih
  | dic k h1 h2 h3 h4 => exact .dic _ h1 h2 h3 h4
theorem Wd.txt {z : Str} (h : Wd z) : Txt0 z := ⟨Nat.le_trans h.1 (by decide), h.2⟩
theorem Sm.g1 {k : Nat} {v : MV} (h : Sm s g st k v) : G1 st v := by
  cases h with
  | non => exact .non
  | bl _ b => exact .bl b
  | int _ h => exact .int _
  | str _ h => exact .str h.txt
  | tup h1 _ => exact .tup _
  | lst h1 h2 h3 h4 h5 _ => exact .lst h1 h4
  | dic _ h1 h2 h3 h4 => exact .dK h1 h4
theorem Sm.g2 {k : Nat} {v : MV} (h : Sm s g st k v) : G2 st v := ⟨h.g1, fun xs e x hx => by
  subst e
  cases h with
  | tup _ h2 => exact (h2 x hx).g1⟩
theorem ints_ok : ∀ i ∈ smallI, i.natAbs.log2 < 1920 ∧ (PyData.shown (.int i)).length ≤ 40 := by decide +kernel
theorem ints_wt : ∀ i ∈ smallI, (PyData.int i).weight ≤ 120 := by decide +kernel
/-- as data -/
structure Da (st : Store) (k : Nat) (v : MV) (dt : PyData) : Prop where
  rd : ∀ f, k < f → toR st f v = some dt
  sh : dt.showable = true
  lv : dt.leavesShort 40 = true
  wt : dt.weight ≤ 120 * 5 ^ k
  dp : dt.depth ≤ k
theorem pw1 (k : Nat) : 1 ≤ 5 ^ k := Nat.pow_pos (by decide)
theorem da_list {k : Nat} : ∀ {xs : List MV}, xs.length ≤ 4 → (∀ x ∈ xs, ∃ dt, Da st k x dt) → ∃ ds : List PyData, (∀ f, k < f → xs.mapM (toR st f) = some ds) ∧ PyData.showableAll ds = true ∧ PyData.leavesShortAll 40 ds = true ∧ PyData.weightAll ds ≤ xs.length * (120 * 5 ^ k + 1) ∧ PyData.depthAll ds ≤ k
  | [], _, _ => ⟨[], fun f _ => rfl, by simp [PyData.showableAll], by simp [PyData.leavesShortAll], by simp [PyData.weightAll], by simp [PyData.depthAll]⟩
  | x :: xs, hl, h => by
    obtain ⟨dt, D⟩ := h x (List.mem_cons_self ..)
    obtain ⟨ds, e1, e2, e3, e4, e5⟩ := da_list (xs := xs) (by rw [List.length_cons] at hl; omega) fun y hy => h y (List.mem_cons_of_mem _ hy)
    refine ⟨dt :: ds, fun f hf => ?_, ?_, ?_, ?_, ?_⟩
    · rw [List.mapM_cons, D.rd f hf, e1 f hf]
      rfl
    · simp [PyData.showableAll, D.sh, e2]
    · simp [PyData.leavesShortAll, D.lv, e3]
    · simp only [PyData.weightAll, List.length_cons]
      have := D.wt
      rw [Nat.add_mul, Nat.one_mul]
      omega
    · simp only [PyData.depthAll]
      exact Nat.max_le.mpr ⟨D.dp, e5⟩
theorem wt_ok {k n w : Nat} (hn : n ≤ 4) (h : w ≤ n * (120 * 5 ^ k + 1)) : w ≤ 120 * 5 ^ (k + 1) := by
  have h1 := pw1 k
  have h2 : n * (120 * 5 ^ k + 1) ≤ 4 * (120 * 5 ^ k + 1) := Nat.mul_le_mul_right _ hn
  rw [Nat.pow_succ]
  omega
theorem Sm.da {k : Nat} {v : MV} (h : Sm s g st k v) : ∃ dt, Da st k v dt := by
  induction h with
  | non k => exact ⟨.none, fun f hf => by cases f with | zero => omega | succ f => rfl, by simp [PyData.showable], by simp [PyData.leavesShort], by simp [PyData.weight], by simp [PyData.depth]⟩
  | bl k b => exact ⟨.bool b, fun f hf => by cases f with | zero => omega | succ f => rfl, by simp [PyData.showable], by simp [PyData.leavesShort], by simp [PyData.weight], by simp [PyData.depth]⟩
  | @int k i hi => exact ⟨.int i, fun f hf => by cases f with | zero => omega | succ f => rfl, by simp [PyData.showable, (ints_ok i hi).1], by simp only [PyData.leavesShort, decide_eq_true_eq]; exact (ints_ok i hi).2, Nat.le_trans (ints_wt i hi) (by have := pw1 k; omega), by simp [PyData.depth]⟩
  | @str k z hz =>
    refine ⟨.str z, fun f hf => by cases f with | zero => omega | succ f => rfl, by simp [PyData.showable], ?_, ?_, by simp [PyData.depth]⟩
    · have h2 := hz.2
      unfold PyData.strOk at h2
      rw [← Array.all_toList] at h2
      simp only [PyData.leavesShort]
      rw [List.all_eq_true] at h2 ⊢
      intro c hc
      have := of_decide_eq_true (h2 c hc)
      exact decide_eq_true (Nat.lt_trans this (by decide))
    · have h1 : z.cps.size ≤ 13 := hz.1
      have := pw1 k
      simp only [PyData.weight]
      omega
  | @tup k xs h1 _ ih =>
    obtain ⟨ds, e1, e2, e3, e4, e5⟩ := da_list h1 ih
    refine ⟨.tuple ds, fun f hf => ?_, by simpa [PyData.showable] using e2, by simpa [PyData.leavesShort] using e3, ?_, ?_⟩
    · cases f with
      | zero => omega
      | succ f =>
        show (xs.mapM (toR st f)).map PyData.tuple = _
        rw [e1 f (by omega)]
        rfl
    · simp only [PyData.weight]
      exact wt_ok h1 e4
    · simp only [PyData.depth]
      omega
  | @lst k n xs h1 h2 h3 h4 h5 _ ih =>
    obtain ⟨ds, e1, e2, e3, e4, e5⟩ := da_list h5 ih
    refine ⟨.list ds, fun f hf => ?_, by simpa [PyData.showable] using e2, by simpa [PyData.leavesShort] using e3, ?_, ?_⟩
    · cases f with
      | zero => omega
      | succ f =>
        show (match st.get n with
          | some (.lst xs) => (xs.mapM (toR st f)).map PyData.list
          | some (.dK []) => some (.dict [])
          | _ => none) = _
        rw [h4]
        show (xs.mapM (toR st f)).map PyData.list = _
        rw [e1 f (by omega)]
        rfl
    · simp only [PyData.weight]
      exact wt_ok h5 e4
    · simp only [PyData.depth]
      omega
  | @dic k n h1 h2 h3 h4 =>
    refine ⟨.dict [], fun f hf => ?_, by simp [PyData.showable, PyData.showableKv], by simp [PyData.leavesShort, PyData.leavesShortKv], by simp [PyData.weight, PyData.weightKv], ?_⟩
    · cases f with
      | zero => omega
      | succ f =>
        show (match st.get n with
          | some (.lst xs) => (xs.mapM (toR st f)).map PyData.list
          | some (.dK []) => some (.dict [])
          | _ => none) = _
        rw [h4]
    · simp [PyData.depth, PyData.depthKv]
/-- repr is made -/
theorem repr_da {k : Nat} {v : MV} {dt : PyData} (hk : k ≤ 4) (D : Da st k v dt) : biV .repr [v] st = .ok (.str dt.shown) st := by
  have e := D.rd 66 (by omega)
  show (match toR st 66 v with
    | some d => if d.showable = true ∧ d.shown.length ≤ sizeLine ∧ d.depth ≤ 64 then Res.ok (MV.str d.shown) st else .stuck
    | none => .stuck) = _
  rw [e]
  refine if_pos ⟨D.sh, ?_, Nat.le_trans D.dp (by omega)⟩
  have h1 := PyData.shown_le 40 (by decide) dt D.lv
  have h2 : dt.weight ≤ 120 * 5 ^ 4 := Nat.le_trans D.wt (Nat.mul_le_mul_left _ (Nat.pow_le_pow_right (by decide) hk))
  have h3 : (120 * 5 ^ 4 : Nat) = 75000 := by decide
  have h4 : (40 + 2) * dt.weight ≤ 42 * 75000 := Nat.mul_le_mul_left _ (by omega)
  rw [sizeLine_eq]
  omega
end K13

set_option Elab.async false
set_option linter.all false
set_option maxRecDepth 100000
set_option maxHeartbeats 4000000
namespace K13
open PySem hiding Env
open L2 hiding wE
open MP
variable {d : Nat} {st st' : Store} {Q : MV → Store → Prop} {s g : Nat}
theorem pick_c {many : Int} (h : Src st s g) (h0 : 0 < many) (h1 : many < 1000) (q : ∀ r st', 0 ≤ r → r < many → Src st' s g → Fr s g st st' → Q (.int r) st') : wC Γ d 5 [.ref s, .int many] st Q := by
  refine c_body rfl rfl ?_
  have e := pick_ok (Γ := Γ) (d := d) h h0 h1
  show wB Γ d pickBody [some (.ref s), some (.int many), none, none, none, none] st _
  refine e.mono fun r st' hq => ?_
  obtain ⟨fl, env⟩ := r
  cases fl with
  | nx => obtain ⟨r, e, _⟩ := (show ∃ r : Int, MV.non = .int r ∧ _ from hq); cases e
  | rt v =>
    obtain ⟨r, rfl, h0, h1, h2, h3⟩ := (show ∃ r : Int, v = .int r ∧ 0 ≤ r ∧ r < many ∧ Src st' s g ∧ Fr s g st st' from hq)
    exact q r st' h0 h1 h2 h3
  | bk => exact (show False from hq).elim
  | ct => exact (show False from hq).elim
theorem idx_lst {n : Nat} {xs : List MV} {r : Int} (hn : st.get n = some (.lst xs)) (h0 : 0 ≤ r) (h1 : r < xs.length) : ∃ v, v ∈ xs ∧ idxV (.ref n) (.int r) st = .ok v st := by
  obtain ⟨v, e, hv⟩ := atI_in h0 h1
  refine ⟨v, hv, ?_⟩
  show (match st.get n with
    | some (.lst xs) => (match MV.int r with
      | .int k => match atI xs k with
        | some v => Res.ok v st
        | none => .stuck
      | _ => .stuck)
    | some (.dK kvs) => (match keyV (.int r) with
      | some q => match kvLook kvs q with
        | some v => Res.ok v st
        | none => .stuck
      | none => .stuck)
    | _ => .stuck) = _
  rw [hn]
  show (match atI xs r with
    | some v => Res.ok v st
    | none => .stuck) = _
  rw [e]
theorem len_ref {n : Nat} {xs : List MV} (hn : st.get n = some (.lst xs)) : biV .len [.ref n] st = .ok (.int xs.length) st := by
  show (match st.get n with
    | some (.lst xs) => Res.ok (MV.int xs.length) st
    | some (.dK kvs) => Res.ok (MV.int kvs.length) st
    | _ => .stuck) = _
  rw [hn]
theorem of_c {n : Nat} {xs : List MV} (h : Src st s g) (hl : n < st.next) (hs : n ≠ s) (hg : n ≠ g) (hn : st.get n = some (.lst xs)) (h0 : xs ≠ []) (h1 : xs.length < 1000) (q : ∀ v st', v ∈ xs → Src st' s g → Fr s g st st' → Q v st') : wC Γ (d + 1) 6 [.ref s, .ref n] st Q := by
  refine c_body rfl rfl ?_
  show wB Γ (d + 1) m__law_of [some (.ref s), some (.ref n)] st _
  unfold m__law_of
  refine b_cons' (S_ret (e_idx (e_var rfl (e_call (a_cons (e_var rfl (a_cons (e_bi (a_cons (e_var rfl (a_nil (rs_of (len_ref hn) (a_nil ?_)))))))))))))
  have hp : 0 < xs.length := List.length_pos_iff.mpr h0
  refine pick_c h (by omega) (by omega) fun r st' h0 h1 h2 h3 => ?_
  obtain ⟨v, hv, e⟩ := idx_lst (st := st') ((h3.kp n hl hs hg).trans hn) h0 h1
  exact rs_of e (q v st' hv h2 h3)
/-! ### strings put together -/
theorem strOk_append {x y : Str} (hx : PyData.strOk x = true) (hy : PyData.strOk y = true) : PyData.strOk (x ++ y) = true := by
  unfold PyData.strOk at *
  show (x.cps ++ y.cps).all _ = true
  rw [Array.all_append, hx, hy]
  rfl
def One (z : Str) : Prop := z.length = 1 ∧ PyData.strOk z = true
theorem fold_one : ∀ (zs : List Str) (acc : Array Nat), (∀ z ∈ zs, One z) → (acc.all (· < 0x110000)) = true →
    (zs.foldl (fun acc p => acc ++ ("" : Str).cps ++ p.cps) acc).size = acc.size + zs.length ∧ ((zs.foldl (fun acc p => acc ++ ("" : Str).cps ++ p.cps) acc).all (· < 0x110000)) = true
  | [], acc, _, h => ⟨rfl, h⟩
  | z :: zs, acc, hz, h => by
    obtain ⟨h1, h2⟩ := hz z (by simp)
    have e0 : ("" : Str).cps = #[] := rfl
    have h1' : z.cps.size = 1 := h1
    obtain ⟨h3, h4⟩ := fold_one zs (acc ++ ("" : Str).cps ++ z.cps) (fun y hy => hz y (List.mem_cons_of_mem _ hy)) (by
      have h2' : z.cps.all (· < 0x110000) = true := h2
      rw [Array.all_append, Array.all_append, h, e0, h2']
      simp)
    refine ⟨?_, h4⟩
    refine Eq.trans h3 ?_
    rw [e0]
    simp only [Array.size_append, List.length_cons, h1']
    show acc.size + 0 + 1 + _ = _
    omega
theorem join_one {zs : List Str} (h : ∀ z ∈ zs, One z) : (Txt.join "" zs).length = zs.length ∧ PyData.strOk (Txt.join "" zs) = true := by
  cases zs with
  | nil => exact ⟨by decide +kernel, by decide +kernel⟩
  | cons x zs =>
    obtain ⟨h1, h2⟩ := h x (by simp)
    have h1' : x.cps.size = 1 := h1
    obtain ⟨h3, h4⟩ := fold_one zs x.cps (fun z hz => h z (List.mem_cons_of_mem _ hz)) h2
    refine ⟨?_, h4⟩
    refine Eq.trans h3 ?_
    rw [h1', List.length_cons]
    omega
/-! ### words, things -/
def SG : Str := "abyz0159AZ_- '"
theorem idx_sg {r : Int} (h0 : 0 ≤ r) (h1 : r < 14) : ∃ z, One z ∧ idxV (.str SG) (.int r) st = .ok (.str z) st := by
  have hl : SG.cps.toList.length = 14 := by decide +kernel
  obtain ⟨c, e, hc⟩ := atI_in (xs := SG.cps.toList) (i := r) h0 (by rw [hl]; exact h1)
  refine ⟨⟨#[c]⟩, ⟨rfl, one_ok (z := SG) (by decide +kernel) hc⟩, ?_⟩
  show (if SG.length ≤ sizeLine then (match atI SG.cps.toList r with
    | some c => Res.ok (MV.str ⟨#[c]⟩) st
    | none => .stuck) else .stuck) = _
  rw [if_pos (by decide +kernel), e]
theorem wd_app {x y : Str} (hx : PyData.strOk x = true) (hy : PyData.strOk y = true) (hl : x.length + y.length ≤ 13) : Wd (x ++ y) := ⟨by rw [strLen_append]; exact hl, strOk_append hx hy⟩
theorem add_s {x y : Str} (h : x.length + y.length ≤ 100) : binV .add (.str x) (.str y) st = .ok (.str (x ++ y)) st := add_str (Nat.le_trans h (by decide))
theorem mul_s {x : Str} {k : Int} (h0 : 0 ≤ k) (h1 : k < 1000) (h2 : x.length < 1000) : binV .mul (.str x) (.int k) st = .ok (.str (Txt.mul x k)) st := if_pos ⟨h0, h1, h2⟩
theorem Fr.ext {a b : Store} (e : Ext a b) : Fr s g a b := ⟨e.le, fun n hn _ _ => e.kp n hn⟩
theorem add_fr (wf : st.wf) (o : MO) : Fr s g st (st.add o) := Fr.ext (Ext.add wf o)
theorem word_c (h : Src st s g) (q : ∀ z st', Wd z → Src st' s g → Fr s g st st' → Q (.str z) st') : wC Γ (d + 2) 9 [.ref s] st Q := by
  refine c_body rfl rfl ?_
  show wB Γ (d + 2) m__law_word [some (.ref s), none, none, none] st _
  unfold m__law_word
  refine b_cons' (S_set (e_lit ?_))
  refine b_cons' (S_set (e_join (e_lit ?_)))
  refine l_comp (i_rng (e_call (a_cons (e_var rfl (a_cons (e_lit (a_nil ?_)))))))
  refine pick_c h (by decide) (by decide) fun r st1 h0 h1 h2 f1 => ⟨r, rfl, by omega, ?_⟩
  have hz : 1000 ≤ sizeLine := by decide
  have hr : r.toNat ≤ 4 := by omega
  refine g_inv0 (fun ys st2 => Src st2 s g ∧ Fr s g st st2 ∧ ∃ zs : List Str, ys = zs.map MV.str ∧ ∀ z ∈ zs, One z) ⟨h2, f1, [], rfl, fun z hz => by cases hz⟩ (by rw [rngV_len]; omega) ?_ ?_
  · rintro v ys st2 _ ⟨hs2, f2, zs, rfl, hz⟩
    have fin : ∀ (r4 : Int) (st4 : Store), 0 ≤ r4 → r4 < 14 → Src st4 s g → Fr s g st2 st4 → Rs (idxV (.str SG) (.int r4) st4) fun y st5 => Src st5 s g ∧ Fr s g st st5 ∧ ∃ zs' : List Str, (zs.map MV.str ++ [y]) = zs'.map MV.str ∧ ∀ z ∈ zs', One z := fun r4 st4 h04 h14 hs4 f4 => by
      obtain ⟨z, hz', e⟩ := idx_sg (st := st4) h04 h14
      refine rs_of e ⟨hs4, f2.trans f4, zs ++ [z], by simp, fun y hy => ?_⟩
      rcases List.mem_append.mp hy with hy | hy
      · exact hz y hy
      · rw [List.mem_singleton] at hy
        rw [hy]; exact hz'
    refine ⟨_, rfl, ?_⟩
    refine e_idx (e_var rfl (e_call (a_cons (e_var rfl (a_cons (e_ifx (t_e (fun _ _ _ => rfl) (e_cmp (e_call (a_cons (e_var rfl (a_cons (e_lit (a_nil ?_)))))))))))))) 
    refine pick_c hs2 (by decide) (by decide) fun r2 st3 _ _ hs3 f3 => ?_
    refine e_lit (Rs.ok ⟨_, rfl, fun _ => ?_, fun _ => ?_⟩)
    · exact e_lit (a_nil (pick_c hs3 (by decide) (by decide) fun r4 st4 h04 h14 hs4 f4 => fin r4 st4 h04 (by omega) hs4 (f3.trans f4)))
    · exact e_lit (a_nil (pick_c hs3 (by decide) (by decide) fun r4 st4 h04 h14 hs4 f4 => fin r4 st4 h04 (by omega) hs4 (f3.trans f4)))
  rintro ys st2 hy ⟨hs2, f2, zs, rfl, hz1⟩
  have hl : zs.length ≤ 4 := by
    rw [List.length_map, rngV_len] at hy
    omega
  obtain ⟨j1, j2⟩ := join_one hz1
  refine ⟨"", zs, rfl, strs_map zs, ?_, ?_⟩
  · have e : ((zs.map (·.length)).sum) = zs.length := by
      clear hy hl j1 j2
      induction zs with
      | nil => rfl
      | cons z zs ih =>
        rw [List.map_cons, List.sum_cons, (hz1 z (by simp)).1, ih fun y hy => hz1 y (List.mem_cons_of_mem _ hy), List.length_cons]
        omega
    rw [e]
    show zs.length + zs.length * 0 ≤ _
    omega
  generalize hF : Txt.join "" zs = F at j1 j2 ⊢
  have hF4 : F.length ≤ 4 := by rw [j1]; exact hl
  refine b_cons' (S_ret (e_call (a_cons (e_var rfl (a_cons ?_)))))
  have l9 : (Txt.mul "a" 9).length = 9 := by decide +kernel
  have l8 : (Txt.mul "b" 8).length = 8 := by decide +kernel
  have l1 : ("a" : Str).length = 1 := by decide +kernel
  refine e_mk (l_lst (a_cons (e_var rfl (a_cons (e_bin (e_var rfl (e_bin (e_lit (e_lit ?_)))))))))
  refine rs_of (mul_s (by decide) (by decide) (by decide)) ?_
  refine rs_of (add_s (by rw [l9]; omega)) ?_
  refine a_cons (e_bin (e_var rfl (e_bin (e_lit (e_lit ?_)))))
  refine rs_of (mul_s (by decide) (by decide) (by decide)) ?_
  refine rs_of (add_s (by rw [l8]; omega)) ?_
  refine a_cons (e_lit (a_cons (e_lit (a_cons (e_lit (a_cons (e_lit (a_cons (e_lit (a_cons (e_lit ?_)))))))))))
  refine a_cons (e_bin (e_lit (e_var rfl ?_)))
  refine rs_of (add_s (by rw [l1]; omega)) ?_
  refine a_nil ⟨by show 10 ≤ sizeLine; decide, rs_of (newL_add (by show 10 ≤ 1000; decide)) (a_nil ?_)⟩
  have w2 := hs2.wf
  obtain ⟨ds, l, m, t, hsa⟩ := id hs2
  refine of_c (hs2.add _) (Nat.lt_succ_self _) (Nat.ne_of_gt hsa.ls) (Nat.ne_of_gt hsa.lg) (by rw [Store.get_add w2, if_pos rfl]) (List.cons_ne_nil _ _) (by show 10 < 1000; decide) fun v st3 hv hs3 f3 => ?_
  have f : Fr s g st st3 := (f2.trans (add_fr w2 _)).trans f3
  have k : ∀ z, Wd z → Q (.str z) st3 := fun z hz => q z st3 hz hs3 f
  simp only [List.mem_cons, List.not_mem_nil, or_false] at hv
  rcases hv with rfl | rfl | rfl | rfl | rfl | rfl | rfl | rfl | rfl | rfl
  · exact k _ ⟨by omega, j2⟩
  · exact k _ (wd_app j2 (by decide +kernel) (by omega))
  · exact k _ (wd_app j2 (by decide +kernel) (by omega))
  · exact k _ ⟨by decide +kernel, by decide +kernel⟩
  · exact k _ ⟨by decide +kernel, by decide +kernel⟩
  · exact k _ ⟨by decide +kernel, by decide +kernel⟩
  · exact k _ ⟨by decide +kernel, by decide +kernel⟩
  · exact k _ ⟨by decide +kernel, by decide +kernel⟩
  · exact k _ ⟨by decide +kernel, by decide +kernel⟩
  · exact k _ (wd_app (by decide +kernel) j2 (by omega))
end K13

set_option Elab.async false
set_option linter.all false
set_option maxRecDepth 100000
set_option maxHeartbeats 4000000
namespace K13
open PySem hiding Env
open L2 hiding wE
open MP
variable {d : Nat} {st st' : Store} {Q : MV → Store → Prop} {s g : Nat}
theorem _root_.MP.Src.ne (h : Src st s g) : st.next ≠ s ∧ st.next ≠ g := let ⟨_, _, _, _, h⟩ := h; ⟨Nat.ne_of_gt h.ls, Nat.ne_of_gt h.lg⟩
theorem get_new (wf : st.wf) (o : MO) : (st.add o).get st.next = some o := by rw [Store.get_add wf, if_pos rfl]
/-- a list that is new -/
theorem Sm.newL {k : Nat} {xs : List MV} (h : Src st s g) (hl : xs.length ≤ 4) (hx : ∀ x ∈ xs, Sm s g st k x) : Sm s g (st.add (.lst xs)) (k + 1) (.ref st.next) :=
  .lst (Nat.lt_succ_self _) h.ne.1 h.ne.2 (get_new h.wf _) hl fun x hx' => (hx x hx').fr (add_fr h.wf _)
theorem pow_i {i j : Int} (h : 0 ≤ j ∧ j ≤ 1000000 ∧ i.natAbs < 2 ^ 64) : binV .pow (.int i) (.int j) st = .ok (.int (i ^ j.toNat)) st := if_pos h
theorem wd_lit {z : Str} (h1 : z.length ≤ 13) (h2 : PyData.strOk z = true) : Wd z := ⟨h1, h2⟩
theorem thing_c (h : Src st s g) (q : ∀ v st', Sm s g st' 1 v → Src st' s g → Fr s g st st' → Q v st') : wC Γ (d + 3) 10 [.ref s] st Q := by
  refine c_body rfl rfl ?_
  show wB Γ (d + 3) m__law_thing [some (.ref s), none] st _
  unfold m__law_thing
  refine b_cons' (S_set (e_idx ?_))
  refine e_mk (l_lst (a_cons (e_lit (a_cons (e_lit (a_cons (e_lit (a_cons (e_bin (e_lit (e_lit ?_)))))))))))
  refine rs_of (pow_i (by decide)) ?_
  refine a_cons (e_bin (e_lit (e_lit (Rs.ok ?_))))
  refine a_cons (e_lit (a_cons (e_lit (a_cons (e_lit (a_cons (e_lit (a_cons ?_))))))))
  refine e_mk (l_lst (a_nil ⟨Nat.zero_le _, rs_of (newL_add (Nat.zero_le _)) ?_⟩))
  refine a_cons (e_lit (a_nil ⟨by show 11 ≤ sizeLine; decide, rs_of (newL_add (by show 11 ≤ 1000; decide)) ?_⟩))
  have h1 : Src (st.add (.lst [])) s g := h.add _
  have f1 : Fr s g st (st.add (.lst [])) := add_fr h.wf _
  have m1 : Sm s g (st.add (.lst [])) 1 (.ref st.next) := Sm.newL (k := 0) h (Nat.zero_le _) fun x hx => by cases hx
  generalize hs1 : st.add (.lst []) = st1 at h1 f1 m1 ⊢
  have h2 := h1.add (.lst [.int 0, .int 1, .int 7, .int (10 ^ (30 : Int).toNat), .int (0 - 1), .bl true, .bl false, .non, .str "0", .ref st.next, .int 2])
  have f2 : Fr s g st1 _ := add_fr h1.wf (.lst [.int 0, .int 1, .int 7, .int (10 ^ (30 : Int).toNat), .int (0 - 1), .bl true, .bl false, .non, .str "0", .ref st.next, .int 2])
  have g2 := get_new h1.wf (.lst [.int 0, .int 1, .int 7, .int (10 ^ (30 : Int).toNat), .int (0 - 1), .bl true, .bl false, .non, .str "0", .ref st.next, .int 2])
  refine e_call (a_cons (e_var rfl (a_cons (e_lit (a_nil ?_)))))
  refine pick_c h2 (by decide) (by decide) fun r st3 h0 h11 h3 f3 => ?_
  obtain ⟨v, hv, e⟩ := idx_lst (st := st3) ((f3.kp _ (Nat.lt_succ_self _) h1.ne.1 h1.ne.2).trans g2) h0 h11
  refine rs_of e ?_
  have mv : Sm s g st3 1 v := by
    have f13 : Fr s g st1 st3 := f2.trans f3
    simp only [List.mem_cons, List.not_mem_nil, or_false] at hv
    rcases hv with rfl | rfl | rfl | rfl | rfl | rfl | rfl | rfl | rfl | rfl | rfl
    · exact .int _ (by decide +kernel)
    · exact .int _ (by decide +kernel)
    · exact .int _ (by decide +kernel)
    · exact .int _ (by decide +kernel)
    · exact .int _ (by decide +kernel)
    · exact .bl _ _
    · exact .bl _ _
    · exact .non _
    · exact .str _ ⟨by decide +kernel, by decide +kernel⟩
    · exact m1.fr f13
    · exact .int _ (by decide +kernel)
  have f03 : Fr s g st st3 := (f1.trans f2).trans f3
  clear hv e g2 h2 f2 f3 f1 m1
  refine b_cons' (S_ret (e_call (a_cons (e_var rfl (a_cons ?_)))))
  refine e_mk (l_lst (a_cons (e_var rfl (a_cons (e_var rfl (a_cons ?_))))))
  refine e_call (a_cons (e_var rfl (a_nil ?_)))
  refine word_c h3 fun z4 st4 w4 h4 f4 => ?_
  refine a_cons (e_call (a_cons (e_var rfl (a_nil ?_))))
  refine word_c h4 fun z5 st5 w5 h5 f5 => ?_
  refine a_cons (e_tup (a_nil (rs_of (newT_tup (Nat.zero_le _)) ?_)))
  refine a_cons (e_dic (by decide) (p_nil' ⟨[], rfl, ?_⟩))
  have h6 : Src (st5.add (.dK [])) s g := h5.add _
  have f6 : Fr s g st5 (st5.add (.dK [])) := add_fr h5.wf _
  have m6 : Sm s g (st5.add (.dK [])) 1 (.ref st5.next) := .dic 0 (Nat.lt_succ_self _) h5.ne.1 h5.ne.2 (get_new h5.wf _)
  show wA Γ (d + 3) _ _ (st5.add (.dK [])) _
  generalize hs6 : st5.add (.dK []) = st6 at h6 f6 m6 ⊢
  refine a_cons (e_mk (l_lst (a_cons (e_call (a_cons (e_var rfl (a_nil ?_)))))))
  refine word_c h6 fun z7 st7 w7 h7 f7 => ?_
  refine a_nil ⟨by show 1 ≤ sizeLine; decide, rs_of (newL_add (by show 1 ≤ 1000; decide)) ?_⟩
  have h8 : Src (st7.add (.lst [.str z7])) s g := h7.add _
  have f8 : Fr s g st7 (st7.add (.lst [.str z7])) := add_fr h7.wf _
  have m8 : Sm s g (st7.add (.lst [.str z7])) 1 (.ref st7.next) := Sm.newL (k := 0) h7 (by show 1 ≤ 4; decide) fun x hx => by
    rw [List.mem_singleton] at hx
    subst hx
    exact .str _ w7
  generalize hs8 : st7.add (.lst [.str z7]) = st8 at h8 f8 m8 ⊢
  refine a_cons (tup_lit1 (a_nil ⟨by show 8 ≤ sizeLine; decide, rs_of (newL_add (by show 8 ≤ 1000; decide)) (a_nil ?_)⟩))
  refine of_c (h8.add _) (Nat.lt_succ_self _) h8.ne.1 h8.ne.2 (get_new h8.wf _) (List.cons_ne_nil _ _) (by show 8 < 1000; decide) fun u st9 hu h9 f9 => ?_
  have f89 : Fr s g st8 st9 := (add_fr h8.wf _).trans f9
  have f69 : Fr s g st6 st9 := (f7.trans f8).trans f89
  have f39 : Fr s g st3 st9 := ((f4.trans f5).trans f6).trans f69
  have k : ∀ u, Sm s g st9 1 u → Q u st9 := fun u hu => q u st9 hu h9 (f03.trans f39)
  simp only [List.mem_cons, List.not_mem_nil, or_false] at hu
  rcases hu with rfl | rfl | rfl | rfl | rfl | rfl | rfl | rfl
  · exact k _ (mv.fr f39)
  · exact k _ (mv.fr f39)
  · exact k _ (.str _ w4)
  · exact k _ (.str _ w5)
  · exact k _ (.tup (k := 0) (Nat.zero_le _) fun x hx => by cases hx)
  · exact k _ (m6.fr f69)
  · exact k _ (m8.fr f89)
  · exact k _ (.tup (k := 0) (by show 1 ≤ 4; decide) fun x hx => by
      rw [List.mem_singleton] at hx
      subst hx
      exact .str _ ⟨by decide +kernel, by decide +kernel⟩)
end K13

set_option Elab.async false
set_option linter.all false
set_option maxRecDepth 100000
set_option maxHeartbeats 4000000
namespace K13
open PySem hiding Env
open L2 hiding wE
open MP
variable {d : Nat} {st st' : Store} {Q : MV → Store → Prop} {s g : Nat}
theorem mapM_eq {f h : MV → Option PyData} : ∀ {xs : List MV}, (∀ x ∈ xs, f x = h x) → xs.mapM f = xs.mapM h
  | [], _ => rfl
  | x :: xs, e => by rw [List.mapM_cons, List.mapM_cons, e x (by simp), mapM_eq fun y hy => e y (List.mem_cons_of_mem _ hy)]
theorem Sm.toR {k : Nat} {v : MV} (fr : Fr s g st st') (h : Sm s g st k v) : ∀ f, toR st' f v = toR st f v := by
  induction h with
  | non k => intro f; cases f <;> rfl
  | bl k b => intro f; cases f <;> rfl
  | int k h => intro f; cases f <;> rfl
  | str k h => intro f; cases f <;> rfl
  | @tup k xs h1 _ ih =>
    intro f
    cases f with
    | zero => rfl
    | succ f =>
      show (xs.mapM (MP.toR st' f)).map PyData.tuple = (xs.mapM (MP.toR st f)).map PyData.tuple
      rw [mapM_eq fun x hx => ih x hx f]
  | @lst k n xs h1 h2 h3 h4 h5 _ ih =>
    intro f
    cases f with
    | zero => rfl
    | succ f =>
      show (match st'.get n with
        | some (.lst xs) => (xs.mapM (MP.toR st' f)).map PyData.list
        | some (.dK []) => some (.dict [])
        | _ => none) = (match st.get n with
        | some (.lst xs) => (xs.mapM (MP.toR st f)).map PyData.list
        | some (.dK []) => some (.dict [])
        | _ => none)
      rw [fr.kp n h1 h2 h3, h4]
      show (xs.mapM (MP.toR st' f)).map PyData.list = (xs.mapM (MP.toR st f)).map PyData.list
      rw [mapM_eq fun x hx => ih x hx f]
  | @dic k n h1 h2 h3 h4 =>
    intro f
    cases f with
    | zero => rfl
    | succ f =>
      show (match st'.get n with
        | some (.lst xs) => (xs.mapM (MP.toR st' f)).map PyData.list
        | some (.dK []) => some (.dict [])
        | _ => none) = (match st.get n with
        | some (.lst xs) => (xs.mapM (MP.toR st f)).map PyData.list
        | some (.dK []) => some (.dict [])
        | _ => none)
      rw [fr.kp n h1 h2 h3, h4]
theorem Da.fr {k : Nat} {v : MV} {dt : PyData} (f : Fr s g st st') (h : Sm s g st k v) (D : Da st k v dt) : Da st' k v dt := ⟨fun n hn => (h.toR f n).trans (D.rd n hn), D.sh, D.lv, D.wt, D.dp⟩
/-- the text of two bools -/
def bbT (a b : Bool) : Str := (PyData.list [.bool a, .bool b]).shown
theorem repr_bb {n : Nat} {a b : Bool} (hn : st.get n = some (.lst [.bl a, .bl b])) : biV .repr [.ref n] st = .ok (.str (bbT a b)) st := by
  have e : MP.toR st 66 (.ref n) = some (.list [.bool a, .bool b]) := by
    show (match st.get n with
      | some (.lst xs) => (xs.mapM (MP.toR st 65)).map PyData.list
      | some (.dK []) => some (.dict [])
      | _ => none) = _
    rw [hn]
    rfl
  show (match MP.toR st 66 (.ref n) with
    | some d => if d.showable = true ∧ d.shown.length ≤ sizeLine ∧ d.depth ≤ 64 then Res.ok (MV.str d.shown) st else .stuck
    | none => .stuck) = _
  rw [e]
  exact if_pos (by cases a <;> cases b <;> decide +kernel)
/-! ### kinds -/
def kindS (w : Str) (r : List MV) : Str := if (w == ("tok" : Str)) = true then (match r with
  | .str x :: _ => x
  | _ => w) else w
theorem kind_e {env : MP.Env} {i : Nat} {w : Str} {r : List MV} (he : env[i]? = some (some (.tup (.str w :: r)))) (hv : valV w r = true) (q : Q (.str (kindS w r)) st) :
    MP.wE Γ d (.ifx (.cmp .eq (.idx (.var i) (.lit (.int 0))) (.lit (.str ("tok" : Str)))) (.idx (.var i) (.lit (.int 1))) (.idx (.var i) (.lit (.int 0)))) env st Q := by
  refine e_ifx (t_e (fun _ _ _ => rfl) (e_cmp (e_idx (e_var he (e_lit (rs_of (idx_head _ _) (e_lit (rs_of eq_str' ⟨_, rfl, fun hk => ?_, fun hk => ?_⟩))))))))
  · have ht : (w == ("tok" : Str)) = true := hk
    have hn : (w == ("none" : Str)) = false := by
      have := eq_of_beq ht
      subst this
      decide +kernel
    unfold valV at hv
    rw [if_neg (by rw [hn]; exact Bool.false_ne_true), if_pos ht] at hv
    obtain ⟨a, b, rfl⟩ : ∃ a b, r = [a, b] := by
      match r, hv with
      | [a, b], _ => exact ⟨a, b, rfl⟩
    have hw : isWordV a = true := by
      have hv' : (isWordV a && (noRes a && isCountV b)) = true := hv
      rw [Bool.and_eq_true] at hv'
      exact hv'.1
    cases a with
    | str x =>
      refine e_idx (e_var he (e_lit (rs_of (rfl : idxV (.tup [.str w, .str x, b]) (.int 1) st = .ok (.str x) st) ?_)))
      unfold kindS at q
      rw [if_pos ht] at q
      exact q
    | _ => cases hw
  · have ht : (w == ("tok" : Str)) = false := hk
    refine e_idx (e_var he (e_lit (rs_of (idx_head _ _) ?_)))
    unfold kindS at q
    rw [if_neg (by rw [ht]; exact Bool.false_ne_true)] at q
    exact q
theorem kind_c {w : Str} {r : List MV} (hv : valV w r = true) (q : Q (.str (kindS w r)) st) : wC Γ d 3 [.tup (.str w :: r)] st Q := by
  refine c_body rfl rfl ?_
  show wB Γ d m_kind_of [some (.tup (.str w :: r))] st _
  unfold m_kind_of
  exact b_cons' (S_ret (kind_e rfl hv q))
/-! ### one value looked at -/
def lookB : List MS := [.set 9 (.bi .repr [.var 6]),
  .set 10 (.mk (.lstD [.call 2 [.var 6], .call 0 [.var 6]])),
  .iff (.or (.cmp .ne (.bi .repr [.var 10]) (.bi .repr [.mk (.lstD [.call 8 [.var 6], .call 7 [.var 6]])])) (.cmp .ne (.bi .repr [.var 6]) (.var 9)))
  [.ret (.lit (.bl false))]
  [],
  .iff (.and (.call 8 [.var 6]) (.cmp .ne (.call 3 [.var 6]) (.ifx (.cmp .eq (.idx (.var 6) (.lit (.int 0))) (.lit (.str ("tok" : Str)))) (.idx (.var 6) (.lit (.int 1))) (.idx (.var 6) (.lit (.int 0))))))
  [.ret (.lit (.bl false))]
  []]
theorem Src.ext (h : Src st s g) (e : Ext st st') : Src st' s g := by
  obtain ⟨ds, l, m, t, h⟩ := h
  exact ⟨ds, l, m, t, e.wf, Nat.lt_of_lt_of_le h.ls e.le, Nat.lt_of_lt_of_le h.lg e.le, h.ne, (e.kp _ h.ls).trans h.gs, (e.kp _ h.lg).trans h.gg⟩
theorem look_ok {x w v : MV} {a0 a2 a3 a4 a5 a9 a10 : Option MV} (h : Src st s g) (hx : Sm s g st 3 x) {Q : Fl × MP.Env → Store → Prop}
    (q : ∀ st' b9 b10, Src st' s g → Fr s g st st' → Q (.nx, [a0, some (.ref s), a2, a3, a4, a5, some x, some w, some v, b9, b10]) st') :
    wB Γ (d + 2) lookB [a0, some (.ref s), a2, a3, a4, a5, some x, some w, some v, a9, a10] st Q := by
  obtain ⟨dt, D⟩ := hx.da
  unfold lookB
  refine b_cons' (S_set (e_bi (a_cons (e_var rfl (a_nil (rs_of (repr_da (by decide) D) ?_))))))
  refine b_cons' (S_set (e_mk (l_lst (a_cons (e_call (a_cons (e_var rfl (a_nil ?_))))))))
  refine is_value_ok hx.g2 ?_
  refine a_cons (e_call (a_cons (e_var rfl (a_nil (is_word_ok hx.g1.ask ?_)))))
  refine a_nil ⟨by show 2 ≤ sizeLine; decide, rs_of (newL_add (by show 2 ≤ 1000; decide)) ?_⟩
  have e1 : Ext st (st.add (.lst [.bl (isValueV x), .bl (isWordV x)])) := Ext.add h.wf _
  have n1 := get_new h.wf (.lst [.bl (isValueV x), .bl (isWordV x)])
  have l1 : st.next < (st.add (.lst [.bl (isValueV x), .bl (isWordV x)])).next := Nat.lt_succ_self _
  generalize st.add (.lst [.bl (isValueV x), .bl (isWordV x)]) = st1 at e1 n1 l1 ⊢
  have x1 : Sm s g st1 3 x := hx.fr (Fr.ext e1)
  have h1 : Src st1 s g := Src.ext h e1
  refine b_cons' (S_iff (t_or' (t_e (fun _ _ _ => rfl) (e_cmp (e_bi (a_cons (e_var rfl (a_nil ?_))))))))
  refine rs_of (repr_bb n1) ?_
  refine e_bi (a_cons (e_mk (l_lst (a_cons (e_call (a_cons (e_var rfl (a_nil ?_))))))))
  refine law_value_ok h1.wf x1.g2 fun st2 e2 => ?_
  have x2 : Sm s g st2 3 x := x1.fr (Fr.ext e2)
  refine a_cons (e_call (a_cons (e_var rfl (a_nil (law_word_ok x2.g1.ask ?_)))))
  refine a_nil ⟨by show 2 ≤ sizeLine; decide, rs_of (newL_add (by show 2 ≤ 1000; decide)) ?_⟩
  have e3 : Ext st2 (st2.add (.lst [.bl (isValueV x), .bl (isWordV x)])) := Ext.add e2.wf _
  have n3 := get_new e2.wf (.lst [.bl (isValueV x), .bl (isWordV x)])
  have e13 : Ext st1 (st2.add (.lst [.bl (isValueV x), .bl (isWordV x)])) := e2.trans e3
  generalize st2.add (.lst [.bl (isValueV x), .bl (isWordV x)]) = st3 at e3 n3 e13 ⊢
  have h3 : Src st3 s g := Src.ext h1 e13
  have x3 : Sm s g st3 3 x := x1.fr (Fr.ext e13)
  have f03 : Fr s g st st3 := (Fr.ext e1).trans (Fr.ext e13)
  refine a_nil (rs_of (repr_bb n3) (rs_of ne_str' ⟨_, rfl, fun _ => ?_, fun hk => ?_⟩))
  · refine t_e (fun _ _ _ => rfl) (e_cmp (e_bi (a_cons (e_var rfl (a_nil (rs_of (repr_da (by decide) (D.fr f03 hx)) (e_var rfl (rs_of ne_str' ⟨_, rfl, fun hk => ?_, fun _ => b_nil' ?_⟩))))))))
    · simp at hk
    refine b_cons' (S_iff (t_and' (t_e (fun _ _ _ => rfl) (e_call (a_cons (e_var rfl (a_nil ?_)))))))
    refine law_value_ok h3.wf x3.g2 fun st4 e4 => ⟨_, rfl, fun hv => ?_, fun _ => ⟨(fun z => by cases z), fun _ => b_nil' (b_nil' (q st4 _ _ (Src.ext h3 e4) (f03.trans (Fr.ext e4))))⟩⟩
    obtain ⟨w', r, rfl⟩ : ∃ w' r, x = .tup (.str w' :: r) := by
      cases x with
      | tup xs => cases xs with
        | nil => cases hv
        | cons y r => cases y with
          | str w' => exact ⟨w', r, rfl⟩
          | _ => cases hv
      | _ => cases hv
    have hv' : valV w' r = true := hv
    refine t_e (fun _ _ _ => rfl) (e_cmp (e_call (a_cons (e_var rfl (a_nil (kind_c hv' (kind_e rfl hv' (rs_of ne_str' ⟨_, rfl, fun hk => ?_, fun _ => b_nil' (b_nil' (q st4 _ _ (Src.ext h3 e4) (f03.trans (Fr.ext e4))))⟩))))))))
    simp at hk
  · simp at hk
end K13

set_option Elab.async false
set_option linter.all false
set_option maxRecDepth 100000
set_option maxHeartbeats 4000000
namespace K13
open PySem hiding Env
open L2 hiding wE
open MP
variable {d : Nat} {st st' : Store} {Q : MV → Store → Prop} {s g : Nat}
theorem bin_lst {n m : Nat} {xs ys : List MV} (hn : st.get n = some (.lst xs)) (hm : st.get m = some (.lst ys)) (hl : (xs ++ ys).length ≤ 1000) : binV .add (.ref n) (.ref m) st = .ok (.ref st.next) (st.add (.lst (xs ++ ys))) := by
  show (match st.get n, st.get m with
    | some (.lst xs), some (.lst ys) => newL (xs ++ ys) st
    | _, _ => .stuck) = _
  rw [hn, hm]
  exact newL_add hl
theorem add_tup {xs ys : List MV} (h : xs.length + ys.length ≤ 100) : binV .add (.tup xs) (.tup ys) st = .ok (.tup (xs ++ ys)) st := if_pos (Nat.le_trans h (by decide))
theorem cut_mem {xs : List MV} {lo hi : Option Int} {x : MV} (h : x ∈ cut xs lo hi) : x ∈ xs := List.mem_of_mem_drop (List.mem_of_mem_take h)
theorem cut_len {xs : List MV} {lo hi : Option Int} : (cut xs lo hi).length ≤ xs.length := by
  unfold cut
  rw [List.length_take, List.length_drop]
  omega
/-- a value as the law makes it -/
def Vt (s g : Nat) (st : Store) (v : MV) : Prop := ∃ vs, v = .tup vs ∧ vs.length ≤ 3 ∧ ∀ x ∈ vs, Sm s g st 1 x
theorem Vt.fr {v : MV} (f : Fr s g st st') (h : Vt s g st v) : Vt s g st' v := let ⟨vs, e, hl, hx⟩ := h; ⟨vs, e, hl, fun x hx' => (hx x hx').fr f⟩
theorem Sm.upto {k m : Nat} {v : MV} (h : Sm s g st k v) (hm : k ≤ m) : Sm s g st m v := by
  induction m with
  | zero => have : k = 0 := by omega
            subst this; exact h
  | succ m ih =>
    by_cases e : k = m + 1
    · subst e; exact h
    · exact (ih (by omega)).up
/-- what one turn of the law's loop does -/
def turnB : List MS := [.par 7 8 (.call 9 [.var 1]) (.call 10 [.var 1]),
  .set 3 (.mk (.lstD [.tupD [.lit (.str ("none" : Str))], .tupD [.lit (.str ("bit" : Str)), .call 6 [.var 1, .mk (.lstD [.lit (.str ("yes" : Str)), .lit (.str ("no" : Str)), .lit (.str ("Yes" : Str)), .var 7])]], .tupD [.lit (.str ("tok" : Str)), .var 7, .var 8], .tupD [.lit (.str ("err" : Str)), .var 7]])),
  .set 3 (.bin .add (.var 3) (.mk (.lstD [.tupD [.lit (.str ("fun" : Str)), .var 7], .tupD [.lit (.str ("obj" : Str)), .var 8], .tupD [.lit (.str ("tok" : Str)), .lit (.str ("k" : Str)), .var 8], .tupD [.lit (.str ("err" : Str)), .var 8], .tupD [.lit (.str ("tok" : Str)), .var 8, .lit (.int 3)]]))),
  .set 4 (.call 6 [.var 1, .var 3]),
  .set 5 (.mk (.lstD [.slc (.var 4) (none) (some (.neg (.lit (.int 1)))), .bin .add (.var 4) (.tupD [.var 8]), .bi .list [.var 4], .bin .add (.tupD [.var 7]) (.slc (.var 4) (some (.lit (.int 1))) (none)), .var 8, .var 7, .bin .add (.tupD [.var 8]) (.slc (.var 4) (some (.lit (.int 1))) (none)), .tupD [.var 4]])),
  .for_ (.one 6) (.tmp (.lstD [.var 4, .call 6 [.var 1, .var 5]])) lookB,
  .iff (.cmp .ne (.bi .repr [.mk (.lstD [.call 0 [.var 7], .call 0 [.var 8]])]) (.bi .repr [.mk (.lstD [.call 7 [.var 7], .call 7 [.var 8]])]))
  [.ret (.lit (.bl false))]
  []]
theorem tail_ok {z : Str} {v : MV} {a0 a2 a3 a4 a5 a6 a9 a10 : Option MV} (h : Src st s g) (hz : Wd z) (hv : Sm s g st 3 v) {Q : Fl × MP.Env → Store → Prop}
    (q : ∀ st', Src st' s g → Q (.nx, [a0, some (.ref s), a2, a3, a4, a5, a6, some (.str z), some v, a9, a10]) st') :
    wB Γ (d + 1) (turnB.drop 6) [a0, some (.ref s), a2, a3, a4, a5, a6, some (.str z), some v, a9, a10] st Q := by
  show wB Γ (d + 1) [_] _ _ _
  have az : ∀ st, Ask st (.str z) := fun st => .inl ⟨z, rfl, hz.txt⟩
  refine b_cons' (S_iff (t_e (fun _ _ _ => rfl) (e_cmp (e_bi (a_cons ?_)))))
  refine e_mk (l_lst (a_cons (e_call (a_cons (e_var rfl (a_nil ?_))))))
  refine is_word_ok (az _) ?_
  refine a_cons (e_call (a_cons (e_var rfl (a_nil (is_word_ok hv.g1.ask ?_)))))
  refine a_nil ⟨by show 2 ≤ sizeLine; decide, rs_of (newL_add (by show 2 ≤ 1000; decide)) ?_⟩
  have e1 : Ext st (st.add (.lst [.bl (isWordV (.str z)), .bl (isWordV v)])) := Ext.add h.wf _
  have n1 := get_new h.wf (.lst [.bl (isWordV (.str z)), .bl (isWordV v)])
  generalize st.add (.lst [.bl (isWordV (.str z)), .bl (isWordV v)]) = st1 at e1 n1 ⊢
  refine a_nil (rs_of (repr_bb n1) ?_)
  have v1 : Sm s g st1 3 v := hv.fr (Fr.ext e1)
  refine e_bi (a_cons (e_mk (l_lst (a_cons (e_call (a_cons (e_var rfl (a_nil ?_))))))))
  refine law_word_ok (az _) ?_
  refine a_cons (e_call (a_cons (e_var rfl (a_nil (law_word_ok v1.g1.ask ?_)))))
  refine a_nil ⟨by show 2 ≤ sizeLine; decide, rs_of (newL_add (by show 2 ≤ 1000; decide)) ?_⟩
  have e2 : Ext st1 (st1.add (.lst [.bl (isWordV (.str z)), .bl (isWordV v)])) := Ext.add e1.wf _
  have n2 := get_new e1.wf (.lst [.bl (isWordV (.str z)), .bl (isWordV v)])
  generalize st1.add (.lst [.bl (isWordV (.str z)), .bl (isWordV v)]) = st2 at e2 n2 ⊢
  refine a_nil (rs_of (repr_bb n2) (rs_of ne_str' ⟨_, rfl, fun hk => ?_, fun _ => b_nil' (b_nil' (q st2 (Src.ext h (e1.trans e2))))⟩))
  simp at hk
theorem turn_ok {a0 a2 a3 a4 a5 a6 a7 a8 a9 a10 : Option MV} (h : Src st s g) {Q : Fl × MP.Env → Store → Prop}
    (q : ∀ st' b3 b4 b5 b6 b7 b8 b9 b10, Src st' s g → Q (.nx, [a0, some (.ref s), a2, b3, b4, b5, b6, b7, b8, b9, b10]) st') :
    wB Γ (d + 4) turnB [a0, some (.ref s), a2, a3, a4, a5, a6, a7, a8, a9, a10] st Q := by
  unfold turnB
  refine b_cons' (S_par (e_call (a_cons (e_var rfl (a_nil ?_)))))
  refine word_c h fun z st1 wz h1 _ => ?_
  refine e_call (a_cons (e_var rfl (a_nil ?_)))
  refine thing_c h1 fun v st2 mv h2 _ => ?_
  clear h1 h
  have mz : ∀ {st : Store}, Sm s g st 1 (.str z) := .str _ wz
  -- some = [..]
  refine b_cons' (S_set (e_mk (l_lst (a_cons (tup_lit1 (a_cons ?_))))))
  refine e_tup (a_cons (e_lit (a_cons (e_call (a_cons (e_var rfl (a_cons ?_)))))))
  refine e_mk (l_lst (a_cons (e_lit (a_cons (e_lit (a_cons (e_lit (a_cons (e_var rfl (a_nil ⟨by show 4 ≤ sizeLine; decide, rs_of (newL_add (by show 4 ≤ 1000; decide)) ?_⟩))))))))))
  refine a_nil ?_
  refine of_c (h2.add _) (Nat.lt_succ_self _) h2.ne.1 h2.ne.2 (get_new h2.wf _) (List.cons_ne_nil _ _) (by show 4 < 1000; decide) fun y st3 hy h3 f3 => ?_
  have f23 : Fr s g st2 st3 := (add_fr h2.wf _).trans f3
  have my : ∀ {st : Store}, Sm s g st 1 y := by
    intro st
    simp only [List.mem_cons, List.not_mem_nil, or_false] at hy
    rcases hy with rfl | rfl | rfl | rfl
    · exact .str _ ⟨by decide +kernel, by decide +kernel⟩
    · exact .str _ ⟨by decide +kernel, by decide +kernel⟩
    · exact .str _ ⟨by decide +kernel, by decide +kernel⟩
    · exact mz
  have mv3 := mv.fr f23
  clear hy f3
  refine a_nil (rs_of (newT_tup (by show 2 ≤ 1000; decide)) ?_)
  refine a_cons (e_tup (a_cons (e_lit (a_cons (e_var rfl (a_cons (e_var rfl (a_nil (rs_of (newT_tup (by show 3 ≤ 1000; decide)) ?_)))))))))
  refine a_cons (e_tup (a_cons (e_lit (a_cons (e_var rfl (a_nil (rs_of (newT_tup (by show 2 ≤ 1000; decide)) ?_)))))))
  refine a_nil ⟨by show 4 ≤ sizeLine; decide, rs_of (newL_add (by show 4 ≤ 1000; decide)) ?_⟩
  have h4 := h3.add (.lst [.tup [.str "none"], .tup [.str "bit", y], .tup [.str "tok", .str z, v], .tup [.str "err", .str z]])
  have f4 : Fr s g st3 _ := add_fr h3.wf (.lst [.tup [.str "none"], .tup [.str "bit", y], .tup [.str "tok", .str z, v], .tup [.str "err", .str z]])
  have n4 := get_new h3.wf (.lst [.tup [.str "none"], .tup [.str "bit", y], .tup [.str "tok", .str z, v], .tup [.str "err", .str z]])
  have l4 : st3.next < (st3.add (.lst [.tup [.str "none"], .tup [.str "bit", y], .tup [.str "tok", .str z, v], .tup [.str "err", .str z]])).next := Nat.lt_succ_self _
  have o4 := h3.ne
  generalize st3.next = n at n4 l4 o4 ⊢
  generalize hs4 : st3.add (.lst [.tup [.str "none"], .tup [.str "bit", y], .tup [.str "tok", .str z, v], .tup [.str "err", .str z]]) = st4 at h4 f4 n4 l4 ⊢
  -- some + [..]
  refine b_cons' (S_set (e_bin (e_var rfl ?_)))
  refine e_mk (l_lst (a_cons ?_))
  refine e_tup (a_cons (e_lit (a_cons (e_var rfl (a_nil (rs_of (newT_tup (by show 2 ≤ 1000; decide)) ?_))))))
  refine a_cons (e_tup (a_cons (e_lit (a_cons (e_var rfl (a_nil (rs_of (newT_tup (by show 2 ≤ 1000; decide)) ?_)))))))
  refine a_cons (e_tup (a_cons (e_lit (a_cons (e_lit (a_cons (e_var rfl (a_nil (rs_of (newT_tup (by show 3 ≤ 1000; decide)) ?_)))))))))
  refine a_cons (e_tup (a_cons (e_lit (a_cons (e_var rfl (a_nil (rs_of (newT_tup (by show 2 ≤ 1000; decide)) ?_)))))))
  refine a_cons (e_tup (a_cons (e_lit (a_cons (e_var rfl (a_cons (e_lit (a_nil (rs_of (newT_tup (by show 3 ≤ 1000; decide)) ?_)))))))))
  refine a_nil ⟨by show 5 ≤ sizeLine; decide, rs_of (newL_add (by show 5 ≤ 1000; decide)) ?_⟩
  have h5 := h4.add (.lst [.tup [.str "fun", .str z], .tup [.str "obj", v], .tup [.str "tok", .str "k", v], .tup [.str "err", v], .tup [.str "tok", v, .int 3]])
  have f5 : Fr s g st4 _ := add_fr h4.wf (.lst [.tup [.str "fun", .str z], .tup [.str "obj", v], .tup [.str "tok", .str "k", v], .tup [.str "err", v], .tup [.str "tok", v, .int 3]])
  have n5 := get_new h4.wf (.lst [.tup [.str "fun", .str z], .tup [.str "obj", v], .tup [.str "tok", .str "k", v], .tup [.str "err", v], .tup [.str "tok", v, .int 3]])
  refine rs_of (bin_lst ((f5.kp n l4 o4.1 o4.2).trans n4) n5 (by show 9 ≤ 1000; decide)) ?_
  generalize hs5 : st4.add (.lst [.tup [.str "fun", .str z], .tup [.str "obj", v], .tup [.str "tok", .str "k", v], .tup [.str "err", v], .tup [.str "tok", v, .int 3]]) = st5 at h5 f5 n5 ⊢
  have mv5 := mv3.fr (f4.trans f5)
  -- value
  refine b_cons' (S_set (e_call (a_cons (e_var rfl (a_cons (e_var rfl (a_nil ?_)))))))
  refine of_c (h5.add _) (Nat.lt_succ_self _) h5.ne.1 h5.ne.2 (get_new h5.wf _) (List.cons_ne_nil _ _) (by show 9 < 1000; decide) fun V st6 hV h6 f6 => ?_
  have f56 : Fr s g st5 st6 := (add_fr h5.wf _).trans f6
  have mv6 := mv5.fr f56
  have vV : Vt s g st6 V := by
    have ml : ∀ {x : Str}, x.length ≤ 13 → PyData.strOk x = true → Sm s g st6 1 (.str x) := fun h1 h2 => .str _ ⟨h1, h2⟩
    have one : ∀ {a : MV}, Sm s g st6 1 a → Vt s g st6 (.tup [a]) := fun ha => ⟨_, rfl, by show 1 ≤ 3; decide, fun x hx => by
      rw [List.mem_singleton] at hx; subst hx; exact ha⟩
    have two : ∀ {a b : MV}, Sm s g st6 1 a → Sm s g st6 1 b → Vt s g st6 (.tup [a, b]) := fun ha hb => ⟨_, rfl, by show 2 ≤ 3; decide, fun x hx => by
      simp only [List.mem_cons, List.not_mem_nil, or_false] at hx
      rcases hx with rfl | rfl
      · exact ha
      · exact hb⟩
    have three : ∀ {a b c : MV}, Sm s g st6 1 a → Sm s g st6 1 b → Sm s g st6 1 c → Vt s g st6 (.tup [a, b, c]) := fun ha hb hc => ⟨_, rfl, by show 3 ≤ 3; decide, fun x hx => by
      simp only [List.mem_cons, List.not_mem_nil, or_false] at hx
      rcases hx with rfl | rfl | rfl
      · exact ha
      · exact hb
      · exact hc⟩
    simp only [List.mem_cons, List.mem_append, List.not_mem_nil, or_false] at hV
    rcases hV with (rfl | rfl | rfl | rfl) | rfl | rfl | rfl | rfl | rfl
    · exact one (ml (by decide +kernel) (by decide +kernel))
    · exact two (ml (by decide +kernel) (by decide +kernel)) my
    · exact three (ml (by decide +kernel) (by decide +kernel)) mz mv6
    · exact two (ml (by decide +kernel) (by decide +kernel)) mz
    · exact two (ml (by decide +kernel) (by decide +kernel)) mz
    · exact two (ml (by decide +kernel) (by decide +kernel)) mv6
    · exact three (ml (by decide +kernel) (by decide +kernel)) (ml (by decide +kernel) (by decide +kernel)) mv6
    · exact two (ml (by decide +kernel) (by decide +kernel)) mv6
    · exact three (ml (by decide +kernel) (by decide +kernel)) mv6 (.int _ (by decide +kernel))
  clear hV f6
  -- odd
  obtain ⟨vs, rfl, hl, hvs⟩ := vV
  refine b_cons' (S_set (e_mk (l_lst (a_cons ?_))))
  refine e_slc (e_var rfl (o_none' (o_some' (e_neg (e_lit ⟨1, rfl, -1, rfl, Rs.ok ?_⟩)))))
  refine a_cons (e_bin (e_var rfl (e_tup (a_cons (e_var rfl (a_nil (rs_of (newT_tup (by show 1 ≤ 1000; decide)) ?_)))))))
  refine rs_of (add_tup (by show vs.length + 1 ≤ 100; omega)) ?_
  refine a_cons (e_bi (a_cons (e_var rfl (a_nil (rs_of (newL_add (xs := vs) (by omega)) ?_)))))
  have h7 := h6.add (.lst vs)
  have f7 : Fr s g st6 (st6.add (.lst vs)) := add_fr h6.wf _
  have m7 : Sm s g (st6.add (.lst vs)) 2 (.ref st6.next) := Sm.newL h6 (by omega) hvs
  generalize hs7 : st6.add (.lst vs) = st7 at h7 f7 m7 ⊢
  generalize st6.next = n7 at m7 ⊢
  refine a_cons (e_bin (e_tup (a_cons (e_var rfl (a_nil (rs_of (newT_tup (by show 1 ≤ 1000; decide)) ?_))))))
  refine e_slc (e_var rfl (o_some' (e_lit ⟨1, rfl, o_none' (Rs.ok ?_)⟩)))
  have c1 : (cut vs (some 1) none).length ≤ 3 := Nat.le_trans cut_len hl
  refine rs_of (add_tup (by show 1 + (cut vs (some 1) none).length ≤ 100; omega)) ?_
  refine a_cons (e_var rfl (a_cons (e_var rfl (a_cons ?_))))
  refine e_bin (e_tup (a_cons (e_var rfl (a_nil (rs_of (newT_tup (by show 1 ≤ 1000; decide)) ?_)))))
  refine e_slc (e_var rfl (o_some' (e_lit ⟨1, rfl, o_none' (Rs.ok ?_)⟩)))
  refine rs_of (add_tup (by show 1 + (cut vs (some 1) none).length ≤ 100; omega)) ?_
  refine a_cons (e_tup (a_cons (e_var rfl (a_nil (rs_of (newT_tup (by show 1 ≤ 1000; decide)) ?_)))))
  refine a_nil ⟨by show 8 ≤ sizeLine; decide, rs_of (newL_add (by show 8 ≤ 1000; decide)) ?_⟩
  have mv7 := mv6.fr f7
  have hvs7 : ∀ x ∈ vs, Sm s g st7 1 x := fun x hx => (hvs x hx).fr f7
  have mV7 : Sm s g st7 2 (.tup vs) := .tup (by omega) hvs7
  generalize hO : ([.tup (cut vs none (some (-1))), .tup (vs ++ [v]), .ref n7, .tup ([.str z] ++ cut vs (some 1) none), v, .str z, .tup ([v] ++ cut vs (some 1) none), .tup [.tup vs]] : List MV) = odd
  have mO : ∀ x ∈ odd, Sm s g st7 3 x := fun x hx => by
    rw [← hO] at hx
    simp only [List.mem_cons, List.not_mem_nil, or_false] at hx
    rcases hx with rfl | rfl | rfl | rfl | rfl | rfl | rfl | rfl
    · exact (Sm.tup (k := 1) (Nat.le_trans cut_len (by omega)) fun x hx => hvs7 x (cut_mem hx)).upto (by decide)
    · exact (Sm.tup (k := 1) (by rw [List.length_append]; show vs.length + 1 ≤ 4; omega) fun x hx => by
        rcases List.mem_append.mp hx with hx | hx
        · exact hvs7 x hx
        · rw [List.mem_singleton] at hx; subst hx; exact mv7).upto (by decide)
    · exact m7.upto (by decide)
    · exact (Sm.tup (k := 1) (by rw [List.length_append]; show 1 + _ ≤ 4; omega) fun x hx => by
        rcases List.mem_append.mp hx with hx | hx
        · rw [List.mem_singleton] at hx; subst hx; exact mz
        · exact hvs7 x (cut_mem hx)).upto (by decide)
    · exact mv7.upto (by decide)
    · exact (mz (st := st7)).upto (by decide)
    · exact (Sm.tup (k := 1) (by rw [List.length_append]; show 1 + _ ≤ 4; omega) fun x hx => by
        rcases List.mem_append.mp hx with hx | hx
        · rw [List.mem_singleton] at hx; subst hx; exact mv7
        · exact hvs7 x (cut_mem hx)).upto (by decide)
    · exact .tup (by show 1 ≤ 4; decide) fun x hx => by
        rw [List.mem_singleton] at hx; subst hx; exact mV7
  have lO : odd.length = 8 := by rw [← hO]; rfl
  have h8 := h7.add (.lst odd)
  have f8 : Fr s g st7 (st7.add (.lst odd)) := add_fr h7.wf _
  -- the values looked at
  refine b_cons' (S_for (i_tmp' (l_lst (a_cons (e_var rfl (a_cons (e_call (a_cons (e_var rfl (a_cons (e_var rfl (a_nil ?_))))))))))))
  refine of_c h8 (Nat.lt_succ_self _) h7.ne.1 h7.ne.2 (get_new h7.wf _) (fun e => by rw [e] at lO; cases lO) (by rw [lO]; decide) fun O st9 hO9 h9 f9 => ?_
  have f79 : Fr s g st7 st9 := f8.trans f9
  refine a_nil ⟨by show 2 ≤ sizeLine; decide, ?_⟩
  refine f_inv (fun env st => Src st s g ∧ Fr s g st9 st ∧ ∃ b6 b9 b10 : Option MV, env = [a0, some (.ref s), a2, some (.ref st5.next), some (.tup vs), some (.ref st7.next), b6, some (.str z), some v, b9, b10]) ⟨h9, Fr.refl _ _ _, _, _, _, rfl⟩ ?_ ?_
  · rintro x env st hx ⟨hs, fs, b6, b9, b10, rfl⟩
    have mx : Sm s g st 3 x := by
      simp only [List.mem_cons, List.not_mem_nil, or_false] at hx
      rcases hx with rfl | rfl
      · exact (mV7.upto (by decide)).fr (f79.trans fs)
      · exact (mO _ hO9).fr (f79.trans fs)
    refine ⟨_, rfl, ?_⟩
    exact look_ok hs mx fun st' c9 c10 hs' fs' => ⟨.inl rfl, hs', fs.trans fs', _, _, _, rfl⟩
  · rintro env st ⟨hs, fs, b6, b9, b10, rfl⟩
    exact tail_ok hs wz ((mv7.fr (f79.trans fs)).upto (by decide)) fun st' hs' => q st' _ _ _ _ _ _ _ _ hs'
end K13

set_option Elab.async false
set_option linter.all false
set_option maxRecDepth 100000
set_option maxHeartbeats 4000000
namespace K13
open PySem hiding Env
open L2 hiding wE
open MP
theorem law_c {d : Nat} {st : Store} {xs : List Int} (wf : st.wf) (hl : xs.length ≤ 63) : wC Γ (d + 5) 11 [.scr (xs.map MV.int)] st fun v _ => v = .bl true := by
  refine c_body rfl rfl ?_
  show wB Γ (d + 5) [.set 1 (.call 4 [.var 0]), .for_ (.one 2) (.rng1 (.lit (.int 24))) turnB, _] [some (.scr (xs.map MV.int)), none, none, none, none, none, none, none, none, none, none] st _
  refine b_cons' (S_set (e_call (a_cons (e_var rfl (a_nil ?_)))))
  have src : wC Γ (d + 4) 4 [.scr (xs.map MV.int)] st fun v st' => ∃ s g, v = .ref s ∧ Src st' s g := by
    refine c_body rfl rfl ?_
    show wB Γ (d + 4) srcBody [some (.scr (xs.map MV.int)), none, none, none, none] st _
    exact source_ok wf hl
  refine src.mono fun v st1 ⟨s, g, e, h⟩ => ?_
  subst e
  refine b_cons' (S_for (i_rng (e_lit ⟨24, rfl, by decide, ?_⟩)))
  refine f_inv (fun env st => Src st s g ∧ ∃ b0 b2 b3 b4 b5 b6 b7 b8 b9 b10 : Option MV, env = [b0, some (.ref s), b2, b3, b4, b5, b6, b7, b8, b9, b10]) ⟨h, _, _, _, _, _, _, _, _, _, _, rfl⟩ ?_ ?_
  · rintro v env st hv ⟨hs, b0, b2, b3, b4, b5, b6, b7, b8, b9, b10, rfl⟩
    refine ⟨_, rfl, ?_⟩
    exact turn_ok hs fun st' c3 c4 c5 c6 c7 c8 c9 c10 hs' => ⟨.inl rfl, hs', _, _, _, _, _, _, _, _, _, _, rfl⟩
  · rintro env st ⟨hs, b0, b2, b3, b4, b5, b6, b7, b8, b9, b10, rfl⟩
    refine b_cons' (S_ret (e_and (e_isB (e_call (a_cons (e_bin (e_lit (e_lit ?_))))))))
    refine rs_of (mul_s (by decide) (by decide) (by decide)) (a_nil ?_)
    refine is_word_ok (.inl ⟨_, rfl, by decide +kernel, by decide +kernel⟩) ?_
    have e1 : isWordV (.str (Txt.mul "a" 12)) = true := by decide +kernel
    refine ⟨_, rfl, _, rfl, fun _ => ?_, fun hk => by rw [e1] at hk; cases hk⟩
    refine e_isB (e_call (a_cons (e_bin (e_lit (e_lit ?_)))))
    refine rs_of (mul_s (by decide) (by decide) (by decide)) (a_nil ?_)
    refine is_word_ok (.inl ⟨_, rfl, by decide +kernel, by decide +kernel⟩) ?_
    have e2 : isWordV (.str (Txt.mul "a" 13)) = false := by decide +kernel
    refine ⟨_, rfl, ?_⟩
    rw [e2]
    rfl
theorem plain (xs : List Int) (hl : xs.length ≤ 63) : ∃ n st, callB (ev Γ n 20) ⟨1, 11, m_law⟩ [.scr (xs.map MV.int)] Store.emp = .ok (.bl true) st := by
  obtain ⟨fn, hf, n, v, st, e, q⟩ := law_c (d := 15) (st := Store.emp) Store.wf_emp hl
  cases hf
  have q' : v = .bl true := q
  subst q'
  exact ⟨n, st, e n (Nat.le_refl _)⟩
end K13

open PySem PySem.W PyProof.Rows
set_option maxRecDepth 100000 in
set_option maxHeartbeats 0 in
theorem PySem.Challenge.cw_shapeguess_k13_values_judged_holds : PySem.Challenge.rw_shapeguess_k13_values_judged.Holds := by
  w_on; o_law; k_head; (case hw => w_witness2)
  k_fill
  refine MP.walk_go (l := PySem.Challenge.rw_shapeguess_k13_values_judged) (n := 63) (k := 21) (x := "script") (sp := fun K => MP.spF K K13.ca0 K13.Γ 20 11) rfl (by decide) rfl ⟨rfl, by decide, by decide⟩ (fun w h Y => PySem.W.kIn_of Y) ?F ?S
  case S =>
    intro K H a xs hl hS
    obtain ⟨n, st, he⟩ := K13.plain xs hl
    exact MP.sp_of rfl hS he
  case F =>
    intro w mg fa h KX G hmg
    refine' K13.all_fn KX G hmg (a_is_word := ?a_is_word) (l_is_word := ?l_is_word) (c_is_word := ?c_is_word) (k_is_word := ?k_is_word) (a_is_count := ?a_is_count) (l_is_count := ?l_is_count) (c_is_count := ?c_is_count) (k_is_count := ?k_is_count) (a_is_value := ?a_is_value) (l_is_value := ?l_is_value) (c_is_value := ?c_is_value) (k_is_value := ?k_is_value) (a_kind_of := ?a_kind_of) (l_kind_of := ?l_kind_of) (c_kind_of := ?c_kind_of) (k_kind_of := ?k_kind_of) (a__law_source := ?a__law_source) (l__law_source := ?l__law_source) (c__law_source := ?c__law_source) (k__law_source := ?k__law_source) (a__law_pick := ?a__law_pick) (l__law_pick := ?l__law_pick) (c__law_pick := ?c__law_pick) (k__law_pick := ?k__law_pick) (a__law_of := ?a__law_of) (l__law_of := ?l__law_of) (c__law_of := ?c__law_of) (k__law_of := ?k__law_of) (a__law_is_word := ?a__law_is_word) (l__law_is_word := ?l__law_is_word) (c__law_is_word := ?c__law_is_word) (k__law_is_word := ?k__law_is_word) (a__law_is_value := ?a__law_is_value) (l__law_is_value := ?l__law_is_value) (c__law_is_value := ?c__law_is_value) (k__law_is_value := ?k__law_is_value) (a__law_word := ?a__law_word) (l__law_word := ?l__law_word) (c__law_word := ?c__law_word) (k__law_word := ?k__law_word) (a__law_thing := ?a__law_thing) (l__law_thing := ?l__law_thing) (c__law_thing := ?c__law_thing) (k__law_thing := ?k__law_thing) (a_law := ?a_law) (l_law := ?l_law) (c_law := ?c_law) (k_law := ?k_law) (z_abs := ?z_abs) (z_all := ?z_all) (z_bool := ?z_bool) (z_int := ?z_int) (z_isinstance := ?z_isinstance) (z_len := ?z_len) (z_list := ?z_list) (z_range := ?z_range) (z_repr := ?z_repr) (z_str := ?z_str) (z_tuple := ?z_tuple) (g_LETTERS := ?g_LETTERS) (g_RESERVED := ?g_RESERVED) (l_RESERVED := ?l_RESERVED) (d_RESERVED := ?d_RESERVED)
    (case a_is_word => k_is)
    (case l_is_word => k_is)
    (case c_is_word => k_is)
    (case k_is_word => k_is)
    (case a_is_count => k_is)
    (case l_is_count => k_is)
    (case c_is_count => k_is)
    (case k_is_count => k_is)
    (case a_is_value => k_is)
    (case l_is_value => k_is)
    (case c_is_value => k_is)
    (case k_is_value => k_is)
    (case a_kind_of => k_is)
    (case l_kind_of => k_is)
    (case c_kind_of => k_is)
    (case k_kind_of => k_is)
    (case a__law_source => k_is)
    (case l__law_source => k_is)
    (case c__law_source => k_is)
    (case k__law_source => k_is)
    (case a__law_pick => k_is)
    (case l__law_pick => k_is)
    (case c__law_pick => k_is)
    (case k__law_pick => k_is)
    (case a__law_of => k_is)
    (case l__law_of => k_is)
    (case c__law_of => k_is)
    (case k__law_of => k_is)
    (case a__law_is_word => k_is)
    (case l__law_is_word => k_is)
    (case c__law_is_word => k_is)
    (case k__law_is_word => k_is)
    (case a__law_is_value => k_is)
    (case l__law_is_value => k_is)
    (case c__law_is_value => k_is)
    (case k__law_is_value => k_is)
    (case a__law_word => k_is)
    (case l__law_word => k_is)
    (case c__law_word => k_is)
    (case k__law_word => k_is)
    (case a__law_thing => k_is)
    (case l__law_thing => k_is)
    (case c__law_thing => k_is)
    (case k__law_thing => k_is)
    (case a_law => k_is)
    (case l_law => k_is)
    (case c_law => k_is)
    (case k_law => k_is)
    (case z_abs => k_is)
    (case z_all => k_is)
    (case z_bool => k_is)
    (case z_int => k_is)
    (case z_isinstance => k_is)
    (case z_len => k_is)
    (case z_list => k_is)
    (case z_range => k_is)
    (case z_repr => k_is)
    (case z_str => k_is)
    (case z_tuple => k_is)
    (case g_LETTERS => k_is)
    (case g_RESERVED => k_is)
    (case l_RESERVED => k_is)
    (case d_RESERVED => exact ⟨rfl, _, _, rfl, by decide, .cons ⟨_, rfl⟩ (.cons ⟨_, rfl⟩ (.cons ⟨_, rfl⟩ (.cons ⟨_, rfl⟩ (.cons ⟨_, rfl⟩ (.nil)))))⟩)
