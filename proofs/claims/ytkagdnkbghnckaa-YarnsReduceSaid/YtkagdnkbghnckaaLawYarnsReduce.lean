/- The law YarnsReduce of the given program: for every input the call returns true, and its arguments read as before. Here: contracts of functions, and the law. -/
import Derived.Test.YtkagdnkbghnckaaLawYarnsReduceP1
import Derived.Test.YtkagdnkbghnckaaFb
import Derived.Test.YtkagdnkbghnckaaRows
set_option linter.unusedSimpArgs false
set_option linter.unusedVariables false
namespace Go.Proofs.Ytkagdnkbghnckaa
open Go.Ab
attribute [local irreducible] WeakR WeakE CallA

def ofL (X : List Int) : List Pass := X.map ofP
theorem slOf_isL (X : List Int) : IsL 4 (slOf (X.map fun x => (ofP x).av)) ((ofL X).map Pass.av) := by
  unfold slOf ofL
  rw [List.map_map]
  split
  · rename_i h
    have : X = [] := by simpa using h
    subst this
    exact .nil
  · exact .list
theorem ofL_len (X : List Int) : (ofL X).length = X.length := by simp [ofL]

def env3a (A : List Pass) : Env := Env.upd (fun _ => .junk) 5 (.list 4 false (A.map Pass.av))

def env3b (A : List Pass) (i : Nat) : Env := (Env.upd (fun _ => .junk) 9 (.val (.int .i64 i))).upd 7 (.list 4 true (A.map Pass.av))

theorem YarnsReduce_ok (l r : AV) (X : List Int) (R : List Pass) (hx : IsL 1 l (X.map u8)) (hr : IsL 4 r (R.map Pass.av)) (hnn : Nn (R ++ ofL X)) :
    PureA Try.prog 3 [l, r] (.val (.bool true)) := by
  intro O
  have h1 := hx.len
  have h2 := hr.len
  rw [List.length_map] at h1 h2
  have hS := slOf_isL X
  have hnn := (show Aside _ from hnn)
  refine k3.call mix ?_
  unfold c3
  refine seq_go ?_
  (repeat' first
    | simp (contextual := true) (maxSteps := 4000000) only [fwc, fwe, opsW_gpure, drawW_pure, drawW_gpure, Env.upd_apply, Heap.upd_same, Heap.upd_apply, ite_none, List.getD_cons_zero, List.getD_cons_succ, List.getD_nil, List.length_cons, List.length_nil, List.map_cons, List.map_nil, List.getElem?_cons_zero, List.getElem?_cons_succ, List.getElem?_nil, List.set_cons_zero, List.set_cons_succ, List.take_succ_cons, List.take_zero, List.drop_succ_cons, List.drop_zero, List.nil_append, List.cons_append, List.append_nil, Option.map_some, Option.map_none, Option.bind_some, Option.bind_none, reduceIte, ↓reduceIte, decide_true, decide_false, Bool.true_and, Bool.and_true, Bool.false_and, Bool.and_false, true_and, and_true, and_self, Nat.reduceAdd, Nat.reduceLeDiff, Nat.reduceEqDiff, Nat.zero_add, Nat.add_zero, Nat.le_refl, Nat.zero_le, ge_iff_le, Nat.reduceLT, Nat.zero_lt_succ, Nat.reduceSub, if_true, if_false, forall_const, reduceCtorEq, Bool.not_true, Bool.not_false, Bool.false_eq_true, Int.reduceEq, Int.reduceLT, Int.reduceLE, Int.reduceNeg, Int.reduceToNat, Int.reduceAdd, Int.reduceSub, Nat.reduceMul, Nat.reduceEqDiff, *]
    | (refine retK_now ?_)
    | (refine retK_now' ?_)
    | (intro q hq)
    | (refine cond_intro (fun hc => ?_) (fun hc => ?_)))
  refine seqK_now ?_
  refine seq_go ?_
  refine seq_go ?_
  (repeat' first
    | simp (contextual := true) (maxSteps := 4000000) only [fwc, fwe, opsW_gpure, drawW_pure, drawW_gpure, Env.upd_apply, Heap.upd_same, Heap.upd_apply, ite_none, List.getD_cons_zero, List.getD_cons_succ, List.getD_nil, List.length_cons, List.length_nil, List.map_cons, List.map_nil, List.getElem?_cons_zero, List.getElem?_cons_succ, List.getElem?_nil, List.set_cons_zero, List.set_cons_succ, List.take_succ_cons, List.take_zero, List.drop_succ_cons, List.drop_zero, List.nil_append, List.cons_append, List.append_nil, Option.map_some, Option.map_none, Option.bind_some, Option.bind_none, reduceIte, ↓reduceIte, decide_true, decide_false, Bool.true_and, Bool.and_true, Bool.false_and, Bool.and_false, true_and, and_true, and_self, Nat.reduceAdd, Nat.reduceLeDiff, Nat.reduceEqDiff, Nat.zero_add, Nat.add_zero, Nat.le_refl, Nat.zero_le, ge_iff_le, Nat.reduceLT, Nat.zero_lt_succ, Nat.reduceSub, if_true, if_false, forall_const, reduceCtorEq, Bool.not_true, Bool.not_false, Bool.false_eq_true, Int.reduceEq, Int.reduceLT, Int.reduceLE, Int.reduceNeg, Int.reduceToNat, Int.reduceAdd, Int.reduceSub, Nat.reduceMul, Nat.reduceEqDiff, *]
    | (refine retK_now ?_)
    | (refine retK_now' ?_)
    | (intro q hq)
    | (refine cond_intro (fun hc => ?_) (fun hc => ?_)))
  refine seqK_now ?_
  (repeat' first
    | simp (contextual := true) (maxSteps := 4000000) only [fwc, fwe, opsW_gpure, drawW_pure, drawW_gpure, Env.upd_apply, Heap.upd_same, Heap.upd_apply, ite_none, List.getD_cons_zero, List.getD_cons_succ, List.getD_nil, List.length_cons, List.length_nil, List.map_cons, List.map_nil, List.getElem?_cons_zero, List.getElem?_cons_succ, List.getElem?_nil, List.set_cons_zero, List.set_cons_succ, List.take_succ_cons, List.take_zero, List.drop_succ_cons, List.drop_zero, List.nil_append, List.cons_append, List.append_nil, Option.map_some, Option.map_none, Option.bind_some, Option.bind_none, reduceIte, ↓reduceIte, decide_true, decide_false, Bool.true_and, Bool.and_true, Bool.false_and, Bool.and_false, true_and, and_true, and_self, Nat.reduceAdd, Nat.reduceLeDiff, Nat.reduceEqDiff, Nat.zero_add, Nat.add_zero, Nat.le_refl, Nat.zero_le, ge_iff_le, Nat.reduceLT, Nat.zero_lt_succ, Nat.reduceSub, if_true, if_false, forall_const, reduceCtorEq, Bool.not_true, Bool.not_false, Bool.false_eq_true, Int.reduceEq, Int.reduceLT, Int.reduceLE, Int.reduceNeg, Int.reduceToNat, Int.reduceAdd, Int.reduceSub, Nat.reduceMul, Nat.reduceEqDiff, *]
    | (refine retK_now ?_)
    | (refine retK_now' ?_)
    | (intro q hq)
    | (refine cond_intro (fun hc => ?_) (fun hc => ?_)))
  · refine seq_go ?_
    (repeat' first
    | simp (contextual := true) (maxSteps := 4000000) only [fwc, fwe, opsW_gpure, drawW_pure, drawW_gpure, Env.upd_apply, Heap.upd_same, Heap.upd_apply, ite_none, List.getD_cons_zero, List.getD_cons_succ, List.getD_nil, List.length_cons, List.length_nil, List.map_cons, List.map_nil, List.getElem?_cons_zero, List.getElem?_cons_succ, List.getElem?_nil, List.set_cons_zero, List.set_cons_succ, List.take_succ_cons, List.take_zero, List.drop_succ_cons, List.drop_zero, List.nil_append, List.cons_append, List.append_nil, Option.map_some, Option.map_none, Option.bind_some, Option.bind_none, reduceIte, ↓reduceIte, decide_true, decide_false, Bool.true_and, Bool.and_true, Bool.false_and, Bool.and_false, true_and, and_true, and_self, Nat.reduceAdd, Nat.reduceLeDiff, Nat.reduceEqDiff, Nat.zero_add, Nat.add_zero, Nat.le_refl, Nat.zero_le, ge_iff_le, Nat.reduceLT, Nat.zero_lt_succ, Nat.reduceSub, if_true, if_false, forall_const, reduceCtorEq, Bool.not_true, Bool.not_false, Bool.false_eq_true, Int.reduceEq, Int.reduceLT, Int.reduceLE, Int.reduceNeg, Int.reduceToNat, Int.reduceAdd, Int.reduceSub, Nat.reduceMul, Nat.reduceEqDiff, *]
    | (refine retK_now ?_)
    | (refine retK_now' ?_)
    | (intro q hq)
    | (refine cond_intro (fun hc => ?_) (fun hc => ?_)))
    refine lives_ok.use ?_
    (repeat' first
    | simp (contextual := true) (maxSteps := 4000000) only [fwc, fwe, cmd_seq, opsW_gpure, drawW_pure, drawW_gpure, Env.upd_apply, Heap.upd_same, Heap.upd_apply, ite_none, List.getD_cons_zero, List.getD_cons_succ, List.getD_nil, List.length_cons, List.length_nil, List.map_cons, List.map_nil, List.getElem?_cons_zero, List.getElem?_cons_succ, List.getElem?_nil, List.set_cons_zero, List.set_cons_succ, List.take_succ_cons, List.take_zero, List.drop_succ_cons, List.drop_zero, List.nil_append, List.cons_append, List.append_nil, Option.map_some, Option.map_none, Option.bind_some, Option.bind_none, reduceIte, ↓reduceIte, decide_true, decide_false, Bool.true_and, Bool.and_true, Bool.false_and, Bool.and_false, true_and, and_true, and_self, Nat.reduceAdd, Nat.reduceLeDiff, Nat.reduceEqDiff, Nat.zero_add, Nat.add_zero, Nat.le_refl, Nat.zero_le, ge_iff_le, Nat.reduceLT, Nat.zero_lt_succ, Nat.reduceSub, if_true, if_false, forall_const, reduceCtorEq, Bool.not_true, Bool.not_false, Bool.false_eq_true, Int.reduceEq, Int.reduceLT, Int.reduceLE, Int.reduceNeg, Int.reduceToNat, Int.reduceAdd, Int.reduceSub, Nat.reduceMul, Nat.reduceEqDiff, *]
    | (refine seqK_now ?_)
    | (refine retK_now ?_)
    | (refine retK_now' ?_)
    | (intro q hq)
    | (refine cond_intro (fun hc => ?_) (fun hc => ?_)))
    refine WeakR.pure (by repeat (first | exact Heap.sub_refl _ | refine sub_upd (by simp only [*]) ?_)) ?_
    rfl
  have hlx' : X.length ≤ 40 ∧ R.length ≤ 5 := by
    simp only [Bool.or_eq_false_iff, decide_eq_false_iff_not] at hc
    omega
  clear hc
  refine seqK_now ?_
  refine seq_at (env3a (R ++ ofL X)) O ?_ ?_
  · unfold env3a
    have hA : (R ++ ofL X).length ≤ 45 := by have := ofL_len X; rw [List.length_append]; omega
    generalize R ++ ofL X = A at hnn hA ⊢
    have hLA := (IsL.list (sz := 4) (t := false) (L := A.map Pass.av))
    have hlenA := hLA.len
    rw [List.length_map] at hlenA
    obtain ⟨hred, hnr⟩ := reduceL_inv hnn.out
    have hrl : (reduceL A).length ≤ 45 := by
      have := stk_len (L := A) A.length
      unfold stk at this
      rw [List.take_length] at this
      unfold reduceL; omega
    have hid0 := reduce_idem hnn.out
    refine seq_go ?_
    (repeat' first
    | simp (contextual := true) (maxSteps := 4000000) only [fwc, fwe, opsW_gpure, drawW_pure, drawW_gpure, Env.upd_apply, Heap.upd_same, Heap.upd_apply, ite_none, List.getD_cons_zero, List.getD_cons_succ, List.getD_nil, List.length_cons, List.length_nil, List.map_cons, List.map_nil, List.getElem?_cons_zero, List.getElem?_cons_succ, List.getElem?_nil, List.set_cons_zero, List.set_cons_succ, List.take_succ_cons, List.take_zero, List.drop_succ_cons, List.drop_zero, List.nil_append, List.cons_append, List.append_nil, Option.map_some, Option.map_none, Option.bind_some, Option.bind_none, reduceIte, ↓reduceIte, decide_true, decide_false, Bool.true_and, Bool.and_true, Bool.false_and, Bool.and_false, true_and, and_true, and_self, Nat.reduceAdd, Nat.reduceLeDiff, Nat.reduceEqDiff, Nat.zero_add, Nat.add_zero, Nat.le_refl, Nat.zero_le, ge_iff_le, Nat.reduceLT, Nat.zero_lt_succ, Nat.reduceSub, if_true, if_false, forall_const, reduceCtorEq, Bool.not_true, Bool.not_false, Bool.false_eq_true, Int.reduceEq, Int.reduceLT, Int.reduceLE, Int.reduceNeg, Int.reduceToNat, Int.reduceAdd, Int.reduceSub, Nat.reduceMul, Nat.reduceEqDiff, *]
    | (refine retK_now ?_)
    | (refine retK_now' ?_)
    | (intro q hq)
    | (refine cond_intro (fun hc => ?_) (fun hc => ?_)))
    refine make_own 0 A.length rfl rfl (by omega) (by omega) (by omega) ?_
    intro id hid
    (repeat' first
    | simp (contextual := true) (maxSteps := 4000000) only [fwc, fwe, opsW_gpure, drawW_pure, drawW_gpure, Env.upd_apply, Heap.upd_same, Heap.upd_apply, ite_none, List.getD_cons_zero, List.getD_cons_succ, List.getD_nil, List.length_cons, List.length_nil, List.map_cons, List.map_nil, List.getElem?_cons_zero, List.getElem?_cons_succ, List.getElem?_nil, List.set_cons_zero, List.set_cons_succ, List.take_succ_cons, List.take_zero, List.drop_succ_cons, List.drop_zero, List.nil_append, List.cons_append, List.append_nil, Option.map_some, Option.map_none, Option.bind_some, Option.bind_none, reduceIte, ↓reduceIte, decide_true, decide_false, Bool.true_and, Bool.and_true, Bool.false_and, Bool.and_false, true_and, and_true, and_self, Nat.reduceAdd, Nat.reduceLeDiff, Nat.reduceEqDiff, Nat.zero_add, Nat.add_zero, Nat.le_refl, Nat.zero_le, ge_iff_le, Nat.reduceLT, Nat.zero_lt_succ, Nat.reduceSub, if_true, if_false, forall_const, reduceCtorEq, Bool.not_true, Bool.not_false, Bool.false_eq_true, Int.reduceEq, Int.reduceLT, Int.reduceLE, Int.reduceNeg, Int.reduceToNat, Int.reduceAdd, Int.reduceSub, Nat.reduceMul, Nat.reduceEqDiff, *]
    | (refine retK_now ?_)
    | (refine retK_now' ?_)
    | (intro q hq)
    | (refine cond_intro (fun hc => ?_) (fun hc => ?_)))
    refine app_in (el_list _ _ _ _) (Heap.upd_same _ _ _) (by simp) ?_ (by simp) ?_
    · exact fits_of (by simp only [List.length_nil, List.length_cons, Nat.zero_add, List.length_map, List.length_append, List.length_take, List.length_drop]; omega) (by omega)
    (repeat' first
    | simp (contextual := true) (maxSteps := 4000000) only [fwc, fwe, opsW_gpure, drawW_pure, drawW_gpure, Env.upd_apply, Heap.upd_same, Heap.upd_apply, ite_none, List.getD_cons_zero, List.getD_cons_succ, List.getD_nil, List.length_cons, List.length_nil, List.map_cons, List.map_nil, List.getElem?_cons_zero, List.getElem?_cons_succ, List.getElem?_nil, List.set_cons_zero, List.set_cons_succ, List.take_succ_cons, List.take_zero, List.drop_succ_cons, List.drop_zero, List.nil_append, List.cons_append, List.append_nil, Option.map_some, Option.map_none, Option.bind_some, Option.bind_none, reduceIte, ↓reduceIte, decide_true, decide_false, Bool.true_and, Bool.and_true, Bool.false_and, Bool.and_false, true_and, and_true, and_self, Nat.reduceAdd, Nat.reduceLeDiff, Nat.reduceEqDiff, Nat.zero_add, Nat.add_zero, Nat.le_refl, Nat.zero_le, ge_iff_le, Nat.reduceLT, Nat.zero_lt_succ, Nat.reduceSub, if_true, if_false, forall_const, reduceCtorEq, Bool.not_true, Bool.not_false, Bool.false_eq_true, Int.reduceEq, Int.reduceLT, Int.reduceLE, Int.reduceNeg, Int.reduceToNat, Int.reduceAdd, Int.reduceSub, Nat.reduceMul, Nat.reduceEqDiff, *]
    | (refine retK_now ?_)
    | (refine retK_now' ?_)
    | (intro q hq)
    | (refine cond_intro (fun hc => ?_) (fun hc => ?_)))
    refine seqK_fz 6 id 4 33 _ _ _ true (Heap.upd_same _ _ _) rfl (by simp) (fun _ => by simp) ?_
    rw [del_upd_new hid]
    refine seq_go ?_
    (repeat' first
    | simp (contextual := true) (maxSteps := 4000000) only [fwc, fwe, opsW_gpure, drawW_pure, drawW_gpure, Env.upd_apply, Heap.upd_same, Heap.upd_apply, ite_none, List.getD_cons_zero, List.getD_cons_succ, List.getD_nil, List.length_cons, List.length_nil, List.map_cons, List.map_nil, List.getElem?_cons_zero, List.getElem?_cons_succ, List.getElem?_nil, List.set_cons_zero, List.set_cons_succ, List.take_succ_cons, List.take_zero, List.drop_succ_cons, List.drop_zero, List.nil_append, List.cons_append, List.append_nil, Option.map_some, Option.map_none, Option.bind_some, Option.bind_none, reduceIte, ↓reduceIte, decide_true, decide_false, Bool.true_and, Bool.and_true, Bool.false_and, Bool.and_false, true_and, and_true, and_self, Nat.reduceAdd, Nat.reduceLeDiff, Nat.reduceEqDiff, Nat.zero_add, Nat.add_zero, Nat.le_refl, Nat.zero_le, ge_iff_le, Nat.reduceLT, Nat.zero_lt_succ, Nat.reduceSub, if_true, if_false, forall_const, reduceCtorEq, Bool.not_true, Bool.not_false, Bool.false_eq_true, Int.reduceEq, Int.reduceLT, Int.reduceLE, Int.reduceNeg, Int.reduceToNat, Int.reduceAdd, Int.reduceSub, Nat.reduceMul, Nat.reduceEqDiff, List.take_left, *]
    | (refine retK_now ?_)
    | (refine retK_now' ?_)
    | (intro q hq)
    | (refine cond_intro (fun hc => ?_) (fun hc => ?_)))
    refine (Reduce_ok _ A hLA (by omega)).use ?_
    (repeat' first
    | simp (contextual := true) (maxSteps := 4000000) only [fwc, fwe, opsW_gpure, drawW_pure, drawW_gpure, Env.upd_apply, Heap.upd_same, Heap.upd_apply, ite_none, List.getD_cons_zero, List.getD_cons_succ, List.getD_nil, List.length_cons, List.length_nil, List.map_cons, List.map_nil, List.getElem?_cons_zero, List.getElem?_cons_succ, List.getElem?_nil, List.set_cons_zero, List.set_cons_succ, List.take_succ_cons, List.take_zero, List.drop_succ_cons, List.drop_zero, List.nil_append, List.cons_append, List.append_nil, Option.map_some, Option.map_none, Option.bind_some, Option.bind_none, reduceIte, ↓reduceIte, decide_true, decide_false, Bool.true_and, Bool.and_true, Bool.false_and, Bool.and_false, true_and, and_true, and_self, Nat.reduceAdd, Nat.reduceLeDiff, Nat.reduceEqDiff, Nat.zero_add, Nat.add_zero, Nat.le_refl, Nat.zero_le, ge_iff_le, Nat.reduceLT, Nat.zero_lt_succ, Nat.reduceSub, if_true, if_false, forall_const, reduceCtorEq, Bool.not_true, Bool.not_false, Bool.false_eq_true, Int.reduceEq, Int.reduceLT, Int.reduceLE, Int.reduceNeg, Int.reduceToNat, Int.reduceAdd, Int.reduceSub, Nat.reduceMul, Nat.reduceEqDiff, *]
    | (refine retK_now ?_)
    | (refine retK_now' ?_)
    | (intro q hq)
    | (refine cond_intro (fun hc => ?_) (fun hc => ?_)))
    refine seqK_now ?_
    refine seq_go ?_
    (repeat' first
    | simp (contextual := true) (maxSteps := 4000000) only [fwc, fwe, opsW_gpure, drawW_pure, drawW_gpure, Env.upd_apply, Heap.upd_same, Heap.upd_apply, ite_none, List.getD_cons_zero, List.getD_cons_succ, List.getD_nil, List.length_cons, List.length_nil, List.map_cons, List.map_nil, List.getElem?_cons_zero, List.getElem?_cons_succ, List.getElem?_nil, List.set_cons_zero, List.set_cons_succ, List.take_succ_cons, List.take_zero, List.drop_succ_cons, List.drop_zero, List.nil_append, List.cons_append, List.append_nil, Option.map_some, Option.map_none, Option.bind_some, Option.bind_none, reduceIte, ↓reduceIte, decide_true, decide_false, Bool.true_and, Bool.and_true, Bool.false_and, Bool.and_false, true_and, and_true, and_self, Nat.reduceAdd, Nat.reduceLeDiff, Nat.reduceEqDiff, Nat.zero_add, Nat.add_zero, Nat.le_refl, Nat.zero_le, ge_iff_le, Nat.reduceLT, Nat.zero_lt_succ, Nat.reduceSub, if_true, if_false, forall_const, reduceCtorEq, Bool.not_true, Bool.not_false, Bool.false_eq_true, Int.reduceEq, Int.reduceLT, Int.reduceLE, Int.reduceNeg, Int.reduceToNat, Int.reduceAdd, Int.reduceSub, Nat.reduceMul, Nat.reduceEqDiff, *]
    | (refine retK_now ?_)
    | (refine retK_now' ?_)
    | (intro q hq)
    | (refine cond_intro (fun hc => ?_) (fun hc => ?_)))
    refine (reduced_ok _ A hLA (by omega) hnn.out).use ?_
    (repeat' first
    | simp (contextual := true) (maxSteps := 4000000) only [fwc, fwe, opsW_gpure, drawW_pure, drawW_gpure, Env.upd_apply, Heap.upd_same, Heap.upd_apply, ite_none, List.getD_cons_zero, List.getD_cons_succ, List.getD_nil, List.length_cons, List.length_nil, List.map_cons, List.map_nil, List.getElem?_cons_zero, List.getElem?_cons_succ, List.getElem?_nil, List.set_cons_zero, List.set_cons_succ, List.take_succ_cons, List.take_zero, List.drop_succ_cons, List.drop_zero, List.nil_append, List.cons_append, List.append_nil, Option.map_some, Option.map_none, Option.bind_some, Option.bind_none, reduceIte, ↓reduceIte, decide_true, decide_false, Bool.true_and, Bool.and_true, Bool.false_and, Bool.and_false, true_and, and_true, and_self, Nat.reduceAdd, Nat.reduceLeDiff, Nat.reduceEqDiff, Nat.zero_add, Nat.add_zero, Nat.le_refl, Nat.zero_le, ge_iff_le, Nat.reduceLT, Nat.zero_lt_succ, Nat.reduceSub, if_true, if_false, forall_const, reduceCtorEq, Bool.not_true, Bool.not_false, Bool.false_eq_true, Int.reduceEq, Int.reduceLT, Int.reduceLE, Int.reduceNeg, Int.reduceToNat, Int.reduceAdd, Int.reduceSub, Nat.reduceMul, Nat.reduceEqDiff, *]
    | (refine retK_now ?_)
    | (refine retK_now' ?_)
    | (intro q hq)
    | (refine cond_intro (fun hc => ?_) (fun hc => ?_)))
    refine seqK_now ?_
    refine seq_go ?_
    refine seq_go ?_
    (repeat' first
    | simp (contextual := true) (maxSteps := 4000000) only [fwc, fwe, opsW_gpure, drawW_pure, drawW_gpure, Env.upd_apply, Heap.upd_same, Heap.upd_apply, ite_none, List.getD_cons_zero, List.getD_cons_succ, List.getD_nil, List.length_cons, List.length_nil, List.map_cons, List.map_nil, List.getElem?_cons_zero, List.getElem?_cons_succ, List.getElem?_nil, List.set_cons_zero, List.set_cons_succ, List.take_succ_cons, List.take_zero, List.drop_succ_cons, List.drop_zero, List.nil_append, List.cons_append, List.append_nil, Option.map_some, Option.map_none, Option.bind_some, Option.bind_none, reduceIte, ↓reduceIte, decide_true, decide_false, Bool.true_and, Bool.and_true, Bool.false_and, Bool.and_false, true_and, and_true, and_self, Nat.reduceAdd, Nat.reduceLeDiff, Nat.reduceEqDiff, Nat.zero_add, Nat.add_zero, Nat.le_refl, Nat.zero_le, ge_iff_le, Nat.reduceLT, Nat.zero_lt_succ, Nat.reduceSub, if_true, if_false, forall_const, reduceCtorEq, Bool.not_true, Bool.not_false, Bool.false_eq_true, Int.reduceEq, Int.reduceLT, Int.reduceLE, Int.reduceNeg, Int.reduceToNat, Int.reduceAdd, Int.reduceSub, Nat.reduceMul, Nat.reduceEqDiff, *]
    | (refine retK_now ?_)
    | (refine retK_now' ?_)
    | (intro q hq)
    | (refine cond_intro (fun hc => ?_) (fun hc => ?_)))
    refine (same_ok _ _ (reduceL A) (reduceL A) .list .list (by omega) (by omega)).use ?_
    (repeat' first
    | simp (contextual := true) (maxSteps := 4000000) only [fwc, fwe, opsW_gpure, drawW_pure, drawW_gpure, Env.upd_apply, Heap.upd_same, Heap.upd_apply, ite_none, List.getD_cons_zero, List.getD_cons_succ, List.getD_nil, List.length_cons, List.length_nil, List.map_cons, List.map_nil, List.getElem?_cons_zero, List.getElem?_cons_succ, List.getElem?_nil, List.set_cons_zero, List.set_cons_succ, List.take_succ_cons, List.take_zero, List.drop_succ_cons, List.drop_zero, List.nil_append, List.cons_append, List.append_nil, Option.map_some, Option.map_none, Option.bind_some, Option.bind_none, reduceIte, ↓reduceIte, decide_true, decide_false, Bool.true_and, Bool.and_true, Bool.false_and, Bool.and_false, true_and, and_true, and_self, Nat.reduceAdd, Nat.reduceLeDiff, Nat.reduceEqDiff, Nat.zero_add, Nat.add_zero, Nat.le_refl, Nat.zero_le, ge_iff_le, Nat.reduceLT, Nat.zero_lt_succ, Nat.reduceSub, if_true, if_false, forall_const, reduceCtorEq, Bool.not_true, Bool.not_false, Bool.false_eq_true, Int.reduceEq, Int.reduceLT, Int.reduceLE, Int.reduceNeg, Int.reduceToNat, Int.reduceAdd, Int.reduceSub, Nat.reduceMul, Nat.reduceEqDiff, *]
    | (refine retK_now ?_)
    | (refine retK_now' ?_)
    | (intro q hq)
    | (refine cond_intro (fun hc => ?_) (fun hc => ?_)))
    refine (backwards_ok _ A hLA (by omega) hnn.out).use ?_
    (repeat' first
    | simp (contextual := true) (maxSteps := 4000000) only [fwc, fwe, opsW_gpure, drawW_pure, drawW_gpure, Env.upd_apply, Heap.upd_same, Heap.upd_apply, ite_none, List.getD_cons_zero, List.getD_cons_succ, List.getD_nil, List.length_cons, List.length_nil, List.map_cons, List.map_nil, List.getElem?_cons_zero, List.getElem?_cons_succ, List.getElem?_nil, List.set_cons_zero, List.set_cons_succ, List.take_succ_cons, List.take_zero, List.drop_succ_cons, List.drop_zero, List.nil_append, List.cons_append, List.append_nil, Option.map_some, Option.map_none, Option.bind_some, Option.bind_none, reduceIte, ↓reduceIte, decide_true, decide_false, Bool.true_and, Bool.and_true, Bool.false_and, Bool.and_false, true_and, and_true, and_self, Nat.reduceAdd, Nat.reduceLeDiff, Nat.reduceEqDiff, Nat.zero_add, Nat.add_zero, Nat.le_refl, Nat.zero_le, ge_iff_le, Nat.reduceLT, Nat.zero_lt_succ, Nat.reduceSub, if_true, if_false, forall_const, reduceCtorEq, Bool.not_true, Bool.not_false, Bool.false_eq_true, Int.reduceEq, Int.reduceLT, Int.reduceLE, Int.reduceNeg, Int.reduceToNat, Int.reduceAdd, Int.reduceSub, Nat.reduceMul, Nat.reduceEqDiff, *]
    | (refine retK_now ?_)
    | (refine retK_now' ?_)
    | (intro q hq)
    | (refine cond_intro (fun hc => ?_) (fun hc => ?_)))
    refine (same_ok _ _ (reduceL A) (reduceL A) .list .list (by omega) (by omega)).use ?_
    (repeat' first
    | simp (contextual := true) (maxSteps := 4000000) only [fwc, fwe, opsW_gpure, drawW_pure, drawW_gpure, Env.upd_apply, Heap.upd_same, Heap.upd_apply, ite_none, List.getD_cons_zero, List.getD_cons_succ, List.getD_nil, List.length_cons, List.length_nil, List.map_cons, List.map_nil, List.getElem?_cons_zero, List.getElem?_cons_succ, List.getElem?_nil, List.set_cons_zero, List.set_cons_succ, List.take_succ_cons, List.take_zero, List.drop_succ_cons, List.drop_zero, List.nil_append, List.cons_append, List.append_nil, Option.map_some, Option.map_none, Option.bind_some, Option.bind_none, reduceIte, ↓reduceIte, decide_true, decide_false, Bool.true_and, Bool.and_true, Bool.false_and, Bool.and_false, true_and, and_true, and_self, Nat.reduceAdd, Nat.reduceLeDiff, Nat.reduceEqDiff, Nat.zero_add, Nat.add_zero, Nat.le_refl, Nat.zero_le, ge_iff_le, Nat.reduceLT, Nat.zero_lt_succ, Nat.reduceSub, if_true, if_false, forall_const, reduceCtorEq, Bool.not_true, Bool.not_false, Bool.false_eq_true, Int.reduceEq, Int.reduceLT, Int.reduceLE, Int.reduceNeg, Int.reduceToNat, Int.reduceAdd, Int.reduceSub, Nat.reduceMul, Nat.reduceEqDiff, *]
    | (refine retK_now ?_)
    | (refine retK_now' ?_)
    | (intro q hq)
    | (refine cond_intro (fun hc => ?_) (fun hc => ?_)))
    refine (same_ok _ _ A A .list .list (by omega) (by omega)).use ?_
    (repeat' first
    | simp (contextual := true) (maxSteps := 4000000) only [fwc, fwe, opsW_gpure, drawW_pure, drawW_gpure, Env.upd_apply, Heap.upd_same, Heap.upd_apply, ite_none, List.getD_cons_zero, List.getD_cons_succ, List.getD_nil, List.length_cons, List.length_nil, List.map_cons, List.map_nil, List.getElem?_cons_zero, List.getElem?_cons_succ, List.getElem?_nil, List.set_cons_zero, List.set_cons_succ, List.take_succ_cons, List.take_zero, List.drop_succ_cons, List.drop_zero, List.nil_append, List.cons_append, List.append_nil, Option.map_some, Option.map_none, Option.bind_some, Option.bind_none, reduceIte, ↓reduceIte, decide_true, decide_false, Bool.true_and, Bool.and_true, Bool.false_and, Bool.and_false, true_and, and_true, and_self, Nat.reduceAdd, Nat.reduceLeDiff, Nat.reduceEqDiff, Nat.zero_add, Nat.add_zero, Nat.le_refl, Nat.zero_le, ge_iff_le, Nat.reduceLT, Nat.zero_lt_succ, Nat.reduceSub, if_true, if_false, forall_const, reduceCtorEq, Bool.not_true, Bool.not_false, Bool.false_eq_true, Int.reduceEq, Int.reduceLT, Int.reduceLE, Int.reduceNeg, Int.reduceToNat, Int.reduceAdd, Int.reduceSub, Nat.reduceMul, Nat.reduceEqDiff, *]
    | (refine retK_now ?_)
    | (refine retK_now' ?_)
    | (intro q hq)
    | (refine cond_intro (fun hc => ?_) (fun hc => ?_)))
    refine seqK_now ?_
    (repeat' first
    | simp (contextual := true) (maxSteps := 4000000) only [fwc, fwe, opsW_gpure, drawW_pure, drawW_gpure, Env.upd_apply, Heap.upd_same, Heap.upd_apply, ite_none, List.getD_cons_zero, List.getD_cons_succ, List.getD_nil, List.length_cons, List.length_nil, List.map_cons, List.map_nil, List.getElem?_cons_zero, List.getElem?_cons_succ, List.getElem?_nil, List.set_cons_zero, List.set_cons_succ, List.take_succ_cons, List.take_zero, List.drop_succ_cons, List.drop_zero, List.nil_append, List.cons_append, List.append_nil, Option.map_some, Option.map_none, Option.bind_some, Option.bind_none, reduceIte, ↓reduceIte, decide_true, decide_false, Bool.true_and, Bool.and_true, Bool.false_and, Bool.and_false, true_and, and_true, and_self, Nat.reduceAdd, Nat.reduceLeDiff, Nat.reduceEqDiff, Nat.zero_add, Nat.add_zero, Nat.le_refl, Nat.zero_le, ge_iff_le, Nat.reduceLT, Nat.zero_lt_succ, Nat.reduceSub, if_true, if_false, forall_const, reduceCtorEq, Bool.not_true, Bool.not_false, Bool.false_eq_true, Int.reduceEq, Int.reduceLT, Int.reduceLE, Int.reduceNeg, Int.reduceToNat, Int.reduceAdd, Int.reduceSub, Nat.reduceMul, Nat.reduceEqDiff, *]
    | (refine retK_now ?_)
    | (refine retK_now' ?_)
    | (intro q hq)
    | (refine cond_intro (fun hc => ?_) (fun hc => ?_)))
    refine seqK_now ?_
    generalize reduceL A = G at hred hnr hrl hid0 ⊢
    clear hlenA hLA hA hnn hid A
    have hLG := (IsL.list (sz := 4) (t := true) (L := G.map Pass.av))
    have hlenG := hLG.len
    rw [List.length_map] at hlenG
    refine seq_go ?_
    refine seq_go ?_
    (repeat' first
    | simp (contextual := true) (maxSteps := 4000000) only [fwc, fwe, opsW_gpure, drawW_pure, drawW_gpure, Env.upd_apply, Heap.upd_same, Heap.upd_apply, ite_none, List.getD_cons_zero, List.getD_cons_succ, List.getD_nil, List.length_cons, List.length_nil, List.map_cons, List.map_nil, List.getElem?_cons_zero, List.getElem?_cons_succ, List.getElem?_nil, List.set_cons_zero, List.set_cons_succ, List.take_succ_cons, List.take_zero, List.drop_succ_cons, List.drop_zero, List.nil_append, List.cons_append, List.append_nil, Option.map_some, Option.map_none, Option.bind_some, Option.bind_none, reduceIte, ↓reduceIte, decide_true, decide_false, Bool.true_and, Bool.and_true, Bool.false_and, Bool.and_false, true_and, and_true, and_self, Nat.reduceAdd, Nat.reduceLeDiff, Nat.reduceEqDiff, Nat.zero_add, Nat.add_zero, Nat.le_refl, Nat.zero_le, ge_iff_le, Nat.reduceLT, Nat.zero_lt_succ, Nat.reduceSub, if_true, if_false, forall_const, reduceCtorEq, Bool.not_true, Bool.not_false, Bool.false_eq_true, Int.reduceEq, Int.reduceLT, Int.reduceLE, Int.reduceNeg, Int.reduceToNat, Int.reduceAdd, Int.reduceSub, Nat.reduceMul, Nat.reduceEqDiff, *]
    | (refine retK_now ?_)
    | (refine retK_now' ?_)
    | (intro q hq)
    | (refine cond_intro (fun hc => ?_) (fun hc => ?_)))
    refine seqK_now ?_
    (repeat' first
    | simp (contextual := true) (maxSteps := 4000000) only [fwc, fwe, opsW_gpure, drawW_pure, drawW_gpure, Env.upd_apply, Heap.upd_same, Heap.upd_apply, ite_none, List.getD_cons_zero, List.getD_cons_succ, List.getD_nil, List.length_cons, List.length_nil, List.map_cons, List.map_nil, List.getElem?_cons_zero, List.getElem?_cons_succ, List.getElem?_nil, List.set_cons_zero, List.set_cons_succ, List.take_succ_cons, List.take_zero, List.drop_succ_cons, List.drop_zero, List.nil_append, List.cons_append, List.append_nil, Option.map_some, Option.map_none, Option.bind_some, Option.bind_none, reduceIte, ↓reduceIte, decide_true, decide_false, Bool.true_and, Bool.and_true, Bool.false_and, Bool.and_false, true_and, and_true, and_self, Nat.reduceAdd, Nat.reduceLeDiff, Nat.reduceEqDiff, Nat.zero_add, Nat.add_zero, Nat.le_refl, Nat.zero_le, ge_iff_le, Nat.reduceLT, Nat.zero_lt_succ, Nat.reduceSub, if_true, if_false, forall_const, reduceCtorEq, Bool.not_true, Bool.not_false, Bool.false_eq_true, Int.reduceEq, Int.reduceLT, Int.reduceLE, Int.reduceNeg, Int.reduceToNat, Int.reduceAdd, Int.reduceSub, Nat.reduceMul, Nat.reduceEqDiff, *]
    | (refine retK_now ?_)
    | (refine retK_now' ?_)
    | (intro q hq)
    | (refine cond_intro (fun hc => ?_) (fun hc => ?_)))
    obtain ⟨I, hI⟩ := hideI (fun m e O' => ∃ i : Nat, i ≤ G.length ∧ m = G.length - i ∧ O' = O ∧ e = env3b G i)
    refine cmd_loop I G.length (by rw [hI.out]; exact ⟨0, by omega, rfl, rfl, rfl⟩) ?_
    intro m e O' hh
    rw [hI.out] at hh
    obtain ⟨i, h3, rfl, rfl, rfl⟩ := hh
    have hw : i < 4611686018427387904 := by omega
    unfold env3b
    refine seq_go ?_
    refine seq_go ?_
    (repeat' first
    | simp (contextual := true) (maxSteps := 4000000) only [fwc, fwe, opsW_gpure, drawW_pure, drawW_gpure, Env.upd_apply, Heap.upd_same, Heap.upd_apply, ite_none, List.getD_cons_zero, List.getD_cons_succ, List.getD_nil, List.length_cons, List.length_nil, List.map_cons, List.map_nil, List.getElem?_cons_zero, List.getElem?_cons_succ, List.getElem?_nil, List.set_cons_zero, List.set_cons_succ, List.take_succ_cons, List.take_zero, List.drop_succ_cons, List.drop_zero, List.nil_append, List.cons_append, List.append_nil, Option.map_some, Option.map_none, Option.bind_some, Option.bind_none, reduceIte, ↓reduceIte, decide_true, decide_false, Bool.true_and, Bool.and_true, Bool.false_and, Bool.and_false, true_and, and_true, and_self, Nat.reduceAdd, Nat.reduceLeDiff, Nat.reduceEqDiff, Nat.zero_add, Nat.add_zero, Nat.le_refl, Nat.zero_le, ge_iff_le, Nat.reduceLT, Nat.zero_lt_succ, Nat.reduceSub, if_true, if_false, forall_const, reduceCtorEq, Bool.not_true, Bool.not_false, Bool.false_eq_true, Int.reduceEq, Int.reduceLT, Int.reduceLE, Int.reduceNeg, Int.reduceToNat, Int.reduceAdd, Int.reduceSub, Nat.reduceMul, Nat.reduceEqDiff, wrap_succ, ilt_nat, *]
    | (refine retK_now ?_)
    | (refine retK_now' ?_)
    | (intro q hq)
    | (refine cond_intro (fun hc => ?_) (fun hc => ?_)))
    refine seqK_now ?_
    (repeat' first
    | simp (contextual := true) (maxSteps := 4000000) only [fwc, fwe, opsW_gpure, drawW_pure, drawW_gpure, Env.upd_apply, Heap.upd_same, Heap.upd_apply, ite_none, List.getD_cons_zero, List.getD_cons_succ, List.getD_nil, List.length_cons, List.length_nil, List.map_cons, List.map_nil, List.getElem?_cons_zero, List.getElem?_cons_succ, List.getElem?_nil, List.set_cons_zero, List.set_cons_succ, List.take_succ_cons, List.take_zero, List.drop_succ_cons, List.drop_zero, List.nil_append, List.cons_append, List.append_nil, Option.map_some, Option.map_none, Option.bind_some, Option.bind_none, reduceIte, ↓reduceIte, decide_true, decide_false, Bool.true_and, Bool.and_true, Bool.false_and, Bool.and_false, true_and, and_true, and_self, Nat.reduceAdd, Nat.reduceLeDiff, Nat.reduceEqDiff, Nat.zero_add, Nat.add_zero, Nat.le_refl, Nat.zero_le, ge_iff_le, Nat.reduceLT, Nat.zero_lt_succ, Nat.reduceSub, if_true, if_false, forall_const, reduceCtorEq, Bool.not_true, Bool.not_false, Bool.false_eq_true, Int.reduceEq, Int.reduceLT, Int.reduceLE, Int.reduceNeg, Int.reduceToNat, Int.reduceAdd, Int.reduceSub, Nat.reduceMul, Nat.reduceEqDiff, *]
    | (refine retK_now ?_)
    | (refine retK_now' ?_)
    | (intro q hq)
    | (refine cond_intro (fun hc => ?_) (fun hc => ?_)))
    · have hi : i + 1 < G.length := of_decide_eq_true hc
      clear hc
      have hia := hLG.ia (i := i) (by rw [List.length_map]; omega)
      have hib := hLG.ia (i := i + 1) (by rw [List.length_map]; omega)
      rw [List.getElem_map] at hia hib
      have hfa := (G[i]).flat
      have hfb := (G[i + 1]).flat
      have hcc : (G[i]).cancels (G[i + 1]) = false := hred (G.take i) _ _ (G.drop (i + 2)) (by
        rw [List.getElem_cons_drop (by omega), List.getElem_cons_drop (by omega), List.take_append_drop])
      (repeat' first
    | simp (contextual := true) (maxSteps := 4000000) only [fwc, fwe, cmd_seq, opsW_gpure, drawW_pure, drawW_gpure, Env.upd_apply, Heap.upd_same, Heap.upd_apply, ite_none, List.getD_cons_zero, List.getD_cons_succ, List.getD_nil, List.length_cons, List.length_nil, List.map_cons, List.map_nil, List.getElem?_cons_zero, List.getElem?_cons_succ, List.getElem?_nil, List.set_cons_zero, List.set_cons_succ, List.take_succ_cons, List.take_zero, List.drop_succ_cons, List.drop_zero, List.nil_append, List.cons_append, List.append_nil, Option.map_some, Option.map_none, Option.bind_some, Option.bind_none, reduceIte, ↓reduceIte, decide_true, decide_false, Bool.true_and, Bool.and_true, Bool.false_and, Bool.and_false, true_and, and_true, and_self, Nat.reduceAdd, Nat.reduceLeDiff, Nat.reduceEqDiff, Nat.zero_add, Nat.add_zero, Nat.le_refl, Nat.zero_le, ge_iff_le, Nat.reduceLT, Nat.zero_lt_succ, Nat.reduceSub, if_true, if_false, forall_const, reduceCtorEq, Bool.not_true, Bool.not_false, Bool.false_eq_true, Int.reduceEq, Int.reduceLT, Int.reduceLE, Int.reduceNeg, Int.reduceToNat, Int.reduceAdd, Int.reduceSub, Nat.reduceMul, Nat.reduceEqDiff, wrap_succ, part_flat, *]
    | (refine seqK_now ?_)
    | (refine retK_now ?_)
    | (refine retK_now' ?_)
    | (intro q hq)
    | (refine cond_intro (fun hc => ?_) (fun hc => ?_)))
      refine callF_use (cancel_ok _ _) ?_
      (repeat' first
    | simp (contextual := true) (maxSteps := 4000000) only [fwc, fwe, cmd_seq, opsW_gpure, drawW_pure, drawW_gpure, Env.upd_apply, Heap.upd_same, Heap.upd_apply, ite_none, List.getD_cons_zero, List.getD_cons_succ, List.getD_nil, List.length_cons, List.length_nil, List.map_cons, List.map_nil, List.getElem?_cons_zero, List.getElem?_cons_succ, List.getElem?_nil, List.set_cons_zero, List.set_cons_succ, List.take_succ_cons, List.take_zero, List.drop_succ_cons, List.drop_zero, List.nil_append, List.cons_append, List.append_nil, Option.map_some, Option.map_none, Option.bind_some, Option.bind_none, reduceIte, ↓reduceIte, decide_true, decide_false, Bool.true_and, Bool.and_true, Bool.false_and, Bool.and_false, true_and, and_true, and_self, Nat.reduceAdd, Nat.reduceLeDiff, Nat.reduceEqDiff, Nat.zero_add, Nat.add_zero, Nat.le_refl, Nat.zero_le, ge_iff_le, Nat.reduceLT, Nat.zero_lt_succ, Nat.reduceSub, if_true, if_false, forall_const, reduceCtorEq, Bool.not_true, Bool.not_false, Bool.false_eq_true, Int.reduceEq, Int.reduceLT, Int.reduceLE, Int.reduceNeg, Int.reduceToNat, Int.reduceAdd, Int.reduceSub, Nat.reduceMul, Nat.reduceEqDiff, wrap_succ, *]
    | (refine seqK_now ?_)
    | (refine retK_now ?_)
    | (refine retK_now' ?_)
    | (intro q hq)
    | (refine cond_intro (fun hc => ?_) (fun hc => ?_)))
      refine loopK_now (G.length - (i + 1)) (by omega) ?_
      rw [hI.out]
      refine ⟨i + 1, by omega, rfl, rfl, ?_⟩
      simp (contextual := true) (maxSteps := 4000000) only [fwc, fwe, cmd_seq, opsW_gpure, drawW_pure, drawW_gpure, Env.upd_apply, Heap.upd_same, Heap.upd_apply, ite_none, List.getD_cons_zero, List.getD_cons_succ, List.getD_nil, List.length_cons, List.length_nil, List.map_cons, List.map_nil, List.getElem?_cons_zero, List.getElem?_cons_succ, List.getElem?_nil, List.set_cons_zero, List.set_cons_succ, List.take_succ_cons, List.take_zero, List.drop_succ_cons, List.drop_zero, List.nil_append, List.cons_append, List.append_nil, Option.map_some, Option.map_none, Option.bind_some, Option.bind_none, reduceIte, ↓reduceIte, decide_true, decide_false, Bool.true_and, Bool.and_true, Bool.false_and, Bool.and_false, true_and, and_true, and_self, Nat.reduceAdd, Nat.reduceLeDiff, Nat.reduceEqDiff, Nat.zero_add, Nat.add_zero, Nat.le_refl, Nat.zero_le, ge_iff_le, Nat.reduceLT, Nat.zero_lt_succ, Nat.reduceSub, if_true, if_false, forall_const, reduceCtorEq, Bool.not_true, Bool.not_false, Bool.false_eq_true, Int.reduceEq, Int.reduceLT, Int.reduceLE, Int.reduceNeg, Int.reduceToNat, Int.reduceAdd, Int.reduceSub, Nat.reduceMul, Nat.reduceEqDiff, env3b, *]
    · refine seqK_now ?_
      refine seq_go ?_
      (repeat' first
    | simp (contextual := true) (maxSteps := 4000000) only [fwc, fwe, opsW_gpure, drawW_pure, drawW_gpure, Env.upd_apply, Heap.upd_same, Heap.upd_apply, ite_none, List.getD_cons_zero, List.getD_cons_succ, List.getD_nil, List.length_cons, List.length_nil, List.map_cons, List.map_nil, List.getElem?_cons_zero, List.getElem?_cons_succ, List.getElem?_nil, List.set_cons_zero, List.set_cons_succ, List.take_succ_cons, List.take_zero, List.drop_succ_cons, List.drop_zero, List.nil_append, List.cons_append, List.append_nil, Option.map_some, Option.map_none, Option.bind_some, Option.bind_none, reduceIte, ↓reduceIte, decide_true, decide_false, Bool.true_and, Bool.and_true, Bool.false_and, Bool.and_false, true_and, and_true, and_self, Nat.reduceAdd, Nat.reduceLeDiff, Nat.reduceEqDiff, Nat.zero_add, Nat.add_zero, Nat.le_refl, Nat.zero_le, ge_iff_le, Nat.reduceLT, Nat.zero_lt_succ, Nat.reduceSub, if_true, if_false, forall_const, reduceCtorEq, Bool.not_true, Bool.not_false, Bool.false_eq_true, Int.reduceEq, Int.reduceLT, Int.reduceLE, Int.reduceNeg, Int.reduceToNat, Int.reduceAdd, Int.reduceSub, Nat.reduceMul, Nat.reduceEqDiff, *]
    | (refine retK_now ?_)
    | (refine retK_now' ?_)
    | (intro q hq)
    | (refine cond_intro (fun hc => ?_) (fun hc => ?_)))
      refine (Reduce_ok _ G hLG (by omega)).use ?_
      (repeat' first
    | simp (contextual := true) (maxSteps := 4000000) only [fwc, fwe, opsW_gpure, drawW_pure, drawW_gpure, Env.upd_apply, Heap.upd_same, Heap.upd_apply, ite_none, List.getD_cons_zero, List.getD_cons_succ, List.getD_nil, List.length_cons, List.length_nil, List.map_cons, List.map_nil, List.getElem?_cons_zero, List.getElem?_cons_succ, List.getElem?_nil, List.set_cons_zero, List.set_cons_succ, List.take_succ_cons, List.take_zero, List.drop_succ_cons, List.drop_zero, List.nil_append, List.cons_append, List.append_nil, Option.map_some, Option.map_none, Option.bind_some, Option.bind_none, reduceIte, ↓reduceIte, decide_true, decide_false, Bool.true_and, Bool.and_true, Bool.false_and, Bool.and_false, true_and, and_true, and_self, Nat.reduceAdd, Nat.reduceLeDiff, Nat.reduceEqDiff, Nat.zero_add, Nat.add_zero, Nat.le_refl, Nat.zero_le, ge_iff_le, Nat.reduceLT, Nat.zero_lt_succ, Nat.reduceSub, if_true, if_false, forall_const, reduceCtorEq, Bool.not_true, Bool.not_false, Bool.false_eq_true, Int.reduceEq, Int.reduceLT, Int.reduceLE, Int.reduceNeg, Int.reduceToNat, Int.reduceAdd, Int.reduceSub, Nat.reduceMul, Nat.reduceEqDiff, *]
    | (refine retK_now ?_)
    | (refine retK_now' ?_)
    | (intro q hq)
    | (refine cond_intro (fun hc => ?_) (fun hc => ?_)))
      refine (same_ok _ _ G G .list .list (by omega) (by omega)).use ?_
      rw [if_pos rfl]
      (repeat' first
    | simp (contextual := true) (maxSteps := 4000000) only [fwc, fwe, opsW_gpure, drawW_pure, drawW_gpure, Env.upd_apply, Heap.upd_same, Heap.upd_apply, ite_none, List.getD_cons_zero, List.getD_cons_succ, List.getD_nil, List.length_cons, List.length_nil, List.map_cons, List.map_nil, List.getElem?_cons_zero, List.getElem?_cons_succ, List.getElem?_nil, List.set_cons_zero, List.set_cons_succ, List.take_succ_cons, List.take_zero, List.drop_succ_cons, List.drop_zero, List.nil_append, List.cons_append, List.append_nil, Option.map_some, Option.map_none, Option.bind_some, Option.bind_none, reduceIte, ↓reduceIte, decide_true, decide_false, Bool.true_and, Bool.and_true, Bool.false_and, Bool.and_false, true_and, and_true, and_self, Nat.reduceAdd, Nat.reduceLeDiff, Nat.reduceEqDiff, Nat.zero_add, Nat.add_zero, Nat.le_refl, Nat.zero_le, ge_iff_le, Nat.reduceLT, Nat.zero_lt_succ, Nat.reduceSub, if_true, if_false, forall_const, reduceCtorEq, Bool.not_true, Bool.not_false, Bool.false_eq_true, Int.reduceEq, Int.reduceLT, Int.reduceLE, Int.reduceNeg, Int.reduceToNat, Int.reduceAdd, Int.reduceSub, Nat.reduceMul, Nat.reduceEqDiff, *]
    | (refine retK_now ?_)
    | (refine retK_now' ?_)
    | (intro q hq)
    | (refine cond_intro (fun hc => ?_) (fun hc => ?_)))
      refine lives_ok.use ?_
      (repeat' first
    | simp (contextual := true) (maxSteps := 4000000) only [fwc, fwe, cmd_seq, opsW_gpure, drawW_pure, drawW_gpure, Env.upd_apply, Heap.upd_same, Heap.upd_apply, ite_none, List.getD_cons_zero, List.getD_cons_succ, List.getD_nil, List.length_cons, List.length_nil, List.map_cons, List.map_nil, List.getElem?_cons_zero, List.getElem?_cons_succ, List.getElem?_nil, List.set_cons_zero, List.set_cons_succ, List.take_succ_cons, List.take_zero, List.drop_succ_cons, List.drop_zero, List.nil_append, List.cons_append, List.append_nil, Option.map_some, Option.map_none, Option.bind_some, Option.bind_none, reduceIte, ↓reduceIte, decide_true, decide_false, Bool.true_and, Bool.and_true, Bool.false_and, Bool.and_false, true_and, and_true, and_self, Nat.reduceAdd, Nat.reduceLeDiff, Nat.reduceEqDiff, Nat.zero_add, Nat.add_zero, Nat.le_refl, Nat.zero_le, ge_iff_le, Nat.reduceLT, Nat.zero_lt_succ, Nat.reduceSub, if_true, if_false, forall_const, reduceCtorEq, Bool.not_true, Bool.not_false, Bool.false_eq_true, Int.reduceEq, Int.reduceLT, Int.reduceLE, Int.reduceNeg, Int.reduceToNat, Int.reduceAdd, Int.reduceSub, Nat.reduceMul, Nat.reduceEqDiff, *]
    | (refine seqK_now ?_)
    | (refine retK_now ?_)
    | (refine retK_now' ?_)
    | (intro q hq)
    | (refine cond_intro (fun hc => ?_) (fun hc => ?_)))
      refine WeakR.pure (by repeat (first | exact Heap.sub_refl _ | refine sub_upd (by simp only [*]) ?_)) ?_
      rfl
  · intro F hF
    (repeat' first
    | simp (contextual := true) (maxSteps := 4000000) only [fwc, fwe, opsW_gpure, drawW_pure, drawW_gpure, Env.upd_apply, Heap.upd_same, Heap.upd_apply, ite_none, List.getD_cons_zero, List.getD_cons_succ, List.getD_nil, List.length_cons, List.length_nil, List.map_cons, List.map_nil, List.getElem?_cons_zero, List.getElem?_cons_succ, List.getElem?_nil, List.set_cons_zero, List.set_cons_succ, List.take_succ_cons, List.take_zero, List.drop_succ_cons, List.drop_zero, List.nil_append, List.cons_append, List.append_nil, Option.map_some, Option.map_none, Option.bind_some, Option.bind_none, reduceIte, ↓reduceIte, decide_true, decide_false, Bool.true_and, Bool.and_true, Bool.false_and, Bool.and_false, true_and, and_true, and_self, Nat.reduceAdd, Nat.reduceLeDiff, Nat.reduceEqDiff, Nat.zero_add, Nat.add_zero, Nat.le_refl, Nat.zero_le, ge_iff_le, Nat.reduceLT, Nat.zero_lt_succ, Nat.reduceSub, if_true, if_false, forall_const, reduceCtorEq, Bool.not_true, Bool.not_false, Bool.false_eq_true, Int.reduceEq, Int.reduceLT, Int.reduceLE, Int.reduceNeg, Int.reduceToNat, Int.reduceAdd, Int.reduceSub, Nat.reduceMul, Nat.reduceEqDiff, *]
    | (refine retK_now ?_)
    | (refine retK_now' ?_)
    | (intro q hq)
    | (refine cond_intro (fun hc => ?_) (fun hc => ?_)))
    refine app_list_own (hr.el _) (fits_of (by simp; omega) (by omega)) (fun h0 => ?_) (fun h0 id hid => ?_)
    · (repeat' first
    | simp (contextual := true) (maxSteps := 4000000) only [fwc, fwe, opsW_gpure, drawW_pure, drawW_gpure, Env.upd_apply, Heap.upd_same, Heap.upd_apply, ite_none, List.getD_cons_zero, List.getD_cons_succ, List.getD_nil, List.length_cons, List.length_nil, List.map_cons, List.map_nil, List.getElem?_cons_zero, List.getElem?_cons_succ, List.getElem?_nil, List.set_cons_zero, List.set_cons_succ, List.take_succ_cons, List.take_zero, List.drop_succ_cons, List.drop_zero, List.nil_append, List.cons_append, List.append_nil, Option.map_some, Option.map_none, Option.bind_some, Option.bind_none, reduceIte, ↓reduceIte, decide_true, decide_false, Bool.true_and, Bool.and_true, Bool.false_and, Bool.and_false, true_and, and_true, and_self, Nat.reduceAdd, Nat.reduceLeDiff, Nat.reduceEqDiff, Nat.zero_add, Nat.add_zero, Nat.le_refl, Nat.zero_le, ge_iff_le, Nat.reduceLT, Nat.zero_lt_succ, Nat.reduceSub, if_true, if_false, forall_const, reduceCtorEq, Bool.not_true, Bool.not_false, Bool.false_eq_true, Int.reduceEq, Int.reduceLT, Int.reduceLE, Int.reduceNeg, Int.reduceToNat, Int.reduceAdd, Int.reduceSub, Nat.reduceMul, Nat.reduceEqDiff, *]
    | (refine retK_now ?_)
    | (refine retK_now' ?_)
    | (intro q hq)
    | (refine cond_intro (fun hc => ?_) (fun hc => ?_)))
      refine (Of_ok l X hx (by omega)).use ?_
      (repeat' first
    | simp (contextual := true) (maxSteps := 4000000) only [fwc, fwe, opsW_gpure, drawW_pure, drawW_gpure, Env.upd_apply, Heap.upd_same, Heap.upd_apply, ite_none, List.getD_cons_zero, List.getD_cons_succ, List.getD_nil, List.length_cons, List.length_nil, List.map_cons, List.map_nil, List.getElem?_cons_zero, List.getElem?_cons_succ, List.getElem?_nil, List.set_cons_zero, List.set_cons_succ, List.take_succ_cons, List.take_zero, List.drop_succ_cons, List.drop_zero, List.nil_append, List.cons_append, List.append_nil, Option.map_some, Option.map_none, Option.bind_some, Option.bind_none, reduceIte, ↓reduceIte, decide_true, decide_false, Bool.true_and, Bool.and_true, Bool.false_and, Bool.and_false, true_and, and_true, and_self, Nat.reduceAdd, Nat.reduceLeDiff, Nat.reduceEqDiff, Nat.zero_add, Nat.add_zero, Nat.le_refl, Nat.zero_le, ge_iff_le, Nat.reduceLT, Nat.zero_lt_succ, Nat.reduceSub, if_true, if_false, forall_const, reduceCtorEq, Bool.not_true, Bool.not_false, Bool.false_eq_true, Int.reduceEq, Int.reduceLT, Int.reduceLE, Int.reduceNeg, Int.reduceToNat, Int.reduceAdd, Int.reduceSub, Nat.reduceMul, Nat.reduceEqDiff, *]
    | (refine retK_now ?_)
    | (refine retK_now' ?_)
    | (intro q hq)
    | (refine cond_intro (fun hc => ?_) (fun hc => ?_)))
      refine app_list (hS.el _) ?_ ?_
      · have := ofL_len X
        exact fits_of (by simp only [List.length_nil, List.length_cons, Nat.zero_add, List.length_map, List.length_append, List.length_take, List.length_drop]; omega) (by omega)
      (repeat' first
    | simp (contextual := true) (maxSteps := 4000000) only [fwc, fwe, opsW_gpure, drawW_pure, drawW_gpure, Env.upd_apply, Heap.upd_same, Heap.upd_apply, ite_none, List.getD_cons_zero, List.getD_cons_succ, List.getD_nil, List.length_cons, List.length_nil, List.map_cons, List.map_nil, List.getElem?_cons_zero, List.getElem?_cons_succ, List.getElem?_nil, List.set_cons_zero, List.set_cons_succ, List.take_succ_cons, List.take_zero, List.drop_succ_cons, List.drop_zero, List.nil_append, List.cons_append, List.append_nil, Option.map_some, Option.map_none, Option.bind_some, Option.bind_none, reduceIte, ↓reduceIte, decide_true, decide_false, Bool.true_and, Bool.and_true, Bool.false_and, Bool.and_false, true_and, and_true, and_self, Nat.reduceAdd, Nat.reduceLeDiff, Nat.reduceEqDiff, Nat.zero_add, Nat.add_zero, Nat.le_refl, Nat.zero_le, ge_iff_le, Nat.reduceLT, Nat.zero_lt_succ, Nat.reduceSub, if_true, if_false, forall_const, reduceCtorEq, Bool.not_true, Bool.not_false, Bool.false_eq_true, Int.reduceEq, Int.reduceLT, Int.reduceLE, Int.reduceNeg, Int.reduceToNat, Int.reduceAdd, Int.reduceSub, Nat.reduceMul, Nat.reduceEqDiff, *]
    | (refine retK_now ?_)
    | (refine retK_now' ?_)
    | (intro q hq)
    | (refine cond_intro (fun hc => ?_) (fun hc => ?_)))
      refine seqK_now ?_
      simp (contextual := true) (maxSteps := 4000000) only [fwc, fwe, cmd_seq, opsW_gpure, drawW_pure, drawW_gpure, Env.upd_apply, Heap.upd_same, Heap.upd_apply, ite_none, List.getD_cons_zero, List.getD_cons_succ, List.getD_nil, List.length_cons, List.length_nil, List.map_cons, List.map_nil, List.getElem?_cons_zero, List.getElem?_cons_succ, List.getElem?_nil, List.set_cons_zero, List.set_cons_succ, List.take_succ_cons, List.take_zero, List.drop_succ_cons, List.drop_zero, List.nil_append, List.cons_append, List.append_nil, Option.map_some, Option.map_none, Option.bind_some, Option.bind_none, reduceIte, ↓reduceIte, decide_true, decide_false, Bool.true_and, Bool.and_true, Bool.false_and, Bool.and_false, true_and, and_true, and_self, Nat.reduceAdd, Nat.reduceLeDiff, Nat.reduceEqDiff, Nat.zero_add, Nat.add_zero, Nat.le_refl, Nat.zero_le, ge_iff_le, Nat.reduceLT, Nat.zero_lt_succ, Nat.reduceSub, if_true, if_false, forall_const, reduceCtorEq, Bool.not_true, Bool.not_false, Bool.false_eq_true, Int.reduceEq, Int.reduceLT, Int.reduceLE, Int.reduceNeg, Int.reduceToNat, Int.reduceAdd, Int.reduceSub, Nat.reduceMul, Nat.reduceEqDiff, *]
      have : R = [] := by simpa using h0
      subst this
      exact hF
    · (repeat' first
    | simp (contextual := true) (maxSteps := 4000000) only [fwc, fwe, opsW_gpure, drawW_pure, drawW_gpure, Env.upd_apply, Heap.upd_same, Heap.upd_apply, ite_none, List.getD_cons_zero, List.getD_cons_succ, List.getD_nil, List.length_cons, List.length_nil, List.map_cons, List.map_nil, List.getElem?_cons_zero, List.getElem?_cons_succ, List.getElem?_nil, List.set_cons_zero, List.set_cons_succ, List.take_succ_cons, List.take_zero, List.drop_succ_cons, List.drop_zero, List.nil_append, List.cons_append, List.append_nil, Option.map_some, Option.map_none, Option.bind_some, Option.bind_none, reduceIte, ↓reduceIte, decide_true, decide_false, Bool.true_and, Bool.and_true, Bool.false_and, Bool.and_false, true_and, and_true, and_self, Nat.reduceAdd, Nat.reduceLeDiff, Nat.reduceEqDiff, Nat.zero_add, Nat.add_zero, Nat.le_refl, Nat.zero_le, ge_iff_le, Nat.reduceLT, Nat.zero_lt_succ, Nat.reduceSub, if_true, if_false, forall_const, reduceCtorEq, Bool.not_true, Bool.not_false, Bool.false_eq_true, Int.reduceEq, Int.reduceLT, Int.reduceLE, Int.reduceNeg, Int.reduceToNat, Int.reduceAdd, Int.reduceSub, Nat.reduceMul, Nat.reduceEqDiff, *]
    | (refine retK_now ?_)
    | (refine retK_now' ?_)
    | (intro q hq)
    | (refine cond_intro (fun hc => ?_) (fun hc => ?_)))
      refine (Of_ok l X hx (by omega)).use ?_
      (repeat' first
    | simp (contextual := true) (maxSteps := 4000000) only [fwc, fwe, opsW_gpure, drawW_pure, drawW_gpure, Env.upd_apply, Heap.upd_same, Heap.upd_apply, ite_none, List.getD_cons_zero, List.getD_cons_succ, List.getD_nil, List.length_cons, List.length_nil, List.map_cons, List.map_nil, List.getElem?_cons_zero, List.getElem?_cons_succ, List.getElem?_nil, List.set_cons_zero, List.set_cons_succ, List.take_succ_cons, List.take_zero, List.drop_succ_cons, List.drop_zero, List.nil_append, List.cons_append, List.append_nil, Option.map_some, Option.map_none, Option.bind_some, Option.bind_none, reduceIte, ↓reduceIte, decide_true, decide_false, Bool.true_and, Bool.and_true, Bool.false_and, Bool.and_false, true_and, and_true, and_self, Nat.reduceAdd, Nat.reduceLeDiff, Nat.reduceEqDiff, Nat.zero_add, Nat.add_zero, Nat.le_refl, Nat.zero_le, ge_iff_le, Nat.reduceLT, Nat.zero_lt_succ, Nat.reduceSub, if_true, if_false, forall_const, reduceCtorEq, Bool.not_true, Bool.not_false, Bool.false_eq_true, Int.reduceEq, Int.reduceLT, Int.reduceLE, Int.reduceNeg, Int.reduceToNat, Int.reduceAdd, Int.reduceSub, Nat.reduceMul, Nat.reduceEqDiff, *]
    | (refine retK_now ?_)
    | (refine retK_now' ?_)
    | (intro q hq)
    | (refine cond_intro (fun hc => ?_) (fun hc => ?_)))
      refine app_move (hS.el _) (Heap.upd_same _ _ _) (by simp) ?_ ?_
      · have := ofL_len X
        exact fits_of (by simp only [List.length_nil, List.length_cons, Nat.zero_add, List.length_map, List.length_append, List.length_take, List.length_drop]; omega) (by omega)
      intro id' hid'
      rw [upd_none] at hid'
      rw [del_upd_new hid]
      (repeat' first
    | simp (contextual := true) (maxSteps := 4000000) only [fwc, fwe, opsW_gpure, drawW_pure, drawW_gpure, Env.upd_apply, Heap.upd_same, Heap.upd_apply, ite_none, List.getD_cons_zero, List.getD_cons_succ, List.getD_nil, List.length_cons, List.length_nil, List.map_cons, List.map_nil, List.getElem?_cons_zero, List.getElem?_cons_succ, List.getElem?_nil, List.set_cons_zero, List.set_cons_succ, List.take_succ_cons, List.take_zero, List.drop_succ_cons, List.drop_zero, List.nil_append, List.cons_append, List.append_nil, Option.map_some, Option.map_none, Option.bind_some, Option.bind_none, reduceIte, ↓reduceIte, decide_true, decide_false, Bool.true_and, Bool.and_true, Bool.false_and, Bool.and_false, true_and, and_true, and_self, Nat.reduceAdd, Nat.reduceLeDiff, Nat.reduceEqDiff, Nat.zero_add, Nat.add_zero, Nat.le_refl, Nat.zero_le, ge_iff_le, Nat.reduceLT, Nat.zero_lt_succ, Nat.reduceSub, if_true, if_false, forall_const, reduceCtorEq, Bool.not_true, Bool.not_false, Bool.false_eq_true, Int.reduceEq, Int.reduceLT, Int.reduceLE, Int.reduceNeg, Int.reduceToNat, Int.reduceAdd, Int.reduceSub, Nat.reduceMul, Nat.reduceEqDiff, *]
    | (refine retK_now ?_)
    | (refine retK_now' ?_)
    | (intro q hq)
    | (refine cond_intro (fun hc => ?_) (fun hc => ?_)))
      refine seqK_fz 5 id' 4 33 _ _ none false (Heap.upd_same _ _ _) rfl (by simp) (fun h => by cases h) ?_
      rw [del_upd_new hid'.2.2]
      simp (contextual := true) (maxSteps := 4000000) only [fwc, fwe, cmd_seq, opsW_gpure, drawW_pure, drawW_gpure, Env.upd_apply, Heap.upd_same, Heap.upd_apply, ite_none, List.getD_cons_zero, List.getD_cons_succ, List.getD_nil, List.length_cons, List.length_nil, List.map_cons, List.map_nil, List.getElem?_cons_zero, List.getElem?_cons_succ, List.getElem?_nil, List.set_cons_zero, List.set_cons_succ, List.take_succ_cons, List.take_zero, List.drop_succ_cons, List.drop_zero, List.nil_append, List.cons_append, List.append_nil, Option.map_some, Option.map_none, Option.bind_some, Option.bind_none, reduceIte, ↓reduceIte, decide_true, decide_false, Bool.true_and, Bool.and_true, Bool.false_and, Bool.and_false, true_and, and_true, and_self, Nat.reduceAdd, Nat.reduceLeDiff, Nat.reduceEqDiff, Nat.zero_add, Nat.add_zero, Nat.le_refl, Nat.zero_le, ge_iff_le, Nat.reduceLT, Nat.zero_lt_succ, Nat.reduceSub, if_true, if_false, forall_const, reduceCtorEq, Bool.not_true, Bool.not_false, Bool.false_eq_true, Int.reduceEq, Int.reduceLT, Int.reduceLE, Int.reduceNeg, Int.reduceToNat, Int.reduceAdd, Int.reduceSub, Nat.reduceMul, Nat.reduceEqDiff, *]
      rw [List.take_of_length_le (by simp), List.take_of_length_le (by simp), map_append_av]
      exact hF
end Go.Proofs.Ytkagdnkbghnckaa

namespace Go.Proofs.Ytkagdnkbghnckaa
open Go.Ab Go.ChangeShapes Go.WideShapes Go.ChangeAt Go.RowKit

theorem own : ownKnob Try.prog.godebug = none := by kernel_rfl
theorem laid : laidOutB Try.prog = true := by kernel_rfl

def layP : Lay := .slice false (.int .u8 .nil) .nil
def layR : Lay := .slice true (.int .u8 (.int .i64 (.bool (.int .u8 .nil)))) .nil

theorem wf_u8 {n : Int} (h : (Lit.int .u8 n).wf = true) : 0 ≤ n ∧ n ≤ 255 := by
  simpa [Lit.wf, IntKind.min, IntKind.max, IntKind.signed, IntKind.bits] using h
theorem wf_i64 {n : Int} (h : (Lit.int .i64 n).wf = true) : -9223372036854775808 ≤ n ∧ n ≤ 9223372036854775807 := by
  simpa [Lit.wf, IntKind.min, IntKind.max, IntKind.signed, IntKind.bits] using h

theorem open_P {s : AV} (h : LayOK layP [s]) : ∃ X : List Int, IsL 1 s (X.map u8) ∧ ∀ x ∈ X, 0 ≤ x ∧ x ≤ 255 := by
  obtain ⟨s', l, vs', e, h1, _, h3, h4⟩ := h
  simp only [List.cons.injEq] at e
  obtain ⟨rfl, _⟩ := e
  obtain ⟨X, rfl, hX⟩ := map_of_all (f := u8) (Q := fun x => 0 ≤ x ∧ x ≤ 255) (l := l) (fun x hx => by
    obtain ⟨es, rfl, n, vs', e, hw, _⟩ := h3 x hx
    simp only [List.cons.injEq] at e
    exact ⟨n, e.1, wf_u8 hw⟩)
  exact ⟨X, h1, hX⟩

theorem open_R {s : AV} (h : LayOK layR [s]) : ∃ R : List Pass, IsL 4 s (R.map Pass.av) ∧ ∀ p ∈ R, (0 ≤ p.yarn ∧ p.yarn ≤ 255) ∧ (-9223372036854775808 ≤ p.n ∧ p.n ≤ 9223372036854775807) ∧ 0 ≤ p.dir ∧ p.dir ≤ 255 := by
  obtain ⟨s', l, vs', e, h1, _, h3, h4⟩ := h
  simp only [List.cons.injEq] at e
  obtain ⟨rfl, _⟩ := e
  obtain ⟨X, rfl, hX⟩ := map_of_all (f := Pass.av) (Q := fun p => (0 ≤ p.yarn ∧ p.yarn ≤ 255) ∧ (-9223372036854775808 ≤ p.n ∧ p.n ≤ 9223372036854775807) ∧ 0 ≤ p.dir ∧ p.dir ≤ 255) (l := l) (fun x hx => by
    obtain ⟨es, rfl, y, vs', rfl, hw1, n, vs', rfl, hw2, b, vs', rfl, d, vs', rfl, hw4, rfl⟩ := h3 x hx
    exact ⟨⟨y, n, b, d⟩, rfl, wf_u8 hw1, wf_i64 hw2, wf_u8 hw4⟩)
  exact ⟨X, h1, hX⟩

theorem nn_ofL {X : List Int} (hX : ∀ x ∈ X, 0 ≤ x ∧ x ≤ 255) : Nn (ofL X) := by
  intro p hp
  obtain ⟨x, hx, rfl⟩ := List.mem_map.1 hp
  have := hX x hx
  show 0 ≤ x.tmod 2
  exact Int.tmod_nonneg _ this.1
theorem Nn.app {A B : List Pass} (h : Nn A) (k : Nn B) : Nn (A ++ B) := fun p hp => (List.mem_append.1 hp).elim (h p) (k p)

theorem YarnsReduce_args (vs : List AV) (h : ArgsOK [(false, layP), (false, layR)] vs) : PureA Try.prog 3 vs (.val (.bool true)) := by
  obtain ⟨a, vs', es, rfl, rfl, h1, b, vs', es, rfl, rfl, h2, rfl⟩ := h
  obtain ⟨X, hX, hX'⟩ := open_P h1
  obtain ⟨R, hR, hR'⟩ := open_R h2
  exact YarnsReduce_ok a b X R hX hR (Nn.app (fun p hp => (hR' p hp).2.2.1) (nn_ofL hX'))

set_option maxRecDepth 100000 in
theorem YarnsReduce_lifted (os : Os) (started : os.Started) (H : Type) (enc : TypeId × Value → H) :
    ReturnsInHanded {} Try.checked os 3 .any (Rows.yarnsReduceSpec.pre6 enc Try.prog Try.f3 Rows.yarnsReduceRow.domain false) (Rows.yarnsReduceSpec.post enc Try.prog Try.f3 false true false false) := by
  refine returnsInHanded_of_change (C := Try.checked) own started (by kernel_rfl) Try.func3
    (ChangeSpec.witness6 (enc := enc) (C := Try.checked) false ⟨#[], #[.slice none 0 0, .slice none 0 0], []⟩ 8 (by kernel_rfl) (by kernel_rfl) (by kernel_rfl) (by kernel_rfl)) ?_
  intro W base args ds gs before hval hW _ _
  exact law_calls (lays := [(false, layP), (false, layR)]) laid (of_decide_eq_true (by kernel_rfl)) (by kernel_rfl) (by kernel_rfl) rfl (fun ds hds => by
    match ds, hds with
    | [d1, d2], _ => rfl) YarnsReduce_args W base args ds gs before hval hW

theorem YarnsReduce_holds : Rows.YarnsReduceSaid :=
  OpenClaim.holds_of_wide 3 Try.f3 rfl rfl rfl rfl rfl rfl rfl ⟨rfl, rfl, rfl, rfl, rfl⟩ rfl rfl rfl rfl rfl (by kernel_rfl) Try.func3 (by kernel_rfl)
    (of_decide_eq_true (by kernel_rfl)) (by unfold Func.isWrapper; first | (rw [if_pos (by decide +kernel)]; kernel_rfl) | (rw [if_neg (by decide +kernel)]; exact ⟨rfl, rfl⟩))
    (fun os started H enc _ => YarnsReduce_lifted os started H enc)
end Go.Proofs.Ytkagdnkbghnckaa
