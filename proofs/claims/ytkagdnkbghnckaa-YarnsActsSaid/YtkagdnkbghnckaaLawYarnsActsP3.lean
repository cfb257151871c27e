/- The law YarnsActs of the given program: for every input the call returns true, and its arguments read as before. Here: contracts of functions, and the law. -/
import Derived.Test.YtkagdnkbghnckaaLawYarnsActsP2
set_option linter.unusedSimpArgs false
set_option linter.unusedVariables false
namespace Go.Proofs.Ytkagdnkbghnckaa
open Go.Ab
attribute [local irreducible] WeakR WeakE CallA

def yav (b : Bool) (p c : Int) (n : Bool) (s : AV) : AV := .agg [.val (.bool b), .val (.int .i64 p), .val (.int .i64 c), .val (.bool n), s]
def env8 (q : Nat) (g : Bool) (k : Nat) : Env := ((Env.upd (fun _ => .junk) 6 (.val (.int .i64 k))).upd 5 (.val (.bool g))).upd 2 (.optr q 5 0 0)

set_option maxHeartbeats 4000000 in
theorem YarnsCheck_ok (b : Bool) (p c : Int) (n : Bool) (s : AV) (L : List Pass) (hs : IsL 4 s (L.map Pass.av)) (hn : Nn L) (y m : Int) :
    PureA Try.prog 8 [.agg [.val (.bool b), .val (.int .i64 p), .val (.int .i64 c), .val (.bool n), s], .agg [.val (.int .u8 y), .val (.int .i64 m)]] (.val (.bool true)) := by
  intro O
  have h1 := hs.len
  have h2 := hs.cells
  have h3 := hs.stor
  rw [List.length_map] at h1
  have hn := (show Aside _ from hn)
  refine k8.call mix ?_
  unfold c8
  refine seq_go ?_
  (repeat' first
    | simp (contextual := true) (maxSteps := 4000000) only [fwc, fwe, opsW_gpure, drawW_pure, drawW_gpure, Env.upd_apply, Heap.upd_same, Heap.upd_apply, ite_none, List.getD_cons_zero, List.getD_cons_succ, List.getD_nil, List.length_cons, List.length_nil, List.map_cons, List.map_nil, List.getElem?_cons_zero, List.getElem?_cons_succ, List.getElem?_nil, List.set_cons_zero, List.set_cons_succ, List.take_succ_cons, List.take_zero, List.drop_succ_cons, List.drop_zero, List.nil_append, List.cons_append, List.append_nil, Option.map_some, Option.map_none, Option.bind_some, Option.bind_none, reduceIte, ↓reduceIte, decide_true, decide_false, Bool.true_and, Bool.and_true, Bool.false_and, Bool.and_false, true_and, and_true, and_self, Nat.reduceAdd, Nat.reduceLeDiff, Nat.reduceEqDiff, Nat.zero_add, Nat.add_zero, Nat.le_refl, Nat.zero_le, ge_iff_le, Nat.reduceLT, Nat.zero_lt_succ, Nat.reduceSub, if_true, if_false, forall_const, reduceCtorEq, Bool.not_true, Bool.not_false, Bool.false_eq_true, Int.reduceEq, Int.reduceLT, Int.reduceLE, Int.reduceNeg, Int.reduceToNat, Int.reduceAdd, Int.reduceSub, Nat.reduceMul, Nat.reduceEqDiff, gW_un, gcF_un, gcA_un, *]
    | (refine retK_now ?_)
    | (refine retK_now' ?_)
    | (intro q hq)
    | (refine cond_intro (fun hc => ?_) (fun hc => ?_)))
  refine seqK_now ?_
  refine seq_go ?_
  refine seq_go ?_
  (repeat' first
    | simp (contextual := true) (maxSteps := 4000000) only [fwc, fwe, opsW_gpure, drawW_pure, drawW_gpure, Env.upd_apply, Heap.upd_same, Heap.upd_apply, ite_none, List.getD_cons_zero, List.getD_cons_succ, List.getD_nil, List.length_cons, List.length_nil, List.map_cons, List.map_nil, List.getElem?_cons_zero, List.getElem?_cons_succ, List.getElem?_nil, List.set_cons_zero, List.set_cons_succ, List.take_succ_cons, List.take_zero, List.drop_succ_cons, List.drop_zero, List.nil_append, List.cons_append, List.append_nil, Option.map_some, Option.map_none, Option.bind_some, Option.bind_none, reduceIte, ↓reduceIte, decide_true, decide_false, Bool.true_and, Bool.and_true, Bool.false_and, Bool.and_false, true_and, and_true, and_self, Nat.reduceAdd, Nat.reduceLeDiff, Nat.reduceEqDiff, Nat.zero_add, Nat.add_zero, Nat.le_refl, Nat.zero_le, ge_iff_le, Nat.reduceLT, Nat.zero_lt_succ, Nat.reduceSub, if_true, if_false, forall_const, reduceCtorEq, Bool.not_true, Bool.not_false, Bool.false_eq_true, Int.reduceEq, Int.reduceLT, Int.reduceLE, Int.reduceNeg, Int.reduceToNat, Int.reduceAdd, Int.reduceSub, Nat.reduceMul, Nat.reduceEqDiff, gW_un, gcF_un, gcA_un, *]
    | (refine retK_now ?_)
    | (refine retK_now' ?_)
    | (intro q hq)
    | (refine cond_intro (fun hc => ?_) (fun hc => ?_)))
  refine seqK_now ?_
  (repeat' first
    | simp (contextual := true) (maxSteps := 4000000) only [fwc, fwe, opsW_gpure, drawW_pure, drawW_gpure, Env.upd_apply, Heap.upd_same, Heap.upd_apply, ite_none, List.getD_cons_zero, List.getD_cons_succ, List.getD_nil, List.length_cons, List.length_nil, List.map_cons, List.map_nil, List.getElem?_cons_zero, List.getElem?_cons_succ, List.getElem?_nil, List.set_cons_zero, List.set_cons_succ, List.take_succ_cons, List.take_zero, List.drop_succ_cons, List.drop_zero, List.nil_append, List.cons_append, List.append_nil, Option.map_some, Option.map_none, Option.bind_some, Option.bind_none, reduceIte, ↓reduceIte, decide_true, decide_false, Bool.true_and, Bool.and_true, Bool.false_and, Bool.and_false, true_and, and_true, and_self, Nat.reduceAdd, Nat.reduceLeDiff, Nat.reduceEqDiff, Nat.zero_add, Nat.add_zero, Nat.le_refl, Nat.zero_le, ge_iff_le, Nat.reduceLT, Nat.zero_lt_succ, Nat.reduceSub, if_true, if_false, forall_const, reduceCtorEq, Bool.not_true, Bool.not_false, Bool.false_eq_true, Int.reduceEq, Int.reduceLT, Int.reduceLE, Int.reduceNeg, Int.reduceToNat, Int.reduceAdd, Int.reduceSub, Nat.reduceMul, Nat.reduceEqDiff, gW_un, gcF_un, gcA_un, *]
    | (refine retK_now ?_)
    | (refine retK_now' ?_)
    | (intro q hq)
    | (refine cond_intro (fun hc => ?_) (fun hc => ?_)))
  · refine seq_go ?_
    (repeat' first
    | simp (contextual := true) (maxSteps := 4000000) only [fwc, fwe, opsW_gpure, drawW_pure, drawW_gpure, Env.upd_apply, Heap.upd_same, Heap.upd_apply, ite_none, List.getD_cons_zero, List.getD_cons_succ, List.getD_nil, List.length_cons, List.length_nil, List.map_cons, List.map_nil, List.getElem?_cons_zero, List.getElem?_cons_succ, List.getElem?_nil, List.set_cons_zero, List.set_cons_succ, List.take_succ_cons, List.take_zero, List.drop_succ_cons, List.drop_zero, List.nil_append, List.cons_append, List.append_nil, Option.map_some, Option.map_none, Option.bind_some, Option.bind_none, reduceIte, ↓reduceIte, decide_true, decide_false, Bool.true_and, Bool.and_true, Bool.false_and, Bool.and_false, true_and, and_true, and_self, Nat.reduceAdd, Nat.reduceLeDiff, Nat.reduceEqDiff, Nat.zero_add, Nat.add_zero, Nat.le_refl, Nat.zero_le, ge_iff_le, Nat.reduceLT, Nat.zero_lt_succ, Nat.reduceSub, if_true, if_false, forall_const, reduceCtorEq, Bool.not_true, Bool.not_false, Bool.false_eq_true, Int.reduceEq, Int.reduceLT, Int.reduceLE, Int.reduceNeg, Int.reduceToNat, Int.reduceAdd, Int.reduceSub, Nat.reduceMul, Nat.reduceEqDiff, gW_un, gcF_un, gcA_un, *]
    | (refine retK_now ?_)
    | (refine retK_now' ?_)
    | (intro q hq)
    | (refine cond_intro (fun hc => ?_) (fun hc => ?_)))
    refine lives_ok.use ?_
    (repeat' first
    | simp (contextual := true) (maxSteps := 4000000) only [fwc, fwe, cmd_seq, opsW_gpure, drawW_pure, drawW_gpure, Env.upd_apply, Heap.upd_same, Heap.upd_apply, ite_none, List.getD_cons_zero, List.getD_cons_succ, List.getD_nil, List.length_cons, List.length_nil, List.map_cons, List.map_nil, List.getElem?_cons_zero, List.getElem?_cons_succ, List.getElem?_nil, List.set_cons_zero, List.set_cons_succ, List.take_succ_cons, List.take_zero, List.drop_succ_cons, List.drop_zero, List.nil_append, List.cons_append, List.append_nil, Option.map_some, Option.map_none, Option.bind_some, Option.bind_none, reduceIte, ↓reduceIte, decide_true, decide_false, Bool.true_and, Bool.and_true, Bool.false_and, Bool.and_false, true_and, and_true, and_self, Nat.reduceAdd, Nat.reduceLeDiff, Nat.reduceEqDiff, Nat.zero_add, Nat.add_zero, Nat.le_refl, Nat.zero_le, ge_iff_le, Nat.reduceLT, Nat.zero_lt_succ, Nat.reduceSub, if_true, if_false, forall_const, reduceCtorEq, Bool.not_true, Bool.not_false, Bool.false_eq_true, Int.reduceEq, Int.reduceLT, Int.reduceLE, Int.reduceNeg, Int.reduceToNat, Int.reduceAdd, Int.reduceSub, Nat.reduceMul, Nat.reduceEqDiff, gW_un, gcF_un, gcA_un, *]
    | (refine seqK_now ?_)
    | (refine retK_now ?_)
    | (refine retK_now' ?_)
    | (intro q hq)
    | (refine cond_intro (fun hc => ?_) (fun hc => ?_)))
    refine WeakR.pure (by repeat (first | exact Heap.sub_refl _ | refine sub_upd (by simp only [*]) ?_)) ?_
    rfl
  have hl : L.length ≤ 20 := by
    have := of_decide_eq_false hc
    omega
  clear hc
  refine seqK_now ?_
  refine seq_go ?_
  refine seq_go ?_
  (repeat' first
    | simp (contextual := true) (maxSteps := 4000000) only [fwc, fwe, opsW_gpure, drawW_pure, drawW_gpure, Env.upd_apply, Heap.upd_same, Heap.upd_apply, ite_none, List.getD_cons_zero, List.getD_cons_succ, List.getD_nil, List.length_cons, List.length_nil, List.map_cons, List.map_nil, List.getElem?_cons_zero, List.getElem?_cons_succ, List.getElem?_nil, List.set_cons_zero, List.set_cons_succ, List.take_succ_cons, List.take_zero, List.drop_succ_cons, List.drop_zero, List.nil_append, List.cons_append, List.append_nil, Option.map_some, Option.map_none, Option.bind_some, Option.bind_none, reduceIte, ↓reduceIte, decide_true, decide_false, Bool.true_and, Bool.and_true, Bool.false_and, Bool.and_false, true_and, and_true, and_self, Nat.reduceAdd, Nat.reduceLeDiff, Nat.reduceEqDiff, Nat.zero_add, Nat.add_zero, Nat.le_refl, Nat.zero_le, ge_iff_le, Nat.reduceLT, Nat.zero_lt_succ, Nat.reduceSub, if_true, if_false, forall_const, reduceCtorEq, Bool.not_true, Bool.not_false, Bool.false_eq_true, Int.reduceEq, Int.reduceLT, Int.reduceLE, Int.reduceNeg, Int.reduceToNat, Int.reduceAdd, Int.reduceSub, Nat.reduceMul, Nat.reduceEqDiff, gW_un, gcF_un, gcA_un, *]
    | (refine retK_now ?_)
    | (refine retK_now' ?_)
    | (intro q hq)
    | (refine cond_intro (fun hc => ?_) (fun hc => ?_)))
  refine callF_use (Named_ok y m) ?_
  (repeat' first
    | simp (contextual := true) (maxSteps := 4000000) only [fwc, fwe, opsW_gpure, drawW_pure, drawW_gpure, Env.upd_apply, Heap.upd_same, Heap.upd_apply, ite_none, List.getD_cons_zero, List.getD_cons_succ, List.getD_nil, List.length_cons, List.length_nil, List.map_cons, List.map_nil, List.getElem?_cons_zero, List.getElem?_cons_succ, List.getElem?_nil, List.set_cons_zero, List.set_cons_succ, List.take_succ_cons, List.take_zero, List.drop_succ_cons, List.drop_zero, List.nil_append, List.cons_append, List.append_nil, Option.map_some, Option.map_none, Option.bind_some, Option.bind_none, reduceIte, ↓reduceIte, decide_true, decide_false, Bool.true_and, Bool.and_true, Bool.false_and, Bool.and_false, true_and, and_true, and_self, Nat.reduceAdd, Nat.reduceLeDiff, Nat.reduceEqDiff, Nat.zero_add, Nat.add_zero, Nat.le_refl, Nat.zero_le, ge_iff_le, Nat.reduceLT, Nat.zero_lt_succ, Nat.reduceSub, if_true, if_false, forall_const, reduceCtorEq, Bool.not_true, Bool.not_false, Bool.false_eq_true, Int.reduceEq, Int.reduceLT, Int.reduceLE, Int.reduceNeg, Int.reduceToNat, Int.reduceAdd, Int.reduceSub, Nat.reduceMul, Nat.reduceEqDiff, gW_un, gcF_un, gcA_un, named, beq_self_eq_true, *]
    | (refine retK_now ?_)
    | (refine retK_now' ?_)
    | (intro q hq)
    | (refine cond_intro (fun hc => ?_) (fun hc => ?_)))
  refine seqK_now ?_
  (repeat' first
    | simp (contextual := true) (maxSteps := 4000000) only [fwc, fwe, opsW_gpure, drawW_pure, drawW_gpure, Env.upd_apply, Heap.upd_same, Heap.upd_apply, ite_none, List.getD_cons_zero, List.getD_cons_succ, List.getD_nil, List.length_cons, List.length_nil, List.map_cons, List.map_nil, List.getElem?_cons_zero, List.getElem?_cons_succ, List.getElem?_nil, List.set_cons_zero, List.set_cons_succ, List.take_succ_cons, List.take_zero, List.drop_succ_cons, List.drop_zero, List.nil_append, List.cons_append, List.append_nil, Option.map_some, Option.map_none, Option.bind_some, Option.bind_none, reduceIte, ↓reduceIte, decide_true, decide_false, Bool.true_and, Bool.and_true, Bool.false_and, Bool.and_false, true_and, and_true, and_self, Nat.reduceAdd, Nat.reduceLeDiff, Nat.reduceEqDiff, Nat.zero_add, Nat.add_zero, Nat.le_refl, Nat.zero_le, ge_iff_le, Nat.reduceLT, Nat.zero_lt_succ, Nat.reduceSub, if_true, if_false, forall_const, reduceCtorEq, Bool.not_true, Bool.not_false, Bool.false_eq_true, Int.reduceEq, Int.reduceLT, Int.reduceLE, Int.reduceNeg, Int.reduceToNat, Int.reduceAdd, Int.reduceSub, Nat.reduceMul, Nat.reduceEqDiff, gW_un, gcF_un, gcA_un, *]
    | (refine retK_now ?_)
    | (refine retK_now' ?_)
    | (intro q hq)
    | (refine cond_intro (fun hc => ?_) (fun hc => ?_)))
  refine seqK_now ?_
  rename_i q1 hq1
  have hck := checkL_iff (b := b) (p := p) (c := c) (n := n) (L := L) hn.out hl
  have hE := Enter_ok b p c n s L 0 hs (by omega)
  have hLv := Leave_ok b p c n s L hs (by omega)
  have hGo := Go_ok b p c n s L 7 _ [] hs .nil (by omega) (by simp)
  have hMk := Make_ok b p c n s L hs (by omega)
  have hCk := Check_ok b p c n s L hs (by omega)
  unfold yarnA at hE hLv hGo hMk hCk
  cases b
  · refine seq_go ?_
    (repeat' first
    | simp (contextual := true) (maxSteps := 4000000) only [fwc, fwe, opsW_gpure, drawW_pure, drawW_gpure, Env.upd_apply, Heap.upd_same, Heap.upd_apply, ite_none, List.getD_cons_zero, List.getD_cons_succ, List.getD_nil, List.length_cons, List.length_nil, List.map_cons, List.map_nil, List.getElem?_cons_zero, List.getElem?_cons_succ, List.getElem?_nil, List.set_cons_zero, List.set_cons_succ, List.take_succ_cons, List.take_zero, List.drop_succ_cons, List.drop_zero, List.nil_append, List.cons_append, List.append_nil, Option.map_some, Option.map_none, Option.bind_some, Option.bind_none, reduceIte, ↓reduceIte, decide_true, decide_false, Bool.true_and, Bool.and_true, Bool.false_and, Bool.and_false, true_and, and_true, and_self, Nat.reduceAdd, Nat.reduceLeDiff, Nat.reduceEqDiff, Nat.zero_add, Nat.add_zero, Nat.le_refl, Nat.zero_le, ge_iff_le, Nat.reduceLT, Nat.zero_lt_succ, Nat.reduceSub, if_true, if_false, forall_const, reduceCtorEq, Bool.not_true, Bool.not_false, Bool.false_eq_true, Int.reduceEq, Int.reduceLT, Int.reduceLE, Int.reduceNeg, Int.reduceToNat, Int.reduceAdd, Int.reduceSub, Nat.reduceMul, Nat.reduceEqDiff, gW_un, gcF_un, gcA_un, *]
    | (refine retK_now ?_)
    | (refine retK_now' ?_)
    | (intro q hq)
    | (refine cond_intro (fun hc => ?_) (fun hc => ?_)))
    refine seqK_now ?_
    refine seq_go ?_
    refine seq_go ?_
    (repeat' first
    | simp (contextual := true) (maxSteps := 4000000) only [fwc, fwe, opsW_gpure, drawW_pure, drawW_gpure, Env.upd_apply, Heap.upd_same, Heap.upd_apply, ite_none, List.getD_cons_zero, List.getD_cons_succ, List.getD_nil, List.length_cons, List.length_nil, List.map_cons, List.map_nil, List.getElem?_cons_zero, List.getElem?_cons_succ, List.getElem?_nil, List.set_cons_zero, List.set_cons_succ, List.take_succ_cons, List.take_zero, List.drop_succ_cons, List.drop_zero, List.nil_append, List.cons_append, List.append_nil, Option.map_some, Option.map_none, Option.bind_some, Option.bind_none, reduceIte, ↓reduceIte, decide_true, decide_false, Bool.true_and, Bool.and_true, Bool.false_and, Bool.and_false, true_and, and_true, and_self, Nat.reduceAdd, Nat.reduceLeDiff, Nat.reduceEqDiff, Nat.zero_add, Nat.add_zero, Nat.le_refl, Nat.zero_le, ge_iff_le, Nat.reduceLT, Nat.zero_lt_succ, Nat.reduceSub, if_true, if_false, forall_const, reduceCtorEq, Bool.not_true, Bool.not_false, Bool.false_eq_true, Int.reduceEq, Int.reduceLT, Int.reduceLE, Int.reduceNeg, Int.reduceToNat, Int.reduceAdd, Int.reduceSub, Nat.reduceMul, Nat.reduceEqDiff, gW_un, gcF_un, gcA_un, *]
    | (refine retK_now ?_)
    | (refine retK_now' ?_)
    | (intro q hq)
    | (refine cond_intro (fun hc => ?_) (fun hc => ?_)))
    refine seqK_now ?_
    (repeat' first
    | simp (contextual := true) (maxSteps := 4000000) only [fwc, fwe, opsW_gpure, drawW_pure, drawW_gpure, Env.upd_apply, Heap.upd_same, Heap.upd_apply, ite_none, List.getD_cons_zero, List.getD_cons_succ, List.getD_nil, List.length_cons, List.length_nil, List.map_cons, List.map_nil, List.getElem?_cons_zero, List.getElem?_cons_succ, List.getElem?_nil, List.set_cons_zero, List.set_cons_succ, List.take_succ_cons, List.take_zero, List.drop_succ_cons, List.drop_zero, List.nil_append, List.cons_append, List.append_nil, Option.map_some, Option.map_none, Option.bind_some, Option.bind_none, reduceIte, ↓reduceIte, decide_true, decide_false, Bool.true_and, Bool.and_true, Bool.false_and, Bool.and_false, true_and, and_true, and_self, Nat.reduceAdd, Nat.reduceLeDiff, Nat.reduceEqDiff, Nat.zero_add, Nat.add_zero, Nat.le_refl, Nat.zero_le, ge_iff_le, Nat.reduceLT, Nat.zero_lt_succ, Nat.reduceSub, if_true, if_false, forall_const, reduceCtorEq, Bool.not_true, Bool.not_false, Bool.false_eq_true, Int.reduceEq, Int.reduceLT, Int.reduceLE, Int.reduceNeg, Int.reduceToNat, Int.reduceAdd, Int.reduceSub, Nat.reduceMul, Nat.reduceEqDiff, gW_un, gcF_un, gcA_un, *]
    | (refine retK_now ?_)
    | (refine retK_now' ?_)
    | (intro q hq)
    | (refine cond_intro (fun hc => ?_) (fun hc => ?_)))
    refine seqK_now ?_
    refine seq_go ?_
    refine seq_go ?_
    (repeat' first
    | simp (contextual := true) (maxSteps := 4000000) only [fwc, fwe, opsW_gpure, drawW_pure, drawW_gpure, Env.upd_apply, Heap.upd_same, Heap.upd_apply, ite_none, List.getD_cons_zero, List.getD_cons_succ, List.getD_nil, List.length_cons, List.length_nil, List.map_cons, List.map_nil, List.getElem?_cons_zero, List.getElem?_cons_succ, List.getElem?_nil, List.set_cons_zero, List.set_cons_succ, List.take_succ_cons, List.take_zero, List.drop_succ_cons, List.drop_zero, List.nil_append, List.cons_append, List.append_nil, Option.map_some, Option.map_none, Option.bind_some, Option.bind_none, reduceIte, ↓reduceIte, decide_true, decide_false, Bool.true_and, Bool.and_true, Bool.false_and, Bool.and_false, true_and, and_true, and_self, Nat.reduceAdd, Nat.reduceLeDiff, Nat.reduceEqDiff, Nat.zero_add, Nat.add_zero, Nat.le_refl, Nat.zero_le, ge_iff_le, Nat.reduceLT, Nat.zero_lt_succ, Nat.reduceSub, if_true, if_false, forall_const, reduceCtorEq, Bool.not_true, Bool.not_false, Bool.false_eq_true, Int.reduceEq, Int.reduceLT, Int.reduceLE, Int.reduceNeg, Int.reduceToNat, Int.reduceAdd, Int.reduceSub, Nat.reduceMul, Nat.reduceEqDiff, gW_un, gcF_un, gcA_un, *]
    | (refine retK_now ?_)
    | (refine retK_now' ?_)
    | (intro q hq)
    | (refine cond_intro (fun hc => ?_) (fun hc => ?_)))
    refine seqK_now ?_
    (repeat' first
    | simp (contextual := true) (maxSteps := 4000000) only [fwc, fwe, opsW_gpure, drawW_pure, drawW_gpure, Env.upd_apply, Heap.upd_same, Heap.upd_apply, ite_none, List.getD_cons_zero, List.getD_cons_succ, List.getD_nil, List.length_cons, List.length_nil, List.map_cons, List.map_nil, List.getElem?_cons_zero, List.getElem?_cons_succ, List.getElem?_nil, List.set_cons_zero, List.set_cons_succ, List.take_succ_cons, List.take_zero, List.drop_succ_cons, List.drop_zero, List.nil_append, List.cons_append, List.append_nil, Option.map_some, Option.map_none, Option.bind_some, Option.bind_none, reduceIte, ↓reduceIte, decide_true, decide_false, Bool.true_and, Bool.and_true, Bool.false_and, Bool.and_false, true_and, and_true, and_self, Nat.reduceAdd, Nat.reduceLeDiff, Nat.reduceEqDiff, Nat.zero_add, Nat.add_zero, Nat.le_refl, Nat.zero_le, ge_iff_le, Nat.reduceLT, Nat.zero_lt_succ, Nat.reduceSub, if_true, if_false, forall_const, reduceCtorEq, Bool.not_true, Bool.not_false, Bool.false_eq_true, Int.reduceEq, Int.reduceLT, Int.reduceLE, Int.reduceNeg, Int.reduceToNat, Int.reduceAdd, Int.reduceSub, Nat.reduceMul, Nat.reduceEqDiff, gW_un, gcF_un, gcA_un, *]
    | (refine retK_now ?_)
    | (refine retK_now' ?_)
    | (intro q hq)
    | (refine cond_intro (fun hc => ?_) (fun hc => ?_)))
    obtain ⟨I, hI⟩ := hideI (fun M e O' => ∃ (k : Nat) (g : Bool), k ≤ L.length ∧ M = L.length - k ∧ (g = true ↔ (goodP false p c n L ∧ ∀ j, j < k → okAt L j)) ∧ O' = ((O.upd q1 (.arr 38 5 [.agg [.val (.bool false), .val (.int .i64 p), .val (.int .i64 c), .val (.bool n), s]])).upd q (.arr 30 2 [.agg [.val (.int .u8 y), .val (.int .i64 m)]])) ∧ e = env8 q1 g k)
    refine cmd_loop I L.length (by
      rw [hI.out]
      refine ⟨0, _, by omega, rfl, ?_, rfl, rfl⟩
      unfold goodP
      simp [and_assoc]
      try omega) ?_
    intro M e O' hh
    rw [hI.out] at hh
    obtain ⟨k, g, h4, rfl, hg, rfl, rfl⟩ := hh
    have hw : k < 4611686018427387904 := by omega
    have hg := (show Aside _ from hg)
    unfold env8
    refine seq_go ?_
    refine seq_go ?_
    (repeat' first
    | simp (contextual := true) (maxSteps := 4000000) only [fwc, fwe, opsW_gpure, drawW_pure, drawW_gpure, Env.upd_apply, Heap.upd_same, Heap.upd_apply, ite_none, List.getD_cons_zero, List.getD_cons_succ, List.getD_nil, List.length_cons, List.length_nil, List.map_cons, List.map_nil, List.getElem?_cons_zero, List.getElem?_cons_succ, List.getElem?_nil, List.set_cons_zero, List.set_cons_succ, List.take_succ_cons, List.take_zero, List.drop_succ_cons, List.drop_zero, List.nil_append, List.cons_append, List.append_nil, Option.map_some, Option.map_none, Option.bind_some, Option.bind_none, reduceIte, ↓reduceIte, decide_true, decide_false, Bool.true_and, Bool.and_true, Bool.false_and, Bool.and_false, true_and, and_true, and_self, Nat.reduceAdd, Nat.reduceLeDiff, Nat.reduceEqDiff, Nat.zero_add, Nat.add_zero, Nat.le_refl, Nat.zero_le, ge_iff_le, Nat.reduceLT, Nat.zero_lt_succ, Nat.reduceSub, if_true, if_false, forall_const, reduceCtorEq, Bool.not_true, Bool.not_false, Bool.false_eq_true, Int.reduceEq, Int.reduceLT, Int.reduceLE, Int.reduceNeg, Int.reduceToNat, Int.reduceAdd, Int.reduceSub, Nat.reduceMul, Nat.reduceEqDiff, gW_un, gcF_un, gcA_un, ilt_nat, *]
    | (refine retK_now ?_)
    | (refine retK_now' ?_)
    | (intro q hq)
    | (refine cond_intro (fun hc => ?_) (fun hc => ?_)))
    refine seqK_now ?_
    (repeat' first
    | simp (contextual := true) (maxSteps := 4000000) only [fwc, fwe, opsW_gpure, drawW_pure, drawW_gpure, Env.upd_apply, Heap.upd_same, Heap.upd_apply, ite_none, List.getD_cons_zero, List.getD_cons_succ, List.getD_nil, List.length_cons, List.length_nil, List.map_cons, List.map_nil, List.getElem?_cons_zero, List.getElem?_cons_succ, List.getElem?_nil, List.set_cons_zero, List.set_cons_succ, List.take_succ_cons, List.take_zero, List.drop_succ_cons, List.drop_zero, List.nil_append, List.cons_append, List.append_nil, Option.map_some, Option.map_none, Option.bind_some, Option.bind_none, reduceIte, ↓reduceIte, decide_true, decide_false, Bool.true_and, Bool.and_true, Bool.false_and, Bool.and_false, true_and, and_true, and_self, Nat.reduceAdd, Nat.reduceLeDiff, Nat.reduceEqDiff, Nat.zero_add, Nat.add_zero, Nat.le_refl, Nat.zero_le, ge_iff_le, Nat.reduceLT, Nat.zero_lt_succ, Nat.reduceSub, if_true, if_false, forall_const, reduceCtorEq, Bool.not_true, Bool.not_false, Bool.false_eq_true, Int.reduceEq, Int.reduceLT, Int.reduceLE, Int.reduceNeg, Int.reduceToNat, Int.reduceAdd, Int.reduceSub, Nat.reduceMul, Nat.reduceEqDiff, gW_un, gcF_un, gcA_un, *]
    | (refine retK_now ?_)
    | (refine retK_now' ?_)
    | (intro q hq)
    | (refine cond_intro (fun hc => ?_) (fun hc => ?_)))
    · have hk : k < L.length := of_decide_eq_true hc
      clear hc
      refine seqK_now ?_
      have hia := hs.ia (i := k) (by rw [List.length_map]; exact hk)
      rw [List.getElem_map] at hia
      obtain ⟨x, hx⟩ : ∃ x, L[k] = x := ⟨_, rfl⟩
      rw [hx, show x.av = .agg [.val (.int .u8 x.yarn), .val (.int .i64 x.n), .val (.bool x.front), .val (.int .u8 x.dir)] from rfl] at hia
      have hbI := badI_eq x
      unfold badI at hbI
      have hnext : ∀ g' : Bool, (g' = true ↔ (g = true ∧ okAt L k)) → ∀ (O1 : Heap) (e : Env) (K : Kont), (((O.upd q1 (.arr 38 5 [.agg [.val (.bool false), .val (.int .i64 p), .val (.int .i64 c), .val (.bool n), s]])).upd q (.arr 30 2 [.agg [.val (.int .u8 y), .val (.int .i64 m)]]))).sub O1 → keepE [2, 5, 6] e = env8 q1 g' (k + 1) → loopK [2, 5, 6] I (L.length - k) K .normal e O1 := by
        intro g' hg' O1 e K h5 h6
        refine loopK_drop _ h5 (L.length - (k + 1)) (by omega) ?_
        rw [hI.out]
        refine ⟨k + 1, g', by omega, rfl, ?_, rfl, h6⟩
        rw [hg', hg.out]
        constructor
        · rintro ⟨⟨j1, j2⟩, j3⟩
          refine ⟨j1, fun j hj => ?_⟩
          rcases Nat.lt_or_ge j k with h' | h'
          · exact j2 j h'
          · rw [show j = k by omega]; exact j3
        · rintro ⟨j1, j2⟩
          exact ⟨⟨j1, fun j hj => j2 j (by omega)⟩, j2 k (by omega)⟩
      have hnext := (show Aside _ from hnext)
      have d0 : decide ((0 : Int) < (k : Int)) = decide (0 < k) := decide_eq_decide.2 (by omega)
      refine seq_go ?_
      (repeat' first
    | simp (contextual := true) (maxSteps := 4000000) only [fwc, fwe, opsW_gpure, drawW_pure, drawW_gpure, Env.upd_apply, Heap.upd_same, Heap.upd_apply, ite_none, List.getD_cons_zero, List.getD_cons_succ, List.getD_nil, List.length_cons, List.length_nil, List.map_cons, List.map_nil, List.getElem?_cons_zero, List.getElem?_cons_succ, List.getElem?_nil, List.set_cons_zero, List.set_cons_succ, List.take_succ_cons, List.take_zero, List.drop_succ_cons, List.drop_zero, List.nil_append, List.cons_append, List.append_nil, Option.map_some, Option.map_none, Option.bind_some, Option.bind_none, reduceIte, ↓reduceIte, decide_true, decide_false, Bool.true_and, Bool.and_true, Bool.false_and, Bool.and_false, true_and, and_true, and_self, Nat.reduceAdd, Nat.reduceLeDiff, Nat.reduceEqDiff, Nat.zero_add, Nat.add_zero, Nat.le_refl, Nat.zero_le, ge_iff_le, Nat.reduceLT, Nat.zero_lt_succ, Nat.reduceSub, if_true, if_false, forall_const, reduceCtorEq, Bool.not_true, Bool.not_false, Bool.false_eq_true, Int.reduceEq, Int.reduceLT, Int.reduceLE, Int.reduceNeg, Int.reduceToNat, Int.reduceAdd, Int.reduceSub, Nat.reduceMul, Nat.reduceEqDiff, gW_un, gcF_un, gcA_un, *]
    | (refine retK_now ?_)
    | (refine retK_now' ?_)
    | (intro q hq)
    | (refine cond_intro (fun hc => ?_) (fun hc => ?_)))
      refine seq_go ?_
      (repeat' first
    | simp (contextual := true) (maxSteps := 4000000) only [fwc, fwe, opsW_gpure, drawW_pure, drawW_gpure, Env.upd_apply, Heap.upd_same, Heap.upd_apply, ite_none, List.getD_cons_zero, List.getD_cons_succ, List.getD_nil, List.length_cons, List.length_nil, List.map_cons, List.map_nil, List.getElem?_cons_zero, List.getElem?_cons_succ, List.getElem?_nil, List.set_cons_zero, List.set_cons_succ, List.take_succ_cons, List.take_zero, List.drop_succ_cons, List.drop_zero, List.nil_append, List.cons_append, List.append_nil, Option.map_some, Option.map_none, Option.bind_some, Option.bind_none, reduceIte, ↓reduceIte, decide_true, decide_false, Bool.true_and, Bool.and_true, Bool.false_and, Bool.and_false, true_and, and_true, and_self, Nat.reduceAdd, Nat.reduceLeDiff, Nat.reduceEqDiff, Nat.zero_add, Nat.add_zero, Nat.le_refl, Nat.zero_le, ge_iff_le, Nat.reduceLT, Nat.zero_lt_succ, Nat.reduceSub, if_true, if_false, forall_const, reduceCtorEq, Bool.not_true, Bool.not_false, Bool.false_eq_true, Int.reduceEq, Int.reduceLT, Int.reduceLE, Int.reduceNeg, Int.reduceToNat, Int.reduceAdd, Int.reduceSub, Nat.reduceMul, Nat.reduceEqDiff, gW_un, gcF_un, gcA_un, *]
    | (refine retK_now ?_)
    | (refine retK_now' ?_)
    | (intro q hq)
    | (refine cond_intro (fun hc => ?_) (fun hc => ?_)))
      refine seqK_now ?_
      rename_i hq2
      rcases Nat.eq_zero_or_pos k with hk0 | hk0
      · have d1 : decide (0 < k) = false := decide_eq_false (by omega)
        have hk1 := (show Aside _ from hk0)
        clear hk0
        refine seq_go ?_
        cases hb : x.bad
        · rw [hb] at hbI
          (repeat' first
    | simp (contextual := true) (maxSteps := 4000000) only [fwc, fwe, opsW_gpure, drawW_pure, drawW_gpure, Env.upd_apply, Heap.upd_same, Heap.upd_apply, ite_none, List.getD_cons_zero, List.getD_cons_succ, List.getD_nil, List.length_cons, List.length_nil, List.map_cons, List.map_nil, List.getElem?_cons_zero, List.getElem?_cons_succ, List.getElem?_nil, List.set_cons_zero, List.set_cons_succ, List.take_succ_cons, List.take_zero, List.drop_succ_cons, List.drop_zero, List.nil_append, List.cons_append, List.append_nil, Option.map_some, Option.map_none, Option.bind_some, Option.bind_none, reduceIte, ↓reduceIte, decide_true, decide_false, Bool.true_and, Bool.and_true, Bool.false_and, Bool.and_false, true_and, and_true, and_self, Nat.reduceAdd, Nat.reduceLeDiff, Nat.reduceEqDiff, Nat.zero_add, Nat.add_zero, Nat.le_refl, Nat.zero_le, ge_iff_le, Nat.reduceLT, Nat.zero_lt_succ, Nat.reduceSub, if_true, if_false, forall_const, reduceCtorEq, Bool.not_true, Bool.not_false, Bool.false_eq_true, Int.reduceEq, Int.reduceLT, Int.reduceLE, Int.reduceNeg, Int.reduceToNat, Int.reduceAdd, Int.reduceSub, Nat.reduceMul, Nat.reduceEqDiff, gW_un, gcF_un, gcA_un, Bool.or_false, Bool.or_true, *]
    | (refine retK_now ?_)
    | (refine retK_now' ?_)
    | (intro q hq)
    | (refine cond_intro (fun hc => ?_) (fun hc => ?_)))
          refine seqK_now ?_
          (repeat' first
    | simp (contextual := true) (maxSteps := 4000000) only [fwc, fwe, opsW_gpure, drawW_pure, drawW_gpure, Env.upd_apply, Heap.upd_same, Heap.upd_apply, ite_none, List.getD_cons_zero, List.getD_cons_succ, List.getD_nil, List.length_cons, List.length_nil, List.map_cons, List.map_nil, List.getElem?_cons_zero, List.getElem?_cons_succ, List.getElem?_nil, List.set_cons_zero, List.set_cons_succ, List.take_succ_cons, List.take_zero, List.drop_succ_cons, List.drop_zero, List.nil_append, List.cons_append, List.append_nil, Option.map_some, Option.map_none, Option.bind_some, Option.bind_none, reduceIte, ↓reduceIte, decide_true, decide_false, Bool.true_and, Bool.and_true, Bool.false_and, Bool.and_false, true_and, and_true, and_self, Nat.reduceAdd, Nat.reduceLeDiff, Nat.reduceEqDiff, Nat.zero_add, Nat.add_zero, Nat.le_refl, Nat.zero_le, ge_iff_le, Nat.reduceLT, Nat.zero_lt_succ, Nat.reduceSub, if_true, if_false, forall_const, reduceCtorEq, Bool.not_true, Bool.not_false, Bool.false_eq_true, Int.reduceEq, Int.reduceLT, Int.reduceLE, Int.reduceNeg, Int.reduceToNat, Int.reduceAdd, Int.reduceSub, Nat.reduceMul, Nat.reduceEqDiff, gW_un, gcF_un, gcA_un, *]
    | (refine retK_now ?_)
    | (refine retK_now' ?_)
    | (intro q hq)
    | (refine cond_intro (fun hc => ?_) (fun hc => ?_)))
          refine seqK_now ?_
          (repeat' first
    | simp (contextual := true) (maxSteps := 4000000) only [fwc, fwe, opsW_gpure, drawW_pure, drawW_gpure, Env.upd_apply, Heap.upd_same, Heap.upd_apply, ite_none, List.getD_cons_zero, List.getD_cons_succ, List.getD_nil, List.length_cons, List.length_nil, List.map_cons, List.map_nil, List.getElem?_cons_zero, List.getElem?_cons_succ, List.getElem?_nil, List.set_cons_zero, List.set_cons_succ, List.take_succ_cons, List.take_zero, List.drop_succ_cons, List.drop_zero, List.nil_append, List.cons_append, List.append_nil, Option.map_some, Option.map_none, Option.bind_some, Option.bind_none, reduceIte, ↓reduceIte, decide_true, decide_false, Bool.true_and, Bool.and_true, Bool.false_and, Bool.and_false, true_and, and_true, and_self, Nat.reduceAdd, Nat.reduceLeDiff, Nat.reduceEqDiff, Nat.zero_add, Nat.add_zero, Nat.le_refl, Nat.zero_le, ge_iff_le, Nat.reduceLT, Nat.zero_lt_succ, Nat.reduceSub, if_true, if_false, forall_const, reduceCtorEq, Bool.not_true, Bool.not_false, Bool.false_eq_true, Int.reduceEq, Int.reduceLT, Int.reduceLE, Int.reduceNeg, Int.reduceToNat, Int.reduceAdd, Int.reduceSub, Nat.reduceMul, Nat.reduceEqDiff, gW_un, gcF_un, gcA_un, wrap_succ, *]
    | (refine retK_now ?_)
    | (refine retK_now' ?_)
    | (intro q hq)
    | (refine cond_intro (fun hc => ?_) (fun hc => ?_)))
          refine hnext.out g ?_ _ _ _ (sub_upd (by simp [Heap.upd_apply, *]) (Heap.sub_refl _)) ?_
          · rw [show okAt L k ↔ True from ⟨fun _ => trivial, fun _ => ⟨hk, by rw [hx]; exact hb, fun h => by have := hk1.out; omega⟩⟩, and_true]
          · simp (contextual := true) (maxSteps := 4000000) only [fwc, fwe, cmd_seq, opsW_gpure, drawW_pure, drawW_gpure, Env.upd_apply, Heap.upd_same, Heap.upd_apply, ite_none, List.getD_cons_zero, List.getD_cons_succ, List.getD_nil, List.length_cons, List.length_nil, List.map_cons, List.map_nil, List.getElem?_cons_zero, List.getElem?_cons_succ, List.getElem?_nil, List.set_cons_zero, List.set_cons_succ, List.take_succ_cons, List.take_zero, List.drop_succ_cons, List.drop_zero, List.nil_append, List.cons_append, List.append_nil, Option.map_some, Option.map_none, Option.bind_some, Option.bind_none, reduceIte, ↓reduceIte, decide_true, decide_false, Bool.true_and, Bool.and_true, Bool.false_and, Bool.and_false, true_and, and_true, and_self, Nat.reduceAdd, Nat.reduceLeDiff, Nat.reduceEqDiff, Nat.zero_add, Nat.add_zero, Nat.le_refl, Nat.zero_le, ge_iff_le, Nat.reduceLT, Nat.zero_lt_succ, Nat.reduceSub, if_true, if_false, forall_const, reduceCtorEq, Bool.not_true, Bool.not_false, Bool.false_eq_true, Int.reduceEq, Int.reduceLT, Int.reduceLE, Int.reduceNeg, Int.reduceToNat, Int.reduceAdd, Int.reduceSub, Nat.reduceMul, Nat.reduceEqDiff, gW_un, gcF_un, gcA_un, env8, *]
        · rw [hb] at hbI
          (repeat' first
    | simp (contextual := true) (maxSteps := 4000000) only [fwc, fwe, opsW_gpure, drawW_pure, drawW_gpure, Env.upd_apply, Heap.upd_same, Heap.upd_apply, ite_none, List.getD_cons_zero, List.getD_cons_succ, List.getD_nil, List.length_cons, List.length_nil, List.map_cons, List.map_nil, List.getElem?_cons_zero, List.getElem?_cons_succ, List.getElem?_nil, List.set_cons_zero, List.set_cons_succ, List.take_succ_cons, List.take_zero, List.drop_succ_cons, List.drop_zero, List.nil_append, List.cons_append, List.append_nil, Option.map_some, Option.map_none, Option.bind_some, Option.bind_none, reduceIte, ↓reduceIte, decide_true, decide_false, Bool.true_and, Bool.and_true, Bool.false_and, Bool.and_false, true_and, and_true, and_self, Nat.reduceAdd, Nat.reduceLeDiff, Nat.reduceEqDiff, Nat.zero_add, Nat.add_zero, Nat.le_refl, Nat.zero_le, ge_iff_le, Nat.reduceLT, Nat.zero_lt_succ, Nat.reduceSub, if_true, if_false, forall_const, reduceCtorEq, Bool.not_true, Bool.not_false, Bool.false_eq_true, Int.reduceEq, Int.reduceLT, Int.reduceLE, Int.reduceNeg, Int.reduceToNat, Int.reduceAdd, Int.reduceSub, Nat.reduceMul, Nat.reduceEqDiff, gW_un, gcF_un, gcA_un, Bool.or_false, Bool.or_true, *]
    | (refine retK_now ?_)
    | (refine retK_now' ?_)
    | (intro q hq)
    | (refine cond_intro (fun hc => ?_) (fun hc => ?_)))
          refine seqK_now ?_
          (repeat' first
    | simp (contextual := true) (maxSteps := 4000000) only [fwc, fwe, opsW_gpure, drawW_pure, drawW_gpure, Env.upd_apply, Heap.upd_same, Heap.upd_apply, ite_none, List.getD_cons_zero, List.getD_cons_succ, List.getD_nil, List.length_cons, List.length_nil, List.map_cons, List.map_nil, List.getElem?_cons_zero, List.getElem?_cons_succ, List.getElem?_nil, List.set_cons_zero, List.set_cons_succ, List.take_succ_cons, List.take_zero, List.drop_succ_cons, List.drop_zero, List.nil_append, List.cons_append, List.append_nil, Option.map_some, Option.map_none, Option.bind_some, Option.bind_none, reduceIte, ↓reduceIte, decide_true, decide_false, Bool.true_and, Bool.and_true, Bool.false_and, Bool.and_false, true_and, and_true, and_self, Nat.reduceAdd, Nat.reduceLeDiff, Nat.reduceEqDiff, Nat.zero_add, Nat.add_zero, Nat.le_refl, Nat.zero_le, ge_iff_le, Nat.reduceLT, Nat.zero_lt_succ, Nat.reduceSub, if_true, if_false, forall_const, reduceCtorEq, Bool.not_true, Bool.not_false, Bool.false_eq_true, Int.reduceEq, Int.reduceLT, Int.reduceLE, Int.reduceNeg, Int.reduceToNat, Int.reduceAdd, Int.reduceSub, Nat.reduceMul, Nat.reduceEqDiff, gW_un, gcF_un, gcA_un, *]
    | (refine retK_now ?_)
    | (refine retK_now' ?_)
    | (intro q hq)
    | (refine cond_intro (fun hc => ?_) (fun hc => ?_)))
          refine seqK_now ?_
          (repeat' first
    | simp (contextual := true) (maxSteps := 4000000) only [fwc, fwe, opsW_gpure, drawW_pure, drawW_gpure, Env.upd_apply, Heap.upd_same, Heap.upd_apply, ite_none, List.getD_cons_zero, List.getD_cons_succ, List.getD_nil, List.length_cons, List.length_nil, List.map_cons, List.map_nil, List.getElem?_cons_zero, List.getElem?_cons_succ, List.getElem?_nil, List.set_cons_zero, List.set_cons_succ, List.take_succ_cons, List.take_zero, List.drop_succ_cons, List.drop_zero, List.nil_append, List.cons_append, List.append_nil, Option.map_some, Option.map_none, Option.bind_some, Option.bind_none, reduceIte, ↓reduceIte, decide_true, decide_false, Bool.true_and, Bool.and_true, Bool.false_and, Bool.and_false, true_and, and_true, and_self, Nat.reduceAdd, Nat.reduceLeDiff, Nat.reduceEqDiff, Nat.zero_add, Nat.add_zero, Nat.le_refl, Nat.zero_le, ge_iff_le, Nat.reduceLT, Nat.zero_lt_succ, Nat.reduceSub, if_true, if_false, forall_const, reduceCtorEq, Bool.not_true, Bool.not_false, Bool.false_eq_true, Int.reduceEq, Int.reduceLT, Int.reduceLE, Int.reduceNeg, Int.reduceToNat, Int.reduceAdd, Int.reduceSub, Nat.reduceMul, Nat.reduceEqDiff, gW_un, gcF_un, gcA_un, wrap_succ, *]
    | (refine retK_now ?_)
    | (refine retK_now' ?_)
    | (intro q hq)
    | (refine cond_intro (fun hc => ?_) (fun hc => ?_)))
          refine hnext.out false ?_ _ _ _ (sub_upd (by simp [Heap.upd_apply, *]) (Heap.sub_refl _)) ?_
          · rw [show okAt L k ↔ False from ⟨fun h => (by have := h.2.1; rw [hx, hb] at this; cases this), False.elim⟩, and_false]
            simp
          · simp (contextual := true) (maxSteps := 4000000) only [fwc, fwe, cmd_seq, opsW_gpure, drawW_pure, drawW_gpure, Env.upd_apply, Heap.upd_same, Heap.upd_apply, ite_none, List.getD_cons_zero, List.getD_cons_succ, List.getD_nil, List.length_cons, List.length_nil, List.map_cons, List.map_nil, List.getElem?_cons_zero, List.getElem?_cons_succ, List.getElem?_nil, List.set_cons_zero, List.set_cons_succ, List.take_succ_cons, List.take_zero, List.drop_succ_cons, List.drop_zero, List.nil_append, List.cons_append, List.append_nil, Option.map_some, Option.map_none, Option.bind_some, Option.bind_none, reduceIte, ↓reduceIte, decide_true, decide_false, Bool.true_and, Bool.and_true, Bool.false_and, Bool.and_false, true_and, and_true, and_self, Nat.reduceAdd, Nat.reduceLeDiff, Nat.reduceEqDiff, Nat.zero_add, Nat.add_zero, Nat.le_refl, Nat.zero_le, ge_iff_le, Nat.reduceLT, Nat.zero_lt_succ, Nat.reduceSub, if_true, if_false, forall_const, reduceCtorEq, Bool.not_true, Bool.not_false, Bool.false_eq_true, Int.reduceEq, Int.reduceLT, Int.reduceLE, Int.reduceNeg, Int.reduceToNat, Int.reduceAdd, Int.reduceSub, Nat.reduceMul, Nat.reduceEqDiff, gW_un, gcF_un, gcA_un, env8, *]
      · have d1 : decide (0 < k) = true := decide_eq_true hk0
        have e1 : IntKind.i64.wrap ((k : Int) - 1) = ((k - 1 : Nat) : Int) := by rw [wrap_i64 (by omega) (by omega)]; omega
        have hib := hs.ia (i := k - 1) (by rw [List.length_map]; omega)
        rw [List.getElem_map] at hib
        obtain ⟨z, hz⟩ : ∃ z, L[k - 1] = z := ⟨_, rfl⟩
        rw [hz, show z.av = .agg [.val (.int .u8 z.yarn), .val (.int .i64 z.n), .val (.bool z.front), .val (.int .u8 z.dir)] from rfl] at hib
        have hcan := cancel_ok z x
        refine seq_go ?_
        cases hb : x.bad
        · rw [hb] at hbI
          (repeat' first
    | simp (contextual := true) (maxSteps := 4000000) only [fwc, fwe, opsW_gpure, drawW_pure, drawW_gpure, Env.upd_apply, Heap.upd_same, Heap.upd_apply, ite_none, List.getD_cons_zero, List.getD_cons_succ, List.getD_nil, List.length_cons, List.length_nil, List.map_cons, List.map_nil, List.getElem?_cons_zero, List.getElem?_cons_succ, List.getElem?_nil, List.set_cons_zero, List.set_cons_succ, List.take_succ_cons, List.take_zero, List.drop_succ_cons, List.drop_zero, List.nil_append, List.cons_append, List.append_nil, Option.map_some, Option.map_none, Option.bind_some, Option.bind_none, reduceIte, ↓reduceIte, decide_true, decide_false, Bool.true_and, Bool.and_true, Bool.false_and, Bool.and_false, true_and, and_true, and_self, Nat.reduceAdd, Nat.reduceLeDiff, Nat.reduceEqDiff, Nat.zero_add, Nat.add_zero, Nat.le_refl, Nat.zero_le, ge_iff_le, Nat.reduceLT, Nat.zero_lt_succ, Nat.reduceSub, if_true, if_false, forall_const, reduceCtorEq, Bool.not_true, Bool.not_false, Bool.false_eq_true, Int.reduceEq, Int.reduceLT, Int.reduceLE, Int.reduceNeg, Int.reduceToNat, Int.reduceAdd, Int.reduceSub, Nat.reduceMul, Nat.reduceEqDiff, gW_un, gcF_un, gcA_un, Bool.or_false, Bool.or_true, *]
    | (refine retK_now ?_)
    | (refine retK_now' ?_)
    | (intro q hq)
    | (refine cond_intro (fun hc => ?_) (fun hc => ?_)))
          refine callF_use hcan ?_
          cases hcc : z.cancels x
          · (repeat' first
    | simp (contextual := true) (maxSteps := 4000000) only [fwc, fwe, opsW_gpure, drawW_pure, drawW_gpure, Env.upd_apply, Heap.upd_same, Heap.upd_apply, ite_none, List.getD_cons_zero, List.getD_cons_succ, List.getD_nil, List.length_cons, List.length_nil, List.map_cons, List.map_nil, List.getElem?_cons_zero, List.getElem?_cons_succ, List.getElem?_nil, List.set_cons_zero, List.set_cons_succ, List.take_succ_cons, List.take_zero, List.drop_succ_cons, List.drop_zero, List.nil_append, List.cons_append, List.append_nil, Option.map_some, Option.map_none, Option.bind_some, Option.bind_none, reduceIte, ↓reduceIte, decide_true, decide_false, Bool.true_and, Bool.and_true, Bool.false_and, Bool.and_false, true_and, and_true, and_self, Nat.reduceAdd, Nat.reduceLeDiff, Nat.reduceEqDiff, Nat.zero_add, Nat.add_zero, Nat.le_refl, Nat.zero_le, ge_iff_le, Nat.reduceLT, Nat.zero_lt_succ, Nat.reduceSub, if_true, if_false, forall_const, reduceCtorEq, Bool.not_true, Bool.not_false, Bool.false_eq_true, Int.reduceEq, Int.reduceLT, Int.reduceLE, Int.reduceNeg, Int.reduceToNat, Int.reduceAdd, Int.reduceSub, Nat.reduceMul, Nat.reduceEqDiff, gW_un, gcF_un, gcA_un, Bool.or_false, Bool.or_true, *]
    | (refine retK_now ?_)
    | (refine retK_now' ?_)
    | (intro q hq)
    | (refine cond_intro (fun hc => ?_) (fun hc => ?_)))
            refine seqK_now ?_
            (repeat' first
    | simp (contextual := true) (maxSteps := 4000000) only [fwc, fwe, opsW_gpure, drawW_pure, drawW_gpure, Env.upd_apply, Heap.upd_same, Heap.upd_apply, ite_none, List.getD_cons_zero, List.getD_cons_succ, List.getD_nil, List.length_cons, List.length_nil, List.map_cons, List.map_nil, List.getElem?_cons_zero, List.getElem?_cons_succ, List.getElem?_nil, List.set_cons_zero, List.set_cons_succ, List.take_succ_cons, List.take_zero, List.drop_succ_cons, List.drop_zero, List.nil_append, List.cons_append, List.append_nil, Option.map_some, Option.map_none, Option.bind_some, Option.bind_none, reduceIte, ↓reduceIte, decide_true, decide_false, Bool.true_and, Bool.and_true, Bool.false_and, Bool.and_false, true_and, and_true, and_self, Nat.reduceAdd, Nat.reduceLeDiff, Nat.reduceEqDiff, Nat.zero_add, Nat.add_zero, Nat.le_refl, Nat.zero_le, ge_iff_le, Nat.reduceLT, Nat.zero_lt_succ, Nat.reduceSub, if_true, if_false, forall_const, reduceCtorEq, Bool.not_true, Bool.not_false, Bool.false_eq_true, Int.reduceEq, Int.reduceLT, Int.reduceLE, Int.reduceNeg, Int.reduceToNat, Int.reduceAdd, Int.reduceSub, Nat.reduceMul, Nat.reduceEqDiff, gW_un, gcF_un, gcA_un, *]
    | (refine retK_now ?_)
    | (refine retK_now' ?_)
    | (intro q hq)
    | (refine cond_intro (fun hc => ?_) (fun hc => ?_)))
            refine seqK_now ?_
            (repeat' first
    | simp (contextual := true) (maxSteps := 4000000) only [fwc, fwe, opsW_gpure, drawW_pure, drawW_gpure, Env.upd_apply, Heap.upd_same, Heap.upd_apply, ite_none, List.getD_cons_zero, List.getD_cons_succ, List.getD_nil, List.length_cons, List.length_nil, List.map_cons, List.map_nil, List.getElem?_cons_zero, List.getElem?_cons_succ, List.getElem?_nil, List.set_cons_zero, List.set_cons_succ, List.take_succ_cons, List.take_zero, List.drop_succ_cons, List.drop_zero, List.nil_append, List.cons_append, List.append_nil, Option.map_some, Option.map_none, Option.bind_some, Option.bind_none, reduceIte, ↓reduceIte, decide_true, decide_false, Bool.true_and, Bool.and_true, Bool.false_and, Bool.and_false, true_and, and_true, and_self, Nat.reduceAdd, Nat.reduceLeDiff, Nat.reduceEqDiff, Nat.zero_add, Nat.add_zero, Nat.le_refl, Nat.zero_le, ge_iff_le, Nat.reduceLT, Nat.zero_lt_succ, Nat.reduceSub, if_true, if_false, forall_const, reduceCtorEq, Bool.not_true, Bool.not_false, Bool.false_eq_true, Int.reduceEq, Int.reduceLT, Int.reduceLE, Int.reduceNeg, Int.reduceToNat, Int.reduceAdd, Int.reduceSub, Nat.reduceMul, Nat.reduceEqDiff, gW_un, gcF_un, gcA_un, wrap_succ, *]
    | (refine retK_now ?_)
    | (refine retK_now' ?_)
    | (intro q hq)
    | (refine cond_intro (fun hc => ?_) (fun hc => ?_)))
            refine hnext.out g ?_ _ _ _ (sub_upd (by simp [Heap.upd_apply, *]) (Heap.sub_refl _)) ?_
            · rw [show okAt L k ↔ True from ⟨fun _ => trivial, fun _ => ⟨hk, by rw [hx]; exact hb, fun _ => by rw [hx, hz]; exact hcc⟩⟩, and_true]
            · simp (contextual := true) (maxSteps := 4000000) only [fwc, fwe, cmd_seq, opsW_gpure, drawW_pure, drawW_gpure, Env.upd_apply, Heap.upd_same, Heap.upd_apply, ite_none, List.getD_cons_zero, List.getD_cons_succ, List.getD_nil, List.length_cons, List.length_nil, List.map_cons, List.map_nil, List.getElem?_cons_zero, List.getElem?_cons_succ, List.getElem?_nil, List.set_cons_zero, List.set_cons_succ, List.take_succ_cons, List.take_zero, List.drop_succ_cons, List.drop_zero, List.nil_append, List.cons_append, List.append_nil, Option.map_some, Option.map_none, Option.bind_some, Option.bind_none, reduceIte, ↓reduceIte, decide_true, decide_false, Bool.true_and, Bool.and_true, Bool.false_and, Bool.and_false, true_and, and_true, and_self, Nat.reduceAdd, Nat.reduceLeDiff, Nat.reduceEqDiff, Nat.zero_add, Nat.add_zero, Nat.le_refl, Nat.zero_le, ge_iff_le, Nat.reduceLT, Nat.zero_lt_succ, Nat.reduceSub, if_true, if_false, forall_const, reduceCtorEq, Bool.not_true, Bool.not_false, Bool.false_eq_true, Int.reduceEq, Int.reduceLT, Int.reduceLE, Int.reduceNeg, Int.reduceToNat, Int.reduceAdd, Int.reduceSub, Nat.reduceMul, Nat.reduceEqDiff, gW_un, gcF_un, gcA_un, env8, *]
          · (repeat' first
    | simp (contextual := true) (maxSteps := 4000000) only [fwc, fwe, opsW_gpure, drawW_pure, drawW_gpure, Env.upd_apply, Heap.upd_same, Heap.upd_apply, ite_none, List.getD_cons_zero, List.getD_cons_succ, List.getD_nil, List.length_cons, List.length_nil, List.map_cons, List.map_nil, List.getElem?_cons_zero, List.getElem?_cons_succ, List.getElem?_nil, List.set_cons_zero, List.set_cons_succ, List.take_succ_cons, List.take_zero, List.drop_succ_cons, List.drop_zero, List.nil_append, List.cons_append, List.append_nil, Option.map_some, Option.map_none, Option.bind_some, Option.bind_none, reduceIte, ↓reduceIte, decide_true, decide_false, Bool.true_and, Bool.and_true, Bool.false_and, Bool.and_false, true_and, and_true, and_self, Nat.reduceAdd, Nat.reduceLeDiff, Nat.reduceEqDiff, Nat.zero_add, Nat.add_zero, Nat.le_refl, Nat.zero_le, ge_iff_le, Nat.reduceLT, Nat.zero_lt_succ, Nat.reduceSub, if_true, if_false, forall_const, reduceCtorEq, Bool.not_true, Bool.not_false, Bool.false_eq_true, Int.reduceEq, Int.reduceLT, Int.reduceLE, Int.reduceNeg, Int.reduceToNat, Int.reduceAdd, Int.reduceSub, Nat.reduceMul, Nat.reduceEqDiff, gW_un, gcF_un, gcA_un, Bool.or_false, Bool.or_true, *]
    | (refine retK_now ?_)
    | (refine retK_now' ?_)
    | (intro q hq)
    | (refine cond_intro (fun hc => ?_) (fun hc => ?_)))
            refine seqK_now ?_
            (repeat' first
    | simp (contextual := true) (maxSteps := 4000000) only [fwc, fwe, opsW_gpure, drawW_pure, drawW_gpure, Env.upd_apply, Heap.upd_same, Heap.upd_apply, ite_none, List.getD_cons_zero, List.getD_cons_succ, List.getD_nil, List.length_cons, List.length_nil, List.map_cons, List.map_nil, List.getElem?_cons_zero, List.getElem?_cons_succ, List.getElem?_nil, List.set_cons_zero, List.set_cons_succ, List.take_succ_cons, List.take_zero, List.drop_succ_cons, List.drop_zero, List.nil_append, List.cons_append, List.append_nil, Option.map_some, Option.map_none, Option.bind_some, Option.bind_none, reduceIte, ↓reduceIte, decide_true, decide_false, Bool.true_and, Bool.and_true, Bool.false_and, Bool.and_false, true_and, and_true, and_self, Nat.reduceAdd, Nat.reduceLeDiff, Nat.reduceEqDiff, Nat.zero_add, Nat.add_zero, Nat.le_refl, Nat.zero_le, ge_iff_le, Nat.reduceLT, Nat.zero_lt_succ, Nat.reduceSub, if_true, if_false, forall_const, reduceCtorEq, Bool.not_true, Bool.not_false, Bool.false_eq_true, Int.reduceEq, Int.reduceLT, Int.reduceLE, Int.reduceNeg, Int.reduceToNat, Int.reduceAdd, Int.reduceSub, Nat.reduceMul, Nat.reduceEqDiff, gW_un, gcF_un, gcA_un, *]
    | (refine retK_now ?_)
    | (refine retK_now' ?_)
    | (intro q hq)
    | (refine cond_intro (fun hc => ?_) (fun hc => ?_)))
            refine seqK_now ?_
            (repeat' first
    | simp (contextual := true) (maxSteps := 4000000) only [fwc, fwe, opsW_gpure, drawW_pure, drawW_gpure, Env.upd_apply, Heap.upd_same, Heap.upd_apply, ite_none, List.getD_cons_zero, List.getD_cons_succ, List.getD_nil, List.length_cons, List.length_nil, List.map_cons, List.map_nil, List.getElem?_cons_zero, List.getElem?_cons_succ, List.getElem?_nil, List.set_cons_zero, List.set_cons_succ, List.take_succ_cons, List.take_zero, List.drop_succ_cons, List.drop_zero, List.nil_append, List.cons_append, List.append_nil, Option.map_some, Option.map_none, Option.bind_some, Option.bind_none, reduceIte, ↓reduceIte, decide_true, decide_false, Bool.true_and, Bool.and_true, Bool.false_and, Bool.and_false, true_and, and_true, and_self, Nat.reduceAdd, Nat.reduceLeDiff, Nat.reduceEqDiff, Nat.zero_add, Nat.add_zero, Nat.le_refl, Nat.zero_le, ge_iff_le, Nat.reduceLT, Nat.zero_lt_succ, Nat.reduceSub, if_true, if_false, forall_const, reduceCtorEq, Bool.not_true, Bool.not_false, Bool.false_eq_true, Int.reduceEq, Int.reduceLT, Int.reduceLE, Int.reduceNeg, Int.reduceToNat, Int.reduceAdd, Int.reduceSub, Nat.reduceMul, Nat.reduceEqDiff, gW_un, gcF_un, gcA_un, wrap_succ, *]
    | (refine retK_now ?_)
    | (refine retK_now' ?_)
    | (intro q hq)
    | (refine cond_intro (fun hc => ?_) (fun hc => ?_)))
            refine hnext.out false ?_ _ _ _ (sub_upd (by simp [Heap.upd_apply, *]) (Heap.sub_refl _)) ?_
            · rw [show okAt L k ↔ False from ⟨fun h => (by have := h.2.2 hk0; rw [hx, hz, hcc] at this; cases this), False.elim⟩, and_false]
              simp
            · simp (contextual := true) (maxSteps := 4000000) only [fwc, fwe, cmd_seq, opsW_gpure, drawW_pure, drawW_gpure, Env.upd_apply, Heap.upd_same, Heap.upd_apply, ite_none, List.getD_cons_zero, List.getD_cons_succ, List.getD_nil, List.length_cons, List.length_nil, List.map_cons, List.map_nil, List.getElem?_cons_zero, List.getElem?_cons_succ, List.getElem?_nil, List.set_cons_zero, List.set_cons_succ, List.take_succ_cons, List.take_zero, List.drop_succ_cons, List.drop_zero, List.nil_append, List.cons_append, List.append_nil, Option.map_some, Option.map_none, Option.bind_some, Option.bind_none, reduceIte, ↓reduceIte, decide_true, decide_false, Bool.true_and, Bool.and_true, Bool.false_and, Bool.and_false, true_and, and_true, and_self, Nat.reduceAdd, Nat.reduceLeDiff, Nat.reduceEqDiff, Nat.zero_add, Nat.add_zero, Nat.le_refl, Nat.zero_le, ge_iff_le, Nat.reduceLT, Nat.zero_lt_succ, Nat.reduceSub, if_true, if_false, forall_const, reduceCtorEq, Bool.not_true, Bool.not_false, Bool.false_eq_true, Int.reduceEq, Int.reduceLT, Int.reduceLE, Int.reduceNeg, Int.reduceToNat, Int.reduceAdd, Int.reduceSub, Nat.reduceMul, Nat.reduceEqDiff, gW_un, gcF_un, gcA_un, env8, *]
        · rw [hb] at hbI
          (repeat' first
    | simp (contextual := true) (maxSteps := 4000000) only [fwc, fwe, opsW_gpure, drawW_pure, drawW_gpure, Env.upd_apply, Heap.upd_same, Heap.upd_apply, ite_none, List.getD_cons_zero, List.getD_cons_succ, List.getD_nil, List.length_cons, List.length_nil, List.map_cons, List.map_nil, List.getElem?_cons_zero, List.getElem?_cons_succ, List.getElem?_nil, List.set_cons_zero, List.set_cons_succ, List.take_succ_cons, List.take_zero, List.drop_succ_cons, List.drop_zero, List.nil_append, List.cons_append, List.append_nil, Option.map_some, Option.map_none, Option.bind_some, Option.bind_none, reduceIte, ↓reduceIte, decide_true, decide_false, Bool.true_and, Bool.and_true, Bool.false_and, Bool.and_false, true_and, and_true, and_self, Nat.reduceAdd, Nat.reduceLeDiff, Nat.reduceEqDiff, Nat.zero_add, Nat.add_zero, Nat.le_refl, Nat.zero_le, ge_iff_le, Nat.reduceLT, Nat.zero_lt_succ, Nat.reduceSub, if_true, if_false, forall_const, reduceCtorEq, Bool.not_true, Bool.not_false, Bool.false_eq_true, Int.reduceEq, Int.reduceLT, Int.reduceLE, Int.reduceNeg, Int.reduceToNat, Int.reduceAdd, Int.reduceSub, Nat.reduceMul, Nat.reduceEqDiff, gW_un, gcF_un, gcA_un, Bool.or_false, Bool.or_true, *]
    | (refine retK_now ?_)
    | (refine retK_now' ?_)
    | (intro q hq)
    | (refine cond_intro (fun hc => ?_) (fun hc => ?_)))
          refine seqK_now ?_
          (repeat' first
    | simp (contextual := true) (maxSteps := 4000000) only [fwc, fwe, opsW_gpure, drawW_pure, drawW_gpure, Env.upd_apply, Heap.upd_same, Heap.upd_apply, ite_none, List.getD_cons_zero, List.getD_cons_succ, List.getD_nil, List.length_cons, List.length_nil, List.map_cons, List.map_nil, List.getElem?_cons_zero, List.getElem?_cons_succ, List.getElem?_nil, List.set_cons_zero, List.set_cons_succ, List.take_succ_cons, List.take_zero, List.drop_succ_cons, List.drop_zero, List.nil_append, List.cons_append, List.append_nil, Option.map_some, Option.map_none, Option.bind_some, Option.bind_none, reduceIte, ↓reduceIte, decide_true, decide_false, Bool.true_and, Bool.and_true, Bool.false_and, Bool.and_false, true_and, and_true, and_self, Nat.reduceAdd, Nat.reduceLeDiff, Nat.reduceEqDiff, Nat.zero_add, Nat.add_zero, Nat.le_refl, Nat.zero_le, ge_iff_le, Nat.reduceLT, Nat.zero_lt_succ, Nat.reduceSub, if_true, if_false, forall_const, reduceCtorEq, Bool.not_true, Bool.not_false, Bool.false_eq_true, Int.reduceEq, Int.reduceLT, Int.reduceLE, Int.reduceNeg, Int.reduceToNat, Int.reduceAdd, Int.reduceSub, Nat.reduceMul, Nat.reduceEqDiff, gW_un, gcF_un, gcA_un, *]
    | (refine retK_now ?_)
    | (refine retK_now' ?_)
    | (intro q hq)
    | (refine cond_intro (fun hc => ?_) (fun hc => ?_)))
          refine seqK_now ?_
          (repeat' first
    | simp (contextual := true) (maxSteps := 4000000) only [fwc, fwe, opsW_gpure, drawW_pure, drawW_gpure, Env.upd_apply, Heap.upd_same, Heap.upd_apply, ite_none, List.getD_cons_zero, List.getD_cons_succ, List.getD_nil, List.length_cons, List.length_nil, List.map_cons, List.map_nil, List.getElem?_cons_zero, List.getElem?_cons_succ, List.getElem?_nil, List.set_cons_zero, List.set_cons_succ, List.take_succ_cons, List.take_zero, List.drop_succ_cons, List.drop_zero, List.nil_append, List.cons_append, List.append_nil, Option.map_some, Option.map_none, Option.bind_some, Option.bind_none, reduceIte, ↓reduceIte, decide_true, decide_false, Bool.true_and, Bool.and_true, Bool.false_and, Bool.and_false, true_and, and_true, and_self, Nat.reduceAdd, Nat.reduceLeDiff, Nat.reduceEqDiff, Nat.zero_add, Nat.add_zero, Nat.le_refl, Nat.zero_le, ge_iff_le, Nat.reduceLT, Nat.zero_lt_succ, Nat.reduceSub, if_true, if_false, forall_const, reduceCtorEq, Bool.not_true, Bool.not_false, Bool.false_eq_true, Int.reduceEq, Int.reduceLT, Int.reduceLE, Int.reduceNeg, Int.reduceToNat, Int.reduceAdd, Int.reduceSub, Nat.reduceMul, Nat.reduceEqDiff, gW_un, gcF_un, gcA_un, wrap_succ, *]
    | (refine retK_now ?_)
    | (refine retK_now' ?_)
    | (intro q hq)
    | (refine cond_intro (fun hc => ?_) (fun hc => ?_)))
          refine hnext.out false ?_ _ _ _ (sub_upd (by simp [Heap.upd_apply, *]) (Heap.sub_refl _)) ?_
          · rw [show okAt L k ↔ False from ⟨fun h => (by have := h.2.1; rw [hx, hb] at this; cases this), False.elim⟩, and_false]
            simp
          · simp (contextual := true) (maxSteps := 4000000) only [fwc, fwe, cmd_seq, opsW_gpure, drawW_pure, drawW_gpure, Env.upd_apply, Heap.upd_same, Heap.upd_apply, ite_none, List.getD_cons_zero, List.getD_cons_succ, List.getD_nil, List.length_cons, List.length_nil, List.map_cons, List.map_nil, List.getElem?_cons_zero, List.getElem?_cons_succ, List.getElem?_nil, List.set_cons_zero, List.set_cons_succ, List.take_succ_cons, List.take_zero, List.drop_succ_cons, List.drop_zero, List.nil_append, List.cons_append, List.append_nil, Option.map_some, Option.map_none, Option.bind_some, Option.bind_none, reduceIte, ↓reduceIte, decide_true, decide_false, Bool.true_and, Bool.and_true, Bool.false_and, Bool.and_false, true_and, and_true, and_self, Nat.reduceAdd, Nat.reduceLeDiff, Nat.reduceEqDiff, Nat.zero_add, Nat.add_zero, Nat.le_refl, Nat.zero_le, ge_iff_le, Nat.reduceLT, Nat.zero_lt_succ, Nat.reduceSub, if_true, if_false, forall_const, reduceCtorEq, Bool.not_true, Bool.not_false, Bool.false_eq_true, Int.reduceEq, Int.reduceLT, Int.reduceLE, Int.reduceNeg, Int.reduceToNat, Int.reduceAdd, Int.reduceSub, Nat.reduceMul, Nat.reduceEqDiff, gW_un, gcF_un, gcA_un, env8, *]
    · have : k = L.length := by have := of_decide_eq_false hc; omega
      subst this
      clear hc hI
      refine seqK_now ?_
      have hk0 : checkL false p c n L = 0 ↔ g = true := hck.trans hg.out.symm
      clear hg hck hw
      cases g
      · have hk : checkL false p c n L = 1 := by
          unfold checkL at hk0 ⊢
          split
          · rfl
          · rename_i h; rw [if_neg h] at hk0; exact absurd (hk0.1 rfl) (by simp)
        clear hk0
        rw [hk] at hE hLv hGo hMk hCk
        rw [show enterA 1 false c 0 = res2 zeroY 1 from rfl] at hE
        rw [show leaveA 1 false c = res2 zeroY 1 from rfl] at hLv
        rw [show goA 1 false p c n L 7 [] = res2 zeroY 1 from rfl] at hGo
        rw [show makeA 1 false p c n s = res3 zeroY (madeA 0 false nilS) 1 from rfl] at hMk
        refine seq_go ?_
        refine seq_go ?_
        (repeat' first
    | simp (contextual := true) (maxSteps := 4000000) only [fwc, fwe, opsW_gpure, drawW_pure, drawW_gpure, Env.upd_apply, Heap.upd_same, Heap.upd_apply, ite_none, List.getD_cons_zero, List.getD_cons_succ, List.getD_nil, List.length_cons, List.length_nil, List.map_cons, List.map_nil, List.getElem?_cons_zero, List.getElem?_cons_succ, List.getElem?_nil, List.set_cons_zero, List.set_cons_succ, List.take_succ_cons, List.take_zero, List.drop_succ_cons, List.drop_zero, List.nil_append, List.cons_append, List.append_nil, Option.map_some, Option.map_none, Option.bind_some, Option.bind_none, reduceIte, ↓reduceIte, decide_true, decide_false, Bool.true_and, Bool.and_true, Bool.false_and, Bool.and_false, true_and, and_true, and_self, Nat.reduceAdd, Nat.reduceLeDiff, Nat.reduceEqDiff, Nat.zero_add, Nat.add_zero, Nat.le_refl, Nat.zero_le, ge_iff_le, Nat.reduceLT, Nat.zero_lt_succ, Nat.reduceSub, if_true, if_false, forall_const, reduceCtorEq, Bool.not_true, Bool.not_false, Bool.false_eq_true, Int.reduceEq, Int.reduceLT, Int.reduceLE, Int.reduceNeg, Int.reduceToNat, Int.reduceAdd, Int.reduceSub, Nat.reduceMul, Nat.reduceEqDiff, gW_un, gcF_un, gcA_un, *]
    | (refine retK_now ?_)
    | (refine retK_now' ?_)
    | (intro q hq)
    | (refine cond_intro (fun hc => ?_) (fun hc => ?_)))
        refine seqK_now ?_
        (repeat' first
    | simp (contextual := true) (maxSteps := 4000000) only [fwc, fwe, opsW_gpure, drawW_pure, drawW_gpure, Env.upd_apply, Heap.upd_same, Heap.upd_apply, ite_none, List.getD_cons_zero, List.getD_cons_succ, List.getD_nil, List.length_cons, List.length_nil, List.map_cons, List.map_nil, List.getElem?_cons_zero, List.getElem?_cons_succ, List.getElem?_nil, List.set_cons_zero, List.set_cons_succ, List.take_succ_cons, List.take_zero, List.drop_succ_cons, List.drop_zero, List.nil_append, List.cons_append, List.append_nil, Option.map_some, Option.map_none, Option.bind_some, Option.bind_none, reduceIte, ↓reduceIte, decide_true, decide_false, Bool.true_and, Bool.and_true, Bool.false_and, Bool.and_false, true_and, and_true, and_self, Nat.reduceAdd, Nat.reduceLeDiff, Nat.reduceEqDiff, Nat.zero_add, Nat.add_zero, Nat.le_refl, Nat.zero_le, ge_iff_le, Nat.reduceLT, Nat.zero_lt_succ, Nat.reduceSub, if_true, if_false, forall_const, reduceCtorEq, Bool.not_true, Bool.not_false, Bool.false_eq_true, Int.reduceEq, Int.reduceLT, Int.reduceLE, Int.reduceNeg, Int.reduceToNat, Int.reduceAdd, Int.reduceSub, Nat.reduceMul, Nat.reduceEqDiff, gW_un, gcF_un, gcA_un, *]
    | (refine retK_now ?_)
    | (refine retK_now' ?_)
    | (intro q hq)
    | (refine cond_intro (fun hc => ?_) (fun hc => ?_)))
        refine seq_go ?_
        (repeat' first
    | simp (contextual := true) (maxSteps := 4000000) only [fwc, fwe, opsW_gpure, drawW_pure, drawW_gpure, Env.upd_apply, Heap.upd_same, Heap.upd_apply, ite_none, List.getD_cons_zero, List.getD_cons_succ, List.getD_nil, List.length_cons, List.length_nil, List.map_cons, List.map_nil, List.getElem?_cons_zero, List.getElem?_cons_succ, List.getElem?_nil, List.set_cons_zero, List.set_cons_succ, List.take_succ_cons, List.take_zero, List.drop_succ_cons, List.drop_zero, List.nil_append, List.cons_append, List.append_nil, Option.map_some, Option.map_none, Option.bind_some, Option.bind_none, reduceIte, ↓reduceIte, decide_true, decide_false, Bool.true_and, Bool.and_true, Bool.false_and, Bool.and_false, true_and, and_true, and_self, Nat.reduceAdd, Nat.reduceLeDiff, Nat.reduceEqDiff, Nat.zero_add, Nat.add_zero, Nat.le_refl, Nat.zero_le, ge_iff_le, Nat.reduceLT, Nat.zero_lt_succ, Nat.reduceSub, if_true, if_false, forall_const, reduceCtorEq, Bool.not_true, Bool.not_false, Bool.false_eq_true, Int.reduceEq, Int.reduceLT, Int.reduceLE, Int.reduceNeg, Int.reduceToNat, Int.reduceAdd, Int.reduceSub, Nat.reduceMul, Nat.reduceEqDiff, gW_un, gcF_un, gcA_un, *]
    | (refine retK_now ?_)
    | (refine retK_now' ?_)
    | (intro q hq)
    | (refine cond_intro (fun hc => ?_) (fun hc => ?_)))
        refine hE.use ?_
        (repeat' first
    | simp (contextual := true) (maxSteps := 4000000) only [fwc, fwe, opsW_gpure, drawW_pure, drawW_gpure, Env.upd_apply, Heap.upd_same, Heap.upd_apply, ite_none, List.getD_cons_zero, List.getD_cons_succ, List.getD_nil, List.length_cons, List.length_nil, List.map_cons, List.map_nil, List.getElem?_cons_zero, List.getElem?_cons_succ, List.getElem?_nil, List.set_cons_zero, List.set_cons_succ, List.take_succ_cons, List.take_zero, List.drop_succ_cons, List.drop_zero, List.nil_append, List.cons_append, List.append_nil, Option.map_some, Option.map_none, Option.bind_some, Option.bind_none, reduceIte, ↓reduceIte, decide_true, decide_false, Bool.true_and, Bool.and_true, Bool.false_and, Bool.and_false, true_and, and_true, and_self, Nat.reduceAdd, Nat.reduceLeDiff, Nat.reduceEqDiff, Nat.zero_add, Nat.add_zero, Nat.le_refl, Nat.zero_le, ge_iff_le, Nat.reduceLT, Nat.zero_lt_succ, Nat.reduceSub, if_true, if_false, forall_const, reduceCtorEq, Bool.not_true, Bool.not_false, Bool.false_eq_true, Int.reduceEq, Int.reduceLT, Int.reduceLE, Int.reduceNeg, Int.reduceToNat, Int.reduceAdd, Int.reduceSub, Nat.reduceMul, Nat.reduceEqDiff, gW_un, gcF_un, gcA_un, res2, zeroY, yarnA, nilS, Int.cast_ofNat_Int, *]
    | (refine retK_now ?_)
    | (refine retK_now' ?_)
    | (intro q hq)
    | (refine cond_intro (fun hc => ?_) (fun hc => ?_)))
        refine seqK_now ?_
        refine seq_go ?_
        (repeat' first
    | simp (contextual := true) (maxSteps := 4000000) only [fwc, fwe, opsW_gpure, drawW_pure, drawW_gpure, Env.upd_apply, Heap.upd_same, Heap.upd_apply, ite_none, List.getD_cons_zero, List.getD_cons_succ, List.getD_nil, List.length_cons, List.length_nil, List.map_cons, List.map_nil, List.getElem?_cons_zero, List.getElem?_cons_succ, List.getElem?_nil, List.set_cons_zero, List.set_cons_succ, List.take_succ_cons, List.take_zero, List.drop_succ_cons, List.drop_zero, List.nil_append, List.cons_append, List.append_nil, Option.map_some, Option.map_none, Option.bind_some, Option.bind_none, reduceIte, ↓reduceIte, decide_true, decide_false, Bool.true_and, Bool.and_true, Bool.false_and, Bool.and_false, true_and, and_true, and_self, Nat.reduceAdd, Nat.reduceLeDiff, Nat.reduceEqDiff, Nat.zero_add, Nat.add_zero, Nat.le_refl, Nat.zero_le, ge_iff_le, Nat.reduceLT, Nat.zero_lt_succ, Nat.reduceSub, if_true, if_false, forall_const, reduceCtorEq, Bool.not_true, Bool.not_false, Bool.false_eq_true, Int.reduceEq, Int.reduceLT, Int.reduceLE, Int.reduceNeg, Int.reduceToNat, Int.reduceAdd, Int.reduceSub, Nat.reduceMul, Nat.reduceEqDiff, gW_un, gcF_un, gcA_un, *]
    | (refine retK_now ?_)
    | (refine retK_now' ?_)
    | (intro q hq)
    | (refine cond_intro (fun hc => ?_) (fun hc => ?_)))
        refine hLv.use ?_
        (repeat' first
    | simp (contextual := true) (maxSteps := 4000000) only [fwc, fwe, opsW_gpure, drawW_pure, drawW_gpure, Env.upd_apply, Heap.upd_same, Heap.upd_apply, ite_none, List.getD_cons_zero, List.getD_cons_succ, List.getD_nil, List.length_cons, List.length_nil, List.map_cons, List.map_nil, List.getElem?_cons_zero, List.getElem?_cons_succ, List.getElem?_nil, List.set_cons_zero, List.set_cons_succ, List.take_succ_cons, List.take_zero, List.drop_succ_cons, List.drop_zero, List.nil_append, List.cons_append, List.append_nil, Option.map_some, Option.map_none, Option.bind_some, Option.bind_none, reduceIte, ↓reduceIte, decide_true, decide_false, Bool.true_and, Bool.and_true, Bool.false_and, Bool.and_false, true_and, and_true, and_self, Nat.reduceAdd, Nat.reduceLeDiff, Nat.reduceEqDiff, Nat.zero_add, Nat.add_zero, Nat.le_refl, Nat.zero_le, ge_iff_le, Nat.reduceLT, Nat.zero_lt_succ, Nat.reduceSub, if_true, if_false, forall_const, reduceCtorEq, Bool.not_true, Bool.not_false, Bool.false_eq_true, Int.reduceEq, Int.reduceLT, Int.reduceLE, Int.reduceNeg, Int.reduceToNat, Int.reduceAdd, Int.reduceSub, Nat.reduceMul, Nat.reduceEqDiff, gW_un, gcF_un, gcA_un, res2, zeroY, yarnA, nilS, Int.cast_ofNat_Int, *]
    | (refine retK_now ?_)
    | (refine retK_now' ?_)
    | (intro q hq)
    | (refine cond_intro (fun hc => ?_) (fun hc => ?_)))
        refine seqK_now ?_
        refine seq_go ?_
        (repeat' first
    | simp (contextual := true) (maxSteps := 4000000) only [fwc, fwe, opsW_gpure, drawW_pure, drawW_gpure, Env.upd_apply, Heap.upd_same, Heap.upd_apply, ite_none, List.getD_cons_zero, List.getD_cons_succ, List.getD_nil, List.length_cons, List.length_nil, List.map_cons, List.map_nil, List.getElem?_cons_zero, List.getElem?_cons_succ, List.getElem?_nil, List.set_cons_zero, List.set_cons_succ, List.take_succ_cons, List.take_zero, List.drop_succ_cons, List.drop_zero, List.nil_append, List.cons_append, List.append_nil, Option.map_some, Option.map_none, Option.bind_some, Option.bind_none, reduceIte, ↓reduceIte, decide_true, decide_false, Bool.true_and, Bool.and_true, Bool.false_and, Bool.and_false, true_and, and_true, and_self, Nat.reduceAdd, Nat.reduceLeDiff, Nat.reduceEqDiff, Nat.zero_add, Nat.add_zero, Nat.le_refl, Nat.zero_le, ge_iff_le, Nat.reduceLT, Nat.zero_lt_succ, Nat.reduceSub, if_true, if_false, forall_const, reduceCtorEq, Bool.not_true, Bool.not_false, Bool.false_eq_true, Int.reduceEq, Int.reduceLT, Int.reduceLE, Int.reduceNeg, Int.reduceToNat, Int.reduceAdd, Int.reduceSub, Nat.reduceMul, Nat.reduceEqDiff, gW_un, gcF_un, gcA_un, *]
    | (refine retK_now ?_)
    | (refine retK_now' ?_)
    | (intro q hq)
    | (refine cond_intro (fun hc => ?_) (fun hc => ?_)))
        refine hGo.use ?_
        (repeat' first
    | simp (contextual := true) (maxSteps := 4000000) only [fwc, fwe, opsW_gpure, drawW_pure, drawW_gpure, Env.upd_apply, Heap.upd_same, Heap.upd_apply, ite_none, List.getD_cons_zero, List.getD_cons_succ, List.getD_nil, List.length_cons, List.length_nil, List.map_cons, List.map_nil, List.getElem?_cons_zero, List.getElem?_cons_succ, List.getElem?_nil, List.set_cons_zero, List.set_cons_succ, List.take_succ_cons, List.take_zero, List.drop_succ_cons, List.drop_zero, List.nil_append, List.cons_append, List.append_nil, Option.map_some, Option.map_none, Option.bind_some, Option.bind_none, reduceIte, ↓reduceIte, decide_true, decide_false, Bool.true_and, Bool.and_true, Bool.false_and, Bool.and_false, true_and, and_true, and_self, Nat.reduceAdd, Nat.reduceLeDiff, Nat.reduceEqDiff, Nat.zero_add, Nat.add_zero, Nat.le_refl, Nat.zero_le, ge_iff_le, Nat.reduceLT, Nat.zero_lt_succ, Nat.reduceSub, if_true, if_false, forall_const, reduceCtorEq, Bool.not_true, Bool.not_false, Bool.false_eq_true, Int.reduceEq, Int.reduceLT, Int.reduceLE, Int.reduceNeg, Int.reduceToNat, Int.reduceAdd, Int.reduceSub, Nat.reduceMul, Nat.reduceEqDiff, gW_un, gcF_un, gcA_un, res2, zeroY, yarnA, nilS, Int.cast_ofNat_Int, *]
    | (refine retK_now ?_)
    | (refine retK_now' ?_)
    | (intro q hq)
    | (refine cond_intro (fun hc => ?_) (fun hc => ?_)))
        refine seqK_now ?_
        refine seq_go ?_
        (repeat' first
    | simp (contextual := true) (maxSteps := 4000000) only [fwc, fwe, opsW_gpure, drawW_pure, drawW_gpure, Env.upd_apply, Heap.upd_same, Heap.upd_apply, ite_none, List.getD_cons_zero, List.getD_cons_succ, List.getD_nil, List.length_cons, List.length_nil, List.map_cons, List.map_nil, List.getElem?_cons_zero, List.getElem?_cons_succ, List.getElem?_nil, List.set_cons_zero, List.set_cons_succ, List.take_succ_cons, List.take_zero, List.drop_succ_cons, List.drop_zero, List.nil_append, List.cons_append, List.append_nil, Option.map_some, Option.map_none, Option.bind_some, Option.bind_none, reduceIte, ↓reduceIte, decide_true, decide_false, Bool.true_and, Bool.and_true, Bool.false_and, Bool.and_false, true_and, and_true, and_self, Nat.reduceAdd, Nat.reduceLeDiff, Nat.reduceEqDiff, Nat.zero_add, Nat.add_zero, Nat.le_refl, Nat.zero_le, ge_iff_le, Nat.reduceLT, Nat.zero_lt_succ, Nat.reduceSub, if_true, if_false, forall_const, reduceCtorEq, Bool.not_true, Bool.not_false, Bool.false_eq_true, Int.reduceEq, Int.reduceLT, Int.reduceLE, Int.reduceNeg, Int.reduceToNat, Int.reduceAdd, Int.reduceSub, Nat.reduceMul, Nat.reduceEqDiff, gW_un, gcF_un, gcA_un, *]
    | (refine retK_now ?_)
    | (refine retK_now' ?_)
    | (intro q hq)
    | (refine cond_intro (fun hc => ?_) (fun hc => ?_)))
        refine hMk.use ?_
        (repeat' first
    | simp (contextual := true) (maxSteps := 4000000) only [fwc, fwe, opsW_gpure, drawW_pure, drawW_gpure, Env.upd_apply, Heap.upd_same, Heap.upd_apply, ite_none, List.getD_cons_zero, List.getD_cons_succ, List.getD_nil, List.length_cons, List.length_nil, List.map_cons, List.map_nil, List.getElem?_cons_zero, List.getElem?_cons_succ, List.getElem?_nil, List.set_cons_zero, List.set_cons_succ, List.take_succ_cons, List.take_zero, List.drop_succ_cons, List.drop_zero, List.nil_append, List.cons_append, List.append_nil, Option.map_some, Option.map_none, Option.bind_some, Option.bind_none, reduceIte, ↓reduceIte, decide_true, decide_false, Bool.true_and, Bool.and_true, Bool.false_and, Bool.and_false, true_and, and_true, and_self, Nat.reduceAdd, Nat.reduceLeDiff, Nat.reduceEqDiff, Nat.zero_add, Nat.add_zero, Nat.le_refl, Nat.zero_le, ge_iff_le, Nat.reduceLT, Nat.zero_lt_succ, Nat.reduceSub, if_true, if_false, forall_const, reduceCtorEq, Bool.not_true, Bool.not_false, Bool.false_eq_true, Int.reduceEq, Int.reduceLT, Int.reduceLE, Int.reduceNeg, Int.reduceToNat, Int.reduceAdd, Int.reduceSub, Nat.reduceMul, Nat.reduceEqDiff, gW_un, gcF_un, gcA_un, res3, madeA, zeroY, yarnA, nilS, Int.cast_ofNat_Int, *]
    | (refine retK_now ?_)
    | (refine retK_now' ?_)
    | (intro q hq)
    | (refine cond_intro (fun hc => ?_) (fun hc => ?_)))
        refine seqK_now ?_
        refine seq_go ?_
        (repeat' first
    | simp (contextual := true) (maxSteps := 4000000) only [fwc, fwe, opsW_gpure, drawW_pure, drawW_gpure, Env.upd_apply, Heap.upd_same, Heap.upd_apply, ite_none, List.getD_cons_zero, List.getD_cons_succ, List.getD_nil, List.length_cons, List.length_nil, List.map_cons, List.map_nil, List.getElem?_cons_zero, List.getElem?_cons_succ, List.getElem?_nil, List.set_cons_zero, List.set_cons_succ, List.take_succ_cons, List.take_zero, List.drop_succ_cons, List.drop_zero, List.nil_append, List.cons_append, List.append_nil, Option.map_some, Option.map_none, Option.bind_some, Option.bind_none, reduceIte, ↓reduceIte, decide_true, decide_false, Bool.true_and, Bool.and_true, Bool.false_and, Bool.and_false, true_and, and_true, and_self, Nat.reduceAdd, Nat.reduceLeDiff, Nat.reduceEqDiff, Nat.zero_add, Nat.add_zero, Nat.le_refl, Nat.zero_le, ge_iff_le, Nat.reduceLT, Nat.zero_lt_succ, Nat.reduceSub, if_true, if_false, forall_const, reduceCtorEq, Bool.not_true, Bool.not_false, Bool.false_eq_true, Int.reduceEq, Int.reduceLT, Int.reduceLE, Int.reduceNeg, Int.reduceToNat, Int.reduceAdd, Int.reduceSub, Nat.reduceMul, Nat.reduceEqDiff, gW_un, gcF_un, gcA_un, *]
    | (refine retK_now ?_)
    | (refine retK_now' ?_)
    | (intro q hq)
    | (refine cond_intro (fun hc => ?_) (fun hc => ?_)))
        refine hCk.use ?_
        (repeat' first
    | simp (contextual := true) (maxSteps := 4000000) only [fwc, fwe, opsW_gpure, drawW_pure, drawW_gpure, Env.upd_apply, Heap.upd_same, Heap.upd_apply, ite_none, List.getD_cons_zero, List.getD_cons_succ, List.getD_nil, List.length_cons, List.length_nil, List.map_cons, List.map_nil, List.getElem?_cons_zero, List.getElem?_cons_succ, List.getElem?_nil, List.set_cons_zero, List.set_cons_succ, List.take_succ_cons, List.take_zero, List.drop_succ_cons, List.drop_zero, List.nil_append, List.cons_append, List.append_nil, Option.map_some, Option.map_none, Option.bind_some, Option.bind_none, reduceIte, ↓reduceIte, decide_true, decide_false, Bool.true_and, Bool.and_true, Bool.false_and, Bool.and_false, true_and, and_true, and_self, Nat.reduceAdd, Nat.reduceLeDiff, Nat.reduceEqDiff, Nat.zero_add, Nat.add_zero, Nat.le_refl, Nat.zero_le, ge_iff_le, Nat.reduceLT, Nat.zero_lt_succ, Nat.reduceSub, if_true, if_false, forall_const, reduceCtorEq, Bool.not_true, Bool.not_false, Bool.false_eq_true, Int.reduceEq, Int.reduceLT, Int.reduceLE, Int.reduceNeg, Int.reduceToNat, Int.reduceAdd, Int.reduceSub, Nat.reduceMul, Nat.reduceEqDiff, gW_un, gcF_un, gcA_un, beq_self_eq_true, *]
    | (refine retK_now ?_)
    | (refine retK_now' ?_)
    | (intro q hq)
    | (refine cond_intro (fun hc => ?_) (fun hc => ?_)))
        refine lives_ok.use ?_
        (repeat' first
    | simp (contextual := true) (maxSteps := 4000000) only [fwc, fwe, cmd_seq, opsW_gpure, drawW_pure, drawW_gpure, Env.upd_apply, Heap.upd_same, Heap.upd_apply, ite_none, List.getD_cons_zero, List.getD_cons_succ, List.getD_nil, List.length_cons, List.length_nil, List.map_cons, List.map_nil, List.getElem?_cons_zero, List.getElem?_cons_succ, List.getElem?_nil, List.set_cons_zero, List.set_cons_succ, List.take_succ_cons, List.take_zero, List.drop_succ_cons, List.drop_zero, List.nil_append, List.cons_append, List.append_nil, Option.map_some, Option.map_none, Option.bind_some, Option.bind_none, reduceIte, ↓reduceIte, decide_true, decide_false, Bool.true_and, Bool.and_true, Bool.false_and, Bool.and_false, true_and, and_true, and_self, Nat.reduceAdd, Nat.reduceLeDiff, Nat.reduceEqDiff, Nat.zero_add, Nat.add_zero, Nat.le_refl, Nat.zero_le, ge_iff_le, Nat.reduceLT, Nat.zero_lt_succ, Nat.reduceSub, if_true, if_false, forall_const, reduceCtorEq, Bool.not_true, Bool.not_false, Bool.false_eq_true, Int.reduceEq, Int.reduceLT, Int.reduceLE, Int.reduceNeg, Int.reduceToNat, Int.reduceAdd, Int.reduceSub, Nat.reduceMul, Nat.reduceEqDiff, gW_un, gcF_un, gcA_un, *]
    | (refine seqK_now ?_)
    | (refine retK_now ?_)
    | (refine retK_now' ?_)
    | (intro q hq)
    | (refine cond_intro (fun hc => ?_) (fun hc => ?_)))
        refine WeakR.pure (by repeat (first | exact Heap.sub_refl _ | refine sub_upd (by simp only [*]) ?_)) ?_
        rfl
      · have hk := hk0.2 rfl
        clear hk0
        rw [hk] at hE hLv hGo hMk hCk
        clear hE hLv hGo
        refine seq_go ?_
        refine seq_go ?_
        (repeat' first
    | simp (contextual := true) (maxSteps := 4000000) only [fwc, fwe, opsW_gpure, drawW_pure, drawW_gpure, Env.upd_apply, Heap.upd_same, Heap.upd_apply, ite_none, List.getD_cons_zero, List.getD_cons_succ, List.getD_nil, List.length_cons, List.length_nil, List.map_cons, List.map_nil, List.getElem?_cons_zero, List.getElem?_cons_succ, List.getElem?_nil, List.set_cons_zero, List.set_cons_succ, List.take_succ_cons, List.take_zero, List.drop_succ_cons, List.drop_zero, List.nil_append, List.cons_append, List.append_nil, Option.map_some, Option.map_none, Option.bind_some, Option.bind_none, reduceIte, ↓reduceIte, decide_true, decide_false, Bool.true_and, Bool.and_true, Bool.false_and, Bool.and_false, true_and, and_true, and_self, Nat.reduceAdd, Nat.reduceLeDiff, Nat.reduceEqDiff, Nat.zero_add, Nat.add_zero, Nat.le_refl, Nat.zero_le, ge_iff_le, Nat.reduceLT, Nat.zero_lt_succ, Nat.reduceSub, if_true, if_false, forall_const, reduceCtorEq, Bool.not_true, Bool.not_false, Bool.false_eq_true, Int.reduceEq, Int.reduceLT, Int.reduceLE, Int.reduceNeg, Int.reduceToNat, Int.reduceAdd, Int.reduceSub, Nat.reduceMul, Nat.reduceEqDiff, gW_un, gcF_un, gcA_un, *]
    | (refine retK_now ?_)
    | (refine retK_now' ?_)
    | (intro q hq)
    | (refine cond_intro (fun hc => ?_) (fun hc => ?_)))
        refine seqK_now ?_
        (repeat' first
    | simp (contextual := true) (maxSteps := 4000000) only [fwc, fwe, opsW_gpure, drawW_pure, drawW_gpure, Env.upd_apply, Heap.upd_same, Heap.upd_apply, ite_none, List.getD_cons_zero, List.getD_cons_succ, List.getD_nil, List.length_cons, List.length_nil, List.map_cons, List.map_nil, List.getElem?_cons_zero, List.getElem?_cons_succ, List.getElem?_nil, List.set_cons_zero, List.set_cons_succ, List.take_succ_cons, List.take_zero, List.drop_succ_cons, List.drop_zero, List.nil_append, List.cons_append, List.append_nil, Option.map_some, Option.map_none, Option.bind_some, Option.bind_none, reduceIte, ↓reduceIte, decide_true, decide_false, Bool.true_and, Bool.and_true, Bool.false_and, Bool.and_false, true_and, and_true, and_self, Nat.reduceAdd, Nat.reduceLeDiff, Nat.reduceEqDiff, Nat.zero_add, Nat.add_zero, Nat.le_refl, Nat.zero_le, ge_iff_le, Nat.reduceLT, Nat.zero_lt_succ, Nat.reduceSub, if_true, if_false, forall_const, reduceCtorEq, Bool.not_true, Bool.not_false, Bool.false_eq_true, Int.reduceEq, Int.reduceLT, Int.reduceLE, Int.reduceNeg, Int.reduceToNat, Int.reduceAdd, Int.reduceSub, Nat.reduceMul, Nat.reduceEqDiff, gW_un, gcF_un, gcA_un, *]
    | (refine retK_now ?_)
    | (refine retK_now' ?_)
    | (intro q hq)
    | (refine cond_intro (fun hc => ?_) (fun hc => ?_)))
        refine seqK_now ?_
        rw [show makeA 0 false p c n s = res3 zeroY (madeA 0 false nilS) 12 from rfl] at hMk
        refine seq_go ?_
        (repeat' first
    | simp (contextual := true) (maxSteps := 4000000) only [fwc, fwe, opsW_gpure, drawW_pure, drawW_gpure, Env.upd_apply, Heap.upd_same, Heap.upd_apply, ite_none, List.getD_cons_zero, List.getD_cons_succ, List.getD_nil, List.length_cons, List.length_nil, List.map_cons, List.map_nil, List.getElem?_cons_zero, List.getElem?_cons_succ, List.getElem?_nil, List.set_cons_zero, List.set_cons_succ, List.take_succ_cons, List.take_zero, List.drop_succ_cons, List.drop_zero, List.nil_append, List.cons_append, List.append_nil, Option.map_some, Option.map_none, Option.bind_some, Option.bind_none, reduceIte, ↓reduceIte, decide_true, decide_false, Bool.true_and, Bool.and_true, Bool.false_and, Bool.and_false, true_and, and_true, and_self, Nat.reduceAdd, Nat.reduceLeDiff, Nat.reduceEqDiff, Nat.zero_add, Nat.add_zero, Nat.le_refl, Nat.zero_le, ge_iff_le, Nat.reduceLT, Nat.zero_lt_succ, Nat.reduceSub, if_true, if_false, forall_const, reduceCtorEq, Bool.not_true, Bool.not_false, Bool.false_eq_true, Int.reduceEq, Int.reduceLT, Int.reduceLE, Int.reduceNeg, Int.reduceToNat, Int.reduceAdd, Int.reduceSub, Nat.reduceMul, Nat.reduceEqDiff, gW_un, gcF_un, gcA_un, *]
    | (refine retK_now ?_)
    | (refine retK_now' ?_)
    | (intro q hq)
    | (refine cond_intro (fun hc => ?_) (fun hc => ?_)))
        refine hMk.use ?_
        (repeat' first
    | simp (contextual := true) (maxSteps := 4000000) only [fwc, fwe, opsW_gpure, drawW_pure, drawW_gpure, Env.upd_apply, Heap.upd_same, Heap.upd_apply, ite_none, List.getD_cons_zero, List.getD_cons_succ, List.getD_nil, List.length_cons, List.length_nil, List.map_cons, List.map_nil, List.getElem?_cons_zero, List.getElem?_cons_succ, List.getElem?_nil, List.set_cons_zero, List.set_cons_succ, List.take_succ_cons, List.take_zero, List.drop_succ_cons, List.drop_zero, List.nil_append, List.cons_append, List.append_nil, Option.map_some, Option.map_none, Option.bind_some, Option.bind_none, reduceIte, ↓reduceIte, decide_true, decide_false, Bool.true_and, Bool.and_true, Bool.false_and, Bool.and_false, true_and, and_true, and_self, Nat.reduceAdd, Nat.reduceLeDiff, Nat.reduceEqDiff, Nat.zero_add, Nat.add_zero, Nat.le_refl, Nat.zero_le, ge_iff_le, Nat.reduceLT, Nat.zero_lt_succ, Nat.reduceSub, if_true, if_false, forall_const, reduceCtorEq, Bool.not_true, Bool.not_false, Bool.false_eq_true, Int.reduceEq, Int.reduceLT, Int.reduceLE, Int.reduceNeg, Int.reduceToNat, Int.reduceAdd, Int.reduceSub, Nat.reduceMul, Nat.reduceEqDiff, gW_un, gcF_un, gcA_un, res3, madeA, zeroY, yarnA, nilS, Int.cast_ofNat_Int, *]
    | (refine retK_now ?_)
    | (refine retK_now' ?_)
    | (intro q hq)
    | (refine cond_intro (fun hc => ?_) (fun hc => ?_)))
        refine seqK_now ?_
        refine seq_go ?_
        (repeat' first
    | simp (contextual := true) (maxSteps := 4000000) only [fwc, fwe, opsW_gpure, drawW_pure, drawW_gpure, Env.upd_apply, Heap.upd_same, Heap.upd_apply, ite_none, List.getD_cons_zero, List.getD_cons_succ, List.getD_nil, List.length_cons, List.length_nil, List.map_cons, List.map_nil, List.getElem?_cons_zero, List.getElem?_cons_succ, List.getElem?_nil, List.set_cons_zero, List.set_cons_succ, List.take_succ_cons, List.take_zero, List.drop_succ_cons, List.drop_zero, List.nil_append, List.cons_append, List.append_nil, Option.map_some, Option.map_none, Option.bind_some, Option.bind_none, reduceIte, ↓reduceIte, decide_true, decide_false, Bool.true_and, Bool.and_true, Bool.false_and, Bool.and_false, true_and, and_true, and_self, Nat.reduceAdd, Nat.reduceLeDiff, Nat.reduceEqDiff, Nat.zero_add, Nat.add_zero, Nat.le_refl, Nat.zero_le, ge_iff_le, Nat.reduceLT, Nat.zero_lt_succ, Nat.reduceSub, if_true, if_false, forall_const, reduceCtorEq, Bool.not_true, Bool.not_false, Bool.false_eq_true, Int.reduceEq, Int.reduceLT, Int.reduceLE, Int.reduceNeg, Int.reduceToNat, Int.reduceAdd, Int.reduceSub, Nat.reduceMul, Nat.reduceEqDiff, gW_un, gcF_un, gcA_un, *]
    | (refine retK_now ?_)
    | (refine retK_now' ?_)
    | (intro q hq)
    | (refine cond_intro (fun hc => ?_) (fun hc => ?_)))
        refine seqK_now ?_
        refine seq_go ?_
        refine seq_go ?_
        (repeat' first
    | simp (contextual := true) (maxSteps := 4000000) only [fwc, fwe, opsW_gpure, drawW_pure, drawW_gpure, Env.upd_apply, Heap.upd_same, Heap.upd_apply, ite_none, List.getD_cons_zero, List.getD_cons_succ, List.getD_nil, List.length_cons, List.length_nil, List.map_cons, List.map_nil, List.getElem?_cons_zero, List.getElem?_cons_succ, List.getElem?_nil, List.set_cons_zero, List.set_cons_succ, List.take_succ_cons, List.take_zero, List.drop_succ_cons, List.drop_zero, List.nil_append, List.cons_append, List.append_nil, Option.map_some, Option.map_none, Option.bind_some, Option.bind_none, reduceIte, ↓reduceIte, decide_true, decide_false, Bool.true_and, Bool.and_true, Bool.false_and, Bool.and_false, true_and, and_true, and_self, Nat.reduceAdd, Nat.reduceLeDiff, Nat.reduceEqDiff, Nat.zero_add, Nat.add_zero, Nat.le_refl, Nat.zero_le, ge_iff_le, Nat.reduceLT, Nat.zero_lt_succ, Nat.reduceSub, if_true, if_false, forall_const, reduceCtorEq, Bool.not_true, Bool.not_false, Bool.false_eq_true, Int.reduceEq, Int.reduceLT, Int.reduceLE, Int.reduceNeg, Int.reduceToNat, Int.reduceAdd, Int.reduceSub, Nat.reduceMul, Nat.reduceEqDiff, gW_un, gcF_un, gcA_un, *]
    | (refine retK_now ?_)
    | (refine retK_now' ?_)
    | (intro q hq)
    | (refine cond_intro (fun hc => ?_) (fun hc => ?_)))
        refine seqK_now ?_
        (repeat' first
    | simp (contextual := true) (maxSteps := 4000000) only [fwc, fwe, opsW_gpure, drawW_pure, drawW_gpure, Env.upd_apply, Heap.upd_same, Heap.upd_apply, ite_none, List.getD_cons_zero, List.getD_cons_succ, List.getD_nil, List.length_cons, List.length_nil, List.map_cons, List.map_nil, List.getElem?_cons_zero, List.getElem?_cons_succ, List.getElem?_nil, List.set_cons_zero, List.set_cons_succ, List.take_succ_cons, List.take_zero, List.drop_succ_cons, List.drop_zero, List.nil_append, List.cons_append, List.append_nil, Option.map_some, Option.map_none, Option.bind_some, Option.bind_none, reduceIte, ↓reduceIte, decide_true, decide_false, Bool.true_and, Bool.and_true, Bool.false_and, Bool.and_false, true_and, and_true, and_self, Nat.reduceAdd, Nat.reduceLeDiff, Nat.reduceEqDiff, Nat.zero_add, Nat.add_zero, Nat.le_refl, Nat.zero_le, ge_iff_le, Nat.reduceLT, Nat.zero_lt_succ, Nat.reduceSub, if_true, if_false, forall_const, reduceCtorEq, Bool.not_true, Bool.not_false, Bool.false_eq_true, Int.reduceEq, Int.reduceLT, Int.reduceLE, Int.reduceNeg, Int.reduceToNat, Int.reduceAdd, Int.reduceSub, Nat.reduceMul, Nat.reduceEqDiff, gW_un, gcF_un, gcA_un, *]
    | (refine retK_now ?_)
    | (refine retK_now' ?_)
    | (intro q hq)
    | (refine cond_intro (fun hc => ?_) (fun hc => ?_)))
        refine seqK_now ?_
        refine seq_go ?_
        (repeat' first
    | simp (contextual := true) (maxSteps := 4000000) only [fwc, fwe, opsW_gpure, drawW_pure, drawW_gpure, Env.upd_apply, Heap.upd_same, Heap.upd_apply, ite_none, List.getD_cons_zero, List.getD_cons_succ, List.getD_nil, List.length_cons, List.length_nil, List.map_cons, List.map_nil, List.getElem?_cons_zero, List.getElem?_cons_succ, List.getElem?_nil, List.set_cons_zero, List.set_cons_succ, List.take_succ_cons, List.take_zero, List.drop_succ_cons, List.drop_zero, List.nil_append, List.cons_append, List.append_nil, Option.map_some, Option.map_none, Option.bind_some, Option.bind_none, reduceIte, ↓reduceIte, decide_true, decide_false, Bool.true_and, Bool.and_true, Bool.false_and, Bool.and_false, true_and, and_true, and_self, Nat.reduceAdd, Nat.reduceLeDiff, Nat.reduceEqDiff, Nat.zero_add, Nat.add_zero, Nat.le_refl, Nat.zero_le, ge_iff_le, Nat.reduceLT, Nat.zero_lt_succ, Nat.reduceSub, if_true, if_false, forall_const, reduceCtorEq, Bool.not_true, Bool.not_false, Bool.false_eq_true, Int.reduceEq, Int.reduceLT, Int.reduceLE, Int.reduceNeg, Int.reduceToNat, Int.reduceAdd, Int.reduceSub, Nat.reduceMul, Nat.reduceEqDiff, gW_un, gcF_un, gcA_un, *]
    | (refine retK_now ?_)
    | (refine retK_now' ?_)
    | (intro q hq)
    | (refine cond_intro (fun hc => ?_) (fun hc => ?_)))
        refine hCk.use ?_
        (repeat' first
    | simp (contextual := true) (maxSteps := 4000000) only [fwc, fwe, opsW_gpure, drawW_pure, drawW_gpure, Env.upd_apply, Heap.upd_same, Heap.upd_apply, ite_none, List.getD_cons_zero, List.getD_cons_succ, List.getD_nil, List.length_cons, List.length_nil, List.map_cons, List.map_nil, List.getElem?_cons_zero, List.getElem?_cons_succ, List.getElem?_nil, List.set_cons_zero, List.set_cons_succ, List.take_succ_cons, List.take_zero, List.drop_succ_cons, List.drop_zero, List.nil_append, List.cons_append, List.append_nil, Option.map_some, Option.map_none, Option.bind_some, Option.bind_none, reduceIte, ↓reduceIte, decide_true, decide_false, Bool.true_and, Bool.and_true, Bool.false_and, Bool.and_false, true_and, and_true, and_self, Nat.reduceAdd, Nat.reduceLeDiff, Nat.reduceEqDiff, Nat.zero_add, Nat.add_zero, Nat.le_refl, Nat.zero_le, ge_iff_le, Nat.reduceLT, Nat.zero_lt_succ, Nat.reduceSub, if_true, if_false, forall_const, reduceCtorEq, Bool.not_true, Bool.not_false, Bool.false_eq_true, Int.reduceEq, Int.reduceLT, Int.reduceLE, Int.reduceNeg, Int.reduceToNat, Int.reduceAdd, Int.reduceSub, Nat.reduceMul, Nat.reduceEqDiff, gW_un, gcF_un, gcA_un, beq_self_eq_true, *]
    | (refine retK_now ?_)
    | (refine retK_now' ?_)
    | (intro q hq)
    | (refine cond_intro (fun hc => ?_) (fun hc => ?_)))
        refine lives_ok.use ?_
        (repeat' first
    | simp (contextual := true) (maxSteps := 4000000) only [fwc, fwe, cmd_seq, opsW_gpure, drawW_pure, drawW_gpure, Env.upd_apply, Heap.upd_same, Heap.upd_apply, ite_none, List.getD_cons_zero, List.getD_cons_succ, List.getD_nil, List.length_cons, List.length_nil, List.map_cons, List.map_nil, List.getElem?_cons_zero, List.getElem?_cons_succ, List.getElem?_nil, List.set_cons_zero, List.set_cons_succ, List.take_succ_cons, List.take_zero, List.drop_succ_cons, List.drop_zero, List.nil_append, List.cons_append, List.append_nil, Option.map_some, Option.map_none, Option.bind_some, Option.bind_none, reduceIte, ↓reduceIte, decide_true, decide_false, Bool.true_and, Bool.and_true, Bool.false_and, Bool.and_false, true_and, and_true, and_self, Nat.reduceAdd, Nat.reduceLeDiff, Nat.reduceEqDiff, Nat.zero_add, Nat.add_zero, Nat.le_refl, Nat.zero_le, ge_iff_le, Nat.reduceLT, Nat.zero_lt_succ, Nat.reduceSub, if_true, if_false, forall_const, reduceCtorEq, Bool.not_true, Bool.not_false, Bool.false_eq_true, Int.reduceEq, Int.reduceLT, Int.reduceLE, Int.reduceNeg, Int.reduceToNat, Int.reduceAdd, Int.reduceSub, Nat.reduceMul, Nat.reduceEqDiff, gW_un, gcF_un, gcA_un, *]
    | (refine seqK_now ?_)
    | (refine retK_now ?_)
    | (refine retK_now' ?_)
    | (intro q hq)
    | (refine cond_intro (fun hc => ?_) (fun hc => ?_)))
        refine WeakR.pure (by repeat (first | exact Heap.sub_refl _ | refine sub_upd (by simp only [*]) ?_)) ?_
        rfl
  · refine seq_go ?_
    (repeat' first
    | simp (contextual := true) (maxSteps := 4000000) only [fwc, fwe, opsW_gpure, drawW_pure, drawW_gpure, Env.upd_apply, Heap.upd_same, Heap.upd_apply, ite_none, List.getD_cons_zero, List.getD_cons_succ, List.getD_nil, List.length_cons, List.length_nil, List.map_cons, List.map_nil, List.getElem?_cons_zero, List.getElem?_cons_succ, List.getElem?_nil, List.set_cons_zero, List.set_cons_succ, List.take_succ_cons, List.take_zero, List.drop_succ_cons, List.drop_zero, List.nil_append, List.cons_append, List.append_nil, Option.map_some, Option.map_none, Option.bind_some, Option.bind_none, reduceIte, ↓reduceIte, decide_true, decide_false, Bool.true_and, Bool.and_true, Bool.false_and, Bool.and_false, true_and, and_true, and_self, Nat.reduceAdd, Nat.reduceLeDiff, Nat.reduceEqDiff, Nat.zero_add, Nat.add_zero, Nat.le_refl, Nat.zero_le, ge_iff_le, Nat.reduceLT, Nat.zero_lt_succ, Nat.reduceSub, if_true, if_false, forall_const, reduceCtorEq, Bool.not_true, Bool.not_false, Bool.false_eq_true, Int.reduceEq, Int.reduceLT, Int.reduceLE, Int.reduceNeg, Int.reduceToNat, Int.reduceAdd, Int.reduceSub, Nat.reduceMul, Nat.reduceEqDiff, gW_un, gcF_un, gcA_un, *]
    | (refine retK_now ?_)
    | (refine retK_now' ?_)
    | (intro q hq)
    | (refine cond_intro (fun hc => ?_) (fun hc => ?_)))
    refine seqK_now ?_
    refine seq_go ?_
    refine seq_go ?_
    (repeat' first
    | simp (contextual := true) (maxSteps := 4000000) only [fwc, fwe, opsW_gpure, drawW_pure, drawW_gpure, Env.upd_apply, Heap.upd_same, Heap.upd_apply, ite_none, List.getD_cons_zero, List.getD_cons_succ, List.getD_nil, List.length_cons, List.length_nil, List.map_cons, List.map_nil, List.getElem?_cons_zero, List.getElem?_cons_succ, List.getElem?_nil, List.set_cons_zero, List.set_cons_succ, List.take_succ_cons, List.take_zero, List.drop_succ_cons, List.drop_zero, List.nil_append, List.cons_append, List.append_nil, Option.map_some, Option.map_none, Option.bind_some, Option.bind_none, reduceIte, ↓reduceIte, decide_true, decide_false, Bool.true_and, Bool.and_true, Bool.false_and, Bool.and_false, true_and, and_true, and_self, Nat.reduceAdd, Nat.reduceLeDiff, Nat.reduceEqDiff, Nat.zero_add, Nat.add_zero, Nat.le_refl, Nat.zero_le, ge_iff_le, Nat.reduceLT, Nat.zero_lt_succ, Nat.reduceSub, if_true, if_false, forall_const, reduceCtorEq, Bool.not_true, Bool.not_false, Bool.false_eq_true, Int.reduceEq, Int.reduceLT, Int.reduceLE, Int.reduceNeg, Int.reduceToNat, Int.reduceAdd, Int.reduceSub, Nat.reduceMul, Nat.reduceEqDiff, gW_un, gcF_un, gcA_un, *]
    | (refine retK_now ?_)
    | (refine retK_now' ?_)
    | (intro q hq)
    | (refine cond_intro (fun hc => ?_) (fun hc => ?_)))
    refine seqK_now ?_
    (repeat' first
    | simp (contextual := true) (maxSteps := 4000000) only [fwc, fwe, opsW_gpure, drawW_pure, drawW_gpure, Env.upd_apply, Heap.upd_same, Heap.upd_apply, ite_none, List.getD_cons_zero, List.getD_cons_succ, List.getD_nil, List.length_cons, List.length_nil, List.map_cons, List.map_nil, List.getElem?_cons_zero, List.getElem?_cons_succ, List.getElem?_nil, List.set_cons_zero, List.set_cons_succ, List.take_succ_cons, List.take_zero, List.drop_succ_cons, List.drop_zero, List.nil_append, List.cons_append, List.append_nil, Option.map_some, Option.map_none, Option.bind_some, Option.bind_none, reduceIte, ↓reduceIte, decide_true, decide_false, Bool.true_and, Bool.and_true, Bool.false_and, Bool.and_false, true_and, and_true, and_self, Nat.reduceAdd, Nat.reduceLeDiff, Nat.reduceEqDiff, Nat.zero_add, Nat.add_zero, Nat.le_refl, Nat.zero_le, ge_iff_le, Nat.reduceLT, Nat.zero_lt_succ, Nat.reduceSub, if_true, if_false, forall_const, reduceCtorEq, Bool.not_true, Bool.not_false, Bool.false_eq_true, Int.reduceEq, Int.reduceLT, Int.reduceLE, Int.reduceNeg, Int.reduceToNat, Int.reduceAdd, Int.reduceSub, Nat.reduceMul, Nat.reduceEqDiff, gW_un, gcF_un, gcA_un, *]
    | (refine retK_now ?_)
    | (refine retK_now' ?_)
    | (intro q hq)
    | (refine cond_intro (fun hc => ?_) (fun hc => ?_)))
    refine seqK_now ?_
    refine seq_go ?_
    refine seq_go ?_
    (repeat' first
    | simp (contextual := true) (maxSteps := 4000000) only [fwc, fwe, opsW_gpure, drawW_pure, drawW_gpure, Env.upd_apply, Heap.upd_same, Heap.upd_apply, ite_none, List.getD_cons_zero, List.getD_cons_succ, List.getD_nil, List.length_cons, List.length_nil, List.map_cons, List.map_nil, List.getElem?_cons_zero, List.getElem?_cons_succ, List.getElem?_nil, List.set_cons_zero, List.set_cons_succ, List.take_succ_cons, List.take_zero, List.drop_succ_cons, List.drop_zero, List.nil_append, List.cons_append, List.append_nil, Option.map_some, Option.map_none, Option.bind_some, Option.bind_none, reduceIte, ↓reduceIte, decide_true, decide_false, Bool.true_and, Bool.and_true, Bool.false_and, Bool.and_false, true_and, and_true, and_self, Nat.reduceAdd, Nat.reduceLeDiff, Nat.reduceEqDiff, Nat.zero_add, Nat.add_zero, Nat.le_refl, Nat.zero_le, ge_iff_le, Nat.reduceLT, Nat.zero_lt_succ, Nat.reduceSub, if_true, if_false, forall_const, reduceCtorEq, Bool.not_true, Bool.not_false, Bool.false_eq_true, Int.reduceEq, Int.reduceLT, Int.reduceLE, Int.reduceNeg, Int.reduceToNat, Int.reduceAdd, Int.reduceSub, Nat.reduceMul, Nat.reduceEqDiff, gW_un, gcF_un, gcA_un, *]
    | (refine retK_now ?_)
    | (refine retK_now' ?_)
    | (intro q hq)
    | (refine cond_intro (fun hc => ?_) (fun hc => ?_)))
    refine seqK_now ?_
    (repeat' first
    | simp (contextual := true) (maxSteps := 4000000) only [fwc, fwe, opsW_gpure, drawW_pure, drawW_gpure, Env.upd_apply, Heap.upd_same, Heap.upd_apply, ite_none, List.getD_cons_zero, List.getD_cons_succ, List.getD_nil, List.length_cons, List.length_nil, List.map_cons, List.map_nil, List.getElem?_cons_zero, List.getElem?_cons_succ, List.getElem?_nil, List.set_cons_zero, List.set_cons_succ, List.take_succ_cons, List.take_zero, List.drop_succ_cons, List.drop_zero, List.nil_append, List.cons_append, List.append_nil, Option.map_some, Option.map_none, Option.bind_some, Option.bind_none, reduceIte, ↓reduceIte, decide_true, decide_false, Bool.true_and, Bool.and_true, Bool.false_and, Bool.and_false, true_and, and_true, and_self, Nat.reduceAdd, Nat.reduceLeDiff, Nat.reduceEqDiff, Nat.zero_add, Nat.add_zero, Nat.le_refl, Nat.zero_le, ge_iff_le, Nat.reduceLT, Nat.zero_lt_succ, Nat.reduceSub, if_true, if_false, forall_const, reduceCtorEq, Bool.not_true, Bool.not_false, Bool.false_eq_true, Int.reduceEq, Int.reduceLT, Int.reduceLE, Int.reduceNeg, Int.reduceToNat, Int.reduceAdd, Int.reduceSub, Nat.reduceMul, Nat.reduceEqDiff, gW_un, gcF_un, gcA_un, *]
    | (refine retK_now ?_)
    | (refine retK_now' ?_)
    | (intro q hq)
    | (refine cond_intro (fun hc => ?_) (fun hc => ?_)))
    obtain ⟨I, hI⟩ := hideI (fun M e O' => ∃ (k : Nat) (g : Bool), k ≤ L.length ∧ M = L.length - k ∧ (g = true ↔ (goodP true p c n L ∧ ∀ j, j < k → okAt L j)) ∧ O' = ((O.upd q1 (.arr 38 5 [.agg [.val (.bool true), .val (.int .i64 p), .val (.int .i64 c), .val (.bool n), s]])).upd q (.arr 30 2 [.agg [.val (.int .u8 y), .val (.int .i64 m)]])) ∧ e = env8 q1 g k)
    refine cmd_loop I L.length (by
      rw [hI.out]
      refine ⟨0, _, by omega, rfl, ?_, rfl, rfl⟩
      unfold goodP
      simp [and_assoc]
      try omega) ?_
    intro M e O' hh
    rw [hI.out] at hh
    obtain ⟨k, g, h4, rfl, hg, rfl, rfl⟩ := hh
    have hw : k < 4611686018427387904 := by omega
    have hg := (show Aside _ from hg)
    unfold env8
    refine seq_go ?_
    refine seq_go ?_
    (repeat' first
    | simp (contextual := true) (maxSteps := 4000000) only [fwc, fwe, opsW_gpure, drawW_pure, drawW_gpure, Env.upd_apply, Heap.upd_same, Heap.upd_apply, ite_none, List.getD_cons_zero, List.getD_cons_succ, List.getD_nil, List.length_cons, List.length_nil, List.map_cons, List.map_nil, List.getElem?_cons_zero, List.getElem?_cons_succ, List.getElem?_nil, List.set_cons_zero, List.set_cons_succ, List.take_succ_cons, List.take_zero, List.drop_succ_cons, List.drop_zero, List.nil_append, List.cons_append, List.append_nil, Option.map_some, Option.map_none, Option.bind_some, Option.bind_none, reduceIte, ↓reduceIte, decide_true, decide_false, Bool.true_and, Bool.and_true, Bool.false_and, Bool.and_false, true_and, and_true, and_self, Nat.reduceAdd, Nat.reduceLeDiff, Nat.reduceEqDiff, Nat.zero_add, Nat.add_zero, Nat.le_refl, Nat.zero_le, ge_iff_le, Nat.reduceLT, Nat.zero_lt_succ, Nat.reduceSub, if_true, if_false, forall_const, reduceCtorEq, Bool.not_true, Bool.not_false, Bool.false_eq_true, Int.reduceEq, Int.reduceLT, Int.reduceLE, Int.reduceNeg, Int.reduceToNat, Int.reduceAdd, Int.reduceSub, Nat.reduceMul, Nat.reduceEqDiff, gW_un, gcF_un, gcA_un, ilt_nat, *]
    | (refine retK_now ?_)
    | (refine retK_now' ?_)
    | (intro q hq)
    | (refine cond_intro (fun hc => ?_) (fun hc => ?_)))
    refine seqK_now ?_
    (repeat' first
    | simp (contextual := true) (maxSteps := 4000000) only [fwc, fwe, opsW_gpure, drawW_pure, drawW_gpure, Env.upd_apply, Heap.upd_same, Heap.upd_apply, ite_none, List.getD_cons_zero, List.getD_cons_succ, List.getD_nil, List.length_cons, List.length_nil, List.map_cons, List.map_nil, List.getElem?_cons_zero, List.getElem?_cons_succ, List.getElem?_nil, List.set_cons_zero, List.set_cons_succ, List.take_succ_cons, List.take_zero, List.drop_succ_cons, List.drop_zero, List.nil_append, List.cons_append, List.append_nil, Option.map_some, Option.map_none, Option.bind_some, Option.bind_none, reduceIte, ↓reduceIte, decide_true, decide_false, Bool.true_and, Bool.and_true, Bool.false_and, Bool.and_false, true_and, and_true, and_self, Nat.reduceAdd, Nat.reduceLeDiff, Nat.reduceEqDiff, Nat.zero_add, Nat.add_zero, Nat.le_refl, Nat.zero_le, ge_iff_le, Nat.reduceLT, Nat.zero_lt_succ, Nat.reduceSub, if_true, if_false, forall_const, reduceCtorEq, Bool.not_true, Bool.not_false, Bool.false_eq_true, Int.reduceEq, Int.reduceLT, Int.reduceLE, Int.reduceNeg, Int.reduceToNat, Int.reduceAdd, Int.reduceSub, Nat.reduceMul, Nat.reduceEqDiff, gW_un, gcF_un, gcA_un, *]
    | (refine retK_now ?_)
    | (refine retK_now' ?_)
    | (intro q hq)
    | (refine cond_intro (fun hc => ?_) (fun hc => ?_)))
    · have hk : k < L.length := of_decide_eq_true hc
      clear hc
      refine seqK_now ?_
      have hia := hs.ia (i := k) (by rw [List.length_map]; exact hk)
      rw [List.getElem_map] at hia
      obtain ⟨x, hx⟩ : ∃ x, L[k] = x := ⟨_, rfl⟩
      rw [hx, show x.av = .agg [.val (.int .u8 x.yarn), .val (.int .i64 x.n), .val (.bool x.front), .val (.int .u8 x.dir)] from rfl] at hia
      have hbI := badI_eq x
      unfold badI at hbI
      have hnext : ∀ g' : Bool, (g' = true ↔ (g = true ∧ okAt L k)) → ∀ (O1 : Heap) (e : Env) (K : Kont), (((O.upd q1 (.arr 38 5 [.agg [.val (.bool true), .val (.int .i64 p), .val (.int .i64 c), .val (.bool n), s]])).upd q (.arr 30 2 [.agg [.val (.int .u8 y), .val (.int .i64 m)]]))).sub O1 → keepE [2, 5, 6] e = env8 q1 g' (k + 1) → loopK [2, 5, 6] I (L.length - k) K .normal e O1 := by
        intro g' hg' O1 e K h5 h6
        refine loopK_drop _ h5 (L.length - (k + 1)) (by omega) ?_
        rw [hI.out]
        refine ⟨k + 1, g', by omega, rfl, ?_, rfl, h6⟩
        rw [hg', hg.out]
        constructor
        · rintro ⟨⟨j1, j2⟩, j3⟩
          refine ⟨j1, fun j hj => ?_⟩
          rcases Nat.lt_or_ge j k with h' | h'
          · exact j2 j h'
          · rw [show j = k by omega]; exact j3
        · rintro ⟨j1, j2⟩
          exact ⟨⟨j1, fun j hj => j2 j (by omega)⟩, j2 k (by omega)⟩
      have hnext := (show Aside _ from hnext)
      have d0 : decide ((0 : Int) < (k : Int)) = decide (0 < k) := decide_eq_decide.2 (by omega)
      refine seq_go ?_
      (repeat' first
    | simp (contextual := true) (maxSteps := 4000000) only [fwc, fwe, opsW_gpure, drawW_pure, drawW_gpure, Env.upd_apply, Heap.upd_same, Heap.upd_apply, ite_none, List.getD_cons_zero, List.getD_cons_succ, List.getD_nil, List.length_cons, List.length_nil, List.map_cons, List.map_nil, List.getElem?_cons_zero, List.getElem?_cons_succ, List.getElem?_nil, List.set_cons_zero, List.set_cons_succ, List.take_succ_cons, List.take_zero, List.drop_succ_cons, List.drop_zero, List.nil_append, List.cons_append, List.append_nil, Option.map_some, Option.map_none, Option.bind_some, Option.bind_none, reduceIte, ↓reduceIte, decide_true, decide_false, Bool.true_and, Bool.and_true, Bool.false_and, Bool.and_false, true_and, and_true, and_self, Nat.reduceAdd, Nat.reduceLeDiff, Nat.reduceEqDiff, Nat.zero_add, Nat.add_zero, Nat.le_refl, Nat.zero_le, ge_iff_le, Nat.reduceLT, Nat.zero_lt_succ, Nat.reduceSub, if_true, if_false, forall_const, reduceCtorEq, Bool.not_true, Bool.not_false, Bool.false_eq_true, Int.reduceEq, Int.reduceLT, Int.reduceLE, Int.reduceNeg, Int.reduceToNat, Int.reduceAdd, Int.reduceSub, Nat.reduceMul, Nat.reduceEqDiff, gW_un, gcF_un, gcA_un, *]
    | (refine retK_now ?_)
    | (refine retK_now' ?_)
    | (intro q hq)
    | (refine cond_intro (fun hc => ?_) (fun hc => ?_)))
      refine seq_go ?_
      (repeat' first
    | simp (contextual := true) (maxSteps := 4000000) only [fwc, fwe, opsW_gpure, drawW_pure, drawW_gpure, Env.upd_apply, Heap.upd_same, Heap.upd_apply, ite_none, List.getD_cons_zero, List.getD_cons_succ, List.getD_nil, List.length_cons, List.length_nil, List.map_cons, List.map_nil, List.getElem?_cons_zero, List.getElem?_cons_succ, List.getElem?_nil, List.set_cons_zero, List.set_cons_succ, List.take_succ_cons, List.take_zero, List.drop_succ_cons, List.drop_zero, List.nil_append, List.cons_append, List.append_nil, Option.map_some, Option.map_none, Option.bind_some, Option.bind_none, reduceIte, ↓reduceIte, decide_true, decide_false, Bool.true_and, Bool.and_true, Bool.false_and, Bool.and_false, true_and, and_true, and_self, Nat.reduceAdd, Nat.reduceLeDiff, Nat.reduceEqDiff, Nat.zero_add, Nat.add_zero, Nat.le_refl, Nat.zero_le, ge_iff_le, Nat.reduceLT, Nat.zero_lt_succ, Nat.reduceSub, if_true, if_false, forall_const, reduceCtorEq, Bool.not_true, Bool.not_false, Bool.false_eq_true, Int.reduceEq, Int.reduceLT, Int.reduceLE, Int.reduceNeg, Int.reduceToNat, Int.reduceAdd, Int.reduceSub, Nat.reduceMul, Nat.reduceEqDiff, gW_un, gcF_un, gcA_un, *]
    | (refine retK_now ?_)
    | (refine retK_now' ?_)
    | (intro q hq)
    | (refine cond_intro (fun hc => ?_) (fun hc => ?_)))
      refine seqK_now ?_
      rename_i hq2
      rcases Nat.eq_zero_or_pos k with hk0 | hk0
      · have d1 : decide (0 < k) = false := decide_eq_false (by omega)
        have hk1 := (show Aside _ from hk0)
        clear hk0
        refine seq_go ?_
        cases hb : x.bad
        · rw [hb] at hbI
          (repeat' first
    | simp (contextual := true) (maxSteps := 4000000) only [fwc, fwe, opsW_gpure, drawW_pure, drawW_gpure, Env.upd_apply, Heap.upd_same, Heap.upd_apply, ite_none, List.getD_cons_zero, List.getD_cons_succ, List.getD_nil, List.length_cons, List.length_nil, List.map_cons, List.map_nil, List.getElem?_cons_zero, List.getElem?_cons_succ, List.getElem?_nil, List.set_cons_zero, List.set_cons_succ, List.take_succ_cons, List.take_zero, List.drop_succ_cons, List.drop_zero, List.nil_append, List.cons_append, List.append_nil, Option.map_some, Option.map_none, Option.bind_some, Option.bind_none, reduceIte, ↓reduceIte, decide_true, decide_false, Bool.true_and, Bool.and_true, Bool.false_and, Bool.and_false, true_and, and_true, and_self, Nat.reduceAdd, Nat.reduceLeDiff, Nat.reduceEqDiff, Nat.zero_add, Nat.add_zero, Nat.le_refl, Nat.zero_le, ge_iff_le, Nat.reduceLT, Nat.zero_lt_succ, Nat.reduceSub, if_true, if_false, forall_const, reduceCtorEq, Bool.not_true, Bool.not_false, Bool.false_eq_true, Int.reduceEq, Int.reduceLT, Int.reduceLE, Int.reduceNeg, Int.reduceToNat, Int.reduceAdd, Int.reduceSub, Nat.reduceMul, Nat.reduceEqDiff, gW_un, gcF_un, gcA_un, Bool.or_false, Bool.or_true, *]
    | (refine retK_now ?_)
    | (refine retK_now' ?_)
    | (intro q hq)
    | (refine cond_intro (fun hc => ?_) (fun hc => ?_)))
          refine seqK_now ?_
          (repeat' first
    | simp (contextual := true) (maxSteps := 4000000) only [fwc, fwe, opsW_gpure, drawW_pure, drawW_gpure, Env.upd_apply, Heap.upd_same, Heap.upd_apply, ite_none, List.getD_cons_zero, List.getD_cons_succ, List.getD_nil, List.length_cons, List.length_nil, List.map_cons, List.map_nil, List.getElem?_cons_zero, List.getElem?_cons_succ, List.getElem?_nil, List.set_cons_zero, List.set_cons_succ, List.take_succ_cons, List.take_zero, List.drop_succ_cons, List.drop_zero, List.nil_append, List.cons_append, List.append_nil, Option.map_some, Option.map_none, Option.bind_some, Option.bind_none, reduceIte, ↓reduceIte, decide_true, decide_false, Bool.true_and, Bool.and_true, Bool.false_and, Bool.and_false, true_and, and_true, and_self, Nat.reduceAdd, Nat.reduceLeDiff, Nat.reduceEqDiff, Nat.zero_add, Nat.add_zero, Nat.le_refl, Nat.zero_le, ge_iff_le, Nat.reduceLT, Nat.zero_lt_succ, Nat.reduceSub, if_true, if_false, forall_const, reduceCtorEq, Bool.not_true, Bool.not_false, Bool.false_eq_true, Int.reduceEq, Int.reduceLT, Int.reduceLE, Int.reduceNeg, Int.reduceToNat, Int.reduceAdd, Int.reduceSub, Nat.reduceMul, Nat.reduceEqDiff, gW_un, gcF_un, gcA_un, *]
    | (refine retK_now ?_)
    | (refine retK_now' ?_)
    | (intro q hq)
    | (refine cond_intro (fun hc => ?_) (fun hc => ?_)))
          refine seqK_now ?_
          (repeat' first
    | simp (contextual := true) (maxSteps := 4000000) only [fwc, fwe, opsW_gpure, drawW_pure, drawW_gpure, Env.upd_apply, Heap.upd_same, Heap.upd_apply, ite_none, List.getD_cons_zero, List.getD_cons_succ, List.getD_nil, List.length_cons, List.length_nil, List.map_cons, List.map_nil, List.getElem?_cons_zero, List.getElem?_cons_succ, List.getElem?_nil, List.set_cons_zero, List.set_cons_succ, List.take_succ_cons, List.take_zero, List.drop_succ_cons, List.drop_zero, List.nil_append, List.cons_append, List.append_nil, Option.map_some, Option.map_none, Option.bind_some, Option.bind_none, reduceIte, ↓reduceIte, decide_true, decide_false, Bool.true_and, Bool.and_true, Bool.false_and, Bool.and_false, true_and, and_true, and_self, Nat.reduceAdd, Nat.reduceLeDiff, Nat.reduceEqDiff, Nat.zero_add, Nat.add_zero, Nat.le_refl, Nat.zero_le, ge_iff_le, Nat.reduceLT, Nat.zero_lt_succ, Nat.reduceSub, if_true, if_false, forall_const, reduceCtorEq, Bool.not_true, Bool.not_false, Bool.false_eq_true, Int.reduceEq, Int.reduceLT, Int.reduceLE, Int.reduceNeg, Int.reduceToNat, Int.reduceAdd, Int.reduceSub, Nat.reduceMul, Nat.reduceEqDiff, gW_un, gcF_un, gcA_un, wrap_succ, *]
    | (refine retK_now ?_)
    | (refine retK_now' ?_)
    | (intro q hq)
    | (refine cond_intro (fun hc => ?_) (fun hc => ?_)))
          refine hnext.out g ?_ _ _ _ (sub_upd (by simp [Heap.upd_apply, *]) (Heap.sub_refl _)) ?_
          · rw [show okAt L k ↔ True from ⟨fun _ => trivial, fun _ => ⟨hk, by rw [hx]; exact hb, fun h => by have := hk1.out; omega⟩⟩, and_true]
          · simp (contextual := true) (maxSteps := 4000000) only [fwc, fwe, cmd_seq, opsW_gpure, drawW_pure, drawW_gpure, Env.upd_apply, Heap.upd_same, Heap.upd_apply, ite_none, List.getD_cons_zero, List.getD_cons_succ, List.getD_nil, List.length_cons, List.length_nil, List.map_cons, List.map_nil, List.getElem?_cons_zero, List.getElem?_cons_succ, List.getElem?_nil, List.set_cons_zero, List.set_cons_succ, List.take_succ_cons, List.take_zero, List.drop_succ_cons, List.drop_zero, List.nil_append, List.cons_append, List.append_nil, Option.map_some, Option.map_none, Option.bind_some, Option.bind_none, reduceIte, ↓reduceIte, decide_true, decide_false, Bool.true_and, Bool.and_true, Bool.false_and, Bool.and_false, true_and, and_true, and_self, Nat.reduceAdd, Nat.reduceLeDiff, Nat.reduceEqDiff, Nat.zero_add, Nat.add_zero, Nat.le_refl, Nat.zero_le, ge_iff_le, Nat.reduceLT, Nat.zero_lt_succ, Nat.reduceSub, if_true, if_false, forall_const, reduceCtorEq, Bool.not_true, Bool.not_false, Bool.false_eq_true, Int.reduceEq, Int.reduceLT, Int.reduceLE, Int.reduceNeg, Int.reduceToNat, Int.reduceAdd, Int.reduceSub, Nat.reduceMul, Nat.reduceEqDiff, gW_un, gcF_un, gcA_un, env8, *]
        · rw [hb] at hbI
          (repeat' first
    | simp (contextual := true) (maxSteps := 4000000) only [fwc, fwe, opsW_gpure, drawW_pure, drawW_gpure, Env.upd_apply, Heap.upd_same, Heap.upd_apply, ite_none, List.getD_cons_zero, List.getD_cons_succ, List.getD_nil, List.length_cons, List.length_nil, List.map_cons, List.map_nil, List.getElem?_cons_zero, List.getElem?_cons_succ, List.getElem?_nil, List.set_cons_zero, List.set_cons_succ, List.take_succ_cons, List.take_zero, List.drop_succ_cons, List.drop_zero, List.nil_append, List.cons_append, List.append_nil, Option.map_some, Option.map_none, Option.bind_some, Option.bind_none, reduceIte, ↓reduceIte, decide_true, decide_false, Bool.true_and, Bool.and_true, Bool.false_and, Bool.and_false, true_and, and_true, and_self, Nat.reduceAdd, Nat.reduceLeDiff, Nat.reduceEqDiff, Nat.zero_add, Nat.add_zero, Nat.le_refl, Nat.zero_le, ge_iff_le, Nat.reduceLT, Nat.zero_lt_succ, Nat.reduceSub, if_true, if_false, forall_const, reduceCtorEq, Bool.not_true, Bool.not_false, Bool.false_eq_true, Int.reduceEq, Int.reduceLT, Int.reduceLE, Int.reduceNeg, Int.reduceToNat, Int.reduceAdd, Int.reduceSub, Nat.reduceMul, Nat.reduceEqDiff, gW_un, gcF_un, gcA_un, Bool.or_false, Bool.or_true, *]
    | (refine retK_now ?_)
    | (refine retK_now' ?_)
    | (intro q hq)
    | (refine cond_intro (fun hc => ?_) (fun hc => ?_)))
          refine seqK_now ?_
          (repeat' first
    | simp (contextual := true) (maxSteps := 4000000) only [fwc, fwe, opsW_gpure, drawW_pure, drawW_gpure, Env.upd_apply, Heap.upd_same, Heap.upd_apply, ite_none, List.getD_cons_zero, List.getD_cons_succ, List.getD_nil, List.length_cons, List.length_nil, List.map_cons, List.map_nil, List.getElem?_cons_zero, List.getElem?_cons_succ, List.getElem?_nil, List.set_cons_zero, List.set_cons_succ, List.take_succ_cons, List.take_zero, List.drop_succ_cons, List.drop_zero, List.nil_append, List.cons_append, List.append_nil, Option.map_some, Option.map_none, Option.bind_some, Option.bind_none, reduceIte, ↓reduceIte, decide_true, decide_false, Bool.true_and, Bool.and_true, Bool.false_and, Bool.and_false, true_and, and_true, and_self, Nat.reduceAdd, Nat.reduceLeDiff, Nat.reduceEqDiff, Nat.zero_add, Nat.add_zero, Nat.le_refl, Nat.zero_le, ge_iff_le, Nat.reduceLT, Nat.zero_lt_succ, Nat.reduceSub, if_true, if_false, forall_const, reduceCtorEq, Bool.not_true, Bool.not_false, Bool.false_eq_true, Int.reduceEq, Int.reduceLT, Int.reduceLE, Int.reduceNeg, Int.reduceToNat, Int.reduceAdd, Int.reduceSub, Nat.reduceMul, Nat.reduceEqDiff, gW_un, gcF_un, gcA_un, *]
    | (refine retK_now ?_)
    | (refine retK_now' ?_)
    | (intro q hq)
    | (refine cond_intro (fun hc => ?_) (fun hc => ?_)))
          refine seqK_now ?_
          (repeat' first
    | simp (contextual := true) (maxSteps := 4000000) only [fwc, fwe, opsW_gpure, drawW_pure, drawW_gpure, Env.upd_apply, Heap.upd_same, Heap.upd_apply, ite_none, List.getD_cons_zero, List.getD_cons_succ, List.getD_nil, List.length_cons, List.length_nil, List.map_cons, List.map_nil, List.getElem?_cons_zero, List.getElem?_cons_succ, List.getElem?_nil, List.set_cons_zero, List.set_cons_succ, List.take_succ_cons, List.take_zero, List.drop_succ_cons, List.drop_zero, List.nil_append, List.cons_append, List.append_nil, Option.map_some, Option.map_none, Option.bind_some, Option.bind_none, reduceIte, ↓reduceIte, decide_true, decide_false, Bool.true_and, Bool.and_true, Bool.false_and, Bool.and_false, true_and, and_true, and_self, Nat.reduceAdd, Nat.reduceLeDiff, Nat.reduceEqDiff, Nat.zero_add, Nat.add_zero, Nat.le_refl, Nat.zero_le, ge_iff_le, Nat.reduceLT, Nat.zero_lt_succ, Nat.reduceSub, if_true, if_false, forall_const, reduceCtorEq, Bool.not_true, Bool.not_false, Bool.false_eq_true, Int.reduceEq, Int.reduceLT, Int.reduceLE, Int.reduceNeg, Int.reduceToNat, Int.reduceAdd, Int.reduceSub, Nat.reduceMul, Nat.reduceEqDiff, gW_un, gcF_un, gcA_un, wrap_succ, *]
    | (refine retK_now ?_)
    | (refine retK_now' ?_)
    | (intro q hq)
    | (refine cond_intro (fun hc => ?_) (fun hc => ?_)))
          refine hnext.out false ?_ _ _ _ (sub_upd (by simp [Heap.upd_apply, *]) (Heap.sub_refl _)) ?_
          · rw [show okAt L k ↔ False from ⟨fun h => (by have := h.2.1; rw [hx, hb] at this; cases this), False.elim⟩, and_false]
            simp
          · simp (contextual := true) (maxSteps := 4000000) only [fwc, fwe, cmd_seq, opsW_gpure, drawW_pure, drawW_gpure, Env.upd_apply, Heap.upd_same, Heap.upd_apply, ite_none, List.getD_cons_zero, List.getD_cons_succ, List.getD_nil, List.length_cons, List.length_nil, List.map_cons, List.map_nil, List.getElem?_cons_zero, List.getElem?_cons_succ, List.getElem?_nil, List.set_cons_zero, List.set_cons_succ, List.take_succ_cons, List.take_zero, List.drop_succ_cons, List.drop_zero, List.nil_append, List.cons_append, List.append_nil, Option.map_some, Option.map_none, Option.bind_some, Option.bind_none, reduceIte, ↓reduceIte, decide_true, decide_false, Bool.true_and, Bool.and_true, Bool.false_and, Bool.and_false, true_and, and_true, and_self, Nat.reduceAdd, Nat.reduceLeDiff, Nat.reduceEqDiff, Nat.zero_add, Nat.add_zero, Nat.le_refl, Nat.zero_le, ge_iff_le, Nat.reduceLT, Nat.zero_lt_succ, Nat.reduceSub, if_true, if_false, forall_const, reduceCtorEq, Bool.not_true, Bool.not_false, Bool.false_eq_true, Int.reduceEq, Int.reduceLT, Int.reduceLE, Int.reduceNeg, Int.reduceToNat, Int.reduceAdd, Int.reduceSub, Nat.reduceMul, Nat.reduceEqDiff, gW_un, gcF_un, gcA_un, env8, *]
      · have d1 : decide (0 < k) = true := decide_eq_true hk0
        have e1 : IntKind.i64.wrap ((k : Int) - 1) = ((k - 1 : Nat) : Int) := by rw [wrap_i64 (by omega) (by omega)]; omega
        have hib := hs.ia (i := k - 1) (by rw [List.length_map]; omega)
        rw [List.getElem_map] at hib
        obtain ⟨z, hz⟩ : ∃ z, L[k - 1] = z := ⟨_, rfl⟩
        rw [hz, show z.av = .agg [.val (.int .u8 z.yarn), .val (.int .i64 z.n), .val (.bool z.front), .val (.int .u8 z.dir)] from rfl] at hib
        have hcan := cancel_ok z x
        refine seq_go ?_
        cases hb : x.bad
        · rw [hb] at hbI
          (repeat' first
    | simp (contextual := true) (maxSteps := 4000000) only [fwc, fwe, opsW_gpure, drawW_pure, drawW_gpure, Env.upd_apply, Heap.upd_same, Heap.upd_apply, ite_none, List.getD_cons_zero, List.getD_cons_succ, List.getD_nil, List.length_cons, List.length_nil, List.map_cons, List.map_nil, List.getElem?_cons_zero, List.getElem?_cons_succ, List.getElem?_nil, List.set_cons_zero, List.set_cons_succ, List.take_succ_cons, List.take_zero, List.drop_succ_cons, List.drop_zero, List.nil_append, List.cons_append, List.append_nil, Option.map_some, Option.map_none, Option.bind_some, Option.bind_none, reduceIte, ↓reduceIte, decide_true, decide_false, Bool.true_and, Bool.and_true, Bool.false_and, Bool.and_false, true_and, and_true, and_self, Nat.reduceAdd, Nat.reduceLeDiff, Nat.reduceEqDiff, Nat.zero_add, Nat.add_zero, Nat.le_refl, Nat.zero_le, ge_iff_le, Nat.reduceLT, Nat.zero_lt_succ, Nat.reduceSub, if_true, if_false, forall_const, reduceCtorEq, Bool.not_true, Bool.not_false, Bool.false_eq_true, Int.reduceEq, Int.reduceLT, Int.reduceLE, Int.reduceNeg, Int.reduceToNat, Int.reduceAdd, Int.reduceSub, Nat.reduceMul, Nat.reduceEqDiff, gW_un, gcF_un, gcA_un, Bool.or_false, Bool.or_true, *]
    | (refine retK_now ?_)
    | (refine retK_now' ?_)
    | (intro q hq)
    | (refine cond_intro (fun hc => ?_) (fun hc => ?_)))
          refine callF_use hcan ?_
          cases hcc : z.cancels x
          · (repeat' first
    | simp (contextual := true) (maxSteps := 4000000) only [fwc, fwe, opsW_gpure, drawW_pure, drawW_gpure, Env.upd_apply, Heap.upd_same, Heap.upd_apply, ite_none, List.getD_cons_zero, List.getD_cons_succ, List.getD_nil, List.length_cons, List.length_nil, List.map_cons, List.map_nil, List.getElem?_cons_zero, List.getElem?_cons_succ, List.getElem?_nil, List.set_cons_zero, List.set_cons_succ, List.take_succ_cons, List.take_zero, List.drop_succ_cons, List.drop_zero, List.nil_append, List.cons_append, List.append_nil, Option.map_some, Option.map_none, Option.bind_some, Option.bind_none, reduceIte, ↓reduceIte, decide_true, decide_false, Bool.true_and, Bool.and_true, Bool.false_and, Bool.and_false, true_and, and_true, and_self, Nat.reduceAdd, Nat.reduceLeDiff, Nat.reduceEqDiff, Nat.zero_add, Nat.add_zero, Nat.le_refl, Nat.zero_le, ge_iff_le, Nat.reduceLT, Nat.zero_lt_succ, Nat.reduceSub, if_true, if_false, forall_const, reduceCtorEq, Bool.not_true, Bool.not_false, Bool.false_eq_true, Int.reduceEq, Int.reduceLT, Int.reduceLE, Int.reduceNeg, Int.reduceToNat, Int.reduceAdd, Int.reduceSub, Nat.reduceMul, Nat.reduceEqDiff, gW_un, gcF_un, gcA_un, Bool.or_false, Bool.or_true, *]
    | (refine retK_now ?_)
    | (refine retK_now' ?_)
    | (intro q hq)
    | (refine cond_intro (fun hc => ?_) (fun hc => ?_)))
            refine seqK_now ?_
            (repeat' first
    | simp (contextual := true) (maxSteps := 4000000) only [fwc, fwe, opsW_gpure, drawW_pure, drawW_gpure, Env.upd_apply, Heap.upd_same, Heap.upd_apply, ite_none, List.getD_cons_zero, List.getD_cons_succ, List.getD_nil, List.length_cons, List.length_nil, List.map_cons, List.map_nil, List.getElem?_cons_zero, List.getElem?_cons_succ, List.getElem?_nil, List.set_cons_zero, List.set_cons_succ, List.take_succ_cons, List.take_zero, List.drop_succ_cons, List.drop_zero, List.nil_append, List.cons_append, List.append_nil, Option.map_some, Option.map_none, Option.bind_some, Option.bind_none, reduceIte, ↓reduceIte, decide_true, decide_false, Bool.true_and, Bool.and_true, Bool.false_and, Bool.and_false, true_and, and_true, and_self, Nat.reduceAdd, Nat.reduceLeDiff, Nat.reduceEqDiff, Nat.zero_add, Nat.add_zero, Nat.le_refl, Nat.zero_le, ge_iff_le, Nat.reduceLT, Nat.zero_lt_succ, Nat.reduceSub, if_true, if_false, forall_const, reduceCtorEq, Bool.not_true, Bool.not_false, Bool.false_eq_true, Int.reduceEq, Int.reduceLT, Int.reduceLE, Int.reduceNeg, Int.reduceToNat, Int.reduceAdd, Int.reduceSub, Nat.reduceMul, Nat.reduceEqDiff, gW_un, gcF_un, gcA_un, *]
    | (refine retK_now ?_)
    | (refine retK_now' ?_)
    | (intro q hq)
    | (refine cond_intro (fun hc => ?_) (fun hc => ?_)))
            refine seqK_now ?_
            (repeat' first
    | simp (contextual := true) (maxSteps := 4000000) only [fwc, fwe, opsW_gpure, drawW_pure, drawW_gpure, Env.upd_apply, Heap.upd_same, Heap.upd_apply, ite_none, List.getD_cons_zero, List.getD_cons_succ, List.getD_nil, List.length_cons, List.length_nil, List.map_cons, List.map_nil, List.getElem?_cons_zero, List.getElem?_cons_succ, List.getElem?_nil, List.set_cons_zero, List.set_cons_succ, List.take_succ_cons, List.take_zero, List.drop_succ_cons, List.drop_zero, List.nil_append, List.cons_append, List.append_nil, Option.map_some, Option.map_none, Option.bind_some, Option.bind_none, reduceIte, ↓reduceIte, decide_true, decide_false, Bool.true_and, Bool.and_true, Bool.false_and, Bool.and_false, true_and, and_true, and_self, Nat.reduceAdd, Nat.reduceLeDiff, Nat.reduceEqDiff, Nat.zero_add, Nat.add_zero, Nat.le_refl, Nat.zero_le, ge_iff_le, Nat.reduceLT, Nat.zero_lt_succ, Nat.reduceSub, if_true, if_false, forall_const, reduceCtorEq, Bool.not_true, Bool.not_false, Bool.false_eq_true, Int.reduceEq, Int.reduceLT, Int.reduceLE, Int.reduceNeg, Int.reduceToNat, Int.reduceAdd, Int.reduceSub, Nat.reduceMul, Nat.reduceEqDiff, gW_un, gcF_un, gcA_un, wrap_succ, *]
    | (refine retK_now ?_)
    | (refine retK_now' ?_)
    | (intro q hq)
    | (refine cond_intro (fun hc => ?_) (fun hc => ?_)))
            refine hnext.out g ?_ _ _ _ (sub_upd (by simp [Heap.upd_apply, *]) (Heap.sub_refl _)) ?_
            · rw [show okAt L k ↔ True from ⟨fun _ => trivial, fun _ => ⟨hk, by rw [hx]; exact hb, fun _ => by rw [hx, hz]; exact hcc⟩⟩, and_true]
            · simp (contextual := true) (maxSteps := 4000000) only [fwc, fwe, cmd_seq, opsW_gpure, drawW_pure, drawW_gpure, Env.upd_apply, Heap.upd_same, Heap.upd_apply, ite_none, List.getD_cons_zero, List.getD_cons_succ, List.getD_nil, List.length_cons, List.length_nil, List.map_cons, List.map_nil, List.getElem?_cons_zero, List.getElem?_cons_succ, List.getElem?_nil, List.set_cons_zero, List.set_cons_succ, List.take_succ_cons, List.take_zero, List.drop_succ_cons, List.drop_zero, List.nil_append, List.cons_append, List.append_nil, Option.map_some, Option.map_none, Option.bind_some, Option.bind_none, reduceIte, ↓reduceIte, decide_true, decide_false, Bool.true_and, Bool.and_true, Bool.false_and, Bool.and_false, true_and, and_true, and_self, Nat.reduceAdd, Nat.reduceLeDiff, Nat.reduceEqDiff, Nat.zero_add, Nat.add_zero, Nat.le_refl, Nat.zero_le, ge_iff_le, Nat.reduceLT, Nat.zero_lt_succ, Nat.reduceSub, if_true, if_false, forall_const, reduceCtorEq, Bool.not_true, Bool.not_false, Bool.false_eq_true, Int.reduceEq, Int.reduceLT, Int.reduceLE, Int.reduceNeg, Int.reduceToNat, Int.reduceAdd, Int.reduceSub, Nat.reduceMul, Nat.reduceEqDiff, gW_un, gcF_un, gcA_un, env8, *]
          · (repeat' first
    | simp (contextual := true) (maxSteps := 4000000) only [fwc, fwe, opsW_gpure, drawW_pure, drawW_gpure, Env.upd_apply, Heap.upd_same, Heap.upd_apply, ite_none, List.getD_cons_zero, List.getD_cons_succ, List.getD_nil, List.length_cons, List.length_nil, List.map_cons, List.map_nil, List.getElem?_cons_zero, List.getElem?_cons_succ, List.getElem?_nil, List.set_cons_zero, List.set_cons_succ, List.take_succ_cons, List.take_zero, List.drop_succ_cons, List.drop_zero, List.nil_append, List.cons_append, List.append_nil, Option.map_some, Option.map_none, Option.bind_some, Option.bind_none, reduceIte, ↓reduceIte, decide_true, decide_false, Bool.true_and, Bool.and_true, Bool.false_and, Bool.and_false, true_and, and_true, and_self, Nat.reduceAdd, Nat.reduceLeDiff, Nat.reduceEqDiff, Nat.zero_add, Nat.add_zero, Nat.le_refl, Nat.zero_le, ge_iff_le, Nat.reduceLT, Nat.zero_lt_succ, Nat.reduceSub, if_true, if_false, forall_const, reduceCtorEq, Bool.not_true, Bool.not_false, Bool.false_eq_true, Int.reduceEq, Int.reduceLT, Int.reduceLE, Int.reduceNeg, Int.reduceToNat, Int.reduceAdd, Int.reduceSub, Nat.reduceMul, Nat.reduceEqDiff, gW_un, gcF_un, gcA_un, Bool.or_false, Bool.or_true, *]
    | (refine retK_now ?_)
    | (refine retK_now' ?_)
    | (intro q hq)
    | (refine cond_intro (fun hc => ?_) (fun hc => ?_)))
            refine seqK_now ?_
            (repeat' first
    | simp (contextual := true) (maxSteps := 4000000) only [fwc, fwe, opsW_gpure, drawW_pure, drawW_gpure, Env.upd_apply, Heap.upd_same, Heap.upd_apply, ite_none, List.getD_cons_zero, List.getD_cons_succ, List.getD_nil, List.length_cons, List.length_nil, List.map_cons, List.map_nil, List.getElem?_cons_zero, List.getElem?_cons_succ, List.getElem?_nil, List.set_cons_zero, List.set_cons_succ, List.take_succ_cons, List.take_zero, List.drop_succ_cons, List.drop_zero, List.nil_append, List.cons_append, List.append_nil, Option.map_some, Option.map_none, Option.bind_some, Option.bind_none, reduceIte, ↓reduceIte, decide_true, decide_false, Bool.true_and, Bool.and_true, Bool.false_and, Bool.and_false, true_and, and_true, and_self, Nat.reduceAdd, Nat.reduceLeDiff, Nat.reduceEqDiff, Nat.zero_add, Nat.add_zero, Nat.le_refl, Nat.zero_le, ge_iff_le, Nat.reduceLT, Nat.zero_lt_succ, Nat.reduceSub, if_true, if_false, forall_const, reduceCtorEq, Bool.not_true, Bool.not_false, Bool.false_eq_true, Int.reduceEq, Int.reduceLT, Int.reduceLE, Int.reduceNeg, Int.reduceToNat, Int.reduceAdd, Int.reduceSub, Nat.reduceMul, Nat.reduceEqDiff, gW_un, gcF_un, gcA_un, *]
    | (refine retK_now ?_)
    | (refine retK_now' ?_)
    | (intro q hq)
    | (refine cond_intro (fun hc => ?_) (fun hc => ?_)))
            refine seqK_now ?_
            (repeat' first
    | simp (contextual := true) (maxSteps := 4000000) only [fwc, fwe, opsW_gpure, drawW_pure, drawW_gpure, Env.upd_apply, Heap.upd_same, Heap.upd_apply, ite_none, List.getD_cons_zero, List.getD_cons_succ, List.getD_nil, List.length_cons, List.length_nil, List.map_cons, List.map_nil, List.getElem?_cons_zero, List.getElem?_cons_succ, List.getElem?_nil, List.set_cons_zero, List.set_cons_succ, List.take_succ_cons, List.take_zero, List.drop_succ_cons, List.drop_zero, List.nil_append, List.cons_append, List.append_nil, Option.map_some, Option.map_none, Option.bind_some, Option.bind_none, reduceIte, ↓reduceIte, decide_true, decide_false, Bool.true_and, Bool.and_true, Bool.false_and, Bool.and_false, true_and, and_true, and_self, Nat.reduceAdd, Nat.reduceLeDiff, Nat.reduceEqDiff, Nat.zero_add, Nat.add_zero, Nat.le_refl, Nat.zero_le, ge_iff_le, Nat.reduceLT, Nat.zero_lt_succ, Nat.reduceSub, if_true, if_false, forall_const, reduceCtorEq, Bool.not_true, Bool.not_false, Bool.false_eq_true, Int.reduceEq, Int.reduceLT, Int.reduceLE, Int.reduceNeg, Int.reduceToNat, Int.reduceAdd, Int.reduceSub, Nat.reduceMul, Nat.reduceEqDiff, gW_un, gcF_un, gcA_un, wrap_succ, *]
    | (refine retK_now ?_)
    | (refine retK_now' ?_)
    | (intro q hq)
    | (refine cond_intro (fun hc => ?_) (fun hc => ?_)))
            refine hnext.out false ?_ _ _ _ (sub_upd (by simp [Heap.upd_apply, *]) (Heap.sub_refl _)) ?_
            · rw [show okAt L k ↔ False from ⟨fun h => (by have := h.2.2 hk0; rw [hx, hz, hcc] at this; cases this), False.elim⟩, and_false]
              simp
            · simp (contextual := true) (maxSteps := 4000000) only [fwc, fwe, cmd_seq, opsW_gpure, drawW_pure, drawW_gpure, Env.upd_apply, Heap.upd_same, Heap.upd_apply, ite_none, List.getD_cons_zero, List.getD_cons_succ, List.getD_nil, List.length_cons, List.length_nil, List.map_cons, List.map_nil, List.getElem?_cons_zero, List.getElem?_cons_succ, List.getElem?_nil, List.set_cons_zero, List.set_cons_succ, List.take_succ_cons, List.take_zero, List.drop_succ_cons, List.drop_zero, List.nil_append, List.cons_append, List.append_nil, Option.map_some, Option.map_none, Option.bind_some, Option.bind_none, reduceIte, ↓reduceIte, decide_true, decide_false, Bool.true_and, Bool.and_true, Bool.false_and, Bool.and_false, true_and, and_true, and_self, Nat.reduceAdd, Nat.reduceLeDiff, Nat.reduceEqDiff, Nat.zero_add, Nat.add_zero, Nat.le_refl, Nat.zero_le, ge_iff_le, Nat.reduceLT, Nat.zero_lt_succ, Nat.reduceSub, if_true, if_false, forall_const, reduceCtorEq, Bool.not_true, Bool.not_false, Bool.false_eq_true, Int.reduceEq, Int.reduceLT, Int.reduceLE, Int.reduceNeg, Int.reduceToNat, Int.reduceAdd, Int.reduceSub, Nat.reduceMul, Nat.reduceEqDiff, gW_un, gcF_un, gcA_un, env8, *]
        · rw [hb] at hbI
          (repeat' first
    | simp (contextual := true) (maxSteps := 4000000) only [fwc, fwe, opsW_gpure, drawW_pure, drawW_gpure, Env.upd_apply, Heap.upd_same, Heap.upd_apply, ite_none, List.getD_cons_zero, List.getD_cons_succ, List.getD_nil, List.length_cons, List.length_nil, List.map_cons, List.map_nil, List.getElem?_cons_zero, List.getElem?_cons_succ, List.getElem?_nil, List.set_cons_zero, List.set_cons_succ, List.take_succ_cons, List.take_zero, List.drop_succ_cons, List.drop_zero, List.nil_append, List.cons_append, List.append_nil, Option.map_some, Option.map_none, Option.bind_some, Option.bind_none, reduceIte, ↓reduceIte, decide_true, decide_false, Bool.true_and, Bool.and_true, Bool.false_and, Bool.and_false, true_and, and_true, and_self, Nat.reduceAdd, Nat.reduceLeDiff, Nat.reduceEqDiff, Nat.zero_add, Nat.add_zero, Nat.le_refl, Nat.zero_le, ge_iff_le, Nat.reduceLT, Nat.zero_lt_succ, Nat.reduceSub, if_true, if_false, forall_const, reduceCtorEq, Bool.not_true, Bool.not_false, Bool.false_eq_true, Int.reduceEq, Int.reduceLT, Int.reduceLE, Int.reduceNeg, Int.reduceToNat, Int.reduceAdd, Int.reduceSub, Nat.reduceMul, Nat.reduceEqDiff, gW_un, gcF_un, gcA_un, Bool.or_false, Bool.or_true, *]
    | (refine retK_now ?_)
    | (refine retK_now' ?_)
    | (intro q hq)
    | (refine cond_intro (fun hc => ?_) (fun hc => ?_)))
          refine seqK_now ?_
          (repeat' first
    | simp (contextual := true) (maxSteps := 4000000) only [fwc, fwe, opsW_gpure, drawW_pure, drawW_gpure, Env.upd_apply, Heap.upd_same, Heap.upd_apply, ite_none, List.getD_cons_zero, List.getD_cons_succ, List.getD_nil, List.length_cons, List.length_nil, List.map_cons, List.map_nil, List.getElem?_cons_zero, List.getElem?_cons_succ, List.getElem?_nil, List.set_cons_zero, List.set_cons_succ, List.take_succ_cons, List.take_zero, List.drop_succ_cons, List.drop_zero, List.nil_append, List.cons_append, List.append_nil, Option.map_some, Option.map_none, Option.bind_some, Option.bind_none, reduceIte, ↓reduceIte, decide_true, decide_false, Bool.true_and, Bool.and_true, Bool.false_and, Bool.and_false, true_and, and_true, and_self, Nat.reduceAdd, Nat.reduceLeDiff, Nat.reduceEqDiff, Nat.zero_add, Nat.add_zero, Nat.le_refl, Nat.zero_le, ge_iff_le, Nat.reduceLT, Nat.zero_lt_succ, Nat.reduceSub, if_true, if_false, forall_const, reduceCtorEq, Bool.not_true, Bool.not_false, Bool.false_eq_true, Int.reduceEq, Int.reduceLT, Int.reduceLE, Int.reduceNeg, Int.reduceToNat, Int.reduceAdd, Int.reduceSub, Nat.reduceMul, Nat.reduceEqDiff, gW_un, gcF_un, gcA_un, *]
    | (refine retK_now ?_)
    | (refine retK_now' ?_)
    | (intro q hq)
    | (refine cond_intro (fun hc => ?_) (fun hc => ?_)))
          refine seqK_now ?_
          (repeat' first
    | simp (contextual := true) (maxSteps := 4000000) only [fwc, fwe, opsW_gpure, drawW_pure, drawW_gpure, Env.upd_apply, Heap.upd_same, Heap.upd_apply, ite_none, List.getD_cons_zero, List.getD_cons_succ, List.getD_nil, List.length_cons, List.length_nil, List.map_cons, List.map_nil, List.getElem?_cons_zero, List.getElem?_cons_succ, List.getElem?_nil, List.set_cons_zero, List.set_cons_succ, List.take_succ_cons, List.take_zero, List.drop_succ_cons, List.drop_zero, List.nil_append, List.cons_append, List.append_nil, Option.map_some, Option.map_none, Option.bind_some, Option.bind_none, reduceIte, ↓reduceIte, decide_true, decide_false, Bool.true_and, Bool.and_true, Bool.false_and, Bool.and_false, true_and, and_true, and_self, Nat.reduceAdd, Nat.reduceLeDiff, Nat.reduceEqDiff, Nat.zero_add, Nat.add_zero, Nat.le_refl, Nat.zero_le, ge_iff_le, Nat.reduceLT, Nat.zero_lt_succ, Nat.reduceSub, if_true, if_false, forall_const, reduceCtorEq, Bool.not_true, Bool.not_false, Bool.false_eq_true, Int.reduceEq, Int.reduceLT, Int.reduceLE, Int.reduceNeg, Int.reduceToNat, Int.reduceAdd, Int.reduceSub, Nat.reduceMul, Nat.reduceEqDiff, gW_un, gcF_un, gcA_un, wrap_succ, *]
    | (refine retK_now ?_)
    | (refine retK_now' ?_)
    | (intro q hq)
    | (refine cond_intro (fun hc => ?_) (fun hc => ?_)))
          refine hnext.out false ?_ _ _ _ (sub_upd (by simp [Heap.upd_apply, *]) (Heap.sub_refl _)) ?_
          · rw [show okAt L k ↔ False from ⟨fun h => (by have := h.2.1; rw [hx, hb] at this; cases this), False.elim⟩, and_false]
            simp
          · simp (contextual := true) (maxSteps := 4000000) only [fwc, fwe, cmd_seq, opsW_gpure, drawW_pure, drawW_gpure, Env.upd_apply, Heap.upd_same, Heap.upd_apply, ite_none, List.getD_cons_zero, List.getD_cons_succ, List.getD_nil, List.length_cons, List.length_nil, List.map_cons, List.map_nil, List.getElem?_cons_zero, List.getElem?_cons_succ, List.getElem?_nil, List.set_cons_zero, List.set_cons_succ, List.take_succ_cons, List.take_zero, List.drop_succ_cons, List.drop_zero, List.nil_append, List.cons_append, List.append_nil, Option.map_some, Option.map_none, Option.bind_some, Option.bind_none, reduceIte, ↓reduceIte, decide_true, decide_false, Bool.true_and, Bool.and_true, Bool.false_and, Bool.and_false, true_and, and_true, and_self, Nat.reduceAdd, Nat.reduceLeDiff, Nat.reduceEqDiff, Nat.zero_add, Nat.add_zero, Nat.le_refl, Nat.zero_le, ge_iff_le, Nat.reduceLT, Nat.zero_lt_succ, Nat.reduceSub, if_true, if_false, forall_const, reduceCtorEq, Bool.not_true, Bool.not_false, Bool.false_eq_true, Int.reduceEq, Int.reduceLT, Int.reduceLE, Int.reduceNeg, Int.reduceToNat, Int.reduceAdd, Int.reduceSub, Nat.reduceMul, Nat.reduceEqDiff, gW_un, gcF_un, gcA_un, env8, *]
    · have : k = L.length := by have := of_decide_eq_false hc; omega
      subst this
      clear hc hI
      refine seqK_now ?_
      have hk0 : checkL true p c n L = 0 ↔ g = true := hck.trans hg.out.symm
      clear hg hck hw
      cases g
      · have hk : checkL true p c n L = 1 := by
          unfold checkL at hk0 ⊢
          split
          · rfl
          · rename_i h; rw [if_neg h] at hk0; exact absurd (hk0.1 rfl) (by simp)
        clear hk0
        rw [hk] at hE hLv hGo hMk hCk
        rw [show enterA 1 true c 0 = res2 zeroY 1 from rfl] at hE
        rw [show leaveA 1 true c = res2 zeroY 1 from rfl] at hLv
        rw [show goA 1 true p c n L 7 [] = res2 zeroY 1 from rfl] at hGo
        rw [show makeA 1 true p c n s = res3 zeroY (madeA 0 false nilS) 1 from rfl] at hMk
        refine seq_go ?_
        refine seq_go ?_
        (repeat' first
    | simp (contextual := true) (maxSteps := 4000000) only [fwc, fwe, opsW_gpure, drawW_pure, drawW_gpure, Env.upd_apply, Heap.upd_same, Heap.upd_apply, ite_none, List.getD_cons_zero, List.getD_cons_succ, List.getD_nil, List.length_cons, List.length_nil, List.map_cons, List.map_nil, List.getElem?_cons_zero, List.getElem?_cons_succ, List.getElem?_nil, List.set_cons_zero, List.set_cons_succ, List.take_succ_cons, List.take_zero, List.drop_succ_cons, List.drop_zero, List.nil_append, List.cons_append, List.append_nil, Option.map_some, Option.map_none, Option.bind_some, Option.bind_none, reduceIte, ↓reduceIte, decide_true, decide_false, Bool.true_and, Bool.and_true, Bool.false_and, Bool.and_false, true_and, and_true, and_self, Nat.reduceAdd, Nat.reduceLeDiff, Nat.reduceEqDiff, Nat.zero_add, Nat.add_zero, Nat.le_refl, Nat.zero_le, ge_iff_le, Nat.reduceLT, Nat.zero_lt_succ, Nat.reduceSub, if_true, if_false, forall_const, reduceCtorEq, Bool.not_true, Bool.not_false, Bool.false_eq_true, Int.reduceEq, Int.reduceLT, Int.reduceLE, Int.reduceNeg, Int.reduceToNat, Int.reduceAdd, Int.reduceSub, Nat.reduceMul, Nat.reduceEqDiff, gW_un, gcF_un, gcA_un, *]
    | (refine retK_now ?_)
    | (refine retK_now' ?_)
    | (intro q hq)
    | (refine cond_intro (fun hc => ?_) (fun hc => ?_)))
        refine seqK_now ?_
        (repeat' first
    | simp (contextual := true) (maxSteps := 4000000) only [fwc, fwe, opsW_gpure, drawW_pure, drawW_gpure, Env.upd_apply, Heap.upd_same, Heap.upd_apply, ite_none, List.getD_cons_zero, List.getD_cons_succ, List.getD_nil, List.length_cons, List.length_nil, List.map_cons, List.map_nil, List.getElem?_cons_zero, List.getElem?_cons_succ, List.getElem?_nil, List.set_cons_zero, List.set_cons_succ, List.take_succ_cons, List.take_zero, List.drop_succ_cons, List.drop_zero, List.nil_append, List.cons_append, List.append_nil, Option.map_some, Option.map_none, Option.bind_some, Option.bind_none, reduceIte, ↓reduceIte, decide_true, decide_false, Bool.true_and, Bool.and_true, Bool.false_and, Bool.and_false, true_and, and_true, and_self, Nat.reduceAdd, Nat.reduceLeDiff, Nat.reduceEqDiff, Nat.zero_add, Nat.add_zero, Nat.le_refl, Nat.zero_le, ge_iff_le, Nat.reduceLT, Nat.zero_lt_succ, Nat.reduceSub, if_true, if_false, forall_const, reduceCtorEq, Bool.not_true, Bool.not_false, Bool.false_eq_true, Int.reduceEq, Int.reduceLT, Int.reduceLE, Int.reduceNeg, Int.reduceToNat, Int.reduceAdd, Int.reduceSub, Nat.reduceMul, Nat.reduceEqDiff, gW_un, gcF_un, gcA_un, *]
    | (refine retK_now ?_)
    | (refine retK_now' ?_)
    | (intro q hq)
    | (refine cond_intro (fun hc => ?_) (fun hc => ?_)))
        refine seq_go ?_
        (repeat' first
    | simp (contextual := true) (maxSteps := 4000000) only [fwc, fwe, opsW_gpure, drawW_pure, drawW_gpure, Env.upd_apply, Heap.upd_same, Heap.upd_apply, ite_none, List.getD_cons_zero, List.getD_cons_succ, List.getD_nil, List.length_cons, List.length_nil, List.map_cons, List.map_nil, List.getElem?_cons_zero, List.getElem?_cons_succ, List.getElem?_nil, List.set_cons_zero, List.set_cons_succ, List.take_succ_cons, List.take_zero, List.drop_succ_cons, List.drop_zero, List.nil_append, List.cons_append, List.append_nil, Option.map_some, Option.map_none, Option.bind_some, Option.bind_none, reduceIte, ↓reduceIte, decide_true, decide_false, Bool.true_and, Bool.and_true, Bool.false_and, Bool.and_false, true_and, and_true, and_self, Nat.reduceAdd, Nat.reduceLeDiff, Nat.reduceEqDiff, Nat.zero_add, Nat.add_zero, Nat.le_refl, Nat.zero_le, ge_iff_le, Nat.reduceLT, Nat.zero_lt_succ, Nat.reduceSub, if_true, if_false, forall_const, reduceCtorEq, Bool.not_true, Bool.not_false, Bool.false_eq_true, Int.reduceEq, Int.reduceLT, Int.reduceLE, Int.reduceNeg, Int.reduceToNat, Int.reduceAdd, Int.reduceSub, Nat.reduceMul, Nat.reduceEqDiff, gW_un, gcF_un, gcA_un, *]
    | (refine retK_now ?_)
    | (refine retK_now' ?_)
    | (intro q hq)
    | (refine cond_intro (fun hc => ?_) (fun hc => ?_)))
        refine hE.use ?_
        (repeat' first
    | simp (contextual := true) (maxSteps := 4000000) only [fwc, fwe, opsW_gpure, drawW_pure, drawW_gpure, Env.upd_apply, Heap.upd_same, Heap.upd_apply, ite_none, List.getD_cons_zero, List.getD_cons_succ, List.getD_nil, List.length_cons, List.length_nil, List.map_cons, List.map_nil, List.getElem?_cons_zero, List.getElem?_cons_succ, List.getElem?_nil, List.set_cons_zero, List.set_cons_succ, List.take_succ_cons, List.take_zero, List.drop_succ_cons, List.drop_zero, List.nil_append, List.cons_append, List.append_nil, Option.map_some, Option.map_none, Option.bind_some, Option.bind_none, reduceIte, ↓reduceIte, decide_true, decide_false, Bool.true_and, Bool.and_true, Bool.false_and, Bool.and_false, true_and, and_true, and_self, Nat.reduceAdd, Nat.reduceLeDiff, Nat.reduceEqDiff, Nat.zero_add, Nat.add_zero, Nat.le_refl, Nat.zero_le, ge_iff_le, Nat.reduceLT, Nat.zero_lt_succ, Nat.reduceSub, if_true, if_false, forall_const, reduceCtorEq, Bool.not_true, Bool.not_false, Bool.false_eq_true, Int.reduceEq, Int.reduceLT, Int.reduceLE, Int.reduceNeg, Int.reduceToNat, Int.reduceAdd, Int.reduceSub, Nat.reduceMul, Nat.reduceEqDiff, gW_un, gcF_un, gcA_un, res2, zeroY, yarnA, nilS, Int.cast_ofNat_Int, *]
    | (refine retK_now ?_)
    | (refine retK_now' ?_)
    | (intro q hq)
    | (refine cond_intro (fun hc => ?_) (fun hc => ?_)))
        refine seqK_now ?_
        refine seq_go ?_
        (repeat' first
    | simp (contextual := true) (maxSteps := 4000000) only [fwc, fwe, opsW_gpure, drawW_pure, drawW_gpure, Env.upd_apply, Heap.upd_same, Heap.upd_apply, ite_none, List.getD_cons_zero, List.getD_cons_succ, List.getD_nil, List.length_cons, List.length_nil, List.map_cons, List.map_nil, List.getElem?_cons_zero, List.getElem?_cons_succ, List.getElem?_nil, List.set_cons_zero, List.set_cons_succ, List.take_succ_cons, List.take_zero, List.drop_succ_cons, List.drop_zero, List.nil_append, List.cons_append, List.append_nil, Option.map_some, Option.map_none, Option.bind_some, Option.bind_none, reduceIte, ↓reduceIte, decide_true, decide_false, Bool.true_and, Bool.and_true, Bool.false_and, Bool.and_false, true_and, and_true, and_self, Nat.reduceAdd, Nat.reduceLeDiff, Nat.reduceEqDiff, Nat.zero_add, Nat.add_zero, Nat.le_refl, Nat.zero_le, ge_iff_le, Nat.reduceLT, Nat.zero_lt_succ, Nat.reduceSub, if_true, if_false, forall_const, reduceCtorEq, Bool.not_true, Bool.not_false, Bool.false_eq_true, Int.reduceEq, Int.reduceLT, Int.reduceLE, Int.reduceNeg, Int.reduceToNat, Int.reduceAdd, Int.reduceSub, Nat.reduceMul, Nat.reduceEqDiff, gW_un, gcF_un, gcA_un, *]
    | (refine retK_now ?_)
    | (refine retK_now' ?_)
    | (intro q hq)
    | (refine cond_intro (fun hc => ?_) (fun hc => ?_)))
        refine hLv.use ?_
        (repeat' first
    | simp (contextual := true) (maxSteps := 4000000) only [fwc, fwe, opsW_gpure, drawW_pure, drawW_gpure, Env.upd_apply, Heap.upd_same, Heap.upd_apply, ite_none, List.getD_cons_zero, List.getD_cons_succ, List.getD_nil, List.length_cons, List.length_nil, List.map_cons, List.map_nil, List.getElem?_cons_zero, List.getElem?_cons_succ, List.getElem?_nil, List.set_cons_zero, List.set_cons_succ, List.take_succ_cons, List.take_zero, List.drop_succ_cons, List.drop_zero, List.nil_append, List.cons_append, List.append_nil, Option.map_some, Option.map_none, Option.bind_some, Option.bind_none, reduceIte, ↓reduceIte, decide_true, decide_false, Bool.true_and, Bool.and_true, Bool.false_and, Bool.and_false, true_and, and_true, and_self, Nat.reduceAdd, Nat.reduceLeDiff, Nat.reduceEqDiff, Nat.zero_add, Nat.add_zero, Nat.le_refl, Nat.zero_le, ge_iff_le, Nat.reduceLT, Nat.zero_lt_succ, Nat.reduceSub, if_true, if_false, forall_const, reduceCtorEq, Bool.not_true, Bool.not_false, Bool.false_eq_true, Int.reduceEq, Int.reduceLT, Int.reduceLE, Int.reduceNeg, Int.reduceToNat, Int.reduceAdd, Int.reduceSub, Nat.reduceMul, Nat.reduceEqDiff, gW_un, gcF_un, gcA_un, res2, zeroY, yarnA, nilS, Int.cast_ofNat_Int, *]
    | (refine retK_now ?_)
    | (refine retK_now' ?_)
    | (intro q hq)
    | (refine cond_intro (fun hc => ?_) (fun hc => ?_)))
        refine seqK_now ?_
        refine seq_go ?_
        (repeat' first
    | simp (contextual := true) (maxSteps := 4000000) only [fwc, fwe, opsW_gpure, drawW_pure, drawW_gpure, Env.upd_apply, Heap.upd_same, Heap.upd_apply, ite_none, List.getD_cons_zero, List.getD_cons_succ, List.getD_nil, List.length_cons, List.length_nil, List.map_cons, List.map_nil, List.getElem?_cons_zero, List.getElem?_cons_succ, List.getElem?_nil, List.set_cons_zero, List.set_cons_succ, List.take_succ_cons, List.take_zero, List.drop_succ_cons, List.drop_zero, List.nil_append, List.cons_append, List.append_nil, Option.map_some, Option.map_none, Option.bind_some, Option.bind_none, reduceIte, ↓reduceIte, decide_true, decide_false, Bool.true_and, Bool.and_true, Bool.false_and, Bool.and_false, true_and, and_true, and_self, Nat.reduceAdd, Nat.reduceLeDiff, Nat.reduceEqDiff, Nat.zero_add, Nat.add_zero, Nat.le_refl, Nat.zero_le, ge_iff_le, Nat.reduceLT, Nat.zero_lt_succ, Nat.reduceSub, if_true, if_false, forall_const, reduceCtorEq, Bool.not_true, Bool.not_false, Bool.false_eq_true, Int.reduceEq, Int.reduceLT, Int.reduceLE, Int.reduceNeg, Int.reduceToNat, Int.reduceAdd, Int.reduceSub, Nat.reduceMul, Nat.reduceEqDiff, gW_un, gcF_un, gcA_un, *]
    | (refine retK_now ?_)
    | (refine retK_now' ?_)
    | (intro q hq)
    | (refine cond_intro (fun hc => ?_) (fun hc => ?_)))
        refine hGo.use ?_
        (repeat' first
    | simp (contextual := true) (maxSteps := 4000000) only [fwc, fwe, opsW_gpure, drawW_pure, drawW_gpure, Env.upd_apply, Heap.upd_same, Heap.upd_apply, ite_none, List.getD_cons_zero, List.getD_cons_succ, List.getD_nil, List.length_cons, List.length_nil, List.map_cons, List.map_nil, List.getElem?_cons_zero, List.getElem?_cons_succ, List.getElem?_nil, List.set_cons_zero, List.set_cons_succ, List.take_succ_cons, List.take_zero, List.drop_succ_cons, List.drop_zero, List.nil_append, List.cons_append, List.append_nil, Option.map_some, Option.map_none, Option.bind_some, Option.bind_none, reduceIte, ↓reduceIte, decide_true, decide_false, Bool.true_and, Bool.and_true, Bool.false_and, Bool.and_false, true_and, and_true, and_self, Nat.reduceAdd, Nat.reduceLeDiff, Nat.reduceEqDiff, Nat.zero_add, Nat.add_zero, Nat.le_refl, Nat.zero_le, ge_iff_le, Nat.reduceLT, Nat.zero_lt_succ, Nat.reduceSub, if_true, if_false, forall_const, reduceCtorEq, Bool.not_true, Bool.not_false, Bool.false_eq_true, Int.reduceEq, Int.reduceLT, Int.reduceLE, Int.reduceNeg, Int.reduceToNat, Int.reduceAdd, Int.reduceSub, Nat.reduceMul, Nat.reduceEqDiff, gW_un, gcF_un, gcA_un, res2, zeroY, yarnA, nilS, Int.cast_ofNat_Int, *]
    | (refine retK_now ?_)
    | (refine retK_now' ?_)
    | (intro q hq)
    | (refine cond_intro (fun hc => ?_) (fun hc => ?_)))
        refine seqK_now ?_
        refine seq_go ?_
        (repeat' first
    | simp (contextual := true) (maxSteps := 4000000) only [fwc, fwe, opsW_gpure, drawW_pure, drawW_gpure, Env.upd_apply, Heap.upd_same, Heap.upd_apply, ite_none, List.getD_cons_zero, List.getD_cons_succ, List.getD_nil, List.length_cons, List.length_nil, List.map_cons, List.map_nil, List.getElem?_cons_zero, List.getElem?_cons_succ, List.getElem?_nil, List.set_cons_zero, List.set_cons_succ, List.take_succ_cons, List.take_zero, List.drop_succ_cons, List.drop_zero, List.nil_append, List.cons_append, List.append_nil, Option.map_some, Option.map_none, Option.bind_some, Option.bind_none, reduceIte, ↓reduceIte, decide_true, decide_false, Bool.true_and, Bool.and_true, Bool.false_and, Bool.and_false, true_and, and_true, and_self, Nat.reduceAdd, Nat.reduceLeDiff, Nat.reduceEqDiff, Nat.zero_add, Nat.add_zero, Nat.le_refl, Nat.zero_le, ge_iff_le, Nat.reduceLT, Nat.zero_lt_succ, Nat.reduceSub, if_true, if_false, forall_const, reduceCtorEq, Bool.not_true, Bool.not_false, Bool.false_eq_true, Int.reduceEq, Int.reduceLT, Int.reduceLE, Int.reduceNeg, Int.reduceToNat, Int.reduceAdd, Int.reduceSub, Nat.reduceMul, Nat.reduceEqDiff, gW_un, gcF_un, gcA_un, *]
    | (refine retK_now ?_)
    | (refine retK_now' ?_)
    | (intro q hq)
    | (refine cond_intro (fun hc => ?_) (fun hc => ?_)))
        refine hMk.use ?_
        (repeat' first
    | simp (contextual := true) (maxSteps := 4000000) only [fwc, fwe, opsW_gpure, drawW_pure, drawW_gpure, Env.upd_apply, Heap.upd_same, Heap.upd_apply, ite_none, List.getD_cons_zero, List.getD_cons_succ, List.getD_nil, List.length_cons, List.length_nil, List.map_cons, List.map_nil, List.getElem?_cons_zero, List.getElem?_cons_succ, List.getElem?_nil, List.set_cons_zero, List.set_cons_succ, List.take_succ_cons, List.take_zero, List.drop_succ_cons, List.drop_zero, List.nil_append, List.cons_append, List.append_nil, Option.map_some, Option.map_none, Option.bind_some, Option.bind_none, reduceIte, ↓reduceIte, decide_true, decide_false, Bool.true_and, Bool.and_true, Bool.false_and, Bool.and_false, true_and, and_true, and_self, Nat.reduceAdd, Nat.reduceLeDiff, Nat.reduceEqDiff, Nat.zero_add, Nat.add_zero, Nat.le_refl, Nat.zero_le, ge_iff_le, Nat.reduceLT, Nat.zero_lt_succ, Nat.reduceSub, if_true, if_false, forall_const, reduceCtorEq, Bool.not_true, Bool.not_false, Bool.false_eq_true, Int.reduceEq, Int.reduceLT, Int.reduceLE, Int.reduceNeg, Int.reduceToNat, Int.reduceAdd, Int.reduceSub, Nat.reduceMul, Nat.reduceEqDiff, gW_un, gcF_un, gcA_un, res3, madeA, zeroY, yarnA, nilS, Int.cast_ofNat_Int, *]
    | (refine retK_now ?_)
    | (refine retK_now' ?_)
    | (intro q hq)
    | (refine cond_intro (fun hc => ?_) (fun hc => ?_)))
        refine seqK_now ?_
        refine seq_go ?_
        (repeat' first
    | simp (contextual := true) (maxSteps := 4000000) only [fwc, fwe, opsW_gpure, drawW_pure, drawW_gpure, Env.upd_apply, Heap.upd_same, Heap.upd_apply, ite_none, List.getD_cons_zero, List.getD_cons_succ, List.getD_nil, List.length_cons, List.length_nil, List.map_cons, List.map_nil, List.getElem?_cons_zero, List.getElem?_cons_succ, List.getElem?_nil, List.set_cons_zero, List.set_cons_succ, List.take_succ_cons, List.take_zero, List.drop_succ_cons, List.drop_zero, List.nil_append, List.cons_append, List.append_nil, Option.map_some, Option.map_none, Option.bind_some, Option.bind_none, reduceIte, ↓reduceIte, decide_true, decide_false, Bool.true_and, Bool.and_true, Bool.false_and, Bool.and_false, true_and, and_true, and_self, Nat.reduceAdd, Nat.reduceLeDiff, Nat.reduceEqDiff, Nat.zero_add, Nat.add_zero, Nat.le_refl, Nat.zero_le, ge_iff_le, Nat.reduceLT, Nat.zero_lt_succ, Nat.reduceSub, if_true, if_false, forall_const, reduceCtorEq, Bool.not_true, Bool.not_false, Bool.false_eq_true, Int.reduceEq, Int.reduceLT, Int.reduceLE, Int.reduceNeg, Int.reduceToNat, Int.reduceAdd, Int.reduceSub, Nat.reduceMul, Nat.reduceEqDiff, gW_un, gcF_un, gcA_un, *]
    | (refine retK_now ?_)
    | (refine retK_now' ?_)
    | (intro q hq)
    | (refine cond_intro (fun hc => ?_) (fun hc => ?_)))
        refine hCk.use ?_
        (repeat' first
    | simp (contextual := true) (maxSteps := 4000000) only [fwc, fwe, opsW_gpure, drawW_pure, drawW_gpure, Env.upd_apply, Heap.upd_same, Heap.upd_apply, ite_none, List.getD_cons_zero, List.getD_cons_succ, List.getD_nil, List.length_cons, List.length_nil, List.map_cons, List.map_nil, List.getElem?_cons_zero, List.getElem?_cons_succ, List.getElem?_nil, List.set_cons_zero, List.set_cons_succ, List.take_succ_cons, List.take_zero, List.drop_succ_cons, List.drop_zero, List.nil_append, List.cons_append, List.append_nil, Option.map_some, Option.map_none, Option.bind_some, Option.bind_none, reduceIte, ↓reduceIte, decide_true, decide_false, Bool.true_and, Bool.and_true, Bool.false_and, Bool.and_false, true_and, and_true, and_self, Nat.reduceAdd, Nat.reduceLeDiff, Nat.reduceEqDiff, Nat.zero_add, Nat.add_zero, Nat.le_refl, Nat.zero_le, ge_iff_le, Nat.reduceLT, Nat.zero_lt_succ, Nat.reduceSub, if_true, if_false, forall_const, reduceCtorEq, Bool.not_true, Bool.not_false, Bool.false_eq_true, Int.reduceEq, Int.reduceLT, Int.reduceLE, Int.reduceNeg, Int.reduceToNat, Int.reduceAdd, Int.reduceSub, Nat.reduceMul, Nat.reduceEqDiff, gW_un, gcF_un, gcA_un, beq_self_eq_true, *]
    | (refine retK_now ?_)
    | (refine retK_now' ?_)
    | (intro q hq)
    | (refine cond_intro (fun hc => ?_) (fun hc => ?_)))
        refine lives_ok.use ?_
        (repeat' first
    | simp (contextual := true) (maxSteps := 4000000) only [fwc, fwe, cmd_seq, opsW_gpure, drawW_pure, drawW_gpure, Env.upd_apply, Heap.upd_same, Heap.upd_apply, ite_none, List.getD_cons_zero, List.getD_cons_succ, List.getD_nil, List.length_cons, List.length_nil, List.map_cons, List.map_nil, List.getElem?_cons_zero, List.getElem?_cons_succ, List.getElem?_nil, List.set_cons_zero, List.set_cons_succ, List.take_succ_cons, List.take_zero, List.drop_succ_cons, List.drop_zero, List.nil_append, List.cons_append, List.append_nil, Option.map_some, Option.map_none, Option.bind_some, Option.bind_none, reduceIte, ↓reduceIte, decide_true, decide_false, Bool.true_and, Bool.and_true, Bool.false_and, Bool.and_false, true_and, and_true, and_self, Nat.reduceAdd, Nat.reduceLeDiff, Nat.reduceEqDiff, Nat.zero_add, Nat.add_zero, Nat.le_refl, Nat.zero_le, ge_iff_le, Nat.reduceLT, Nat.zero_lt_succ, Nat.reduceSub, if_true, if_false, forall_const, reduceCtorEq, Bool.not_true, Bool.not_false, Bool.false_eq_true, Int.reduceEq, Int.reduceLT, Int.reduceLE, Int.reduceNeg, Int.reduceToNat, Int.reduceAdd, Int.reduceSub, Nat.reduceMul, Nat.reduceEqDiff, gW_un, gcF_un, gcA_un, *]
    | (refine seqK_now ?_)
    | (refine retK_now ?_)
    | (refine retK_now' ?_)
    | (intro q hq)
    | (refine cond_intro (fun hc => ?_) (fun hc => ?_)))
        refine WeakR.pure (by repeat (first | exact Heap.sub_refl _ | refine sub_upd (by simp only [*]) ?_)) ?_
        rfl
      · have hk := hk0.2 rfl
        clear hk0
        rw [hk] at hE hLv hGo hMk hCk
        clear hE hLv hGo
        refine seq_go ?_
        refine seq_go ?_
        (repeat' first
    | simp (contextual := true) (maxSteps := 4000000) only [fwc, fwe, opsW_gpure, drawW_pure, drawW_gpure, Env.upd_apply, Heap.upd_same, Heap.upd_apply, ite_none, List.getD_cons_zero, List.getD_cons_succ, List.getD_nil, List.length_cons, List.length_nil, List.map_cons, List.map_nil, List.getElem?_cons_zero, List.getElem?_cons_succ, List.getElem?_nil, List.set_cons_zero, List.set_cons_succ, List.take_succ_cons, List.take_zero, List.drop_succ_cons, List.drop_zero, List.nil_append, List.cons_append, List.append_nil, Option.map_some, Option.map_none, Option.bind_some, Option.bind_none, reduceIte, ↓reduceIte, decide_true, decide_false, Bool.true_and, Bool.and_true, Bool.false_and, Bool.and_false, true_and, and_true, and_self, Nat.reduceAdd, Nat.reduceLeDiff, Nat.reduceEqDiff, Nat.zero_add, Nat.add_zero, Nat.le_refl, Nat.zero_le, ge_iff_le, Nat.reduceLT, Nat.zero_lt_succ, Nat.reduceSub, if_true, if_false, forall_const, reduceCtorEq, Bool.not_true, Bool.not_false, Bool.false_eq_true, Int.reduceEq, Int.reduceLT, Int.reduceLE, Int.reduceNeg, Int.reduceToNat, Int.reduceAdd, Int.reduceSub, Nat.reduceMul, Nat.reduceEqDiff, gW_un, gcF_un, gcA_un, *]
    | (refine retK_now ?_)
    | (refine retK_now' ?_)
    | (intro q hq)
    | (refine cond_intro (fun hc => ?_) (fun hc => ?_)))
        refine seqK_now ?_
        (repeat' first
    | simp (contextual := true) (maxSteps := 4000000) only [fwc, fwe, opsW_gpure, drawW_pure, drawW_gpure, Env.upd_apply, Heap.upd_same, Heap.upd_apply, ite_none, List.getD_cons_zero, List.getD_cons_succ, List.getD_nil, List.length_cons, List.length_nil, List.map_cons, List.map_nil, List.getElem?_cons_zero, List.getElem?_cons_succ, List.getElem?_nil, List.set_cons_zero, List.set_cons_succ, List.take_succ_cons, List.take_zero, List.drop_succ_cons, List.drop_zero, List.nil_append, List.cons_append, List.append_nil, Option.map_some, Option.map_none, Option.bind_some, Option.bind_none, reduceIte, ↓reduceIte, decide_true, decide_false, Bool.true_and, Bool.and_true, Bool.false_and, Bool.and_false, true_and, and_true, and_self, Nat.reduceAdd, Nat.reduceLeDiff, Nat.reduceEqDiff, Nat.zero_add, Nat.add_zero, Nat.le_refl, Nat.zero_le, ge_iff_le, Nat.reduceLT, Nat.zero_lt_succ, Nat.reduceSub, if_true, if_false, forall_const, reduceCtorEq, Bool.not_true, Bool.not_false, Bool.false_eq_true, Int.reduceEq, Int.reduceLT, Int.reduceLE, Int.reduceNeg, Int.reduceToNat, Int.reduceAdd, Int.reduceSub, Nat.reduceMul, Nat.reduceEqDiff, gW_un, gcF_un, gcA_un, *]
    | (refine retK_now ?_)
    | (refine retK_now' ?_)
    | (intro q hq)
    | (refine cond_intro (fun hc => ?_) (fun hc => ?_)))
        refine seqK_now ?_
        have hT := (cpS_T hs).isL
        have hT1 := hT.cells
        have hT2 := hT.stor
        have hM2 : makeA 0 true p c n s = if decide (c = 2048) = true then res3 zeroY (madeA 0 false nilS) 3 else res3 (yarnA true p (IntKind.i64.wrap (c + 1)) false nilS) (madeA c n (cpS s)) 0 := rfl
        rw [hM2] at hMk
        clear hM2 hT
        generalize cpS s = s' at hMk hT1 hT2
        cases hcd : decide (c = 2048)
        · rw [hcd, if_neg (by simp)] at hMk
          refine seq_go ?_
          (repeat' first
    | simp (contextual := true) (maxSteps := 4000000) only [fwc, fwe, opsW_gpure, drawW_pure, drawW_gpure, Env.upd_apply, Heap.upd_same, Heap.upd_apply, ite_none, List.getD_cons_zero, List.getD_cons_succ, List.getD_nil, List.length_cons, List.length_nil, List.map_cons, List.map_nil, List.getElem?_cons_zero, List.getElem?_cons_succ, List.getElem?_nil, List.set_cons_zero, List.set_cons_succ, List.take_succ_cons, List.take_zero, List.drop_succ_cons, List.drop_zero, List.nil_append, List.cons_append, List.append_nil, Option.map_some, Option.map_none, Option.bind_some, Option.bind_none, reduceIte, ↓reduceIte, decide_true, decide_false, Bool.true_and, Bool.and_true, Bool.false_and, Bool.and_false, true_and, and_true, and_self, Nat.reduceAdd, Nat.reduceLeDiff, Nat.reduceEqDiff, Nat.zero_add, Nat.add_zero, Nat.le_refl, Nat.zero_le, ge_iff_le, Nat.reduceLT, Nat.zero_lt_succ, Nat.reduceSub, if_true, if_false, forall_const, reduceCtorEq, Bool.not_true, Bool.not_false, Bool.false_eq_true, Int.reduceEq, Int.reduceLT, Int.reduceLE, Int.reduceNeg, Int.reduceToNat, Int.reduceAdd, Int.reduceSub, Nat.reduceMul, Nat.reduceEqDiff, gW_un, gcF_un, gcA_un, *]
    | (refine retK_now ?_)
    | (refine retK_now' ?_)
    | (intro q hq)
    | (refine cond_intro (fun hc => ?_) (fun hc => ?_)))
          refine hMk.use ?_
          (repeat' first
    | simp (contextual := true) (maxSteps := 4000000) only [fwc, fwe, opsW_gpure, drawW_pure, drawW_gpure, Env.upd_apply, Heap.upd_same, Heap.upd_apply, ite_none, List.getD_cons_zero, List.getD_cons_succ, List.getD_nil, List.length_cons, List.length_nil, List.map_cons, List.map_nil, List.getElem?_cons_zero, List.getElem?_cons_succ, List.getElem?_nil, List.set_cons_zero, List.set_cons_succ, List.take_succ_cons, List.take_zero, List.drop_succ_cons, List.drop_zero, List.nil_append, List.cons_append, List.append_nil, Option.map_some, Option.map_none, Option.bind_some, Option.bind_none, reduceIte, ↓reduceIte, decide_true, decide_false, Bool.true_and, Bool.and_true, Bool.false_and, Bool.and_false, true_and, and_true, and_self, Nat.reduceAdd, Nat.reduceLeDiff, Nat.reduceEqDiff, Nat.zero_add, Nat.add_zero, Nat.le_refl, Nat.zero_le, ge_iff_le, Nat.reduceLT, Nat.zero_lt_succ, Nat.reduceSub, if_true, if_false, forall_const, reduceCtorEq, Bool.not_true, Bool.not_false, Bool.false_eq_true, Int.reduceEq, Int.reduceLT, Int.reduceLE, Int.reduceNeg, Int.reduceToNat, Int.reduceAdd, Int.reduceSub, Nat.reduceMul, Nat.reduceEqDiff, gW_un, gcF_un, gcA_un, res3, madeA, zeroY, yarnA, nilS, Int.cast_ofNat_Int, *]
    | (refine retK_now ?_)
    | (refine retK_now' ?_)
    | (intro q hq)
    | (refine cond_intro (fun hc => ?_) (fun hc => ?_)))
          refine seqK_now ?_
          refine seq_go ?_
          (repeat' first
    | simp (contextual := true) (maxSteps := 4000000) only [fwc, fwe, opsW_gpure, drawW_pure, drawW_gpure, Env.upd_apply, Heap.upd_same, Heap.upd_apply, ite_none, List.getD_cons_zero, List.getD_cons_succ, List.getD_nil, List.length_cons, List.length_nil, List.map_cons, List.map_nil, List.getElem?_cons_zero, List.getElem?_cons_succ, List.getElem?_nil, List.set_cons_zero, List.set_cons_succ, List.take_succ_cons, List.take_zero, List.drop_succ_cons, List.drop_zero, List.nil_append, List.cons_append, List.append_nil, Option.map_some, Option.map_none, Option.bind_some, Option.bind_none, reduceIte, ↓reduceIte, decide_true, decide_false, Bool.true_and, Bool.and_true, Bool.false_and, Bool.and_false, true_and, and_true, and_self, Nat.reduceAdd, Nat.reduceLeDiff, Nat.reduceEqDiff, Nat.zero_add, Nat.add_zero, Nat.le_refl, Nat.zero_le, ge_iff_le, Nat.reduceLT, Nat.zero_lt_succ, Nat.reduceSub, if_true, if_false, forall_const, reduceCtorEq, Bool.not_true, Bool.not_false, Bool.false_eq_true, Int.reduceEq, Int.reduceLT, Int.reduceLE, Int.reduceNeg, Int.reduceToNat, Int.reduceAdd, Int.reduceSub, Nat.reduceMul, Nat.reduceEqDiff, gW_un, gcF_un, gcA_un, *]
    | (refine retK_now ?_)
    | (refine retK_now' ?_)
    | (intro q hq)
    | (refine cond_intro (fun hc => ?_) (fun hc => ?_)))
          refine seqK_now ?_
          refine seq_go ?_
          refine seq_go ?_
          (repeat' first
    | simp (contextual := true) (maxSteps := 4000000) only [fwc, fwe, opsW_gpure, drawW_pure, drawW_gpure, Env.upd_apply, Heap.upd_same, Heap.upd_apply, ite_none, List.getD_cons_zero, List.getD_cons_succ, List.getD_nil, List.length_cons, List.length_nil, List.map_cons, List.map_nil, List.getElem?_cons_zero, List.getElem?_cons_succ, List.getElem?_nil, List.set_cons_zero, List.set_cons_succ, List.take_succ_cons, List.take_zero, List.drop_succ_cons, List.drop_zero, List.nil_append, List.cons_append, List.append_nil, Option.map_some, Option.map_none, Option.bind_some, Option.bind_none, reduceIte, ↓reduceIte, decide_true, decide_false, Bool.true_and, Bool.and_true, Bool.false_and, Bool.and_false, true_and, and_true, and_self, Nat.reduceAdd, Nat.reduceLeDiff, Nat.reduceEqDiff, Nat.zero_add, Nat.add_zero, Nat.le_refl, Nat.zero_le, ge_iff_le, Nat.reduceLT, Nat.zero_lt_succ, Nat.reduceSub, if_true, if_false, forall_const, reduceCtorEq, Bool.not_true, Bool.not_false, Bool.false_eq_true, Int.reduceEq, Int.reduceLT, Int.reduceLE, Int.reduceNeg, Int.reduceToNat, Int.reduceAdd, Int.reduceSub, Nat.reduceMul, Nat.reduceEqDiff, gW_un, gcF_un, gcA_un, *]
    | (refine retK_now ?_)
    | (refine retK_now' ?_)
    | (intro q hq)
    | (refine cond_intro (fun hc => ?_) (fun hc => ?_)))
          refine seqK_now ?_
          (repeat' first
    | simp (contextual := true) (maxSteps := 4000000) only [fwc, fwe, opsW_gpure, drawW_pure, drawW_gpure, Env.upd_apply, Heap.upd_same, Heap.upd_apply, ite_none, List.getD_cons_zero, List.getD_cons_succ, List.getD_nil, List.length_cons, List.length_nil, List.map_cons, List.map_nil, List.getElem?_cons_zero, List.getElem?_cons_succ, List.getElem?_nil, List.set_cons_zero, List.set_cons_succ, List.take_succ_cons, List.take_zero, List.drop_succ_cons, List.drop_zero, List.nil_append, List.cons_append, List.append_nil, Option.map_some, Option.map_none, Option.bind_some, Option.bind_none, reduceIte, ↓reduceIte, decide_true, decide_false, Bool.true_and, Bool.and_true, Bool.false_and, Bool.and_false, true_and, and_true, and_self, Nat.reduceAdd, Nat.reduceLeDiff, Nat.reduceEqDiff, Nat.zero_add, Nat.add_zero, Nat.le_refl, Nat.zero_le, ge_iff_le, Nat.reduceLT, Nat.zero_lt_succ, Nat.reduceSub, if_true, if_false, forall_const, reduceCtorEq, Bool.not_true, Bool.not_false, Bool.false_eq_true, Int.reduceEq, Int.reduceLT, Int.reduceLE, Int.reduceNeg, Int.reduceToNat, Int.reduceAdd, Int.reduceSub, Nat.reduceMul, Nat.reduceEqDiff, gW_un, gcF_un, gcA_un, *]
    | (refine retK_now ?_)
    | (refine retK_now' ?_)
    | (intro q hq)
    | (refine cond_intro (fun hc => ?_) (fun hc => ?_)))
          refine seq_go ?_
          (repeat' first
    | simp (contextual := true) (maxSteps := 4000000) only [fwc, fwe, opsW_gpure, drawW_pure, drawW_gpure, Env.upd_apply, Heap.upd_same, Heap.upd_apply, ite_none, List.getD_cons_zero, List.getD_cons_succ, List.getD_nil, List.length_cons, List.length_nil, List.map_cons, List.map_nil, List.getElem?_cons_zero, List.getElem?_cons_succ, List.getElem?_nil, List.set_cons_zero, List.set_cons_succ, List.take_succ_cons, List.take_zero, List.drop_succ_cons, List.drop_zero, List.nil_append, List.cons_append, List.append_nil, Option.map_some, Option.map_none, Option.bind_some, Option.bind_none, reduceIte, ↓reduceIte, decide_true, decide_false, Bool.true_and, Bool.and_true, Bool.false_and, Bool.and_false, true_and, and_true, and_self, Nat.reduceAdd, Nat.reduceLeDiff, Nat.reduceEqDiff, Nat.zero_add, Nat.add_zero, Nat.le_refl, Nat.zero_le, ge_iff_le, Nat.reduceLT, Nat.zero_lt_succ, Nat.reduceSub, if_true, if_false, forall_const, reduceCtorEq, Bool.not_true, Bool.not_false, Bool.false_eq_true, Int.reduceEq, Int.reduceLT, Int.reduceLE, Int.reduceNeg, Int.reduceToNat, Int.reduceAdd, Int.reduceSub, Nat.reduceMul, Nat.reduceEqDiff, gW_un, gcF_un, gcA_un, *]
    | (refine retK_now ?_)
    | (refine retK_now' ?_)
    | (intro q hq)
    | (refine cond_intro (fun hc => ?_) (fun hc => ?_)))
          refine seqK_now ?_
          (repeat' first
    | simp (contextual := true) (maxSteps := 4000000) only [fwc, fwe, opsW_gpure, drawW_pure, drawW_gpure, Env.upd_apply, Heap.upd_same, Heap.upd_apply, ite_none, List.getD_cons_zero, List.getD_cons_succ, List.getD_nil, List.length_cons, List.length_nil, List.map_cons, List.map_nil, List.getElem?_cons_zero, List.getElem?_cons_succ, List.getElem?_nil, List.set_cons_zero, List.set_cons_succ, List.take_succ_cons, List.take_zero, List.drop_succ_cons, List.drop_zero, List.nil_append, List.cons_append, List.append_nil, Option.map_some, Option.map_none, Option.bind_some, Option.bind_none, reduceIte, ↓reduceIte, decide_true, decide_false, Bool.true_and, Bool.and_true, Bool.false_and, Bool.and_false, true_and, and_true, and_self, Nat.reduceAdd, Nat.reduceLeDiff, Nat.reduceEqDiff, Nat.zero_add, Nat.add_zero, Nat.le_refl, Nat.zero_le, ge_iff_le, Nat.reduceLT, Nat.zero_lt_succ, Nat.reduceSub, if_true, if_false, forall_const, reduceCtorEq, Bool.not_true, Bool.not_false, Bool.false_eq_true, Int.reduceEq, Int.reduceLT, Int.reduceLE, Int.reduceNeg, Int.reduceToNat, Int.reduceAdd, Int.reduceSub, Nat.reduceMul, Nat.reduceEqDiff, gW_un, gcF_un, gcA_un, *]
    | (refine retK_now ?_)
    | (refine retK_now' ?_)
    | (intro q hq)
    | (refine cond_intro (fun hc => ?_) (fun hc => ?_)))
          refine seqK_now ?_
          refine seq_go ?_
          (repeat' first
    | simp (contextual := true) (maxSteps := 4000000) only [fwc, fwe, opsW_gpure, drawW_pure, drawW_gpure, Env.upd_apply, Heap.upd_same, Heap.upd_apply, ite_none, List.getD_cons_zero, List.getD_cons_succ, List.getD_nil, List.length_cons, List.length_nil, List.map_cons, List.map_nil, List.getElem?_cons_zero, List.getElem?_cons_succ, List.getElem?_nil, List.set_cons_zero, List.set_cons_succ, List.take_succ_cons, List.take_zero, List.drop_succ_cons, List.drop_zero, List.nil_append, List.cons_append, List.append_nil, Option.map_some, Option.map_none, Option.bind_some, Option.bind_none, reduceIte, ↓reduceIte, decide_true, decide_false, Bool.true_and, Bool.and_true, Bool.false_and, Bool.and_false, true_and, and_true, and_self, Nat.reduceAdd, Nat.reduceLeDiff, Nat.reduceEqDiff, Nat.zero_add, Nat.add_zero, Nat.le_refl, Nat.zero_le, ge_iff_le, Nat.reduceLT, Nat.zero_lt_succ, Nat.reduceSub, if_true, if_false, forall_const, reduceCtorEq, Bool.not_true, Bool.not_false, Bool.false_eq_true, Int.reduceEq, Int.reduceLT, Int.reduceLE, Int.reduceNeg, Int.reduceToNat, Int.reduceAdd, Int.reduceSub, Nat.reduceMul, Nat.reduceEqDiff, gW_un, gcF_un, gcA_un, *]
    | (refine retK_now ?_)
    | (refine retK_now' ?_)
    | (intro q hq)
    | (refine cond_intro (fun hc => ?_) (fun hc => ?_)))
          refine hCk.use ?_
          (repeat' first
    | simp (contextual := true) (maxSteps := 4000000) only [fwc, fwe, opsW_gpure, drawW_pure, drawW_gpure, Env.upd_apply, Heap.upd_same, Heap.upd_apply, ite_none, List.getD_cons_zero, List.getD_cons_succ, List.getD_nil, List.length_cons, List.length_nil, List.map_cons, List.map_nil, List.getElem?_cons_zero, List.getElem?_cons_succ, List.getElem?_nil, List.set_cons_zero, List.set_cons_succ, List.take_succ_cons, List.take_zero, List.drop_succ_cons, List.drop_zero, List.nil_append, List.cons_append, List.append_nil, Option.map_some, Option.map_none, Option.bind_some, Option.bind_none, reduceIte, ↓reduceIte, decide_true, decide_false, Bool.true_and, Bool.and_true, Bool.false_and, Bool.and_false, true_and, and_true, and_self, Nat.reduceAdd, Nat.reduceLeDiff, Nat.reduceEqDiff, Nat.zero_add, Nat.add_zero, Nat.le_refl, Nat.zero_le, ge_iff_le, Nat.reduceLT, Nat.zero_lt_succ, Nat.reduceSub, if_true, if_false, forall_const, reduceCtorEq, Bool.not_true, Bool.not_false, Bool.false_eq_true, Int.reduceEq, Int.reduceLT, Int.reduceLE, Int.reduceNeg, Int.reduceToNat, Int.reduceAdd, Int.reduceSub, Nat.reduceMul, Nat.reduceEqDiff, gW_un, gcF_un, gcA_un, beq_self_eq_true, *]
    | (refine retK_now ?_)
    | (refine retK_now' ?_)
    | (intro q hq)
    | (refine cond_intro (fun hc => ?_) (fun hc => ?_)))
          refine lives_ok.use ?_
          (repeat' first
    | simp (contextual := true) (maxSteps := 4000000) only [fwc, fwe, cmd_seq, opsW_gpure, drawW_pure, drawW_gpure, Env.upd_apply, Heap.upd_same, Heap.upd_apply, ite_none, List.getD_cons_zero, List.getD_cons_succ, List.getD_nil, List.length_cons, List.length_nil, List.map_cons, List.map_nil, List.getElem?_cons_zero, List.getElem?_cons_succ, List.getElem?_nil, List.set_cons_zero, List.set_cons_succ, List.take_succ_cons, List.take_zero, List.drop_succ_cons, List.drop_zero, List.nil_append, List.cons_append, List.append_nil, Option.map_some, Option.map_none, Option.bind_some, Option.bind_none, reduceIte, ↓reduceIte, decide_true, decide_false, Bool.true_and, Bool.and_true, Bool.false_and, Bool.and_false, true_and, and_true, and_self, Nat.reduceAdd, Nat.reduceLeDiff, Nat.reduceEqDiff, Nat.zero_add, Nat.add_zero, Nat.le_refl, Nat.zero_le, ge_iff_le, Nat.reduceLT, Nat.zero_lt_succ, Nat.reduceSub, if_true, if_false, forall_const, reduceCtorEq, Bool.not_true, Bool.not_false, Bool.false_eq_true, Int.reduceEq, Int.reduceLT, Int.reduceLE, Int.reduceNeg, Int.reduceToNat, Int.reduceAdd, Int.reduceSub, Nat.reduceMul, Nat.reduceEqDiff, gW_un, gcF_un, gcA_un, *]
    | (refine seqK_now ?_)
    | (refine retK_now ?_)
    | (refine retK_now' ?_)
    | (intro q hq)
    | (refine cond_intro (fun hc => ?_) (fun hc => ?_)))
          refine WeakR.pure (by repeat (first | exact Heap.sub_refl _ | refine sub_upd (by simp only [*]) ?_)) ?_
          rfl
        · rw [hcd, if_pos rfl] at hMk
          refine seq_go ?_
          (repeat' first
    | simp (contextual := true) (maxSteps := 4000000) only [fwc, fwe, opsW_gpure, drawW_pure, drawW_gpure, Env.upd_apply, Heap.upd_same, Heap.upd_apply, ite_none, List.getD_cons_zero, List.getD_cons_succ, List.getD_nil, List.length_cons, List.length_nil, List.map_cons, List.map_nil, List.getElem?_cons_zero, List.getElem?_cons_succ, List.getElem?_nil, List.set_cons_zero, List.set_cons_succ, List.take_succ_cons, List.take_zero, List.drop_succ_cons, List.drop_zero, List.nil_append, List.cons_append, List.append_nil, Option.map_some, Option.map_none, Option.bind_some, Option.bind_none, reduceIte, ↓reduceIte, decide_true, decide_false, Bool.true_and, Bool.and_true, Bool.false_and, Bool.and_false, true_and, and_true, and_self, Nat.reduceAdd, Nat.reduceLeDiff, Nat.reduceEqDiff, Nat.zero_add, Nat.add_zero, Nat.le_refl, Nat.zero_le, ge_iff_le, Nat.reduceLT, Nat.zero_lt_succ, Nat.reduceSub, if_true, if_false, forall_const, reduceCtorEq, Bool.not_true, Bool.not_false, Bool.false_eq_true, Int.reduceEq, Int.reduceLT, Int.reduceLE, Int.reduceNeg, Int.reduceToNat, Int.reduceAdd, Int.reduceSub, Nat.reduceMul, Nat.reduceEqDiff, gW_un, gcF_un, gcA_un, *]
    | (refine retK_now ?_)
    | (refine retK_now' ?_)
    | (intro q hq)
    | (refine cond_intro (fun hc => ?_) (fun hc => ?_)))
          refine hMk.use ?_
          (repeat' first
    | simp (contextual := true) (maxSteps := 4000000) only [fwc, fwe, opsW_gpure, drawW_pure, drawW_gpure, Env.upd_apply, Heap.upd_same, Heap.upd_apply, ite_none, List.getD_cons_zero, List.getD_cons_succ, List.getD_nil, List.length_cons, List.length_nil, List.map_cons, List.map_nil, List.getElem?_cons_zero, List.getElem?_cons_succ, List.getElem?_nil, List.set_cons_zero, List.set_cons_succ, List.take_succ_cons, List.take_zero, List.drop_succ_cons, List.drop_zero, List.nil_append, List.cons_append, List.append_nil, Option.map_some, Option.map_none, Option.bind_some, Option.bind_none, reduceIte, ↓reduceIte, decide_true, decide_false, Bool.true_and, Bool.and_true, Bool.false_and, Bool.and_false, true_and, and_true, and_self, Nat.reduceAdd, Nat.reduceLeDiff, Nat.reduceEqDiff, Nat.zero_add, Nat.add_zero, Nat.le_refl, Nat.zero_le, ge_iff_le, Nat.reduceLT, Nat.zero_lt_succ, Nat.reduceSub, if_true, if_false, forall_const, reduceCtorEq, Bool.not_true, Bool.not_false, Bool.false_eq_true, Int.reduceEq, Int.reduceLT, Int.reduceLE, Int.reduceNeg, Int.reduceToNat, Int.reduceAdd, Int.reduceSub, Nat.reduceMul, Nat.reduceEqDiff, gW_un, gcF_un, gcA_un, res3, madeA, zeroY, yarnA, nilS, Int.cast_ofNat_Int, *]
    | (refine retK_now ?_)
    | (refine retK_now' ?_)
    | (intro q hq)
    | (refine cond_intro (fun hc => ?_) (fun hc => ?_)))
          refine seqK_now ?_
          refine seq_go ?_
          (repeat' first
    | simp (contextual := true) (maxSteps := 4000000) only [fwc, fwe, opsW_gpure, drawW_pure, drawW_gpure, Env.upd_apply, Heap.upd_same, Heap.upd_apply, ite_none, List.getD_cons_zero, List.getD_cons_succ, List.getD_nil, List.length_cons, List.length_nil, List.map_cons, List.map_nil, List.getElem?_cons_zero, List.getElem?_cons_succ, List.getElem?_nil, List.set_cons_zero, List.set_cons_succ, List.take_succ_cons, List.take_zero, List.drop_succ_cons, List.drop_zero, List.nil_append, List.cons_append, List.append_nil, Option.map_some, Option.map_none, Option.bind_some, Option.bind_none, reduceIte, ↓reduceIte, decide_true, decide_false, Bool.true_and, Bool.and_true, Bool.false_and, Bool.and_false, true_and, and_true, and_self, Nat.reduceAdd, Nat.reduceLeDiff, Nat.reduceEqDiff, Nat.zero_add, Nat.add_zero, Nat.le_refl, Nat.zero_le, ge_iff_le, Nat.reduceLT, Nat.zero_lt_succ, Nat.reduceSub, if_true, if_false, forall_const, reduceCtorEq, Bool.not_true, Bool.not_false, Bool.false_eq_true, Int.reduceEq, Int.reduceLT, Int.reduceLE, Int.reduceNeg, Int.reduceToNat, Int.reduceAdd, Int.reduceSub, Nat.reduceMul, Nat.reduceEqDiff, gW_un, gcF_un, gcA_un, *]
    | (refine retK_now ?_)
    | (refine retK_now' ?_)
    | (intro q hq)
    | (refine cond_intro (fun hc => ?_) (fun hc => ?_)))
          refine seqK_now ?_
          refine seq_go ?_
          refine seq_go ?_
          (repeat' first
    | simp (contextual := true) (maxSteps := 4000000) only [fwc, fwe, opsW_gpure, drawW_pure, drawW_gpure, Env.upd_apply, Heap.upd_same, Heap.upd_apply, ite_none, List.getD_cons_zero, List.getD_cons_succ, List.getD_nil, List.length_cons, List.length_nil, List.map_cons, List.map_nil, List.getElem?_cons_zero, List.getElem?_cons_succ, List.getElem?_nil, List.set_cons_zero, List.set_cons_succ, List.take_succ_cons, List.take_zero, List.drop_succ_cons, List.drop_zero, List.nil_append, List.cons_append, List.append_nil, Option.map_some, Option.map_none, Option.bind_some, Option.bind_none, reduceIte, ↓reduceIte, decide_true, decide_false, Bool.true_and, Bool.and_true, Bool.false_and, Bool.and_false, true_and, and_true, and_self, Nat.reduceAdd, Nat.reduceLeDiff, Nat.reduceEqDiff, Nat.zero_add, Nat.add_zero, Nat.le_refl, Nat.zero_le, ge_iff_le, Nat.reduceLT, Nat.zero_lt_succ, Nat.reduceSub, if_true, if_false, forall_const, reduceCtorEq, Bool.not_true, Bool.not_false, Bool.false_eq_true, Int.reduceEq, Int.reduceLT, Int.reduceLE, Int.reduceNeg, Int.reduceToNat, Int.reduceAdd, Int.reduceSub, Nat.reduceMul, Nat.reduceEqDiff, gW_un, gcF_un, gcA_un, *]
    | (refine retK_now ?_)
    | (refine retK_now' ?_)
    | (intro q hq)
    | (refine cond_intro (fun hc => ?_) (fun hc => ?_)))
          refine seqK_now ?_
          (repeat' first
    | simp (contextual := true) (maxSteps := 4000000) only [fwc, fwe, opsW_gpure, drawW_pure, drawW_gpure, Env.upd_apply, Heap.upd_same, Heap.upd_apply, ite_none, List.getD_cons_zero, List.getD_cons_succ, List.getD_nil, List.length_cons, List.length_nil, List.map_cons, List.map_nil, List.getElem?_cons_zero, List.getElem?_cons_succ, List.getElem?_nil, List.set_cons_zero, List.set_cons_succ, List.take_succ_cons, List.take_zero, List.drop_succ_cons, List.drop_zero, List.nil_append, List.cons_append, List.append_nil, Option.map_some, Option.map_none, Option.bind_some, Option.bind_none, reduceIte, ↓reduceIte, decide_true, decide_false, Bool.true_and, Bool.and_true, Bool.false_and, Bool.and_false, true_and, and_true, and_self, Nat.reduceAdd, Nat.reduceLeDiff, Nat.reduceEqDiff, Nat.zero_add, Nat.add_zero, Nat.le_refl, Nat.zero_le, ge_iff_le, Nat.reduceLT, Nat.zero_lt_succ, Nat.reduceSub, if_true, if_false, forall_const, reduceCtorEq, Bool.not_true, Bool.not_false, Bool.false_eq_true, Int.reduceEq, Int.reduceLT, Int.reduceLE, Int.reduceNeg, Int.reduceToNat, Int.reduceAdd, Int.reduceSub, Nat.reduceMul, Nat.reduceEqDiff, gW_un, gcF_un, gcA_un, *]
    | (refine retK_now ?_)
    | (refine retK_now' ?_)
    | (intro q hq)
    | (refine cond_intro (fun hc => ?_) (fun hc => ?_)))
          refine seq_go ?_
          (repeat' first
    | simp (contextual := true) (maxSteps := 4000000) only [fwc, fwe, opsW_gpure, drawW_pure, drawW_gpure, Env.upd_apply, Heap.upd_same, Heap.upd_apply, ite_none, List.getD_cons_zero, List.getD_cons_succ, List.getD_nil, List.length_cons, List.length_nil, List.map_cons, List.map_nil, List.getElem?_cons_zero, List.getElem?_cons_succ, List.getElem?_nil, List.set_cons_zero, List.set_cons_succ, List.take_succ_cons, List.take_zero, List.drop_succ_cons, List.drop_zero, List.nil_append, List.cons_append, List.append_nil, Option.map_some, Option.map_none, Option.bind_some, Option.bind_none, reduceIte, ↓reduceIte, decide_true, decide_false, Bool.true_and, Bool.and_true, Bool.false_and, Bool.and_false, true_and, and_true, and_self, Nat.reduceAdd, Nat.reduceLeDiff, Nat.reduceEqDiff, Nat.zero_add, Nat.add_zero, Nat.le_refl, Nat.zero_le, ge_iff_le, Nat.reduceLT, Nat.zero_lt_succ, Nat.reduceSub, if_true, if_false, forall_const, reduceCtorEq, Bool.not_true, Bool.not_false, Bool.false_eq_true, Int.reduceEq, Int.reduceLT, Int.reduceLE, Int.reduceNeg, Int.reduceToNat, Int.reduceAdd, Int.reduceSub, Nat.reduceMul, Nat.reduceEqDiff, gW_un, gcF_un, gcA_un, *]
    | (refine retK_now ?_)
    | (refine retK_now' ?_)
    | (intro q hq)
    | (refine cond_intro (fun hc => ?_) (fun hc => ?_)))
          refine seqK_now ?_
          (repeat' first
    | simp (contextual := true) (maxSteps := 4000000) only [fwc, fwe, opsW_gpure, drawW_pure, drawW_gpure, Env.upd_apply, Heap.upd_same, Heap.upd_apply, ite_none, List.getD_cons_zero, List.getD_cons_succ, List.getD_nil, List.length_cons, List.length_nil, List.map_cons, List.map_nil, List.getElem?_cons_zero, List.getElem?_cons_succ, List.getElem?_nil, List.set_cons_zero, List.set_cons_succ, List.take_succ_cons, List.take_zero, List.drop_succ_cons, List.drop_zero, List.nil_append, List.cons_append, List.append_nil, Option.map_some, Option.map_none, Option.bind_some, Option.bind_none, reduceIte, ↓reduceIte, decide_true, decide_false, Bool.true_and, Bool.and_true, Bool.false_and, Bool.and_false, true_and, and_true, and_self, Nat.reduceAdd, Nat.reduceLeDiff, Nat.reduceEqDiff, Nat.zero_add, Nat.add_zero, Nat.le_refl, Nat.zero_le, ge_iff_le, Nat.reduceLT, Nat.zero_lt_succ, Nat.reduceSub, if_true, if_false, forall_const, reduceCtorEq, Bool.not_true, Bool.not_false, Bool.false_eq_true, Int.reduceEq, Int.reduceLT, Int.reduceLE, Int.reduceNeg, Int.reduceToNat, Int.reduceAdd, Int.reduceSub, Nat.reduceMul, Nat.reduceEqDiff, gW_un, gcF_un, gcA_un, *]
    | (refine retK_now ?_)
    | (refine retK_now' ?_)
    | (intro q hq)
    | (refine cond_intro (fun hc => ?_) (fun hc => ?_)))
          refine seqK_now ?_
          refine seq_go ?_
          (repeat' first
    | simp (contextual := true) (maxSteps := 4000000) only [fwc, fwe, opsW_gpure, drawW_pure, drawW_gpure, Env.upd_apply, Heap.upd_same, Heap.upd_apply, ite_none, List.getD_cons_zero, List.getD_cons_succ, List.getD_nil, List.length_cons, List.length_nil, List.map_cons, List.map_nil, List.getElem?_cons_zero, List.getElem?_cons_succ, List.getElem?_nil, List.set_cons_zero, List.set_cons_succ, List.take_succ_cons, List.take_zero, List.drop_succ_cons, List.drop_zero, List.nil_append, List.cons_append, List.append_nil, Option.map_some, Option.map_none, Option.bind_some, Option.bind_none, reduceIte, ↓reduceIte, decide_true, decide_false, Bool.true_and, Bool.and_true, Bool.false_and, Bool.and_false, true_and, and_true, and_self, Nat.reduceAdd, Nat.reduceLeDiff, Nat.reduceEqDiff, Nat.zero_add, Nat.add_zero, Nat.le_refl, Nat.zero_le, ge_iff_le, Nat.reduceLT, Nat.zero_lt_succ, Nat.reduceSub, if_true, if_false, forall_const, reduceCtorEq, Bool.not_true, Bool.not_false, Bool.false_eq_true, Int.reduceEq, Int.reduceLT, Int.reduceLE, Int.reduceNeg, Int.reduceToNat, Int.reduceAdd, Int.reduceSub, Nat.reduceMul, Nat.reduceEqDiff, gW_un, gcF_un, gcA_un, *]
    | (refine retK_now ?_)
    | (refine retK_now' ?_)
    | (intro q hq)
    | (refine cond_intro (fun hc => ?_) (fun hc => ?_)))
          refine hCk.use ?_
          (repeat' first
    | simp (contextual := true) (maxSteps := 4000000) only [fwc, fwe, opsW_gpure, drawW_pure, drawW_gpure, Env.upd_apply, Heap.upd_same, Heap.upd_apply, ite_none, List.getD_cons_zero, List.getD_cons_succ, List.getD_nil, List.length_cons, List.length_nil, List.map_cons, List.map_nil, List.getElem?_cons_zero, List.getElem?_cons_succ, List.getElem?_nil, List.set_cons_zero, List.set_cons_succ, List.take_succ_cons, List.take_zero, List.drop_succ_cons, List.drop_zero, List.nil_append, List.cons_append, List.append_nil, Option.map_some, Option.map_none, Option.bind_some, Option.bind_none, reduceIte, ↓reduceIte, decide_true, decide_false, Bool.true_and, Bool.and_true, Bool.false_and, Bool.and_false, true_and, and_true, and_self, Nat.reduceAdd, Nat.reduceLeDiff, Nat.reduceEqDiff, Nat.zero_add, Nat.add_zero, Nat.le_refl, Nat.zero_le, ge_iff_le, Nat.reduceLT, Nat.zero_lt_succ, Nat.reduceSub, if_true, if_false, forall_const, reduceCtorEq, Bool.not_true, Bool.not_false, Bool.false_eq_true, Int.reduceEq, Int.reduceLT, Int.reduceLE, Int.reduceNeg, Int.reduceToNat, Int.reduceAdd, Int.reduceSub, Nat.reduceMul, Nat.reduceEqDiff, gW_un, gcF_un, gcA_un, beq_self_eq_true, *]
    | (refine retK_now ?_)
    | (refine retK_now' ?_)
    | (intro q hq)
    | (refine cond_intro (fun hc => ?_) (fun hc => ?_)))
          refine lives_ok.use ?_
          (repeat' first
    | simp (contextual := true) (maxSteps := 4000000) only [fwc, fwe, cmd_seq, opsW_gpure, drawW_pure, drawW_gpure, Env.upd_apply, Heap.upd_same, Heap.upd_apply, ite_none, List.getD_cons_zero, List.getD_cons_succ, List.getD_nil, List.length_cons, List.length_nil, List.map_cons, List.map_nil, List.getElem?_cons_zero, List.getElem?_cons_succ, List.getElem?_nil, List.set_cons_zero, List.set_cons_succ, List.take_succ_cons, List.take_zero, List.drop_succ_cons, List.drop_zero, List.nil_append, List.cons_append, List.append_nil, Option.map_some, Option.map_none, Option.bind_some, Option.bind_none, reduceIte, ↓reduceIte, decide_true, decide_false, Bool.true_and, Bool.and_true, Bool.false_and, Bool.and_false, true_and, and_true, and_self, Nat.reduceAdd, Nat.reduceLeDiff, Nat.reduceEqDiff, Nat.zero_add, Nat.add_zero, Nat.le_refl, Nat.zero_le, ge_iff_le, Nat.reduceLT, Nat.zero_lt_succ, Nat.reduceSub, if_true, if_false, forall_const, reduceCtorEq, Bool.not_true, Bool.not_false, Bool.false_eq_true, Int.reduceEq, Int.reduceLT, Int.reduceLE, Int.reduceNeg, Int.reduceToNat, Int.reduceAdd, Int.reduceSub, Nat.reduceMul, Nat.reduceEqDiff, gW_un, gcF_un, gcA_un, *]
    | (refine seqK_now ?_)
    | (refine retK_now ?_)
    | (refine retK_now' ?_)
    | (intro q hq)
    | (refine cond_intro (fun hc => ?_) (fun hc => ?_)))
          refine WeakR.pure (by repeat (first | exact Heap.sub_refl _ | refine sub_upd (by simp only [*]) ?_)) ?_
          rfl
end Go.Proofs.Ytkagdnkbghnckaa

namespace Go.Proofs.Ytkagdnkbghnckaa
open Go.Ab Go.ChangeShapes Go.WideShapes Go.ChangeAt Go.RowKit

def layYarn : Lay := .bool (.int .i64 (.int .i64 (.bool layR)))
def layId : Lay := .int .u8 (.int .i64 .nil)
theorem YarnsCheck_args (vs : List AV) (h : ArgsOK [(true, layYarn), (true, layId)] vs) : PureA Try.prog 8 vs (.val (.bool true)) := by
  obtain ⟨a, vs', es, rfl, rfl, ⟨b, es, rfl, p, es, rfl, wp, c, es, rfl, wc, n, es, rfl, hR⟩, a2, vs', es2, rfl, rfl, ⟨y, es2, rfl, wy, m, es2, rfl, wm, rfl⟩, rfl⟩ := h
  obtain ⟨s, l, es', rfl, hs, hl, hx, rfl⟩ := hR
  obtain ⟨R, hR, hR'⟩ := open_R (s := s) ⟨s, l, [], rfl, hs, hl, hx, rfl⟩
  exact YarnsCheck_ok b p c n s R hR (fun p hp => (hR' p hp).2.2.1) y m
set_option maxRecDepth 100000 in
theorem YarnsCheck_lifted (os : Os) (started : os.Started) (H : Type) (enc : TypeId × Value → H) :
    ReturnsInHanded {} Try.checked os 8 .any (Rows.yarnsCheckSpec.pre6 enc Try.prog Try.f8 Rows.yarnsCheckRow.domain false) (Rows.yarnsCheckSpec.post enc Try.prog Try.f8 false true false false) := by
  refine returnsInHanded_of_change (C := Try.checked) own started (by kernel_rfl) Try.func8
    (ChangeSpec.witness6 (enc := enc) (C := Try.checked) false ⟨#[], #[.agg #[.bool false, .int .i64 0, .int .i64 0, .bool false, .slice none 0 0], .agg #[.int .u8 0, .int .i64 0]], []⟩ 8 (by kernel_rfl) (by kernel_rfl) (by kernel_rfl) (by kernel_rfl)) ?_
  intro W base args ds gs before hval hW _ _
  exact law_calls (lays := [(true, layYarn), (true, layId)]) laid (of_decide_eq_true (by kernel_rfl)) (by kernel_rfl) (by kernel_rfl) rfl (fun ds hds => by
    match ds, hds with
    | [d1, d2], _ => rfl) YarnsCheck_args W base args ds gs before hval hW

theorem YarnsCheck_holds : Rows.YarnsCheckSaid :=
  OpenClaim.holds_of_wide 8 Try.f8 rfl rfl rfl rfl rfl rfl rfl ⟨rfl, rfl, rfl, rfl, rfl⟩ rfl rfl rfl rfl rfl (by kernel_rfl) Try.func8 (by kernel_rfl)
    (of_decide_eq_true (by kernel_rfl)) (by unfold Func.isWrapper; first | (rw [if_pos (by decide +kernel)]; kernel_rfl) | (rw [if_neg (by decide +kernel)]; exact ⟨rfl, rfl⟩))
    (fun os started H enc _ => YarnsCheck_lifted os started H enc)

end Go.Proofs.Ytkagdnkbghnckaa
