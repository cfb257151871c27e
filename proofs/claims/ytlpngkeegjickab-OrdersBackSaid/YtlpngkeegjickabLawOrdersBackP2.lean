/- The law OrdersBack of the given program: for every input the call returns true, and its arguments read as before. Here: contracts of functions, and the law. -/
import Derived.Test.YtlpngkeegjickabLawOrdersBackP1
import Derived.Test.YtlpngkeegjickabFc
import Derived.Test.YtlpngkeegjickabRows
set_option linter.unusedSimpArgs false
set_option linter.unusedVariables false
namespace Go.Proofs.Ytlpngkeegjickab
open Go.Ab
attribute [local irreducible] WeakR WeakE CallA YieldA

def spotL (n : Ndl) (r : Int) : Int := if n.bed = 1 then 4 * (n.at_ + r) else 4 * n.at_ + 2
def rackOK (r : Int) : Bool := decide (-4 ≤ r) && decide (r ≤ 4)
theorem racked_ok (r : Int) : PureA Try.prog 43 [.val (.int .i64 r)] (.val (.bool (rackOK r))) := by
  intro O
  refine k43.call mix ?_
  unfold c43
  (repeat' first
    | simp (contextual := true) (maxSteps := 4000000) only [fwc, fwe, cmd_seq, opsW_gpure, drawW_pure, drawW_gpure, Env.upd_apply, Heap.upd_same, Heap.upd_apply, ite_none, List.getD_cons_zero, List.getD_cons_succ, List.getD_nil, List.length_cons, List.length_nil, List.map_cons, List.map_nil, List.getElem?_cons_zero, List.getElem?_cons_succ, List.getElem?_nil, List.set_cons_zero, List.set_cons_succ, List.take_succ_cons, List.take_zero, List.drop_succ_cons, List.drop_zero, List.nil_append, List.cons_append, List.append_nil, Option.map_some, Option.map_none, Option.bind_some, Option.bind_none, reduceIte, ↓reduceIte, decide_true, decide_false, Bool.true_and, Bool.and_true, Bool.false_and, Bool.and_false, true_and, and_true, and_self, Nat.reduceAdd, Nat.reduceLeDiff, Nat.reduceEqDiff, Nat.zero_add, Nat.add_zero, Nat.le_refl, Nat.zero_le, ge_iff_le, Nat.reduceLT, Nat.zero_lt_succ, Nat.reduceSub, if_true, if_false, forall_const, reduceCtorEq, Bool.not_true, Bool.not_false, Bool.false_eq_true, Int.reduceEq, Int.reduceLT, Int.reduceLE, Int.reduceNeg, Int.reduceToNat, Int.reduceAdd, Int.reduceSub, Nat.reduceMul, Nat.reduceEqDiff, gW_un, gcF_un, gcA_un, ci_mkmap, ci_mapset, ci_lookup, ci_maxl, ci_appz, pi_lookup, pi_maxl, pu_lookup, pu_maxl, maxl_nil, maxl_one, maxl_cons, cells_mapr, stor_mapr, callv_yld, mm_max, mm_min, putAll_cons, putAll_nil, asgK_normal, roundK_normal, roundK_ret, roundK_exit, *]
    | (refine seqK_now ?_)
    | (refine retK_now ?_)
    | (refine retK_now' ?_)
    | (intro q hq)
    | (refine cond_intro (fun hc => ?_) (fun hc => ?_)))
  refine WeakR.pure (by repeat (first | exact Heap.sub_refl _ | refine sub_upd (by simp only [*]) ?_)) ?_
  unfold rackOK
  simp
theorem spot_ok (n : Ndl) (r : Int) (h1 : -1000 ≤ n.at_) (h2 : n.at_ ≤ 1000) (h3 : -1000 ≤ r) (h4 : r ≤ 1000) : PureA Try.prog 44 [n.av, .val (.int .i64 r)] (.val (.int .i64 (spotL n r))) := by
  intro O
  have w1 : IntKind.i64.wrap (n.at_ + r) = n.at_ + r := wrap_i64 (by omega) (by omega)
  have w2 : IntKind.i64.wrap (4 * (n.at_ + r)) = 4 * (n.at_ + r) := wrap_i64 (by omega) (by omega)
  have w3 : IntKind.i64.wrap (4 * n.at_) = 4 * n.at_ := wrap_i64 (by omega) (by omega)
  have w4 : IntKind.i64.wrap (4 * n.at_ + 2) = 4 * n.at_ + 2 := wrap_i64 (by omega) (by omega)
  rw [show n.av = .agg [.val (.int .u8 n.bed), .val (.int .i64 n.at_)] from rfl]
  unfold spotL
  by_cases hb : n.bed = 1
  · have d : decide (n.bed = 1) = true := decide_eq_true hb
    rw [if_pos hb]
    clear h1 h2 h3 h4
    replace hb := (show Aside _ from hb)
    refine k44.call mix ?_
    unfold c44
    (repeat' first
    | simp (contextual := true) (maxSteps := 4000000) only [fwc, fwe, cmd_seq, opsW_gpure, drawW_pure, drawW_gpure, Env.upd_apply, Heap.upd_same, Heap.upd_apply, ite_none, List.getD_cons_zero, List.getD_cons_succ, List.getD_nil, List.length_cons, List.length_nil, List.map_cons, List.map_nil, List.getElem?_cons_zero, List.getElem?_cons_succ, List.getElem?_nil, List.set_cons_zero, List.set_cons_succ, List.take_succ_cons, List.take_zero, List.drop_succ_cons, List.drop_zero, List.nil_append, List.cons_append, List.append_nil, Option.map_some, Option.map_none, Option.bind_some, Option.bind_none, reduceIte, ↓reduceIte, decide_true, decide_false, Bool.true_and, Bool.and_true, Bool.false_and, Bool.and_false, true_and, and_true, and_self, Nat.reduceAdd, Nat.reduceLeDiff, Nat.reduceEqDiff, Nat.zero_add, Nat.add_zero, Nat.le_refl, Nat.zero_le, ge_iff_le, Nat.reduceLT, Nat.zero_lt_succ, Nat.reduceSub, if_true, if_false, forall_const, reduceCtorEq, Bool.not_true, Bool.not_false, Bool.false_eq_true, Int.reduceEq, Int.reduceLT, Int.reduceLE, Int.reduceNeg, Int.reduceToNat, Int.reduceAdd, Int.reduceSub, Nat.reduceMul, Nat.reduceEqDiff, gW_un, gcF_un, gcA_un, ci_mkmap, ci_mapset, ci_lookup, ci_maxl, ci_appz, pi_lookup, pi_maxl, pu_lookup, pu_maxl, maxl_nil, maxl_one, maxl_cons, cells_mapr, stor_mapr, callv_yld, mm_max, mm_min, putAll_cons, putAll_nil, asgK_normal, roundK_normal, roundK_ret, roundK_exit, part_cell, part_agg, *]
    | (refine seqK_now ?_)
    | (refine retK_now ?_)
    | (refine retK_now' ?_)
    | (intro q hq)
    | (refine cond_intro (fun hc => ?_) (fun hc => ?_)))
    refine WeakR.pure (by repeat (first | exact Heap.sub_refl _ | refine sub_upd (by simp only [*]) ?_)) ?_
    rfl
  · have d : decide (n.bed = 1) = false := decide_eq_false hb
    rw [if_neg hb]
    clear h1 h2 h3 h4
    replace hb := (show Aside _ from hb)
    refine k44.call mix ?_
    unfold c44
    (repeat' first
    | simp (contextual := true) (maxSteps := 4000000) only [fwc, fwe, cmd_seq, opsW_gpure, drawW_pure, drawW_gpure, Env.upd_apply, Heap.upd_same, Heap.upd_apply, ite_none, List.getD_cons_zero, List.getD_cons_succ, List.getD_nil, List.length_cons, List.length_nil, List.map_cons, List.map_nil, List.getElem?_cons_zero, List.getElem?_cons_succ, List.getElem?_nil, List.set_cons_zero, List.set_cons_succ, List.take_succ_cons, List.take_zero, List.drop_succ_cons, List.drop_zero, List.nil_append, List.cons_append, List.append_nil, Option.map_some, Option.map_none, Option.bind_some, Option.bind_none, reduceIte, ↓reduceIte, decide_true, decide_false, Bool.true_and, Bool.and_true, Bool.false_and, Bool.and_false, true_and, and_true, and_self, Nat.reduceAdd, Nat.reduceLeDiff, Nat.reduceEqDiff, Nat.zero_add, Nat.add_zero, Nat.le_refl, Nat.zero_le, ge_iff_le, Nat.reduceLT, Nat.zero_lt_succ, Nat.reduceSub, if_true, if_false, forall_const, reduceCtorEq, Bool.not_true, Bool.not_false, Bool.false_eq_true, Int.reduceEq, Int.reduceLT, Int.reduceLE, Int.reduceNeg, Int.reduceToNat, Int.reduceAdd, Int.reduceSub, Nat.reduceMul, Nat.reduceEqDiff, gW_un, gcF_un, gcA_un, ci_mkmap, ci_mapset, ci_lookup, ci_maxl, ci_appz, pi_lookup, pi_maxl, pu_lookup, pu_maxl, maxl_nil, maxl_one, maxl_cons, cells_mapr, stor_mapr, callv_yld, mm_max, mm_min, putAll_cons, putAll_nil, asgK_normal, roundK_normal, roundK_ret, roundK_exit, part_cell, part_agg, *]
    | (refine seqK_now ?_)
    | (refine retK_now ?_)
    | (refine retK_now' ?_)
    | (intro q hq)
    | (refine cond_intro (fun hc => ?_) (fun hc => ?_)))
    refine WeakR.pure (by repeat (first | exact Heap.sub_refl _ | refine sub_upd (by simp only [*]) ?_)) ?_
    rfl
theorem Spot_ok (n : Ndl) (r : Int) : PureA Try.prog 22 [n.av, .val (.int .i64 r)] (.val (.int .i64 (if n.bad = true ∨ rackOK r = false then 0 else spotL n r))) := by
  intro O
  have hc := NdlCheck_ok n
  have hr := racked_ok r
  rw [show n.av = .agg [.val (.int .u8 n.bed), .val (.int .i64 n.at_)] from rfl] at hc ⊢
  refine k22.call mix ?_
  unfold c22
  cases hb : n.bad with
  | true =>
    rw [hb] at hc
    rw [if_pos (.inl rfl)]
    have d : decide ((1 : Int) = 0) = false := by decide
    rw [if_pos rfl] at hc
    (repeat' first
    | simp (contextual := true) (maxSteps := 4000000) only [fwc, fwe, cmd_seq, opsW_gpure, drawW_pure, drawW_gpure, Env.upd_apply, Heap.upd_same, Heap.upd_apply, ite_none, List.getD_cons_zero, List.getD_cons_succ, List.getD_nil, List.length_cons, List.length_nil, List.map_cons, List.map_nil, List.getElem?_cons_zero, List.getElem?_cons_succ, List.getElem?_nil, List.set_cons_zero, List.set_cons_succ, List.take_succ_cons, List.take_zero, List.drop_succ_cons, List.drop_zero, List.nil_append, List.cons_append, List.append_nil, Option.map_some, Option.map_none, Option.bind_some, Option.bind_none, reduceIte, ↓reduceIte, decide_true, decide_false, Bool.true_and, Bool.and_true, Bool.false_and, Bool.and_false, true_and, and_true, and_self, Nat.reduceAdd, Nat.reduceLeDiff, Nat.reduceEqDiff, Nat.zero_add, Nat.add_zero, Nat.le_refl, Nat.zero_le, ge_iff_le, Nat.reduceLT, Nat.zero_lt_succ, Nat.reduceSub, if_true, if_false, forall_const, reduceCtorEq, Bool.not_true, Bool.not_false, Bool.false_eq_true, Int.reduceEq, Int.reduceLT, Int.reduceLE, Int.reduceNeg, Int.reduceToNat, Int.reduceAdd, Int.reduceSub, Nat.reduceMul, Nat.reduceEqDiff, gW_un, gcF_un, gcA_un, ci_mkmap, ci_mapset, ci_lookup, ci_maxl, ci_appz, pi_lookup, pi_maxl, pu_lookup, pu_maxl, maxl_nil, maxl_one, maxl_cons, cells_mapr, stor_mapr, callv_yld, mm_max, mm_min, putAll_cons, putAll_nil, asgK_normal, roundK_normal, roundK_ret, roundK_exit, part_cell, part_agg, *]
    | (refine seqK_now ?_)
    | (refine retK_now ?_)
    | (refine retK_now' ?_)
    | (intro q hq)
    | (refine cond_intro (fun hc => ?_) (fun hc => ?_)))
    refine hc.use ?_
    (repeat' first
    | simp (contextual := true) (maxSteps := 4000000) only [fwc, fwe, cmd_seq, opsW_gpure, drawW_pure, drawW_gpure, Env.upd_apply, Heap.upd_same, Heap.upd_apply, ite_none, List.getD_cons_zero, List.getD_cons_succ, List.getD_nil, List.length_cons, List.length_nil, List.map_cons, List.map_nil, List.getElem?_cons_zero, List.getElem?_cons_succ, List.getElem?_nil, List.set_cons_zero, List.set_cons_succ, List.take_succ_cons, List.take_zero, List.drop_succ_cons, List.drop_zero, List.nil_append, List.cons_append, List.append_nil, Option.map_some, Option.map_none, Option.bind_some, Option.bind_none, reduceIte, ↓reduceIte, decide_true, decide_false, Bool.true_and, Bool.and_true, Bool.false_and, Bool.and_false, true_and, and_true, and_self, Nat.reduceAdd, Nat.reduceLeDiff, Nat.reduceEqDiff, Nat.zero_add, Nat.add_zero, Nat.le_refl, Nat.zero_le, ge_iff_le, Nat.reduceLT, Nat.zero_lt_succ, Nat.reduceSub, if_true, if_false, forall_const, reduceCtorEq, Bool.not_true, Bool.not_false, Bool.false_eq_true, Int.reduceEq, Int.reduceLT, Int.reduceLE, Int.reduceNeg, Int.reduceToNat, Int.reduceAdd, Int.reduceSub, Nat.reduceMul, Nat.reduceEqDiff, gW_un, gcF_un, gcA_un, ci_mkmap, ci_mapset, ci_lookup, ci_maxl, ci_appz, pi_lookup, pi_maxl, pu_lookup, pu_maxl, maxl_nil, maxl_one, maxl_cons, cells_mapr, stor_mapr, callv_yld, mm_max, mm_min, putAll_cons, putAll_nil, asgK_normal, roundK_normal, roundK_ret, roundK_exit, part_cell, part_agg, *]
    | (refine seqK_now ?_)
    | (refine retK_now ?_)
    | (refine retK_now' ?_)
    | (intro q hq)
    | (refine cond_intro (fun hc => ?_) (fun hc => ?_)))
    refine WeakR.pure (by repeat (first | exact Heap.sub_refl _ | refine sub_upd (by simp only [*]) ?_)) ?_
    rfl
  | false =>
    rw [hb] at hc
    rw [if_neg (by simp)] at hc
    have d : decide ((0 : Int) = 0) = true := by decide
    cases hk : rackOK r with
    | false =>
      rw [hk] at hr
      rw [if_pos (.inr rfl)]
      (repeat' first
    | simp (contextual := true) (maxSteps := 4000000) only [fwc, fwe, cmd_seq, opsW_gpure, drawW_pure, drawW_gpure, Env.upd_apply, Heap.upd_same, Heap.upd_apply, ite_none, List.getD_cons_zero, List.getD_cons_succ, List.getD_nil, List.length_cons, List.length_nil, List.map_cons, List.map_nil, List.getElem?_cons_zero, List.getElem?_cons_succ, List.getElem?_nil, List.set_cons_zero, List.set_cons_succ, List.take_succ_cons, List.take_zero, List.drop_succ_cons, List.drop_zero, List.nil_append, List.cons_append, List.append_nil, Option.map_some, Option.map_none, Option.bind_some, Option.bind_none, reduceIte, ↓reduceIte, decide_true, decide_false, Bool.true_and, Bool.and_true, Bool.false_and, Bool.and_false, true_and, and_true, and_self, Nat.reduceAdd, Nat.reduceLeDiff, Nat.reduceEqDiff, Nat.zero_add, Nat.add_zero, Nat.le_refl, Nat.zero_le, ge_iff_le, Nat.reduceLT, Nat.zero_lt_succ, Nat.reduceSub, if_true, if_false, forall_const, reduceCtorEq, Bool.not_true, Bool.not_false, Bool.false_eq_true, Int.reduceEq, Int.reduceLT, Int.reduceLE, Int.reduceNeg, Int.reduceToNat, Int.reduceAdd, Int.reduceSub, Nat.reduceMul, Nat.reduceEqDiff, gW_un, gcF_un, gcA_un, ci_mkmap, ci_mapset, ci_lookup, ci_maxl, ci_appz, pi_lookup, pi_maxl, pu_lookup, pu_maxl, maxl_nil, maxl_one, maxl_cons, cells_mapr, stor_mapr, callv_yld, mm_max, mm_min, putAll_cons, putAll_nil, asgK_normal, roundK_normal, roundK_ret, roundK_exit, part_cell, part_agg, *]
    | (refine seqK_now ?_)
    | (refine retK_now ?_)
    | (refine retK_now' ?_)
    | (intro q hq)
    | (refine cond_intro (fun hc => ?_) (fun hc => ?_)))
      refine hc.use ?_
      (repeat' first
    | simp (contextual := true) (maxSteps := 4000000) only [fwc, fwe, cmd_seq, opsW_gpure, drawW_pure, drawW_gpure, Env.upd_apply, Heap.upd_same, Heap.upd_apply, ite_none, List.getD_cons_zero, List.getD_cons_succ, List.getD_nil, List.length_cons, List.length_nil, List.map_cons, List.map_nil, List.getElem?_cons_zero, List.getElem?_cons_succ, List.getElem?_nil, List.set_cons_zero, List.set_cons_succ, List.take_succ_cons, List.take_zero, List.drop_succ_cons, List.drop_zero, List.nil_append, List.cons_append, List.append_nil, Option.map_some, Option.map_none, Option.bind_some, Option.bind_none, reduceIte, ↓reduceIte, decide_true, decide_false, Bool.true_and, Bool.and_true, Bool.false_and, Bool.and_false, true_and, and_true, and_self, Nat.reduceAdd, Nat.reduceLeDiff, Nat.reduceEqDiff, Nat.zero_add, Nat.add_zero, Nat.le_refl, Nat.zero_le, ge_iff_le, Nat.reduceLT, Nat.zero_lt_succ, Nat.reduceSub, if_true, if_false, forall_const, reduceCtorEq, Bool.not_true, Bool.not_false, Bool.false_eq_true, Int.reduceEq, Int.reduceLT, Int.reduceLE, Int.reduceNeg, Int.reduceToNat, Int.reduceAdd, Int.reduceSub, Nat.reduceMul, Nat.reduceEqDiff, gW_un, gcF_un, gcA_un, ci_mkmap, ci_mapset, ci_lookup, ci_maxl, ci_appz, pi_lookup, pi_maxl, pu_lookup, pu_maxl, maxl_nil, maxl_one, maxl_cons, cells_mapr, stor_mapr, callv_yld, mm_max, mm_min, putAll_cons, putAll_nil, asgK_normal, roundK_normal, roundK_ret, roundK_exit, part_cell, part_agg, *]
    | (refine seqK_now ?_)
    | (refine retK_now ?_)
    | (refine retK_now' ?_)
    | (intro q hq)
    | (refine cond_intro (fun hc => ?_) (fun hc => ?_)))
      refine hr.use ?_
      (repeat' first
    | simp (contextual := true) (maxSteps := 4000000) only [fwc, fwe, cmd_seq, opsW_gpure, drawW_pure, drawW_gpure, Env.upd_apply, Heap.upd_same, Heap.upd_apply, ite_none, List.getD_cons_zero, List.getD_cons_succ, List.getD_nil, List.length_cons, List.length_nil, List.map_cons, List.map_nil, List.getElem?_cons_zero, List.getElem?_cons_succ, List.getElem?_nil, List.set_cons_zero, List.set_cons_succ, List.take_succ_cons, List.take_zero, List.drop_succ_cons, List.drop_zero, List.nil_append, List.cons_append, List.append_nil, Option.map_some, Option.map_none, Option.bind_some, Option.bind_none, reduceIte, ↓reduceIte, decide_true, decide_false, Bool.true_and, Bool.and_true, Bool.false_and, Bool.and_false, true_and, and_true, and_self, Nat.reduceAdd, Nat.reduceLeDiff, Nat.reduceEqDiff, Nat.zero_add, Nat.add_zero, Nat.le_refl, Nat.zero_le, ge_iff_le, Nat.reduceLT, Nat.zero_lt_succ, Nat.reduceSub, if_true, if_false, forall_const, reduceCtorEq, Bool.not_true, Bool.not_false, Bool.false_eq_true, Int.reduceEq, Int.reduceLT, Int.reduceLE, Int.reduceNeg, Int.reduceToNat, Int.reduceAdd, Int.reduceSub, Nat.reduceMul, Nat.reduceEqDiff, gW_un, gcF_un, gcA_un, ci_mkmap, ci_mapset, ci_lookup, ci_maxl, ci_appz, pi_lookup, pi_maxl, pu_lookup, pu_maxl, maxl_nil, maxl_one, maxl_cons, cells_mapr, stor_mapr, callv_yld, mm_max, mm_min, putAll_cons, putAll_nil, asgK_normal, roundK_normal, roundK_ret, roundK_exit, part_cell, part_agg, *]
    | (refine seqK_now ?_)
    | (refine retK_now ?_)
    | (refine retK_now' ?_)
    | (intro q hq)
    | (refine cond_intro (fun hc => ?_) (fun hc => ?_)))
      refine WeakR.pure (by repeat (first | exact Heap.sub_refl _ | refine sub_upd (by simp only [*]) ?_)) ?_
      rfl
    | true =>
      rw [hk] at hr
      rw [if_neg (by simp)]
      have hs := spot_ok n r (by unfold Ndl.bad at hb; simp at hb; omega) (by unfold Ndl.bad at hb; simp at hb; omega) (by unfold rackOK at hk; simp at hk; omega) (by unfold rackOK at hk; simp at hk; omega)
      rw [show n.av = .agg [.val (.int .u8 n.bed), .val (.int .i64 n.at_)] from rfl] at hs
      (repeat' first
    | simp (contextual := true) (maxSteps := 4000000) only [fwc, fwe, cmd_seq, opsW_gpure, drawW_pure, drawW_gpure, Env.upd_apply, Heap.upd_same, Heap.upd_apply, ite_none, List.getD_cons_zero, List.getD_cons_succ, List.getD_nil, List.length_cons, List.length_nil, List.map_cons, List.map_nil, List.getElem?_cons_zero, List.getElem?_cons_succ, List.getElem?_nil, List.set_cons_zero, List.set_cons_succ, List.take_succ_cons, List.take_zero, List.drop_succ_cons, List.drop_zero, List.nil_append, List.cons_append, List.append_nil, Option.map_some, Option.map_none, Option.bind_some, Option.bind_none, reduceIte, ↓reduceIte, decide_true, decide_false, Bool.true_and, Bool.and_true, Bool.false_and, Bool.and_false, true_and, and_true, and_self, Nat.reduceAdd, Nat.reduceLeDiff, Nat.reduceEqDiff, Nat.zero_add, Nat.add_zero, Nat.le_refl, Nat.zero_le, ge_iff_le, Nat.reduceLT, Nat.zero_lt_succ, Nat.reduceSub, if_true, if_false, forall_const, reduceCtorEq, Bool.not_true, Bool.not_false, Bool.false_eq_true, Int.reduceEq, Int.reduceLT, Int.reduceLE, Int.reduceNeg, Int.reduceToNat, Int.reduceAdd, Int.reduceSub, Nat.reduceMul, Nat.reduceEqDiff, gW_un, gcF_un, gcA_un, ci_mkmap, ci_mapset, ci_lookup, ci_maxl, ci_appz, pi_lookup, pi_maxl, pu_lookup, pu_maxl, maxl_nil, maxl_one, maxl_cons, cells_mapr, stor_mapr, callv_yld, mm_max, mm_min, putAll_cons, putAll_nil, asgK_normal, roundK_normal, roundK_ret, roundK_exit, part_cell, part_agg, *]
    | (refine seqK_now ?_)
    | (refine retK_now ?_)
    | (refine retK_now' ?_)
    | (intro q hq)
    | (refine cond_intro (fun hc => ?_) (fun hc => ?_)))
      refine hc.use ?_
      (repeat' first
    | simp (contextual := true) (maxSteps := 4000000) only [fwc, fwe, cmd_seq, opsW_gpure, drawW_pure, drawW_gpure, Env.upd_apply, Heap.upd_same, Heap.upd_apply, ite_none, List.getD_cons_zero, List.getD_cons_succ, List.getD_nil, List.length_cons, List.length_nil, List.map_cons, List.map_nil, List.getElem?_cons_zero, List.getElem?_cons_succ, List.getElem?_nil, List.set_cons_zero, List.set_cons_succ, List.take_succ_cons, List.take_zero, List.drop_succ_cons, List.drop_zero, List.nil_append, List.cons_append, List.append_nil, Option.map_some, Option.map_none, Option.bind_some, Option.bind_none, reduceIte, ↓reduceIte, decide_true, decide_false, Bool.true_and, Bool.and_true, Bool.false_and, Bool.and_false, true_and, and_true, and_self, Nat.reduceAdd, Nat.reduceLeDiff, Nat.reduceEqDiff, Nat.zero_add, Nat.add_zero, Nat.le_refl, Nat.zero_le, ge_iff_le, Nat.reduceLT, Nat.zero_lt_succ, Nat.reduceSub, if_true, if_false, forall_const, reduceCtorEq, Bool.not_true, Bool.not_false, Bool.false_eq_true, Int.reduceEq, Int.reduceLT, Int.reduceLE, Int.reduceNeg, Int.reduceToNat, Int.reduceAdd, Int.reduceSub, Nat.reduceMul, Nat.reduceEqDiff, gW_un, gcF_un, gcA_un, ci_mkmap, ci_mapset, ci_lookup, ci_maxl, ci_appz, pi_lookup, pi_maxl, pu_lookup, pu_maxl, maxl_nil, maxl_one, maxl_cons, cells_mapr, stor_mapr, callv_yld, mm_max, mm_min, putAll_cons, putAll_nil, asgK_normal, roundK_normal, roundK_ret, roundK_exit, part_cell, part_agg, *]
    | (refine seqK_now ?_)
    | (refine retK_now ?_)
    | (refine retK_now' ?_)
    | (intro q hq)
    | (refine cond_intro (fun hc => ?_) (fun hc => ?_)))
      refine hr.use ?_
      (repeat' first
    | simp (contextual := true) (maxSteps := 4000000) only [fwc, fwe, cmd_seq, opsW_gpure, drawW_pure, drawW_gpure, Env.upd_apply, Heap.upd_same, Heap.upd_apply, ite_none, List.getD_cons_zero, List.getD_cons_succ, List.getD_nil, List.length_cons, List.length_nil, List.map_cons, List.map_nil, List.getElem?_cons_zero, List.getElem?_cons_succ, List.getElem?_nil, List.set_cons_zero, List.set_cons_succ, List.take_succ_cons, List.take_zero, List.drop_succ_cons, List.drop_zero, List.nil_append, List.cons_append, List.append_nil, Option.map_some, Option.map_none, Option.bind_some, Option.bind_none, reduceIte, ↓reduceIte, decide_true, decide_false, Bool.true_and, Bool.and_true, Bool.false_and, Bool.and_false, true_and, and_true, and_self, Nat.reduceAdd, Nat.reduceLeDiff, Nat.reduceEqDiff, Nat.zero_add, Nat.add_zero, Nat.le_refl, Nat.zero_le, ge_iff_le, Nat.reduceLT, Nat.zero_lt_succ, Nat.reduceSub, if_true, if_false, forall_const, reduceCtorEq, Bool.not_true, Bool.not_false, Bool.false_eq_true, Int.reduceEq, Int.reduceLT, Int.reduceLE, Int.reduceNeg, Int.reduceToNat, Int.reduceAdd, Int.reduceSub, Nat.reduceMul, Nat.reduceEqDiff, gW_un, gcF_un, gcA_un, ci_mkmap, ci_mapset, ci_lookup, ci_maxl, ci_appz, pi_lookup, pi_maxl, pu_lookup, pu_maxl, maxl_nil, maxl_one, maxl_cons, cells_mapr, stor_mapr, callv_yld, mm_max, mm_min, putAll_cons, putAll_nil, asgK_normal, roundK_normal, roundK_ret, roundK_exit, part_cell, part_agg, *]
    | (refine seqK_now ?_)
    | (refine retK_now ?_)
    | (refine retK_now' ?_)
    | (intro q hq)
    | (refine cond_intro (fun hc => ?_) (fun hc => ?_)))
      refine hs.use ?_
      (repeat' first
    | simp (contextual := true) (maxSteps := 4000000) only [fwc, fwe, cmd_seq, opsW_gpure, drawW_pure, drawW_gpure, Env.upd_apply, Heap.upd_same, Heap.upd_apply, ite_none, List.getD_cons_zero, List.getD_cons_succ, List.getD_nil, List.length_cons, List.length_nil, List.map_cons, List.map_nil, List.getElem?_cons_zero, List.getElem?_cons_succ, List.getElem?_nil, List.set_cons_zero, List.set_cons_succ, List.take_succ_cons, List.take_zero, List.drop_succ_cons, List.drop_zero, List.nil_append, List.cons_append, List.append_nil, Option.map_some, Option.map_none, Option.bind_some, Option.bind_none, reduceIte, ↓reduceIte, decide_true, decide_false, Bool.true_and, Bool.and_true, Bool.false_and, Bool.and_false, true_and, and_true, and_self, Nat.reduceAdd, Nat.reduceLeDiff, Nat.reduceEqDiff, Nat.zero_add, Nat.add_zero, Nat.le_refl, Nat.zero_le, ge_iff_le, Nat.reduceLT, Nat.zero_lt_succ, Nat.reduceSub, if_true, if_false, forall_const, reduceCtorEq, Bool.not_true, Bool.not_false, Bool.false_eq_true, Int.reduceEq, Int.reduceLT, Int.reduceLE, Int.reduceNeg, Int.reduceToNat, Int.reduceAdd, Int.reduceSub, Nat.reduceMul, Nat.reduceEqDiff, gW_un, gcF_un, gcA_un, ci_mkmap, ci_mapset, ci_lookup, ci_maxl, ci_appz, pi_lookup, pi_maxl, pu_lookup, pu_maxl, maxl_nil, maxl_one, maxl_cons, cells_mapr, stor_mapr, callv_yld, mm_max, mm_min, putAll_cons, putAll_nil, asgK_normal, roundK_normal, roundK_ret, roundK_exit, part_cell, part_agg, *]
    | (refine seqK_now ?_)
    | (refine retK_now ?_)
    | (refine retK_now' ?_)
    | (intro q hq)
    | (refine cond_intro (fun hc => ?_) (fun hc => ?_)))
      refine WeakR.pure (by repeat (first | exact Heap.sub_refl _ | refine sub_upd (by simp only [*]) ?_)) ?_
      rfl

/-- The needle at a spot. -/
def atSpot (a r : Int) : Option Nat := (List.range 80).find? fun i => decide (spotL (needleL i) r = a)
def atN (a r : Int) : Ndl := if rackOK r = true then (match atSpot a r with | some i => needleL i | none => ⟨0, 0⟩) else ⟨0, 0⟩
def atE (a r : Int) : Int := if rackOK r = true then (match atSpot a r with | some _ => 0 | none => 7) else 11
def env62 (a r : Int) (q4 q6 j : Nat) : Env := ((((((Env.upd (fun _ => .junk) 16 (.val (.int .i64 j))).upd 15 (.val (.int .i64 2))).upd 14 (.list 1 true [.val (.int .u8 0), .val (.int .u8 1)])).upd 6 (.optr q6 2 0 0)).upd 4 (.optr q4 2 0 0)).upd 1 (.val (.int .i64 r))).upd 0 (.val (.int .i64 a))
def env62b (a r : Int) (q4 q6 j i : Nat) : Env := ((((((((Env.upd (fun _ => .junk) 20 (.val (.int .i64 i))).upd 16 (.val (.int .i64 j))).upd 15 (.val (.int .i64 2))).upd 14 (.list 1 true [.val (.int .u8 0), .val (.int .u8 1)])).upd 8 (.val (.int .u8 j))).upd 6 (.optr q6 2 0 0)).upd 4 (.optr q4 2 0 0)).upd 1 (.val (.int .i64 r))).upd 0 (.val (.int .i64 a))
theorem at_none {a r : Int} (h : ∀ i, i < 80 → spotL (needleL i) r ≠ a) : atSpot a r = none := by
  unfold atSpot
  rw [List.find?_eq_none]
  intro i hi
  simpa using h i (List.mem_range.1 hi)
theorem at_some {a r : Int} {i : Nat} (hi : i < 80) (h : ∀ j, j < i → spotL (needleL j) r ≠ a) (he : spotL (needleL i) r = a) : atSpot a r = some i := by
  unfold atSpot
  rw [List.find?_range_eq_some]
  exact ⟨by simpa using he, List.mem_range.2 hi, fun j hj => by simpa using h j hj⟩
theorem needle_lo {i : Nat} (h : i < 40) : needleL (40 * 0 + i) = ⟨0, ((i + 1 : Nat) : Int)⟩ := by
  unfold needleL
  congr 1 <;> omega
theorem needle_hi {i : Nat} (h : i < 40) : needleL (40 * 1 + i) = ⟨1, ((i + 1 : Nat) : Int)⟩ := by
  unfold needleL
  congr 1 <;> omega
set_option maxHeartbeats 4000000 in
theorem NAt_ok (a r : Int) : PureA Try.prog 21 [.val (.int .i64 a), .val (.int .i64 r)] (.tup [(atN a r).av, .val (.int .i64 (atE a r))]) := by
  intro O
  have hr := racked_ok r
  refine k21.call mix ?_
  unfold c21
  refine seq_go ?_
  (repeat' first
    | simp (contextual := true) (maxSteps := 4000000) only [fwc, fwe, opsW_gpure, drawW_pure, drawW_gpure, Env.upd_apply, Heap.upd_same, Heap.upd_apply, ite_none, List.getD_cons_zero, List.getD_cons_succ, List.getD_nil, List.length_cons, List.length_nil, List.map_cons, List.map_nil, List.getElem?_cons_zero, List.getElem?_cons_succ, List.getElem?_nil, List.set_cons_zero, List.set_cons_succ, List.take_succ_cons, List.take_zero, List.drop_succ_cons, List.drop_zero, List.nil_append, List.cons_append, List.append_nil, Option.map_some, Option.map_none, Option.bind_some, Option.bind_none, reduceIte, ↓reduceIte, decide_true, decide_false, Bool.true_and, Bool.and_true, Bool.false_and, Bool.and_false, true_and, and_true, and_self, Nat.reduceAdd, Nat.reduceLeDiff, Nat.reduceEqDiff, Nat.zero_add, Nat.add_zero, Nat.le_refl, Nat.zero_le, ge_iff_le, Nat.reduceLT, Nat.zero_lt_succ, Nat.reduceSub, if_true, if_false, forall_const, reduceCtorEq, Bool.not_true, Bool.not_false, Bool.false_eq_true, Int.reduceEq, Int.reduceLT, Int.reduceLE, Int.reduceNeg, Int.reduceToNat, Int.reduceAdd, Int.reduceSub, Nat.reduceMul, Nat.reduceEqDiff, gW_un, gcF_un, gcA_un, ci_mkmap, ci_mapset, ci_lookup, ci_maxl, ci_appz, pi_lookup, pi_maxl, pu_lookup, pu_maxl, maxl_nil, maxl_one, maxl_cons, cells_mapr, stor_mapr, callv_yld, mm_max, mm_min, putAll_cons, putAll_nil, asgK_normal, roundK_normal, roundK_ret, roundK_exit, part_cell, part_agg, *]
    | (refine retK_now ?_)
    | (refine retK_now' ?_)
    | (intro q hq)
    | (refine cond_intro (fun hc => ?_) (fun hc => ?_)))
  revert q
  intro q4 hq4
  refine seqK_now ?_
  refine seq_go ?_
  cases hk : rackOK r with
  | false =>
    rw [hk] at hr
    have e1 : atN a r = ⟨0, 0⟩ := by unfold atN; rw [if_neg (by simp [hk])]
    have e2 : atE a r = 11 := by unfold atE; rw [if_neg (by simp [hk])]
    rw [e1, e2]
    clear e1 e2 hk
    (repeat' first
    | simp (contextual := true) (maxSteps := 4000000) only [fwc, fwe, cmd_seq, opsW_gpure, drawW_pure, drawW_gpure, Env.upd_apply, Heap.upd_same, Heap.upd_apply, ite_none, List.getD_cons_zero, List.getD_cons_succ, List.getD_nil, List.length_cons, List.length_nil, List.map_cons, List.map_nil, List.getElem?_cons_zero, List.getElem?_cons_succ, List.getElem?_nil, List.set_cons_zero, List.set_cons_succ, List.take_succ_cons, List.take_zero, List.drop_succ_cons, List.drop_zero, List.nil_append, List.cons_append, List.append_nil, Option.map_some, Option.map_none, Option.bind_some, Option.bind_none, reduceIte, ↓reduceIte, decide_true, decide_false, Bool.true_and, Bool.and_true, Bool.false_and, Bool.and_false, true_and, and_true, and_self, Nat.reduceAdd, Nat.reduceLeDiff, Nat.reduceEqDiff, Nat.zero_add, Nat.add_zero, Nat.le_refl, Nat.zero_le, ge_iff_le, Nat.reduceLT, Nat.zero_lt_succ, Nat.reduceSub, if_true, if_false, forall_const, reduceCtorEq, Bool.not_true, Bool.not_false, Bool.false_eq_true, Int.reduceEq, Int.reduceLT, Int.reduceLE, Int.reduceNeg, Int.reduceToNat, Int.reduceAdd, Int.reduceSub, Nat.reduceMul, Nat.reduceEqDiff, gW_un, gcF_un, gcA_un, ci_mkmap, ci_mapset, ci_lookup, ci_maxl, ci_appz, pi_lookup, pi_maxl, pu_lookup, pu_maxl, maxl_nil, maxl_one, maxl_cons, cells_mapr, stor_mapr, callv_yld, mm_max, mm_min, putAll_cons, putAll_nil, asgK_normal, roundK_normal, roundK_ret, roundK_exit, part_cell, part_agg, *]
    | (refine seqK_now ?_)
    | (refine retK_now ?_)
    | (refine retK_now' ?_)
    | (intro q hq)
    | (refine cond_intro (fun hc => ?_) (fun hc => ?_)))
    refine hr.use ?_
    (repeat' first
    | simp (contextual := true) (maxSteps := 4000000) only [fwc, fwe, cmd_seq, opsW_gpure, drawW_pure, drawW_gpure, Env.upd_apply, Heap.upd_same, Heap.upd_apply, ite_none, List.getD_cons_zero, List.getD_cons_succ, List.getD_nil, List.length_cons, List.length_nil, List.map_cons, List.map_nil, List.getElem?_cons_zero, List.getElem?_cons_succ, List.getElem?_nil, List.set_cons_zero, List.set_cons_succ, List.take_succ_cons, List.take_zero, List.drop_succ_cons, List.drop_zero, List.nil_append, List.cons_append, List.append_nil, Option.map_some, Option.map_none, Option.bind_some, Option.bind_none, reduceIte, ↓reduceIte, decide_true, decide_false, Bool.true_and, Bool.and_true, Bool.false_and, Bool.and_false, true_and, and_true, and_self, Nat.reduceAdd, Nat.reduceLeDiff, Nat.reduceEqDiff, Nat.zero_add, Nat.add_zero, Nat.le_refl, Nat.zero_le, ge_iff_le, Nat.reduceLT, Nat.zero_lt_succ, Nat.reduceSub, if_true, if_false, forall_const, reduceCtorEq, Bool.not_true, Bool.not_false, Bool.false_eq_true, Int.reduceEq, Int.reduceLT, Int.reduceLE, Int.reduceNeg, Int.reduceToNat, Int.reduceAdd, Int.reduceSub, Nat.reduceMul, Nat.reduceEqDiff, gW_un, gcF_un, gcA_un, ci_mkmap, ci_mapset, ci_lookup, ci_maxl, ci_appz, pi_lookup, pi_maxl, pu_lookup, pu_maxl, maxl_nil, maxl_one, maxl_cons, cells_mapr, stor_mapr, callv_yld, mm_max, mm_min, putAll_cons, putAll_nil, asgK_normal, roundK_normal, roundK_ret, roundK_exit, part_cell, part_agg, *]
    | (refine seqK_now ?_)
    | (refine retK_now ?_)
    | (refine retK_now' ?_)
    | (intro q hq)
    | (refine cond_intro (fun hc => ?_) (fun hc => ?_)))
    refine WeakR.pure (by repeat (first | exact Heap.sub_refl _ | refine sub_upd (by simp only [*]) ?_)) ?_
    rfl
  | true =>
    rw [hk] at hr
    have e1 : atN a r = (match atSpot a r with | some i => needleL i | none => ⟨0, 0⟩) := by unfold atN; rw [if_pos hk]
    have e2 : atE a r = (match atSpot a r with | some _ => 0 | none => 7) := by unfold atE; rw [if_pos hk]
    rw [e1, e2]
    clear e1 e2
    have hrk : -4 ≤ r ∧ r ≤ 4 := by unfold rackOK at hk; simpa using hk
    replace hrk := (show Aside _ from hrk)
    clear hk
    refine seq_go ?_
    (repeat' first
    | simp (contextual := true) (maxSteps := 4000000) only [fwc, fwe, opsW_gpure, drawW_pure, drawW_gpure, Env.upd_apply, Heap.upd_same, Heap.upd_apply, ite_none, List.getD_cons_zero, List.getD_cons_succ, List.getD_nil, List.length_cons, List.length_nil, List.map_cons, List.map_nil, List.getElem?_cons_zero, List.getElem?_cons_succ, List.getElem?_nil, List.set_cons_zero, List.set_cons_succ, List.take_succ_cons, List.take_zero, List.drop_succ_cons, List.drop_zero, List.nil_append, List.cons_append, List.append_nil, Option.map_some, Option.map_none, Option.bind_some, Option.bind_none, reduceIte, ↓reduceIte, decide_true, decide_false, Bool.true_and, Bool.and_true, Bool.false_and, Bool.and_false, true_and, and_true, and_self, Nat.reduceAdd, Nat.reduceLeDiff, Nat.reduceEqDiff, Nat.zero_add, Nat.add_zero, Nat.le_refl, Nat.zero_le, ge_iff_le, Nat.reduceLT, Nat.zero_lt_succ, Nat.reduceSub, if_true, if_false, forall_const, reduceCtorEq, Bool.not_true, Bool.not_false, Bool.false_eq_true, Int.reduceEq, Int.reduceLT, Int.reduceLE, Int.reduceNeg, Int.reduceToNat, Int.reduceAdd, Int.reduceSub, Nat.reduceMul, Nat.reduceEqDiff, gW_un, gcF_un, gcA_un, ci_mkmap, ci_mapset, ci_lookup, ci_maxl, ci_appz, pi_lookup, pi_maxl, pu_lookup, pu_maxl, maxl_nil, maxl_one, maxl_cons, cells_mapr, stor_mapr, callv_yld, mm_max, mm_min, putAll_cons, putAll_nil, asgK_normal, roundK_normal, roundK_ret, roundK_exit, part_cell, part_agg, *]
    | (refine retK_now ?_)
    | (refine retK_now' ?_)
    | (intro q hq)
    | (refine cond_intro (fun hc => ?_) (fun hc => ?_)))
    refine hr.use ?_
    clear hr
    (repeat' first
    | simp (contextual := true) (maxSteps := 4000000) only [fwc, fwe, opsW_gpure, drawW_pure, drawW_gpure, Env.upd_apply, Heap.upd_same, Heap.upd_apply, ite_none, List.getD_cons_zero, List.getD_cons_succ, List.getD_nil, List.length_cons, List.length_nil, List.map_cons, List.map_nil, List.getElem?_cons_zero, List.getElem?_cons_succ, List.getElem?_nil, List.set_cons_zero, List.set_cons_succ, List.take_succ_cons, List.take_zero, List.drop_succ_cons, List.drop_zero, List.nil_append, List.cons_append, List.append_nil, Option.map_some, Option.map_none, Option.bind_some, Option.bind_none, reduceIte, ↓reduceIte, decide_true, decide_false, Bool.true_and, Bool.and_true, Bool.false_and, Bool.and_false, true_and, and_true, and_self, Nat.reduceAdd, Nat.reduceLeDiff, Nat.reduceEqDiff, Nat.zero_add, Nat.add_zero, Nat.le_refl, Nat.zero_le, ge_iff_le, Nat.reduceLT, Nat.zero_lt_succ, Nat.reduceSub, if_true, if_false, forall_const, reduceCtorEq, Bool.not_true, Bool.not_false, Bool.false_eq_true, Int.reduceEq, Int.reduceLT, Int.reduceLE, Int.reduceNeg, Int.reduceToNat, Int.reduceAdd, Int.reduceSub, Nat.reduceMul, Nat.reduceEqDiff, gW_un, gcF_un, gcA_un, ci_mkmap, ci_mapset, ci_lookup, ci_maxl, ci_appz, pi_lookup, pi_maxl, pu_lookup, pu_maxl, maxl_nil, maxl_one, maxl_cons, cells_mapr, stor_mapr, callv_yld, mm_max, mm_min, putAll_cons, putAll_nil, asgK_normal, roundK_normal, roundK_ret, roundK_exit, part_cell, part_agg, *]
    | (refine retK_now ?_)
    | (refine retK_now' ?_)
    | (intro q hq)
    | (refine cond_intro (fun hc => ?_) (fun hc => ?_)))
    refine seqK_now ?_
    (repeat' first
    | simp (contextual := true) (maxSteps := 4000000) only [fwc, fwe, opsW_gpure, drawW_pure, drawW_gpure, Env.upd_apply, Heap.upd_same, Heap.upd_apply, ite_none, List.getD_cons_zero, List.getD_cons_succ, List.getD_nil, List.length_cons, List.length_nil, List.map_cons, List.map_nil, List.getElem?_cons_zero, List.getElem?_cons_succ, List.getElem?_nil, List.set_cons_zero, List.set_cons_succ, List.take_succ_cons, List.take_zero, List.drop_succ_cons, List.drop_zero, List.nil_append, List.cons_append, List.append_nil, Option.map_some, Option.map_none, Option.bind_some, Option.bind_none, reduceIte, ↓reduceIte, decide_true, decide_false, Bool.true_and, Bool.and_true, Bool.false_and, Bool.and_false, true_and, and_true, and_self, Nat.reduceAdd, Nat.reduceLeDiff, Nat.reduceEqDiff, Nat.zero_add, Nat.add_zero, Nat.le_refl, Nat.zero_le, ge_iff_le, Nat.reduceLT, Nat.zero_lt_succ, Nat.reduceSub, if_true, if_false, forall_const, reduceCtorEq, Bool.not_true, Bool.not_false, Bool.false_eq_true, Int.reduceEq, Int.reduceLT, Int.reduceLE, Int.reduceNeg, Int.reduceToNat, Int.reduceAdd, Int.reduceSub, Nat.reduceMul, Nat.reduceEqDiff, gW_un, gcF_un, gcA_un, ci_mkmap, ci_mapset, ci_lookup, ci_maxl, ci_appz, pi_lookup, pi_maxl, pu_lookup, pu_maxl, maxl_nil, maxl_one, maxl_cons, cells_mapr, stor_mapr, callv_yld, mm_max, mm_min, putAll_cons, putAll_nil, asgK_normal, roundK_normal, roundK_ret, roundK_exit, part_cell, part_agg, *]
    | (refine retK_now ?_)
    | (refine retK_now' ?_)
    | (intro q hq)
    | (refine cond_intro (fun hc => ?_) (fun hc => ?_)))
    refine seqK_now ?_
    refine seq_go ?_
    (repeat' first
    | simp (contextual := true) (maxSteps := 4000000) only [fwc, fwe, opsW_gpure, drawW_pure, drawW_gpure, Env.upd_apply, Heap.upd_same, Heap.upd_apply, ite_none, List.getD_cons_zero, List.getD_cons_succ, List.getD_nil, List.length_cons, List.length_nil, List.map_cons, List.map_nil, List.getElem?_cons_zero, List.getElem?_cons_succ, List.getElem?_nil, List.set_cons_zero, List.set_cons_succ, List.take_succ_cons, List.take_zero, List.drop_succ_cons, List.drop_zero, List.nil_append, List.cons_append, List.append_nil, Option.map_some, Option.map_none, Option.bind_some, Option.bind_none, reduceIte, ↓reduceIte, decide_true, decide_false, Bool.true_and, Bool.and_true, Bool.false_and, Bool.and_false, true_and, and_true, and_self, Nat.reduceAdd, Nat.reduceLeDiff, Nat.reduceEqDiff, Nat.zero_add, Nat.add_zero, Nat.le_refl, Nat.zero_le, ge_iff_le, Nat.reduceLT, Nat.zero_lt_succ, Nat.reduceSub, if_true, if_false, forall_const, reduceCtorEq, Bool.not_true, Bool.not_false, Bool.false_eq_true, Int.reduceEq, Int.reduceLT, Int.reduceLE, Int.reduceNeg, Int.reduceToNat, Int.reduceAdd, Int.reduceSub, Nat.reduceMul, Nat.reduceEqDiff, gW_un, gcF_un, gcA_un, ci_mkmap, ci_mapset, ci_lookup, ci_maxl, ci_appz, pi_lookup, pi_maxl, pu_lookup, pu_maxl, maxl_nil, maxl_one, maxl_cons, cells_mapr, stor_mapr, callv_yld, mm_max, mm_min, putAll_cons, putAll_nil, asgK_normal, roundK_normal, roundK_ret, roundK_exit, part_cell, part_agg, *]
    | (refine retK_now ?_)
    | (refine retK_now' ?_)
    | (intro q hq)
    | (refine cond_intro (fun hc => ?_) (fun hc => ?_)))
    revert q
    intro q6 hq6
    refine seqK_now ?_
    refine seq_go ?_
    (repeat' first
    | simp (contextual := true) (maxSteps := 4000000) only [fwc, fwe, opsW_gpure, drawW_pure, drawW_gpure, Env.upd_apply, Heap.upd_same, Heap.upd_apply, ite_none, List.getD_cons_zero, List.getD_cons_succ, List.getD_nil, List.length_cons, List.length_nil, List.map_cons, List.map_nil, List.getElem?_cons_zero, List.getElem?_cons_succ, List.getElem?_nil, List.set_cons_zero, List.set_cons_succ, List.take_succ_cons, List.take_zero, List.drop_succ_cons, List.drop_zero, List.nil_append, List.cons_append, List.append_nil, Option.map_some, Option.map_none, Option.bind_some, Option.bind_none, reduceIte, ↓reduceIte, decide_true, decide_false, Bool.true_and, Bool.and_true, Bool.false_and, Bool.and_false, true_and, and_true, and_self, Nat.reduceAdd, Nat.reduceLeDiff, Nat.reduceEqDiff, Nat.zero_add, Nat.add_zero, Nat.le_refl, Nat.zero_le, ge_iff_le, Nat.reduceLT, Nat.zero_lt_succ, Nat.reduceSub, if_true, if_false, forall_const, reduceCtorEq, Bool.not_true, Bool.not_false, Bool.false_eq_true, Int.reduceEq, Int.reduceLT, Int.reduceLE, Int.reduceNeg, Int.reduceToNat, Int.reduceAdd, Int.reduceSub, Nat.reduceMul, Nat.reduceEqDiff, gW_un, gcF_un, gcA_un, ci_mkmap, ci_mapset, ci_lookup, ci_maxl, ci_appz, pi_lookup, pi_maxl, pu_lookup, pu_maxl, maxl_nil, maxl_one, maxl_cons, cells_mapr, stor_mapr, callv_yld, mm_max, mm_min, putAll_cons, putAll_nil, asgK_normal, roundK_normal, roundK_ret, roundK_exit, part_cell, part_agg, *]
    | (refine retK_now ?_)
    | (refine retK_now' ?_)
    | (intro q hq)
    | (refine cond_intro (fun hc => ?_) (fun hc => ?_)))
    refine seqK_now ?_
    obtain ⟨h61, h62, h63⟩ : ¬ q6 = q4 ∧ ¬ q4 = q6 ∧ O q6 = none := by simpa only [upd_none] using hq6
    clear hq6
    refine seq_post (fun e1 O1 => (∃ z : Ndl, O1 = (O.upd q4 (.arr 41 2 [.agg [.val (.int .u8 0), .val (.int .i64 0)]])).upd q6 (.arr 41 2 [z.av]) ∧ ((∃ i, atSpot a r = some i ∧ z = needleL i ∧ i < 80) ∨ (atSpot a r = none ∧ z = ⟨0, 0⟩))) ∧ e1 = (Env.upd (fun _ => .junk) 6 (.optr q6 2 0 0)).upd 4 (.optr q4 2 0 0)) ?_ ?_
    · intro e1 O1 hQ
      obtain ⟨⟨z, rfl, hz⟩, rfl⟩ := hQ
      rw [show z.av = .agg [.val (.int .u8 z.bed), .val (.int .i64 z.at_)] from rfl]
      rcases hz with ⟨i, h1, rfl, hi⟩ | ⟨h1, rfl⟩
      · have hat : decide ((needleL i).at_ = 0) = false := decide_eq_false (by unfold needleL; simp only; omega)
        rw [h1]
        simp only []
        generalize needleL i = u at hat ⊢
        (repeat' first
    | simp (contextual := true) (maxSteps := 4000000) only [fwc, fwe, cmd_seq, opsW_gpure, drawW_pure, drawW_gpure, Env.upd_apply, Heap.upd_same, Heap.upd_apply, ite_none, List.getD_cons_zero, List.getD_cons_succ, List.getD_nil, List.length_cons, List.length_nil, List.map_cons, List.map_nil, List.getElem?_cons_zero, List.getElem?_cons_succ, List.getElem?_nil, List.set_cons_zero, List.set_cons_succ, List.take_succ_cons, List.take_zero, List.drop_succ_cons, List.drop_zero, List.nil_append, List.cons_append, List.append_nil, Option.map_some, Option.map_none, Option.bind_some, Option.bind_none, reduceIte, ↓reduceIte, decide_true, decide_false, Bool.true_and, Bool.and_true, Bool.false_and, Bool.and_false, true_and, and_true, and_self, Nat.reduceAdd, Nat.reduceLeDiff, Nat.reduceEqDiff, Nat.zero_add, Nat.add_zero, Nat.le_refl, Nat.zero_le, ge_iff_le, Nat.reduceLT, Nat.zero_lt_succ, Nat.reduceSub, if_true, if_false, forall_const, reduceCtorEq, Bool.not_true, Bool.not_false, Bool.false_eq_true, Int.reduceEq, Int.reduceLT, Int.reduceLE, Int.reduceNeg, Int.reduceToNat, Int.reduceAdd, Int.reduceSub, Nat.reduceMul, Nat.reduceEqDiff, gW_un, gcF_un, gcA_un, ci_mkmap, ci_mapset, ci_lookup, ci_maxl, ci_appz, pi_lookup, pi_maxl, pu_lookup, pu_maxl, maxl_nil, maxl_one, maxl_cons, cells_mapr, stor_mapr, callv_yld, mm_max, mm_min, putAll_cons, putAll_nil, asgK_normal, roundK_normal, roundK_ret, roundK_exit, part_cell, part_agg, *]
    | (refine seqK_now ?_)
    | (refine retK_now ?_)
    | (refine retK_now' ?_)
    | (intro q hq)
    | (refine cond_intro (fun hc => ?_) (fun hc => ?_)))
        refine WeakR.pure (by repeat (first | exact Heap.sub_refl _ | refine sub_upd (by simp only [*]) ?_)) ?_
        rfl
      · have hat : decide ((0 : Int) = 0) = true := by decide
        rw [h1]
        (repeat' first
    | simp (contextual := true) (maxSteps := 4000000) only [fwc, fwe, cmd_seq, opsW_gpure, drawW_pure, drawW_gpure, Env.upd_apply, Heap.upd_same, Heap.upd_apply, ite_none, List.getD_cons_zero, List.getD_cons_succ, List.getD_nil, List.length_cons, List.length_nil, List.map_cons, List.map_nil, List.getElem?_cons_zero, List.getElem?_cons_succ, List.getElem?_nil, List.set_cons_zero, List.set_cons_succ, List.take_succ_cons, List.take_zero, List.drop_succ_cons, List.drop_zero, List.nil_append, List.cons_append, List.append_nil, Option.map_some, Option.map_none, Option.bind_some, Option.bind_none, reduceIte, ↓reduceIte, decide_true, decide_false, Bool.true_and, Bool.and_true, Bool.false_and, Bool.and_false, true_and, and_true, and_self, Nat.reduceAdd, Nat.reduceLeDiff, Nat.reduceEqDiff, Nat.zero_add, Nat.add_zero, Nat.le_refl, Nat.zero_le, ge_iff_le, Nat.reduceLT, Nat.zero_lt_succ, Nat.reduceSub, if_true, if_false, forall_const, reduceCtorEq, Bool.not_true, Bool.not_false, Bool.false_eq_true, Int.reduceEq, Int.reduceLT, Int.reduceLE, Int.reduceNeg, Int.reduceToNat, Int.reduceAdd, Int.reduceSub, Nat.reduceMul, Nat.reduceEqDiff, gW_un, gcF_un, gcA_un, ci_mkmap, ci_mapset, ci_lookup, ci_maxl, ci_appz, pi_lookup, pi_maxl, pu_lookup, pu_maxl, maxl_nil, maxl_one, maxl_cons, cells_mapr, stor_mapr, callv_yld, mm_max, mm_min, putAll_cons, putAll_nil, asgK_normal, roundK_normal, roundK_ret, roundK_exit, part_cell, part_agg, *]
    | (refine seqK_now ?_)
    | (refine retK_now ?_)
    | (refine retK_now' ?_)
    | (intro q hq)
    | (refine cond_intro (fun hc => ?_) (fun hc => ?_)))
        refine WeakR.pure (by repeat (first | exact Heap.sub_refl _ | refine sub_upd (by simp only [*]) ?_)) ?_
        rfl
    · intro F hF
      replace hF := (show Aside _ from hF)
      obtain ⟨I, hI⟩ := hideI (fun m e O' => ∃ j : Nat, j ≤ 2 ∧ m = 2 - j ∧ (∀ i, i < 40 * j → spotL (needleL i) r ≠ a) ∧ O' = (O.upd q4 (.arr 41 2 [.agg [.val (.int .u8 0), .val (.int .i64 0)]])).upd q6 (.arr 41 2 [.agg [.val (.int .u8 0), .val (.int .i64 0)]]) ∧ e = env62 a r q4 q6 j)
      refine seq_go ?_
      (repeat' first
    | simp (contextual := true) (maxSteps := 4000000) only [fwc, fwe, opsW_gpure, drawW_pure, drawW_gpure, Env.upd_apply, Heap.upd_same, Heap.upd_apply, ite_none, List.getD_cons_zero, List.getD_cons_succ, List.getD_nil, List.length_cons, List.length_nil, List.map_cons, List.map_nil, List.getElem?_cons_zero, List.getElem?_cons_succ, List.getElem?_nil, List.set_cons_zero, List.set_cons_succ, List.take_succ_cons, List.take_zero, List.drop_succ_cons, List.drop_zero, List.nil_append, List.cons_append, List.append_nil, Option.map_some, Option.map_none, Option.bind_some, Option.bind_none, reduceIte, ↓reduceIte, decide_true, decide_false, Bool.true_and, Bool.and_true, Bool.false_and, Bool.and_false, true_and, and_true, and_self, Nat.reduceAdd, Nat.reduceLeDiff, Nat.reduceEqDiff, Nat.zero_add, Nat.add_zero, Nat.le_refl, Nat.zero_le, ge_iff_le, Nat.reduceLT, Nat.zero_lt_succ, Nat.reduceSub, if_true, if_false, forall_const, reduceCtorEq, Bool.not_true, Bool.not_false, Bool.false_eq_true, Int.reduceEq, Int.reduceLT, Int.reduceLE, Int.reduceNeg, Int.reduceToNat, Int.reduceAdd, Int.reduceSub, Nat.reduceMul, Nat.reduceEqDiff, gW_un, gcF_un, gcA_un, ci_mkmap, ci_mapset, ci_lookup, ci_maxl, ci_appz, pi_lookup, pi_maxl, pu_lookup, pu_maxl, maxl_nil, maxl_one, maxl_cons, cells_mapr, stor_mapr, callv_yld, mm_max, mm_min, putAll_cons, putAll_nil, asgK_normal, roundK_normal, roundK_ret, roundK_exit, part_cell, part_agg, *]
    | (refine retK_now ?_)
    | (refine retK_now' ?_)
    | (intro q hq)
    | (refine cond_intro (fun hc => ?_) (fun hc => ?_)))
      refine seqK_now ?_
      (repeat' first
    | simp (contextual := true) (maxSteps := 4000000) only [fwc, fwe, opsW_gpure, drawW_pure, drawW_gpure, Env.upd_apply, Heap.upd_same, Heap.upd_apply, ite_none, List.getD_cons_zero, List.getD_cons_succ, List.getD_nil, List.length_cons, List.length_nil, List.map_cons, List.map_nil, List.getElem?_cons_zero, List.getElem?_cons_succ, List.getElem?_nil, List.set_cons_zero, List.set_cons_succ, List.take_succ_cons, List.take_zero, List.drop_succ_cons, List.drop_zero, List.nil_append, List.cons_append, List.append_nil, Option.map_some, Option.map_none, Option.bind_some, Option.bind_none, reduceIte, ↓reduceIte, decide_true, decide_false, Bool.true_and, Bool.and_true, Bool.false_and, Bool.and_false, true_and, and_true, and_self, Nat.reduceAdd, Nat.reduceLeDiff, Nat.reduceEqDiff, Nat.zero_add, Nat.add_zero, Nat.le_refl, Nat.zero_le, ge_iff_le, Nat.reduceLT, Nat.zero_lt_succ, Nat.reduceSub, if_true, if_false, forall_const, reduceCtorEq, Bool.not_true, Bool.not_false, Bool.false_eq_true, Int.reduceEq, Int.reduceLT, Int.reduceLE, Int.reduceNeg, Int.reduceToNat, Int.reduceAdd, Int.reduceSub, Nat.reduceMul, Nat.reduceEqDiff, gW_un, gcF_un, gcA_un, ci_mkmap, ci_mapset, ci_lookup, ci_maxl, ci_appz, pi_lookup, pi_maxl, pu_lookup, pu_maxl, maxl_nil, maxl_one, maxl_cons, cells_mapr, stor_mapr, callv_yld, mm_max, mm_min, putAll_cons, putAll_nil, asgK_normal, roundK_normal, roundK_ret, roundK_exit, part_cell, part_agg, *]
    | (refine retK_now ?_)
    | (refine retK_now' ?_)
    | (intro q hq)
    | (refine cond_intro (fun hc => ?_) (fun hc => ?_)))
      refine cmd_loop I 2 (by
        rw [hI.out]
        exact ⟨0, by omega, rfl, fun i hi => by omega, rfl, rfl⟩) ?_
      intro m e O' hh
      rw [hI.out] at hh
      obtain ⟨j, hj2, rfl, hlo, rfl, rfl⟩ := hh
      unfold env62
      have dj : decide ((j : Int) < 2) = decide (j < 2) := decide_eq_decide.2 (by omega)
      by_cases hj : j < 2
      · have e1 : decide (j < 2) = true := decide_eq_true hj
        have hbed : indexAddrA 1 (j : Int) (.list 1 true [.val (.int .u8 0), .val (.int .u8 1)]) = some (.ref (.val (.int .u8 (j : Int)))) := by
          match j, hj with
          | 0, _ => rfl
          | 1, _ => rfl
        have hnd : ∀ i : Nat, i < 40 → needleL (40 * j + i) = ⟨(j : Int), ((i + 1 : Nat) : Int)⟩ := fun i hi => by
          match j, hj with
          | 0, _ => exact needle_lo hi
          | 1, _ => exact needle_hi hi
        have hwj : j < 4611686018427387904 := by omega
        obtain ⟨J, hJ⟩ := hideI (fun m e O' => ∃ (i : Nat) (z : Ndl), i ≤ 40 ∧ m = 40 - i ∧ (∀ k, k < 40 * j + i → spotL (needleL k) r ≠ a) ∧ O' = (O.upd q4 (.arr 41 2 [.agg [.val (.int .u8 0), .val (.int .i64 0)]])).upd q6 (.arr 41 2 [z.av]) ∧ e = env62b a r q4 q6 j i)
        replace hlo := (show Aside _ from hlo)
        replace hnd := (show Aside _ from hnd)
        (repeat' first
    | simp (contextual := true) (maxSteps := 4000000) only [fwc, fwe, cmd_seq, opsW_gpure, drawW_pure, drawW_gpure, Env.upd_apply, Heap.upd_same, Heap.upd_apply, ite_none, List.getD_cons_zero, List.getD_cons_succ, List.getD_nil, List.length_cons, List.length_nil, List.map_cons, List.map_nil, List.getElem?_cons_zero, List.getElem?_cons_succ, List.getElem?_nil, List.set_cons_zero, List.set_cons_succ, List.take_succ_cons, List.take_zero, List.drop_succ_cons, List.drop_zero, List.nil_append, List.cons_append, List.append_nil, Option.map_some, Option.map_none, Option.bind_some, Option.bind_none, reduceIte, ↓reduceIte, decide_true, decide_false, Bool.true_and, Bool.and_true, Bool.false_and, Bool.and_false, true_and, and_true, and_self, Nat.reduceAdd, Nat.reduceLeDiff, Nat.reduceEqDiff, Nat.zero_add, Nat.add_zero, Nat.le_refl, Nat.zero_le, ge_iff_le, Nat.reduceLT, Nat.zero_lt_succ, Nat.reduceSub, if_true, if_false, forall_const, reduceCtorEq, Bool.not_true, Bool.not_false, Bool.false_eq_true, Int.reduceEq, Int.reduceLT, Int.reduceLE, Int.reduceNeg, Int.reduceToNat, Int.reduceAdd, Int.reduceSub, Nat.reduceMul, Nat.reduceEqDiff, gW_un, gcF_un, gcA_un, ci_mkmap, ci_mapset, ci_lookup, ci_maxl, ci_appz, pi_lookup, pi_maxl, pu_lookup, pu_maxl, maxl_nil, maxl_one, maxl_cons, cells_mapr, stor_mapr, callv_yld, mm_max, mm_min, putAll_cons, putAll_nil, asgK_normal, roundK_normal, roundK_ret, roundK_exit, part_cell, part_agg, *]
    | (refine seqK_now ?_)
    | (refine retK_now ?_)
    | (refine retK_now' ?_)
    | (intro q hq)
    | (refine cond_intro (fun hc => ?_) (fun hc => ?_)))
        refine cmd_loop J 40 (by
          rw [hJ.out]
          exact ⟨0, ⟨0, 0⟩, by omega, rfl, fun k hk => hlo.out k (by omega), rfl, rfl⟩) ?_
        intro m e O' hh
        rw [hJ.out] at hh
        obtain ⟨i, z, hi40, rfl, hlo2, rfl, rfl⟩ := hh
        unfold env62b
        rw [show z.av = .agg [.val (.int .u8 z.bed), .val (.int .i64 z.at_)] from rfl]
        have di : decide ((i : Int) < 40) = decide (i < 40) := decide_eq_decide.2 (by omega)
        by_cases hi : i < 40
        · have e2 : decide (i < 40) = true := decide_eq_true hi
          have hwi : i < 4611686018427387904 := by omega
          have hsp := spot_ok (needleL (40 * j + i)) r (by rw [hnd.out i hi]; simp only; omega) (by rw [hnd.out i hi]; simp only; omega) (by have := hrk.out; omega) (by have := hrk.out; omega)
          have hn := hnd.out i hi
          rw [hn, show (⟨(j : Int), ((i + 1 : Nat) : Int)⟩ : Ndl).av = .agg [.val (.int .u8 (j : Int)), .val (.int .i64 ((i + 1 : Nat) : Int))] from rfl] at hsp
          replace hlo2 := (show Aside _ from hlo2)
          obtain ⟨s, hs⟩ : ∃ s, spotL ⟨(j : Int), ((i + 1 : Nat) : Int)⟩ r = s := ⟨_, rfl⟩
          rw [hs] at hsp
          rw [← hn] at hs
          replace hs := (show Aside _ from hs)
          replace hn := (show Aside _ from hn)
          by_cases hsa : s = a
          · have e3 : decide (s = a) = true := decide_eq_true hsa
            replace hsa := (show Aside _ from hsa)
            (repeat' first
    | simp (contextual := true) (maxSteps := 4000000) only [fwc, fwe, cmd_seq, opsW_gpure, drawW_pure, drawW_gpure, Env.upd_apply, Heap.upd_same, Heap.upd_apply, ite_none, List.getD_cons_zero, List.getD_cons_succ, List.getD_nil, List.length_cons, List.length_nil, List.map_cons, List.map_nil, List.getElem?_cons_zero, List.getElem?_cons_succ, List.getElem?_nil, List.set_cons_zero, List.set_cons_succ, List.take_succ_cons, List.take_zero, List.drop_succ_cons, List.drop_zero, List.nil_append, List.cons_append, List.append_nil, Option.map_some, Option.map_none, Option.bind_some, Option.bind_none, reduceIte, ↓reduceIte, decide_true, decide_false, Bool.true_and, Bool.and_true, Bool.false_and, Bool.and_false, true_and, and_true, and_self, Nat.reduceAdd, Nat.reduceLeDiff, Nat.reduceEqDiff, Nat.zero_add, Nat.add_zero, Nat.le_refl, Nat.zero_le, ge_iff_le, Nat.reduceLT, Nat.zero_lt_succ, Nat.reduceSub, if_true, if_false, forall_const, reduceCtorEq, Bool.not_true, Bool.not_false, Bool.false_eq_true, Int.reduceEq, Int.reduceLT, Int.reduceLE, Int.reduceNeg, Int.reduceToNat, Int.reduceAdd, Int.reduceSub, Nat.reduceMul, Nat.reduceEqDiff, gW_un, gcF_un, gcA_un, ci_mkmap, ci_mapset, ci_lookup, ci_maxl, ci_appz, pi_lookup, pi_maxl, pu_lookup, pu_maxl, maxl_nil, maxl_one, maxl_cons, cells_mapr, stor_mapr, callv_yld, mm_max, mm_min, putAll_cons, putAll_nil, asgK_normal, roundK_normal, roundK_ret, roundK_exit, part_cell, part_agg, wrap_succ, *]
    | (refine seqK_now ?_)
    | (refine retK_now ?_)
    | (refine retK_now' ?_)
    | (intro q hq)
    | (refine cond_intro (fun hc => ?_) (fun hc => ?_)))
            refine hsp.use ?_
            (repeat' first
    | simp (contextual := true) (maxSteps := 4000000) only [fwc, fwe, cmd_seq, opsW_gpure, drawW_pure, drawW_gpure, Env.upd_apply, Heap.upd_same, Heap.upd_apply, ite_none, List.getD_cons_zero, List.getD_cons_succ, List.getD_nil, List.length_cons, List.length_nil, List.map_cons, List.map_nil, List.getElem?_cons_zero, List.getElem?_cons_succ, List.getElem?_nil, List.set_cons_zero, List.set_cons_succ, List.take_succ_cons, List.take_zero, List.drop_succ_cons, List.drop_zero, List.nil_append, List.cons_append, List.append_nil, Option.map_some, Option.map_none, Option.bind_some, Option.bind_none, reduceIte, ↓reduceIte, decide_true, decide_false, Bool.true_and, Bool.and_true, Bool.false_and, Bool.and_false, true_and, and_true, and_self, Nat.reduceAdd, Nat.reduceLeDiff, Nat.reduceEqDiff, Nat.zero_add, Nat.add_zero, Nat.le_refl, Nat.zero_le, ge_iff_le, Nat.reduceLT, Nat.zero_lt_succ, Nat.reduceSub, if_true, if_false, forall_const, reduceCtorEq, Bool.not_true, Bool.not_false, Bool.false_eq_true, Int.reduceEq, Int.reduceLT, Int.reduceLE, Int.reduceNeg, Int.reduceToNat, Int.reduceAdd, Int.reduceSub, Nat.reduceMul, Nat.reduceEqDiff, gW_un, gcF_un, gcA_un, ci_mkmap, ci_mapset, ci_lookup, ci_maxl, ci_appz, pi_lookup, pi_maxl, pu_lookup, pu_maxl, maxl_nil, maxl_one, maxl_cons, cells_mapr, stor_mapr, callv_yld, mm_max, mm_min, putAll_cons, putAll_nil, asgK_normal, roundK_normal, roundK_ret, roundK_exit, part_cell, part_agg, wrap_succ, *]
    | (refine seqK_now ?_)
    | (refine retK_now ?_)
    | (refine retK_now' ?_)
    | (intro q hq)
    | (refine cond_intro (fun hc => ?_) (fun hc => ?_)))
            refine hF.out _ _ ⟨⟨needleL (40 * j + i), ?_, .inl ⟨40 * j + i, at_some (by omega) (fun k hk => hlo2.out k hk) (by rw [hs.out]; exact hsa.out), rfl, by omega⟩⟩, ?_⟩
            · rw [hn.out]; rfl
            · rfl
          · have e3 : decide (s = a) = false := decide_eq_false hsa
            replace hsa := (show Aside _ from hsa)
            (repeat' first
    | simp (contextual := true) (maxSteps := 4000000) only [fwc, fwe, cmd_seq, opsW_gpure, drawW_pure, drawW_gpure, Env.upd_apply, Heap.upd_same, Heap.upd_apply, ite_none, List.getD_cons_zero, List.getD_cons_succ, List.getD_nil, List.length_cons, List.length_nil, List.map_cons, List.map_nil, List.getElem?_cons_zero, List.getElem?_cons_succ, List.getElem?_nil, List.set_cons_zero, List.set_cons_succ, List.take_succ_cons, List.take_zero, List.drop_succ_cons, List.drop_zero, List.nil_append, List.cons_append, List.append_nil, Option.map_some, Option.map_none, Option.bind_some, Option.bind_none, reduceIte, ↓reduceIte, decide_true, decide_false, Bool.true_and, Bool.and_true, Bool.false_and, Bool.and_false, true_and, and_true, and_self, Nat.reduceAdd, Nat.reduceLeDiff, Nat.reduceEqDiff, Nat.zero_add, Nat.add_zero, Nat.le_refl, Nat.zero_le, ge_iff_le, Nat.reduceLT, Nat.zero_lt_succ, Nat.reduceSub, if_true, if_false, forall_const, reduceCtorEq, Bool.not_true, Bool.not_false, Bool.false_eq_true, Int.reduceEq, Int.reduceLT, Int.reduceLE, Int.reduceNeg, Int.reduceToNat, Int.reduceAdd, Int.reduceSub, Nat.reduceMul, Nat.reduceEqDiff, gW_un, gcF_un, gcA_un, ci_mkmap, ci_mapset, ci_lookup, ci_maxl, ci_appz, pi_lookup, pi_maxl, pu_lookup, pu_maxl, maxl_nil, maxl_one, maxl_cons, cells_mapr, stor_mapr, callv_yld, mm_max, mm_min, putAll_cons, putAll_nil, asgK_normal, roundK_normal, roundK_ret, roundK_exit, part_cell, part_agg, wrap_succ, *]
    | (refine seqK_now ?_)
    | (refine retK_now ?_)
    | (refine retK_now' ?_)
    | (intro q hq)
    | (refine cond_intro (fun hc => ?_) (fun hc => ?_)))
            refine hsp.use ?_
            (repeat' first
    | simp (contextual := true) (maxSteps := 4000000) only [fwc, fwe, cmd_seq, opsW_gpure, drawW_pure, drawW_gpure, Env.upd_apply, Heap.upd_same, Heap.upd_apply, ite_none, List.getD_cons_zero, List.getD_cons_succ, List.getD_nil, List.length_cons, List.length_nil, List.map_cons, List.map_nil, List.getElem?_cons_zero, List.getElem?_cons_succ, List.getElem?_nil, List.set_cons_zero, List.set_cons_succ, List.take_succ_cons, List.take_zero, List.drop_succ_cons, List.drop_zero, List.nil_append, List.cons_append, List.append_nil, Option.map_some, Option.map_none, Option.bind_some, Option.bind_none, reduceIte, ↓reduceIte, decide_true, decide_false, Bool.true_and, Bool.and_true, Bool.false_and, Bool.and_false, true_and, and_true, and_self, Nat.reduceAdd, Nat.reduceLeDiff, Nat.reduceEqDiff, Nat.zero_add, Nat.add_zero, Nat.le_refl, Nat.zero_le, ge_iff_le, Nat.reduceLT, Nat.zero_lt_succ, Nat.reduceSub, if_true, if_false, forall_const, reduceCtorEq, Bool.not_true, Bool.not_false, Bool.false_eq_true, Int.reduceEq, Int.reduceLT, Int.reduceLE, Int.reduceNeg, Int.reduceToNat, Int.reduceAdd, Int.reduceSub, Nat.reduceMul, Nat.reduceEqDiff, gW_un, gcF_un, gcA_un, ci_mkmap, ci_mapset, ci_lookup, ci_maxl, ci_appz, pi_lookup, pi_maxl, pu_lookup, pu_maxl, maxl_nil, maxl_one, maxl_cons, cells_mapr, stor_mapr, callv_yld, mm_max, mm_min, putAll_cons, putAll_nil, asgK_normal, roundK_normal, roundK_ret, roundK_exit, part_cell, part_agg, wrap_succ, *]
    | (refine seqK_now ?_)
    | (refine retK_now ?_)
    | (refine retK_now' ?_)
    | (intro q hq)
    | (refine cond_intro (fun hc => ?_) (fun hc => ?_)))
            refine loopK_now (40 - (i + 1)) (by omega) ?_
            rw [hJ.out]
            refine ⟨i + 1, ⟨(j : Int), ((i + 1 : Nat) : Int)⟩, by omega, rfl, fun k hk => ?_, rfl, rfl⟩
            rcases Nat.lt_or_ge k (40 * j + i) with h | h
            · exact hlo2.out k h
            · have : k = 40 * j + i := by omega
              rw [this, hs.out]
              exact hsa.out
        · have e2 : decide (i < 40) = false := decide_eq_false hi
          have hi4 : i = 40 := by omega
          replace hlo2 := (show Aside _ from hlo2)
          replace hi := (show Aside _ from hi)
          replace hi4 := (show Aside _ from hi4)
          (repeat' first
    | simp (contextual := true) (maxSteps := 4000000) only [fwc, fwe, cmd_seq, opsW_gpure, drawW_pure, drawW_gpure, Env.upd_apply, Heap.upd_same, Heap.upd_apply, ite_none, List.getD_cons_zero, List.getD_cons_succ, List.getD_nil, List.length_cons, List.length_nil, List.map_cons, List.map_nil, List.getElem?_cons_zero, List.getElem?_cons_succ, List.getElem?_nil, List.set_cons_zero, List.set_cons_succ, List.take_succ_cons, List.take_zero, List.drop_succ_cons, List.drop_zero, List.nil_append, List.cons_append, List.append_nil, Option.map_some, Option.map_none, Option.bind_some, Option.bind_none, reduceIte, ↓reduceIte, decide_true, decide_false, Bool.true_and, Bool.and_true, Bool.false_and, Bool.and_false, true_and, and_true, and_self, Nat.reduceAdd, Nat.reduceLeDiff, Nat.reduceEqDiff, Nat.zero_add, Nat.add_zero, Nat.le_refl, Nat.zero_le, ge_iff_le, Nat.reduceLT, Nat.zero_lt_succ, Nat.reduceSub, if_true, if_false, forall_const, reduceCtorEq, Bool.not_true, Bool.not_false, Bool.false_eq_true, Int.reduceEq, Int.reduceLT, Int.reduceLE, Int.reduceNeg, Int.reduceToNat, Int.reduceAdd, Int.reduceSub, Nat.reduceMul, Nat.reduceEqDiff, gW_un, gcF_un, gcA_un, ci_mkmap, ci_mapset, ci_lookup, ci_maxl, ci_appz, pi_lookup, pi_maxl, pu_lookup, pu_maxl, maxl_nil, maxl_one, maxl_cons, cells_mapr, stor_mapr, callv_yld, mm_max, mm_min, putAll_cons, putAll_nil, asgK_normal, roundK_normal, roundK_ret, roundK_exit, part_cell, part_agg, wrap_succ, *]
    | (refine seqK_now ?_)
    | (refine retK_now ?_)
    | (refine retK_now' ?_)
    | (intro q hq)
    | (refine cond_intro (fun hc => ?_) (fun hc => ?_)))
          refine loopK_now (2 - (j + 1)) (by omega) ?_
          rw [hI.out]
          exact ⟨j + 1, by omega, rfl, fun k hk => hlo2.out k (by have := hi4.out; omega), rfl, rfl⟩
      · have e1 : decide (j < 2) = false := decide_eq_false hj
        have hj3 : j = 2 := by omega
        replace hj := (show Aside _ from hj)
        replace hlo := (show Aside _ from hlo)
        replace hj3 := (show Aside _ from hj3)
        (repeat' first
    | simp (contextual := true) (maxSteps := 4000000) only [fwc, fwe, cmd_seq, opsW_gpure, drawW_pure, drawW_gpure, Env.upd_apply, Heap.upd_same, Heap.upd_apply, ite_none, List.getD_cons_zero, List.getD_cons_succ, List.getD_nil, List.length_cons, List.length_nil, List.map_cons, List.map_nil, List.getElem?_cons_zero, List.getElem?_cons_succ, List.getElem?_nil, List.set_cons_zero, List.set_cons_succ, List.take_succ_cons, List.take_zero, List.drop_succ_cons, List.drop_zero, List.nil_append, List.cons_append, List.append_nil, Option.map_some, Option.map_none, Option.bind_some, Option.bind_none, reduceIte, ↓reduceIte, decide_true, decide_false, Bool.true_and, Bool.and_true, Bool.false_and, Bool.and_false, true_and, and_true, and_self, Nat.reduceAdd, Nat.reduceLeDiff, Nat.reduceEqDiff, Nat.zero_add, Nat.add_zero, Nat.le_refl, Nat.zero_le, ge_iff_le, Nat.reduceLT, Nat.zero_lt_succ, Nat.reduceSub, if_true, if_false, forall_const, reduceCtorEq, Bool.not_true, Bool.not_false, Bool.false_eq_true, Int.reduceEq, Int.reduceLT, Int.reduceLE, Int.reduceNeg, Int.reduceToNat, Int.reduceAdd, Int.reduceSub, Nat.reduceMul, Nat.reduceEqDiff, gW_un, gcF_un, gcA_un, ci_mkmap, ci_mapset, ci_lookup, ci_maxl, ci_appz, pi_lookup, pi_maxl, pu_lookup, pu_maxl, maxl_nil, maxl_one, maxl_cons, cells_mapr, stor_mapr, callv_yld, mm_max, mm_min, putAll_cons, putAll_nil, asgK_normal, roundK_normal, roundK_ret, roundK_exit, part_cell, part_agg, *]
    | (refine seqK_now ?_)
    | (refine retK_now ?_)
    | (refine retK_now' ?_)
    | (intro q hq)
    | (refine cond_intro (fun hc => ?_) (fun hc => ?_)))
        refine hF.out _ _ ⟨⟨⟨0, 0⟩, rfl, .inr ⟨at_none fun i hi => hlo.out i (by have := hj3.out; omega), rfl⟩⟩, rfl⟩
/-- The same, told by arithmetic. -/
def atFast (a r : Int) : Option Int :=
  if (a - 2) % 4 = 0 ∧ 1 ≤ (a - 2) / 4 ∧ (a - 2) / 4 ≤ 40 then some ((a - 2) / 4 - 1)
  else if a % 4 = 0 ∧ 1 ≤ a / 4 - r ∧ a / 4 - r ≤ 40 then some (39 + (a / 4 - r)) else none
theorem spot_lo {i : Nat} (r : Int) (h : i < 40) : spotL (needleL i) r = 4 * ((i : Int) + 1) + 2 := by
  have := needle_lo h
  rw [show 40 * 0 + i = i by omega] at this
  rw [this]
  unfold spotL
  rw [if_neg (by simp)]
  simp only
  omega
theorem spot_hi {i : Nat} (r : Int) (h : 40 ≤ i) (h2 : i < 80) : spotL (needleL i) r = 4 * ((i : Int) - 39 + r) := by
  have := needle_hi (show i - 40 < 40 by omega)
  rw [show 40 * 1 + (i - 40) = i by omega] at this
  rw [this]
  unfold spotL
  rw [if_pos rfl]
  simp only
  omega
theorem at_fast (a r : Int) : atSpot a r = (atFast a r).map Int.toNat := by
  unfold atFast
  split
  · rename_i h
    refine at_some (by omega) (fun j hj => ?_) ?_
    · rw [spot_lo r (by omega)]; omega
    · rw [spot_lo r (by omega)]; omega
  · rename_i h
    split
    · rename_i h2
      refine at_some (by omega) (fun j hj => ?_) ?_
      · by_cases h40 : j < 40
        · rw [spot_lo r h40]; omega
        · rw [spot_hi r (by omega) (by omega)]; omega
      · rw [spot_hi r (by omega) (by omega)]; omega
    · rename_i h2
      refine at_none fun i hi => ?_
      by_cases h40 : i < 40
      · rw [spot_lo r h40]; omega
      · rw [spot_hi r (by omega) (by omega)]; omega
def natNAt : List AV → Option AV
  | [.val (.int .i64 a), .val (.int .i64 r)] => match rackOK r with
    | false => some (.tup [(⟨0, 0⟩ : Ndl).av, .val (.int .i64 11)])
    | true => match (atFast a r).map Int.toNat with
      | some i => some (.tup [(needleL i).av, .val (.int .i64 0)])
      | none => some (.tup [(⟨0, 0⟩ : Ndl).av, .val (.int .i64 7)])
  | _ => none
theorem natNAt_ok (args : List AV) (r : AV) (h : natNAt args = some r) : PureA Try.prog 21 args r := by
  unfold natNAt at h
  split at h
  · rename_i a r0
    have key := NAt_ok a r0
    unfold atN atE at key
    rw [at_fast] at key
    split at h
    · rename_i hk; cases h; rw [if_neg (by simp [hk]), if_neg (by simp [hk])] at key; exact key
    · rename_i hk
      rw [if_pos hk, if_pos hk] at key
      split at h
      · rename_i i hi; cases h; rw [hi] at key; exact key
      · rename_i hi; cases h; rw [hi] at key; exact key
  · cases h
end Go.Proofs.Ytlpngkeegjickab

namespace Go.Proofs.Ytlpngkeegjickab
open Go.Ab
attribute [local irreducible] WeakR WeakE CallA YieldA

/-- Names, stacks and beds read off values. -/
def decId : AV → Option Id
  | .agg [.val (.int .u8 y), .val (.int .i64 n)] => some ⟨y, n⟩
  | _ => none
def decIds : List AV → Option (List Id)
  | [] => some []
  | x :: l => match decId x, decIds l with
    | some p, some L => some (p :: L)
    | _, _ => none
def decS : AV → Option (List Id)
  | .list 2 _ l => decIds l
  | .val (.slice none 0 0) => some []
  | _ => none
def decSs : List AV → Option (List (List Id))
  | [] => some []
  | x :: l => match decS x, decSs l with
    | some p, some L => some (p :: L)
    | _, _ => none
def decB : AV → Option (List AV × List (List Id))
  | .list 1 _ l => match decSs l with
    | some F => some (l, F)
    | none => none
  | .val (.slice none 0 0) => some ([], [])
  | _ => none
theorem decId_ok {x : AV} {p : Id} (h : decId x = some p) : x = p.av := by
  unfold decId at h
  split at h
  · cases h; rfl
  · cases h
theorem decIds_ok : ∀ {l : List AV} {L : List Id}, decIds l = some L → l = L.map Id.av
  | [], L, h => by cases h; rfl
  | x :: l, L, h => by
    simp only [decIds] at h
    split at h
    · rename_i p M hp hM
      cases h
      rw [decId_ok hp, decIds_ok hM]
      rfl
    · cases h
theorem decS_ok {x : AV} {L : List Id} (h : decS x = some L) : IsL 2 x (L.map Id.av) := by
  unfold decS at h
  split at h
  · rw [decIds_ok h]; exact .list
  · cases h; exact .nil
  · cases h
theorem decSs_ok : ∀ {l : List AV} {F : List (List Id)}, decSs l = some F → l.length = F.length ∧ ∀ (i : Nat) (h : i < l.length) (h' : i < F.length), IsL 2 l[i] (F[i].map Id.av)
  | [], F, h => by cases h; exact ⟨rfl, fun i h => by simp at h⟩
  | x :: l, F, h => by
    simp only [decSs] at h
    split at h
    · rename_i p M hp hM
      cases h
      obtain ⟨h1, h2⟩ := decSs_ok hM
      refine ⟨by simp [h1], fun i hi hi' => ?_⟩
      cases i with
      | zero => exact decS_ok hp
      | succ i => exact h2 i (by simpa using hi) (by simpa using hi')
    · cases h
theorem decB_ok {x : AV} {es : List AV} {F : List (List Id)} (h : decB x = some (es, F)) : IsB x es F := by
  unfold decB at h
  split at h
  · split at h
    · rename_i hF
      cases h
      obtain ⟨h1, h2⟩ := decSs_ok hF
      exact ⟨.list, h1, h2⟩
    · cases h
  · cases h; exact ⟨.nil, rfl, fun i h => by simp at h⟩
  · cases h

def natCheck : List AV → Option AV
  | [.agg [f, b]] => match decB f, decB b with
    | some (_, F), some (_, B) => some (.val (.int .i64 (checkL F B)))
    | _, _ => none
  | _ => none
theorem natCheck_ok (args : List AV) (r : AV) (h : natCheck args = some r) : PureA Try.prog 13 args r := by
  unfold natCheck at h
  split at h
  · split at h
    · rename_i es F fs B hF hB
      cases h
      exact Check_ok _ _ _ _ F B (decB_ok hF) (decB_ok hB)
    · cases h
  · cases h

def exBeds : AV := (.agg [(.list 1 true [(.val (.slice none 0 0)), (.list 2 true [(.agg [(.val (.int .u8 1)), (.val (.int .i64 0))]), (.agg [(.val (.int .u8 1)), (.val (.int .i64 1))])])]), (.list 1 true [(.val (.slice none 0 0)), (.list 2 true [(.agg [(.val (.int .u8 2)), (.val (.int .i64 0))]), (.agg [(.val (.int .u8 2)), (.val (.int .i64 1))])]), (.val (.slice none 0 0)), (.list 2 true [(.agg [(.val (.int .u8 2)), (.val (.int .i64 2))])])])])
def tb4s : List (FuncId × Fe) := [(11, .code c11 [.tmp 4, .tmp 5] 2),
  (9, .code c9 [.tmp 6, .tmp 7] 3),
  (12, .code c12 [.tmp 8, .tmp 9] 4),
  (30, .code c30 [.tmp 4] 2),
  (31, .code c31 [.tmp 4] 2),
  (20, .code c20 [.tmp 6] 3),
  (22, .code c22 [.tmp 4] 2),
  (23, .code c23 [.tmp 2] 1),
  (21, .nat natNAt),
  (25, .code c25 [.tmp 4] 2),
  (24, .code c24 [.tmp 4] 2),
  (26, .code c26 [.tmp 2] 1),
  (32, .code c32 [.tmp 2] 1),
  (13, .nat natCheck),
  (42, .code c42 [.tmp 2] 1),
  (50, .code c50 [] 2),
  (51, .code c51 [.tmp 4] 2),
  (53, .code c53 [.tmp 2] 1),
  (45, .code c45 [.tmp 2] 1),
  (43, .code c43 [.tmp 2] 1),
  (44, .code c44 [.tmp 4] 2),
  (49, .code c49 [.tmp 4] 2),
  (46, .code c46w [.tmp 2] 1),
  (48, .code c48 [.tmp 2] 1),
  (47, .code c47 [] 1),
  (56, .code c56 [] 3),
  (52, .code c52 [.tmp 4] 2),
  (58, .code c58 [] 4),
  (59, .code c59 [] 5),
  (57, .code c57 [.tmp 2] 1),
  (60, .code c60 [] 5),
  (61, .code c61 [] 5)]
theorem tb4s_ok : TabOK' Try.prog (lookT tb4s) := lookT_ok fun p hp => by
  simp only [tb4s, List.mem_cons, List.not_mem_nil, or_false] at hp
  rcases hp with rfl | rfl | rfl | rfl | rfl | rfl | rfl | rfl | rfl | rfl | rfl | rfl | rfl | rfl | rfl | rfl | rfl | rfl | rfl | rfl | rfl | rfl | rfl | rfl | rfl | rfl | rfl | rfl | rfl | rfl | rfl | rfl
  · exact ⟨k11, by kernel_rfl⟩
  · exact ⟨k9, by kernel_rfl⟩
  · exact ⟨k12, by kernel_rfl⟩
  · exact ⟨k30, by kernel_rfl⟩
  · exact ⟨k31, by kernel_rfl⟩
  · exact ⟨k20, by kernel_rfl⟩
  · exact ⟨k22, by kernel_rfl⟩
  · exact ⟨k23, by kernel_rfl⟩
  · exact natNAt_ok
  · exact ⟨k25, by kernel_rfl⟩
  · exact ⟨k24, by kernel_rfl⟩
  · exact ⟨k26, by kernel_rfl⟩
  · exact ⟨k32, by kernel_rfl⟩
  · exact natCheck_ok
  · exact ⟨k42, by kernel_rfl⟩
  · exact ⟨k50, by kernel_rfl⟩
  · exact ⟨k51, by kernel_rfl⟩
  · exact ⟨k53, by kernel_rfl⟩
  · exact ⟨k45, by kernel_rfl⟩
  · exact ⟨k43, by kernel_rfl⟩
  · exact ⟨k44, by kernel_rfl⟩
  · exact ⟨k49, by kernel_rfl⟩
  · exact ⟨k46w, by kernel_rfl⟩
  · exact ⟨k48, by kernel_rfl⟩
  · exact ⟨k47, by kernel_rfl⟩
  · exact ⟨k56, by kernel_rfl⟩
  · exact ⟨k52, by kernel_rfl⟩
  · exact ⟨k58, by kernel_rfl⟩
  · exact ⟨k59, by kernel_rfl⟩
  · exact ⟨k57, by kernel_rfl⟩
  · exact ⟨k60, by kernel_rfl⟩
  · exact ⟨k61, by kernel_rfl⟩

theorem cr0 : pureWith (lookT tb4s) (cmdR (lookT tb4s) 100000) 11 [exBeds, .val (.int .i64 0)] ⟨.em, 0⟩ = some (.tup [(.list 5 true [(.agg [(.val (.int .u8 2)), (.val (.int .i64 0)), (.val (.int .u8 1)), (.val (.int .i64 2)), (.val (.int .i64 8))]), (.agg [(.val (.int .u8 2)), (.val (.int .i64 1)), (.val (.int .u8 1)), (.val (.int .i64 2)), (.val (.int .i64 8))]), (.agg [(.val (.int .u8 1)), (.val (.int .i64 0)), (.val (.int .u8 0)), (.val (.int .i64 2)), (.val (.int .i64 10))]), (.agg [(.val (.int .u8 1)), (.val (.int .i64 1)), (.val (.int .u8 0)), (.val (.int .i64 2)), (.val (.int .i64 10))]), (.agg [(.val (.int .u8 2)), (.val (.int .i64 2)), (.val (.int .u8 1)), (.val (.int .i64 4)), (.val (.int .i64 16))])]), (.val (.int .i64 0))]) := by kernel_rfl
theorem cr1 : pureWith (lookT tb4s) (cmdR (lookT tb4s) 100000) 11 [exBeds, .val (.int .i64 1)] ⟨.em, 0⟩ = some (.tup [(.list 5 true [(.agg [(.val (.int .u8 1)), (.val (.int .i64 0)), (.val (.int .u8 0)), (.val (.int .i64 2)), (.val (.int .i64 10))]), (.agg [(.val (.int .u8 1)), (.val (.int .i64 1)), (.val (.int .u8 0)), (.val (.int .i64 2)), (.val (.int .i64 10))]), (.agg [(.val (.int .u8 2)), (.val (.int .i64 0)), (.val (.int .u8 1)), (.val (.int .i64 2)), (.val (.int .i64 12))]), (.agg [(.val (.int .u8 2)), (.val (.int .i64 1)), (.val (.int .u8 1)), (.val (.int .i64 2)), (.val (.int .i64 12))]), (.agg [(.val (.int .u8 2)), (.val (.int .i64 2)), (.val (.int .u8 1)), (.val (.int .i64 4)), (.val (.int .i64 20))])]), (.val (.int .i64 0))]) := by kernel_rfl
theorem cr2 : pureWith (lookT tb4s) (cmdR (lookT tb4s) 100000) 9 [exBeds, .val (.int .i64 0), .val (.int .u8 1)] ⟨.em, 0⟩ = some (.tup [(.list 5 true [(.agg [(.val (.int .u8 2)), (.val (.int .i64 1)), (.val (.int .u8 1)), (.val (.int .i64 0)), (.val (.int .i64 (-1)))]), (.agg [(.val (.int .u8 2)), (.val (.int .i64 1)), (.val (.int .u8 1)), (.val (.int .i64 1)), (.val (.int .i64 (-1)))]), (.agg [(.val (.int .u8 2)), (.val (.int .i64 0)), (.val (.int .u8 1)), (.val (.int .i64 0)), (.val (.int .i64 (-1)))]), (.agg [(.val (.int .u8 2)), (.val (.int .i64 0)), (.val (.int .u8 1)), (.val (.int .i64 1)), (.val (.int .i64 (-1)))])]), (.val (.int .i64 0))]) := by kernel_rfl
theorem cr3 : pureWith (lookT tb4s) (cmdR (lookT tb4s) 100000) 9 [exBeds, .val (.int .i64 1), .val (.int .u8 0)] ⟨.em, 0⟩ = some (.tup [(.list 5 true [(.agg [(.val (.int .u8 1)), (.val (.int .i64 1)), (.val (.int .u8 2)), (.val (.int .i64 0)), (.val (.int .i64 1))]), (.agg [(.val (.int .u8 1)), (.val (.int .i64 0)), (.val (.int .u8 2)), (.val (.int .i64 0)), (.val (.int .i64 1))]), (.agg [(.val (.int .u8 1)), (.val (.int .i64 1)), (.val (.int .u8 2)), (.val (.int .i64 1)), (.val (.int .i64 1))]), (.agg [(.val (.int .u8 1)), (.val (.int .i64 0)), (.val (.int .u8 2)), (.val (.int .i64 1)), (.val (.int .i64 1))])]), (.val (.int .i64 0))]) := by kernel_rfl
theorem cr4 : pureWith (lookT tb4s) (cmdR (lookT tb4s) 100000) 9 [exBeds, .val (.int .i64 4), .val (.int .u8 1)] ⟨.em, 0⟩ = some (.tup [(.val (.slice none 0 0)), (.val (.int .i64 11))]) := by kernel_rfl
theorem cr5 : pureWith (lookT tb4s) (cmdR (lookT tb4s) 100000) 12 [exBeds, .val (.int .i64 0), .val (.int .u8 1), .val (.int .i64 9)] ⟨.em, 0⟩ = some (.tup [(.list 4 true [(.agg [(.val (.int .u8 2)), (.val (.int .i64 1)), (.val (.bool true)), (.val (.int .u8 0))]), (.agg [(.val (.int .u8 2)), (.val (.int .i64 0)), (.val (.bool true)), (.val (.int .u8 0))])]), (.val (.int .i64 0))]) := by kernel_rfl
theorem cr6 : pureWith (lookT tb4s) (cmdR (lookT tb4s) 100000) 12 [exBeds, .val (.int .i64 0), .val (.int .u8 1), .val (.int .i64 11)] ⟨.em, 0⟩ = some (.tup [(.list 4 true [(.agg [(.val (.int .u8 2)), (.val (.int .i64 1)), (.val (.bool true)), (.val (.int .u8 0))]), (.agg [(.val (.int .u8 2)), (.val (.int .i64 0)), (.val (.bool true)), (.val (.int .u8 0))])]), (.val (.int .i64 0))]) := by kernel_rfl
theorem cr7 : pureWith (lookT tb4s) (cmdR (lookT tb4s) 100000) 12 [exBeds, .val (.int .i64 0), .val (.int .u8 1), .val (.int .i64 13)] ⟨.em, 0⟩ = some (.tup [(.val (.slice none 0 0)), (.val (.int .i64 0))]) := by kernel_rfl
def natList : List AV → Option AV := natTab [([exBeds, .val (.int .i64 0)], (.tup [(.list 5 true [(.agg [(.val (.int .u8 2)), (.val (.int .i64 0)), (.val (.int .u8 1)), (.val (.int .i64 2)), (.val (.int .i64 8))]), (.agg [(.val (.int .u8 2)), (.val (.int .i64 1)), (.val (.int .u8 1)), (.val (.int .i64 2)), (.val (.int .i64 8))]), (.agg [(.val (.int .u8 1)), (.val (.int .i64 0)), (.val (.int .u8 0)), (.val (.int .i64 2)), (.val (.int .i64 10))]), (.agg [(.val (.int .u8 1)), (.val (.int .i64 1)), (.val (.int .u8 0)), (.val (.int .i64 2)), (.val (.int .i64 10))]), (.agg [(.val (.int .u8 2)), (.val (.int .i64 2)), (.val (.int .u8 1)), (.val (.int .i64 4)), (.val (.int .i64 16))])]), (.val (.int .i64 0))])), ([exBeds, .val (.int .i64 1)], (.tup [(.list 5 true [(.agg [(.val (.int .u8 1)), (.val (.int .i64 0)), (.val (.int .u8 0)), (.val (.int .i64 2)), (.val (.int .i64 10))]), (.agg [(.val (.int .u8 1)), (.val (.int .i64 1)), (.val (.int .u8 0)), (.val (.int .i64 2)), (.val (.int .i64 10))]), (.agg [(.val (.int .u8 2)), (.val (.int .i64 0)), (.val (.int .u8 1)), (.val (.int .i64 2)), (.val (.int .i64 12))]), (.agg [(.val (.int .u8 2)), (.val (.int .i64 1)), (.val (.int .u8 1)), (.val (.int .i64 2)), (.val (.int .i64 12))]), (.agg [(.val (.int .u8 2)), (.val (.int .i64 2)), (.val (.int .u8 1)), (.val (.int .i64 4)), (.val (.int .i64 20))])]), (.val (.int .i64 0))]))]
theorem natList_ok : ∀ (args : List AV) (r : AV), natList args = some r → PureA Try.prog 11 args r := natTab_ok fun p hp => by
  simp only [List.mem_cons, List.not_mem_nil, or_false] at hp
  rcases hp with rfl | rfl
  · exact run_ok mix tb4s_ok 100000 (by kernel_rfl) cr0
  · exact run_ok mix tb4s_ok 100000 (by kernel_rfl) cr1
def natStep : List AV → Option AV := natTab [([exBeds, .val (.int .i64 0), .val (.int .u8 1)], (.tup [(.list 5 true [(.agg [(.val (.int .u8 2)), (.val (.int .i64 1)), (.val (.int .u8 1)), (.val (.int .i64 0)), (.val (.int .i64 (-1)))]), (.agg [(.val (.int .u8 2)), (.val (.int .i64 1)), (.val (.int .u8 1)), (.val (.int .i64 1)), (.val (.int .i64 (-1)))]), (.agg [(.val (.int .u8 2)), (.val (.int .i64 0)), (.val (.int .u8 1)), (.val (.int .i64 0)), (.val (.int .i64 (-1)))]), (.agg [(.val (.int .u8 2)), (.val (.int .i64 0)), (.val (.int .u8 1)), (.val (.int .i64 1)), (.val (.int .i64 (-1)))])]), (.val (.int .i64 0))])), ([exBeds, .val (.int .i64 1), .val (.int .u8 0)], (.tup [(.list 5 true [(.agg [(.val (.int .u8 1)), (.val (.int .i64 1)), (.val (.int .u8 2)), (.val (.int .i64 0)), (.val (.int .i64 1))]), (.agg [(.val (.int .u8 1)), (.val (.int .i64 0)), (.val (.int .u8 2)), (.val (.int .i64 0)), (.val (.int .i64 1))]), (.agg [(.val (.int .u8 1)), (.val (.int .i64 1)), (.val (.int .u8 2)), (.val (.int .i64 1)), (.val (.int .i64 1))]), (.agg [(.val (.int .u8 1)), (.val (.int .i64 0)), (.val (.int .u8 2)), (.val (.int .i64 1)), (.val (.int .i64 1))])]), (.val (.int .i64 0))])), ([exBeds, .val (.int .i64 4), .val (.int .u8 1)], (.tup [(.val (.slice none 0 0)), (.val (.int .i64 11))]))]
theorem natStep_ok : ∀ (args : List AV) (r : AV), natStep args = some r → PureA Try.prog 9 args r := natTab_ok fun p hp => by
  simp only [List.mem_cons, List.not_mem_nil, or_false] at hp
  rcases hp with rfl | rfl | rfl
  · exact run_ok mix tb4s_ok 100000 (by kernel_rfl) cr2
  · exact run_ok mix tb4s_ok 100000 (by kernel_rfl) cr3
  · exact run_ok mix tb4s_ok 100000 (by kernel_rfl) cr4
def natMeets : List AV → Option AV := natTab [([exBeds, .val (.int .i64 0), .val (.int .u8 1), .val (.int .i64 9)], (.tup [(.list 4 true [(.agg [(.val (.int .u8 2)), (.val (.int .i64 1)), (.val (.bool true)), (.val (.int .u8 0))]), (.agg [(.val (.int .u8 2)), (.val (.int .i64 0)), (.val (.bool true)), (.val (.int .u8 0))])]), (.val (.int .i64 0))])), ([exBeds, .val (.int .i64 0), .val (.int .u8 1), .val (.int .i64 11)], (.tup [(.list 4 true [(.agg [(.val (.int .u8 2)), (.val (.int .i64 1)), (.val (.bool true)), (.val (.int .u8 0))]), (.agg [(.val (.int .u8 2)), (.val (.int .i64 0)), (.val (.bool true)), (.val (.int .u8 0))])]), (.val (.int .i64 0))])), ([exBeds, .val (.int .i64 0), .val (.int .u8 1), .val (.int .i64 13)], (.tup [(.val (.slice none 0 0)), (.val (.int .i64 0))]))]
theorem natMeets_ok : ∀ (args : List AV) (r : AV), natMeets args = some r → PureA Try.prog 12 args r := natTab_ok fun p hp => by
  simp only [List.mem_cons, List.not_mem_nil, or_false] at hp
  rcases hp with rfl | rfl | rfl
  · exact run_ok mix tb4s_ok 100000 (by kernel_rfl) cr5
  · exact run_ok mix tb4s_ok 100000 (by kernel_rfl) cr6
  · exact run_ok mix tb4s_ok 100000 (by kernel_rfl) cr7
def tb4 : List (FuncId × Fe) := [(10, .code c10 [.tmp 0] 0),
  (27, .code c27 [.cell true 2 0] 0),
  (11, .nat natList),
  (9, .nat natStep),
  (29, .code c29 [.tmp 2] 1),
  (28, .code c28 [.tmp 2] 1),
  (15, .code c15 [.tmp 6] 3),
  (16, .code c16 [.tmp 2] 1),
  (12, .nat natMeets),
  (40, .code c40 [] 1),
  (32, .code c32 [.tmp 2] 1)]
theorem tb4_ok : TabOK' Try.prog (lookT tb4) := lookT_ok fun p hp => by
  simp only [tb4, List.mem_cons, List.not_mem_nil, or_false] at hp
  rcases hp with rfl | rfl | rfl | rfl | rfl | rfl | rfl | rfl | rfl | rfl | rfl
  · exact ⟨k10, by kernel_rfl⟩
  · exact ⟨k27, by kernel_rfl⟩
  · exact natList_ok
  · exact natStep_ok
  · exact ⟨k29, by kernel_rfl⟩
  · exact ⟨k28, by kernel_rfl⟩
  · exact ⟨k15, by kernel_rfl⟩
  · exact ⟨k16, by kernel_rfl⟩
  · exact natMeets_ok
  · exact ⟨k40, by kernel_rfl⟩
  · exact ⟨k32, by kernel_rfl⟩

theorem lives4_run : pureWith (lookT tb4) (cmdR (lookT tb4) 100000) 10 [] ⟨.em, 0⟩ = some (.val (.bool true)) := by kernel_rfl
theorem lives4_ok : PureA Try.prog 10 [] (.val (.bool true)) := run_ok mix tb4_ok 100000 rfl lives4_run
end Go.Proofs.Ytlpngkeegjickab

namespace Go.Proofs.Ytlpngkeegjickab
open Go.Ab
attribute [local irreducible] WeakR WeakE CallA YieldA

/-- Two cells that stand for themselves. -/
structure Two (f b : AV) (es fs : List AV) (F B : List (List Id)) : Prop where
  f : IsB f es F
  b : IsB b fs B

theorem usual_err {f b : AV} {es fs : List AV} {F B : List (List Id)} (h : Two f b es fs F B) (he : checkL F B ≠ 0) (rack : Int) : PureA Try.prog 30 [.agg [f, b], .val (.int .i64 rack)] (.val (.int .i64 (checkL F B))) := by
  intro O
  have hck := Check_ok f b es fs F B h.f h.b
  have c1 := h.f.1.cells
  have c2 := h.b.1.cells
  have s1 := h.f.1.stor
  have s2 := h.b.1.stor
  generalize checkL F B = e at hck he ⊢
  have d : decide (e = 0) = false := decide_eq_false he
  clear he
  refine k30.call mix ?_
  unfold c30
  (repeat' first
    | simp (contextual := true) (maxSteps := 4000000) only [fwc, fwe, cmd_seq, opsW_gpure, drawW_pure, drawW_gpure, Env.upd_apply, Heap.upd_same, Heap.upd_apply, ite_none, List.getD_cons_zero, List.getD_cons_succ, List.getD_nil, List.length_cons, List.length_nil, List.map_cons, List.map_nil, List.getElem?_cons_zero, List.getElem?_cons_succ, List.getElem?_nil, List.set_cons_zero, List.set_cons_succ, List.take_succ_cons, List.take_zero, List.drop_succ_cons, List.drop_zero, List.nil_append, List.cons_append, List.append_nil, Option.map_some, Option.map_none, Option.bind_some, Option.bind_none, reduceIte, ↓reduceIte, decide_true, decide_false, Bool.true_and, Bool.and_true, Bool.false_and, Bool.and_false, true_and, and_true, and_self, Nat.reduceAdd, Nat.reduceLeDiff, Nat.reduceEqDiff, Nat.zero_add, Nat.add_zero, Nat.le_refl, Nat.zero_le, ge_iff_le, Nat.reduceLT, Nat.zero_lt_succ, Nat.reduceSub, if_true, if_false, forall_const, reduceCtorEq, Bool.not_true, Bool.not_false, Bool.false_eq_true, Int.reduceEq, Int.reduceLT, Int.reduceLE, Int.reduceNeg, Int.reduceToNat, Int.reduceAdd, Int.reduceSub, Nat.reduceMul, Nat.reduceEqDiff, gW_un, gcF_un, gcA_un, ci_mkmap, ci_mapset, ci_lookup, ci_maxl, ci_appz, pi_lookup, pi_maxl, pu_lookup, pu_maxl, maxl_nil, maxl_one, maxl_cons, cells_mapr, stor_mapr, callv_yld, mm_max, mm_min, putAll_cons, putAll_nil, asgK_normal, roundK_normal, roundK_ret, roundK_exit, part_cell, part_agg, *]
    | (refine seqK_now ?_)
    | (refine retK_now ?_)
    | (refine retK_now' ?_)
    | (intro q hq)
    | (refine cond_intro (fun hc => ?_) (fun hc => ?_)))
  refine hck.use ?_
  (repeat' first
    | simp (contextual := true) (maxSteps := 4000000) only [fwc, fwe, cmd_seq, opsW_gpure, drawW_pure, drawW_gpure, Env.upd_apply, Heap.upd_same, Heap.upd_apply, ite_none, List.getD_cons_zero, List.getD_cons_succ, List.getD_nil, List.length_cons, List.length_nil, List.map_cons, List.map_nil, List.getElem?_cons_zero, List.getElem?_cons_succ, List.getElem?_nil, List.set_cons_zero, List.set_cons_succ, List.take_succ_cons, List.take_zero, List.drop_succ_cons, List.drop_zero, List.nil_append, List.cons_append, List.append_nil, Option.map_some, Option.map_none, Option.bind_some, Option.bind_none, reduceIte, ↓reduceIte, decide_true, decide_false, Bool.true_and, Bool.and_true, Bool.false_and, Bool.and_false, true_and, and_true, and_self, Nat.reduceAdd, Nat.reduceLeDiff, Nat.reduceEqDiff, Nat.zero_add, Nat.add_zero, Nat.le_refl, Nat.zero_le, ge_iff_le, Nat.reduceLT, Nat.zero_lt_succ, Nat.reduceSub, if_true, if_false, forall_const, reduceCtorEq, Bool.not_true, Bool.not_false, Bool.false_eq_true, Int.reduceEq, Int.reduceLT, Int.reduceLE, Int.reduceNeg, Int.reduceToNat, Int.reduceAdd, Int.reduceSub, Nat.reduceMul, Nat.reduceEqDiff, gW_un, gcF_un, gcA_un, ci_mkmap, ci_mapset, ci_lookup, ci_maxl, ci_appz, pi_lookup, pi_maxl, pu_lookup, pu_maxl, maxl_nil, maxl_one, maxl_cons, cells_mapr, stor_mapr, callv_yld, mm_max, mm_min, putAll_cons, putAll_nil, asgK_normal, roundK_normal, roundK_ret, roundK_exit, part_cell, part_agg, *]
    | (refine seqK_now ?_)
    | (refine retK_now ?_)
    | (refine retK_now' ?_)
    | (intro q hq)
    | (refine cond_intro (fun hc => ?_) (fun hc => ?_)))
  refine WeakR.pure (by repeat (first | exact Heap.sub_refl _ | refine sub_upd (by simp only [*]) ?_)) ?_
  rfl
theorem movable_err {f b : AV} {es fs : List AV} {F B : List (List Id)} (h : Two f b es fs F B) (he : checkL F B ≠ 0) (rack d : Int) : PureA Try.prog 20 [.agg [f, b], .val (.int .i64 rack), .val (.int .u8 d)] (.val (.int .i64 (checkL F B))) := by
  intro O
  have hck := usual_err h he rack
  have c1 := h.f.1.cells
  have c2 := h.b.1.cells
  have s1 := h.f.1.stor
  have s2 := h.b.1.stor
  generalize checkL F B = e at hck he ⊢
  have dd : decide (e = 0) = false := decide_eq_false he
  clear he
  refine k20.call mix ?_
  unfold c20
  (repeat' first
    | simp (contextual := true) (maxSteps := 4000000) only [fwc, fwe, cmd_seq, opsW_gpure, drawW_pure, drawW_gpure, Env.upd_apply, Heap.upd_same, Heap.upd_apply, ite_none, List.getD_cons_zero, List.getD_cons_succ, List.getD_nil, List.length_cons, List.length_nil, List.map_cons, List.map_nil, List.getElem?_cons_zero, List.getElem?_cons_succ, List.getElem?_nil, List.set_cons_zero, List.set_cons_succ, List.take_succ_cons, List.take_zero, List.drop_succ_cons, List.drop_zero, List.nil_append, List.cons_append, List.append_nil, Option.map_some, Option.map_none, Option.bind_some, Option.bind_none, reduceIte, ↓reduceIte, decide_true, decide_false, Bool.true_and, Bool.and_true, Bool.false_and, Bool.and_false, true_and, and_true, and_self, Nat.reduceAdd, Nat.reduceLeDiff, Nat.reduceEqDiff, Nat.zero_add, Nat.add_zero, Nat.le_refl, Nat.zero_le, ge_iff_le, Nat.reduceLT, Nat.zero_lt_succ, Nat.reduceSub, if_true, if_false, forall_const, reduceCtorEq, Bool.not_true, Bool.not_false, Bool.false_eq_true, Int.reduceEq, Int.reduceLT, Int.reduceLE, Int.reduceNeg, Int.reduceToNat, Int.reduceAdd, Int.reduceSub, Nat.reduceMul, Nat.reduceEqDiff, gW_un, gcF_un, gcA_un, ci_mkmap, ci_mapset, ci_lookup, ci_maxl, ci_appz, pi_lookup, pi_maxl, pu_lookup, pu_maxl, maxl_nil, maxl_one, maxl_cons, cells_mapr, stor_mapr, callv_yld, mm_max, mm_min, putAll_cons, putAll_nil, asgK_normal, roundK_normal, roundK_ret, roundK_exit, part_cell, part_agg, *]
    | (refine seqK_now ?_)
    | (refine retK_now ?_)
    | (refine retK_now' ?_)
    | (intro q hq)
    | (refine cond_intro (fun hc => ?_) (fun hc => ?_)))
  refine hck.use ?_
  (repeat' first
    | simp (contextual := true) (maxSteps := 4000000) only [fwc, fwe, cmd_seq, opsW_gpure, drawW_pure, drawW_gpure, Env.upd_apply, Heap.upd_same, Heap.upd_apply, ite_none, List.getD_cons_zero, List.getD_cons_succ, List.getD_nil, List.length_cons, List.length_nil, List.map_cons, List.map_nil, List.getElem?_cons_zero, List.getElem?_cons_succ, List.getElem?_nil, List.set_cons_zero, List.set_cons_succ, List.take_succ_cons, List.take_zero, List.drop_succ_cons, List.drop_zero, List.nil_append, List.cons_append, List.append_nil, Option.map_some, Option.map_none, Option.bind_some, Option.bind_none, reduceIte, ↓reduceIte, decide_true, decide_false, Bool.true_and, Bool.and_true, Bool.false_and, Bool.and_false, true_and, and_true, and_self, Nat.reduceAdd, Nat.reduceLeDiff, Nat.reduceEqDiff, Nat.zero_add, Nat.add_zero, Nat.le_refl, Nat.zero_le, ge_iff_le, Nat.reduceLT, Nat.zero_lt_succ, Nat.reduceSub, if_true, if_false, forall_const, reduceCtorEq, Bool.not_true, Bool.not_false, Bool.false_eq_true, Int.reduceEq, Int.reduceLT, Int.reduceLE, Int.reduceNeg, Int.reduceToNat, Int.reduceAdd, Int.reduceSub, Nat.reduceMul, Nat.reduceEqDiff, gW_un, gcF_un, gcA_un, ci_mkmap, ci_mapset, ci_lookup, ci_maxl, ci_appz, pi_lookup, pi_maxl, pu_lookup, pu_maxl, maxl_nil, maxl_one, maxl_cons, cells_mapr, stor_mapr, callv_yld, mm_max, mm_min, putAll_cons, putAll_nil, asgK_normal, roundK_normal, roundK_ret, roundK_exit, part_cell, part_agg, *]
    | (refine seqK_now ?_)
    | (refine retK_now ?_)
    | (refine retK_now' ?_)
    | (intro q hq)
    | (refine cond_intro (fun hc => ?_) (fun hc => ?_)))
  refine WeakR.pure (by repeat (first | exact Heap.sub_refl _ | refine sub_upd (by simp only [*]) ?_)) ?_
  rfl
theorem List_err {f b : AV} {es fs : List AV} {F B : List (List Id)} (h : Two f b es fs F B) (he : checkL F B ≠ 0) (rack : Int) : PureA Try.prog 11 [.agg [f, b], .val (.int .i64 rack)] (.tup [.val (.slice none 0 0), .val (.int .i64 (checkL F B))]) := by
  intro O
  have hck := usual_err h he rack
  have c1 := h.f.1.cells
  have c2 := h.b.1.cells
  have s1 := h.f.1.stor
  have s2 := h.b.1.stor
  generalize checkL F B = e at hck he ⊢
  have dd : decide (e = 0) = false := decide_eq_false he
  clear he
  refine k11.call mix ?_
  unfold c11
  (repeat' first
    | simp (contextual := true) (maxSteps := 4000000) only [fwc, fwe, cmd_seq, opsW_gpure, drawW_pure, drawW_gpure, Env.upd_apply, Heap.upd_same, Heap.upd_apply, ite_none, List.getD_cons_zero, List.getD_cons_succ, List.getD_nil, List.length_cons, List.length_nil, List.map_cons, List.map_nil, List.getElem?_cons_zero, List.getElem?_cons_succ, List.getElem?_nil, List.set_cons_zero, List.set_cons_succ, List.take_succ_cons, List.take_zero, List.drop_succ_cons, List.drop_zero, List.nil_append, List.cons_append, List.append_nil, Option.map_some, Option.map_none, Option.bind_some, Option.bind_none, reduceIte, ↓reduceIte, decide_true, decide_false, Bool.true_and, Bool.and_true, Bool.false_and, Bool.and_false, true_and, and_true, and_self, Nat.reduceAdd, Nat.reduceLeDiff, Nat.reduceEqDiff, Nat.zero_add, Nat.add_zero, Nat.le_refl, Nat.zero_le, ge_iff_le, Nat.reduceLT, Nat.zero_lt_succ, Nat.reduceSub, if_true, if_false, forall_const, reduceCtorEq, Bool.not_true, Bool.not_false, Bool.false_eq_true, Int.reduceEq, Int.reduceLT, Int.reduceLE, Int.reduceNeg, Int.reduceToNat, Int.reduceAdd, Int.reduceSub, Nat.reduceMul, Nat.reduceEqDiff, gW_un, gcF_un, gcA_un, ci_mkmap, ci_mapset, ci_lookup, ci_maxl, ci_appz, pi_lookup, pi_maxl, pu_lookup, pu_maxl, maxl_nil, maxl_one, maxl_cons, cells_mapr, stor_mapr, callv_yld, mm_max, mm_min, putAll_cons, putAll_nil, asgK_normal, roundK_normal, roundK_ret, roundK_exit, part_cell, part_agg, *]
    | (refine seqK_now ?_)
    | (refine retK_now ?_)
    | (refine retK_now' ?_)
    | (intro q hq)
    | (refine cond_intro (fun hc => ?_) (fun hc => ?_)))
  refine hck.use ?_
  (repeat' first
    | simp (contextual := true) (maxSteps := 4000000) only [fwc, fwe, cmd_seq, opsW_gpure, drawW_pure, drawW_gpure, Env.upd_apply, Heap.upd_same, Heap.upd_apply, ite_none, List.getD_cons_zero, List.getD_cons_succ, List.getD_nil, List.length_cons, List.length_nil, List.map_cons, List.map_nil, List.getElem?_cons_zero, List.getElem?_cons_succ, List.getElem?_nil, List.set_cons_zero, List.set_cons_succ, List.take_succ_cons, List.take_zero, List.drop_succ_cons, List.drop_zero, List.nil_append, List.cons_append, List.append_nil, Option.map_some, Option.map_none, Option.bind_some, Option.bind_none, reduceIte, ↓reduceIte, decide_true, decide_false, Bool.true_and, Bool.and_true, Bool.false_and, Bool.and_false, true_and, and_true, and_self, Nat.reduceAdd, Nat.reduceLeDiff, Nat.reduceEqDiff, Nat.zero_add, Nat.add_zero, Nat.le_refl, Nat.zero_le, ge_iff_le, Nat.reduceLT, Nat.zero_lt_succ, Nat.reduceSub, if_true, if_false, forall_const, reduceCtorEq, Bool.not_true, Bool.not_false, Bool.false_eq_true, Int.reduceEq, Int.reduceLT, Int.reduceLE, Int.reduceNeg, Int.reduceToNat, Int.reduceAdd, Int.reduceSub, Nat.reduceMul, Nat.reduceEqDiff, gW_un, gcF_un, gcA_un, ci_mkmap, ci_mapset, ci_lookup, ci_maxl, ci_appz, pi_lookup, pi_maxl, pu_lookup, pu_maxl, maxl_nil, maxl_one, maxl_cons, cells_mapr, stor_mapr, callv_yld, mm_max, mm_min, putAll_cons, putAll_nil, asgK_normal, roundK_normal, roundK_ret, roundK_exit, part_cell, part_agg, *]
    | (refine seqK_now ?_)
    | (refine retK_now ?_)
    | (refine retK_now' ?_)
    | (intro q hq)
    | (refine cond_intro (fun hc => ?_) (fun hc => ?_)))
  refine WeakR.pure (by repeat (first | exact Heap.sub_refl _ | refine sub_upd (by simp only [*]) ?_)) ?_
  rfl
theorem Step_err {f b : AV} {es fs : List AV} {F B : List (List Id)} (h : Two f b es fs F B) (he : checkL F B ≠ 0) (rack d : Int) : PureA Try.prog 9 [.agg [f, b], .val (.int .i64 rack), .val (.int .u8 d)] (.tup [.val (.slice none 0 0), .val (.int .i64 (checkL F B))]) := by
  intro O
  have hck := movable_err h he rack d
  have c1 := h.f.1.cells
  have c2 := h.b.1.cells
  have s1 := h.f.1.stor
  have s2 := h.b.1.stor
  generalize checkL F B = e at hck he ⊢
  have dd : decide (e = 0) = false := decide_eq_false he
  clear he
  refine k9.call mix ?_
  unfold c9
  refine seq_go ?_
  (repeat' first
    | simp (contextual := true) (maxSteps := 4000000) only [fwc, fwe, opsW_gpure, drawW_pure, drawW_gpure, Env.upd_apply, Heap.upd_same, Heap.upd_apply, ite_none, List.getD_cons_zero, List.getD_cons_succ, List.getD_nil, List.length_cons, List.length_nil, List.map_cons, List.map_nil, List.getElem?_cons_zero, List.getElem?_cons_succ, List.getElem?_nil, List.set_cons_zero, List.set_cons_succ, List.take_succ_cons, List.take_zero, List.drop_succ_cons, List.drop_zero, List.nil_append, List.cons_append, List.append_nil, Option.map_some, Option.map_none, Option.bind_some, Option.bind_none, reduceIte, ↓reduceIte, decide_true, decide_false, Bool.true_and, Bool.and_true, Bool.false_and, Bool.and_false, true_and, and_true, and_self, Nat.reduceAdd, Nat.reduceLeDiff, Nat.reduceEqDiff, Nat.zero_add, Nat.add_zero, Nat.le_refl, Nat.zero_le, ge_iff_le, Nat.reduceLT, Nat.zero_lt_succ, Nat.reduceSub, if_true, if_false, forall_const, reduceCtorEq, Bool.not_true, Bool.not_false, Bool.false_eq_true, Int.reduceEq, Int.reduceLT, Int.reduceLE, Int.reduceNeg, Int.reduceToNat, Int.reduceAdd, Int.reduceSub, Nat.reduceMul, Nat.reduceEqDiff, gW_un, gcF_un, gcA_un, ci_mkmap, ci_mapset, ci_lookup, ci_maxl, ci_appz, pi_lookup, pi_maxl, pu_lookup, pu_maxl, maxl_nil, maxl_one, maxl_cons, cells_mapr, stor_mapr, callv_yld, mm_max, mm_min, putAll_cons, putAll_nil, asgK_normal, roundK_normal, roundK_ret, roundK_exit, part_cell, part_agg, *]
    | (refine retK_now ?_)
    | (refine retK_now' ?_)
    | (intro q hq)
    | (refine cond_intro (fun hc => ?_) (fun hc => ?_)))
  refine seqK_now ?_
  refine seq_go ?_
  (repeat' first
    | simp (contextual := true) (maxSteps := 4000000) only [fwc, fwe, cmd_seq, opsW_gpure, drawW_pure, drawW_gpure, Env.upd_apply, Heap.upd_same, Heap.upd_apply, ite_none, List.getD_cons_zero, List.getD_cons_succ, List.getD_nil, List.length_cons, List.length_nil, List.map_cons, List.map_nil, List.getElem?_cons_zero, List.getElem?_cons_succ, List.getElem?_nil, List.set_cons_zero, List.set_cons_succ, List.take_succ_cons, List.take_zero, List.drop_succ_cons, List.drop_zero, List.nil_append, List.cons_append, List.append_nil, Option.map_some, Option.map_none, Option.bind_some, Option.bind_none, reduceIte, ↓reduceIte, decide_true, decide_false, Bool.true_and, Bool.and_true, Bool.false_and, Bool.and_false, true_and, and_true, and_self, Nat.reduceAdd, Nat.reduceLeDiff, Nat.reduceEqDiff, Nat.zero_add, Nat.add_zero, Nat.le_refl, Nat.zero_le, ge_iff_le, Nat.reduceLT, Nat.zero_lt_succ, Nat.reduceSub, if_true, if_false, forall_const, reduceCtorEq, Bool.not_true, Bool.not_false, Bool.false_eq_true, Int.reduceEq, Int.reduceLT, Int.reduceLE, Int.reduceNeg, Int.reduceToNat, Int.reduceAdd, Int.reduceSub, Nat.reduceMul, Nat.reduceEqDiff, gW_un, gcF_un, gcA_un, ci_mkmap, ci_mapset, ci_lookup, ci_maxl, ci_appz, pi_lookup, pi_maxl, pu_lookup, pu_maxl, maxl_nil, maxl_one, maxl_cons, cells_mapr, stor_mapr, callv_yld, mm_max, mm_min, putAll_cons, putAll_nil, asgK_normal, roundK_normal, roundK_ret, roundK_exit, part_cell, part_agg, *]
    | (refine seqK_now ?_)
    | (refine retK_now ?_)
    | (refine retK_now' ?_)
    | (intro q hq)
    | (refine cond_intro (fun hc => ?_) (fun hc => ?_)))
  refine hck.use ?_
  (repeat' first
    | simp (contextual := true) (maxSteps := 4000000) only [fwc, fwe, cmd_seq, opsW_gpure, drawW_pure, drawW_gpure, Env.upd_apply, Heap.upd_same, Heap.upd_apply, ite_none, List.getD_cons_zero, List.getD_cons_succ, List.getD_nil, List.length_cons, List.length_nil, List.map_cons, List.map_nil, List.getElem?_cons_zero, List.getElem?_cons_succ, List.getElem?_nil, List.set_cons_zero, List.set_cons_succ, List.take_succ_cons, List.take_zero, List.drop_succ_cons, List.drop_zero, List.nil_append, List.cons_append, List.append_nil, Option.map_some, Option.map_none, Option.bind_some, Option.bind_none, reduceIte, ↓reduceIte, decide_true, decide_false, Bool.true_and, Bool.and_true, Bool.false_and, Bool.and_false, true_and, and_true, and_self, Nat.reduceAdd, Nat.reduceLeDiff, Nat.reduceEqDiff, Nat.zero_add, Nat.add_zero, Nat.le_refl, Nat.zero_le, ge_iff_le, Nat.reduceLT, Nat.zero_lt_succ, Nat.reduceSub, if_true, if_false, forall_const, reduceCtorEq, Bool.not_true, Bool.not_false, Bool.false_eq_true, Int.reduceEq, Int.reduceLT, Int.reduceLE, Int.reduceNeg, Int.reduceToNat, Int.reduceAdd, Int.reduceSub, Nat.reduceMul, Nat.reduceEqDiff, gW_un, gcF_un, gcA_un, ci_mkmap, ci_mapset, ci_lookup, ci_maxl, ci_appz, pi_lookup, pi_maxl, pu_lookup, pu_maxl, maxl_nil, maxl_one, maxl_cons, cells_mapr, stor_mapr, callv_yld, mm_max, mm_min, putAll_cons, putAll_nil, asgK_normal, roundK_normal, roundK_ret, roundK_exit, part_cell, part_agg, *]
    | (refine seqK_now ?_)
    | (refine retK_now ?_)
    | (refine retK_now' ?_)
    | (intro q hq)
    | (refine cond_intro (fun hc => ?_) (fun hc => ?_)))
  refine WeakR.pure (by repeat (first | exact Heap.sub_refl _ | refine sub_upd (by simp only [*]) ?_)) ?_
  rfl
theorem Meets_err {f b : AV} {es fs : List AV} {F B : List (List Id)} (h : Two f b es fs F B) (he : checkL F B ≠ 0) (rack d p : Int) : PureA Try.prog 12 [.agg [f, b], .val (.int .i64 rack), .val (.int .u8 d), .val (.int .i64 p)] (.tup [.val (.slice none 0 0), .val (.int .i64 (checkL F B))]) := by
  intro O
  have hck := movable_err h he rack d
  have c1 := h.f.1.cells
  have c2 := h.b.1.cells
  have s1 := h.f.1.stor
  have s2 := h.b.1.stor
  generalize checkL F B = e at hck he ⊢
  have dd : decide (e = 0) = false := decide_eq_false he
  clear he
  refine k12.call mix ?_
  unfold c12
  refine seq_go ?_
  (repeat' first
    | simp (contextual := true) (maxSteps := 4000000) only [fwc, fwe, opsW_gpure, drawW_pure, drawW_gpure, Env.upd_apply, Heap.upd_same, Heap.upd_apply, ite_none, List.getD_cons_zero, List.getD_cons_succ, List.getD_nil, List.length_cons, List.length_nil, List.map_cons, List.map_nil, List.getElem?_cons_zero, List.getElem?_cons_succ, List.getElem?_nil, List.set_cons_zero, List.set_cons_succ, List.take_succ_cons, List.take_zero, List.drop_succ_cons, List.drop_zero, List.nil_append, List.cons_append, List.append_nil, Option.map_some, Option.map_none, Option.bind_some, Option.bind_none, reduceIte, ↓reduceIte, decide_true, decide_false, Bool.true_and, Bool.and_true, Bool.false_and, Bool.and_false, true_and, and_true, and_self, Nat.reduceAdd, Nat.reduceLeDiff, Nat.reduceEqDiff, Nat.zero_add, Nat.add_zero, Nat.le_refl, Nat.zero_le, ge_iff_le, Nat.reduceLT, Nat.zero_lt_succ, Nat.reduceSub, if_true, if_false, forall_const, reduceCtorEq, Bool.not_true, Bool.not_false, Bool.false_eq_true, Int.reduceEq, Int.reduceLT, Int.reduceLE, Int.reduceNeg, Int.reduceToNat, Int.reduceAdd, Int.reduceSub, Nat.reduceMul, Nat.reduceEqDiff, gW_un, gcF_un, gcA_un, ci_mkmap, ci_mapset, ci_lookup, ci_maxl, ci_appz, pi_lookup, pi_maxl, pu_lookup, pu_maxl, maxl_nil, maxl_one, maxl_cons, cells_mapr, stor_mapr, callv_yld, mm_max, mm_min, putAll_cons, putAll_nil, asgK_normal, roundK_normal, roundK_ret, roundK_exit, part_cell, part_agg, *]
    | (refine retK_now ?_)
    | (refine retK_now' ?_)
    | (intro q hq)
    | (refine cond_intro (fun hc => ?_) (fun hc => ?_)))
  refine seqK_now ?_
  refine seq_go ?_
  (repeat' first
    | simp (contextual := true) (maxSteps := 4000000) only [fwc, fwe, cmd_seq, opsW_gpure, drawW_pure, drawW_gpure, Env.upd_apply, Heap.upd_same, Heap.upd_apply, ite_none, List.getD_cons_zero, List.getD_cons_succ, List.getD_nil, List.length_cons, List.length_nil, List.map_cons, List.map_nil, List.getElem?_cons_zero, List.getElem?_cons_succ, List.getElem?_nil, List.set_cons_zero, List.set_cons_succ, List.take_succ_cons, List.take_zero, List.drop_succ_cons, List.drop_zero, List.nil_append, List.cons_append, List.append_nil, Option.map_some, Option.map_none, Option.bind_some, Option.bind_none, reduceIte, ↓reduceIte, decide_true, decide_false, Bool.true_and, Bool.and_true, Bool.false_and, Bool.and_false, true_and, and_true, and_self, Nat.reduceAdd, Nat.reduceLeDiff, Nat.reduceEqDiff, Nat.zero_add, Nat.add_zero, Nat.le_refl, Nat.zero_le, ge_iff_le, Nat.reduceLT, Nat.zero_lt_succ, Nat.reduceSub, if_true, if_false, forall_const, reduceCtorEq, Bool.not_true, Bool.not_false, Bool.false_eq_true, Int.reduceEq, Int.reduceLT, Int.reduceLE, Int.reduceNeg, Int.reduceToNat, Int.reduceAdd, Int.reduceSub, Nat.reduceMul, Nat.reduceEqDiff, gW_un, gcF_un, gcA_un, ci_mkmap, ci_mapset, ci_lookup, ci_maxl, ci_appz, pi_lookup, pi_maxl, pu_lookup, pu_maxl, maxl_nil, maxl_one, maxl_cons, cells_mapr, stor_mapr, callv_yld, mm_max, mm_min, putAll_cons, putAll_nil, asgK_normal, roundK_normal, roundK_ret, roundK_exit, part_cell, part_agg, *]
    | (refine seqK_now ?_)
    | (refine retK_now ?_)
    | (refine retK_now' ?_)
    | (intro q hq)
    | (refine cond_intro (fun hc => ?_) (fun hc => ?_)))
  refine hck.use ?_
  (repeat' first
    | simp (contextual := true) (maxSteps := 4000000) only [fwc, fwe, cmd_seq, opsW_gpure, drawW_pure, drawW_gpure, Env.upd_apply, Heap.upd_same, Heap.upd_apply, ite_none, List.getD_cons_zero, List.getD_cons_succ, List.getD_nil, List.length_cons, List.length_nil, List.map_cons, List.map_nil, List.getElem?_cons_zero, List.getElem?_cons_succ, List.getElem?_nil, List.set_cons_zero, List.set_cons_succ, List.take_succ_cons, List.take_zero, List.drop_succ_cons, List.drop_zero, List.nil_append, List.cons_append, List.append_nil, Option.map_some, Option.map_none, Option.bind_some, Option.bind_none, reduceIte, ↓reduceIte, decide_true, decide_false, Bool.true_and, Bool.and_true, Bool.false_and, Bool.and_false, true_and, and_true, and_self, Nat.reduceAdd, Nat.reduceLeDiff, Nat.reduceEqDiff, Nat.zero_add, Nat.add_zero, Nat.le_refl, Nat.zero_le, ge_iff_le, Nat.reduceLT, Nat.zero_lt_succ, Nat.reduceSub, if_true, if_false, forall_const, reduceCtorEq, Bool.not_true, Bool.not_false, Bool.false_eq_true, Int.reduceEq, Int.reduceLT, Int.reduceLE, Int.reduceNeg, Int.reduceToNat, Int.reduceAdd, Int.reduceSub, Nat.reduceMul, Nat.reduceEqDiff, gW_un, gcF_un, gcA_un, ci_mkmap, ci_mapset, ci_lookup, ci_maxl, ci_appz, pi_lookup, pi_maxl, pu_lookup, pu_maxl, maxl_nil, maxl_one, maxl_cons, cells_mapr, stor_mapr, callv_yld, mm_max, mm_min, putAll_cons, putAll_nil, asgK_normal, roundK_normal, roundK_ret, roundK_exit, part_cell, part_agg, *]
    | (refine seqK_now ?_)
    | (refine retK_now ?_)
    | (refine retK_now' ?_)
    | (intro q hq)
    | (refine cond_intro (fun hc => ?_) (fun hc => ?_)))
  refine WeakR.pure (by repeat (first | exact Heap.sub_refl _ | refine sub_upd (by simp only [*]) ?_)) ?_
  rfl

def env5 (k q : Nat) (rack : Int) (i : Nat) : Env := ((Env.upd (fun _ => .junk) k (.val (.int .i64 i))).upd 2 (.optr q 2 0 0)).upd 1 (.val (.int .i64 rack))

set_option maxHeartbeats 4000000 in
theorem OrdersErrors_ok {f b : AV} {es fs : List AV} {F B : List (List Id)} (h : Two f b es fs F B) (rack : Int) (hF : F.length ≤ 9223372036854775807) (hB : B.length ≤ 9223372036854775807) : PureA Try.prog 5 [.agg [f, b], .val (.int .i64 rack)] (.val (.bool true)) := by
  intro O
  have hck := Check_ok f b es fs F B h.f h.b
  have c1 := h.f.1.cells
  have c2 := h.b.1.cells
  have s1 := h.f.1.stor
  have s2 := h.b.1.stor
  have l1 := h.f.1.len
  have l2 := h.b.1.len
  rw [h.f.2.1] at l1
  rw [h.b.2.1] at l2
  have d0 : decide ((45 : Int) < (F.length : Int)) = decide (45 < F.length) := decide_eq_decide.2 (by omega)
  have d0' : decide ((45 : Int) < (B.length : Int)) = decide (45 < B.length) := decide_eq_decide.2 (by omega)
  refine k5.call mix ?_
  unfold c5
  refine seq_go ?_
  (repeat' first
    | simp (contextual := true) (maxSteps := 4000000) only [fwc, fwe, opsW_gpure, drawW_pure, drawW_gpure, Env.upd_apply, Heap.upd_same, Heap.upd_apply, ite_none, List.getD_cons_zero, List.getD_cons_succ, List.getD_nil, List.length_cons, List.length_nil, List.map_cons, List.map_nil, List.getElem?_cons_zero, List.getElem?_cons_succ, List.getElem?_nil, List.set_cons_zero, List.set_cons_succ, List.take_succ_cons, List.take_zero, List.drop_succ_cons, List.drop_zero, List.nil_append, List.cons_append, List.append_nil, Option.map_some, Option.map_none, Option.bind_some, Option.bind_none, reduceIte, ↓reduceIte, decide_true, decide_false, Bool.true_and, Bool.and_true, Bool.false_and, Bool.and_false, true_and, and_true, and_self, Nat.reduceAdd, Nat.reduceLeDiff, Nat.reduceEqDiff, Nat.zero_add, Nat.add_zero, Nat.le_refl, Nat.zero_le, ge_iff_le, Nat.reduceLT, Nat.zero_lt_succ, Nat.reduceSub, if_true, if_false, forall_const, reduceCtorEq, Bool.not_true, Bool.not_false, Bool.false_eq_true, Int.reduceEq, Int.reduceLT, Int.reduceLE, Int.reduceNeg, Int.reduceToNat, Int.reduceAdd, Int.reduceSub, Nat.reduceMul, Nat.reduceEqDiff, gW_un, gcF_un, gcA_un, ci_mkmap, ci_mapset, ci_lookup, ci_maxl, ci_appz, pi_lookup, pi_maxl, pu_lookup, pu_maxl, maxl_nil, maxl_one, maxl_cons, cells_mapr, stor_mapr, callv_yld, mm_max, mm_min, putAll_cons, putAll_nil, asgK_normal, roundK_normal, roundK_ret, roundK_exit, part_cell, part_agg, *]
    | (refine retK_now ?_)
    | (refine retK_now' ?_)
    | (intro q hq)
    | (refine cond_intro (fun hc => ?_) (fun hc => ?_)))
  revert q
  intro q hq
  refine seqK_now ?_
  refine seq_go ?_
  refine seq_go ?_
  (repeat' first
    | simp (contextual := true) (maxSteps := 4000000) only [fwc, fwe, opsW_gpure, drawW_pure, drawW_gpure, Env.upd_apply, Heap.upd_same, Heap.upd_apply, ite_none, List.getD_cons_zero, List.getD_cons_succ, List.getD_nil, List.length_cons, List.length_nil, List.map_cons, List.map_nil, List.getElem?_cons_zero, List.getElem?_cons_succ, List.getElem?_nil, List.set_cons_zero, List.set_cons_succ, List.take_succ_cons, List.take_zero, List.drop_succ_cons, List.drop_zero, List.nil_append, List.cons_append, List.append_nil, Option.map_some, Option.map_none, Option.bind_some, Option.bind_none, reduceIte, ↓reduceIte, decide_true, decide_false, Bool.true_and, Bool.and_true, Bool.false_and, Bool.and_false, true_and, and_true, and_self, Nat.reduceAdd, Nat.reduceLeDiff, Nat.reduceEqDiff, Nat.zero_add, Nat.add_zero, Nat.le_refl, Nat.zero_le, ge_iff_le, Nat.reduceLT, Nat.zero_lt_succ, Nat.reduceSub, if_true, if_false, forall_const, reduceCtorEq, Bool.not_true, Bool.not_false, Bool.false_eq_true, Int.reduceEq, Int.reduceLT, Int.reduceLE, Int.reduceNeg, Int.reduceToNat, Int.reduceAdd, Int.reduceSub, Nat.reduceMul, Nat.reduceEqDiff, gW_un, gcF_un, gcA_un, ci_mkmap, ci_mapset, ci_lookup, ci_maxl, ci_appz, pi_lookup, pi_maxl, pu_lookup, pu_maxl, maxl_nil, maxl_one, maxl_cons, cells_mapr, stor_mapr, callv_yld, mm_max, mm_min, putAll_cons, putAll_nil, asgK_normal, roundK_normal, roundK_ret, roundK_exit, part_cell, part_agg, *]
    | (refine retK_now ?_)
    | (refine retK_now' ?_)
    | (intro q hq)
    | (refine cond_intro (fun hc => ?_) (fun hc => ?_)))
  refine seqK_now ?_
  have hl : ∀ H : Heap, O.sub H → ∀ K : AV → Heap → Prop, K (.val (.bool true)) H → CallA Try.prog 10 [] H K := fun H _ K hK => lives4_ok.use hK
  by_cases h45 : (45 < F.length) ∨ (45 < B.length)
  · have d1 : (decide (45 < F.length) || decide (45 < B.length)) = true := by simpa using h45
    replace h45 := (show Aside _ from h45)
    (repeat' first
    | simp (contextual := true) (maxSteps := 4000000) only [fwc, fwe, cmd_seq, opsW_gpure, drawW_pure, drawW_gpure, Env.upd_apply, Heap.upd_same, Heap.upd_apply, ite_none, List.getD_cons_zero, List.getD_cons_succ, List.getD_nil, List.length_cons, List.length_nil, List.map_cons, List.map_nil, List.getElem?_cons_zero, List.getElem?_cons_succ, List.getElem?_nil, List.set_cons_zero, List.set_cons_succ, List.take_succ_cons, List.take_zero, List.drop_succ_cons, List.drop_zero, List.nil_append, List.cons_append, List.append_nil, Option.map_some, Option.map_none, Option.bind_some, Option.bind_none, reduceIte, ↓reduceIte, decide_true, decide_false, Bool.true_and, Bool.and_true, Bool.false_and, Bool.and_false, true_and, and_true, and_self, Nat.reduceAdd, Nat.reduceLeDiff, Nat.reduceEqDiff, Nat.zero_add, Nat.add_zero, Nat.le_refl, Nat.zero_le, ge_iff_le, Nat.reduceLT, Nat.zero_lt_succ, Nat.reduceSub, if_true, if_false, forall_const, reduceCtorEq, Bool.not_true, Bool.not_false, Bool.false_eq_true, Int.reduceEq, Int.reduceLT, Int.reduceLE, Int.reduceNeg, Int.reduceToNat, Int.reduceAdd, Int.reduceSub, Nat.reduceMul, Nat.reduceEqDiff, gW_un, gcF_un, gcA_un, ci_mkmap, ci_mapset, ci_lookup, ci_maxl, ci_appz, pi_lookup, pi_maxl, pu_lookup, pu_maxl, maxl_nil, maxl_one, maxl_cons, cells_mapr, stor_mapr, callv_yld, mm_max, mm_min, putAll_cons, putAll_nil, asgK_normal, roundK_normal, roundK_ret, roundK_exit, part_cell, part_agg, *]
    | (refine seqK_now ?_)
    | (refine retK_now ?_)
    | (refine retK_now' ?_)
    | (intro q hq)
    | (refine cond_intro (fun hc => ?_) (fun hc => ?_)))
    refine lives4_ok.use ?_
    (repeat' first
    | simp (contextual := true) (maxSteps := 4000000) only [fwc, fwe, cmd_seq, opsW_gpure, drawW_pure, drawW_gpure, Env.upd_apply, Heap.upd_same, Heap.upd_apply, ite_none, List.getD_cons_zero, List.getD_cons_succ, List.getD_nil, List.length_cons, List.length_nil, List.map_cons, List.map_nil, List.getElem?_cons_zero, List.getElem?_cons_succ, List.getElem?_nil, List.set_cons_zero, List.set_cons_succ, List.take_succ_cons, List.take_zero, List.drop_succ_cons, List.drop_zero, List.nil_append, List.cons_append, List.append_nil, Option.map_some, Option.map_none, Option.bind_some, Option.bind_none, reduceIte, ↓reduceIte, decide_true, decide_false, Bool.true_and, Bool.and_true, Bool.false_and, Bool.and_false, true_and, and_true, and_self, Nat.reduceAdd, Nat.reduceLeDiff, Nat.reduceEqDiff, Nat.zero_add, Nat.add_zero, Nat.le_refl, Nat.zero_le, ge_iff_le, Nat.reduceLT, Nat.zero_lt_succ, Nat.reduceSub, if_true, if_false, forall_const, reduceCtorEq, Bool.not_true, Bool.not_false, Bool.false_eq_true, Int.reduceEq, Int.reduceLT, Int.reduceLE, Int.reduceNeg, Int.reduceToNat, Int.reduceAdd, Int.reduceSub, Nat.reduceMul, Nat.reduceEqDiff, gW_un, gcF_un, gcA_un, ci_mkmap, ci_mapset, ci_lookup, ci_maxl, ci_appz, pi_lookup, pi_maxl, pu_lookup, pu_maxl, maxl_nil, maxl_one, maxl_cons, cells_mapr, stor_mapr, callv_yld, mm_max, mm_min, putAll_cons, putAll_nil, asgK_normal, roundK_normal, roundK_ret, roundK_exit, part_cell, part_agg, *]
    | (refine seqK_now ?_)
    | (refine retK_now ?_)
    | (refine retK_now' ?_)
    | (intro q hq)
    | (refine cond_intro (fun hc => ?_) (fun hc => ?_)))
    refine WeakR.pure (by repeat (first | exact Heap.sub_refl _ | refine sub_upd (by simp only [*]) ?_)) ?_
    rfl
  · have d1 : (decide (45 < F.length) || decide (45 < B.length)) = false := by simpa using h45
    obtain ⟨hF45, hB45⟩ : F.length ≤ 45 ∧ B.length ≤ 45 := by omega
    replace h45 := (show Aside _ from h45)
    clear d0 d0'
    (repeat' first
    | simp (contextual := true) (maxSteps := 4000000) only [fwc, fwe, opsW_gpure, drawW_pure, drawW_gpure, Env.upd_apply, Heap.upd_same, Heap.upd_apply, ite_none, List.getD_cons_zero, List.getD_cons_succ, List.getD_nil, List.length_cons, List.length_nil, List.map_cons, List.map_nil, List.getElem?_cons_zero, List.getElem?_cons_succ, List.getElem?_nil, List.set_cons_zero, List.set_cons_succ, List.take_succ_cons, List.take_zero, List.drop_succ_cons, List.drop_zero, List.nil_append, List.cons_append, List.append_nil, Option.map_some, Option.map_none, Option.bind_some, Option.bind_none, reduceIte, ↓reduceIte, decide_true, decide_false, Bool.true_and, Bool.and_true, Bool.false_and, Bool.and_false, true_and, and_true, and_self, Nat.reduceAdd, Nat.reduceLeDiff, Nat.reduceEqDiff, Nat.zero_add, Nat.add_zero, Nat.le_refl, Nat.zero_le, ge_iff_le, Nat.reduceLT, Nat.zero_lt_succ, Nat.reduceSub, if_true, if_false, forall_const, reduceCtorEq, Bool.not_true, Bool.not_false, Bool.false_eq_true, Int.reduceEq, Int.reduceLT, Int.reduceLE, Int.reduceNeg, Int.reduceToNat, Int.reduceAdd, Int.reduceSub, Nat.reduceMul, Nat.reduceEqDiff, gW_un, gcF_un, gcA_un, ci_mkmap, ci_mapset, ci_lookup, ci_maxl, ci_appz, pi_lookup, pi_maxl, pu_lookup, pu_maxl, maxl_nil, maxl_one, maxl_cons, cells_mapr, stor_mapr, callv_yld, mm_max, mm_min, putAll_cons, putAll_nil, asgK_normal, roundK_normal, roundK_ret, roundK_exit, part_cell, part_agg, *]
    | (refine retK_now ?_)
    | (refine retK_now' ?_)
    | (intro q hq)
    | (refine cond_intro (fun hc => ?_) (fun hc => ?_)))
    refine seqK_now ?_
    refine seq_go ?_
    refine seq_go ?_
    (repeat' first
    | simp (contextual := true) (maxSteps := 4000000) only [fwc, fwe, opsW_gpure, drawW_pure, drawW_gpure, Env.upd_apply, Heap.upd_same, Heap.upd_apply, ite_none, List.getD_cons_zero, List.getD_cons_succ, List.getD_nil, List.length_cons, List.length_nil, List.map_cons, List.map_nil, List.getElem?_cons_zero, List.getElem?_cons_succ, List.getElem?_nil, List.set_cons_zero, List.set_cons_succ, List.take_succ_cons, List.take_zero, List.drop_succ_cons, List.drop_zero, List.nil_append, List.cons_append, List.append_nil, Option.map_some, Option.map_none, Option.bind_some, Option.bind_none, reduceIte, ↓reduceIte, decide_true, decide_false, Bool.true_and, Bool.and_true, Bool.false_and, Bool.and_false, true_and, and_true, and_self, Nat.reduceAdd, Nat.reduceLeDiff, Nat.reduceEqDiff, Nat.zero_add, Nat.add_zero, Nat.le_refl, Nat.zero_le, ge_iff_le, Nat.reduceLT, Nat.zero_lt_succ, Nat.reduceSub, if_true, if_false, forall_const, reduceCtorEq, Bool.not_true, Bool.not_false, Bool.false_eq_true, Int.reduceEq, Int.reduceLT, Int.reduceLE, Int.reduceNeg, Int.reduceToNat, Int.reduceAdd, Int.reduceSub, Nat.reduceMul, Nat.reduceEqDiff, gW_un, gcF_un, gcA_un, ci_mkmap, ci_mapset, ci_lookup, ci_maxl, ci_appz, pi_lookup, pi_maxl, pu_lookup, pu_maxl, maxl_nil, maxl_one, maxl_cons, cells_mapr, stor_mapr, callv_yld, mm_max, mm_min, putAll_cons, putAll_nil, asgK_normal, roundK_normal, roundK_ret, roundK_exit, part_cell, part_agg, *]
    | (refine retK_now ?_)
    | (refine retK_now' ?_)
    | (intro q hq)
    | (refine cond_intro (fun hc => ?_) (fun hc => ?_)))
    refine seqK_now ?_
    (repeat' first
    | simp (contextual := true) (maxSteps := 4000000) only [fwc, fwe, opsW_gpure, drawW_pure, drawW_gpure, Env.upd_apply, Heap.upd_same, Heap.upd_apply, ite_none, List.getD_cons_zero, List.getD_cons_succ, List.getD_nil, List.length_cons, List.length_nil, List.map_cons, List.map_nil, List.getElem?_cons_zero, List.getElem?_cons_succ, List.getElem?_nil, List.set_cons_zero, List.set_cons_succ, List.take_succ_cons, List.take_zero, List.drop_succ_cons, List.drop_zero, List.nil_append, List.cons_append, List.append_nil, Option.map_some, Option.map_none, Option.bind_some, Option.bind_none, reduceIte, ↓reduceIte, decide_true, decide_false, Bool.true_and, Bool.and_true, Bool.false_and, Bool.and_false, true_and, and_true, and_self, Nat.reduceAdd, Nat.reduceLeDiff, Nat.reduceEqDiff, Nat.zero_add, Nat.add_zero, Nat.le_refl, Nat.zero_le, ge_iff_le, Nat.reduceLT, Nat.zero_lt_succ, Nat.reduceSub, if_true, if_false, forall_const, reduceCtorEq, Bool.not_true, Bool.not_false, Bool.false_eq_true, Int.reduceEq, Int.reduceLT, Int.reduceLE, Int.reduceNeg, Int.reduceToNat, Int.reduceAdd, Int.reduceSub, Nat.reduceMul, Nat.reduceEqDiff, gW_un, gcF_un, gcA_un, ci_mkmap, ci_mapset, ci_lookup, ci_maxl, ci_appz, pi_lookup, pi_maxl, pu_lookup, pu_maxl, maxl_nil, maxl_one, maxl_cons, cells_mapr, stor_mapr, callv_yld, mm_max, mm_min, putAll_cons, putAll_nil, asgK_normal, roundK_normal, roundK_ret, roundK_exit, part_cell, part_agg, *]
    | (refine retK_now ?_)
    | (refine retK_now' ?_)
    | (intro q hq)
    | (refine cond_intro (fun hc => ?_) (fun hc => ?_)))
    obtain ⟨I5, hI5⟩ := hideI (fun m e O' => ∃ i : Nat, i ≤ F.length ∧ m = F.length - i ∧ O' = O.upd q (.arr 26 2 [.agg [f, b]]) ∧ e = env5 5 q rack i)
    refine cmd_loop I5 F.length (by
      rw [hI5.out]
      exact ⟨0, by omega, rfl, rfl, rfl⟩) ?_
    intro m e O' hh
    rw [hI5.out] at hh
    obtain ⟨i, hi2, rfl, rfl, rfl⟩ := hh
    unfold env5
    by_cases hi : i < F.length
    · have e1 : decide (i < F.length) = true := decide_eq_true hi
      have hie : i < es.length := by rw [h.f.2.1]; exact hi
      have hia := h.f.1.ia (i := i) hie
      have hx := h.f.2.2 i hie hi
      have hx1 := hx.cells
      have hx2 := hx.len
      rw [List.length_map] at hx2
      generalize es[i] = x at *
      generalize F[i].length = n at *
      have dn : decide ((6 : Int) < (n : Int)) = decide (6 < n) := decide_eq_decide.2 (by omega)
      have hwi : i < 4611686018427387904 := by omega
      clear hx
      by_cases hn : 6 < n
      · have e2 : decide (6 < n) = true := decide_eq_true hn
        replace hn := (show Aside _ from hn)
        (repeat' first
    | simp (contextual := true) (maxSteps := 4000000) only [fwc, fwe, cmd_seq, opsW_gpure, drawW_pure, drawW_gpure, Env.upd_apply, Heap.upd_same, Heap.upd_apply, ite_none, List.getD_cons_zero, List.getD_cons_succ, List.getD_nil, List.length_cons, List.length_nil, List.map_cons, List.map_nil, List.getElem?_cons_zero, List.getElem?_cons_succ, List.getElem?_nil, List.set_cons_zero, List.set_cons_succ, List.take_succ_cons, List.take_zero, List.drop_succ_cons, List.drop_zero, List.nil_append, List.cons_append, List.append_nil, Option.map_some, Option.map_none, Option.bind_some, Option.bind_none, reduceIte, ↓reduceIte, decide_true, decide_false, Bool.true_and, Bool.and_true, Bool.false_and, Bool.and_false, true_and, and_true, and_self, Nat.reduceAdd, Nat.reduceLeDiff, Nat.reduceEqDiff, Nat.zero_add, Nat.add_zero, Nat.le_refl, Nat.zero_le, ge_iff_le, Nat.reduceLT, Nat.zero_lt_succ, Nat.reduceSub, if_true, if_false, forall_const, reduceCtorEq, Bool.not_true, Bool.not_false, Bool.false_eq_true, Int.reduceEq, Int.reduceLT, Int.reduceLE, Int.reduceNeg, Int.reduceToNat, Int.reduceAdd, Int.reduceSub, Nat.reduceMul, Nat.reduceEqDiff, gW_un, gcF_un, gcA_un, ci_mkmap, ci_mapset, ci_lookup, ci_maxl, ci_appz, pi_lookup, pi_maxl, pu_lookup, pu_maxl, maxl_nil, maxl_one, maxl_cons, cells_mapr, stor_mapr, callv_yld, mm_max, mm_min, putAll_cons, putAll_nil, asgK_normal, roundK_normal, roundK_ret, roundK_exit, ilt_nat, part_cell, part_agg, wrap_succ, *]
    | (refine seqK_now ?_)
    | (refine retK_now ?_)
    | (refine retK_now' ?_)
    | (intro q hq)
    | (refine cond_intro (fun hc => ?_) (fun hc => ?_)))
        refine lives4_ok.use ?_
        (repeat' first
    | simp (contextual := true) (maxSteps := 4000000) only [fwc, fwe, cmd_seq, opsW_gpure, drawW_pure, drawW_gpure, Env.upd_apply, Heap.upd_same, Heap.upd_apply, ite_none, List.getD_cons_zero, List.getD_cons_succ, List.getD_nil, List.length_cons, List.length_nil, List.map_cons, List.map_nil, List.getElem?_cons_zero, List.getElem?_cons_succ, List.getElem?_nil, List.set_cons_zero, List.set_cons_succ, List.take_succ_cons, List.take_zero, List.drop_succ_cons, List.drop_zero, List.nil_append, List.cons_append, List.append_nil, Option.map_some, Option.map_none, Option.bind_some, Option.bind_none, reduceIte, ↓reduceIte, decide_true, decide_false, Bool.true_and, Bool.and_true, Bool.false_and, Bool.and_false, true_and, and_true, and_self, Nat.reduceAdd, Nat.reduceLeDiff, Nat.reduceEqDiff, Nat.zero_add, Nat.add_zero, Nat.le_refl, Nat.zero_le, ge_iff_le, Nat.reduceLT, Nat.zero_lt_succ, Nat.reduceSub, if_true, if_false, forall_const, reduceCtorEq, Bool.not_true, Bool.not_false, Bool.false_eq_true, Int.reduceEq, Int.reduceLT, Int.reduceLE, Int.reduceNeg, Int.reduceToNat, Int.reduceAdd, Int.reduceSub, Nat.reduceMul, Nat.reduceEqDiff, gW_un, gcF_un, gcA_un, ci_mkmap, ci_mapset, ci_lookup, ci_maxl, ci_appz, pi_lookup, pi_maxl, pu_lookup, pu_maxl, maxl_nil, maxl_one, maxl_cons, cells_mapr, stor_mapr, callv_yld, mm_max, mm_min, putAll_cons, putAll_nil, asgK_normal, roundK_normal, roundK_ret, roundK_exit, ilt_nat, part_cell, part_agg, wrap_succ, *]
    | (refine seqK_now ?_)
    | (refine retK_now ?_)
    | (refine retK_now' ?_)
    | (intro q hq)
    | (refine cond_intro (fun hc => ?_) (fun hc => ?_)))
        refine WeakR.pure (by repeat (first | exact Heap.sub_refl _ | refine sub_upd (by simp only [*]) ?_)) ?_
        rfl
      · have e2 : decide (6 < n) = false := decide_eq_false hn
        replace hn := (show Aside _ from hn)
        (repeat' first
    | simp (contextual := true) (maxSteps := 4000000) only [fwc, fwe, cmd_seq, opsW_gpure, drawW_pure, drawW_gpure, Env.upd_apply, Heap.upd_same, Heap.upd_apply, ite_none, List.getD_cons_zero, List.getD_cons_succ, List.getD_nil, List.length_cons, List.length_nil, List.map_cons, List.map_nil, List.getElem?_cons_zero, List.getElem?_cons_succ, List.getElem?_nil, List.set_cons_zero, List.set_cons_succ, List.take_succ_cons, List.take_zero, List.drop_succ_cons, List.drop_zero, List.nil_append, List.cons_append, List.append_nil, Option.map_some, Option.map_none, Option.bind_some, Option.bind_none, reduceIte, ↓reduceIte, decide_true, decide_false, Bool.true_and, Bool.and_true, Bool.false_and, Bool.and_false, true_and, and_true, and_self, Nat.reduceAdd, Nat.reduceLeDiff, Nat.reduceEqDiff, Nat.zero_add, Nat.add_zero, Nat.le_refl, Nat.zero_le, ge_iff_le, Nat.reduceLT, Nat.zero_lt_succ, Nat.reduceSub, if_true, if_false, forall_const, reduceCtorEq, Bool.not_true, Bool.not_false, Bool.false_eq_true, Int.reduceEq, Int.reduceLT, Int.reduceLE, Int.reduceNeg, Int.reduceToNat, Int.reduceAdd, Int.reduceSub, Nat.reduceMul, Nat.reduceEqDiff, gW_un, gcF_un, gcA_un, ci_mkmap, ci_mapset, ci_lookup, ci_maxl, ci_appz, pi_lookup, pi_maxl, pu_lookup, pu_maxl, maxl_nil, maxl_one, maxl_cons, cells_mapr, stor_mapr, callv_yld, mm_max, mm_min, putAll_cons, putAll_nil, asgK_normal, roundK_normal, roundK_ret, roundK_exit, ilt_nat, part_cell, part_agg, wrap_succ, *]
    | (refine seqK_now ?_)
    | (refine retK_now ?_)
    | (refine retK_now' ?_)
    | (intro q hq)
    | (refine cond_intro (fun hc => ?_) (fun hc => ?_)))
        refine loopK_now (F.length - (i + 1)) (by omega) ?_
        rw [hI5.out]
        exact ⟨i + 1, by omega, rfl, rfl, rfl⟩
    · have e1 : decide (i < F.length) = false := decide_eq_false hi
      replace hi := (show Aside _ from hi)
      refine seq_go ?_
      refine seq_go ?_
      (repeat' first
    | simp (contextual := true) (maxSteps := 4000000) only [fwc, fwe, opsW_gpure, drawW_pure, drawW_gpure, Env.upd_apply, Heap.upd_same, Heap.upd_apply, ite_none, List.getD_cons_zero, List.getD_cons_succ, List.getD_nil, List.length_cons, List.length_nil, List.map_cons, List.map_nil, List.getElem?_cons_zero, List.getElem?_cons_succ, List.getElem?_nil, List.set_cons_zero, List.set_cons_succ, List.take_succ_cons, List.take_zero, List.drop_succ_cons, List.drop_zero, List.nil_append, List.cons_append, List.append_nil, Option.map_some, Option.map_none, Option.bind_some, Option.bind_none, reduceIte, ↓reduceIte, decide_true, decide_false, Bool.true_and, Bool.and_true, Bool.false_and, Bool.and_false, true_and, and_true, and_self, Nat.reduceAdd, Nat.reduceLeDiff, Nat.reduceEqDiff, Nat.zero_add, Nat.add_zero, Nat.le_refl, Nat.zero_le, ge_iff_le, Nat.reduceLT, Nat.zero_lt_succ, Nat.reduceSub, if_true, if_false, forall_const, reduceCtorEq, Bool.not_true, Bool.not_false, Bool.false_eq_true, Int.reduceEq, Int.reduceLT, Int.reduceLE, Int.reduceNeg, Int.reduceToNat, Int.reduceAdd, Int.reduceSub, Nat.reduceMul, Nat.reduceEqDiff, gW_un, gcF_un, gcA_un, ci_mkmap, ci_mapset, ci_lookup, ci_maxl, ci_appz, pi_lookup, pi_maxl, pu_lookup, pu_maxl, maxl_nil, maxl_one, maxl_cons, cells_mapr, stor_mapr, callv_yld, mm_max, mm_min, putAll_cons, putAll_nil, asgK_normal, roundK_normal, roundK_ret, roundK_exit, ilt_nat, part_cell, part_agg, *]
    | (refine retK_now ?_)
    | (refine retK_now' ?_)
    | (intro q hq)
    | (refine cond_intro (fun hc => ?_) (fun hc => ?_)))
      refine seqK_now ?_
      (repeat' first
    | simp (contextual := true) (maxSteps := 4000000) only [fwc, fwe, opsW_gpure, drawW_pure, drawW_gpure, Env.upd_apply, Heap.upd_same, Heap.upd_apply, ite_none, List.getD_cons_zero, List.getD_cons_succ, List.getD_nil, List.length_cons, List.length_nil, List.map_cons, List.map_nil, List.getElem?_cons_zero, List.getElem?_cons_succ, List.getElem?_nil, List.set_cons_zero, List.set_cons_succ, List.take_succ_cons, List.take_zero, List.drop_succ_cons, List.drop_zero, List.nil_append, List.cons_append, List.append_nil, Option.map_some, Option.map_none, Option.bind_some, Option.bind_none, reduceIte, ↓reduceIte, decide_true, decide_false, Bool.true_and, Bool.and_true, Bool.false_and, Bool.and_false, true_and, and_true, and_self, Nat.reduceAdd, Nat.reduceLeDiff, Nat.reduceEqDiff, Nat.zero_add, Nat.add_zero, Nat.le_refl, Nat.zero_le, ge_iff_le, Nat.reduceLT, Nat.zero_lt_succ, Nat.reduceSub, if_true, if_false, forall_const, reduceCtorEq, Bool.not_true, Bool.not_false, Bool.false_eq_true, Int.reduceEq, Int.reduceLT, Int.reduceLE, Int.reduceNeg, Int.reduceToNat, Int.reduceAdd, Int.reduceSub, Nat.reduceMul, Nat.reduceEqDiff, gW_un, gcF_un, gcA_un, ci_mkmap, ci_mapset, ci_lookup, ci_maxl, ci_appz, pi_lookup, pi_maxl, pu_lookup, pu_maxl, maxl_nil, maxl_one, maxl_cons, cells_mapr, stor_mapr, callv_yld, mm_max, mm_min, putAll_cons, putAll_nil, asgK_normal, roundK_normal, roundK_ret, roundK_exit, ilt_nat, part_cell, part_agg, *]
    | (refine retK_now ?_)
    | (refine retK_now' ?_)
    | (intro q hq)
    | (refine cond_intro (fun hc => ?_) (fun hc => ?_)))
      refine seqK_now ?_
      refine seq_go ?_
      refine seq_go ?_
      (repeat' first
    | simp (contextual := true) (maxSteps := 4000000) only [fwc, fwe, opsW_gpure, drawW_pure, drawW_gpure, Env.upd_apply, Heap.upd_same, Heap.upd_apply, ite_none, List.getD_cons_zero, List.getD_cons_succ, List.getD_nil, List.length_cons, List.length_nil, List.map_cons, List.map_nil, List.getElem?_cons_zero, List.getElem?_cons_succ, List.getElem?_nil, List.set_cons_zero, List.set_cons_succ, List.take_succ_cons, List.take_zero, List.drop_succ_cons, List.drop_zero, List.nil_append, List.cons_append, List.append_nil, Option.map_some, Option.map_none, Option.bind_some, Option.bind_none, reduceIte, ↓reduceIte, decide_true, decide_false, Bool.true_and, Bool.and_true, Bool.false_and, Bool.and_false, true_and, and_true, and_self, Nat.reduceAdd, Nat.reduceLeDiff, Nat.reduceEqDiff, Nat.zero_add, Nat.add_zero, Nat.le_refl, Nat.zero_le, ge_iff_le, Nat.reduceLT, Nat.zero_lt_succ, Nat.reduceSub, if_true, if_false, forall_const, reduceCtorEq, Bool.not_true, Bool.not_false, Bool.false_eq_true, Int.reduceEq, Int.reduceLT, Int.reduceLE, Int.reduceNeg, Int.reduceToNat, Int.reduceAdd, Int.reduceSub, Nat.reduceMul, Nat.reduceEqDiff, gW_un, gcF_un, gcA_un, ci_mkmap, ci_mapset, ci_lookup, ci_maxl, ci_appz, pi_lookup, pi_maxl, pu_lookup, pu_maxl, maxl_nil, maxl_one, maxl_cons, cells_mapr, stor_mapr, callv_yld, mm_max, mm_min, putAll_cons, putAll_nil, asgK_normal, roundK_normal, roundK_ret, roundK_exit, part_cell, part_agg, *]
    | (refine retK_now ?_)
    | (refine retK_now' ?_)
    | (intro q hq)
    | (refine cond_intro (fun hc => ?_) (fun hc => ?_)))
      refine seqK_now ?_
      (repeat' first
    | simp (contextual := true) (maxSteps := 4000000) only [fwc, fwe, opsW_gpure, drawW_pure, drawW_gpure, Env.upd_apply, Heap.upd_same, Heap.upd_apply, ite_none, List.getD_cons_zero, List.getD_cons_succ, List.getD_nil, List.length_cons, List.length_nil, List.map_cons, List.map_nil, List.getElem?_cons_zero, List.getElem?_cons_succ, List.getElem?_nil, List.set_cons_zero, List.set_cons_succ, List.take_succ_cons, List.take_zero, List.drop_succ_cons, List.drop_zero, List.nil_append, List.cons_append, List.append_nil, Option.map_some, Option.map_none, Option.bind_some, Option.bind_none, reduceIte, ↓reduceIte, decide_true, decide_false, Bool.true_and, Bool.and_true, Bool.false_and, Bool.and_false, true_and, and_true, and_self, Nat.reduceAdd, Nat.reduceLeDiff, Nat.reduceEqDiff, Nat.zero_add, Nat.add_zero, Nat.le_refl, Nat.zero_le, ge_iff_le, Nat.reduceLT, Nat.zero_lt_succ, Nat.reduceSub, if_true, if_false, forall_const, reduceCtorEq, Bool.not_true, Bool.not_false, Bool.false_eq_true, Int.reduceEq, Int.reduceLT, Int.reduceLE, Int.reduceNeg, Int.reduceToNat, Int.reduceAdd, Int.reduceSub, Nat.reduceMul, Nat.reduceEqDiff, gW_un, gcF_un, gcA_un, ci_mkmap, ci_mapset, ci_lookup, ci_maxl, ci_appz, pi_lookup, pi_maxl, pu_lookup, pu_maxl, maxl_nil, maxl_one, maxl_cons, cells_mapr, stor_mapr, callv_yld, mm_max, mm_min, putAll_cons, putAll_nil, asgK_normal, roundK_normal, roundK_ret, roundK_exit, part_cell, part_agg, *]
    | (refine retK_now ?_)
    | (refine retK_now' ?_)
    | (intro q hq)
    | (refine cond_intro (fun hc => ?_) (fun hc => ?_)))
      obtain ⟨I6, hI6⟩ := hideI (fun m e O' => ∃ i : Nat, i ≤ B.length ∧ m = B.length - i ∧ O' = O.upd q (.arr 26 2 [.agg [f, b]]) ∧ e = env5 6 q rack i)
      refine cmd_loop I6 B.length (by
        rw [hI6.out]
        exact ⟨0, by omega, rfl, rfl, rfl⟩) ?_
      intro m e O' hh
      rw [hI6.out] at hh
      obtain ⟨i, hi2, rfl, rfl, rfl⟩ := hh
      unfold env5
      by_cases hi : i < B.length
      · have e1 : decide (i < B.length) = true := decide_eq_true hi
        have hie : i < fs.length := by rw [h.b.2.1]; exact hi
        have hia := h.b.1.ia (i := i) hie
        have hx := h.b.2.2 i hie hi
        have hx1 := hx.cells
        have hx2 := hx.len
        rw [List.length_map] at hx2
        generalize fs[i] = x at *
        generalize B[i].length = n at *
        have dn : decide ((6 : Int) < (n : Int)) = decide (6 < n) := decide_eq_decide.2 (by omega)
        have hwi : i < 4611686018427387904 := by omega
        clear hx
        by_cases hn : 6 < n
        · have e2 : decide (6 < n) = true := decide_eq_true hn
          replace hn := (show Aside _ from hn)
          (repeat' first
    | simp (contextual := true) (maxSteps := 4000000) only [fwc, fwe, cmd_seq, opsW_gpure, drawW_pure, drawW_gpure, Env.upd_apply, Heap.upd_same, Heap.upd_apply, ite_none, List.getD_cons_zero, List.getD_cons_succ, List.getD_nil, List.length_cons, List.length_nil, List.map_cons, List.map_nil, List.getElem?_cons_zero, List.getElem?_cons_succ, List.getElem?_nil, List.set_cons_zero, List.set_cons_succ, List.take_succ_cons, List.take_zero, List.drop_succ_cons, List.drop_zero, List.nil_append, List.cons_append, List.append_nil, Option.map_some, Option.map_none, Option.bind_some, Option.bind_none, reduceIte, ↓reduceIte, decide_true, decide_false, Bool.true_and, Bool.and_true, Bool.false_and, Bool.and_false, true_and, and_true, and_self, Nat.reduceAdd, Nat.reduceLeDiff, Nat.reduceEqDiff, Nat.zero_add, Nat.add_zero, Nat.le_refl, Nat.zero_le, ge_iff_le, Nat.reduceLT, Nat.zero_lt_succ, Nat.reduceSub, if_true, if_false, forall_const, reduceCtorEq, Bool.not_true, Bool.not_false, Bool.false_eq_true, Int.reduceEq, Int.reduceLT, Int.reduceLE, Int.reduceNeg, Int.reduceToNat, Int.reduceAdd, Int.reduceSub, Nat.reduceMul, Nat.reduceEqDiff, gW_un, gcF_un, gcA_un, ci_mkmap, ci_mapset, ci_lookup, ci_maxl, ci_appz, pi_lookup, pi_maxl, pu_lookup, pu_maxl, maxl_nil, maxl_one, maxl_cons, cells_mapr, stor_mapr, callv_yld, mm_max, mm_min, putAll_cons, putAll_nil, asgK_normal, roundK_normal, roundK_ret, roundK_exit, ilt_nat, part_cell, part_agg, wrap_succ, *]
    | (refine seqK_now ?_)
    | (refine retK_now ?_)
    | (refine retK_now' ?_)
    | (intro q hq)
    | (refine cond_intro (fun hc => ?_) (fun hc => ?_)))
          refine lives4_ok.use ?_
          (repeat' first
    | simp (contextual := true) (maxSteps := 4000000) only [fwc, fwe, cmd_seq, opsW_gpure, drawW_pure, drawW_gpure, Env.upd_apply, Heap.upd_same, Heap.upd_apply, ite_none, List.getD_cons_zero, List.getD_cons_succ, List.getD_nil, List.length_cons, List.length_nil, List.map_cons, List.map_nil, List.getElem?_cons_zero, List.getElem?_cons_succ, List.getElem?_nil, List.set_cons_zero, List.set_cons_succ, List.take_succ_cons, List.take_zero, List.drop_succ_cons, List.drop_zero, List.nil_append, List.cons_append, List.append_nil, Option.map_some, Option.map_none, Option.bind_some, Option.bind_none, reduceIte, ↓reduceIte, decide_true, decide_false, Bool.true_and, Bool.and_true, Bool.false_and, Bool.and_false, true_and, and_true, and_self, Nat.reduceAdd, Nat.reduceLeDiff, Nat.reduceEqDiff, Nat.zero_add, Nat.add_zero, Nat.le_refl, Nat.zero_le, ge_iff_le, Nat.reduceLT, Nat.zero_lt_succ, Nat.reduceSub, if_true, if_false, forall_const, reduceCtorEq, Bool.not_true, Bool.not_false, Bool.false_eq_true, Int.reduceEq, Int.reduceLT, Int.reduceLE, Int.reduceNeg, Int.reduceToNat, Int.reduceAdd, Int.reduceSub, Nat.reduceMul, Nat.reduceEqDiff, gW_un, gcF_un, gcA_un, ci_mkmap, ci_mapset, ci_lookup, ci_maxl, ci_appz, pi_lookup, pi_maxl, pu_lookup, pu_maxl, maxl_nil, maxl_one, maxl_cons, cells_mapr, stor_mapr, callv_yld, mm_max, mm_min, putAll_cons, putAll_nil, asgK_normal, roundK_normal, roundK_ret, roundK_exit, ilt_nat, part_cell, part_agg, wrap_succ, *]
    | (refine seqK_now ?_)
    | (refine retK_now ?_)
    | (refine retK_now' ?_)
    | (intro q hq)
    | (refine cond_intro (fun hc => ?_) (fun hc => ?_)))
          refine WeakR.pure (by repeat (first | exact Heap.sub_refl _ | refine sub_upd (by simp only [*]) ?_)) ?_
          rfl
        · have e2 : decide (6 < n) = false := decide_eq_false hn
          replace hn := (show Aside _ from hn)
          (repeat' first
    | simp (contextual := true) (maxSteps := 4000000) only [fwc, fwe, cmd_seq, opsW_gpure, drawW_pure, drawW_gpure, Env.upd_apply, Heap.upd_same, Heap.upd_apply, ite_none, List.getD_cons_zero, List.getD_cons_succ, List.getD_nil, List.length_cons, List.length_nil, List.map_cons, List.map_nil, List.getElem?_cons_zero, List.getElem?_cons_succ, List.getElem?_nil, List.set_cons_zero, List.set_cons_succ, List.take_succ_cons, List.take_zero, List.drop_succ_cons, List.drop_zero, List.nil_append, List.cons_append, List.append_nil, Option.map_some, Option.map_none, Option.bind_some, Option.bind_none, reduceIte, ↓reduceIte, decide_true, decide_false, Bool.true_and, Bool.and_true, Bool.false_and, Bool.and_false, true_and, and_true, and_self, Nat.reduceAdd, Nat.reduceLeDiff, Nat.reduceEqDiff, Nat.zero_add, Nat.add_zero, Nat.le_refl, Nat.zero_le, ge_iff_le, Nat.reduceLT, Nat.zero_lt_succ, Nat.reduceSub, if_true, if_false, forall_const, reduceCtorEq, Bool.not_true, Bool.not_false, Bool.false_eq_true, Int.reduceEq, Int.reduceLT, Int.reduceLE, Int.reduceNeg, Int.reduceToNat, Int.reduceAdd, Int.reduceSub, Nat.reduceMul, Nat.reduceEqDiff, gW_un, gcF_un, gcA_un, ci_mkmap, ci_mapset, ci_lookup, ci_maxl, ci_appz, pi_lookup, pi_maxl, pu_lookup, pu_maxl, maxl_nil, maxl_one, maxl_cons, cells_mapr, stor_mapr, callv_yld, mm_max, mm_min, putAll_cons, putAll_nil, asgK_normal, roundK_normal, roundK_ret, roundK_exit, ilt_nat, part_cell, part_agg, wrap_succ, *]
    | (refine seqK_now ?_)
    | (refine retK_now ?_)
    | (refine retK_now' ?_)
    | (intro q hq)
    | (refine cond_intro (fun hc => ?_) (fun hc => ?_)))
          refine loopK_now (B.length - (i + 1)) (by omega) ?_
          rw [hI6.out]
          exact ⟨i + 1, by omega, rfl, rfl, rfl⟩
      · have e1 : decide (i < B.length) = false := decide_eq_false hi
        replace hi := (show Aside _ from hi)
        refine seq_go ?_
        refine seq_go ?_
        (repeat' first
    | simp (contextual := true) (maxSteps := 4000000) only [fwc, fwe, opsW_gpure, drawW_pure, drawW_gpure, Env.upd_apply, Heap.upd_same, Heap.upd_apply, ite_none, List.getD_cons_zero, List.getD_cons_succ, List.getD_nil, List.length_cons, List.length_nil, List.map_cons, List.map_nil, List.getElem?_cons_zero, List.getElem?_cons_succ, List.getElem?_nil, List.set_cons_zero, List.set_cons_succ, List.take_succ_cons, List.take_zero, List.drop_succ_cons, List.drop_zero, List.nil_append, List.cons_append, List.append_nil, Option.map_some, Option.map_none, Option.bind_some, Option.bind_none, reduceIte, ↓reduceIte, decide_true, decide_false, Bool.true_and, Bool.and_true, Bool.false_and, Bool.and_false, true_and, and_true, and_self, Nat.reduceAdd, Nat.reduceLeDiff, Nat.reduceEqDiff, Nat.zero_add, Nat.add_zero, Nat.le_refl, Nat.zero_le, ge_iff_le, Nat.reduceLT, Nat.zero_lt_succ, Nat.reduceSub, if_true, if_false, forall_const, reduceCtorEq, Bool.not_true, Bool.not_false, Bool.false_eq_true, Int.reduceEq, Int.reduceLT, Int.reduceLE, Int.reduceNeg, Int.reduceToNat, Int.reduceAdd, Int.reduceSub, Nat.reduceMul, Nat.reduceEqDiff, gW_un, gcF_un, gcA_un, ci_mkmap, ci_mapset, ci_lookup, ci_maxl, ci_appz, pi_lookup, pi_maxl, pu_lookup, pu_maxl, maxl_nil, maxl_one, maxl_cons, cells_mapr, stor_mapr, callv_yld, mm_max, mm_min, putAll_cons, putAll_nil, asgK_normal, roundK_normal, roundK_ret, roundK_exit, ilt_nat, part_cell, part_agg, *]
    | (refine retK_now ?_)
    | (refine retK_now' ?_)
    | (intro q hq)
    | (refine cond_intro (fun hc => ?_) (fun hc => ?_)))
        refine seqK_now ?_
        (repeat' first
    | simp (contextual := true) (maxSteps := 4000000) only [fwc, fwe, opsW_gpure, drawW_pure, drawW_gpure, Env.upd_apply, Heap.upd_same, Heap.upd_apply, ite_none, List.getD_cons_zero, List.getD_cons_succ, List.getD_nil, List.length_cons, List.length_nil, List.map_cons, List.map_nil, List.getElem?_cons_zero, List.getElem?_cons_succ, List.getElem?_nil, List.set_cons_zero, List.set_cons_succ, List.take_succ_cons, List.take_zero, List.drop_succ_cons, List.drop_zero, List.nil_append, List.cons_append, List.append_nil, Option.map_some, Option.map_none, Option.bind_some, Option.bind_none, reduceIte, ↓reduceIte, decide_true, decide_false, Bool.true_and, Bool.and_true, Bool.false_and, Bool.and_false, true_and, and_true, and_self, Nat.reduceAdd, Nat.reduceLeDiff, Nat.reduceEqDiff, Nat.zero_add, Nat.add_zero, Nat.le_refl, Nat.zero_le, ge_iff_le, Nat.reduceLT, Nat.zero_lt_succ, Nat.reduceSub, if_true, if_false, forall_const, reduceCtorEq, Bool.not_true, Bool.not_false, Bool.false_eq_true, Int.reduceEq, Int.reduceLT, Int.reduceLE, Int.reduceNeg, Int.reduceToNat, Int.reduceAdd, Int.reduceSub, Nat.reduceMul, Nat.reduceEqDiff, gW_un, gcF_un, gcA_un, ci_mkmap, ci_mapset, ci_lookup, ci_maxl, ci_appz, pi_lookup, pi_maxl, pu_lookup, pu_maxl, maxl_nil, maxl_one, maxl_cons, cells_mapr, stor_mapr, callv_yld, mm_max, mm_min, putAll_cons, putAll_nil, asgK_normal, roundK_normal, roundK_ret, roundK_exit, ilt_nat, part_cell, part_agg, *]
    | (refine retK_now ?_)
    | (refine retK_now' ?_)
    | (intro q hq)
    | (refine cond_intro (fun hc => ?_) (fun hc => ?_)))
        refine seqK_now ?_
        refine seq_go ?_
        (repeat' first
    | simp (contextual := true) (maxSteps := 4000000) only [fwc, fwe, opsW_gpure, drawW_pure, drawW_gpure, Env.upd_apply, Heap.upd_same, Heap.upd_apply, ite_none, List.getD_cons_zero, List.getD_cons_succ, List.getD_nil, List.length_cons, List.length_nil, List.map_cons, List.map_nil, List.getElem?_cons_zero, List.getElem?_cons_succ, List.getElem?_nil, List.set_cons_zero, List.set_cons_succ, List.take_succ_cons, List.take_zero, List.drop_succ_cons, List.drop_zero, List.nil_append, List.cons_append, List.append_nil, Option.map_some, Option.map_none, Option.bind_some, Option.bind_none, reduceIte, ↓reduceIte, decide_true, decide_false, Bool.true_and, Bool.and_true, Bool.false_and, Bool.and_false, true_and, and_true, and_self, Nat.reduceAdd, Nat.reduceLeDiff, Nat.reduceEqDiff, Nat.zero_add, Nat.add_zero, Nat.le_refl, Nat.zero_le, ge_iff_le, Nat.reduceLT, Nat.zero_lt_succ, Nat.reduceSub, if_true, if_false, forall_const, reduceCtorEq, Bool.not_true, Bool.not_false, Bool.false_eq_true, Int.reduceEq, Int.reduceLT, Int.reduceLE, Int.reduceNeg, Int.reduceToNat, Int.reduceAdd, Int.reduceSub, Nat.reduceMul, Nat.reduceEqDiff, gW_un, gcF_un, gcA_un, ci_mkmap, ci_mapset, ci_lookup, ci_maxl, ci_appz, pi_lookup, pi_maxl, pu_lookup, pu_maxl, maxl_nil, maxl_one, maxl_cons, cells_mapr, stor_mapr, callv_yld, mm_max, mm_min, putAll_cons, putAll_nil, asgK_normal, roundK_normal, roundK_ret, roundK_exit, part_cell, part_agg, *]
    | (refine retK_now ?_)
    | (refine retK_now' ?_)
    | (intro q hq)
    | (refine cond_intro (fun hc => ?_) (fun hc => ?_)))
        refine hck.use ?_
        (repeat' first
    | simp (contextual := true) (maxSteps := 4000000) only [fwc, fwe, opsW_gpure, drawW_pure, drawW_gpure, Env.upd_apply, Heap.upd_same, Heap.upd_apply, ite_none, List.getD_cons_zero, List.getD_cons_succ, List.getD_nil, List.length_cons, List.length_nil, List.map_cons, List.map_nil, List.getElem?_cons_zero, List.getElem?_cons_succ, List.getElem?_nil, List.set_cons_zero, List.set_cons_succ, List.take_succ_cons, List.take_zero, List.drop_succ_cons, List.drop_zero, List.nil_append, List.cons_append, List.append_nil, Option.map_some, Option.map_none, Option.bind_some, Option.bind_none, reduceIte, ↓reduceIte, decide_true, decide_false, Bool.true_and, Bool.and_true, Bool.false_and, Bool.and_false, true_and, and_true, and_self, Nat.reduceAdd, Nat.reduceLeDiff, Nat.reduceEqDiff, Nat.zero_add, Nat.add_zero, Nat.le_refl, Nat.zero_le, ge_iff_le, Nat.reduceLT, Nat.zero_lt_succ, Nat.reduceSub, if_true, if_false, forall_const, reduceCtorEq, Bool.not_true, Bool.not_false, Bool.false_eq_true, Int.reduceEq, Int.reduceLT, Int.reduceLE, Int.reduceNeg, Int.reduceToNat, Int.reduceAdd, Int.reduceSub, Nat.reduceMul, Nat.reduceEqDiff, gW_un, gcF_un, gcA_un, ci_mkmap, ci_mapset, ci_lookup, ci_maxl, ci_appz, pi_lookup, pi_maxl, pu_lookup, pu_maxl, maxl_nil, maxl_one, maxl_cons, cells_mapr, stor_mapr, callv_yld, mm_max, mm_min, putAll_cons, putAll_nil, asgK_normal, roundK_normal, roundK_ret, roundK_exit, part_cell, part_agg, *]
    | (refine retK_now ?_)
    | (refine retK_now' ?_)
    | (intro q hq)
    | (refine cond_intro (fun hc => ?_) (fun hc => ?_)))
        refine seqK_now ?_
        by_cases he : checkL F B = 0
        · have e3 : decide (checkL F B = 0) = true := decide_eq_true he
          replace he := (show Aside _ from he)
          (repeat' first
    | simp (contextual := true) (maxSteps := 4000000) only [fwc, fwe, cmd_seq, opsW_gpure, drawW_pure, drawW_gpure, Env.upd_apply, Heap.upd_same, Heap.upd_apply, ite_none, List.getD_cons_zero, List.getD_cons_succ, List.getD_nil, List.length_cons, List.length_nil, List.map_cons, List.map_nil, List.getElem?_cons_zero, List.getElem?_cons_succ, List.getElem?_nil, List.set_cons_zero, List.set_cons_succ, List.take_succ_cons, List.take_zero, List.drop_succ_cons, List.drop_zero, List.nil_append, List.cons_append, List.append_nil, Option.map_some, Option.map_none, Option.bind_some, Option.bind_none, reduceIte, ↓reduceIte, decide_true, decide_false, Bool.true_and, Bool.and_true, Bool.false_and, Bool.and_false, true_and, and_true, and_self, Nat.reduceAdd, Nat.reduceLeDiff, Nat.reduceEqDiff, Nat.zero_add, Nat.add_zero, Nat.le_refl, Nat.zero_le, ge_iff_le, Nat.reduceLT, Nat.zero_lt_succ, Nat.reduceSub, if_true, if_false, forall_const, reduceCtorEq, Bool.not_true, Bool.not_false, Bool.false_eq_true, Int.reduceEq, Int.reduceLT, Int.reduceLE, Int.reduceNeg, Int.reduceToNat, Int.reduceAdd, Int.reduceSub, Nat.reduceMul, Nat.reduceEqDiff, gW_un, gcF_un, gcA_un, ci_mkmap, ci_mapset, ci_lookup, ci_maxl, ci_appz, pi_lookup, pi_maxl, pu_lookup, pu_maxl, maxl_nil, maxl_one, maxl_cons, cells_mapr, stor_mapr, callv_yld, mm_max, mm_min, putAll_cons, putAll_nil, asgK_normal, roundK_normal, roundK_ret, roundK_exit, part_cell, part_agg, *]
    | (refine seqK_now ?_)
    | (refine retK_now ?_)
    | (refine retK_now' ?_)
    | (intro q hq)
    | (refine cond_intro (fun hc => ?_) (fun hc => ?_)))
          refine lives4_ok.use ?_
          (repeat' first
    | simp (contextual := true) (maxSteps := 4000000) only [fwc, fwe, cmd_seq, opsW_gpure, drawW_pure, drawW_gpure, Env.upd_apply, Heap.upd_same, Heap.upd_apply, ite_none, List.getD_cons_zero, List.getD_cons_succ, List.getD_nil, List.length_cons, List.length_nil, List.map_cons, List.map_nil, List.getElem?_cons_zero, List.getElem?_cons_succ, List.getElem?_nil, List.set_cons_zero, List.set_cons_succ, List.take_succ_cons, List.take_zero, List.drop_succ_cons, List.drop_zero, List.nil_append, List.cons_append, List.append_nil, Option.map_some, Option.map_none, Option.bind_some, Option.bind_none, reduceIte, ↓reduceIte, decide_true, decide_false, Bool.true_and, Bool.and_true, Bool.false_and, Bool.and_false, true_and, and_true, and_self, Nat.reduceAdd, Nat.reduceLeDiff, Nat.reduceEqDiff, Nat.zero_add, Nat.add_zero, Nat.le_refl, Nat.zero_le, ge_iff_le, Nat.reduceLT, Nat.zero_lt_succ, Nat.reduceSub, if_true, if_false, forall_const, reduceCtorEq, Bool.not_true, Bool.not_false, Bool.false_eq_true, Int.reduceEq, Int.reduceLT, Int.reduceLE, Int.reduceNeg, Int.reduceToNat, Int.reduceAdd, Int.reduceSub, Nat.reduceMul, Nat.reduceEqDiff, gW_un, gcF_un, gcA_un, ci_mkmap, ci_mapset, ci_lookup, ci_maxl, ci_appz, pi_lookup, pi_maxl, pu_lookup, pu_maxl, maxl_nil, maxl_one, maxl_cons, cells_mapr, stor_mapr, callv_yld, mm_max, mm_min, putAll_cons, putAll_nil, asgK_normal, roundK_normal, roundK_ret, roundK_exit, part_cell, part_agg, *]
    | (refine seqK_now ?_)
    | (refine retK_now ?_)
    | (refine retK_now' ?_)
    | (intro q hq)
    | (refine cond_intro (fun hc => ?_) (fun hc => ?_)))
          refine WeakR.pure (by repeat (first | exact Heap.sub_refl _ | refine sub_upd (by simp only [*]) ?_)) ?_
          rfl
        · have e3 : decide (checkL F B = 0) = false := decide_eq_false he
          have k1 := List_err h he rack
          have k2 := Step_err h he rack 0
          have k3 := Meets_err h he rack 1 8
          replace he := (show Aside _ from he)
          generalize checkL F B = e at *
          have q1 : decide (e = e) = true := decide_eq_true rfl
          (repeat' first
    | simp (contextual := true) (maxSteps := 4000000) only [fwc, fwe, cmd_seq, opsW_gpure, drawW_pure, drawW_gpure, Env.upd_apply, Heap.upd_same, Heap.upd_apply, ite_none, List.getD_cons_zero, List.getD_cons_succ, List.getD_nil, List.length_cons, List.length_nil, List.map_cons, List.map_nil, List.getElem?_cons_zero, List.getElem?_cons_succ, List.getElem?_nil, List.set_cons_zero, List.set_cons_succ, List.take_succ_cons, List.take_zero, List.drop_succ_cons, List.drop_zero, List.nil_append, List.cons_append, List.append_nil, Option.map_some, Option.map_none, Option.bind_some, Option.bind_none, reduceIte, ↓reduceIte, decide_true, decide_false, Bool.true_and, Bool.and_true, Bool.false_and, Bool.and_false, true_and, and_true, and_self, Nat.reduceAdd, Nat.reduceLeDiff, Nat.reduceEqDiff, Nat.zero_add, Nat.add_zero, Nat.le_refl, Nat.zero_le, ge_iff_le, Nat.reduceLT, Nat.zero_lt_succ, Nat.reduceSub, if_true, if_false, forall_const, reduceCtorEq, Bool.not_true, Bool.not_false, Bool.false_eq_true, Int.reduceEq, Int.reduceLT, Int.reduceLE, Int.reduceNeg, Int.reduceToNat, Int.reduceAdd, Int.reduceSub, Nat.reduceMul, Nat.reduceEqDiff, gW_un, gcF_un, gcA_un, ci_mkmap, ci_mapset, ci_lookup, ci_maxl, ci_appz, pi_lookup, pi_maxl, pu_lookup, pu_maxl, maxl_nil, maxl_one, maxl_cons, cells_mapr, stor_mapr, callv_yld, mm_max, mm_min, putAll_cons, putAll_nil, asgK_normal, roundK_normal, roundK_ret, roundK_exit, part_cell, part_agg, *]
    | (refine seqK_now ?_)
    | (refine retK_now ?_)
    | (refine retK_now' ?_)
    | (intro q hq)
    | (refine cond_intro (fun hc => ?_) (fun hc => ?_)))
          refine k1.use ?_
          (repeat' first
    | simp (contextual := true) (maxSteps := 4000000) only [fwc, fwe, cmd_seq, opsW_gpure, drawW_pure, drawW_gpure, Env.upd_apply, Heap.upd_same, Heap.upd_apply, ite_none, List.getD_cons_zero, List.getD_cons_succ, List.getD_nil, List.length_cons, List.length_nil, List.map_cons, List.map_nil, List.getElem?_cons_zero, List.getElem?_cons_succ, List.getElem?_nil, List.set_cons_zero, List.set_cons_succ, List.take_succ_cons, List.take_zero, List.drop_succ_cons, List.drop_zero, List.nil_append, List.cons_append, List.append_nil, Option.map_some, Option.map_none, Option.bind_some, Option.bind_none, reduceIte, ↓reduceIte, decide_true, decide_false, Bool.true_and, Bool.and_true, Bool.false_and, Bool.and_false, true_and, and_true, and_self, Nat.reduceAdd, Nat.reduceLeDiff, Nat.reduceEqDiff, Nat.zero_add, Nat.add_zero, Nat.le_refl, Nat.zero_le, ge_iff_le, Nat.reduceLT, Nat.zero_lt_succ, Nat.reduceSub, if_true, if_false, forall_const, reduceCtorEq, Bool.not_true, Bool.not_false, Bool.false_eq_true, Int.reduceEq, Int.reduceLT, Int.reduceLE, Int.reduceNeg, Int.reduceToNat, Int.reduceAdd, Int.reduceSub, Nat.reduceMul, Nat.reduceEqDiff, gW_un, gcF_un, gcA_un, ci_mkmap, ci_mapset, ci_lookup, ci_maxl, ci_appz, pi_lookup, pi_maxl, pu_lookup, pu_maxl, maxl_nil, maxl_one, maxl_cons, cells_mapr, stor_mapr, callv_yld, mm_max, mm_min, putAll_cons, putAll_nil, asgK_normal, roundK_normal, roundK_ret, roundK_exit, part_cell, part_agg, *]
    | (refine seqK_now ?_)
    | (refine retK_now ?_)
    | (refine retK_now' ?_)
    | (intro q hq)
    | (refine cond_intro (fun hc => ?_) (fun hc => ?_)))
          refine k2.use ?_
          (repeat' first
    | simp (contextual := true) (maxSteps := 4000000) only [fwc, fwe, cmd_seq, opsW_gpure, drawW_pure, drawW_gpure, Env.upd_apply, Heap.upd_same, Heap.upd_apply, ite_none, List.getD_cons_zero, List.getD_cons_succ, List.getD_nil, List.length_cons, List.length_nil, List.map_cons, List.map_nil, List.getElem?_cons_zero, List.getElem?_cons_succ, List.getElem?_nil, List.set_cons_zero, List.set_cons_succ, List.take_succ_cons, List.take_zero, List.drop_succ_cons, List.drop_zero, List.nil_append, List.cons_append, List.append_nil, Option.map_some, Option.map_none, Option.bind_some, Option.bind_none, reduceIte, ↓reduceIte, decide_true, decide_false, Bool.true_and, Bool.and_true, Bool.false_and, Bool.and_false, true_and, and_true, and_self, Nat.reduceAdd, Nat.reduceLeDiff, Nat.reduceEqDiff, Nat.zero_add, Nat.add_zero, Nat.le_refl, Nat.zero_le, ge_iff_le, Nat.reduceLT, Nat.zero_lt_succ, Nat.reduceSub, if_true, if_false, forall_const, reduceCtorEq, Bool.not_true, Bool.not_false, Bool.false_eq_true, Int.reduceEq, Int.reduceLT, Int.reduceLE, Int.reduceNeg, Int.reduceToNat, Int.reduceAdd, Int.reduceSub, Nat.reduceMul, Nat.reduceEqDiff, gW_un, gcF_un, gcA_un, ci_mkmap, ci_mapset, ci_lookup, ci_maxl, ci_appz, pi_lookup, pi_maxl, pu_lookup, pu_maxl, maxl_nil, maxl_one, maxl_cons, cells_mapr, stor_mapr, callv_yld, mm_max, mm_min, putAll_cons, putAll_nil, asgK_normal, roundK_normal, roundK_ret, roundK_exit, part_cell, part_agg, *]
    | (refine seqK_now ?_)
    | (refine retK_now ?_)
    | (refine retK_now' ?_)
    | (intro q hq)
    | (refine cond_intro (fun hc => ?_) (fun hc => ?_)))
          refine k3.use ?_
          (repeat' first
    | simp (contextual := true) (maxSteps := 4000000) only [fwc, fwe, cmd_seq, opsW_gpure, drawW_pure, drawW_gpure, Env.upd_apply, Heap.upd_same, Heap.upd_apply, ite_none, List.getD_cons_zero, List.getD_cons_succ, List.getD_nil, List.length_cons, List.length_nil, List.map_cons, List.map_nil, List.getElem?_cons_zero, List.getElem?_cons_succ, List.getElem?_nil, List.set_cons_zero, List.set_cons_succ, List.take_succ_cons, List.take_zero, List.drop_succ_cons, List.drop_zero, List.nil_append, List.cons_append, List.append_nil, Option.map_some, Option.map_none, Option.bind_some, Option.bind_none, reduceIte, ↓reduceIte, decide_true, decide_false, Bool.true_and, Bool.and_true, Bool.false_and, Bool.and_false, true_and, and_true, and_self, Nat.reduceAdd, Nat.reduceLeDiff, Nat.reduceEqDiff, Nat.zero_add, Nat.add_zero, Nat.le_refl, Nat.zero_le, ge_iff_le, Nat.reduceLT, Nat.zero_lt_succ, Nat.reduceSub, if_true, if_false, forall_const, reduceCtorEq, Bool.not_true, Bool.not_false, Bool.false_eq_true, Int.reduceEq, Int.reduceLT, Int.reduceLE, Int.reduceNeg, Int.reduceToNat, Int.reduceAdd, Int.reduceSub, Nat.reduceMul, Nat.reduceEqDiff, gW_un, gcF_un, gcA_un, ci_mkmap, ci_mapset, ci_lookup, ci_maxl, ci_appz, pi_lookup, pi_maxl, pu_lookup, pu_maxl, maxl_nil, maxl_one, maxl_cons, cells_mapr, stor_mapr, callv_yld, mm_max, mm_min, putAll_cons, putAll_nil, asgK_normal, roundK_normal, roundK_ret, roundK_exit, part_cell, part_agg, *]
    | (refine seqK_now ?_)
    | (refine retK_now ?_)
    | (refine retK_now' ?_)
    | (intro q hq)
    | (refine cond_intro (fun hc => ?_) (fun hc => ?_)))
          refine lives4_ok.use ?_
          (repeat' first
    | simp (contextual := true) (maxSteps := 4000000) only [fwc, fwe, cmd_seq, opsW_gpure, drawW_pure, drawW_gpure, Env.upd_apply, Heap.upd_same, Heap.upd_apply, ite_none, List.getD_cons_zero, List.getD_cons_succ, List.getD_nil, List.length_cons, List.length_nil, List.map_cons, List.map_nil, List.getElem?_cons_zero, List.getElem?_cons_succ, List.getElem?_nil, List.set_cons_zero, List.set_cons_succ, List.take_succ_cons, List.take_zero, List.drop_succ_cons, List.drop_zero, List.nil_append, List.cons_append, List.append_nil, Option.map_some, Option.map_none, Option.bind_some, Option.bind_none, reduceIte, ↓reduceIte, decide_true, decide_false, Bool.true_and, Bool.and_true, Bool.false_and, Bool.and_false, true_and, and_true, and_self, Nat.reduceAdd, Nat.reduceLeDiff, Nat.reduceEqDiff, Nat.zero_add, Nat.add_zero, Nat.le_refl, Nat.zero_le, ge_iff_le, Nat.reduceLT, Nat.zero_lt_succ, Nat.reduceSub, if_true, if_false, forall_const, reduceCtorEq, Bool.not_true, Bool.not_false, Bool.false_eq_true, Int.reduceEq, Int.reduceLT, Int.reduceLE, Int.reduceNeg, Int.reduceToNat, Int.reduceAdd, Int.reduceSub, Nat.reduceMul, Nat.reduceEqDiff, gW_un, gcF_un, gcA_un, ci_mkmap, ci_mapset, ci_lookup, ci_maxl, ci_appz, pi_lookup, pi_maxl, pu_lookup, pu_maxl, maxl_nil, maxl_one, maxl_cons, cells_mapr, stor_mapr, callv_yld, mm_max, mm_min, putAll_cons, putAll_nil, asgK_normal, roundK_normal, roundK_ret, roundK_exit, part_cell, part_agg, *]
    | (refine seqK_now ?_)
    | (refine retK_now ?_)
    | (refine retK_now' ?_)
    | (intro q hq)
    | (refine cond_intro (fun hc => ?_) (fun hc => ?_)))
          refine WeakR.pure (by repeat (first | exact Heap.sub_refl _ | refine sub_upd (by simp only [*]) ?_)) ?_
          rfl
end Go.Proofs.Ytlpngkeegjickab

namespace Go.Proofs.Ytlpngkeegjickab
open Go.Ab Go.ChangeShapes Go.WideShapes Go.ChangeAt Go.RowKit

theorem own : ownKnob Try.prog.godebug = none := by kernel_rfl
theorem laid : laidOutB Try.prog = true := by kernel_rfl
def layId : Lay := .int .u8 (.int .i64 .nil)
def layBeds : Lay := .slice false (.slice true layId .nil) (.slice false (.slice true layId .nil) .nil)
theorem stacks_of : ∀ {l : List AV}, (∀ x ∈ l, ∃ L : List Id, IsL 2 x (L.map Id.av)) → ∃ F : List (List Id), l.length = F.length ∧ ∀ (i : Nat) (h : i < l.length) (h' : i < F.length), IsL 2 l[i] (F[i].map Id.av)
  | [], _ => ⟨[], rfl, fun i h => by simp at h⟩
  | x :: l, h => by
    obtain ⟨L, hL⟩ := h x (by simp)
    obtain ⟨F, h1, h2⟩ := stacks_of (l := l) fun y hy => h y (by simp [hy])
    refine ⟨L :: F, by simp [h1], fun i k k' => ?_⟩
    cases i with
    | zero => exact hL
    | succ i => exact h2 i (by simpa using k) (by simpa using k')
theorem ids_of {l : List AV} (h : ∀ x ∈ l, ∃ es, elemIs true x es ∧ LayOK layId es) : ∃ L : List Id, l = L.map Id.av := by
  obtain ⟨X, rfl, hX⟩ := map_of_all (f := Id.av) (Q := fun _ => True) (l := l) (fun x hx => by
    obtain ⟨es, rfl, y, vs', rfl, hw1, n, vs', rfl, hw2, rfl⟩ := h x hx
    exact ⟨⟨y, n⟩, rfl, trivial⟩)
  exact ⟨X, rfl⟩
theorem open_bed {s : AV} {l : List AV} (h1 : IsL 1 s l) (h : ∀ x ∈ l, ∃ es, elemIs false x es ∧ LayOK (.slice true layId .nil) es) : ∃ F : List (List Id), IsB s l F := by
  obtain ⟨F, k1, k2⟩ := stacks_of (l := l) fun x hx => by
    obtain ⟨es, rfl, s', l', qs, e, m1, m2, m3, m4⟩ := h x hx
    simp only [List.cons.injEq] at e
    obtain ⟨rfl, _⟩ := e
    obtain ⟨L, rfl⟩ := ids_of m3
    exact ⟨L, m1⟩
  exact ⟨F, h1, k1, k2⟩
theorem open_beds {a : AV} {es : List AV} (he : elemIs true a es) (h : LayOK layBeds es) : ∃ f b fs bs F B, a = .agg [f, b] ∧ Two f b fs bs F B ∧ F.length ≤ 9223372036854775807 ∧ B.length ≤ 9223372036854775807 := by
  obtain ⟨f, l, qs, rfl, h1, h2, h3, b, m, qs', rfl, h4, h5, h6, rfl⟩ := h
  obtain ⟨F, hF⟩ := open_bed h1 h3
  obtain ⟨B, hB⟩ := open_bed h4 h6
  have : maxLen = 9223372036854775807 := by decide
  exact ⟨f, b, l, m, F, B, he, ⟨hF, hB⟩, by rw [← hF.2.1]; omega, by rw [← hB.2.1]; omega⟩
theorem OrdersErrors_args (vs : List AV) (h : ArgsOK [(true, layBeds), (false, .int .i64 .nil)] vs) : PureA Try.prog 5 vs (.val (.bool true)) := by
  obtain ⟨a, vs', es, rfl, k1, h1, r, vs', es', rfl, rfl, h2, rfl⟩ := h
  obtain ⟨n, qs, e, _, _⟩ := h2
  simp only [List.cons.injEq] at e
  obtain ⟨rfl, _⟩ := e
  obtain ⟨f, b, fs, bs, F, B, rfl, hT, hF, hB⟩ := open_beds k1 h1
  exact OrdersErrors_ok hT n hF hB
set_option maxRecDepth 100000 in
theorem OrdersErrors_lifted (os : Os) (started : os.Started) (H : Type) (enc : TypeId × Value → H) :
    ReturnsInHanded {} Try.checked os 5 .any (Rows.ordersErrorsSpec.pre6 enc Try.prog Try.f5 Rows.ordersErrorsRow.domain false) (Rows.ordersErrorsSpec.post enc Try.prog Try.f5 false true false false) := by
  refine returnsInHanded_of_change (C := Try.checked) own started (by kernel_rfl) Try.func5
    (ChangeSpec.witness6 (enc := enc) (C := Try.checked) false ⟨#[], #[.agg #[.slice none 0 0, .slice none 0 0], .int .i64 0], []⟩ 8 (by kernel_rfl) (by kernel_rfl) (by kernel_rfl) (by kernel_rfl)) ?_
  intro W base args ds gs before hval hW _ _
  exact law_calls (lays := [(true, layBeds), (false, .int .i64 .nil)]) laid (of_decide_eq_true (by kernel_rfl)) (by kernel_rfl) (by kernel_rfl) rfl (fun ds hds => by
    match ds, hds with
    | [d1, d2], _ => rfl) OrdersErrors_args W base args ds gs before hval hW

theorem OrdersErrors_holds : Rows.OrdersErrorsSaid :=
  OpenClaim.holds_of_wide 5 Try.f5 rfl rfl rfl rfl rfl rfl rfl ⟨rfl, rfl, rfl, rfl, rfl⟩ rfl rfl rfl rfl rfl (by kernel_rfl) Try.func5 (by kernel_rfl)
    (of_decide_eq_true (by kernel_rfl)) (by unfold Func.isWrapper; first | (rw [if_pos (by decide +kernel)]; kernel_rfl) | (rw [if_neg (by decide +kernel)]; exact ⟨rfl, rfl⟩))
    (fun os started H enc _ => OrdersErrors_lifted os started H enc)

end Go.Proofs.Ytlpngkeegjickab

namespace Go.Proofs.Ytlpngkeegjickab
open Go.Ab
attribute [local irreducible] WeakR WeakE CallA YieldA

/-! Clone into an array of one's own, Reverse of it, and inOrder. -/
def OwR (O0 O' : Heap) (s : AV) (L : List AV) : Prop :=
  (L = [] ∧ s = .list 2 true [] ∧ O' = O0) ∨ (L ≠ [] ∧ ∃ id, O0 id = none ∧ s = .own id 2 0 L.length none ∧ O' = O0.upd id (.arr 38 2 L))

theorem CloneW_ok (t : Bool) (L : List AV) (hl : L.length ≤ 1048576) (O : Heap) (K : AV → Heap → Prop) (hk : ∀ s' O', OwR O O' s' L → K s' O') : CallA Try.prog 46 [.list 2 t L] O K := by
  refine k46w.call mix ?_
  unfold c46w
  (repeat' first
    | simp (contextual := true) (maxSteps := 4000000) only [fwc, fwe, fww, reduceIte, ↓reduceIte, Nat.reduceAdd, Nat.reduceLeDiff, Nat.reduceEqDiff, Nat.reduceLT, Nat.reduceSub, reduceCtorEq, Int.reduceEq, Int.reduceLT, Int.reduceLE, Int.reduceNeg, Int.reduceToNat, Int.reduceAdd, Int.reduceSub, Nat.reduceMul, *]
    | (refine seqK_now ?_)
    | (refine retK_now ?_)
    | (refine retK_now' ?_)
    | (intro q hq)
    | (refine cond_intro (fun hc => ?_) (fun hc => ?_)))
  refine app_list_own (L := []) rfl (fits_of (by simp <;> omega) (by simp <;> omega)) (fun h0 => ?_) fun hne id hid => ?_
  · (repeat' first
    | simp (contextual := true) (maxSteps := 4000000) only [fwc, fwe, fww, reduceIte, ↓reduceIte, Nat.reduceAdd, Nat.reduceLeDiff, Nat.reduceEqDiff, Nat.reduceLT, Nat.reduceSub, reduceCtorEq, Int.reduceEq, Int.reduceLT, Int.reduceLE, Int.reduceNeg, Int.reduceToNat, Int.reduceAdd, Int.reduceSub, Nat.reduceMul, *]
    | (refine seqK_now ?_)
    | (refine retK_now ?_)
    | (refine retK_now' ?_)
    | (intro q hq)
    | (refine cond_intro (fun hc => ?_) (fun hc => ?_)))
    refine WeakR.now (hk _ _ (.inl ⟨h0, rfl, rfl⟩))
  · have hz : ([] : List AV).length + L.length = L.length := Nat.zero_add _
    have hn : ([] : List AV) ++ L = L := rfl
    rw [hz, hn]
    have hne := (show Aside _ from hne)
    (repeat' first
    | simp (contextual := true) (maxSteps := 4000000) only [fwc, fwe, fww, reduceIte, ↓reduceIte, Nat.reduceAdd, Nat.reduceLeDiff, Nat.reduceEqDiff, Nat.reduceLT, Nat.reduceSub, reduceCtorEq, Int.reduceEq, Int.reduceLT, Int.reduceLE, Int.reduceNeg, Int.reduceToNat, Int.reduceAdd, Int.reduceSub, Nat.reduceMul, *]
    | (refine seqK_now ?_)
    | (refine retK_now ?_)
    | (refine retK_now' ?_)
    | (intro q hq)
    | (refine cond_intro (fun hc => ?_) (fun hc => ?_)))
    refine WeakR.now (hk _ _ (.inr ⟨hne.out, id, hid, rfl, rfl⟩))

def rv (L : List Id) (k : Nat) : List Id := (List.range L.length).map fun j => if j < k ∨ L.length ≤ j + k then L.getD (L.length - 1 - j) ⟨0, 0⟩ else L.getD j ⟨0, 0⟩
theorem rv_len (L : List Id) (k : Nat) : (rv L k).length = L.length := by simp [rv]
theorem rv_at (L : List Id) (k i : Nat) (h : i < (rv L k).length) : (rv L k)[i] = if i < k ∨ L.length ≤ i + k then L.getD (L.length - 1 - i) ⟨0, 0⟩ else L.getD i ⟨0, 0⟩ := by
  simp only [rv, List.getElem_map, List.getElem_range]
theorem rv_zero (L : List Id) : rv L 0 = L := by
  refine List.ext_getElem (rv_len _ _) fun i h1 h2 => ?_
  rw [rv_at, if_neg (by omega), List.getD_eq_getElem?_getD, List.getElem?_eq_getElem h2]
  rfl
theorem rv_end (L : List Id) (k : Nat) (h : ¬ k < L.length - 1 - k) : rv L k = L.reverse := by
  refine List.ext_getElem (by simp [rv_len]) fun i h1 h2 => ?_
  rw [rv_len] at h1
  rw [rv_at, List.getElem_reverse]
  by_cases hc : i < k ∨ L.length ≤ i + k
  · rw [if_pos hc, List.getD_eq_getElem?_getD, List.getElem?_eq_getElem (by omega)]
    rfl
  · rw [if_neg hc, List.getD_eq_getElem?_getD, List.getElem?_eq_getElem h1]
    simp only [Option.getD_some]
    congr 1
    omega
theorem rv_step (L : List Id) (k : Nat) (h : k < L.length - 1 - k) (h1 : k < L.length) (h2 : L.length - 1 - k < L.length) : (((rv L k).map Id.av).set k (L[L.length - 1 - k]).av).set (L.length - 1 - k) (L[k]).av = (rv L (k + 1)).map Id.av := by
  refine List.ext_getElem (by simp [rv_len]) fun i g1 g2 => ?_
  have hi : i < L.length := by simpa [rv_len] using g2
  rw [List.getElem_set, List.getElem_set, List.getElem_map, List.getElem_map, rv_at, rv_at]
  by_cases c1 : L.length - 1 - k = i
  · rw [if_pos c1, if_pos (by omega), List.getD_eq_getElem?_getD, List.getElem?_eq_getElem (by omega)]
    simp only [Option.getD_some]
    congr 2
    omega
  · rw [if_neg c1]
    by_cases c2 : k = i
    · rw [if_pos c2, if_pos (by omega), List.getD_eq_getElem?_getD, List.getElem?_eq_getElem (by omega)]
      simp only [Option.getD_some]
      congr 2
      omega
    · rw [if_neg c2]
      congr 1
      by_cases c3 : i < k ∨ L.length ≤ i + k
      · rw [if_pos c3, if_pos (by omega)]
      · rw [if_neg c3, if_neg (by omega)]
theorem rv_get (L : List Id) (k j : Nat) (h : j < L.length) (h1 : ¬ (j < k ∨ L.length ≤ j + k)) (h2 : j < ((rv L k).map Id.av).length) : ((rv L k).map Id.av)[j] = (L[j]).av := by
  rw [List.getElem_map, rv_at, if_neg h1, List.getD_eq_getElem?_getD, List.getElem?_eq_getElem h]
  rfl
def env47 (s : AV) (k m : Nat) : Env := ((Env.upd (fun _ => .junk) 3 (.val (.int .i64 m))).upd 2 (.val (.int .i64 k))).upd 0 s

theorem Reverse_ok (s : AV) (L : List Id) (O O1 : Heap) (h : OwR O O1 s (L.map Id.av)) (hl : L.length ≤ 1048576) (K : AV → Heap → Prop) (hk : ∀ r O2, OwR O O2 s (L.reverse.map Id.av) → K r O2) : CallA Try.prog 47 [s] O1 K := by
  refine k47.call mix ?_
  unfold c47
  rcases h with ⟨hL, rfl, rfl⟩ | ⟨hL, id, hid, rfl, rfl⟩
  · have hL' : L = [] := List.map_eq_nil_iff.1 hL
    subst hL'
    obtain ⟨I, hI⟩ := hideI (fun m e O' => m = 0 ∧ O' = O1 ∧ e = ((Env.upd (fun _ => .junk) 3 (.val (.int .i64 (-1)))).upd 2 (.val (.int .i64 0))).upd 0 (.list 2 true []))
    have w0 : IntKind.i64.wrap (0 - 1) = -1 := by decide
    have w1 : IntKind.i64.wrap (-1) = -1 := by decide
    have d0 : decide ((0 : Int) < -1) = false := by decide
    (repeat' first
    | simp (contextual := true) (maxSteps := 4000000) only [fwc, fwe, fww, reduceIte, ↓reduceIte, Nat.reduceAdd, Nat.reduceLeDiff, Nat.reduceEqDiff, Nat.reduceLT, Nat.reduceSub, reduceCtorEq, Int.reduceEq, Int.reduceLT, Int.reduceLE, Int.reduceNeg, Int.reduceToNat, Int.reduceAdd, Int.reduceSub, Nat.reduceMul, *]
    | (refine seqK_now ?_)
    | (refine retK_now ?_)
    | (refine retK_now' ?_)
    | (intro q hq)
    | (refine cond_intro (fun hc => ?_) (fun hc => ?_)))
    refine cmd_loop I 0 (by rw [hI.out]; exact ⟨rfl, rfl, rfl⟩) ?_
    intro m e O' hh
    rw [hI.out] at hh
    obtain ⟨rfl, hOH, rfl⟩ := hh
    rw [hOH]
    clear hOH O'
    (repeat' first
    | simp (contextual := true) (maxSteps := 4000000) only [fwc, fwe, fww, reduceIte, ↓reduceIte, Nat.reduceAdd, Nat.reduceLeDiff, Nat.reduceEqDiff, Nat.reduceLT, Nat.reduceSub, reduceCtorEq, Int.reduceEq, Int.reduceLT, Int.reduceLE, Int.reduceNeg, Int.reduceToNat, Int.reduceAdd, Int.reduceSub, Nat.reduceMul, *]
    | (refine seqK_now ?_)
    | (refine retK_now ?_)
    | (refine retK_now' ?_)
    | (intro q hq)
    | (refine cond_intro (fun hc => ?_) (fun hc => ?_)))
    exact WeakR.now (hk _ _ (.inl ⟨rfl, rfl, rfl⟩))
  · have hn : 0 < L.length := List.length_pos_iff.2 fun e => hL (by rw [e]; rfl)
    rw [List.length_map]
    have hw1 : IntKind.i64.wrap ((L.length : Int) - 1) = ((L.length - 1 - 0 : Nat) : Int) := by rw [wrap_i64 (by omega) (by omega)]; omega
    obtain ⟨I, hI⟩ := hideI (fun m e O' => ∃ k : Nat, 2 * k ≤ L.length ∧ m = L.length - k ∧ O' = O.upd id (.arr 38 2 ((rv L k).map Id.av)) ∧ e = env47 (.own id 2 0 L.length none) k (L.length - 1 - k))
    replace hL := (show Aside _ from hL)
    (repeat' first
    | simp (contextual := true) (maxSteps := 4000000) only [fwc, fwe, fww, reduceIte, ↓reduceIte, Nat.reduceAdd, Nat.reduceLeDiff, Nat.reduceEqDiff, Nat.reduceLT, Nat.reduceSub, reduceCtorEq, Int.reduceEq, Int.reduceLT, Int.reduceLE, Int.reduceNeg, Int.reduceToNat, Int.reduceAdd, Int.reduceSub, Nat.reduceMul, *]
    | (refine seqK_now ?_)
    | (refine retK_now ?_)
    | (refine retK_now' ?_)
    | (intro q hq)
    | (refine cond_intro (fun hc => ?_) (fun hc => ?_)))
    refine cmd_loop I L.length (by
      rw [hI.out]
      exact ⟨0, by omega, by omega, by rw [rv_zero], rfl⟩) ?_
    intro m e O' hh
    rw [hI.out] at hh
    obtain ⟨k, hk2, rfl, hOH, rfl⟩ := hh
    rw [hOH]
    clear hOH O'
    unfold env47
    by_cases hc : k < L.length - 1 - k
    · have e0 : decide (k < L.length - 1 - k) = true := decide_eq_true hc
      have h1 : k < L.length := by omega
      have h2 : L.length - 1 - k < L.length := by omega
      have a1 : indexAddrA 2 (k : Int) (.own id 2 0 L.length none) = some (.optr id 2 k 0) := by rw [ia_onat h1, Nat.zero_add]
      have a2 : indexAddrA 2 ((L.length - 1 - k : Nat) : Int) (.own id 2 0 L.length none) = some (.optr id 2 (L.length - 1 - k) 0) := by rw [ia_onat h2, Nat.zero_add]
      have len : ((rv L k).map Id.av).length = L.length := by rw [List.length_map, rv_len]
      have g1 : ((rv L k).map Id.av)[k]? = some (L[k]).av := by rw [List.getElem?_eq_getElem (by omega), rv_get L k k h1 (by omega)]
      have g2 : ((rv L k).map Id.av)[L.length - 1 - k]? = some (L[L.length - 1 - k]).av := by rw [List.getElem?_eq_getElem (by omega), rv_get L k _ h2 (by omega)]
      have hst := rv_step L k hc h1 h2
      have w2 : IntKind.i64.wrap (((L.length - 1 - k : Nat) : Int) - 1) = ((L.length - 1 - (k + 1) : Nat) : Int) := by rw [wrap_i64 (by omega) (by omega)]; omega
      have hwk : k < 4611686018427387904 := by omega
      generalize L[L.length - 1 - k] = y at *
      generalize L[k] = x at *
      rw [show x.av = .agg [.val (.int .u8 x.y), .val (.int .i64 x.n)] from rfl] at g1 hst
      rw [show y.av = .agg [.val (.int .u8 y.y), .val (.int .i64 y.n)] from rfl] at g2 hst
      generalize (rv L k).map Id.av = E at *
      have s1 : E.take k ++ [AV.agg [.val (.int .u8 y.y), .val (.int .i64 y.n)]] ++ E.drop (k + 1) = E.set k (.agg [.val (.int .u8 y.y), .val (.int .i64 y.n)]) := by rw [List.set_eq_take_append_cons_drop, if_pos (by omega)]; simp
      have hsub : L.length - 1 - (k + 1) = L.length - 1 - k - 1 := by omega
      rw [hsub] at w2
      generalize hm : L.length - 1 - k = m at *
      replace hsub := (show Aside _ from hsub)
      replace hm := (show Aside _ from hm)
      replace hc := (show Aside _ from hc)
      have lk : k + 1 ≤ E.length := by omega
      have lm : m + 1 ≤ E.length := by omega
      have g3 : (E.set k (AV.agg [.val (.int .u8 y.y), .val (.int .i64 y.n)]))[m]? = some (.agg [.val (.int .u8 y.y), .val (.int .i64 y.n)]) := by rw [List.getElem?_set, if_neg (by have := hc.out; omega)]; exact g2
      replace h1 := (show Aside _ from h1)
      replace h2 := (show Aside _ from h2)
      refine seq_go ?_
      refine seq_go ?_
      (repeat' first
    | simp (contextual := true) (maxSteps := 4000000) only [fwc, fwe, fww, reduceIte, ↓reduceIte, Nat.reduceAdd, Nat.reduceLeDiff, Nat.reduceEqDiff, Nat.reduceLT, Nat.reduceSub, reduceCtorEq, Int.reduceEq, Int.reduceLT, Int.reduceLE, Int.reduceNeg, Int.reduceToNat, Int.reduceAdd, Int.reduceSub, Nat.reduceMul, ilt_nat, part_cell, part_agg, *]
    | (refine retK_now ?_)
    | (refine retK_now' ?_)
    | (intro q hq)
    | (refine cond_intro (fun hc => ?_) (fun hc => ?_)))
      refine seqK_now ?_
      (repeat' first
    | simp (contextual := true) (maxSteps := 4000000) only [fwc, fwe, fww, reduceIte, ↓reduceIte, Nat.reduceAdd, Nat.reduceLeDiff, Nat.reduceEqDiff, Nat.reduceLT, Nat.reduceSub, reduceCtorEq, Int.reduceEq, Int.reduceLT, Int.reduceLE, Int.reduceNeg, Int.reduceToNat, Int.reduceAdd, Int.reduceSub, Nat.reduceMul, ilt_nat, part_cell, part_agg, *]
    | (refine retK_now ?_)
    | (refine retK_now' ?_)
    | (intro q hq)
    | (refine cond_intro (fun hc => ?_) (fun hc => ?_)))
      refine seqK_now ?_
      refine seq_go ?_
      (repeat' first
    | simp (contextual := true) (maxSteps := 4000000) only [fwc, fwe, fww, reduceIte, ↓reduceIte, Nat.reduceAdd, Nat.reduceLeDiff, Nat.reduceEqDiff, Nat.reduceLT, Nat.reduceSub, reduceCtorEq, Int.reduceEq, Int.reduceLT, Int.reduceLE, Int.reduceNeg, Int.reduceToNat, Int.reduceAdd, Int.reduceSub, Nat.reduceMul, ilt_nat, part_cell, part_agg, *]
    | (refine retK_now ?_)
    | (refine retK_now' ?_)
    | (intro q hq)
    | (refine cond_intro (fun hc => ?_) (fun hc => ?_)))
      refine seqK_now ?_
      (repeat' first
    | simp (contextual := true) (maxSteps := 4000000) only [fwc, fwe, fww, reduceIte, ↓reduceIte, Nat.reduceAdd, Nat.reduceLeDiff, Nat.reduceEqDiff, Nat.reduceLT, Nat.reduceSub, reduceCtorEq, Int.reduceEq, Int.reduceLT, Int.reduceLE, Int.reduceNeg, Int.reduceToNat, Int.reduceAdd, Int.reduceSub, Nat.reduceMul, ilt_nat, part_cell, part_agg, wrap_succ, *]
    | (refine seqK_now ?_)
    | (refine retK_now ?_)
    | (refine retK_now' ?_)
    | (intro q hq)
    | (refine cond_intro (fun hc => ?_) (fun hc => ?_)))
      refine loopK_now (L.length - (k + 1)) (by have := h1.out; omega) ?_
      rw [hI.out]
      refine ⟨k + 1, by have := hc.out; have := hm.out; omega, rfl, rfl, ?_⟩
      rw [hsub.out]
      rfl
    · have e0 : decide (k < L.length - 1 - k) = false := decide_eq_false hc
      have hre := rv_end L k hc
      rw [hre]
      replace hc := (show Aside _ from hc)
      (repeat' first
    | simp (contextual := true) (maxSteps := 4000000) only [fwc, fwe, fww, reduceIte, ↓reduceIte, Nat.reduceAdd, Nat.reduceLeDiff, Nat.reduceEqDiff, Nat.reduceLT, Nat.reduceSub, reduceCtorEq, Int.reduceEq, Int.reduceLT, Int.reduceLE, Int.reduceNeg, Int.reduceToNat, Int.reduceAdd, Int.reduceSub, Nat.reduceMul, ilt_nat, part_cell, part_agg, *]
    | (refine seqK_now ?_)
    | (refine retK_now ?_)
    | (refine retK_now' ?_)
    | (intro q hq)
    | (refine cond_intro (fun hc => ?_) (fun hc => ?_)))
      refine WeakR.now (hk _ _ (.inr ⟨fun e => hL.out (by rw [List.map_eq_nil_iff] at e ⊢; simpa using e), id, hid, ?_, rfl⟩))
      simp

theorem ReverseE_ok (s : AV) (h : lenA s = some (.val (.int .i64 0))) (hc : s.cells = [s]) (hst : s.stor = true) : PureA Try.prog 47 [s] (.tup []) := by
  intro O
  refine k47.call mix ?_
  unfold c47
  obtain ⟨I, hI⟩ := hideI (fun m e O' => m = 0 ∧ O' = O ∧ e = ((Env.upd (fun _ => .junk) 3 (.val (.int .i64 (-1)))).upd 2 (.val (.int .i64 0))).upd 0 s)
  have w0 : IntKind.i64.wrap (0 - 1) = -1 := by decide
  have w1 : IntKind.i64.wrap (-1) = -1 := by decide
  have d0 : decide ((0 : Int) < -1) = false := by decide
  (repeat' first
    | simp (contextual := true) (maxSteps := 4000000) only [fwc, fwe, fww, reduceIte, ↓reduceIte, Nat.reduceAdd, Nat.reduceLeDiff, Nat.reduceEqDiff, Nat.reduceLT, Nat.reduceSub, reduceCtorEq, Int.reduceEq, Int.reduceLT, Int.reduceLE, Int.reduceNeg, Int.reduceToNat, Int.reduceAdd, Int.reduceSub, Nat.reduceMul, *]
    | (refine seqK_now ?_)
    | (refine retK_now ?_)
    | (refine retK_now' ?_)
    | (intro q hq)
    | (refine cond_intro (fun hc => ?_) (fun hc => ?_)))
  refine cmd_loop I 0 (by rw [hI.out]; exact ⟨rfl, rfl, rfl⟩) ?_
  intro m e O' hh
  rw [hI.out] at hh
  obtain ⟨rfl, hOH, rfl⟩ := hh
  rw [hOH]
  clear hOH O'
  (repeat' first
    | simp (contextual := true) (maxSteps := 4000000) only [fwc, fwe, fww, reduceIte, ↓reduceIte, Nat.reduceAdd, Nat.reduceLeDiff, Nat.reduceEqDiff, Nat.reduceLT, Nat.reduceSub, reduceCtorEq, Int.reduceEq, Int.reduceLT, Int.reduceLE, Int.reduceNeg, Int.reduceToNat, Int.reduceAdd, Int.reduceSub, Nat.reduceMul, *]
    | (refine seqK_now ?_)
    | (refine retK_now ?_)
    | (refine retK_now' ?_)
    | (intro q hq)
    | (refine cond_intro (fun hc => ?_) (fun hc => ?_)))
  refine WeakR.pure (Heap.sub_refl _) ?_
  rfl

def endA (L : List AV) : AV := if L = [] then .list 2 true [] else .list 2 false L
theorem endA_L (L : List AV) : IsL 2 (endA L) L := by
  unfold endA
  by_cases h : L = []
  · rw [if_pos h, h]; exact .inr ⟨true, rfl⟩
  · rw [if_neg h]; exact .inr ⟨false, rfl⟩
theorem OwR.pure {O0 O' : Heap} {s R : AV} {L : List AV} (h : OwR O0 O' s L) (hr : endA L = R) : WeakR (fun r' O' => r' = R ∧ O' = O0) s O' := by
  rcases h with ⟨rfl, rfl, rfl⟩ | ⟨hne, id, h0, rfl, rfl⟩
  · exact WeakR.pure (Heap.sub_refl _) hr
  · have hz := Fz.own (id := id) (sz := 2) (elems := L) 0 L.length none false (by omega) (fun h => by cases h)
    rw [List.drop_zero, List.take_length] at hz
    refine WeakR.pureF id 2 38 L (Heap.upd_same _ _ _) hz (by rw [del_upd_new h0]; exact Heap.sub_refl _) ?_
    rw [← hr, endA, if_neg hne]
theorem OwR.cells {O0 O' : Heap} {s : AV} {L : List AV} (h : OwR O0 O' s L) : s.cells = [s] ∧ s.stor = true := by
  rcases h with ⟨rfl, rfl, rfl⟩ | ⟨hne, id, h0, rfl, rfl⟩ <;> exact ⟨rfl, rfl⟩

def ordL (d : Int) (L : List Id) : List Id := if d = 0 then L.reverse else L
theorem inOrder_ok (s : AV) (L : List Id) (hs : IsL 2 s (L.map Id.av)) (hl : L.length ≤ 1048576) (d : Int) :
    ∃ r, PureA Try.prog 24 [s, .val (.int .u8 d)] r ∧ IsL 2 r ((ordL d L).map Id.av) := by
  rcases hs with ⟨rfl, h0⟩ | ⟨t, rfl⟩
  · have hL : L = [] := List.map_eq_nil_iff.1 h0
    subst hL
    refine ⟨.val (.slice none 0 0), ?_, .inl ⟨rfl, by unfold ordL; split <;> rfl⟩⟩
    intro O
    refine k24.call mix ?_
    unfold c24
    (repeat' first
    | simp (contextual := true) (maxSteps := 4000000) only [fwc, fwe, fww, reduceIte, ↓reduceIte, Nat.reduceAdd, Nat.reduceLeDiff, Nat.reduceEqDiff, Nat.reduceLT, Nat.reduceSub, reduceCtorEq, Int.reduceEq, Int.reduceLT, Int.reduceLE, Int.reduceNeg, Int.reduceToNat, Int.reduceAdd, Int.reduceSub, Nat.reduceMul, *]
    | (refine seqK_now ?_)
    | (refine retK_now ?_)
    | (refine retK_now' ?_)
    | (intro q hq)
    | (refine cond_intro (fun hc => ?_) (fun hc => ?_)))
    refine Clone_nil.use ?_
    (repeat' first
    | simp (contextual := true) (maxSteps := 4000000) only [fwc, fwe, fww, reduceIte, ↓reduceIte, Nat.reduceAdd, Nat.reduceLeDiff, Nat.reduceEqDiff, Nat.reduceLT, Nat.reduceSub, reduceCtorEq, Int.reduceEq, Int.reduceLT, Int.reduceLE, Int.reduceNeg, Int.reduceToNat, Int.reduceAdd, Int.reduceSub, Nat.reduceMul, *]
    | (refine seqK_now ?_)
    | (refine retK_now ?_)
    | (refine retK_now' ?_)
    | (intro q hq)
    | (refine cond_intro (fun hc => ?_) (fun hc => ?_)))
    · refine (ReverseE_ok _ rfl rfl rfl).use ?_
      (repeat' first
    | simp (contextual := true) (maxSteps := 4000000) only [fwc, fwe, fww, reduceIte, ↓reduceIte, Nat.reduceAdd, Nat.reduceLeDiff, Nat.reduceEqDiff, Nat.reduceLT, Nat.reduceSub, reduceCtorEq, Int.reduceEq, Int.reduceLT, Int.reduceLE, Int.reduceNeg, Int.reduceToNat, Int.reduceAdd, Int.reduceSub, Nat.reduceMul, *]
    | (refine seqK_now ?_)
    | (refine retK_now ?_)
    | (refine retK_now' ?_)
    | (intro q hq)
    | (refine cond_intro (fun hc => ?_) (fun hc => ?_)))
      refine WeakR.pure (Heap.sub_refl _) ?_
      rfl
    · refine WeakR.pure (Heap.sub_refl _) ?_
      rfl
  · refine ⟨endA ((ordL d L).map Id.av), ?_, endA_L _⟩
    intro O
    refine k24.call mix ?_
    unfold c24
    (repeat' first
    | simp (contextual := true) (maxSteps := 4000000) only [fwc, fwe, fww, reduceIte, ↓reduceIte, Nat.reduceAdd, Nat.reduceLeDiff, Nat.reduceEqDiff, Nat.reduceLT, Nat.reduceSub, reduceCtorEq, Int.reduceEq, Int.reduceLT, Int.reduceLE, Int.reduceNeg, Int.reduceToNat, Int.reduceAdd, Int.reduceSub, Nat.reduceMul, *]
    | (refine seqK_now ?_)
    | (refine retK_now ?_)
    | (refine retK_now' ?_)
    | (intro q hq)
    | (refine cond_intro (fun hc => ?_) (fun hc => ?_)))
    refine CloneW_ok t _ (by rw [List.length_map]; exact hl) O _ fun v O1 hv => ?_
    obtain ⟨v1, v2⟩ := hv.cells
    replace hv := (show Aside _ from hv)
    by_cases hd : d = 0
    · have e0 : decide (d = 0) = true := decide_eq_true hd
      have ho : ordL d L = L.reverse := if_pos hd
      rw [ho]
      replace hd := (show Aside _ from hd)
      replace ho := (show Aside _ from ho)
      (repeat' first
    | simp (contextual := true) (maxSteps := 4000000) only [fwc, fwe, fww, reduceIte, ↓reduceIte, Nat.reduceAdd, Nat.reduceLeDiff, Nat.reduceEqDiff, Nat.reduceLT, Nat.reduceSub, reduceCtorEq, Int.reduceEq, Int.reduceLT, Int.reduceLE, Int.reduceNeg, Int.reduceToNat, Int.reduceAdd, Int.reduceSub, Nat.reduceMul, *]
    | (refine seqK_now ?_)
    | (refine retK_now ?_)
    | (refine retK_now' ?_)
    | (intro q hq)
    | (refine cond_intro (fun hc => ?_) (fun hc => ?_)))
      refine Reverse_ok v L O O1 hv.out hl _ fun r O2 h2 => ?_
      replace h2 := (show Aside _ from h2)
      (repeat' first
    | simp (contextual := true) (maxSteps := 4000000) only [fwc, fwe, fww, reduceIte, ↓reduceIte, Nat.reduceAdd, Nat.reduceLeDiff, Nat.reduceEqDiff, Nat.reduceLT, Nat.reduceSub, reduceCtorEq, Int.reduceEq, Int.reduceLT, Int.reduceLE, Int.reduceNeg, Int.reduceToNat, Int.reduceAdd, Int.reduceSub, Nat.reduceMul, *]
    | (refine seqK_now ?_)
    | (refine retK_now ?_)
    | (refine retK_now' ?_)
    | (intro q hq)
    | (refine cond_intro (fun hc => ?_) (fun hc => ?_)))
      exact OwR.pure h2.out rfl
    · have e0 : decide (d = 0) = false := decide_eq_false hd
      have ho : ordL d L = L := if_neg hd
      rw [ho]
      replace hd := (show Aside _ from hd)
      replace ho := (show Aside _ from ho)
      (repeat' first
    | simp (contextual := true) (maxSteps := 4000000) only [fwc, fwe, fww, reduceIte, ↓reduceIte, Nat.reduceAdd, Nat.reduceLeDiff, Nat.reduceEqDiff, Nat.reduceLT, Nat.reduceSub, reduceCtorEq, Int.reduceEq, Int.reduceLT, Int.reduceLE, Int.reduceNeg, Int.reduceToNat, Int.reduceAdd, Int.reduceSub, Nat.reduceMul, *]
    | (refine seqK_now ?_)
    | (refine retK_now ?_)
    | (refine retK_now' ?_)
    | (intro q hq)
    | (refine cond_intro (fun hc => ?_) (fun hc => ?_)))
      exact OwR.pure hv.out rfl
end Go.Proofs.Ytlpngkeegjickab

namespace Go.Proofs.Ytlpngkeegjickab
open Go.Ab
attribute [local irreducible] WeakR WeakE CallA YieldA

theorem oracked_ok (r : Int) : PureA Try.prog 42 [.val (.int .i64 r)] (.val (.bool (rackOK r))) := by
  intro O
  refine k42.call mix ?_
  unfold c42
  (repeat' first
    | simp (contextual := true) (maxSteps := 4000000) only [fwc, fwe, fww, reduceIte, ↓reduceIte, Nat.reduceAdd, Nat.reduceLeDiff, Nat.reduceEqDiff, Nat.reduceLT, Nat.reduceSub, reduceCtorEq, Int.reduceEq, Int.reduceLT, Int.reduceLE, Int.reduceNeg, Int.reduceToNat, Int.reduceAdd, Int.reduceSub, Nat.reduceMul, *]
    | (refine seqK_now ?_)
    | (refine retK_now ?_)
    | (refine retK_now' ?_)
    | (intro q hq)
    | (refine cond_intro (fun hc => ?_) (fun hc => ?_)))
  refine WeakR.pure (by repeat (first | exact Heap.sub_refl _ | refine sub_upd (by simp only [*]) ?_)) ?_
  unfold rackOK
  simp
theorem ci_idx2 {e : Env} {O : Heap} {K : AV → Heap → Prop} (x i : Operand) (a b v : AV) (n : Int) (hx : e.opd x = .agg [a, b]) (hi : intOfA (e.opd i) = some n) (hv : (n = 0 ∧ a = v) ∨ (n = 1 ∧ b = v)) (hk : K v O) : CiSem Try.prog (.index 2 1 false x i) e O K := by
  refine ⟨v, ?_, hk⟩
  show (intOfA (e.opd i)).bind _ = _
  rw [hi, hx]
  rcases hv with ⟨rfl, rfl⟩ | ⟨rfl, rfl⟩ <;> rfl
def shL (d : Int) : Int := if d = 1 then 1 else -1
theorem shift_ok (d : Int) (h : d = 0 ∨ d = 1) : PureA Try.prog 23 [.val (.int .u8 d)] (.val (.int .i64 (shL d))) := by
  intro O
  refine k23.call mix ?_
  unfold c23
  rcases h with rfl | rfl
  · (repeat' first
    | simp (contextual := true) (maxSteps := 4000000) only [fwc, fwe, fww, reduceIte, ↓reduceIte, Nat.reduceAdd, Nat.reduceLeDiff, Nat.reduceEqDiff, Nat.reduceLT, Nat.reduceSub, reduceCtorEq, Int.reduceEq, Int.reduceLT, Int.reduceLE, Int.reduceNeg, Int.reduceToNat, Int.reduceAdd, Int.reduceSub, Nat.reduceMul, *]
    | (refine seqK_now ?_)
    | (refine retK_now ?_)
    | (refine retK_now' ?_)
    | (intro q hq)
    | (refine cond_intro (fun hc => ?_) (fun hc => ?_)))
    refine ci_idx2 _ _ (.val (.int .i64 (-1))) (.val (.int .i64 1)) (.val (.int .i64 (-1))) 0 rfl rfl (.inl ⟨rfl, rfl⟩) ?_
    (repeat' first
    | simp (contextual := true) (maxSteps := 4000000) only [fwc, fwe, fww, reduceIte, ↓reduceIte, Nat.reduceAdd, Nat.reduceLeDiff, Nat.reduceEqDiff, Nat.reduceLT, Nat.reduceSub, reduceCtorEq, Int.reduceEq, Int.reduceLT, Int.reduceLE, Int.reduceNeg, Int.reduceToNat, Int.reduceAdd, Int.reduceSub, Nat.reduceMul, *]
    | (refine seqK_now ?_)
    | (refine retK_now ?_)
    | (refine retK_now' ?_)
    | (intro q hq)
    | (refine cond_intro (fun hc => ?_) (fun hc => ?_)))
    refine WeakR.pure (by repeat (first | exact Heap.sub_refl _ | refine sub_upd (by simp only [*]) ?_)) ?_
    rfl
  · (repeat' first
    | simp (contextual := true) (maxSteps := 4000000) only [fwc, fwe, fww, reduceIte, ↓reduceIte, Nat.reduceAdd, Nat.reduceLeDiff, Nat.reduceEqDiff, Nat.reduceLT, Nat.reduceSub, reduceCtorEq, Int.reduceEq, Int.reduceLT, Int.reduceLE, Int.reduceNeg, Int.reduceToNat, Int.reduceAdd, Int.reduceSub, Nat.reduceMul, *]
    | (refine seqK_now ?_)
    | (refine retK_now ?_)
    | (refine retK_now' ?_)
    | (intro q hq)
    | (refine cond_intro (fun hc => ?_) (fun hc => ?_)))
    refine ci_idx2 _ _ (.val (.int .i64 (-1))) (.val (.int .i64 1)) (.val (.int .i64 1)) 1 rfl rfl (.inr ⟨rfl, rfl⟩) ?_
    (repeat' first
    | simp (contextual := true) (maxSteps := 4000000) only [fwc, fwe, fww, reduceIte, ↓reduceIte, Nat.reduceAdd, Nat.reduceLeDiff, Nat.reduceEqDiff, Nat.reduceLT, Nat.reduceSub, reduceCtorEq, Int.reduceEq, Int.reduceLT, Int.reduceLE, Int.reduceNeg, Int.reduceToNat, Int.reduceAdd, Int.reduceSub, Nat.reduceMul, *]
    | (refine seqK_now ?_)
    | (refine retK_now ?_)
    | (refine retK_now' ?_)
    | (intro q hq)
    | (refine cond_intro (fun hc => ?_) (fun hc => ?_)))
    refine WeakR.pure (by repeat (first | exact Heap.sub_refl _ | refine sub_upd (by simp only [*]) ?_)) ?_
    rfl
theorem usual_ok {x : AV} {F B : List (List Id)} (h : IsBeds x F B) (hc : checkL F B = 0) (r : Int) : PureA Try.prog 30 [x, .val (.int .i64 r)] (.val (.int .i64 (if rackOK r = true then 0 else 11))) := by
  have hk := h.check
  rw [hc] at hk
  obtain ⟨f, b, rfl, c1, c2, s1, s2, _, _⟩ := h.cells
  clear h
  have hr := oracked_ok r
  replace hc := (show Aside _ from hc)
  have d0 : decide ((0 : Int) = 0) = true := by decide
  intro O
  refine k30.call mix ?_
  unfold c30
  cases hb : rackOK r
  · rw [hb] at hr
    replace hb := (show Aside _ from hb)
    (repeat' first
    | simp (contextual := true) (maxSteps := 4000000) only [fwc, fwe, fww, reduceIte, ↓reduceIte, Nat.reduceAdd, Nat.reduceLeDiff, Nat.reduceEqDiff, Nat.reduceLT, Nat.reduceSub, reduceCtorEq, Int.reduceEq, Int.reduceLT, Int.reduceLE, Int.reduceNeg, Int.reduceToNat, Int.reduceAdd, Int.reduceSub, Nat.reduceMul, part_cell, part_agg, *]
    | (refine seqK_now ?_)
    | (refine retK_now ?_)
    | (refine retK_now' ?_)
    | (intro q hq)
    | (refine cond_intro (fun hc => ?_) (fun hc => ?_)))
    refine hk.use ?_
    (repeat' first
    | simp (contextual := true) (maxSteps := 4000000) only [fwc, fwe, fww, reduceIte, ↓reduceIte, Nat.reduceAdd, Nat.reduceLeDiff, Nat.reduceEqDiff, Nat.reduceLT, Nat.reduceSub, reduceCtorEq, Int.reduceEq, Int.reduceLT, Int.reduceLE, Int.reduceNeg, Int.reduceToNat, Int.reduceAdd, Int.reduceSub, Nat.reduceMul, part_cell, part_agg, *]
    | (refine seqK_now ?_)
    | (refine retK_now ?_)
    | (refine retK_now' ?_)
    | (intro q hq)
    | (refine cond_intro (fun hc => ?_) (fun hc => ?_)))
    refine hr.use ?_
    (repeat' first
    | simp (contextual := true) (maxSteps := 4000000) only [fwc, fwe, fww, reduceIte, ↓reduceIte, Nat.reduceAdd, Nat.reduceLeDiff, Nat.reduceEqDiff, Nat.reduceLT, Nat.reduceSub, reduceCtorEq, Int.reduceEq, Int.reduceLT, Int.reduceLE, Int.reduceNeg, Int.reduceToNat, Int.reduceAdd, Int.reduceSub, Nat.reduceMul, part_cell, part_agg, *]
    | (refine seqK_now ?_)
    | (refine retK_now ?_)
    | (refine retK_now' ?_)
    | (intro q hq)
    | (refine cond_intro (fun hc => ?_) (fun hc => ?_)))
    refine WeakR.pure (sub_upd hq (Heap.sub_refl _)) ?_
    rfl
  · rw [hb] at hr
    replace hb := (show Aside _ from hb)
    (repeat' first
    | simp (contextual := true) (maxSteps := 4000000) only [fwc, fwe, fww, reduceIte, ↓reduceIte, Nat.reduceAdd, Nat.reduceLeDiff, Nat.reduceEqDiff, Nat.reduceLT, Nat.reduceSub, reduceCtorEq, Int.reduceEq, Int.reduceLT, Int.reduceLE, Int.reduceNeg, Int.reduceToNat, Int.reduceAdd, Int.reduceSub, Nat.reduceMul, part_cell, part_agg, *]
    | (refine seqK_now ?_)
    | (refine retK_now ?_)
    | (refine retK_now' ?_)
    | (intro q hq)
    | (refine cond_intro (fun hc => ?_) (fun hc => ?_)))
    refine hk.use ?_
    (repeat' first
    | simp (contextual := true) (maxSteps := 4000000) only [fwc, fwe, fww, reduceIte, ↓reduceIte, Nat.reduceAdd, Nat.reduceLeDiff, Nat.reduceEqDiff, Nat.reduceLT, Nat.reduceSub, reduceCtorEq, Int.reduceEq, Int.reduceLT, Int.reduceLE, Int.reduceNeg, Int.reduceToNat, Int.reduceAdd, Int.reduceSub, Nat.reduceMul, part_cell, part_agg, *]
    | (refine seqK_now ?_)
    | (refine retK_now ?_)
    | (refine retK_now' ?_)
    | (intro q hq)
    | (refine cond_intro (fun hc => ?_) (fun hc => ?_)))
    refine hr.use ?_
    (repeat' first
    | simp (contextual := true) (maxSteps := 4000000) only [fwc, fwe, fww, reduceIte, ↓reduceIte, Nat.reduceAdd, Nat.reduceLeDiff, Nat.reduceEqDiff, Nat.reduceLT, Nat.reduceSub, reduceCtorEq, Int.reduceEq, Int.reduceLT, Int.reduceLE, Int.reduceNeg, Int.reduceToNat, Int.reduceAdd, Int.reduceSub, Nat.reduceMul, part_cell, part_agg, *]
    | (refine seqK_now ?_)
    | (refine retK_now ?_)
    | (refine retK_now' ?_)
    | (intro q hq)
    | (refine cond_intro (fun hc => ?_) (fun hc => ?_)))
    refine WeakR.pure (sub_upd hq (Heap.sub_refl _)) ?_
    rfl
def moveE (r d : Int) : Int := if rackOK r = true then (if rackOK (r + shL d) = true then 0 else 11) else 11
theorem movable_ok {x : AV} {F B : List (List Id)} (h : IsBeds x F B) (hc : checkL F B = 0) (r d : Int) (hd : d = 0 ∨ d = 1) : PureA Try.prog 20 [x, .val (.int .i64 r), .val (.int .u8 d)] (.val (.int .i64 (moveE r d))) := by
  have hu := usual_ok h hc r
  obtain ⟨f, b, rfl, c1, c2, s1, s2, _, _⟩ := h.cells
  clear h
  have hs := shift_ok d hd
  have d0 : decide ((0 : Int) = 0) = true := by decide
  have d11 : decide ((11 : Int) = 0) = false := by decide
  have d1 : decide (1 < d) = false := decide_eq_false (by omega)
  replace hc := (show Aside _ from hc)
  intro O
  refine k20.call mix ?_
  unfold c20
  cases hb : rackOK r
  · have hm : moveE r d = 11 := by unfold moveE; rw [if_neg (by rw [hb]; simp)]
    rw [hm]
    rw [hb] at hu
    replace hu : PureA Try.prog 30 [.agg [f, b], .val (.int .i64 r)] (.val (.int .i64 11)) := hu
    replace hb := (show Aside _ from hb)
    replace hm := (show Aside _ from hm)
    (repeat' first
    | simp (contextual := true) (maxSteps := 4000000) only [fwc, fwe, fww, reduceIte, ↓reduceIte, Nat.reduceAdd, Nat.reduceLeDiff, Nat.reduceEqDiff, Nat.reduceLT, Nat.reduceSub, reduceCtorEq, Int.reduceEq, Int.reduceLT, Int.reduceLE, Int.reduceNeg, Int.reduceToNat, Int.reduceAdd, Int.reduceSub, Nat.reduceMul, part_cell, part_agg, *]
    | (refine seqK_now ?_)
    | (refine retK_now ?_)
    | (refine retK_now' ?_)
    | (intro q hq)
    | (refine cond_intro (fun hc => ?_) (fun hc => ?_)))
    refine hu.use ?_
    (repeat' first
    | simp (contextual := true) (maxSteps := 4000000) only [fwc, fwe, fww, reduceIte, ↓reduceIte, Nat.reduceAdd, Nat.reduceLeDiff, Nat.reduceEqDiff, Nat.reduceLT, Nat.reduceSub, reduceCtorEq, Int.reduceEq, Int.reduceLT, Int.reduceLE, Int.reduceNeg, Int.reduceToNat, Int.reduceAdd, Int.reduceSub, Nat.reduceMul, part_cell, part_agg, *]
    | (refine seqK_now ?_)
    | (refine retK_now ?_)
    | (refine retK_now' ?_)
    | (intro q hq)
    | (refine cond_intro (fun hc => ?_) (fun hc => ?_)))
    refine WeakR.pure (sub_upd hq (Heap.sub_refl _)) ?_
    rfl
  · have hm : moveE r d = if rackOK (r + shL d) = true then 0 else 11 := by unfold moveE; rw [if_pos hb]
    rw [hm]
    rw [hb] at hu
    replace hu : PureA Try.prog 30 [.agg [f, b], .val (.int .i64 r)] (.val (.int .i64 0)) := hu
    have hrr : -4 ≤ r ∧ r ≤ 4 := by unfold rackOK at hb; simpa using hb
    have hsl : shL d = 1 ∨ shL d = -1 := by unfold shL; split <;> simp
    have hw : IntKind.i64.wrap (r + shL d) = r + shL d := by rw [wrap_i64 (by omega) (by omega)]
    have ho := oracked_ok (r + shL d)
    generalize shL d = sh at *
    replace hb := (show Aside _ from hb)
    replace hm := (show Aside _ from hm)
    replace hrr := (show Aside _ from hrr)
    replace hsl := (show Aside _ from hsl)
    cases hb2 : rackOK (r + sh)
    · rw [hb2] at ho
      replace hb2 := (show Aside _ from hb2)
      (repeat' first
    | simp (contextual := true) (maxSteps := 4000000) only [fwc, fwe, fww, reduceIte, ↓reduceIte, Nat.reduceAdd, Nat.reduceLeDiff, Nat.reduceEqDiff, Nat.reduceLT, Nat.reduceSub, reduceCtorEq, Int.reduceEq, Int.reduceLT, Int.reduceLE, Int.reduceNeg, Int.reduceToNat, Int.reduceAdd, Int.reduceSub, Nat.reduceMul, part_cell, part_agg, *]
    | (refine seqK_now ?_)
    | (refine retK_now ?_)
    | (refine retK_now' ?_)
    | (intro q hq)
    | (refine cond_intro (fun hc => ?_) (fun hc => ?_)))
      refine hu.use ?_
      (repeat' first
    | simp (contextual := true) (maxSteps := 4000000) only [fwc, fwe, fww, reduceIte, ↓reduceIte, Nat.reduceAdd, Nat.reduceLeDiff, Nat.reduceEqDiff, Nat.reduceLT, Nat.reduceSub, reduceCtorEq, Int.reduceEq, Int.reduceLT, Int.reduceLE, Int.reduceNeg, Int.reduceToNat, Int.reduceAdd, Int.reduceSub, Nat.reduceMul, part_cell, part_agg, *]
    | (refine seqK_now ?_)
    | (refine retK_now ?_)
    | (refine retK_now' ?_)
    | (intro q hq)
    | (refine cond_intro (fun hc => ?_) (fun hc => ?_)))
      refine hs.use ?_
      (repeat' first
    | simp (contextual := true) (maxSteps := 4000000) only [fwc, fwe, fww, reduceIte, ↓reduceIte, Nat.reduceAdd, Nat.reduceLeDiff, Nat.reduceEqDiff, Nat.reduceLT, Nat.reduceSub, reduceCtorEq, Int.reduceEq, Int.reduceLT, Int.reduceLE, Int.reduceNeg, Int.reduceToNat, Int.reduceAdd, Int.reduceSub, Nat.reduceMul, part_cell, part_agg, *]
    | (refine seqK_now ?_)
    | (refine retK_now ?_)
    | (refine retK_now' ?_)
    | (intro q hq)
    | (refine cond_intro (fun hc => ?_) (fun hc => ?_)))
      refine ho.use ?_
      (repeat' first
    | simp (contextual := true) (maxSteps := 4000000) only [fwc, fwe, fww, reduceIte, ↓reduceIte, Nat.reduceAdd, Nat.reduceLeDiff, Nat.reduceEqDiff, Nat.reduceLT, Nat.reduceSub, reduceCtorEq, Int.reduceEq, Int.reduceLT, Int.reduceLE, Int.reduceNeg, Int.reduceToNat, Int.reduceAdd, Int.reduceSub, Nat.reduceMul, part_cell, part_agg, *]
    | (refine seqK_now ?_)
    | (refine retK_now ?_)
    | (refine retK_now' ?_)
    | (intro q hq)
    | (refine cond_intro (fun hc => ?_) (fun hc => ?_)))
      refine WeakR.pure (sub_upd hq (Heap.sub_refl _)) ?_
      rfl
    · rw [hb2] at ho
      replace hb2 := (show Aside _ from hb2)
      (repeat' first
    | simp (contextual := true) (maxSteps := 4000000) only [fwc, fwe, fww, reduceIte, ↓reduceIte, Nat.reduceAdd, Nat.reduceLeDiff, Nat.reduceEqDiff, Nat.reduceLT, Nat.reduceSub, reduceCtorEq, Int.reduceEq, Int.reduceLT, Int.reduceLE, Int.reduceNeg, Int.reduceToNat, Int.reduceAdd, Int.reduceSub, Nat.reduceMul, part_cell, part_agg, *]
    | (refine seqK_now ?_)
    | (refine retK_now ?_)
    | (refine retK_now' ?_)
    | (intro q hq)
    | (refine cond_intro (fun hc => ?_) (fun hc => ?_)))
      refine hu.use ?_
      (repeat' first
    | simp (contextual := true) (maxSteps := 4000000) only [fwc, fwe, fww, reduceIte, ↓reduceIte, Nat.reduceAdd, Nat.reduceLeDiff, Nat.reduceEqDiff, Nat.reduceLT, Nat.reduceSub, reduceCtorEq, Int.reduceEq, Int.reduceLT, Int.reduceLE, Int.reduceNeg, Int.reduceToNat, Int.reduceAdd, Int.reduceSub, Nat.reduceMul, part_cell, part_agg, *]
    | (refine seqK_now ?_)
    | (refine retK_now ?_)
    | (refine retK_now' ?_)
    | (intro q hq)
    | (refine cond_intro (fun hc => ?_) (fun hc => ?_)))
      refine hs.use ?_
      (repeat' first
    | simp (contextual := true) (maxSteps := 4000000) only [fwc, fwe, fww, reduceIte, ↓reduceIte, Nat.reduceAdd, Nat.reduceLeDiff, Nat.reduceEqDiff, Nat.reduceLT, Nat.reduceSub, reduceCtorEq, Int.reduceEq, Int.reduceLT, Int.reduceLE, Int.reduceNeg, Int.reduceToNat, Int.reduceAdd, Int.reduceSub, Nat.reduceMul, part_cell, part_agg, *]
    | (refine seqK_now ?_)
    | (refine retK_now ?_)
    | (refine retK_now' ?_)
    | (intro q hq)
    | (refine cond_intro (fun hc => ?_) (fun hc => ?_)))
      refine ho.use ?_
      (repeat' first
    | simp (contextual := true) (maxSteps := 4000000) only [fwc, fwe, fww, reduceIte, ↓reduceIte, Nat.reduceAdd, Nat.reduceLeDiff, Nat.reduceEqDiff, Nat.reduceLT, Nat.reduceSub, reduceCtorEq, Int.reduceEq, Int.reduceLT, Int.reduceLE, Int.reduceNeg, Int.reduceToNat, Int.reduceAdd, Int.reduceSub, Nat.reduceMul, part_cell, part_agg, *]
    | (refine seqK_now ?_)
    | (refine retK_now ?_)
    | (refine retK_now' ?_)
    | (intro q hq)
    | (refine cond_intro (fun hc => ?_) (fun hc => ?_)))
      refine WeakR.pure (sub_upd hq (Heap.sub_refl _)) ?_
      rfl
end Go.Proofs.Ytlpngkeegjickab

namespace Go.Proofs.Ytlpngkeegjickab
open Go.Ab
attribute [local irreducible] WeakR WeakE CallA YieldA

/-! Meets. -/
theorem own_new {E : TypeId} {sz : Nat} {O0 O' : Heap} {s : AV} {L : List AV} (h : OwN E sz O0 O' s L) {q : Nat} {x : AObj} (hq : O' q = none) : OwN E sz (O0.upd q x) (O'.upd q x) s L := by
  rcases h with ⟨rfl, rfl, rfl⟩ | ⟨hne, id, c, elems, h0, rfl, rfl, h1, h2⟩
  · exact .inl ⟨rfl, rfl, rfl⟩
  · have hq' : ¬ id = q := fun e => by rw [← e, Heap.upd_same] at hq; cases hq
    refine .inr ⟨hne, id, c, elems, by rw [Heap.upd_ne _ _ hq']; exact h0, rfl, ?_, h1, h2⟩
    funext j
    simp only [Heap.upd_apply]
    by_cases hj : j = q
    · subst hj; rw [if_pos rfl, if_neg (Ne.symm hq'), if_pos rfl]
    · rw [if_neg hj, if_neg hj]
def tA (sz : Nat) (L : List AV) : AV := if L = [] then .val (.slice none 0 0) else .list sz true L
theorem tA_T (sz : Nat) (L : List AV) : IsT sz (tA sz L) L := by
  unfold tA
  split
  · rename_i h; exact .inl ⟨rfl, h⟩
  · exact .inr rfl
theorem ClipP_fz (s : AV) (L : List AV) (O0 O' : Heap) (h : OwN 52 4 O0 O' s L) (K : AV → Heap → Prop) (hk : K (tA 4 L) O0) : CallA Try.prog 32 [s] O' K := by
  refine k32.call mix ?_
  unfold c32
  rcases h with ⟨rfl, rfl, rfl⟩ | ⟨hne, id, c, elems, h0, rfl, rfl, h1, h2⟩
  · have e1 : sliceA 4 (.val (.slice none 0 0)) none (some (.val (.int .i64 0))) (some (.val (.int .i64 0))) = some (.val (.slice none 0 0)) := rfl
    (repeat' first
    | simp (contextual := true) (maxSteps := 4000000) only [fwc, fwe, fww, reduceIte, ↓reduceIte, Nat.reduceAdd, Nat.reduceLeDiff, Nat.reduceEqDiff, Nat.reduceLT, Nat.reduceSub, reduceCtorEq, Int.reduceEq, Int.reduceLT, Int.reduceLE, Int.reduceNeg, Int.reduceToNat, Int.reduceAdd, Int.reduceSub, Nat.reduceMul, *]
    | (refine seqK_now ?_)
    | (refine retK_now ?_)
    | (refine retK_now' ?_)
    | (intro q hq)
    | (refine cond_intro (fun hc => ?_) (fun hc => ?_)))
    exact WeakR.now hk
  · have e1 : sliceA 4 (.own id 4 0 L.length c) none (some (.val (.int .i64 L.length))) (some (.val (.int .i64 L.length))) = some (.own id 4 0 L.length (some L.length)) := by
      rw [slice_own_mx (a := 0) (b := L.length) (d := L.length) rfl (by simp [bound_int]) (by simp [bound_int]) (by omega) (by simp [leCap]) (by omega) (by simp [leCap])]
      simp
    have hz := Fz.own (id := id) (sz := 4) (elems := elems) 0 L.length (some L.length) true (by omega) (fun _ => rfl)
    rw [List.drop_zero, h1] at hz
    have hk2 : K (.list 4 true L) O0 := by rw [tA, if_neg hne] at hk; exact hk
    replace hz := (show Aside _ from hz)
    replace hne := (show Aside _ from hne)
    replace h1 := (show Aside _ from h1)
    (repeat' first
    | simp (contextual := true) (maxSteps := 4000000) only [fwc, fwe, fww, reduceIte, ↓reduceIte, Nat.reduceAdd, Nat.reduceLeDiff, Nat.reduceEqDiff, Nat.reduceLT, Nat.reduceSub, reduceCtorEq, Int.reduceEq, Int.reduceLT, Int.reduceLE, Int.reduceNeg, Int.reduceToNat, Int.reduceAdd, Int.reduceSub, Nat.reduceMul, *]
    | (refine seqK_now ?_)
    | (refine retK_now ?_)
    | (refine retK_now' ?_)
    | (intro q hq)
    | (refine cond_intro (fun hc => ?_) (fun hc => ?_)))
    refine WeakR.freeze (Heap.upd_same _ _ _) hz.out (WeakR.now ?_)
    rw [del_upd_new h0]
    exact hk2
theorem ordL_len (d : Int) (L : List Id) : (ordL d L).length = L.length := by
  unfold ordL
  split
  · exact List.length_reverse
  · rfl
theorem own_none {E : TypeId} {sz : Nat} {O0 O' : Heap} {s : AV} {L : List AV} (h : OwN E sz O0 O' s L) {q : Nat} (hq : O' q = none) : O0 q = none := none_of_sub h.sub hq
structure Ps where
  id : Id
  f : Bool
  d : Int
def Ps.av (p : Ps) : AV := .agg [.val (.int .u8 p.id.y), .val (.int .i64 p.id.n), .val (.bool p.f), .val (.int .u8 p.d)]
def meetAt (F B : List (List Id)) (r d pl : Int) (i : Nat) : List Ps :=
  if pl < (if spotL ⟨1, ((i + 1 : Nat) : Int)⟩ r + 4 * shL d < spotL ⟨1, ((i + 1 : Nat) : Int)⟩ r then spotL ⟨1, ((i + 1 : Nat) : Int)⟩ r + 4 * shL d else spotL ⟨1, ((i + 1 : Nat) : Int)⟩ r) ∨
    (if spotL ⟨1, ((i + 1 : Nat) : Int)⟩ r < spotL ⟨1, ((i + 1 : Nat) : Int)⟩ r + 4 * shL d then spotL ⟨1, ((i + 1 : Nat) : Int)⟩ r + 4 * shL d else spotL ⟨1, ((i + 1 : Nat) : Int)⟩ r) < pl then []
  else (ordL (1 - d) (atL F B ⟨1, ((i + 1 : Nat) : Int)⟩)).map fun p => ⟨p, true, 1 - d⟩
def meetTo (F B : List (List Id)) (r d pl : Int) (n : Nat) : List Ps := (List.range n).flatMap (meetAt F B r d pl)
theorem meetTo_succ (F B : List (List Id)) (r d pl : Int) (n : Nat) : meetTo F B r d pl (n + 1) = meetTo F B r d pl n ++ meetAt F B r d pl n := by
  unfold meetTo
  rw [List.range_succ, List.flatMap_append]
  simp

theorem meetAt_len {F B : List (List Id)} (h : ∀ n, (atL F B n).length ≤ 4) (r d pl : Int) (i : Nat) : (meetAt F B r d pl i).length ≤ 4 := by
  have key : ∀ (c : Prop) [Decidable c] (L : List Ps), L.length ≤ 4 → (if c then [] else L).length ≤ 4 := fun c _ L hL => by
    by_cases hc : c
    · rw [if_pos hc]; simp
    · rw [if_neg hc]; exact hL
  unfold meetAt
  exact key _ _ (by rw [List.length_map, ordL_len]; exact h _)
theorem meetTo_len {F B : List (List Id)} (h : ∀ n, (atL F B n).length ≤ 4) (r d pl : Int) : ∀ n, (meetTo F B r d pl n).length ≤ 4 * n
  | 0 => by simp [meetTo]
  | n + 1 => by
    have h1 := meetTo_len h r d pl n
    have h2 := meetAt_len h r d pl n
    rw [meetTo_succ, List.length_append]
    omega
def env12n (q4 : Nat) (r d pl : Int) (s ro : AV) (i n k : Nat) : Env := ((((((((((Env.upd (fun _ => .junk) 63 (.val (.int .i64 k))).upd 62 (.val (.int .i64 n))).upd 61 ro).upd 31 (.val (.int .i64 i))).upd 12 (.val (.int .u8 (1 - d)))).upd 11 s).upd 4 (.optr q4 2 0 0)).upd 3 (.val (.int .i64 pl))).upd 2 (.val (.int .u8 d))).upd 1 (.val (.int .i64 r)))
def env12m (q4 : Nat) (r d pl : Int) (s : AV) (i : Nat) : Env := (((((((Env.upd (fun _ => .junk) 31 (.val (.int .i64 i))).upd 12 (.val (.int .u8 (1 - d)))).upd 11 s).upd 4 (.optr q4 2 0 0)).upd 3 (.val (.int .i64 pl))).upd 2 (.val (.int .u8 d))).upd 1 (.val (.int .i64 r)))

set_option maxHeartbeats 8000000 in
theorem Meets_ok {x : AV} {F B : List (List Id)} (h : IsBeds x F B) (hc : checkL F B = 0) (hm4 : ∀ n, (atL F B n).length ≤ 4) (r d pl : Int) (hd : d = 0 ∨ d = 1) (hr : rackOK r = true) (hmv : moveE r d = 0) (hpl : decide (IntKind.i64.wrap (BitVec.ofInt IntKind.i64.bits pl &&& BitVec.ofInt IntKind.i64.bits 1).toNat = 0) = false) (hplb : -100000 ≤ pl ∧ pl ≤ 100000) :
    PureA Try.prog 12 [x, .val (.int .i64 r), .val (.int .u8 d), .val (.int .i64 pl)] (.tup [tA 4 ((meetTo F B r d pl 40).map Ps.av), .val (.int .i64 0)]) := by
  have hmo := movable_ok h hc r d hd
  rw [hmv] at hmo
  have hat := fun n => h.at_ n
  obtain ⟨f, b, rfl, c1, c2, s1, s2, _, _⟩ := h.cells
  clear h
  have hsh := shift_ok d hd
  have d0 : decide ((0 : Int) = 0) = true := by decide
  have hwo : IntKind.u8.wrap (1 - d) = 1 - d := wrap_u8 (by omega) (by omega)
  replace hat := (show Aside _ from hat)
  replace hc := (show Aside _ from hc)
  replace hm4 := (show Aside _ from hm4)
  replace hmv := (show Aside _ from hmv)
  replace hd := (show Aside _ from hd)
  replace hplb := (show Aside _ from hplb)
  replace hr := (show Aside _ from hr)
  intro O
  refine k12.call mix ?_
  unfold c12
  refine seq_go ?_
  (repeat' first
    | simp (contextual := true) (maxSteps := 4000000) only [fwc, fwe, fww, reduceIte, ↓reduceIte, Nat.reduceAdd, Nat.reduceLeDiff, Nat.reduceEqDiff, Nat.reduceLT, Nat.reduceSub, reduceCtorEq, Int.reduceEq, Int.reduceLT, Int.reduceLE, Int.reduceNeg, Int.reduceToNat, Int.reduceAdd, Int.reduceSub, Nat.reduceMul, part_cell, part_agg, *]
    | (refine retK_now ?_)
    | (refine retK_now' ?_)
    | (intro q hq)
    | (refine cond_intro (fun hc => ?_) (fun hc => ?_)))
  revert q
  intro q4 hq4
  refine seqK_now ?_
  refine seq_go ?_
  refine seq_go ?_
  (repeat' first
    | simp (contextual := true) (maxSteps := 4000000) only [fwc, fwe, fww, reduceIte, ↓reduceIte, Nat.reduceAdd, Nat.reduceLeDiff, Nat.reduceEqDiff, Nat.reduceLT, Nat.reduceSub, reduceCtorEq, Int.reduceEq, Int.reduceLT, Int.reduceLE, Int.reduceNeg, Int.reduceToNat, Int.reduceAdd, Int.reduceSub, Nat.reduceMul, part_cell, part_agg, *]
    | (refine retK_now ?_)
    | (refine retK_now' ?_)
    | (intro q hq)
    | (refine cond_intro (fun hc => ?_) (fun hc => ?_)))
  refine hmo.use ?_
  clear hmo
  (repeat' first
    | simp (contextual := true) (maxSteps := 4000000) only [fwc, fwe, fww, reduceIte, ↓reduceIte, Nat.reduceAdd, Nat.reduceLeDiff, Nat.reduceEqDiff, Nat.reduceLT, Nat.reduceSub, reduceCtorEq, Int.reduceEq, Int.reduceLT, Int.reduceLE, Int.reduceNeg, Int.reduceToNat, Int.reduceAdd, Int.reduceSub, Nat.reduceMul, part_cell, part_agg, *]
    | (refine retK_now ?_)
    | (refine retK_now' ?_)
    | (intro q hq)
    | (refine cond_intro (fun hc => ?_) (fun hc => ?_)))
  refine seqK_now ?_
  refine seq_go ?_
  (repeat' first
    | simp (contextual := true) (maxSteps := 4000000) only [fwc, fwe, fww, reduceIte, ↓reduceIte, Nat.reduceAdd, Nat.reduceLeDiff, Nat.reduceEqDiff, Nat.reduceLT, Nat.reduceSub, reduceCtorEq, Int.reduceEq, Int.reduceLT, Int.reduceLE, Int.reduceNeg, Int.reduceToNat, Int.reduceAdd, Int.reduceSub, Nat.reduceMul, part_cell, part_agg, *]
    | (refine retK_now ?_)
    | (refine retK_now' ?_)
    | (intro q hq)
    | (refine cond_intro (fun hc => ?_) (fun hc => ?_)))
  refine seqK_now ?_
  (repeat' first
    | simp (contextual := true) (maxSteps := 4000000) only [fwc, fwe, fww, reduceIte, ↓reduceIte, Nat.reduceAdd, Nat.reduceLeDiff, Nat.reduceEqDiff, Nat.reduceLT, Nat.reduceSub, reduceCtorEq, Int.reduceEq, Int.reduceLT, Int.reduceLE, Int.reduceNeg, Int.reduceToNat, Int.reduceAdd, Int.reduceSub, Nat.reduceMul, part_cell, part_agg, *]
    | (refine retK_now ?_)
    | (refine retK_now' ?_)
    | (intro q hq)
    | (refine cond_intro (fun hc => ?_) (fun hc => ?_)))
  refine seqK_now ?_
  refine seq_go ?_
  refine seq_go ?_
  (repeat' first
    | simp (contextual := true) (maxSteps := 4000000) only [fwc, fwe, fww, reduceIte, ↓reduceIte, Nat.reduceAdd, Nat.reduceLeDiff, Nat.reduceEqDiff, Nat.reduceLT, Nat.reduceSub, reduceCtorEq, Int.reduceEq, Int.reduceLT, Int.reduceLE, Int.reduceNeg, Int.reduceToNat, Int.reduceAdd, Int.reduceSub, Nat.reduceMul, part_cell, part_agg, *]
    | (refine retK_now ?_)
    | (refine retK_now' ?_)
    | (intro q hq)
    | (refine cond_intro (fun hc => ?_) (fun hc => ?_)))
  refine seqK_now ?_
  (repeat' first
    | simp (contextual := true) (maxSteps := 4000000) only [fwc, fwe, fww, reduceIte, ↓reduceIte, Nat.reduceAdd, Nat.reduceLeDiff, Nat.reduceEqDiff, Nat.reduceLT, Nat.reduceSub, reduceCtorEq, Int.reduceEq, Int.reduceLT, Int.reduceLE, Int.reduceNeg, Int.reduceToNat, Int.reduceAdd, Int.reduceSub, Nat.reduceMul, part_cell, part_agg, *]
    | (refine retK_now ?_)
    | (refine retK_now' ?_)
    | (intro q hq)
    | (refine cond_intro (fun hc => ?_) (fun hc => ?_)))
  refine seqK_now ?_
  clear hpl
  refine seq_go ?_
  (repeat' first
    | simp (contextual := true) (maxSteps := 4000000) only [fwc, fwe, fww, reduceIte, ↓reduceIte, Nat.reduceAdd, Nat.reduceLeDiff, Nat.reduceEqDiff, Nat.reduceLT, Nat.reduceSub, reduceCtorEq, Int.reduceEq, Int.reduceLT, Int.reduceLE, Int.reduceNeg, Int.reduceToNat, Int.reduceAdd, Int.reduceSub, Nat.reduceMul, part_cell, part_agg, *]
    | (refine retK_now ?_)
    | (refine retK_now' ?_)
    | (intro q hq)
    | (refine cond_intro (fun hc => ?_) (fun hc => ?_)))
  refine seqK_now ?_
  refine seq_go ?_
  (repeat' first
    | simp (contextual := true) (maxSteps := 4000000) only [fwc, fwe, fww, reduceIte, ↓reduceIte, Nat.reduceAdd, Nat.reduceLeDiff, Nat.reduceEqDiff, Nat.reduceLT, Nat.reduceSub, reduceCtorEq, Int.reduceEq, Int.reduceLT, Int.reduceLE, Int.reduceNeg, Int.reduceToNat, Int.reduceAdd, Int.reduceSub, Nat.reduceMul, part_cell, part_agg, *]
    | (refine retK_now ?_)
    | (refine retK_now' ?_)
    | (intro q hq)
    | (refine cond_intro (fun hc => ?_) (fun hc => ?_)))
  refine seqK_now ?_
  refine seq_go ?_
  refine seq_go ?_
  (repeat' first
    | simp (contextual := true) (maxSteps := 4000000) only [fwc, fwe, fww, reduceIte, ↓reduceIte, Nat.reduceAdd, Nat.reduceLeDiff, Nat.reduceEqDiff, Nat.reduceLT, Nat.reduceSub, reduceCtorEq, Int.reduceEq, Int.reduceLT, Int.reduceLE, Int.reduceNeg, Int.reduceToNat, Int.reduceAdd, Int.reduceSub, Nat.reduceMul, part_cell, part_agg, *]
    | (refine retK_now ?_)
    | (refine retK_now' ?_)
    | (intro q hq)
    | (refine cond_intro (fun hc => ?_) (fun hc => ?_)))
  refine seqK_now ?_
  obtain ⟨I, hI⟩ := hideI (fun m e O' => ∃ (i : Nat) (s : AV) (O0 : Heap), i ≤ 40 ∧ m = 40 - i ∧ O.sub O0 ∧ O0 q4 = some (.arr 26 2 [.agg [f, b]]) ∧ OwN 52 4 O0 O' s ((meetTo F B r d pl i).map Ps.av) ∧ e = env12m q4 r d pl s i)
  (repeat' first
    | simp (contextual := true) (maxSteps := 4000000) only [fwc, fwe, fww, reduceIte, ↓reduceIte, Nat.reduceAdd, Nat.reduceLeDiff, Nat.reduceEqDiff, Nat.reduceLT, Nat.reduceSub, reduceCtorEq, Int.reduceEq, Int.reduceLT, Int.reduceLE, Int.reduceNeg, Int.reduceToNat, Int.reduceAdd, Int.reduceSub, Nat.reduceMul, part_cell, part_agg, *]
    | (refine retK_now ?_)
    | (refine retK_now' ?_)
    | (intro q hq)
    | (refine cond_intro (fun hc => ?_) (fun hc => ?_)))
  refine cmd_loop I 40 (by
    rw [hI.out]
    exact ⟨0, _, _, by omega, rfl, sub_upd hq4 (Heap.sub_refl _), Heap.upd_same _ _ _, OwN.nil, rfl⟩) ?_
  clear hq4
  intro m e O' hh
  rw [hI.out] at hh
  obtain ⟨i, s, O0, hi40, rfl, hO0, h04, hs, rfl⟩ := hh
  unfold env12m
  have f4 := hs.at_ h04
  have sc := hs.cells
  have sst := hs.stor
  replace hO0 := (show Aside _ from hO0)
  replace h04 := (show Aside _ from h04)
  replace hs := (show Aside _ from hs)
  have dj : decide ((i : Int) < 40) = decide (i < 40) := decide_eq_decide.2 (by omega)
  by_cases hi : i < 40
  rotate_left
  · have e0 : decide (i < 40) = false := decide_eq_false hi
    have hie : i = 40 := by omega
    replace hi := (show Aside _ from hi)
    rw [hie] at hs
    replace hie := (show Aside _ from hie)
    (repeat' first
    | simp (contextual := true) (maxSteps := 4000000) only [fwc, fwe, fww, reduceIte, ↓reduceIte, Nat.reduceAdd, Nat.reduceLeDiff, Nat.reduceEqDiff, Nat.reduceLT, Nat.reduceSub, reduceCtorEq, Int.reduceEq, Int.reduceLT, Int.reduceLE, Int.reduceNeg, Int.reduceToNat, Int.reduceAdd, Int.reduceSub, Nat.reduceMul, part_cell, part_agg, *]
    | (refine seqK_now ?_)
    | (refine retK_now ?_)
    | (refine retK_now' ?_)
    | (intro q hq)
    | (refine cond_intro (fun hc => ?_) (fun hc => ?_)))
    refine ClipP_fz s _ O0 O' hs.out _ ?_
    (repeat' first
    | simp (contextual := true) (maxSteps := 4000000) only [fwc, fwe, fww, reduceIte, ↓reduceIte, Nat.reduceAdd, Nat.reduceLeDiff, Nat.reduceEqDiff, Nat.reduceLT, Nat.reduceSub, reduceCtorEq, Int.reduceEq, Int.reduceLT, Int.reduceLE, Int.reduceNeg, Int.reduceToNat, Int.reduceAdd, Int.reduceSub, Nat.reduceMul, part_cell, part_agg, *]
    | (refine seqK_now ?_)
    | (refine retK_now ?_)
    | (refine retK_now' ?_)
    | (intro q hq)
    | (refine cond_intro (fun hc => ?_) (fun hc => ?_)))
    refine WeakR.pure hO0.out ?_
    rfl
  have e0 : decide (i < 40) = true := decide_eq_true hi
  have hwi : i < 4611686018427387904 := by omega
  have hgood : (⟨1, ((i + 1 : Nat) : Int)⟩ : Ndl).bad = false := by unfold Ndl.bad; simp only [Bool.or_eq_false_iff, decide_eq_false_iff_not]; omega
  have hSp := Spot_ok ⟨1, ((i + 1 : Nat) : Int)⟩ r
  rw [if_neg (by rw [hgood, hr.out]; simp)] at hSp
  rw [show (⟨1, ((i + 1 : Nat) : Int)⟩ : Ndl).av = .agg [.val (.int .u8 1), .val (.int .i64 ((i + 1 : Nat) : Int))] from rfl] at hSp
  have hsuc := meetTo_succ F B r d pl i
  obtain ⟨ra, hra, hraT⟩ := hat.out ⟨1, ((i + 1 : Nat) : Int)⟩
  rw [show (⟨1, ((i + 1 : Nat) : Int)⟩ : Ndl).av = .agg [.val (.int .u8 1), .val (.int .i64 ((i + 1 : Nat) : Int))] from rfl] at hra
  have hl4 := hm4.out ⟨1, ((i + 1 : Nat) : Int)⟩
  obtain ⟨ro, hro, hroL⟩ := inOrder_ok ra _ hraT.isL (by omega) (1 - d)
  have hma : meetAt F B r d pl i = if pl < (if spotL ⟨1, ((i + 1 : Nat) : Int)⟩ r + 4 * shL d < spotL ⟨1, ((i + 1 : Nat) : Int)⟩ r then spotL ⟨1, ((i + 1 : Nat) : Int)⟩ r + 4 * shL d else spotL ⟨1, ((i + 1 : Nat) : Int)⟩ r) ∨
    (if spotL ⟨1, ((i + 1 : Nat) : Int)⟩ r < spotL ⟨1, ((i + 1 : Nat) : Int)⟩ r + 4 * shL d then spotL ⟨1, ((i + 1 : Nat) : Int)⟩ r + 4 * shL d else spotL ⟨1, ((i + 1 : Nat) : Int)⟩ r) < pl then []
    else (ordL (1 - d) (atL F B ⟨1, ((i + 1 : Nat) : Int)⟩)).map fun p => ⟨p, true, 1 - d⟩ := rfl
  have hrr : -4 ≤ r ∧ r ≤ 4 := by have := hr.out; unfold rackOK at this; simpa using this
  have hspb : -100 ≤ spotL ⟨1, ((i + 1 : Nat) : Int)⟩ r ∧ spotL ⟨1, ((i + 1 : Nat) : Int)⟩ r ≤ 1000 := by unfold spotL; rw [if_pos rfl]; simp only; omega
  have hshb : shL d = 1 ∨ shL d = -1 := by unfold shL; split <;> simp
  have hol : (ordL (1 - d) (atL F B ⟨1, ((i + 1 : Nat) : Int)⟩)).length ≤ 4 := by rw [ordL_len]; exact hl4
  generalize ordL (1 - d) (atL F B ⟨1, ((i + 1 : Nat) : Int)⟩) = OL at *
  generalize spotL ⟨1, ((i + 1 : Nat) : Int)⟩ r = a at *
  generalize shL d = sh at *
  have hw1 : IntKind.i64.wrap (4 * sh) = 4 * sh := by rw [wrap_i64 (by omega) (by omega)]
  have hw2 : IntKind.i64.wrap (a + 4 * sh) = a + 4 * sh := by rw [wrap_i64 (by omega) (by omega)]
  have hw3 : IntKind.i64.wrap ((i : Int) + 1) = ((i + 1 : Nat) : Int) := by rw [wrap_i64 (by omega) (by omega)]; omega
  obtain ⟨a2, ha2⟩ : ∃ z, a + 4 * sh = z := ⟨_, rfl⟩
  rw [ha2] at hma
  replace hw2 : IntKind.i64.wrap (a + 4 * sh) = a2 := hw2.trans ha2
  replace ha2 := (show Aside _ from ha2)
  obtain ⟨lo, hlo⟩ : ∃ z, (if a2 < a then a2 else a) = z := ⟨_, rfl⟩
  obtain ⟨hh', hhi⟩ : ∃ z, (if a < a2 then a2 else a) = z := ⟨_, rfl⟩
  rw [hlo, hhi] at hma
  have rc := hroL.cells
  have rs := hroL.stor
  have rl := hroL.len
  rw [List.length_map] at rl
  have rac := hraT.isL.cells
  have ras := hraT.isL.stor
  replace hroL := (show Aside _ from hroL)
  replace hraT := (show Aside _ from hraT)
  replace hma := (show Aside _ from hma)
  replace hsuc := (show Aside _ from hsuc)
  replace hspb := (show Aside _ from hspb)
  replace hshb := (show Aside _ from hshb)
  replace hrr := (show Aside _ from hrr)
  replace hl4 := (show Aside _ from hl4)
  replace hgood := (show Aside _ from hgood)
  replace hol := (show Aside _ from hol)
  refine seq_go ?_
  (repeat' first
    | simp (contextual := true) (maxSteps := 4000000) only [fwc, fwe, fww, reduceIte, ↓reduceIte, Nat.reduceAdd, Nat.reduceLeDiff, Nat.reduceEqDiff, Nat.reduceLT, Nat.reduceSub, reduceCtorEq, Int.reduceEq, Int.reduceLT, Int.reduceLE, Int.reduceNeg, Int.reduceToNat, Int.reduceAdd, Int.reduceSub, Nat.reduceMul, ilt_nat, part_cell, part_agg, *]
    | (refine retK_now ?_)
    | (refine retK_now' ?_)
    | (intro q hq)
    | (refine cond_intro (fun hc => ?_) (fun hc => ?_)))
  refine seqK_now ?_
  refine seq_go ?_
  (repeat' first
    | simp (contextual := true) (maxSteps := 4000000) only [fwc, fwe, fww, reduceIte, ↓reduceIte, Nat.reduceAdd, Nat.reduceLeDiff, Nat.reduceEqDiff, Nat.reduceLT, Nat.reduceSub, reduceCtorEq, Int.reduceEq, Int.reduceLT, Int.reduceLE, Int.reduceNeg, Int.reduceToNat, Int.reduceAdd, Int.reduceSub, Nat.reduceMul, ilt_nat, part_cell, part_agg, *]
    | (refine retK_now ?_)
    | (refine retK_now' ?_)
    | (intro q hq)
    | (refine cond_intro (fun hc => ?_) (fun hc => ?_)))
  refine seqK_now ?_
  refine seq_go ?_
  refine seq_go ?_
  (repeat' first
    | simp (contextual := true) (maxSteps := 4000000) only [fwc, fwe, fww, reduceIte, ↓reduceIte, Nat.reduceAdd, Nat.reduceLeDiff, Nat.reduceEqDiff, Nat.reduceLT, Nat.reduceSub, reduceCtorEq, Int.reduceEq, Int.reduceLT, Int.reduceLE, Int.reduceNeg, Int.reduceToNat, Int.reduceAdd, Int.reduceSub, Nat.reduceMul, ilt_nat, part_cell, part_agg, *]
    | (refine retK_now ?_)
    | (refine retK_now' ?_)
    | (intro q hq)
    | (refine cond_intro (fun hc => ?_) (fun hc => ?_)))
  refine seqK_now ?_
  refine seq_go ?_
  (repeat' first
    | simp (contextual := true) (maxSteps := 4000000) only [fwc, fwe, fww, reduceIte, ↓reduceIte, Nat.reduceAdd, Nat.reduceLeDiff, Nat.reduceEqDiff, Nat.reduceLT, Nat.reduceSub, reduceCtorEq, Int.reduceEq, Int.reduceLT, Int.reduceLE, Int.reduceNeg, Int.reduceToNat, Int.reduceAdd, Int.reduceSub, Nat.reduceMul, ilt_nat, part_cell, part_agg, *]
    | (refine retK_now ?_)
    | (refine retK_now' ?_)
    | (intro q hq)
    | (refine cond_intro (fun hc => ?_) (fun hc => ?_)))
  revert q
  intro q14 hq14
  refine seqK_now ?_
  refine seq_go ?_
  (repeat' first
    | simp (contextual := true) (maxSteps := 4000000) only [fwc, fwe, fww, reduceIte, ↓reduceIte, Nat.reduceAdd, Nat.reduceLeDiff, Nat.reduceEqDiff, Nat.reduceLT, Nat.reduceSub, reduceCtorEq, Int.reduceEq, Int.reduceLT, Int.reduceLE, Int.reduceNeg, Int.reduceToNat, Int.reduceAdd, Int.reduceSub, Nat.reduceMul, ilt_nat, part_cell, part_agg, *]
    | (refine retK_now ?_)
    | (refine retK_now' ?_)
    | (intro q hq)
    | (refine cond_intro (fun hc => ?_) (fun hc => ?_)))
  refine hSp.use ?_
  (repeat' first
    | simp (contextual := true) (maxSteps := 4000000) only [fwc, fwe, fww, reduceIte, ↓reduceIte, Nat.reduceAdd, Nat.reduceLeDiff, Nat.reduceEqDiff, Nat.reduceLT, Nat.reduceSub, reduceCtorEq, Int.reduceEq, Int.reduceLT, Int.reduceLE, Int.reduceNeg, Int.reduceToNat, Int.reduceAdd, Int.reduceSub, Nat.reduceMul, ilt_nat, part_cell, part_agg, *]
    | (refine retK_now ?_)
    | (refine retK_now' ?_)
    | (intro q hq)
    | (refine cond_intro (fun hc => ?_) (fun hc => ?_)))
  refine seqK_now ?_
  refine seq_go ?_
  (repeat' first
    | simp (contextual := true) (maxSteps := 4000000) only [fwc, fwe, fww, reduceIte, ↓reduceIte, Nat.reduceAdd, Nat.reduceLeDiff, Nat.reduceEqDiff, Nat.reduceLT, Nat.reduceSub, reduceCtorEq, Int.reduceEq, Int.reduceLT, Int.reduceLE, Int.reduceNeg, Int.reduceToNat, Int.reduceAdd, Int.reduceSub, Nat.reduceMul, ilt_nat, part_cell, part_agg, *]
    | (refine retK_now ?_)
    | (refine retK_now' ?_)
    | (intro q hq)
    | (refine cond_intro (fun hc => ?_) (fun hc => ?_)))
  refine hsh.use ?_
  (repeat' first
    | simp (contextual := true) (maxSteps := 4000000) only [fwc, fwe, fww, reduceIte, ↓reduceIte, Nat.reduceAdd, Nat.reduceLeDiff, Nat.reduceEqDiff, Nat.reduceLT, Nat.reduceSub, reduceCtorEq, Int.reduceEq, Int.reduceLT, Int.reduceLE, Int.reduceNeg, Int.reduceToNat, Int.reduceAdd, Int.reduceSub, Nat.reduceMul, ilt_nat, part_cell, part_agg, mm_min, mm_max, *]
    | (refine retK_now ?_)
    | (refine retK_now' ?_)
    | (intro q hq)
    | (refine cond_intro (fun hc => ?_) (fun hc => ?_)))
  refine seqK_now ?_
  refine seq_go ?_
  have o14 := own_none hs.out hq14
  have hsub14 := sub_new hO0.out o14 (v := .arr 41 2 [.agg [.val (.int .u8 1), .val (.int .i64 ((i + 1 : Nat) : Int))]])
  have hs14 := own_new hs.out (x := .arr 41 2 [.agg [.val (.int .u8 1), .val (.int .i64 ((i + 1 : Nat) : Int))]]) hq14
  have h14 : (O0.upd q14 (.arr 41 2 [.agg [.val (.int .u8 1), .val (.int .i64 ((i + 1 : Nat) : Int))]])) q4 = some (.arr 26 2 [.agg [f, b]]) := upd_keep o14 h04.out
  have n414 := ne_of f4 hq14
  replace hsub14 := (show Aside _ from hsub14)
  replace hs14 := (show Aside _ from hs14)
  replace h14 := (show Aside _ from h14)
  replace o14 := (show Aside _ from o14)
  by_cases p1 : pl < lo
  · have g1 : decide (pl < lo) = true := decide_eq_true p1
    have hnil : meetTo F B r d pl (i + 1) = meetTo F B r d pl i := by rw [hsuc.out, hma.out, if_pos (.inl p1), List.append_nil]
    replace p1 := (show Aside _ from p1)
    replace hnil := (show Aside _ from hnil)
    (repeat' first
    | simp (contextual := true) (maxSteps := 4000000) only [fwc, fwe, fww, reduceIte, ↓reduceIte, Nat.reduceAdd, Nat.reduceLeDiff, Nat.reduceEqDiff, Nat.reduceLT, Nat.reduceSub, reduceCtorEq, Int.reduceEq, Int.reduceLT, Int.reduceLE, Int.reduceNeg, Int.reduceToNat, Int.reduceAdd, Int.reduceSub, Nat.reduceMul, ilt_nat, part_cell, part_agg, mm_min, mm_max, wrap_succ, *]
    | (refine seqK_now ?_)
    | (refine retK_now ?_)
    | (refine retK_now' ?_)
    | (intro q hq)
    | (refine cond_intro (fun hc => ?_) (fun hc => ?_)))
    refine loopK_now (40 - (i + 1)) (by omega) ?_
    rw [hI.out]
    exact ⟨i + 1, s, _, by omega, rfl, hsub14.out, h14.out, by rw [hnil.out]; exact hs14.out, rfl⟩
  have g1 : decide (pl < lo) = false := decide_eq_false p1
  by_cases p2 : hh' < pl
  · have g2 : decide (hh' < pl) = true := decide_eq_true p2
    have hnil : meetTo F B r d pl (i + 1) = meetTo F B r d pl i := by rw [hsuc.out, hma.out, if_pos (.inr p2), List.append_nil]
    replace p1 := (show Aside _ from p1)
    replace p2 := (show Aside _ from p2)
    replace hnil := (show Aside _ from hnil)
    (repeat' first
    | simp (contextual := true) (maxSteps := 4000000) only [fwc, fwe, fww, reduceIte, ↓reduceIte, Nat.reduceAdd, Nat.reduceLeDiff, Nat.reduceEqDiff, Nat.reduceLT, Nat.reduceSub, reduceCtorEq, Int.reduceEq, Int.reduceLT, Int.reduceLE, Int.reduceNeg, Int.reduceToNat, Int.reduceAdd, Int.reduceSub, Nat.reduceMul, ilt_nat, part_cell, part_agg, mm_min, mm_max, wrap_succ, *]
    | (refine seqK_now ?_)
    | (refine retK_now ?_)
    | (refine retK_now' ?_)
    | (intro q hq)
    | (refine cond_intro (fun hc => ?_) (fun hc => ?_)))
    refine loopK_now (40 - (i + 1)) (by omega) ?_
    rw [hI.out]
    exact ⟨i + 1, s, _, by omega, rfl, hsub14.out, h14.out, by rw [hnil.out]; exact hs14.out, rfl⟩
  have g2 : decide (hh' < pl) = false := decide_eq_false p2
  have hcat : meetTo F B r d pl (i + 1) = meetTo F B r d pl i ++ OL.map fun p => (⟨p, true, 1 - d⟩ : Ps) := by rw [hsuc.out, hma.out, if_neg (fun h => h.elim p1 p2)]
  replace p1 := (show Aside _ from p1)
  replace p2 := (show Aside _ from p2)
  replace hcat := (show Aside _ from hcat)
  (repeat' first
    | simp (contextual := true) (maxSteps := 4000000) only [fwc, fwe, fww, reduceIte, ↓reduceIte, Nat.reduceAdd, Nat.reduceLeDiff, Nat.reduceEqDiff, Nat.reduceLT, Nat.reduceSub, reduceCtorEq, Int.reduceEq, Int.reduceLT, Int.reduceLE, Int.reduceNeg, Int.reduceToNat, Int.reduceAdd, Int.reduceSub, Nat.reduceMul, ilt_nat, part_cell, part_agg, mm_min, mm_max, wrap_succ, *]
    | (refine retK_now ?_)
    | (refine retK_now' ?_)
    | (intro q hq)
    | (refine cond_intro (fun hc => ?_) (fun hc => ?_)))
  refine seqK_now ?_
  (repeat' first
    | simp (contextual := true) (maxSteps := 4000000) only [fwc, fwe, fww, reduceIte, ↓reduceIte, Nat.reduceAdd, Nat.reduceLeDiff, Nat.reduceEqDiff, Nat.reduceLT, Nat.reduceSub, reduceCtorEq, Int.reduceEq, Int.reduceLT, Int.reduceLE, Int.reduceNeg, Int.reduceToNat, Int.reduceAdd, Int.reduceSub, Nat.reduceMul, ilt_nat, part_cell, part_agg, mm_min, mm_max, wrap_succ, *]
    | (refine retK_now ?_)
    | (refine retK_now' ?_)
    | (intro q hq)
    | (refine cond_intro (fun hc => ?_) (fun hc => ?_)))
  refine seqK_now ?_
  refine seq_go ?_
  (repeat' first
    | simp (contextual := true) (maxSteps := 4000000) only [fwc, fwe, fww, reduceIte, ↓reduceIte, Nat.reduceAdd, Nat.reduceLeDiff, Nat.reduceEqDiff, Nat.reduceLT, Nat.reduceSub, reduceCtorEq, Int.reduceEq, Int.reduceLT, Int.reduceLE, Int.reduceNeg, Int.reduceToNat, Int.reduceAdd, Int.reduceSub, Nat.reduceMul, ilt_nat, part_cell, part_agg, *]
    | (refine retK_now ?_)
    | (refine retK_now' ?_)
    | (intro q hq)
    | (refine cond_intro (fun hc => ?_) (fun hc => ?_)))
  refine hra.use ?_
  (repeat' first
    | simp (contextual := true) (maxSteps := 4000000) only [fwc, fwe, fww, reduceIte, ↓reduceIte, Nat.reduceAdd, Nat.reduceLeDiff, Nat.reduceEqDiff, Nat.reduceLT, Nat.reduceSub, reduceCtorEq, Int.reduceEq, Int.reduceLT, Int.reduceLE, Int.reduceNeg, Int.reduceToNat, Int.reduceAdd, Int.reduceSub, Nat.reduceMul, ilt_nat, part_cell, part_agg, *]
    | (refine retK_now ?_)
    | (refine retK_now' ?_)
    | (intro q hq)
    | (refine cond_intro (fun hc => ?_) (fun hc => ?_)))
  refine hro.use ?_
  (repeat' first
    | simp (contextual := true) (maxSteps := 4000000) only [fwc, fwe, fww, reduceIte, ↓reduceIte, Nat.reduceAdd, Nat.reduceLeDiff, Nat.reduceEqDiff, Nat.reduceLT, Nat.reduceSub, reduceCtorEq, Int.reduceEq, Int.reduceLT, Int.reduceLE, Int.reduceNeg, Int.reduceToNat, Int.reduceAdd, Int.reduceSub, Nat.reduceMul, ilt_nat, part_cell, part_agg, *]
    | (refine retK_now ?_)
    | (refine retK_now' ?_)
    | (intro q hq)
    | (refine cond_intro (fun hc => ?_) (fun hc => ?_)))
  refine seqK_now ?_
  have hML := meetTo_len hm4.out r d pl i
  obtain ⟨J, hJ⟩ := hideI (fun m e O' => ∃ (k : Nat) (s : AV) (O1 : Heap), k ≤ OL.length ∧ m = OL.length - k ∧ O.sub O1 ∧ O1 q4 = some (.arr 26 2 [.agg [f, b]]) ∧ OwN 52 4 O1 O' s ((meetTo F B r d pl i).map Ps.av ++ (OL.take k).map fun p => Ps.av ⟨p, true, 1 - d⟩) ∧ e = env12n q4 r d pl s ro i OL.length k)
  (repeat' first
    | simp (contextual := true) (maxSteps := 4000000) only [fwc, fwe, fww, reduceIte, ↓reduceIte, Nat.reduceAdd, Nat.reduceLeDiff, Nat.reduceEqDiff, Nat.reduceLT, Nat.reduceSub, reduceCtorEq, Int.reduceEq, Int.reduceLT, Int.reduceLE, Int.reduceNeg, Int.reduceToNat, Int.reduceAdd, Int.reduceSub, Nat.reduceMul, ilt_nat, part_cell, part_agg, *]
    | (refine retK_now ?_)
    | (refine retK_now' ?_)
    | (intro q hq)
    | (refine cond_intro (fun hc => ?_) (fun hc => ?_)))
  refine cmd_loop J OL.length (by
    rw [hJ.out]
    exact ⟨0, s, _, by omega, rfl, hsub14.out, h14.out, by rw [List.take_zero, List.map_nil, List.append_nil]; exact hs14.out, rfl⟩) ?_
  clear hs hs14 h14 hsub14 hq14 o14 n414 f4 h04 hO0 sc sst
  intro m e O2 hh
  rw [hJ.out] at hh
  obtain ⟨k, s2, O1, hk4, rfl, hO1, h1, hs2, rfl⟩ := hh
  unfold env12n
  have f4 := hs2.at_ h1
  have sc := hs2.cells
  have sst := hs2.stor
  replace hO1 := (show Aside _ from hO1)
  replace h1 := (show Aside _ from h1)
  replace hs2 := (show Aside _ from hs2)
  by_cases hk : k < OL.length
  rotate_left
  · have e1 : decide (k < OL.length) = false := decide_eq_false hk
    have hke : k = OL.length := by omega
    replace hk := (show Aside _ from hk)
    rw [hke, List.take_length] at hs2
    replace hke := (show Aside _ from hke)
    (repeat' first
    | simp (contextual := true) (maxSteps := 4000000) only [fwc, fwe, fww, reduceIte, ↓reduceIte, Nat.reduceAdd, Nat.reduceLeDiff, Nat.reduceEqDiff, Nat.reduceLT, Nat.reduceSub, reduceCtorEq, Int.reduceEq, Int.reduceLT, Int.reduceLE, Int.reduceNeg, Int.reduceToNat, Int.reduceAdd, Int.reduceSub, Nat.reduceMul, ilt_nat, part_cell, part_agg, wrap_succ, *]
    | (refine seqK_now ?_)
    | (refine retK_now ?_)
    | (refine retK_now' ?_)
    | (intro q hq)
    | (refine cond_intro (fun hc => ?_) (fun hc => ?_)))
    refine loopK_now (40 - (i + 1)) (by omega) ?_
    rw [hI.out]
    refine ⟨i + 1, s2, O1, by omega, rfl, hO1.out, h1.out, ?_, rfl⟩
    rw [hcat.out, List.map_append, List.map_map]
    exact hs2.out
  have e1 : decide (k < OL.length) = true := decide_eq_true hk
  have hwk : k < 4611686018427387904 := by have := hol.out; omega
  have hia := IsL.ia hroL.out (i := k) (by rw [List.length_map]; exact hk)
  rw [List.getElem_map] at hia
  have htk : OL.take (k + 1) = OL.take k ++ [OL[k]] := by rw [List.take_add_one, List.getElem?_eq_getElem hk]; rfl
  have htl : (OL.take k).length ≤ k := List.length_take_le k OL
  generalize OL[k] = y at *
  rw [show y.av = .agg [.val (.int .u8 y.y), .val (.int .i64 y.n)] from rfl] at hia
  replace hk := (show Aside _ from hk)
  replace htk := (show Aside _ from htk)
  replace htl := (show Aside _ from htl)
  replace hML := (show Aside _ from hML)
  refine seq_go ?_
  (repeat' first
    | simp (contextual := true) (maxSteps := 4000000) only [fwc, fwe, fww, reduceIte, ↓reduceIte, Nat.reduceAdd, Nat.reduceLeDiff, Nat.reduceEqDiff, Nat.reduceLT, Nat.reduceSub, reduceCtorEq, Int.reduceEq, Int.reduceLT, Int.reduceLE, Int.reduceNeg, Int.reduceToNat, Int.reduceAdd, Int.reduceSub, Nat.reduceMul, ilt_nat, part_cell, part_agg, *]
    | (refine retK_now ?_)
    | (refine retK_now' ?_)
    | (intro q hq)
    | (refine cond_intro (fun hc => ?_) (fun hc => ?_)))
  refine seqK_now ?_
  refine seq_go ?_
  (repeat' first
    | simp (contextual := true) (maxSteps := 4000000) only [fwc, fwe, fww, reduceIte, ↓reduceIte, Nat.reduceAdd, Nat.reduceLeDiff, Nat.reduceEqDiff, Nat.reduceLT, Nat.reduceSub, reduceCtorEq, Int.reduceEq, Int.reduceLT, Int.reduceLE, Int.reduceNeg, Int.reduceToNat, Int.reduceAdd, Int.reduceSub, Nat.reduceMul, ilt_nat, part_cell, part_agg, *]
    | (refine retK_now ?_)
    | (refine retK_now' ?_)
    | (intro q hq)
    | (refine cond_intro (fun hc => ?_) (fun hc => ?_)))
  refine seqK_now ?_
  refine seq_go ?_
  refine seq_go ?_
  (repeat' first
    | simp (contextual := true) (maxSteps := 4000000) only [fwc, fwe, fww, reduceIte, ↓reduceIte, Nat.reduceAdd, Nat.reduceLeDiff, Nat.reduceEqDiff, Nat.reduceLT, Nat.reduceSub, reduceCtorEq, Int.reduceEq, Int.reduceLT, Int.reduceLE, Int.reduceNeg, Int.reduceToNat, Int.reduceAdd, Int.reduceSub, Nat.reduceMul, ilt_nat, part_cell, part_agg, *]
    | (refine retK_now ?_)
    | (refine retK_now' ?_)
    | (intro q hq)
    | (refine cond_intro (fun hc => ?_) (fun hc => ?_)))
  revert q
  intro q18 hq18
  refine seqK_now ?_
  have o18 := own_none hs2.out hq18
  have hsub18 := sub_new hO1.out o18 (v := .arr 38 2 [.agg [.val (.int .u8 y.y), .val (.int .i64 y.n)]])
  have hs18 := own_new hs2.out (x := .arr 38 2 [.agg [.val (.int .u8 y.y), .val (.int .i64 y.n)]]) hq18
  have h18 : (O1.upd q18 (.arr 38 2 [.agg [.val (.int .u8 y.y), .val (.int .i64 y.n)]])) q4 = some (.arr 26 2 [.agg [f, b]]) := upd_keep o18 h1.out
  replace hsub18 := (show Aside _ from hsub18)
  replace hs18 := (show Aside _ from hs18)
  replace h18 := (show Aside _ from h18)
  replace o18 := (show Aside _ from o18)
  (repeat' first
    | simp (contextual := true) (maxSteps := 4000000) only [fwc, fwe, fww, reduceIte, ↓reduceIte, Nat.reduceAdd, Nat.reduceLeDiff, Nat.reduceEqDiff, Nat.reduceLT, Nat.reduceSub, reduceCtorEq, Int.reduceEq, Int.reduceLT, Int.reduceLE, Int.reduceNeg, Int.reduceToNat, Int.reduceAdd, Int.reduceSub, Nat.reduceMul, ilt_nat, part_cell, part_agg, *]
    | (refine retK_now ?_)
    | (refine retK_now' ?_)
    | (intro q hq)
    | (refine cond_intro (fun hc => ?_) (fun hc => ?_)))
  refine own_app hs18.out (X := [Ps.av ⟨y, true, 1 - d⟩]) (.inr ⟨true, rfl⟩) (fits_of (by have := hML.out; have := htl.out; have := hol.out; have := hk.out; simp only [List.length_append, List.length_map, List.length_cons, List.length_nil]; omega) (by omega)) fun s3 O3 h3 => ?_
  have sc3 := h3.cells
  have sst3 := h3.stor
  replace h3 := (show Aside _ from h3)
  (repeat' first
    | simp (contextual := true) (maxSteps := 4000000) only [fwc, fwe, fww, reduceIte, ↓reduceIte, Nat.reduceAdd, Nat.reduceLeDiff, Nat.reduceEqDiff, Nat.reduceLT, Nat.reduceSub, reduceCtorEq, Int.reduceEq, Int.reduceLT, Int.reduceLE, Int.reduceNeg, Int.reduceToNat, Int.reduceAdd, Int.reduceSub, Nat.reduceMul, ilt_nat, part_cell, part_agg, wrap_succ, *]
    | (refine seqK_now ?_)
    | (refine retK_now ?_)
    | (refine retK_now' ?_)
    | (intro q hq)
    | (refine cond_intro (fun hc => ?_) (fun hc => ?_)))
  refine loopK_now (OL.length - (k + 1)) (by have := hk.out; omega) ?_
  rw [hJ.out]
  refine ⟨k + 1, s3, _, by have := hk.out; omega, rfl, hsub18.out, h18.out, ?_, rfl⟩
  rw [htk.out, List.map_append, ← List.append_assoc]
  exact h3.out
end Go.Proofs.Ytlpngkeegjickab
