/- The law OrdersErrors of the given program: for every input the call returns true, and its arguments read as before. Here: contracts of functions, and the law. -/
import Derived.Test.YtlpngkeegjickabLawOrdersErrorsP1
import Derived.Test.YtlpngkeegjickabFc
import Derived.Test.YtlpngkeegjickabRows
set_option linter.unusedSimpArgs false
set_option linter.unusedVariables false
namespace Go.Proofs.Ytlpngkeegjickab
open Go.Ab
attribute [local irreducible] WeakR WeakE CallA YieldA

/-- Two cells that stand for themselves. -/
structure Two (f b : AV) (es fs : List AV) (F B : List (List Id)) : Prop where
  f : IsB f es F
  b : IsB b fs B

theorem usual_err {f b : AV} {es fs : List AV} {F B : List (List Id)} (h : Two f b es fs F B) (he : checkL F B ≠ 0) (rack : Int) : PureA Try.prog 30 [.agg [f, b], .val (.int .i64 rack)] (.val (.int .i64 (checkL F B))) := by
  intro O
  have hck := Check_ok f b es fs F B h.f h.b
  have c1 := h.f.1.cells
  have c2 := h.b.1.cells
  have s1 := h.f.1.stor
  have s2 := h.b.1.stor
  generalize checkL F B = e at hck he ⊢
  have d : decide (e = 0) = false := decide_eq_false he
  clear he
  refine k30.call mix ?_
  unfold c30
  (repeat' first
    | simp (contextual := true) (maxSteps := 4000000) only [fwc, fwe, cmd_seq, opsW_gpure, drawW_pure, drawW_gpure, Env.upd_apply, Heap.upd_same, Heap.upd_apply, ite_none, List.getD_cons_zero, List.getD_cons_succ, List.getD_nil, List.length_cons, List.length_nil, List.map_cons, List.map_nil, List.getElem?_cons_zero, List.getElem?_cons_succ, List.getElem?_nil, List.set_cons_zero, List.set_cons_succ, List.take_succ_cons, List.take_zero, List.drop_succ_cons, List.drop_zero, List.nil_append, List.cons_append, List.append_nil, Option.map_some, Option.map_none, Option.bind_some, Option.bind_none, reduceIte, ↓reduceIte, decide_true, decide_false, Bool.true_and, Bool.and_true, Bool.false_and, Bool.and_false, true_and, and_true, and_self, Nat.reduceAdd, Nat.reduceLeDiff, Nat.reduceEqDiff, Nat.zero_add, Nat.add_zero, Nat.le_refl, Nat.zero_le, ge_iff_le, Nat.reduceLT, Nat.zero_lt_succ, Nat.reduceSub, if_true, if_false, forall_const, reduceCtorEq, Bool.not_true, Bool.not_false, Bool.false_eq_true, Int.reduceEq, Int.reduceLT, Int.reduceLE, Int.reduceNeg, Int.reduceToNat, Int.reduceAdd, Int.reduceSub, Nat.reduceMul, Nat.reduceEqDiff, gW_un, gcF_un, gcA_un, ci_mkmap, ci_mapset, ci_lookup, ci_maxl, ci_appz, pi_lookup, pi_maxl, pu_lookup, pu_maxl, maxl_nil, maxl_one, maxl_cons, cells_mapr, stor_mapr, callv_yld, mm_max, mm_min, putAll_cons, putAll_nil, asgK_normal, roundK_normal, roundK_ret, roundK_exit, part_cell, part_agg, *]
    | (refine seqK_now ?_)
    | (refine retK_now ?_)
    | (refine retK_now' ?_)
    | (intro q hq)
    | (refine cond_intro (fun hc => ?_) (fun hc => ?_)))
  refine hck.use ?_
  (repeat' first
    | simp (contextual := true) (maxSteps := 4000000) only [fwc, fwe, cmd_seq, opsW_gpure, drawW_pure, drawW_gpure, Env.upd_apply, Heap.upd_same, Heap.upd_apply, ite_none, List.getD_cons_zero, List.getD_cons_succ, List.getD_nil, List.length_cons, List.length_nil, List.map_cons, List.map_nil, List.getElem?_cons_zero, List.getElem?_cons_succ, List.getElem?_nil, List.set_cons_zero, List.set_cons_succ, List.take_succ_cons, List.take_zero, List.drop_succ_cons, List.drop_zero, List.nil_append, List.cons_append, List.append_nil, Option.map_some, Option.map_none, Option.bind_some, Option.bind_none, reduceIte, ↓reduceIte, decide_true, decide_false, Bool.true_and, Bool.and_true, Bool.false_and, Bool.and_false, true_and, and_true, and_self, Nat.reduceAdd, Nat.reduceLeDiff, Nat.reduceEqDiff, Nat.zero_add, Nat.add_zero, Nat.le_refl, Nat.zero_le, ge_iff_le, Nat.reduceLT, Nat.zero_lt_succ, Nat.reduceSub, if_true, if_false, forall_const, reduceCtorEq, Bool.not_true, Bool.not_false, Bool.false_eq_true, Int.reduceEq, Int.reduceLT, Int.reduceLE, Int.reduceNeg, Int.reduceToNat, Int.reduceAdd, Int.reduceSub, Nat.reduceMul, Nat.reduceEqDiff, gW_un, gcF_un, gcA_un, ci_mkmap, ci_mapset, ci_lookup, ci_maxl, ci_appz, pi_lookup, pi_maxl, pu_lookup, pu_maxl, maxl_nil, maxl_one, maxl_cons, cells_mapr, stor_mapr, callv_yld, mm_max, mm_min, putAll_cons, putAll_nil, asgK_normal, roundK_normal, roundK_ret, roundK_exit, part_cell, part_agg, *]
    | (refine seqK_now ?_)
    | (refine retK_now ?_)
    | (refine retK_now' ?_)
    | (intro q hq)
    | (refine cond_intro (fun hc => ?_) (fun hc => ?_)))
  refine WeakR.pure (by repeat (first | exact Heap.sub_refl _ | refine sub_upd (by simp only [*]) ?_)) ?_
  rfl
theorem movable_err {f b : AV} {es fs : List AV} {F B : List (List Id)} (h : Two f b es fs F B) (he : checkL F B ≠ 0) (rack d : Int) : PureA Try.prog 20 [.agg [f, b], .val (.int .i64 rack), .val (.int .u8 d)] (.val (.int .i64 (checkL F B))) := by
  intro O
  have hck := usual_err h he rack
  have c1 := h.f.1.cells
  have c2 := h.b.1.cells
  have s1 := h.f.1.stor
  have s2 := h.b.1.stor
  generalize checkL F B = e at hck he ⊢
  have dd : decide (e = 0) = false := decide_eq_false he
  clear he
  refine k20.call mix ?_
  unfold c20
  (repeat' first
    | simp (contextual := true) (maxSteps := 4000000) only [fwc, fwe, cmd_seq, opsW_gpure, drawW_pure, drawW_gpure, Env.upd_apply, Heap.upd_same, Heap.upd_apply, ite_none, List.getD_cons_zero, List.getD_cons_succ, List.getD_nil, List.length_cons, List.length_nil, List.map_cons, List.map_nil, List.getElem?_cons_zero, List.getElem?_cons_succ, List.getElem?_nil, List.set_cons_zero, List.set_cons_succ, List.take_succ_cons, List.take_zero, List.drop_succ_cons, List.drop_zero, List.nil_append, List.cons_append, List.append_nil, Option.map_some, Option.map_none, Option.bind_some, Option.bind_none, reduceIte, ↓reduceIte, decide_true, decide_false, Bool.true_and, Bool.and_true, Bool.false_and, Bool.and_false, true_and, and_true, and_self, Nat.reduceAdd, Nat.reduceLeDiff, Nat.reduceEqDiff, Nat.zero_add, Nat.add_zero, Nat.le_refl, Nat.zero_le, ge_iff_le, Nat.reduceLT, Nat.zero_lt_succ, Nat.reduceSub, if_true, if_false, forall_const, reduceCtorEq, Bool.not_true, Bool.not_false, Bool.false_eq_true, Int.reduceEq, Int.reduceLT, Int.reduceLE, Int.reduceNeg, Int.reduceToNat, Int.reduceAdd, Int.reduceSub, Nat.reduceMul, Nat.reduceEqDiff, gW_un, gcF_un, gcA_un, ci_mkmap, ci_mapset, ci_lookup, ci_maxl, ci_appz, pi_lookup, pi_maxl, pu_lookup, pu_maxl, maxl_nil, maxl_one, maxl_cons, cells_mapr, stor_mapr, callv_yld, mm_max, mm_min, putAll_cons, putAll_nil, asgK_normal, roundK_normal, roundK_ret, roundK_exit, part_cell, part_agg, *]
    | (refine seqK_now ?_)
    | (refine retK_now ?_)
    | (refine retK_now' ?_)
    | (intro q hq)
    | (refine cond_intro (fun hc => ?_) (fun hc => ?_)))
  refine hck.use ?_
  (repeat' first
    | simp (contextual := true) (maxSteps := 4000000) only [fwc, fwe, cmd_seq, opsW_gpure, drawW_pure, drawW_gpure, Env.upd_apply, Heap.upd_same, Heap.upd_apply, ite_none, List.getD_cons_zero, List.getD_cons_succ, List.getD_nil, List.length_cons, List.length_nil, List.map_cons, List.map_nil, List.getElem?_cons_zero, List.getElem?_cons_succ, List.getElem?_nil, List.set_cons_zero, List.set_cons_succ, List.take_succ_cons, List.take_zero, List.drop_succ_cons, List.drop_zero, List.nil_append, List.cons_append, List.append_nil, Option.map_some, Option.map_none, Option.bind_some, Option.bind_none, reduceIte, ↓reduceIte, decide_true, decide_false, Bool.true_and, Bool.and_true, Bool.false_and, Bool.and_false, true_and, and_true, and_self, Nat.reduceAdd, Nat.reduceLeDiff, Nat.reduceEqDiff, Nat.zero_add, Nat.add_zero, Nat.le_refl, Nat.zero_le, ge_iff_le, Nat.reduceLT, Nat.zero_lt_succ, Nat.reduceSub, if_true, if_false, forall_const, reduceCtorEq, Bool.not_true, Bool.not_false, Bool.false_eq_true, Int.reduceEq, Int.reduceLT, Int.reduceLE, Int.reduceNeg, Int.reduceToNat, Int.reduceAdd, Int.reduceSub, Nat.reduceMul, Nat.reduceEqDiff, gW_un, gcF_un, gcA_un, ci_mkmap, ci_mapset, ci_lookup, ci_maxl, ci_appz, pi_lookup, pi_maxl, pu_lookup, pu_maxl, maxl_nil, maxl_one, maxl_cons, cells_mapr, stor_mapr, callv_yld, mm_max, mm_min, putAll_cons, putAll_nil, asgK_normal, roundK_normal, roundK_ret, roundK_exit, part_cell, part_agg, *]
    | (refine seqK_now ?_)
    | (refine retK_now ?_)
    | (refine retK_now' ?_)
    | (intro q hq)
    | (refine cond_intro (fun hc => ?_) (fun hc => ?_)))
  refine WeakR.pure (by repeat (first | exact Heap.sub_refl _ | refine sub_upd (by simp only [*]) ?_)) ?_
  rfl
theorem List_err {f b : AV} {es fs : List AV} {F B : List (List Id)} (h : Two f b es fs F B) (he : checkL F B ≠ 0) (rack : Int) : PureA Try.prog 11 [.agg [f, b], .val (.int .i64 rack)] (.tup [.val (.slice none 0 0), .val (.int .i64 (checkL F B))]) := by
  intro O
  have hck := usual_err h he rack
  have c1 := h.f.1.cells
  have c2 := h.b.1.cells
  have s1 := h.f.1.stor
  have s2 := h.b.1.stor
  generalize checkL F B = e at hck he ⊢
  have dd : decide (e = 0) = false := decide_eq_false he
  clear he
  refine k11.call mix ?_
  unfold c11
  (repeat' first
    | simp (contextual := true) (maxSteps := 4000000) only [fwc, fwe, cmd_seq, opsW_gpure, drawW_pure, drawW_gpure, Env.upd_apply, Heap.upd_same, Heap.upd_apply, ite_none, List.getD_cons_zero, List.getD_cons_succ, List.getD_nil, List.length_cons, List.length_nil, List.map_cons, List.map_nil, List.getElem?_cons_zero, List.getElem?_cons_succ, List.getElem?_nil, List.set_cons_zero, List.set_cons_succ, List.take_succ_cons, List.take_zero, List.drop_succ_cons, List.drop_zero, List.nil_append, List.cons_append, List.append_nil, Option.map_some, Option.map_none, Option.bind_some, Option.bind_none, reduceIte, ↓reduceIte, decide_true, decide_false, Bool.true_and, Bool.and_true, Bool.false_and, Bool.and_false, true_and, and_true, and_self, Nat.reduceAdd, Nat.reduceLeDiff, Nat.reduceEqDiff, Nat.zero_add, Nat.add_zero, Nat.le_refl, Nat.zero_le, ge_iff_le, Nat.reduceLT, Nat.zero_lt_succ, Nat.reduceSub, if_true, if_false, forall_const, reduceCtorEq, Bool.not_true, Bool.not_false, Bool.false_eq_true, Int.reduceEq, Int.reduceLT, Int.reduceLE, Int.reduceNeg, Int.reduceToNat, Int.reduceAdd, Int.reduceSub, Nat.reduceMul, Nat.reduceEqDiff, gW_un, gcF_un, gcA_un, ci_mkmap, ci_mapset, ci_lookup, ci_maxl, ci_appz, pi_lookup, pi_maxl, pu_lookup, pu_maxl, maxl_nil, maxl_one, maxl_cons, cells_mapr, stor_mapr, callv_yld, mm_max, mm_min, putAll_cons, putAll_nil, asgK_normal, roundK_normal, roundK_ret, roundK_exit, part_cell, part_agg, *]
    | (refine seqK_now ?_)
    | (refine retK_now ?_)
    | (refine retK_now' ?_)
    | (intro q hq)
    | (refine cond_intro (fun hc => ?_) (fun hc => ?_)))
  refine hck.use ?_
  (repeat' first
    | simp (contextual := true) (maxSteps := 4000000) only [fwc, fwe, cmd_seq, opsW_gpure, drawW_pure, drawW_gpure, Env.upd_apply, Heap.upd_same, Heap.upd_apply, ite_none, List.getD_cons_zero, List.getD_cons_succ, List.getD_nil, List.length_cons, List.length_nil, List.map_cons, List.map_nil, List.getElem?_cons_zero, List.getElem?_cons_succ, List.getElem?_nil, List.set_cons_zero, List.set_cons_succ, List.take_succ_cons, List.take_zero, List.drop_succ_cons, List.drop_zero, List.nil_append, List.cons_append, List.append_nil, Option.map_some, Option.map_none, Option.bind_some, Option.bind_none, reduceIte, ↓reduceIte, decide_true, decide_false, Bool.true_and, Bool.and_true, Bool.false_and, Bool.and_false, true_and, and_true, and_self, Nat.reduceAdd, Nat.reduceLeDiff, Nat.reduceEqDiff, Nat.zero_add, Nat.add_zero, Nat.le_refl, Nat.zero_le, ge_iff_le, Nat.reduceLT, Nat.zero_lt_succ, Nat.reduceSub, if_true, if_false, forall_const, reduceCtorEq, Bool.not_true, Bool.not_false, Bool.false_eq_true, Int.reduceEq, Int.reduceLT, Int.reduceLE, Int.reduceNeg, Int.reduceToNat, Int.reduceAdd, Int.reduceSub, Nat.reduceMul, Nat.reduceEqDiff, gW_un, gcF_un, gcA_un, ci_mkmap, ci_mapset, ci_lookup, ci_maxl, ci_appz, pi_lookup, pi_maxl, pu_lookup, pu_maxl, maxl_nil, maxl_one, maxl_cons, cells_mapr, stor_mapr, callv_yld, mm_max, mm_min, putAll_cons, putAll_nil, asgK_normal, roundK_normal, roundK_ret, roundK_exit, part_cell, part_agg, *]
    | (refine seqK_now ?_)
    | (refine retK_now ?_)
    | (refine retK_now' ?_)
    | (intro q hq)
    | (refine cond_intro (fun hc => ?_) (fun hc => ?_)))
  refine WeakR.pure (by repeat (first | exact Heap.sub_refl _ | refine sub_upd (by simp only [*]) ?_)) ?_
  rfl
theorem Step_err {f b : AV} {es fs : List AV} {F B : List (List Id)} (h : Two f b es fs F B) (he : checkL F B ≠ 0) (rack d : Int) : PureA Try.prog 9 [.agg [f, b], .val (.int .i64 rack), .val (.int .u8 d)] (.tup [.val (.slice none 0 0), .val (.int .i64 (checkL F B))]) := by
  intro O
  have hck := movable_err h he rack d
  have c1 := h.f.1.cells
  have c2 := h.b.1.cells
  have s1 := h.f.1.stor
  have s2 := h.b.1.stor
  generalize checkL F B = e at hck he ⊢
  have dd : decide (e = 0) = false := decide_eq_false he
  clear he
  refine k9.call mix ?_
  unfold c9
  refine seq_go ?_
  (repeat' first
    | simp (contextual := true) (maxSteps := 4000000) only [fwc, fwe, opsW_gpure, drawW_pure, drawW_gpure, Env.upd_apply, Heap.upd_same, Heap.upd_apply, ite_none, List.getD_cons_zero, List.getD_cons_succ, List.getD_nil, List.length_cons, List.length_nil, List.map_cons, List.map_nil, List.getElem?_cons_zero, List.getElem?_cons_succ, List.getElem?_nil, List.set_cons_zero, List.set_cons_succ, List.take_succ_cons, List.take_zero, List.drop_succ_cons, List.drop_zero, List.nil_append, List.cons_append, List.append_nil, Option.map_some, Option.map_none, Option.bind_some, Option.bind_none, reduceIte, ↓reduceIte, decide_true, decide_false, Bool.true_and, Bool.and_true, Bool.false_and, Bool.and_false, true_and, and_true, and_self, Nat.reduceAdd, Nat.reduceLeDiff, Nat.reduceEqDiff, Nat.zero_add, Nat.add_zero, Nat.le_refl, Nat.zero_le, ge_iff_le, Nat.reduceLT, Nat.zero_lt_succ, Nat.reduceSub, if_true, if_false, forall_const, reduceCtorEq, Bool.not_true, Bool.not_false, Bool.false_eq_true, Int.reduceEq, Int.reduceLT, Int.reduceLE, Int.reduceNeg, Int.reduceToNat, Int.reduceAdd, Int.reduceSub, Nat.reduceMul, Nat.reduceEqDiff, gW_un, gcF_un, gcA_un, ci_mkmap, ci_mapset, ci_lookup, ci_maxl, ci_appz, pi_lookup, pi_maxl, pu_lookup, pu_maxl, maxl_nil, maxl_one, maxl_cons, cells_mapr, stor_mapr, callv_yld, mm_max, mm_min, putAll_cons, putAll_nil, asgK_normal, roundK_normal, roundK_ret, roundK_exit, part_cell, part_agg, *]
    | (refine retK_now ?_)
    | (refine retK_now' ?_)
    | (intro q hq)
    | (refine cond_intro (fun hc => ?_) (fun hc => ?_)))
  refine seqK_now ?_
  refine seq_go ?_
  (repeat' first
    | simp (contextual := true) (maxSteps := 4000000) only [fwc, fwe, cmd_seq, opsW_gpure, drawW_pure, drawW_gpure, Env.upd_apply, Heap.upd_same, Heap.upd_apply, ite_none, List.getD_cons_zero, List.getD_cons_succ, List.getD_nil, List.length_cons, List.length_nil, List.map_cons, List.map_nil, List.getElem?_cons_zero, List.getElem?_cons_succ, List.getElem?_nil, List.set_cons_zero, List.set_cons_succ, List.take_succ_cons, List.take_zero, List.drop_succ_cons, List.drop_zero, List.nil_append, List.cons_append, List.append_nil, Option.map_some, Option.map_none, Option.bind_some, Option.bind_none, reduceIte, ↓reduceIte, decide_true, decide_false, Bool.true_and, Bool.and_true, Bool.false_and, Bool.and_false, true_and, and_true, and_self, Nat.reduceAdd, Nat.reduceLeDiff, Nat.reduceEqDiff, Nat.zero_add, Nat.add_zero, Nat.le_refl, Nat.zero_le, ge_iff_le, Nat.reduceLT, Nat.zero_lt_succ, Nat.reduceSub, if_true, if_false, forall_const, reduceCtorEq, Bool.not_true, Bool.not_false, Bool.false_eq_true, Int.reduceEq, Int.reduceLT, Int.reduceLE, Int.reduceNeg, Int.reduceToNat, Int.reduceAdd, Int.reduceSub, Nat.reduceMul, Nat.reduceEqDiff, gW_un, gcF_un, gcA_un, ci_mkmap, ci_mapset, ci_lookup, ci_maxl, ci_appz, pi_lookup, pi_maxl, pu_lookup, pu_maxl, maxl_nil, maxl_one, maxl_cons, cells_mapr, stor_mapr, callv_yld, mm_max, mm_min, putAll_cons, putAll_nil, asgK_normal, roundK_normal, roundK_ret, roundK_exit, part_cell, part_agg, *]
    | (refine seqK_now ?_)
    | (refine retK_now ?_)
    | (refine retK_now' ?_)
    | (intro q hq)
    | (refine cond_intro (fun hc => ?_) (fun hc => ?_)))
  refine hck.use ?_
  (repeat' first
    | simp (contextual := true) (maxSteps := 4000000) only [fwc, fwe, cmd_seq, opsW_gpure, drawW_pure, drawW_gpure, Env.upd_apply, Heap.upd_same, Heap.upd_apply, ite_none, List.getD_cons_zero, List.getD_cons_succ, List.getD_nil, List.length_cons, List.length_nil, List.map_cons, List.map_nil, List.getElem?_cons_zero, List.getElem?_cons_succ, List.getElem?_nil, List.set_cons_zero, List.set_cons_succ, List.take_succ_cons, List.take_zero, List.drop_succ_cons, List.drop_zero, List.nil_append, List.cons_append, List.append_nil, Option.map_some, Option.map_none, Option.bind_some, Option.bind_none, reduceIte, ↓reduceIte, decide_true, decide_false, Bool.true_and, Bool.and_true, Bool.false_and, Bool.and_false, true_and, and_true, and_self, Nat.reduceAdd, Nat.reduceLeDiff, Nat.reduceEqDiff, Nat.zero_add, Nat.add_zero, Nat.le_refl, Nat.zero_le, ge_iff_le, Nat.reduceLT, Nat.zero_lt_succ, Nat.reduceSub, if_true, if_false, forall_const, reduceCtorEq, Bool.not_true, Bool.not_false, Bool.false_eq_true, Int.reduceEq, Int.reduceLT, Int.reduceLE, Int.reduceNeg, Int.reduceToNat, Int.reduceAdd, Int.reduceSub, Nat.reduceMul, Nat.reduceEqDiff, gW_un, gcF_un, gcA_un, ci_mkmap, ci_mapset, ci_lookup, ci_maxl, ci_appz, pi_lookup, pi_maxl, pu_lookup, pu_maxl, maxl_nil, maxl_one, maxl_cons, cells_mapr, stor_mapr, callv_yld, mm_max, mm_min, putAll_cons, putAll_nil, asgK_normal, roundK_normal, roundK_ret, roundK_exit, part_cell, part_agg, *]
    | (refine seqK_now ?_)
    | (refine retK_now ?_)
    | (refine retK_now' ?_)
    | (intro q hq)
    | (refine cond_intro (fun hc => ?_) (fun hc => ?_)))
  refine WeakR.pure (by repeat (first | exact Heap.sub_refl _ | refine sub_upd (by simp only [*]) ?_)) ?_
  rfl
theorem Meets_err {f b : AV} {es fs : List AV} {F B : List (List Id)} (h : Two f b es fs F B) (he : checkL F B ≠ 0) (rack d p : Int) : PureA Try.prog 12 [.agg [f, b], .val (.int .i64 rack), .val (.int .u8 d), .val (.int .i64 p)] (.tup [.val (.slice none 0 0), .val (.int .i64 (checkL F B))]) := by
  intro O
  have hck := movable_err h he rack d
  have c1 := h.f.1.cells
  have c2 := h.b.1.cells
  have s1 := h.f.1.stor
  have s2 := h.b.1.stor
  generalize checkL F B = e at hck he ⊢
  have dd : decide (e = 0) = false := decide_eq_false he
  clear he
  refine k12.call mix ?_
  unfold c12
  refine seq_go ?_
  (repeat' first
    | simp (contextual := true) (maxSteps := 4000000) only [fwc, fwe, opsW_gpure, drawW_pure, drawW_gpure, Env.upd_apply, Heap.upd_same, Heap.upd_apply, ite_none, List.getD_cons_zero, List.getD_cons_succ, List.getD_nil, List.length_cons, List.length_nil, List.map_cons, List.map_nil, List.getElem?_cons_zero, List.getElem?_cons_succ, List.getElem?_nil, List.set_cons_zero, List.set_cons_succ, List.take_succ_cons, List.take_zero, List.drop_succ_cons, List.drop_zero, List.nil_append, List.cons_append, List.append_nil, Option.map_some, Option.map_none, Option.bind_some, Option.bind_none, reduceIte, ↓reduceIte, decide_true, decide_false, Bool.true_and, Bool.and_true, Bool.false_and, Bool.and_false, true_and, and_true, and_self, Nat.reduceAdd, Nat.reduceLeDiff, Nat.reduceEqDiff, Nat.zero_add, Nat.add_zero, Nat.le_refl, Nat.zero_le, ge_iff_le, Nat.reduceLT, Nat.zero_lt_succ, Nat.reduceSub, if_true, if_false, forall_const, reduceCtorEq, Bool.not_true, Bool.not_false, Bool.false_eq_true, Int.reduceEq, Int.reduceLT, Int.reduceLE, Int.reduceNeg, Int.reduceToNat, Int.reduceAdd, Int.reduceSub, Nat.reduceMul, Nat.reduceEqDiff, gW_un, gcF_un, gcA_un, ci_mkmap, ci_mapset, ci_lookup, ci_maxl, ci_appz, pi_lookup, pi_maxl, pu_lookup, pu_maxl, maxl_nil, maxl_one, maxl_cons, cells_mapr, stor_mapr, callv_yld, mm_max, mm_min, putAll_cons, putAll_nil, asgK_normal, roundK_normal, roundK_ret, roundK_exit, part_cell, part_agg, *]
    | (refine retK_now ?_)
    | (refine retK_now' ?_)
    | (intro q hq)
    | (refine cond_intro (fun hc => ?_) (fun hc => ?_)))
  refine seqK_now ?_
  refine seq_go ?_
  (repeat' first
    | simp (contextual := true) (maxSteps := 4000000) only [fwc, fwe, cmd_seq, opsW_gpure, drawW_pure, drawW_gpure, Env.upd_apply, Heap.upd_same, Heap.upd_apply, ite_none, List.getD_cons_zero, List.getD_cons_succ, List.getD_nil, List.length_cons, List.length_nil, List.map_cons, List.map_nil, List.getElem?_cons_zero, List.getElem?_cons_succ, List.getElem?_nil, List.set_cons_zero, List.set_cons_succ, List.take_succ_cons, List.take_zero, List.drop_succ_cons, List.drop_zero, List.nil_append, List.cons_append, List.append_nil, Option.map_some, Option.map_none, Option.bind_some, Option.bind_none, reduceIte, ↓reduceIte, decide_true, decide_false, Bool.true_and, Bool.and_true, Bool.false_and, Bool.and_false, true_and, and_true, and_self, Nat.reduceAdd, Nat.reduceLeDiff, Nat.reduceEqDiff, Nat.zero_add, Nat.add_zero, Nat.le_refl, Nat.zero_le, ge_iff_le, Nat.reduceLT, Nat.zero_lt_succ, Nat.reduceSub, if_true, if_false, forall_const, reduceCtorEq, Bool.not_true, Bool.not_false, Bool.false_eq_true, Int.reduceEq, Int.reduceLT, Int.reduceLE, Int.reduceNeg, Int.reduceToNat, Int.reduceAdd, Int.reduceSub, Nat.reduceMul, Nat.reduceEqDiff, gW_un, gcF_un, gcA_un, ci_mkmap, ci_mapset, ci_lookup, ci_maxl, ci_appz, pi_lookup, pi_maxl, pu_lookup, pu_maxl, maxl_nil, maxl_one, maxl_cons, cells_mapr, stor_mapr, callv_yld, mm_max, mm_min, putAll_cons, putAll_nil, asgK_normal, roundK_normal, roundK_ret, roundK_exit, part_cell, part_agg, *]
    | (refine seqK_now ?_)
    | (refine retK_now ?_)
    | (refine retK_now' ?_)
    | (intro q hq)
    | (refine cond_intro (fun hc => ?_) (fun hc => ?_)))
  refine hck.use ?_
  (repeat' first
    | simp (contextual := true) (maxSteps := 4000000) only [fwc, fwe, cmd_seq, opsW_gpure, drawW_pure, drawW_gpure, Env.upd_apply, Heap.upd_same, Heap.upd_apply, ite_none, List.getD_cons_zero, List.getD_cons_succ, List.getD_nil, List.length_cons, List.length_nil, List.map_cons, List.map_nil, List.getElem?_cons_zero, List.getElem?_cons_succ, List.getElem?_nil, List.set_cons_zero, List.set_cons_succ, List.take_succ_cons, List.take_zero, List.drop_succ_cons, List.drop_zero, List.nil_append, List.cons_append, List.append_nil, Option.map_some, Option.map_none, Option.bind_some, Option.bind_none, reduceIte, ↓reduceIte, decide_true, decide_false, Bool.true_and, Bool.and_true, Bool.false_and, Bool.and_false, true_and, and_true, and_self, Nat.reduceAdd, Nat.reduceLeDiff, Nat.reduceEqDiff, Nat.zero_add, Nat.add_zero, Nat.le_refl, Nat.zero_le, ge_iff_le, Nat.reduceLT, Nat.zero_lt_succ, Nat.reduceSub, if_true, if_false, forall_const, reduceCtorEq, Bool.not_true, Bool.not_false, Bool.false_eq_true, Int.reduceEq, Int.reduceLT, Int.reduceLE, Int.reduceNeg, Int.reduceToNat, Int.reduceAdd, Int.reduceSub, Nat.reduceMul, Nat.reduceEqDiff, gW_un, gcF_un, gcA_un, ci_mkmap, ci_mapset, ci_lookup, ci_maxl, ci_appz, pi_lookup, pi_maxl, pu_lookup, pu_maxl, maxl_nil, maxl_one, maxl_cons, cells_mapr, stor_mapr, callv_yld, mm_max, mm_min, putAll_cons, putAll_nil, asgK_normal, roundK_normal, roundK_ret, roundK_exit, part_cell, part_agg, *]
    | (refine seqK_now ?_)
    | (refine retK_now ?_)
    | (refine retK_now' ?_)
    | (intro q hq)
    | (refine cond_intro (fun hc => ?_) (fun hc => ?_)))
  refine WeakR.pure (by repeat (first | exact Heap.sub_refl _ | refine sub_upd (by simp only [*]) ?_)) ?_
  rfl

def env5 (k q : Nat) (rack : Int) (i : Nat) : Env := ((Env.upd (fun _ => .junk) k (.val (.int .i64 i))).upd 2 (.optr q 2 0 0)).upd 1 (.val (.int .i64 rack))

set_option maxHeartbeats 4000000 in
theorem OrdersErrors_ok {f b : AV} {es fs : List AV} {F B : List (List Id)} (h : Two f b es fs F B) (rack : Int) (hF : F.length ≤ 9223372036854775807) (hB : B.length ≤ 9223372036854775807) : PureA Try.prog 5 [.agg [f, b], .val (.int .i64 rack)] (.val (.bool true)) := by
  intro O
  have hck := Check_ok f b es fs F B h.f h.b
  have c1 := h.f.1.cells
  have c2 := h.b.1.cells
  have s1 := h.f.1.stor
  have s2 := h.b.1.stor
  have l1 := h.f.1.len
  have l2 := h.b.1.len
  rw [h.f.2.1] at l1
  rw [h.b.2.1] at l2
  have d0 : decide ((45 : Int) < (F.length : Int)) = decide (45 < F.length) := decide_eq_decide.2 (by omega)
  have d0' : decide ((45 : Int) < (B.length : Int)) = decide (45 < B.length) := decide_eq_decide.2 (by omega)
  refine k5.call mix ?_
  unfold c5
  refine seq_go ?_
  (repeat' first
    | simp (contextual := true) (maxSteps := 4000000) only [fwc, fwe, opsW_gpure, drawW_pure, drawW_gpure, Env.upd_apply, Heap.upd_same, Heap.upd_apply, ite_none, List.getD_cons_zero, List.getD_cons_succ, List.getD_nil, List.length_cons, List.length_nil, List.map_cons, List.map_nil, List.getElem?_cons_zero, List.getElem?_cons_succ, List.getElem?_nil, List.set_cons_zero, List.set_cons_succ, List.take_succ_cons, List.take_zero, List.drop_succ_cons, List.drop_zero, List.nil_append, List.cons_append, List.append_nil, Option.map_some, Option.map_none, Option.bind_some, Option.bind_none, reduceIte, ↓reduceIte, decide_true, decide_false, Bool.true_and, Bool.and_true, Bool.false_and, Bool.and_false, true_and, and_true, and_self, Nat.reduceAdd, Nat.reduceLeDiff, Nat.reduceEqDiff, Nat.zero_add, Nat.add_zero, Nat.le_refl, Nat.zero_le, ge_iff_le, Nat.reduceLT, Nat.zero_lt_succ, Nat.reduceSub, if_true, if_false, forall_const, reduceCtorEq, Bool.not_true, Bool.not_false, Bool.false_eq_true, Int.reduceEq, Int.reduceLT, Int.reduceLE, Int.reduceNeg, Int.reduceToNat, Int.reduceAdd, Int.reduceSub, Nat.reduceMul, Nat.reduceEqDiff, gW_un, gcF_un, gcA_un, ci_mkmap, ci_mapset, ci_lookup, ci_maxl, ci_appz, pi_lookup, pi_maxl, pu_lookup, pu_maxl, maxl_nil, maxl_one, maxl_cons, cells_mapr, stor_mapr, callv_yld, mm_max, mm_min, putAll_cons, putAll_nil, asgK_normal, roundK_normal, roundK_ret, roundK_exit, part_cell, part_agg, *]
    | (refine retK_now ?_)
    | (refine retK_now' ?_)
    | (intro q hq)
    | (refine cond_intro (fun hc => ?_) (fun hc => ?_)))
  revert q
  intro q hq
  refine seqK_now ?_
  refine seq_go ?_
  refine seq_go ?_
  (repeat' first
    | simp (contextual := true) (maxSteps := 4000000) only [fwc, fwe, opsW_gpure, drawW_pure, drawW_gpure, Env.upd_apply, Heap.upd_same, Heap.upd_apply, ite_none, List.getD_cons_zero, List.getD_cons_succ, List.getD_nil, List.length_cons, List.length_nil, List.map_cons, List.map_nil, List.getElem?_cons_zero, List.getElem?_cons_succ, List.getElem?_nil, List.set_cons_zero, List.set_cons_succ, List.take_succ_cons, List.take_zero, List.drop_succ_cons, List.drop_zero, List.nil_append, List.cons_append, List.append_nil, Option.map_some, Option.map_none, Option.bind_some, Option.bind_none, reduceIte, ↓reduceIte, decide_true, decide_false, Bool.true_and, Bool.and_true, Bool.false_and, Bool.and_false, true_and, and_true, and_self, Nat.reduceAdd, Nat.reduceLeDiff, Nat.reduceEqDiff, Nat.zero_add, Nat.add_zero, Nat.le_refl, Nat.zero_le, ge_iff_le, Nat.reduceLT, Nat.zero_lt_succ, Nat.reduceSub, if_true, if_false, forall_const, reduceCtorEq, Bool.not_true, Bool.not_false, Bool.false_eq_true, Int.reduceEq, Int.reduceLT, Int.reduceLE, Int.reduceNeg, Int.reduceToNat, Int.reduceAdd, Int.reduceSub, Nat.reduceMul, Nat.reduceEqDiff, gW_un, gcF_un, gcA_un, ci_mkmap, ci_mapset, ci_lookup, ci_maxl, ci_appz, pi_lookup, pi_maxl, pu_lookup, pu_maxl, maxl_nil, maxl_one, maxl_cons, cells_mapr, stor_mapr, callv_yld, mm_max, mm_min, putAll_cons, putAll_nil, asgK_normal, roundK_normal, roundK_ret, roundK_exit, part_cell, part_agg, *]
    | (refine retK_now ?_)
    | (refine retK_now' ?_)
    | (intro q hq)
    | (refine cond_intro (fun hc => ?_) (fun hc => ?_)))
  refine seqK_now ?_
  have hl : ∀ H : Heap, O.sub H → ∀ K : AV → Heap → Prop, K (.val (.bool true)) H → CallA Try.prog 10 [] H K := fun H _ K hK => lives4_ok.use hK
  by_cases h45 : (45 < F.length) ∨ (45 < B.length)
  · have d1 : (decide (45 < F.length) || decide (45 < B.length)) = true := by simpa using h45
    replace h45 := (show Aside _ from h45)
    (repeat' first
    | simp (contextual := true) (maxSteps := 4000000) only [fwc, fwe, cmd_seq, opsW_gpure, drawW_pure, drawW_gpure, Env.upd_apply, Heap.upd_same, Heap.upd_apply, ite_none, List.getD_cons_zero, List.getD_cons_succ, List.getD_nil, List.length_cons, List.length_nil, List.map_cons, List.map_nil, List.getElem?_cons_zero, List.getElem?_cons_succ, List.getElem?_nil, List.set_cons_zero, List.set_cons_succ, List.take_succ_cons, List.take_zero, List.drop_succ_cons, List.drop_zero, List.nil_append, List.cons_append, List.append_nil, Option.map_some, Option.map_none, Option.bind_some, Option.bind_none, reduceIte, ↓reduceIte, decide_true, decide_false, Bool.true_and, Bool.and_true, Bool.false_and, Bool.and_false, true_and, and_true, and_self, Nat.reduceAdd, Nat.reduceLeDiff, Nat.reduceEqDiff, Nat.zero_add, Nat.add_zero, Nat.le_refl, Nat.zero_le, ge_iff_le, Nat.reduceLT, Nat.zero_lt_succ, Nat.reduceSub, if_true, if_false, forall_const, reduceCtorEq, Bool.not_true, Bool.not_false, Bool.false_eq_true, Int.reduceEq, Int.reduceLT, Int.reduceLE, Int.reduceNeg, Int.reduceToNat, Int.reduceAdd, Int.reduceSub, Nat.reduceMul, Nat.reduceEqDiff, gW_un, gcF_un, gcA_un, ci_mkmap, ci_mapset, ci_lookup, ci_maxl, ci_appz, pi_lookup, pi_maxl, pu_lookup, pu_maxl, maxl_nil, maxl_one, maxl_cons, cells_mapr, stor_mapr, callv_yld, mm_max, mm_min, putAll_cons, putAll_nil, asgK_normal, roundK_normal, roundK_ret, roundK_exit, part_cell, part_agg, *]
    | (refine seqK_now ?_)
    | (refine retK_now ?_)
    | (refine retK_now' ?_)
    | (intro q hq)
    | (refine cond_intro (fun hc => ?_) (fun hc => ?_)))
    refine lives4_ok.use ?_
    (repeat' first
    | simp (contextual := true) (maxSteps := 4000000) only [fwc, fwe, cmd_seq, opsW_gpure, drawW_pure, drawW_gpure, Env.upd_apply, Heap.upd_same, Heap.upd_apply, ite_none, List.getD_cons_zero, List.getD_cons_succ, List.getD_nil, List.length_cons, List.length_nil, List.map_cons, List.map_nil, List.getElem?_cons_zero, List.getElem?_cons_succ, List.getElem?_nil, List.set_cons_zero, List.set_cons_succ, List.take_succ_cons, List.take_zero, List.drop_succ_cons, List.drop_zero, List.nil_append, List.cons_append, List.append_nil, Option.map_some, Option.map_none, Option.bind_some, Option.bind_none, reduceIte, ↓reduceIte, decide_true, decide_false, Bool.true_and, Bool.and_true, Bool.false_and, Bool.and_false, true_and, and_true, and_self, Nat.reduceAdd, Nat.reduceLeDiff, Nat.reduceEqDiff, Nat.zero_add, Nat.add_zero, Nat.le_refl, Nat.zero_le, ge_iff_le, Nat.reduceLT, Nat.zero_lt_succ, Nat.reduceSub, if_true, if_false, forall_const, reduceCtorEq, Bool.not_true, Bool.not_false, Bool.false_eq_true, Int.reduceEq, Int.reduceLT, Int.reduceLE, Int.reduceNeg, Int.reduceToNat, Int.reduceAdd, Int.reduceSub, Nat.reduceMul, Nat.reduceEqDiff, gW_un, gcF_un, gcA_un, ci_mkmap, ci_mapset, ci_lookup, ci_maxl, ci_appz, pi_lookup, pi_maxl, pu_lookup, pu_maxl, maxl_nil, maxl_one, maxl_cons, cells_mapr, stor_mapr, callv_yld, mm_max, mm_min, putAll_cons, putAll_nil, asgK_normal, roundK_normal, roundK_ret, roundK_exit, part_cell, part_agg, *]
    | (refine seqK_now ?_)
    | (refine retK_now ?_)
    | (refine retK_now' ?_)
    | (intro q hq)
    | (refine cond_intro (fun hc => ?_) (fun hc => ?_)))
    refine WeakR.pure (by repeat (first | exact Heap.sub_refl _ | refine sub_upd (by simp only [*]) ?_)) ?_
    rfl
  · have d1 : (decide (45 < F.length) || decide (45 < B.length)) = false := by simpa using h45
    obtain ⟨hF45, hB45⟩ : F.length ≤ 45 ∧ B.length ≤ 45 := by omega
    replace h45 := (show Aside _ from h45)
    clear d0 d0'
    (repeat' first
    | simp (contextual := true) (maxSteps := 4000000) only [fwc, fwe, opsW_gpure, drawW_pure, drawW_gpure, Env.upd_apply, Heap.upd_same, Heap.upd_apply, ite_none, List.getD_cons_zero, List.getD_cons_succ, List.getD_nil, List.length_cons, List.length_nil, List.map_cons, List.map_nil, List.getElem?_cons_zero, List.getElem?_cons_succ, List.getElem?_nil, List.set_cons_zero, List.set_cons_succ, List.take_succ_cons, List.take_zero, List.drop_succ_cons, List.drop_zero, List.nil_append, List.cons_append, List.append_nil, Option.map_some, Option.map_none, Option.bind_some, Option.bind_none, reduceIte, ↓reduceIte, decide_true, decide_false, Bool.true_and, Bool.and_true, Bool.false_and, Bool.and_false, true_and, and_true, and_self, Nat.reduceAdd, Nat.reduceLeDiff, Nat.reduceEqDiff, Nat.zero_add, Nat.add_zero, Nat.le_refl, Nat.zero_le, ge_iff_le, Nat.reduceLT, Nat.zero_lt_succ, Nat.reduceSub, if_true, if_false, forall_const, reduceCtorEq, Bool.not_true, Bool.not_false, Bool.false_eq_true, Int.reduceEq, Int.reduceLT, Int.reduceLE, Int.reduceNeg, Int.reduceToNat, Int.reduceAdd, Int.reduceSub, Nat.reduceMul, Nat.reduceEqDiff, gW_un, gcF_un, gcA_un, ci_mkmap, ci_mapset, ci_lookup, ci_maxl, ci_appz, pi_lookup, pi_maxl, pu_lookup, pu_maxl, maxl_nil, maxl_one, maxl_cons, cells_mapr, stor_mapr, callv_yld, mm_max, mm_min, putAll_cons, putAll_nil, asgK_normal, roundK_normal, roundK_ret, roundK_exit, part_cell, part_agg, *]
    | (refine retK_now ?_)
    | (refine retK_now' ?_)
    | (intro q hq)
    | (refine cond_intro (fun hc => ?_) (fun hc => ?_)))
    refine seqK_now ?_
    refine seq_go ?_
    refine seq_go ?_
    (repeat' first
    | simp (contextual := true) (maxSteps := 4000000) only [fwc, fwe, opsW_gpure, drawW_pure, drawW_gpure, Env.upd_apply, Heap.upd_same, Heap.upd_apply, ite_none, List.getD_cons_zero, List.getD_cons_succ, List.getD_nil, List.length_cons, List.length_nil, List.map_cons, List.map_nil, List.getElem?_cons_zero, List.getElem?_cons_succ, List.getElem?_nil, List.set_cons_zero, List.set_cons_succ, List.take_succ_cons, List.take_zero, List.drop_succ_cons, List.drop_zero, List.nil_append, List.cons_append, List.append_nil, Option.map_some, Option.map_none, Option.bind_some, Option.bind_none, reduceIte, ↓reduceIte, decide_true, decide_false, Bool.true_and, Bool.and_true, Bool.false_and, Bool.and_false, true_and, and_true, and_self, Nat.reduceAdd, Nat.reduceLeDiff, Nat.reduceEqDiff, Nat.zero_add, Nat.add_zero, Nat.le_refl, Nat.zero_le, ge_iff_le, Nat.reduceLT, Nat.zero_lt_succ, Nat.reduceSub, if_true, if_false, forall_const, reduceCtorEq, Bool.not_true, Bool.not_false, Bool.false_eq_true, Int.reduceEq, Int.reduceLT, Int.reduceLE, Int.reduceNeg, Int.reduceToNat, Int.reduceAdd, Int.reduceSub, Nat.reduceMul, Nat.reduceEqDiff, gW_un, gcF_un, gcA_un, ci_mkmap, ci_mapset, ci_lookup, ci_maxl, ci_appz, pi_lookup, pi_maxl, pu_lookup, pu_maxl, maxl_nil, maxl_one, maxl_cons, cells_mapr, stor_mapr, callv_yld, mm_max, mm_min, putAll_cons, putAll_nil, asgK_normal, roundK_normal, roundK_ret, roundK_exit, part_cell, part_agg, *]
    | (refine retK_now ?_)
    | (refine retK_now' ?_)
    | (intro q hq)
    | (refine cond_intro (fun hc => ?_) (fun hc => ?_)))
    refine seqK_now ?_
    (repeat' first
    | simp (contextual := true) (maxSteps := 4000000) only [fwc, fwe, opsW_gpure, drawW_pure, drawW_gpure, Env.upd_apply, Heap.upd_same, Heap.upd_apply, ite_none, List.getD_cons_zero, List.getD_cons_succ, List.getD_nil, List.length_cons, List.length_nil, List.map_cons, List.map_nil, List.getElem?_cons_zero, List.getElem?_cons_succ, List.getElem?_nil, List.set_cons_zero, List.set_cons_succ, List.take_succ_cons, List.take_zero, List.drop_succ_cons, List.drop_zero, List.nil_append, List.cons_append, List.append_nil, Option.map_some, Option.map_none, Option.bind_some, Option.bind_none, reduceIte, ↓reduceIte, decide_true, decide_false, Bool.true_and, Bool.and_true, Bool.false_and, Bool.and_false, true_and, and_true, and_self, Nat.reduceAdd, Nat.reduceLeDiff, Nat.reduceEqDiff, Nat.zero_add, Nat.add_zero, Nat.le_refl, Nat.zero_le, ge_iff_le, Nat.reduceLT, Nat.zero_lt_succ, Nat.reduceSub, if_true, if_false, forall_const, reduceCtorEq, Bool.not_true, Bool.not_false, Bool.false_eq_true, Int.reduceEq, Int.reduceLT, Int.reduceLE, Int.reduceNeg, Int.reduceToNat, Int.reduceAdd, Int.reduceSub, Nat.reduceMul, Nat.reduceEqDiff, gW_un, gcF_un, gcA_un, ci_mkmap, ci_mapset, ci_lookup, ci_maxl, ci_appz, pi_lookup, pi_maxl, pu_lookup, pu_maxl, maxl_nil, maxl_one, maxl_cons, cells_mapr, stor_mapr, callv_yld, mm_max, mm_min, putAll_cons, putAll_nil, asgK_normal, roundK_normal, roundK_ret, roundK_exit, part_cell, part_agg, *]
    | (refine retK_now ?_)
    | (refine retK_now' ?_)
    | (intro q hq)
    | (refine cond_intro (fun hc => ?_) (fun hc => ?_)))
    obtain ⟨I5, hI5⟩ := hideI (fun m e O' => ∃ i : Nat, i ≤ F.length ∧ m = F.length - i ∧ O' = O.upd q (.arr 26 2 [.agg [f, b]]) ∧ e = env5 5 q rack i)
    refine cmd_loop I5 F.length (by
      rw [hI5.out]
      exact ⟨0, by omega, rfl, rfl, rfl⟩) ?_
    intro m e O' hh
    rw [hI5.out] at hh
    obtain ⟨i, hi2, rfl, rfl, rfl⟩ := hh
    unfold env5
    by_cases hi : i < F.length
    · have e1 : decide (i < F.length) = true := decide_eq_true hi
      have hie : i < es.length := by rw [h.f.2.1]; exact hi
      have hia := h.f.1.ia (i := i) hie
      have hx := h.f.2.2 i hie hi
      have hx1 := hx.cells
      have hx2 := hx.len
      rw [List.length_map] at hx2
      generalize es[i] = x at *
      generalize F[i].length = n at *
      have dn : decide ((6 : Int) < (n : Int)) = decide (6 < n) := decide_eq_decide.2 (by omega)
      have hwi : i < 4611686018427387904 := by omega
      clear hx
      by_cases hn : 6 < n
      · have e2 : decide (6 < n) = true := decide_eq_true hn
        replace hn := (show Aside _ from hn)
        (repeat' first
    | simp (contextual := true) (maxSteps := 4000000) only [fwc, fwe, cmd_seq, opsW_gpure, drawW_pure, drawW_gpure, Env.upd_apply, Heap.upd_same, Heap.upd_apply, ite_none, List.getD_cons_zero, List.getD_cons_succ, List.getD_nil, List.length_cons, List.length_nil, List.map_cons, List.map_nil, List.getElem?_cons_zero, List.getElem?_cons_succ, List.getElem?_nil, List.set_cons_zero, List.set_cons_succ, List.take_succ_cons, List.take_zero, List.drop_succ_cons, List.drop_zero, List.nil_append, List.cons_append, List.append_nil, Option.map_some, Option.map_none, Option.bind_some, Option.bind_none, reduceIte, ↓reduceIte, decide_true, decide_false, Bool.true_and, Bool.and_true, Bool.false_and, Bool.and_false, true_and, and_true, and_self, Nat.reduceAdd, Nat.reduceLeDiff, Nat.reduceEqDiff, Nat.zero_add, Nat.add_zero, Nat.le_refl, Nat.zero_le, ge_iff_le, Nat.reduceLT, Nat.zero_lt_succ, Nat.reduceSub, if_true, if_false, forall_const, reduceCtorEq, Bool.not_true, Bool.not_false, Bool.false_eq_true, Int.reduceEq, Int.reduceLT, Int.reduceLE, Int.reduceNeg, Int.reduceToNat, Int.reduceAdd, Int.reduceSub, Nat.reduceMul, Nat.reduceEqDiff, gW_un, gcF_un, gcA_un, ci_mkmap, ci_mapset, ci_lookup, ci_maxl, ci_appz, pi_lookup, pi_maxl, pu_lookup, pu_maxl, maxl_nil, maxl_one, maxl_cons, cells_mapr, stor_mapr, callv_yld, mm_max, mm_min, putAll_cons, putAll_nil, asgK_normal, roundK_normal, roundK_ret, roundK_exit, ilt_nat, part_cell, part_agg, wrap_succ, *]
    | (refine seqK_now ?_)
    | (refine retK_now ?_)
    | (refine retK_now' ?_)
    | (intro q hq)
    | (refine cond_intro (fun hc => ?_) (fun hc => ?_)))
        refine lives4_ok.use ?_
        (repeat' first
    | simp (contextual := true) (maxSteps := 4000000) only [fwc, fwe, cmd_seq, opsW_gpure, drawW_pure, drawW_gpure, Env.upd_apply, Heap.upd_same, Heap.upd_apply, ite_none, List.getD_cons_zero, List.getD_cons_succ, List.getD_nil, List.length_cons, List.length_nil, List.map_cons, List.map_nil, List.getElem?_cons_zero, List.getElem?_cons_succ, List.getElem?_nil, List.set_cons_zero, List.set_cons_succ, List.take_succ_cons, List.take_zero, List.drop_succ_cons, List.drop_zero, List.nil_append, List.cons_append, List.append_nil, Option.map_some, Option.map_none, Option.bind_some, Option.bind_none, reduceIte, ↓reduceIte, decide_true, decide_false, Bool.true_and, Bool.and_true, Bool.false_and, Bool.and_false, true_and, and_true, and_self, Nat.reduceAdd, Nat.reduceLeDiff, Nat.reduceEqDiff, Nat.zero_add, Nat.add_zero, Nat.le_refl, Nat.zero_le, ge_iff_le, Nat.reduceLT, Nat.zero_lt_succ, Nat.reduceSub, if_true, if_false, forall_const, reduceCtorEq, Bool.not_true, Bool.not_false, Bool.false_eq_true, Int.reduceEq, Int.reduceLT, Int.reduceLE, Int.reduceNeg, Int.reduceToNat, Int.reduceAdd, Int.reduceSub, Nat.reduceMul, Nat.reduceEqDiff, gW_un, gcF_un, gcA_un, ci_mkmap, ci_mapset, ci_lookup, ci_maxl, ci_appz, pi_lookup, pi_maxl, pu_lookup, pu_maxl, maxl_nil, maxl_one, maxl_cons, cells_mapr, stor_mapr, callv_yld, mm_max, mm_min, putAll_cons, putAll_nil, asgK_normal, roundK_normal, roundK_ret, roundK_exit, ilt_nat, part_cell, part_agg, wrap_succ, *]
    | (refine seqK_now ?_)
    | (refine retK_now ?_)
    | (refine retK_now' ?_)
    | (intro q hq)
    | (refine cond_intro (fun hc => ?_) (fun hc => ?_)))
        refine WeakR.pure (by repeat (first | exact Heap.sub_refl _ | refine sub_upd (by simp only [*]) ?_)) ?_
        rfl
      · have e2 : decide (6 < n) = false := decide_eq_false hn
        replace hn := (show Aside _ from hn)
        (repeat' first
    | simp (contextual := true) (maxSteps := 4000000) only [fwc, fwe, cmd_seq, opsW_gpure, drawW_pure, drawW_gpure, Env.upd_apply, Heap.upd_same, Heap.upd_apply, ite_none, List.getD_cons_zero, List.getD_cons_succ, List.getD_nil, List.length_cons, List.length_nil, List.map_cons, List.map_nil, List.getElem?_cons_zero, List.getElem?_cons_succ, List.getElem?_nil, List.set_cons_zero, List.set_cons_succ, List.take_succ_cons, List.take_zero, List.drop_succ_cons, List.drop_zero, List.nil_append, List.cons_append, List.append_nil, Option.map_some, Option.map_none, Option.bind_some, Option.bind_none, reduceIte, ↓reduceIte, decide_true, decide_false, Bool.true_and, Bool.and_true, Bool.false_and, Bool.and_false, true_and, and_true, and_self, Nat.reduceAdd, Nat.reduceLeDiff, Nat.reduceEqDiff, Nat.zero_add, Nat.add_zero, Nat.le_refl, Nat.zero_le, ge_iff_le, Nat.reduceLT, Nat.zero_lt_succ, Nat.reduceSub, if_true, if_false, forall_const, reduceCtorEq, Bool.not_true, Bool.not_false, Bool.false_eq_true, Int.reduceEq, Int.reduceLT, Int.reduceLE, Int.reduceNeg, Int.reduceToNat, Int.reduceAdd, Int.reduceSub, Nat.reduceMul, Nat.reduceEqDiff, gW_un, gcF_un, gcA_un, ci_mkmap, ci_mapset, ci_lookup, ci_maxl, ci_appz, pi_lookup, pi_maxl, pu_lookup, pu_maxl, maxl_nil, maxl_one, maxl_cons, cells_mapr, stor_mapr, callv_yld, mm_max, mm_min, putAll_cons, putAll_nil, asgK_normal, roundK_normal, roundK_ret, roundK_exit, ilt_nat, part_cell, part_agg, wrap_succ, *]
    | (refine seqK_now ?_)
    | (refine retK_now ?_)
    | (refine retK_now' ?_)
    | (intro q hq)
    | (refine cond_intro (fun hc => ?_) (fun hc => ?_)))
        refine loopK_now (F.length - (i + 1)) (by omega) ?_
        rw [hI5.out]
        exact ⟨i + 1, by omega, rfl, rfl, rfl⟩
    · have e1 : decide (i < F.length) = false := decide_eq_false hi
      replace hi := (show Aside _ from hi)
      refine seq_go ?_
      refine seq_go ?_
      (repeat' first
    | simp (contextual := true) (maxSteps := 4000000) only [fwc, fwe, opsW_gpure, drawW_pure, drawW_gpure, Env.upd_apply, Heap.upd_same, Heap.upd_apply, ite_none, List.getD_cons_zero, List.getD_cons_succ, List.getD_nil, List.length_cons, List.length_nil, List.map_cons, List.map_nil, List.getElem?_cons_zero, List.getElem?_cons_succ, List.getElem?_nil, List.set_cons_zero, List.set_cons_succ, List.take_succ_cons, List.take_zero, List.drop_succ_cons, List.drop_zero, List.nil_append, List.cons_append, List.append_nil, Option.map_some, Option.map_none, Option.bind_some, Option.bind_none, reduceIte, ↓reduceIte, decide_true, decide_false, Bool.true_and, Bool.and_true, Bool.false_and, Bool.and_false, true_and, and_true, and_self, Nat.reduceAdd, Nat.reduceLeDiff, Nat.reduceEqDiff, Nat.zero_add, Nat.add_zero, Nat.le_refl, Nat.zero_le, ge_iff_le, Nat.reduceLT, Nat.zero_lt_succ, Nat.reduceSub, if_true, if_false, forall_const, reduceCtorEq, Bool.not_true, Bool.not_false, Bool.false_eq_true, Int.reduceEq, Int.reduceLT, Int.reduceLE, Int.reduceNeg, Int.reduceToNat, Int.reduceAdd, Int.reduceSub, Nat.reduceMul, Nat.reduceEqDiff, gW_un, gcF_un, gcA_un, ci_mkmap, ci_mapset, ci_lookup, ci_maxl, ci_appz, pi_lookup, pi_maxl, pu_lookup, pu_maxl, maxl_nil, maxl_one, maxl_cons, cells_mapr, stor_mapr, callv_yld, mm_max, mm_min, putAll_cons, putAll_nil, asgK_normal, roundK_normal, roundK_ret, roundK_exit, ilt_nat, part_cell, part_agg, *]
    | (refine retK_now ?_)
    | (refine retK_now' ?_)
    | (intro q hq)
    | (refine cond_intro (fun hc => ?_) (fun hc => ?_)))
      refine seqK_now ?_
      (repeat' first
    | simp (contextual := true) (maxSteps := 4000000) only [fwc, fwe, opsW_gpure, drawW_pure, drawW_gpure, Env.upd_apply, Heap.upd_same, Heap.upd_apply, ite_none, List.getD_cons_zero, List.getD_cons_succ, List.getD_nil, List.length_cons, List.length_nil, List.map_cons, List.map_nil, List.getElem?_cons_zero, List.getElem?_cons_succ, List.getElem?_nil, List.set_cons_zero, List.set_cons_succ, List.take_succ_cons, List.take_zero, List.drop_succ_cons, List.drop_zero, List.nil_append, List.cons_append, List.append_nil, Option.map_some, Option.map_none, Option.bind_some, Option.bind_none, reduceIte, ↓reduceIte, decide_true, decide_false, Bool.true_and, Bool.and_true, Bool.false_and, Bool.and_false, true_and, and_true, and_self, Nat.reduceAdd, Nat.reduceLeDiff, Nat.reduceEqDiff, Nat.zero_add, Nat.add_zero, Nat.le_refl, Nat.zero_le, ge_iff_le, Nat.reduceLT, Nat.zero_lt_succ, Nat.reduceSub, if_true, if_false, forall_const, reduceCtorEq, Bool.not_true, Bool.not_false, Bool.false_eq_true, Int.reduceEq, Int.reduceLT, Int.reduceLE, Int.reduceNeg, Int.reduceToNat, Int.reduceAdd, Int.reduceSub, Nat.reduceMul, Nat.reduceEqDiff, gW_un, gcF_un, gcA_un, ci_mkmap, ci_mapset, ci_lookup, ci_maxl, ci_appz, pi_lookup, pi_maxl, pu_lookup, pu_maxl, maxl_nil, maxl_one, maxl_cons, cells_mapr, stor_mapr, callv_yld, mm_max, mm_min, putAll_cons, putAll_nil, asgK_normal, roundK_normal, roundK_ret, roundK_exit, ilt_nat, part_cell, part_agg, *]
    | (refine retK_now ?_)
    | (refine retK_now' ?_)
    | (intro q hq)
    | (refine cond_intro (fun hc => ?_) (fun hc => ?_)))
      refine seqK_now ?_
      refine seq_go ?_
      refine seq_go ?_
      (repeat' first
    | simp (contextual := true) (maxSteps := 4000000) only [fwc, fwe, opsW_gpure, drawW_pure, drawW_gpure, Env.upd_apply, Heap.upd_same, Heap.upd_apply, ite_none, List.getD_cons_zero, List.getD_cons_succ, List.getD_nil, List.length_cons, List.length_nil, List.map_cons, List.map_nil, List.getElem?_cons_zero, List.getElem?_cons_succ, List.getElem?_nil, List.set_cons_zero, List.set_cons_succ, List.take_succ_cons, List.take_zero, List.drop_succ_cons, List.drop_zero, List.nil_append, List.cons_append, List.append_nil, Option.map_some, Option.map_none, Option.bind_some, Option.bind_none, reduceIte, ↓reduceIte, decide_true, decide_false, Bool.true_and, Bool.and_true, Bool.false_and, Bool.and_false, true_and, and_true, and_self, Nat.reduceAdd, Nat.reduceLeDiff, Nat.reduceEqDiff, Nat.zero_add, Nat.add_zero, Nat.le_refl, Nat.zero_le, ge_iff_le, Nat.reduceLT, Nat.zero_lt_succ, Nat.reduceSub, if_true, if_false, forall_const, reduceCtorEq, Bool.not_true, Bool.not_false, Bool.false_eq_true, Int.reduceEq, Int.reduceLT, Int.reduceLE, Int.reduceNeg, Int.reduceToNat, Int.reduceAdd, Int.reduceSub, Nat.reduceMul, Nat.reduceEqDiff, gW_un, gcF_un, gcA_un, ci_mkmap, ci_mapset, ci_lookup, ci_maxl, ci_appz, pi_lookup, pi_maxl, pu_lookup, pu_maxl, maxl_nil, maxl_one, maxl_cons, cells_mapr, stor_mapr, callv_yld, mm_max, mm_min, putAll_cons, putAll_nil, asgK_normal, roundK_normal, roundK_ret, roundK_exit, part_cell, part_agg, *]
    | (refine retK_now ?_)
    | (refine retK_now' ?_)
    | (intro q hq)
    | (refine cond_intro (fun hc => ?_) (fun hc => ?_)))
      refine seqK_now ?_
      (repeat' first
    | simp (contextual := true) (maxSteps := 4000000) only [fwc, fwe, opsW_gpure, drawW_pure, drawW_gpure, Env.upd_apply, Heap.upd_same, Heap.upd_apply, ite_none, List.getD_cons_zero, List.getD_cons_succ, List.getD_nil, List.length_cons, List.length_nil, List.map_cons, List.map_nil, List.getElem?_cons_zero, List.getElem?_cons_succ, List.getElem?_nil, List.set_cons_zero, List.set_cons_succ, List.take_succ_cons, List.take_zero, List.drop_succ_cons, List.drop_zero, List.nil_append, List.cons_append, List.append_nil, Option.map_some, Option.map_none, Option.bind_some, Option.bind_none, reduceIte, ↓reduceIte, decide_true, decide_false, Bool.true_and, Bool.and_true, Bool.false_and, Bool.and_false, true_and, and_true, and_self, Nat.reduceAdd, Nat.reduceLeDiff, Nat.reduceEqDiff, Nat.zero_add, Nat.add_zero, Nat.le_refl, Nat.zero_le, ge_iff_le, Nat.reduceLT, Nat.zero_lt_succ, Nat.reduceSub, if_true, if_false, forall_const, reduceCtorEq, Bool.not_true, Bool.not_false, Bool.false_eq_true, Int.reduceEq, Int.reduceLT, Int.reduceLE, Int.reduceNeg, Int.reduceToNat, Int.reduceAdd, Int.reduceSub, Nat.reduceMul, Nat.reduceEqDiff, gW_un, gcF_un, gcA_un, ci_mkmap, ci_mapset, ci_lookup, ci_maxl, ci_appz, pi_lookup, pi_maxl, pu_lookup, pu_maxl, maxl_nil, maxl_one, maxl_cons, cells_mapr, stor_mapr, callv_yld, mm_max, mm_min, putAll_cons, putAll_nil, asgK_normal, roundK_normal, roundK_ret, roundK_exit, part_cell, part_agg, *]
    | (refine retK_now ?_)
    | (refine retK_now' ?_)
    | (intro q hq)
    | (refine cond_intro (fun hc => ?_) (fun hc => ?_)))
      obtain ⟨I6, hI6⟩ := hideI (fun m e O' => ∃ i : Nat, i ≤ B.length ∧ m = B.length - i ∧ O' = O.upd q (.arr 26 2 [.agg [f, b]]) ∧ e = env5 6 q rack i)
      refine cmd_loop I6 B.length (by
        rw [hI6.out]
        exact ⟨0, by omega, rfl, rfl, rfl⟩) ?_
      intro m e O' hh
      rw [hI6.out] at hh
      obtain ⟨i, hi2, rfl, rfl, rfl⟩ := hh
      unfold env5
      by_cases hi : i < B.length
      · have e1 : decide (i < B.length) = true := decide_eq_true hi
        have hie : i < fs.length := by rw [h.b.2.1]; exact hi
        have hia := h.b.1.ia (i := i) hie
        have hx := h.b.2.2 i hie hi
        have hx1 := hx.cells
        have hx2 := hx.len
        rw [List.length_map] at hx2
        generalize fs[i] = x at *
        generalize B[i].length = n at *
        have dn : decide ((6 : Int) < (n : Int)) = decide (6 < n) := decide_eq_decide.2 (by omega)
        have hwi : i < 4611686018427387904 := by omega
        clear hx
        by_cases hn : 6 < n
        · have e2 : decide (6 < n) = true := decide_eq_true hn
          replace hn := (show Aside _ from hn)
          (repeat' first
    | simp (contextual := true) (maxSteps := 4000000) only [fwc, fwe, cmd_seq, opsW_gpure, drawW_pure, drawW_gpure, Env.upd_apply, Heap.upd_same, Heap.upd_apply, ite_none, List.getD_cons_zero, List.getD_cons_succ, List.getD_nil, List.length_cons, List.length_nil, List.map_cons, List.map_nil, List.getElem?_cons_zero, List.getElem?_cons_succ, List.getElem?_nil, List.set_cons_zero, List.set_cons_succ, List.take_succ_cons, List.take_zero, List.drop_succ_cons, List.drop_zero, List.nil_append, List.cons_append, List.append_nil, Option.map_some, Option.map_none, Option.bind_some, Option.bind_none, reduceIte, ↓reduceIte, decide_true, decide_false, Bool.true_and, Bool.and_true, Bool.false_and, Bool.and_false, true_and, and_true, and_self, Nat.reduceAdd, Nat.reduceLeDiff, Nat.reduceEqDiff, Nat.zero_add, Nat.add_zero, Nat.le_refl, Nat.zero_le, ge_iff_le, Nat.reduceLT, Nat.zero_lt_succ, Nat.reduceSub, if_true, if_false, forall_const, reduceCtorEq, Bool.not_true, Bool.not_false, Bool.false_eq_true, Int.reduceEq, Int.reduceLT, Int.reduceLE, Int.reduceNeg, Int.reduceToNat, Int.reduceAdd, Int.reduceSub, Nat.reduceMul, Nat.reduceEqDiff, gW_un, gcF_un, gcA_un, ci_mkmap, ci_mapset, ci_lookup, ci_maxl, ci_appz, pi_lookup, pi_maxl, pu_lookup, pu_maxl, maxl_nil, maxl_one, maxl_cons, cells_mapr, stor_mapr, callv_yld, mm_max, mm_min, putAll_cons, putAll_nil, asgK_normal, roundK_normal, roundK_ret, roundK_exit, ilt_nat, part_cell, part_agg, wrap_succ, *]
    | (refine seqK_now ?_)
    | (refine retK_now ?_)
    | (refine retK_now' ?_)
    | (intro q hq)
    | (refine cond_intro (fun hc => ?_) (fun hc => ?_)))
          refine lives4_ok.use ?_
          (repeat' first
    | simp (contextual := true) (maxSteps := 4000000) only [fwc, fwe, cmd_seq, opsW_gpure, drawW_pure, drawW_gpure, Env.upd_apply, Heap.upd_same, Heap.upd_apply, ite_none, List.getD_cons_zero, List.getD_cons_succ, List.getD_nil, List.length_cons, List.length_nil, List.map_cons, List.map_nil, List.getElem?_cons_zero, List.getElem?_cons_succ, List.getElem?_nil, List.set_cons_zero, List.set_cons_succ, List.take_succ_cons, List.take_zero, List.drop_succ_cons, List.drop_zero, List.nil_append, List.cons_append, List.append_nil, Option.map_some, Option.map_none, Option.bind_some, Option.bind_none, reduceIte, ↓reduceIte, decide_true, decide_false, Bool.true_and, Bool.and_true, Bool.false_and, Bool.and_false, true_and, and_true, and_self, Nat.reduceAdd, Nat.reduceLeDiff, Nat.reduceEqDiff, Nat.zero_add, Nat.add_zero, Nat.le_refl, Nat.zero_le, ge_iff_le, Nat.reduceLT, Nat.zero_lt_succ, Nat.reduceSub, if_true, if_false, forall_const, reduceCtorEq, Bool.not_true, Bool.not_false, Bool.false_eq_true, Int.reduceEq, Int.reduceLT, Int.reduceLE, Int.reduceNeg, Int.reduceToNat, Int.reduceAdd, Int.reduceSub, Nat.reduceMul, Nat.reduceEqDiff, gW_un, gcF_un, gcA_un, ci_mkmap, ci_mapset, ci_lookup, ci_maxl, ci_appz, pi_lookup, pi_maxl, pu_lookup, pu_maxl, maxl_nil, maxl_one, maxl_cons, cells_mapr, stor_mapr, callv_yld, mm_max, mm_min, putAll_cons, putAll_nil, asgK_normal, roundK_normal, roundK_ret, roundK_exit, ilt_nat, part_cell, part_agg, wrap_succ, *]
    | (refine seqK_now ?_)
    | (refine retK_now ?_)
    | (refine retK_now' ?_)
    | (intro q hq)
    | (refine cond_intro (fun hc => ?_) (fun hc => ?_)))
          refine WeakR.pure (by repeat (first | exact Heap.sub_refl _ | refine sub_upd (by simp only [*]) ?_)) ?_
          rfl
        · have e2 : decide (6 < n) = false := decide_eq_false hn
          replace hn := (show Aside _ from hn)
          (repeat' first
    | simp (contextual := true) (maxSteps := 4000000) only [fwc, fwe, cmd_seq, opsW_gpure, drawW_pure, drawW_gpure, Env.upd_apply, Heap.upd_same, Heap.upd_apply, ite_none, List.getD_cons_zero, List.getD_cons_succ, List.getD_nil, List.length_cons, List.length_nil, List.map_cons, List.map_nil, List.getElem?_cons_zero, List.getElem?_cons_succ, List.getElem?_nil, List.set_cons_zero, List.set_cons_succ, List.take_succ_cons, List.take_zero, List.drop_succ_cons, List.drop_zero, List.nil_append, List.cons_append, List.append_nil, Option.map_some, Option.map_none, Option.bind_some, Option.bind_none, reduceIte, ↓reduceIte, decide_true, decide_false, Bool.true_and, Bool.and_true, Bool.false_and, Bool.and_false, true_and, and_true, and_self, Nat.reduceAdd, Nat.reduceLeDiff, Nat.reduceEqDiff, Nat.zero_add, Nat.add_zero, Nat.le_refl, Nat.zero_le, ge_iff_le, Nat.reduceLT, Nat.zero_lt_succ, Nat.reduceSub, if_true, if_false, forall_const, reduceCtorEq, Bool.not_true, Bool.not_false, Bool.false_eq_true, Int.reduceEq, Int.reduceLT, Int.reduceLE, Int.reduceNeg, Int.reduceToNat, Int.reduceAdd, Int.reduceSub, Nat.reduceMul, Nat.reduceEqDiff, gW_un, gcF_un, gcA_un, ci_mkmap, ci_mapset, ci_lookup, ci_maxl, ci_appz, pi_lookup, pi_maxl, pu_lookup, pu_maxl, maxl_nil, maxl_one, maxl_cons, cells_mapr, stor_mapr, callv_yld, mm_max, mm_min, putAll_cons, putAll_nil, asgK_normal, roundK_normal, roundK_ret, roundK_exit, ilt_nat, part_cell, part_agg, wrap_succ, *]
    | (refine seqK_now ?_)
    | (refine retK_now ?_)
    | (refine retK_now' ?_)
    | (intro q hq)
    | (refine cond_intro (fun hc => ?_) (fun hc => ?_)))
          refine loopK_now (B.length - (i + 1)) (by omega) ?_
          rw [hI6.out]
          exact ⟨i + 1, by omega, rfl, rfl, rfl⟩
      · have e1 : decide (i < B.length) = false := decide_eq_false hi
        replace hi := (show Aside _ from hi)
        refine seq_go ?_
        refine seq_go ?_
        (repeat' first
    | simp (contextual := true) (maxSteps := 4000000) only [fwc, fwe, opsW_gpure, drawW_pure, drawW_gpure, Env.upd_apply, Heap.upd_same, Heap.upd_apply, ite_none, List.getD_cons_zero, List.getD_cons_succ, List.getD_nil, List.length_cons, List.length_nil, List.map_cons, List.map_nil, List.getElem?_cons_zero, List.getElem?_cons_succ, List.getElem?_nil, List.set_cons_zero, List.set_cons_succ, List.take_succ_cons, List.take_zero, List.drop_succ_cons, List.drop_zero, List.nil_append, List.cons_append, List.append_nil, Option.map_some, Option.map_none, Option.bind_some, Option.bind_none, reduceIte, ↓reduceIte, decide_true, decide_false, Bool.true_and, Bool.and_true, Bool.false_and, Bool.and_false, true_and, and_true, and_self, Nat.reduceAdd, Nat.reduceLeDiff, Nat.reduceEqDiff, Nat.zero_add, Nat.add_zero, Nat.le_refl, Nat.zero_le, ge_iff_le, Nat.reduceLT, Nat.zero_lt_succ, Nat.reduceSub, if_true, if_false, forall_const, reduceCtorEq, Bool.not_true, Bool.not_false, Bool.false_eq_true, Int.reduceEq, Int.reduceLT, Int.reduceLE, Int.reduceNeg, Int.reduceToNat, Int.reduceAdd, Int.reduceSub, Nat.reduceMul, Nat.reduceEqDiff, gW_un, gcF_un, gcA_un, ci_mkmap, ci_mapset, ci_lookup, ci_maxl, ci_appz, pi_lookup, pi_maxl, pu_lookup, pu_maxl, maxl_nil, maxl_one, maxl_cons, cells_mapr, stor_mapr, callv_yld, mm_max, mm_min, putAll_cons, putAll_nil, asgK_normal, roundK_normal, roundK_ret, roundK_exit, ilt_nat, part_cell, part_agg, *]
    | (refine retK_now ?_)
    | (refine retK_now' ?_)
    | (intro q hq)
    | (refine cond_intro (fun hc => ?_) (fun hc => ?_)))
        refine seqK_now ?_
        (repeat' first
    | simp (contextual := true) (maxSteps := 4000000) only [fwc, fwe, opsW_gpure, drawW_pure, drawW_gpure, Env.upd_apply, Heap.upd_same, Heap.upd_apply, ite_none, List.getD_cons_zero, List.getD_cons_succ, List.getD_nil, List.length_cons, List.length_nil, List.map_cons, List.map_nil, List.getElem?_cons_zero, List.getElem?_cons_succ, List.getElem?_nil, List.set_cons_zero, List.set_cons_succ, List.take_succ_cons, List.take_zero, List.drop_succ_cons, List.drop_zero, List.nil_append, List.cons_append, List.append_nil, Option.map_some, Option.map_none, Option.bind_some, Option.bind_none, reduceIte, ↓reduceIte, decide_true, decide_false, Bool.true_and, Bool.and_true, Bool.false_and, Bool.and_false, true_and, and_true, and_self, Nat.reduceAdd, Nat.reduceLeDiff, Nat.reduceEqDiff, Nat.zero_add, Nat.add_zero, Nat.le_refl, Nat.zero_le, ge_iff_le, Nat.reduceLT, Nat.zero_lt_succ, Nat.reduceSub, if_true, if_false, forall_const, reduceCtorEq, Bool.not_true, Bool.not_false, Bool.false_eq_true, Int.reduceEq, Int.reduceLT, Int.reduceLE, Int.reduceNeg, Int.reduceToNat, Int.reduceAdd, Int.reduceSub, Nat.reduceMul, Nat.reduceEqDiff, gW_un, gcF_un, gcA_un, ci_mkmap, ci_mapset, ci_lookup, ci_maxl, ci_appz, pi_lookup, pi_maxl, pu_lookup, pu_maxl, maxl_nil, maxl_one, maxl_cons, cells_mapr, stor_mapr, callv_yld, mm_max, mm_min, putAll_cons, putAll_nil, asgK_normal, roundK_normal, roundK_ret, roundK_exit, ilt_nat, part_cell, part_agg, *]
    | (refine retK_now ?_)
    | (refine retK_now' ?_)
    | (intro q hq)
    | (refine cond_intro (fun hc => ?_) (fun hc => ?_)))
        refine seqK_now ?_
        refine seq_go ?_
        (repeat' first
    | simp (contextual := true) (maxSteps := 4000000) only [fwc, fwe, opsW_gpure, drawW_pure, drawW_gpure, Env.upd_apply, Heap.upd_same, Heap.upd_apply, ite_none, List.getD_cons_zero, List.getD_cons_succ, List.getD_nil, List.length_cons, List.length_nil, List.map_cons, List.map_nil, List.getElem?_cons_zero, List.getElem?_cons_succ, List.getElem?_nil, List.set_cons_zero, List.set_cons_succ, List.take_succ_cons, List.take_zero, List.drop_succ_cons, List.drop_zero, List.nil_append, List.cons_append, List.append_nil, Option.map_some, Option.map_none, Option.bind_some, Option.bind_none, reduceIte, ↓reduceIte, decide_true, decide_false, Bool.true_and, Bool.and_true, Bool.false_and, Bool.and_false, true_and, and_true, and_self, Nat.reduceAdd, Nat.reduceLeDiff, Nat.reduceEqDiff, Nat.zero_add, Nat.add_zero, Nat.le_refl, Nat.zero_le, ge_iff_le, Nat.reduceLT, Nat.zero_lt_succ, Nat.reduceSub, if_true, if_false, forall_const, reduceCtorEq, Bool.not_true, Bool.not_false, Bool.false_eq_true, Int.reduceEq, Int.reduceLT, Int.reduceLE, Int.reduceNeg, Int.reduceToNat, Int.reduceAdd, Int.reduceSub, Nat.reduceMul, Nat.reduceEqDiff, gW_un, gcF_un, gcA_un, ci_mkmap, ci_mapset, ci_lookup, ci_maxl, ci_appz, pi_lookup, pi_maxl, pu_lookup, pu_maxl, maxl_nil, maxl_one, maxl_cons, cells_mapr, stor_mapr, callv_yld, mm_max, mm_min, putAll_cons, putAll_nil, asgK_normal, roundK_normal, roundK_ret, roundK_exit, part_cell, part_agg, *]
    | (refine retK_now ?_)
    | (refine retK_now' ?_)
    | (intro q hq)
    | (refine cond_intro (fun hc => ?_) (fun hc => ?_)))
        refine hck.use ?_
        (repeat' first
    | simp (contextual := true) (maxSteps := 4000000) only [fwc, fwe, opsW_gpure, drawW_pure, drawW_gpure, Env.upd_apply, Heap.upd_same, Heap.upd_apply, ite_none, List.getD_cons_zero, List.getD_cons_succ, List.getD_nil, List.length_cons, List.length_nil, List.map_cons, List.map_nil, List.getElem?_cons_zero, List.getElem?_cons_succ, List.getElem?_nil, List.set_cons_zero, List.set_cons_succ, List.take_succ_cons, List.take_zero, List.drop_succ_cons, List.drop_zero, List.nil_append, List.cons_append, List.append_nil, Option.map_some, Option.map_none, Option.bind_some, Option.bind_none, reduceIte, ↓reduceIte, decide_true, decide_false, Bool.true_and, Bool.and_true, Bool.false_and, Bool.and_false, true_and, and_true, and_self, Nat.reduceAdd, Nat.reduceLeDiff, Nat.reduceEqDiff, Nat.zero_add, Nat.add_zero, Nat.le_refl, Nat.zero_le, ge_iff_le, Nat.reduceLT, Nat.zero_lt_succ, Nat.reduceSub, if_true, if_false, forall_const, reduceCtorEq, Bool.not_true, Bool.not_false, Bool.false_eq_true, Int.reduceEq, Int.reduceLT, Int.reduceLE, Int.reduceNeg, Int.reduceToNat, Int.reduceAdd, Int.reduceSub, Nat.reduceMul, Nat.reduceEqDiff, gW_un, gcF_un, gcA_un, ci_mkmap, ci_mapset, ci_lookup, ci_maxl, ci_appz, pi_lookup, pi_maxl, pu_lookup, pu_maxl, maxl_nil, maxl_one, maxl_cons, cells_mapr, stor_mapr, callv_yld, mm_max, mm_min, putAll_cons, putAll_nil, asgK_normal, roundK_normal, roundK_ret, roundK_exit, part_cell, part_agg, *]
    | (refine retK_now ?_)
    | (refine retK_now' ?_)
    | (intro q hq)
    | (refine cond_intro (fun hc => ?_) (fun hc => ?_)))
        refine seqK_now ?_
        by_cases he : checkL F B = 0
        · have e3 : decide (checkL F B = 0) = true := decide_eq_true he
          replace he := (show Aside _ from he)
          (repeat' first
    | simp (contextual := true) (maxSteps := 4000000) only [fwc, fwe, cmd_seq, opsW_gpure, drawW_pure, drawW_gpure, Env.upd_apply, Heap.upd_same, Heap.upd_apply, ite_none, List.getD_cons_zero, List.getD_cons_succ, List.getD_nil, List.length_cons, List.length_nil, List.map_cons, List.map_nil, List.getElem?_cons_zero, List.getElem?_cons_succ, List.getElem?_nil, List.set_cons_zero, List.set_cons_succ, List.take_succ_cons, List.take_zero, List.drop_succ_cons, List.drop_zero, List.nil_append, List.cons_append, List.append_nil, Option.map_some, Option.map_none, Option.bind_some, Option.bind_none, reduceIte, ↓reduceIte, decide_true, decide_false, Bool.true_and, Bool.and_true, Bool.false_and, Bool.and_false, true_and, and_true, and_self, Nat.reduceAdd, Nat.reduceLeDiff, Nat.reduceEqDiff, Nat.zero_add, Nat.add_zero, Nat.le_refl, Nat.zero_le, ge_iff_le, Nat.reduceLT, Nat.zero_lt_succ, Nat.reduceSub, if_true, if_false, forall_const, reduceCtorEq, Bool.not_true, Bool.not_false, Bool.false_eq_true, Int.reduceEq, Int.reduceLT, Int.reduceLE, Int.reduceNeg, Int.reduceToNat, Int.reduceAdd, Int.reduceSub, Nat.reduceMul, Nat.reduceEqDiff, gW_un, gcF_un, gcA_un, ci_mkmap, ci_mapset, ci_lookup, ci_maxl, ci_appz, pi_lookup, pi_maxl, pu_lookup, pu_maxl, maxl_nil, maxl_one, maxl_cons, cells_mapr, stor_mapr, callv_yld, mm_max, mm_min, putAll_cons, putAll_nil, asgK_normal, roundK_normal, roundK_ret, roundK_exit, part_cell, part_agg, *]
    | (refine seqK_now ?_)
    | (refine retK_now ?_)
    | (refine retK_now' ?_)
    | (intro q hq)
    | (refine cond_intro (fun hc => ?_) (fun hc => ?_)))
          refine lives4_ok.use ?_
          (repeat' first
    | simp (contextual := true) (maxSteps := 4000000) only [fwc, fwe, cmd_seq, opsW_gpure, drawW_pure, drawW_gpure, Env.upd_apply, Heap.upd_same, Heap.upd_apply, ite_none, List.getD_cons_zero, List.getD_cons_succ, List.getD_nil, List.length_cons, List.length_nil, List.map_cons, List.map_nil, List.getElem?_cons_zero, List.getElem?_cons_succ, List.getElem?_nil, List.set_cons_zero, List.set_cons_succ, List.take_succ_cons, List.take_zero, List.drop_succ_cons, List.drop_zero, List.nil_append, List.cons_append, List.append_nil, Option.map_some, Option.map_none, Option.bind_some, Option.bind_none, reduceIte, ↓reduceIte, decide_true, decide_false, Bool.true_and, Bool.and_true, Bool.false_and, Bool.and_false, true_and, and_true, and_self, Nat.reduceAdd, Nat.reduceLeDiff, Nat.reduceEqDiff, Nat.zero_add, Nat.add_zero, Nat.le_refl, Nat.zero_le, ge_iff_le, Nat.reduceLT, Nat.zero_lt_succ, Nat.reduceSub, if_true, if_false, forall_const, reduceCtorEq, Bool.not_true, Bool.not_false, Bool.false_eq_true, Int.reduceEq, Int.reduceLT, Int.reduceLE, Int.reduceNeg, Int.reduceToNat, Int.reduceAdd, Int.reduceSub, Nat.reduceMul, Nat.reduceEqDiff, gW_un, gcF_un, gcA_un, ci_mkmap, ci_mapset, ci_lookup, ci_maxl, ci_appz, pi_lookup, pi_maxl, pu_lookup, pu_maxl, maxl_nil, maxl_one, maxl_cons, cells_mapr, stor_mapr, callv_yld, mm_max, mm_min, putAll_cons, putAll_nil, asgK_normal, roundK_normal, roundK_ret, roundK_exit, part_cell, part_agg, *]
    | (refine seqK_now ?_)
    | (refine retK_now ?_)
    | (refine retK_now' ?_)
    | (intro q hq)
    | (refine cond_intro (fun hc => ?_) (fun hc => ?_)))
          refine WeakR.pure (by repeat (first | exact Heap.sub_refl _ | refine sub_upd (by simp only [*]) ?_)) ?_
          rfl
        · have e3 : decide (checkL F B = 0) = false := decide_eq_false he
          have k1 := List_err h he rack
          have k2 := Step_err h he rack 0
          have k3 := Meets_err h he rack 1 8
          replace he := (show Aside _ from he)
          generalize checkL F B = e at *
          have q1 : decide (e = e) = true := decide_eq_true rfl
          (repeat' first
    | simp (contextual := true) (maxSteps := 4000000) only [fwc, fwe, cmd_seq, opsW_gpure, drawW_pure, drawW_gpure, Env.upd_apply, Heap.upd_same, Heap.upd_apply, ite_none, List.getD_cons_zero, List.getD_cons_succ, List.getD_nil, List.length_cons, List.length_nil, List.map_cons, List.map_nil, List.getElem?_cons_zero, List.getElem?_cons_succ, List.getElem?_nil, List.set_cons_zero, List.set_cons_succ, List.take_succ_cons, List.take_zero, List.drop_succ_cons, List.drop_zero, List.nil_append, List.cons_append, List.append_nil, Option.map_some, Option.map_none, Option.bind_some, Option.bind_none, reduceIte, ↓reduceIte, decide_true, decide_false, Bool.true_and, Bool.and_true, Bool.false_and, Bool.and_false, true_and, and_true, and_self, Nat.reduceAdd, Nat.reduceLeDiff, Nat.reduceEqDiff, Nat.zero_add, Nat.add_zero, Nat.le_refl, Nat.zero_le, ge_iff_le, Nat.reduceLT, Nat.zero_lt_succ, Nat.reduceSub, if_true, if_false, forall_const, reduceCtorEq, Bool.not_true, Bool.not_false, Bool.false_eq_true, Int.reduceEq, Int.reduceLT, Int.reduceLE, Int.reduceNeg, Int.reduceToNat, Int.reduceAdd, Int.reduceSub, Nat.reduceMul, Nat.reduceEqDiff, gW_un, gcF_un, gcA_un, ci_mkmap, ci_mapset, ci_lookup, ci_maxl, ci_appz, pi_lookup, pi_maxl, pu_lookup, pu_maxl, maxl_nil, maxl_one, maxl_cons, cells_mapr, stor_mapr, callv_yld, mm_max, mm_min, putAll_cons, putAll_nil, asgK_normal, roundK_normal, roundK_ret, roundK_exit, part_cell, part_agg, *]
    | (refine seqK_now ?_)
    | (refine retK_now ?_)
    | (refine retK_now' ?_)
    | (intro q hq)
    | (refine cond_intro (fun hc => ?_) (fun hc => ?_)))
          refine k1.use ?_
          (repeat' first
    | simp (contextual := true) (maxSteps := 4000000) only [fwc, fwe, cmd_seq, opsW_gpure, drawW_pure, drawW_gpure, Env.upd_apply, Heap.upd_same, Heap.upd_apply, ite_none, List.getD_cons_zero, List.getD_cons_succ, List.getD_nil, List.length_cons, List.length_nil, List.map_cons, List.map_nil, List.getElem?_cons_zero, List.getElem?_cons_succ, List.getElem?_nil, List.set_cons_zero, List.set_cons_succ, List.take_succ_cons, List.take_zero, List.drop_succ_cons, List.drop_zero, List.nil_append, List.cons_append, List.append_nil, Option.map_some, Option.map_none, Option.bind_some, Option.bind_none, reduceIte, ↓reduceIte, decide_true, decide_false, Bool.true_and, Bool.and_true, Bool.false_and, Bool.and_false, true_and, and_true, and_self, Nat.reduceAdd, Nat.reduceLeDiff, Nat.reduceEqDiff, Nat.zero_add, Nat.add_zero, Nat.le_refl, Nat.zero_le, ge_iff_le, Nat.reduceLT, Nat.zero_lt_succ, Nat.reduceSub, if_true, if_false, forall_const, reduceCtorEq, Bool.not_true, Bool.not_false, Bool.false_eq_true, Int.reduceEq, Int.reduceLT, Int.reduceLE, Int.reduceNeg, Int.reduceToNat, Int.reduceAdd, Int.reduceSub, Nat.reduceMul, Nat.reduceEqDiff, gW_un, gcF_un, gcA_un, ci_mkmap, ci_mapset, ci_lookup, ci_maxl, ci_appz, pi_lookup, pi_maxl, pu_lookup, pu_maxl, maxl_nil, maxl_one, maxl_cons, cells_mapr, stor_mapr, callv_yld, mm_max, mm_min, putAll_cons, putAll_nil, asgK_normal, roundK_normal, roundK_ret, roundK_exit, part_cell, part_agg, *]
    | (refine seqK_now ?_)
    | (refine retK_now ?_)
    | (refine retK_now' ?_)
    | (intro q hq)
    | (refine cond_intro (fun hc => ?_) (fun hc => ?_)))
          refine k2.use ?_
          (repeat' first
    | simp (contextual := true) (maxSteps := 4000000) only [fwc, fwe, cmd_seq, opsW_gpure, drawW_pure, drawW_gpure, Env.upd_apply, Heap.upd_same, Heap.upd_apply, ite_none, List.getD_cons_zero, List.getD_cons_succ, List.getD_nil, List.length_cons, List.length_nil, List.map_cons, List.map_nil, List.getElem?_cons_zero, List.getElem?_cons_succ, List.getElem?_nil, List.set_cons_zero, List.set_cons_succ, List.take_succ_cons, List.take_zero, List.drop_succ_cons, List.drop_zero, List.nil_append, List.cons_append, List.append_nil, Option.map_some, Option.map_none, Option.bind_some, Option.bind_none, reduceIte, ↓reduceIte, decide_true, decide_false, Bool.true_and, Bool.and_true, Bool.false_and, Bool.and_false, true_and, and_true, and_self, Nat.reduceAdd, Nat.reduceLeDiff, Nat.reduceEqDiff, Nat.zero_add, Nat.add_zero, Nat.le_refl, Nat.zero_le, ge_iff_le, Nat.reduceLT, Nat.zero_lt_succ, Nat.reduceSub, if_true, if_false, forall_const, reduceCtorEq, Bool.not_true, Bool.not_false, Bool.false_eq_true, Int.reduceEq, Int.reduceLT, Int.reduceLE, Int.reduceNeg, Int.reduceToNat, Int.reduceAdd, Int.reduceSub, Nat.reduceMul, Nat.reduceEqDiff, gW_un, gcF_un, gcA_un, ci_mkmap, ci_mapset, ci_lookup, ci_maxl, ci_appz, pi_lookup, pi_maxl, pu_lookup, pu_maxl, maxl_nil, maxl_one, maxl_cons, cells_mapr, stor_mapr, callv_yld, mm_max, mm_min, putAll_cons, putAll_nil, asgK_normal, roundK_normal, roundK_ret, roundK_exit, part_cell, part_agg, *]
    | (refine seqK_now ?_)
    | (refine retK_now ?_)
    | (refine retK_now' ?_)
    | (intro q hq)
    | (refine cond_intro (fun hc => ?_) (fun hc => ?_)))
          refine k3.use ?_
          (repeat' first
    | simp (contextual := true) (maxSteps := 4000000) only [fwc, fwe, cmd_seq, opsW_gpure, drawW_pure, drawW_gpure, Env.upd_apply, Heap.upd_same, Heap.upd_apply, ite_none, List.getD_cons_zero, List.getD_cons_succ, List.getD_nil, List.length_cons, List.length_nil, List.map_cons, List.map_nil, List.getElem?_cons_zero, List.getElem?_cons_succ, List.getElem?_nil, List.set_cons_zero, List.set_cons_succ, List.take_succ_cons, List.take_zero, List.drop_succ_cons, List.drop_zero, List.nil_append, List.cons_append, List.append_nil, Option.map_some, Option.map_none, Option.bind_some, Option.bind_none, reduceIte, ↓reduceIte, decide_true, decide_false, Bool.true_and, Bool.and_true, Bool.false_and, Bool.and_false, true_and, and_true, and_self, Nat.reduceAdd, Nat.reduceLeDiff, Nat.reduceEqDiff, Nat.zero_add, Nat.add_zero, Nat.le_refl, Nat.zero_le, ge_iff_le, Nat.reduceLT, Nat.zero_lt_succ, Nat.reduceSub, if_true, if_false, forall_const, reduceCtorEq, Bool.not_true, Bool.not_false, Bool.false_eq_true, Int.reduceEq, Int.reduceLT, Int.reduceLE, Int.reduceNeg, Int.reduceToNat, Int.reduceAdd, Int.reduceSub, Nat.reduceMul, Nat.reduceEqDiff, gW_un, gcF_un, gcA_un, ci_mkmap, ci_mapset, ci_lookup, ci_maxl, ci_appz, pi_lookup, pi_maxl, pu_lookup, pu_maxl, maxl_nil, maxl_one, maxl_cons, cells_mapr, stor_mapr, callv_yld, mm_max, mm_min, putAll_cons, putAll_nil, asgK_normal, roundK_normal, roundK_ret, roundK_exit, part_cell, part_agg, *]
    | (refine seqK_now ?_)
    | (refine retK_now ?_)
    | (refine retK_now' ?_)
    | (intro q hq)
    | (refine cond_intro (fun hc => ?_) (fun hc => ?_)))
          refine lives4_ok.use ?_
          (repeat' first
    | simp (contextual := true) (maxSteps := 4000000) only [fwc, fwe, cmd_seq, opsW_gpure, drawW_pure, drawW_gpure, Env.upd_apply, Heap.upd_same, Heap.upd_apply, ite_none, List.getD_cons_zero, List.getD_cons_succ, List.getD_nil, List.length_cons, List.length_nil, List.map_cons, List.map_nil, List.getElem?_cons_zero, List.getElem?_cons_succ, List.getElem?_nil, List.set_cons_zero, List.set_cons_succ, List.take_succ_cons, List.take_zero, List.drop_succ_cons, List.drop_zero, List.nil_append, List.cons_append, List.append_nil, Option.map_some, Option.map_none, Option.bind_some, Option.bind_none, reduceIte, ↓reduceIte, decide_true, decide_false, Bool.true_and, Bool.and_true, Bool.false_and, Bool.and_false, true_and, and_true, and_self, Nat.reduceAdd, Nat.reduceLeDiff, Nat.reduceEqDiff, Nat.zero_add, Nat.add_zero, Nat.le_refl, Nat.zero_le, ge_iff_le, Nat.reduceLT, Nat.zero_lt_succ, Nat.reduceSub, if_true, if_false, forall_const, reduceCtorEq, Bool.not_true, Bool.not_false, Bool.false_eq_true, Int.reduceEq, Int.reduceLT, Int.reduceLE, Int.reduceNeg, Int.reduceToNat, Int.reduceAdd, Int.reduceSub, Nat.reduceMul, Nat.reduceEqDiff, gW_un, gcF_un, gcA_un, ci_mkmap, ci_mapset, ci_lookup, ci_maxl, ci_appz, pi_lookup, pi_maxl, pu_lookup, pu_maxl, maxl_nil, maxl_one, maxl_cons, cells_mapr, stor_mapr, callv_yld, mm_max, mm_min, putAll_cons, putAll_nil, asgK_normal, roundK_normal, roundK_ret, roundK_exit, part_cell, part_agg, *]
    | (refine seqK_now ?_)
    | (refine retK_now ?_)
    | (refine retK_now' ?_)
    | (intro q hq)
    | (refine cond_intro (fun hc => ?_) (fun hc => ?_)))
          refine WeakR.pure (by repeat (first | exact Heap.sub_refl _ | refine sub_upd (by simp only [*]) ?_)) ?_
          rfl
end Go.Proofs.Ytlpngkeegjickab

namespace Go.Proofs.Ytlpngkeegjickab
open Go.Ab Go.ChangeShapes Go.WideShapes Go.ChangeAt Go.RowKit

theorem own : ownKnob Try.prog.godebug = none := by kernel_rfl
theorem laid : laidOutB Try.prog = true := by kernel_rfl
def layId : Lay := .int .u8 (.int .i64 .nil)
def layBeds : Lay := .slice false (.slice true layId .nil) (.slice false (.slice true layId .nil) .nil)
theorem stacks_of : ∀ {l : List AV}, (∀ x ∈ l, ∃ L : List Id, IsL 2 x (L.map Id.av)) → ∃ F : List (List Id), l.length = F.length ∧ ∀ (i : Nat) (h : i < l.length) (h' : i < F.length), IsL 2 l[i] (F[i].map Id.av)
  | [], _ => ⟨[], rfl, fun i h => by simp at h⟩
  | x :: l, h => by
    obtain ⟨L, hL⟩ := h x (by simp)
    obtain ⟨F, h1, h2⟩ := stacks_of (l := l) fun y hy => h y (by simp [hy])
    refine ⟨L :: F, by simp [h1], fun i k k' => ?_⟩
    cases i with
    | zero => exact hL
    | succ i => exact h2 i (by simpa using k) (by simpa using k')
theorem ids_of {l : List AV} (h : ∀ x ∈ l, ∃ es, elemIs true x es ∧ LayOK layId es) : ∃ L : List Id, l = L.map Id.av := by
  obtain ⟨X, rfl, hX⟩ := map_of_all (f := Id.av) (Q := fun _ => True) (l := l) (fun x hx => by
    obtain ⟨es, rfl, y, vs', rfl, hw1, n, vs', rfl, hw2, rfl⟩ := h x hx
    exact ⟨⟨y, n⟩, rfl, trivial⟩)
  exact ⟨X, rfl⟩
theorem open_bed {s : AV} {l : List AV} (h1 : IsL 1 s l) (h : ∀ x ∈ l, ∃ es, elemIs false x es ∧ LayOK (.slice true layId .nil) es) : ∃ F : List (List Id), IsB s l F := by
  obtain ⟨F, k1, k2⟩ := stacks_of (l := l) fun x hx => by
    obtain ⟨es, rfl, s', l', qs, e, m1, m2, m3, m4⟩ := h x hx
    simp only [List.cons.injEq] at e
    obtain ⟨rfl, _⟩ := e
    obtain ⟨L, rfl⟩ := ids_of m3
    exact ⟨L, m1⟩
  exact ⟨F, h1, k1, k2⟩
theorem open_beds {a : AV} {es : List AV} (he : elemIs true a es) (h : LayOK layBeds es) : ∃ f b fs bs F B, a = .agg [f, b] ∧ Two f b fs bs F B ∧ F.length ≤ 9223372036854775807 ∧ B.length ≤ 9223372036854775807 := by
  obtain ⟨f, l, qs, rfl, h1, h2, h3, b, m, qs', rfl, h4, h5, h6, rfl⟩ := h
  obtain ⟨F, hF⟩ := open_bed h1 h3
  obtain ⟨B, hB⟩ := open_bed h4 h6
  have : maxLen = 9223372036854775807 := by decide
  exact ⟨f, b, l, m, F, B, he, ⟨hF, hB⟩, by rw [← hF.2.1]; omega, by rw [← hB.2.1]; omega⟩
theorem OrdersErrors_args (vs : List AV) (h : ArgsOK [(true, layBeds), (false, .int .i64 .nil)] vs) : PureA Try.prog 5 vs (.val (.bool true)) := by
  obtain ⟨a, vs', es, rfl, k1, h1, r, vs', es', rfl, rfl, h2, rfl⟩ := h
  obtain ⟨n, qs, e, _, _⟩ := h2
  simp only [List.cons.injEq] at e
  obtain ⟨rfl, _⟩ := e
  obtain ⟨f, b, fs, bs, F, B, rfl, hT, hF, hB⟩ := open_beds k1 h1
  exact OrdersErrors_ok hT n hF hB
set_option maxRecDepth 100000 in
theorem OrdersErrors_lifted (os : Os) (started : os.Started) (H : Type) (enc : TypeId × Value → H) :
    ReturnsInHanded {} Try.checked os 5 .any (Rows.ordersErrorsSpec.pre6 enc Try.prog Try.f5 Rows.ordersErrorsRow.domain false) (Rows.ordersErrorsSpec.post enc Try.prog Try.f5 false true false false) := by
  refine returnsInHanded_of_change (C := Try.checked) own started (by kernel_rfl) Try.func5
    (ChangeSpec.witness6 (enc := enc) (C := Try.checked) false ⟨#[], #[.agg #[.slice none 0 0, .slice none 0 0], .int .i64 0], []⟩ 8 (by kernel_rfl) (by kernel_rfl) (by kernel_rfl) (by kernel_rfl)) ?_
  intro W base args ds gs before hval hW _ _
  exact law_calls (lays := [(true, layBeds), (false, .int .i64 .nil)]) laid (of_decide_eq_true (by kernel_rfl)) (by kernel_rfl) (by kernel_rfl) rfl (fun ds hds => by
    match ds, hds with
    | [d1, d2], _ => rfl) OrdersErrors_args W base args ds gs before hval hW

theorem OrdersErrors_holds : Rows.OrdersErrorsSaid :=
  OpenClaim.holds_of_wide 5 Try.f5 rfl rfl rfl rfl rfl rfl rfl ⟨rfl, rfl, rfl, rfl, rfl⟩ rfl rfl rfl rfl rfl (by kernel_rfl) Try.func5 (by kernel_rfl)
    (of_decide_eq_true (by kernel_rfl)) (by unfold Func.isWrapper; first | (rw [if_pos (by decide +kernel)]; kernel_rfl) | (rw [if_neg (by decide +kernel)]; exact ⟨rfl, rfl⟩))
    (fun os started H enc _ => OrdersErrors_lifted os started H enc)

end Go.Proofs.Ytlpngkeegjickab
