/- The law OrdersErrors of the given program: for every input the call returns true, and its arguments read as before. Here: contracts of functions, and the law. -/
import Derived.Test.YtlpngkeegjickabFd
import Derived.Test.YtlpngkeegjickabFc
set_option linter.unusedSimpArgs false
set_option linter.unusedVariables false
namespace Go.Proofs.Ytlpngkeegjickab
open Go.Ab
attribute [local irreducible] WeakR WeakE CallA YieldA

theorem mix : Try.prog.follows .mixedOrders = true := by kernel_rfl

structure Id where
  y : Int
  n : Int
deriving DecidableEq
def Id.av (p : Id) : AV := .agg [.val (.int .u8 p.y), .val (.int .i64 p.n)]
def named (p : Id) : Bool := decide (1 ≤ p.y) && decide (p.y ≤ 6) && decide (0 ≤ p.n) && decide (p.n < 2048)

theorem Named_ok (p : Id) : PureA Try.prog 37 [p.av] (.val (.bool (named p))) := by
  intro O
  refine k37.call mix ?_
  unfold c37 Id.av
  (repeat' first
    | simp (contextual := true) (maxSteps := 4000000) only [fwc, fwe, cmd_seq, opsW_gpure, drawW_pure, drawW_gpure, Env.upd_apply, Heap.upd_same, Heap.upd_apply, ite_none, List.getD_cons_zero, List.getD_cons_succ, List.getD_nil, List.length_cons, List.length_nil, List.map_cons, List.map_nil, List.getElem?_cons_zero, List.getElem?_cons_succ, List.getElem?_nil, List.set_cons_zero, List.set_cons_succ, List.take_succ_cons, List.take_zero, List.drop_succ_cons, List.drop_zero, List.nil_append, List.cons_append, List.append_nil, Option.map_some, Option.map_none, Option.bind_some, Option.bind_none, reduceIte, ↓reduceIte, decide_true, decide_false, Bool.true_and, Bool.and_true, Bool.false_and, Bool.and_false, true_and, and_true, and_self, Nat.reduceAdd, Nat.reduceLeDiff, Nat.reduceEqDiff, Nat.zero_add, Nat.add_zero, Nat.le_refl, Nat.zero_le, ge_iff_le, Nat.reduceLT, Nat.zero_lt_succ, Nat.reduceSub, if_true, if_false, forall_const, reduceCtorEq, Bool.not_true, Bool.not_false, Bool.false_eq_true, Int.reduceEq, Int.reduceLT, Int.reduceLE, Int.reduceNeg, Int.reduceToNat, Int.reduceAdd, Int.reduceSub, Nat.reduceMul, Nat.reduceEqDiff, gW_un, gcF_un, gcA_un, ci_mkmap, ci_mapset, ci_lookup, ci_maxl, ci_appz, pi_lookup, pi_maxl, pu_lookup, pu_maxl, maxl_nil, maxl_one, maxl_cons, cells_mapr, stor_mapr, callv_yld, mm_max, mm_min, putAll_cons, putAll_nil, asgK_normal, roundK_normal, roundK_ret, roundK_exit, *]
    | (refine seqK_now ?_)
    | (refine retK_now ?_)
    | (refine retK_now' ?_)
    | (intro q hq)
    | (refine cond_intro (fun hc => ?_) (fun hc => ?_)))
  refine WeakR.pure (by repeat (first | exact Heap.sub_refl _ | refine sub_upd (by simp only [*]) ?_)) ?_
  rfl

structure Ndl where
  bed : Int
  at_ : Int
deriving DecidableEq
def Ndl.av (n : Ndl) : AV := .agg [.val (.int .u8 n.bed), .val (.int .i64 n.at_)]
def Ndl.bad (n : Ndl) : Bool := decide (1 < n.bed) || decide (n.at_ < 1) || decide (40 < n.at_)

theorem NdlCheck_ok (n : Ndl) : PureA Try.prog 45 [n.av] (.val (.int .i64 (if n.bad = true then 1 else 0))) := by
  intro O
  refine k45.call mix ?_
  unfold c45 Ndl.av
  (repeat' first
    | simp (contextual := true) (maxSteps := 4000000) only [fwc, fwe, cmd_seq, opsW_gpure, drawW_pure, drawW_gpure, Env.upd_apply, Heap.upd_same, Heap.upd_apply, ite_none, List.getD_cons_zero, List.getD_cons_succ, List.getD_nil, List.length_cons, List.length_nil, List.map_cons, List.map_nil, List.getElem?_cons_zero, List.getElem?_cons_succ, List.getElem?_nil, List.set_cons_zero, List.set_cons_succ, List.take_succ_cons, List.take_zero, List.drop_succ_cons, List.drop_zero, List.nil_append, List.cons_append, List.append_nil, Option.map_some, Option.map_none, Option.bind_some, Option.bind_none, reduceIte, ↓reduceIte, decide_true, decide_false, Bool.true_and, Bool.and_true, Bool.false_and, Bool.and_false, true_and, and_true, and_self, Nat.reduceAdd, Nat.reduceLeDiff, Nat.reduceEqDiff, Nat.zero_add, Nat.add_zero, Nat.le_refl, Nat.zero_le, ge_iff_le, Nat.reduceLT, Nat.zero_lt_succ, Nat.reduceSub, if_true, if_false, forall_const, reduceCtorEq, Bool.not_true, Bool.not_false, Bool.false_eq_true, Int.reduceEq, Int.reduceLT, Int.reduceLE, Int.reduceNeg, Int.reduceToNat, Int.reduceAdd, Int.reduceSub, Nat.reduceMul, Nat.reduceEqDiff, gW_un, gcF_un, gcA_un, ci_mkmap, ci_mapset, ci_lookup, ci_maxl, ci_appz, pi_lookup, pi_maxl, pu_lookup, pu_maxl, maxl_nil, maxl_one, maxl_cons, cells_mapr, stor_mapr, callv_yld, mm_max, mm_min, putAll_cons, putAll_nil, asgK_normal, roundK_normal, roundK_ret, roundK_exit, *]
    | (refine seqK_now ?_)
    | (refine retK_now ?_)
    | (refine retK_now' ?_)
    | (intro q hq)
    | (refine cond_intro (fun hc => ?_) (fun hc => ?_)))
  all_goals
    have hb : n.bad = _ := hc
    refine WeakR.pure (by repeat (first | exact Heap.sub_refl _ | refine sub_upd (by simp only [*]) ?_)) ?_
    simp only [hb, if_true, Bool.false_eq_true, if_false]

theorem Clip_list (t : Bool) (l : List AV) : PureA Try.prog 48 [.list 2 t l] (.list 2 true l) := by
  intro O
  refine k48.call mix ?_
  unfold c48
  (repeat' first
    | simp (contextual := true) (maxSteps := 4000000) only [fwc, fwe, cmd_seq, opsW_gpure, drawW_pure, drawW_gpure, Env.upd_apply, Heap.upd_same, Heap.upd_apply, ite_none, List.getD_cons_zero, List.getD_cons_succ, List.getD_nil, List.length_cons, List.length_nil, List.map_cons, List.map_nil, List.getElem?_cons_zero, List.getElem?_cons_succ, List.getElem?_nil, List.set_cons_zero, List.set_cons_succ, List.take_succ_cons, List.take_zero, List.drop_succ_cons, List.drop_zero, List.nil_append, List.cons_append, List.append_nil, Option.map_some, Option.map_none, Option.bind_some, Option.bind_none, reduceIte, ↓reduceIte, decide_true, decide_false, Bool.true_and, Bool.and_true, Bool.false_and, Bool.and_false, true_and, and_true, and_self, Nat.reduceAdd, Nat.reduceLeDiff, Nat.reduceEqDiff, Nat.zero_add, Nat.add_zero, Nat.le_refl, Nat.zero_le, ge_iff_le, Nat.reduceLT, Nat.zero_lt_succ, Nat.reduceSub, if_true, if_false, forall_const, reduceCtorEq, Bool.not_true, Bool.not_false, Bool.false_eq_true, Int.reduceEq, Int.reduceLT, Int.reduceLE, Int.reduceNeg, Int.reduceToNat, Int.reduceAdd, Int.reduceSub, Nat.reduceMul, Nat.reduceEqDiff, gW_un, gcF_un, gcA_un, ci_mkmap, ci_mapset, ci_lookup, ci_maxl, ci_appz, pi_lookup, pi_maxl, pu_lookup, pu_maxl, maxl_nil, maxl_one, maxl_cons, cells_mapr, stor_mapr, callv_yld, mm_max, mm_min, putAll_cons, putAll_nil, asgK_normal, roundK_normal, roundK_ret, roundK_exit, *]
    | (refine seqK_now ?_)
    | (refine retK_now ?_)
    | (refine retK_now' ?_)
    | (intro q hq)
    | (refine cond_intro (fun hc => ?_) (fun hc => ?_)))
  rw [slice_list_mx (a := 0) (b := l.length) (c := l.length) (by simp [bound_none]) (by simp [bound_int]) (by simp [bound_int]) (by omega) (by omega) (by omega)]
  (repeat' first
    | simp (contextual := true) (maxSteps := 4000000) only [fwc, fwe, cmd_seq, opsW_gpure, drawW_pure, drawW_gpure, Env.upd_apply, Heap.upd_same, Heap.upd_apply, ite_none, List.getD_cons_zero, List.getD_cons_succ, List.getD_nil, List.length_cons, List.length_nil, List.map_cons, List.map_nil, List.getElem?_cons_zero, List.getElem?_cons_succ, List.getElem?_nil, List.set_cons_zero, List.set_cons_succ, List.take_succ_cons, List.take_zero, List.drop_succ_cons, List.drop_zero, List.nil_append, List.cons_append, List.append_nil, Option.map_some, Option.map_none, Option.bind_some, Option.bind_none, reduceIte, ↓reduceIte, decide_true, decide_false, Bool.true_and, Bool.and_true, Bool.false_and, Bool.and_false, true_and, and_true, and_self, Nat.reduceAdd, Nat.reduceLeDiff, Nat.reduceEqDiff, Nat.zero_add, Nat.add_zero, Nat.le_refl, Nat.zero_le, ge_iff_le, Nat.reduceLT, Nat.zero_lt_succ, Nat.reduceSub, if_true, if_false, forall_const, reduceCtorEq, Bool.not_true, Bool.not_false, Bool.false_eq_true, Int.reduceEq, Int.reduceLT, Int.reduceLE, Int.reduceNeg, Int.reduceToNat, Int.reduceAdd, Int.reduceSub, Nat.reduceMul, Nat.reduceEqDiff, gW_un, gcF_un, gcA_un, ci_mkmap, ci_mapset, ci_lookup, ci_maxl, ci_appz, pi_lookup, pi_maxl, pu_lookup, pu_maxl, maxl_nil, maxl_one, maxl_cons, cells_mapr, stor_mapr, callv_yld, mm_max, mm_min, putAll_cons, putAll_nil, asgK_normal, roundK_normal, roundK_ret, roundK_exit, *]
    | (refine seqK_now ?_)
    | (refine retK_now ?_)
    | (refine retK_now' ?_)
    | (intro q hq)
    | (refine cond_intro (fun hc => ?_) (fun hc => ?_)))
  refine WeakR.pure (by repeat (first | exact Heap.sub_refl _ | refine sub_upd (by simp only [*]) ?_)) ?_
  simp
theorem Clip_nil : PureA Try.prog 48 [.val (.slice none 0 0)] (.val (.slice none 0 0)) := by
  intro O
  refine k48.call mix ?_
  unfold c48
  (repeat' first
    | simp (contextual := true) (maxSteps := 4000000) only [fwc, fwe, cmd_seq, opsW_gpure, drawW_pure, drawW_gpure, Env.upd_apply, Heap.upd_same, Heap.upd_apply, ite_none, List.getD_cons_zero, List.getD_cons_succ, List.getD_nil, List.length_cons, List.length_nil, List.map_cons, List.map_nil, List.getElem?_cons_zero, List.getElem?_cons_succ, List.getElem?_nil, List.set_cons_zero, List.set_cons_succ, List.take_succ_cons, List.take_zero, List.drop_succ_cons, List.drop_zero, List.nil_append, List.cons_append, List.append_nil, Option.map_some, Option.map_none, Option.bind_some, Option.bind_none, reduceIte, ↓reduceIte, decide_true, decide_false, Bool.true_and, Bool.and_true, Bool.false_and, Bool.and_false, true_and, and_true, and_self, Nat.reduceAdd, Nat.reduceLeDiff, Nat.reduceEqDiff, Nat.zero_add, Nat.add_zero, Nat.le_refl, Nat.zero_le, ge_iff_le, Nat.reduceLT, Nat.zero_lt_succ, Nat.reduceSub, if_true, if_false, forall_const, reduceCtorEq, Bool.not_true, Bool.not_false, Bool.false_eq_true, Int.reduceEq, Int.reduceLT, Int.reduceLE, Int.reduceNeg, Int.reduceToNat, Int.reduceAdd, Int.reduceSub, Nat.reduceMul, Nat.reduceEqDiff, gW_un, gcF_un, gcA_un, ci_mkmap, ci_mapset, ci_lookup, ci_maxl, ci_appz, pi_lookup, pi_maxl, pu_lookup, pu_maxl, maxl_nil, maxl_one, maxl_cons, cells_mapr, stor_mapr, callv_yld, mm_max, mm_min, putAll_cons, putAll_nil, asgK_normal, roundK_normal, roundK_ret, roundK_exit, *]
    | (refine seqK_now ?_)
    | (refine retK_now ?_)
    | (refine retK_now' ?_)
    | (intro q hq)
    | (refine cond_intro (fun hc => ?_) (fun hc => ?_)))
  have h : sliceA 2 (.val (.slice none 0 0)) none (some (.val (.int .i64 0))) (some (.val (.int .i64 0))) = some (.val (.slice none 0 0)) := rfl
  rw [h]
  (repeat' first
    | simp (contextual := true) (maxSteps := 4000000) only [fwc, fwe, cmd_seq, opsW_gpure, drawW_pure, drawW_gpure, Env.upd_apply, Heap.upd_same, Heap.upd_apply, ite_none, List.getD_cons_zero, List.getD_cons_succ, List.getD_nil, List.length_cons, List.length_nil, List.map_cons, List.map_nil, List.getElem?_cons_zero, List.getElem?_cons_succ, List.getElem?_nil, List.set_cons_zero, List.set_cons_succ, List.take_succ_cons, List.take_zero, List.drop_succ_cons, List.drop_zero, List.nil_append, List.cons_append, List.append_nil, Option.map_some, Option.map_none, Option.bind_some, Option.bind_none, reduceIte, ↓reduceIte, decide_true, decide_false, Bool.true_and, Bool.and_true, Bool.false_and, Bool.and_false, true_and, and_true, and_self, Nat.reduceAdd, Nat.reduceLeDiff, Nat.reduceEqDiff, Nat.zero_add, Nat.add_zero, Nat.le_refl, Nat.zero_le, ge_iff_le, Nat.reduceLT, Nat.zero_lt_succ, Nat.reduceSub, if_true, if_false, forall_const, reduceCtorEq, Bool.not_true, Bool.not_false, Bool.false_eq_true, Int.reduceEq, Int.reduceLT, Int.reduceLE, Int.reduceNeg, Int.reduceToNat, Int.reduceAdd, Int.reduceSub, Nat.reduceMul, Nat.reduceEqDiff, gW_un, gcF_un, gcA_un, ci_mkmap, ci_mapset, ci_lookup, ci_maxl, ci_appz, pi_lookup, pi_maxl, pu_lookup, pu_maxl, maxl_nil, maxl_one, maxl_cons, cells_mapr, stor_mapr, callv_yld, mm_max, mm_min, putAll_cons, putAll_nil, asgK_normal, roundK_normal, roundK_ret, roundK_exit, *]
    | (refine seqK_now ?_)
    | (refine retK_now ?_)
    | (refine retK_now' ?_)
    | (intro q hq)
    | (refine cond_intro (fun hc => ?_) (fun hc => ?_)))
  refine WeakR.pure (by repeat (first | exact Heap.sub_refl _ | refine sub_upd (by simp only [*]) ?_)) ?_
  rfl
theorem Clone_nil : PureA Try.prog 46 [.val (.slice none 0 0)] (.val (.slice none 0 0)) := by
  intro O
  refine k46.call mix ?_
  unfold c46
  (repeat' first
    | simp (contextual := true) (maxSteps := 4000000) only [fwc, fwe, cmd_seq, opsW_gpure, drawW_pure, drawW_gpure, Env.upd_apply, Heap.upd_same, Heap.upd_apply, ite_none, List.getD_cons_zero, List.getD_cons_succ, List.getD_nil, List.length_cons, List.length_nil, List.map_cons, List.map_nil, List.getElem?_cons_zero, List.getElem?_cons_succ, List.getElem?_nil, List.set_cons_zero, List.set_cons_succ, List.take_succ_cons, List.take_zero, List.drop_succ_cons, List.drop_zero, List.nil_append, List.cons_append, List.append_nil, Option.map_some, Option.map_none, Option.bind_some, Option.bind_none, reduceIte, ↓reduceIte, decide_true, decide_false, Bool.true_and, Bool.and_true, Bool.false_and, Bool.and_false, true_and, and_true, and_self, Nat.reduceAdd, Nat.reduceLeDiff, Nat.reduceEqDiff, Nat.zero_add, Nat.add_zero, Nat.le_refl, Nat.zero_le, ge_iff_le, Nat.reduceLT, Nat.zero_lt_succ, Nat.reduceSub, if_true, if_false, forall_const, reduceCtorEq, Bool.not_true, Bool.not_false, Bool.false_eq_true, Int.reduceEq, Int.reduceLT, Int.reduceLE, Int.reduceNeg, Int.reduceToNat, Int.reduceAdd, Int.reduceSub, Nat.reduceMul, Nat.reduceEqDiff, gW_un, gcF_un, gcA_un, ci_mkmap, ci_mapset, ci_lookup, ci_maxl, ci_appz, pi_lookup, pi_maxl, pu_lookup, pu_maxl, maxl_nil, maxl_one, maxl_cons, cells_mapr, stor_mapr, callv_yld, mm_max, mm_min, putAll_cons, putAll_nil, asgK_normal, roundK_normal, roundK_ret, roundK_exit, *]
    | (refine seqK_now ?_)
    | (refine retK_now ?_)
    | (refine retK_now' ?_)
    | (intro q hq)
    | (refine cond_intro (fun hc => ?_) (fun hc => ?_)))
  refine WeakR.pure (by repeat (first | exact Heap.sub_refl _ | refine sub_upd (by simp only [*]) ?_)) ?_
  rfl
theorem Clone_list (t : Bool) (l : List AV) (hl : l.length ≤ 1048576) : PureA Try.prog 46 [.list 2 t l] (.list 2 false l) := by
  intro O
  refine k46.call mix ?_
  unfold c46
  (repeat' first
    | simp (contextual := true) (maxSteps := 4000000) only [fwc, fwe, cmd_seq, opsW_gpure, drawW_pure, drawW_gpure, Env.upd_apply, Heap.upd_same, Heap.upd_apply, ite_none, List.getD_cons_zero, List.getD_cons_succ, List.getD_nil, List.length_cons, List.length_nil, List.map_cons, List.map_nil, List.getElem?_cons_zero, List.getElem?_cons_succ, List.getElem?_nil, List.set_cons_zero, List.set_cons_succ, List.take_succ_cons, List.take_zero, List.drop_succ_cons, List.drop_zero, List.nil_append, List.cons_append, List.append_nil, Option.map_some, Option.map_none, Option.bind_some, Option.bind_none, reduceIte, ↓reduceIte, decide_true, decide_false, Bool.true_and, Bool.and_true, Bool.false_and, Bool.and_false, true_and, and_true, and_self, Nat.reduceAdd, Nat.reduceLeDiff, Nat.reduceEqDiff, Nat.zero_add, Nat.add_zero, Nat.le_refl, Nat.zero_le, ge_iff_le, Nat.reduceLT, Nat.zero_lt_succ, Nat.reduceSub, if_true, if_false, forall_const, reduceCtorEq, Bool.not_true, Bool.not_false, Bool.false_eq_true, Int.reduceEq, Int.reduceLT, Int.reduceLE, Int.reduceNeg, Int.reduceToNat, Int.reduceAdd, Int.reduceSub, Nat.reduceMul, Nat.reduceEqDiff, gW_un, gcF_un, gcA_un, ci_mkmap, ci_mapset, ci_lookup, ci_maxl, ci_appz, pi_lookup, pi_maxl, pu_lookup, pu_maxl, maxl_nil, maxl_one, maxl_cons, cells_mapr, stor_mapr, callv_yld, mm_max, mm_min, putAll_cons, putAll_nil, asgK_normal, roundK_normal, roundK_ret, roundK_exit, *]
    | (refine seqK_now ?_)
    | (refine retK_now ?_)
    | (refine retK_now' ?_)
    | (intro q hq)
    | (refine cond_intro (fun hc => ?_) (fun hc => ?_)))
  refine app_list (el_list _ _ _ _) ?_ ?_
  · exact fits_of (by simp only [List.length_nil, List.length_cons, Nat.zero_add, List.length_map, List.length_append, List.length_take, List.length_drop]; omega) (by omega)
  (repeat' first
    | simp (contextual := true) (maxSteps := 4000000) only [fwc, fwe, cmd_seq, opsW_gpure, drawW_pure, drawW_gpure, Env.upd_apply, Heap.upd_same, Heap.upd_apply, ite_none, List.getD_cons_zero, List.getD_cons_succ, List.getD_nil, List.length_cons, List.length_nil, List.map_cons, List.map_nil, List.getElem?_cons_zero, List.getElem?_cons_succ, List.getElem?_nil, List.set_cons_zero, List.set_cons_succ, List.take_succ_cons, List.take_zero, List.drop_succ_cons, List.drop_zero, List.nil_append, List.cons_append, List.append_nil, Option.map_some, Option.map_none, Option.bind_some, Option.bind_none, reduceIte, ↓reduceIte, decide_true, decide_false, Bool.true_and, Bool.and_true, Bool.false_and, Bool.and_false, true_and, and_true, and_self, Nat.reduceAdd, Nat.reduceLeDiff, Nat.reduceEqDiff, Nat.zero_add, Nat.add_zero, Nat.le_refl, Nat.zero_le, ge_iff_le, Nat.reduceLT, Nat.zero_lt_succ, Nat.reduceSub, if_true, if_false, forall_const, reduceCtorEq, Bool.not_true, Bool.not_false, Bool.false_eq_true, Int.reduceEq, Int.reduceLT, Int.reduceLE, Int.reduceNeg, Int.reduceToNat, Int.reduceAdd, Int.reduceSub, Nat.reduceMul, Nat.reduceEqDiff, gW_un, gcF_un, gcA_un, ci_mkmap, ci_mapset, ci_lookup, ci_maxl, ci_appz, pi_lookup, pi_maxl, pu_lookup, pu_maxl, maxl_nil, maxl_one, maxl_cons, cells_mapr, stor_mapr, callv_yld, mm_max, mm_min, putAll_cons, putAll_nil, asgK_normal, roundK_normal, roundK_ret, roundK_exit, *]
    | (refine seqK_now ?_)
    | (refine retK_now ?_)
    | (refine retK_now' ?_)
    | (intro q hq)
    | (refine cond_intro (fun hc => ?_) (fun hc => ?_)))
  refine WeakR.pure (by repeat (first | exact Heap.sub_refl _ | refine sub_upd (by simp only [*]) ?_)) ?_
  rfl
def cpS : AV → AV
  | .list s _ l => .list s true l
  | x => x
theorem cpS_T {sz : Nat} {s : AV} {L : List AV} (h : IsL sz s L) : IsT sz (cpS s) L := by
  rcases h with ⟨rfl, rfl⟩ | ⟨t, rfl⟩
  · exact IsT.nil
  · exact IsT.list
def cl2 : AV → AV
  | .list s _ l => .list s false l
  | x => x
theorem cl2_L {sz : Nat} {s : AV} {L : List AV} (h : IsL sz s L) : IsL sz (cl2 s) L := by
  rcases h with ⟨rfl, rfl⟩ | ⟨t, rfl⟩
  · exact IsL.nil
  · exact IsL.list
theorem Clone_ok {s : AV} {L : List AV} (h : IsL 2 s L) (hl : L.length ≤ 1048576) : PureA Try.prog 46 [s] (cl2 s) := by
  rcases h with ⟨rfl, rfl⟩ | ⟨t, rfl⟩
  · exact Clone_nil
  · exact Clone_list t L hl
theorem Clip_ok {s : AV} {L : List AV} (h : IsL 2 s L) : PureA Try.prog 48 [cl2 s] (cpS s) := by
  rcases h with ⟨rfl, rfl⟩ | ⟨t, rfl⟩
  · exact Clip_nil
  · exact Clip_list false L

/-- The slice with an index, or nil. -/
def getA (l : List AV) (i : Nat) : AV := l.getD i (.val (.slice none 0 0))
theorem get_ok {s : AV} {l : List AV} (h : IsL 1 s l) (i : Nat) (hl : l.length ≤ 1048576) (hs : ∀ x ∈ l, ∃ L, IsL 2 x L) : PureA Try.prog 49 [s, .val (.int .i64 i)] (getA l i) := by
  intro O
  have h1 := h.len
  refine k49.call mix ?_
  unfold c49
  (repeat' first
    | simp (contextual := true) (maxSteps := 4000000) only [fwc, fwe, cmd_seq, opsW_gpure, drawW_pure, drawW_gpure, Env.upd_apply, Heap.upd_same, Heap.upd_apply, ite_none, List.getD_cons_zero, List.getD_cons_succ, List.getD_nil, List.length_cons, List.length_nil, List.map_cons, List.map_nil, List.getElem?_cons_zero, List.getElem?_cons_succ, List.getElem?_nil, List.set_cons_zero, List.set_cons_succ, List.take_succ_cons, List.take_zero, List.drop_succ_cons, List.drop_zero, List.nil_append, List.cons_append, List.append_nil, Option.map_some, Option.map_none, Option.bind_some, Option.bind_none, reduceIte, ↓reduceIte, decide_true, decide_false, Bool.true_and, Bool.and_true, Bool.false_and, Bool.and_false, true_and, and_true, and_self, Nat.reduceAdd, Nat.reduceLeDiff, Nat.reduceEqDiff, Nat.zero_add, Nat.add_zero, Nat.le_refl, Nat.zero_le, ge_iff_le, Nat.reduceLT, Nat.zero_lt_succ, Nat.reduceSub, if_true, if_false, forall_const, reduceCtorEq, Bool.not_true, Bool.not_false, Bool.false_eq_true, Int.reduceEq, Int.reduceLT, Int.reduceLE, Int.reduceNeg, Int.reduceToNat, Int.reduceAdd, Int.reduceSub, Nat.reduceMul, Nat.reduceEqDiff, gW_un, gcF_un, gcA_un, ci_mkmap, ci_mapset, ci_lookup, ci_maxl, ci_appz, pi_lookup, pi_maxl, pu_lookup, pu_maxl, maxl_nil, maxl_one, maxl_cons, cells_mapr, stor_mapr, callv_yld, mm_max, mm_min, putAll_cons, putAll_nil, asgK_normal, roundK_normal, roundK_ret, roundK_exit, ilt_nat, *]
    | (refine seqK_now ?_)
    | (refine retK_now ?_)
    | (refine retK_now' ?_)
    | (intro q hq)
    | (refine cond_intro (fun hc => ?_) (fun hc => ?_)))
  · have hi : i < l.length := of_decide_eq_true hc
    clear hc
    have hia := h.ia hi
    obtain ⟨L, hL⟩ := hs _ (List.getElem_mem hi)
    have hcl := hL.cells
    (repeat' first
    | simp (contextual := true) (maxSteps := 4000000) only [fwc, fwe, cmd_seq, opsW_gpure, drawW_pure, drawW_gpure, Env.upd_apply, Heap.upd_same, Heap.upd_apply, ite_none, List.getD_cons_zero, List.getD_cons_succ, List.getD_nil, List.length_cons, List.length_nil, List.map_cons, List.map_nil, List.getElem?_cons_zero, List.getElem?_cons_succ, List.getElem?_nil, List.set_cons_zero, List.set_cons_succ, List.take_succ_cons, List.take_zero, List.drop_succ_cons, List.drop_zero, List.nil_append, List.cons_append, List.append_nil, Option.map_some, Option.map_none, Option.bind_some, Option.bind_none, reduceIte, ↓reduceIte, decide_true, decide_false, Bool.true_and, Bool.and_true, Bool.false_and, Bool.and_false, true_and, and_true, and_self, Nat.reduceAdd, Nat.reduceLeDiff, Nat.reduceEqDiff, Nat.zero_add, Nat.add_zero, Nat.le_refl, Nat.zero_le, ge_iff_le, Nat.reduceLT, Nat.zero_lt_succ, Nat.reduceSub, if_true, if_false, forall_const, reduceCtorEq, Bool.not_true, Bool.not_false, Bool.false_eq_true, Int.reduceEq, Int.reduceLT, Int.reduceLE, Int.reduceNeg, Int.reduceToNat, Int.reduceAdd, Int.reduceSub, Nat.reduceMul, Nat.reduceEqDiff, gW_un, gcF_un, gcA_un, ci_mkmap, ci_mapset, ci_lookup, ci_maxl, ci_appz, pi_lookup, pi_maxl, pu_lookup, pu_maxl, maxl_nil, maxl_one, maxl_cons, cells_mapr, stor_mapr, callv_yld, mm_max, mm_min, putAll_cons, putAll_nil, asgK_normal, roundK_normal, roundK_ret, roundK_exit, part_cell, *]
    | (refine seqK_now ?_)
    | (refine retK_now ?_)
    | (refine retK_now' ?_)
    | (intro q hq)
    | (refine cond_intro (fun hc => ?_) (fun hc => ?_)))
    refine WeakR.pure (by repeat (first | exact Heap.sub_refl _ | refine sub_upd (by simp only [*]) ?_)) ?_
    rw [getA, List.getD_eq_getElem?_getD, List.getElem?_eq_getElem hi]
    rfl
  · have hi : ¬ i < l.length := of_decide_eq_false hc
    refine WeakR.pure (by repeat (first | exact Heap.sub_refl _ | refine sub_upd (by simp only [*]) ?_)) ?_
    rw [getA, List.getD_eq_getElem?_getD, List.getElem?_eq_none (by omega)]
    rfl
end Go.Proofs.Ytlpngkeegjickab

namespace Go.Proofs.Ytlpngkeegjickab
open Go.Ab
attribute [local irreducible] WeakR WeakE CallA YieldA

/-- Slices of names. -/
def StkAll (es : List AV) : Prop := ∀ x ∈ es, ∃ L : List Id, IsL 2 x (L.map Id.av)

theorem all_ok (f b : AV) (hf : f.cells = [f]) (hb : b.cells = [b]) (hf' : f.stor = true) (hb' : b.stor = true) : PureA Try.prog 33 [.agg [f, b]] (.clo (.func 54) [] [.ref (.agg [f, b])]) := by
  intro O
  refine k33.call mix ?_
  unfold c33
  (repeat' first
    | simp (contextual := true) (maxSteps := 4000000) only [fwc, fwe, cmd_seq, opsW_gpure, drawW_pure, drawW_gpure, Env.upd_apply, Heap.upd_same, Heap.upd_apply, ite_none, List.getD_cons_zero, List.getD_cons_succ, List.getD_nil, List.length_cons, List.length_nil, List.map_cons, List.map_nil, List.getElem?_cons_zero, List.getElem?_cons_succ, List.getElem?_nil, List.set_cons_zero, List.set_cons_succ, List.take_succ_cons, List.take_zero, List.drop_succ_cons, List.drop_zero, List.nil_append, List.cons_append, List.append_nil, Option.map_some, Option.map_none, Option.bind_some, Option.bind_none, reduceIte, ↓reduceIte, decide_true, decide_false, Bool.true_and, Bool.and_true, Bool.false_and, Bool.and_false, true_and, and_true, and_self, Nat.reduceAdd, Nat.reduceLeDiff, Nat.reduceEqDiff, Nat.zero_add, Nat.add_zero, Nat.le_refl, Nat.zero_le, ge_iff_le, Nat.reduceLT, Nat.zero_lt_succ, Nat.reduceSub, if_true, if_false, forall_const, reduceCtorEq, Bool.not_true, Bool.not_false, Bool.false_eq_true, Int.reduceEq, Int.reduceLT, Int.reduceLE, Int.reduceNeg, Int.reduceToNat, Int.reduceAdd, Int.reduceSub, Nat.reduceMul, Nat.reduceEqDiff, gW_un, gcF_un, gcA_un, ci_mkmap, ci_mapset, ci_lookup, ci_maxl, ci_appz, pi_lookup, pi_maxl, pu_lookup, pu_maxl, maxl_nil, maxl_one, maxl_cons, cells_mapr, stor_mapr, callv_yld, mm_max, mm_min, putAll_cons, putAll_nil, asgK_normal, roundK_normal, roundK_ret, roundK_exit, *]
    | (refine seqK_now ?_)
    | (refine retK_now ?_)
    | (refine retK_now' ?_)
    | (intro q hq)
    | (refine cond_intro (fun hc => ?_) (fun hc => ?_)))
  refine WeakR.pureF q 2 26 [.agg [f, b]] (Heap.upd_same _ _ _) (.clo _ [] [] [.optr q 2 0 0] [.ref (.agg [f, b])] rfl rfl (fun i x y hx => by simp at hx) (fun i x y hx hy => ?_)) (by rw [del_upd_new hq]; exact Heap.sub_refl _) rfl
  match i, hx, hy with
  | 0, hx, hy => simp at hx hy; subst hx hy; exact .optr 0 _ rfl

def nd (n0 j : Nat) : Ndl := if j < n0 then ⟨0, j + 1⟩ else ⟨1, ((j - n0 + 1 : Nat) : Int)⟩

def envO (id : Nat) (f b : AV) (k : Nat) : Env := ((((Env.upd (fun _ => .junk) 12 (.val (.int .i64 k))).upd 11 (.val (.int .i64 2))).upd 10 (.list 1 true [f, b])).upd 0 (.yld id))
def envIn (id : Nat) (f b : AV) (k : Nat) (x : AV) (m i : Nat) : Env := (((((((Env.upd (fun _ => .junk) 20 (.val (.int .i64 i))).upd 19 (.val (.int .i64 m))).upd 12 (.val (.int .i64 k))).upd 11 (.val (.int .i64 2))).upd 10 (.list 1 true [f, b])).upd 4 x).upd 3 (.val (.int .i64 k))).upd 0 (.yld id)

theorem wrap_u8n {k : Nat} (h : k < 256) : IntKind.u8.wrap (k : Int) = (k : Int) := wrap_u8 (by omega) (by omega)
theorem min40 (n : Nat) : (if (40 : Int) < (n : Int) then (40 : Int) else (n : Int)) = ((min n 40 : Nat) : Int) := by
  split <;> omega

set_option maxHeartbeats 4000000 in
theorem all1_ok (id : Nat) (f b : AV) (es fs : List AV) (hf : IsL 1 f es) (hb : IsL 1 b fs) (he : StkAll es) (hfs : StkAll fs) (O : Heap) (J : Nat → Heap → Prop) (Z : Heap → Prop)
    (h0 : J 0 O)
    (hy : ∀ j (h : j < (es.take 40 ++ fs.take 40).length) O, J j O → YieldA Try.prog id [(nd (min es.length 40) j).av, (es.take 40 ++ fs.take 40)[j]] O fun r O' => (r = .val (.bool true) ∧ J (j + 1) O') ∨ (r = .val (.bool false) ∧ Z O')) :
    CallA Try.prog 54 [.yld id, .ref (.agg [f, b])] O fun _ O' => J (es.take 40 ++ fs.take 40).length O' ∨ Z O' := by
  have hf1 := hf.cells
  have hb1 := hb.cells
  have hf2 := hf.stor
  have hb2 := hb.stor
  replace h0 := (show Aside _ from h0)
  replace hy := (show Aside _ from hy)
  have hln : (es.take 40 ++ fs.take 40).length = min es.length 40 + min fs.length 40 := by simp; omega
  refine k54.call mix ?_
  unfold c54
  refine seq_go ?_
  (repeat' first
    | simp (contextual := true) (maxSteps := 4000000) only [fwc, fwe, opsW_gpure, drawW_pure, drawW_gpure, Env.upd_apply, Heap.upd_same, Heap.upd_apply, ite_none, List.getD_cons_zero, List.getD_cons_succ, List.getD_nil, List.length_cons, List.length_nil, List.map_cons, List.map_nil, List.getElem?_cons_zero, List.getElem?_cons_succ, List.getElem?_nil, List.set_cons_zero, List.set_cons_succ, List.take_succ_cons, List.take_zero, List.drop_succ_cons, List.drop_zero, List.nil_append, List.cons_append, List.append_nil, Option.map_some, Option.map_none, Option.bind_some, Option.bind_none, reduceIte, ↓reduceIte, decide_true, decide_false, Bool.true_and, Bool.and_true, Bool.false_and, Bool.and_false, true_and, and_true, and_self, Nat.reduceAdd, Nat.reduceLeDiff, Nat.reduceEqDiff, Nat.zero_add, Nat.add_zero, Nat.le_refl, Nat.zero_le, ge_iff_le, Nat.reduceLT, Nat.zero_lt_succ, Nat.reduceSub, if_true, if_false, forall_const, reduceCtorEq, Bool.not_true, Bool.not_false, Bool.false_eq_true, Int.reduceEq, Int.reduceLT, Int.reduceLE, Int.reduceNeg, Int.reduceToNat, Int.reduceAdd, Int.reduceSub, Nat.reduceMul, Nat.reduceEqDiff, gW_un, gcF_un, gcA_un, ci_mkmap, ci_mapset, ci_lookup, ci_maxl, ci_appz, pi_lookup, pi_maxl, pu_lookup, pu_maxl, maxl_nil, maxl_one, maxl_cons, cells_mapr, stor_mapr, callv_yld, mm_max, mm_min, putAll_cons, putAll_nil, asgK_normal, roundK_normal, roundK_ret, roundK_exit, *]
    | (refine retK_now ?_)
    | (refine retK_now' ?_)
    | (intro q hq)
    | (refine cond_intro (fun hc => ?_) (fun hc => ?_)))
  refine seqK_now ?_
  (repeat' first
    | simp (contextual := true) (maxSteps := 4000000) only [fwc, fwe, opsW_gpure, drawW_pure, drawW_gpure, Env.upd_apply, Heap.upd_same, Heap.upd_apply, ite_none, List.getD_cons_zero, List.getD_cons_succ, List.getD_nil, List.length_cons, List.length_nil, List.map_cons, List.map_nil, List.getElem?_cons_zero, List.getElem?_cons_succ, List.getElem?_nil, List.set_cons_zero, List.set_cons_succ, List.take_succ_cons, List.take_zero, List.drop_succ_cons, List.drop_zero, List.nil_append, List.cons_append, List.append_nil, Option.map_some, Option.map_none, Option.bind_some, Option.bind_none, reduceIte, ↓reduceIte, decide_true, decide_false, Bool.true_and, Bool.and_true, Bool.false_and, Bool.and_false, true_and, and_true, and_self, Nat.reduceAdd, Nat.reduceLeDiff, Nat.reduceEqDiff, Nat.zero_add, Nat.add_zero, Nat.le_refl, Nat.zero_le, ge_iff_le, Nat.reduceLT, Nat.zero_lt_succ, Nat.reduceSub, if_true, if_false, forall_const, reduceCtorEq, Bool.not_true, Bool.not_false, Bool.false_eq_true, Int.reduceEq, Int.reduceLT, Int.reduceLE, Int.reduceNeg, Int.reduceToNat, Int.reduceAdd, Int.reduceSub, Nat.reduceMul, Nat.reduceEqDiff, gW_un, gcF_un, gcA_un, ci_mkmap, ci_mapset, ci_lookup, ci_maxl, ci_appz, pi_lookup, pi_maxl, pu_lookup, pu_maxl, maxl_nil, maxl_one, maxl_cons, cells_mapr, stor_mapr, callv_yld, mm_max, mm_min, putAll_cons, putAll_nil, asgK_normal, roundK_normal, roundK_ret, roundK_exit, *]
    | (refine retK_now ?_)
    | (refine retK_now' ?_)
    | (intro q hq)
    | (refine cond_intro (fun hc => ?_) (fun hc => ?_)))
  obtain ⟨I, hI⟩ := hideI (fun m e O' => ∃ k : Nat, k ≤ 2 ∧ m = 2 - k ∧ J (if k = 0 then 0 else if k = 1 then min es.length 40 else min es.length 40 + min fs.length 40) O' ∧ e = envO id f b k)
  refine cmd_loop I 2 (by
    rw [hI.out]
    exact ⟨0, by omega, rfl, h0.out, rfl⟩) ?_
  intro m e O' hh
  rw [hI.out] at hh
  obtain ⟨k, h1, rfl, h2, rfl⟩ := hh
  replace h2 := (show Aside _ from h2)
  have hk2 : decide ((k : Int) < 2) = decide (k < 2) := decide_eq_decide.2 (by omega)
  unfold envO
  refine seq_go ?_
  (repeat' first
    | simp (contextual := true) (maxSteps := 4000000) only [fwc, fwe, opsW_gpure, drawW_pure, drawW_gpure, Env.upd_apply, Heap.upd_same, Heap.upd_apply, ite_none, List.getD_cons_zero, List.getD_cons_succ, List.getD_nil, List.length_cons, List.length_nil, List.map_cons, List.map_nil, List.getElem?_cons_zero, List.getElem?_cons_succ, List.getElem?_nil, List.set_cons_zero, List.set_cons_succ, List.take_succ_cons, List.take_zero, List.drop_succ_cons, List.drop_zero, List.nil_append, List.cons_append, List.append_nil, Option.map_some, Option.map_none, Option.bind_some, Option.bind_none, reduceIte, ↓reduceIte, decide_true, decide_false, Bool.true_and, Bool.and_true, Bool.false_and, Bool.and_false, true_and, and_true, and_self, Nat.reduceAdd, Nat.reduceLeDiff, Nat.reduceEqDiff, Nat.zero_add, Nat.add_zero, Nat.le_refl, Nat.zero_le, ge_iff_le, Nat.reduceLT, Nat.zero_lt_succ, Nat.reduceSub, if_true, if_false, forall_const, reduceCtorEq, Bool.not_true, Bool.not_false, Bool.false_eq_true, Int.reduceEq, Int.reduceLT, Int.reduceLE, Int.reduceNeg, Int.reduceToNat, Int.reduceAdd, Int.reduceSub, Nat.reduceMul, Nat.reduceEqDiff, gW_un, gcF_un, gcA_un, ci_mkmap, ci_mapset, ci_lookup, ci_maxl, ci_appz, pi_lookup, pi_maxl, pu_lookup, pu_maxl, maxl_nil, maxl_one, maxl_cons, cells_mapr, stor_mapr, callv_yld, mm_max, mm_min, putAll_cons, putAll_nil, asgK_normal, roundK_normal, roundK_ret, roundK_exit, hk2, *]
    | (refine retK_now ?_)
    | (refine retK_now' ?_)
    | (intro q hq)
    | (refine cond_intro (fun hc => ?_) (fun hc => ?_)))
  refine seqK_now ?_
  refine seq_go ?_
  (repeat' first
    | simp (contextual := true) (maxSteps := 4000000) only [fwc, fwe, opsW_gpure, drawW_pure, drawW_gpure, Env.upd_apply, Heap.upd_same, Heap.upd_apply, ite_none, List.getD_cons_zero, List.getD_cons_succ, List.getD_nil, List.length_cons, List.length_nil, List.map_cons, List.map_nil, List.getElem?_cons_zero, List.getElem?_cons_succ, List.getElem?_nil, List.set_cons_zero, List.set_cons_succ, List.take_succ_cons, List.take_zero, List.drop_succ_cons, List.drop_zero, List.nil_append, List.cons_append, List.append_nil, Option.map_some, Option.map_none, Option.bind_some, Option.bind_none, reduceIte, ↓reduceIte, decide_true, decide_false, Bool.true_and, Bool.and_true, Bool.false_and, Bool.and_false, true_and, and_true, and_self, Nat.reduceAdd, Nat.reduceLeDiff, Nat.reduceEqDiff, Nat.zero_add, Nat.add_zero, Nat.le_refl, Nat.zero_le, ge_iff_le, Nat.reduceLT, Nat.zero_lt_succ, Nat.reduceSub, if_true, if_false, forall_const, reduceCtorEq, Bool.not_true, Bool.not_false, Bool.false_eq_true, Int.reduceEq, Int.reduceLT, Int.reduceLE, Int.reduceNeg, Int.reduceToNat, Int.reduceAdd, Int.reduceSub, Nat.reduceMul, Nat.reduceEqDiff, gW_un, gcF_un, gcA_un, ci_mkmap, ci_mapset, ci_lookup, ci_maxl, ci_appz, pi_lookup, pi_maxl, pu_lookup, pu_maxl, maxl_nil, maxl_one, maxl_cons, cells_mapr, stor_mapr, callv_yld, mm_max, mm_min, putAll_cons, putAll_nil, asgK_normal, roundK_normal, roundK_ret, roundK_exit, *]
    | (refine retK_now ?_)
    | (refine retK_now' ?_)
    | (intro q hq)
    | (refine cond_intro (fun hc => ?_) (fun hc => ?_)))
  · have hk : k < 2 := of_decide_eq_true hc
    clear hc
    obtain ⟨x, xs, off, hx, hst, hnx, hel, hia, hxs⟩ : ∃ (x : AV) (xs : List AV) (off : Nat), IsL 1 x xs ∧ (if k = 0 then 0 else if k = 1 then min es.length 40 else min es.length 40 + min fs.length 40) = off ∧
        (if k + 1 = 0 then 0 else if k + 1 = 1 then min es.length 40 else min es.length 40 + min fs.length 40) = off + min xs.length 40 ∧
        (∀ i, i < min xs.length 40 → ∃ (h' : off + i < (es.take 40 ++ fs.take 40).length) (h'' : i < xs.length), (es.take 40 ++ fs.take 40)[off + i]'h' = xs[i]'h'' ∧ nd (min es.length 40) (off + i) = ⟨k, ((i + 1 : Nat) : Int)⟩) ∧
        indexAddrA 1 (k : Int) (.list 1 true [f, b]) = some (.ref x) ∧ StkAll xs := by
      rcases Nat.lt_or_ge k 1 with hk' | hk'
      · have : k = 0 := by omega
        subst this
        refine ⟨f, es, 0, hf, by simp, by simp, fun i hi => ⟨by rw [hln]; omega, by omega, ?_, ?_⟩, ia_nat (by simp), he⟩
        · rw [List.getElem_append_left (by simp; omega)]; simp
        · simp only [nd, Nat.zero_add]
          rw [if_pos (by omega)]
          rfl
      · have : k = 1 := by omega
        subst this
        refine ⟨b, fs, min es.length 40, hb, by simp, by simp, fun i hi => ⟨by rw [hln]; omega, by omega, ?_, ?_⟩, ia_nat (by simp), hfs⟩
        · rw [List.getElem_append_right (by simp; omega)]
          simp only [List.length_take, List.getElem_take]
          congr 1
          omega
        · simp only [nd]
          rw [if_neg (by omega), show min es.length 40 + i - min es.length 40 = i by omega]
          rfl
    rw [hst] at h2
    have hx1 := hx.cells
    have hx2 := hx.len
    have hx3 := hx.stor
    have hh4 := (show Aside _ from hel)
    clear hel
    (repeat' first
    | simp (contextual := true) (maxSteps := 4000000) only [fwc, fwe, cmd_seq, opsW_gpure, drawW_pure, drawW_gpure, Env.upd_apply, Heap.upd_same, Heap.upd_apply, ite_none, List.getD_cons_zero, List.getD_cons_succ, List.getD_nil, List.length_cons, List.length_nil, List.map_cons, List.map_nil, List.getElem?_cons_zero, List.getElem?_cons_succ, List.getElem?_nil, List.set_cons_zero, List.set_cons_succ, List.take_succ_cons, List.take_zero, List.drop_succ_cons, List.drop_zero, List.nil_append, List.cons_append, List.append_nil, Option.map_some, Option.map_none, Option.bind_some, Option.bind_none, reduceIte, ↓reduceIte, decide_true, decide_false, Bool.true_and, Bool.and_true, Bool.false_and, Bool.and_false, true_and, and_true, and_self, Nat.reduceAdd, Nat.reduceLeDiff, Nat.reduceEqDiff, Nat.zero_add, Nat.add_zero, Nat.le_refl, Nat.zero_le, ge_iff_le, Nat.reduceLT, Nat.zero_lt_succ, Nat.reduceSub, if_true, if_false, forall_const, reduceCtorEq, Bool.not_true, Bool.not_false, Bool.false_eq_true, Int.reduceEq, Int.reduceLT, Int.reduceLE, Int.reduceNeg, Int.reduceToNat, Int.reduceAdd, Int.reduceSub, Nat.reduceMul, Nat.reduceEqDiff, gW_un, gcF_un, gcA_un, ci_mkmap, ci_mapset, ci_lookup, ci_maxl, ci_appz, pi_lookup, pi_maxl, pu_lookup, pu_maxl, maxl_nil, maxl_one, maxl_cons, cells_mapr, stor_mapr, callv_yld, mm_max, mm_min, putAll_cons, putAll_nil, asgK_normal, roundK_normal, roundK_ret, roundK_exit, hia, part_cell, min40, *]
    | (refine seqK_now ?_)
    | (refine retK_now ?_)
    | (refine retK_now' ?_)
    | (intro q hq)
    | (refine cond_intro (fun hc => ?_) (fun hc => ?_)))
    obtain ⟨I2, hI2⟩ := hideI (fun m e O' => ∃ i : Nat, i ≤ min xs.length 40 ∧ m = min xs.length 40 - i ∧ J (off + i) O' ∧ e = envIn id f b k x (min xs.length 40) i)
    refine cmd_loop I2 (min xs.length 40) (by
      rw [hI2.out]
      exact ⟨0, by omega, rfl, h2.out, rfl⟩) ?_
    intro m2 e2 O2 hh2
    rw [hI2.out] at hh2
    obtain ⟨i, h3, rfl, h5, rfl⟩ := hh2
    replace h5 := (show Aside _ from h5)
    unfold envIn
    (repeat' first
    | simp (contextual := true) (maxSteps := 4000000) only [fwc, fwe, cmd_seq, opsW_gpure, drawW_pure, drawW_gpure, Env.upd_apply, Heap.upd_same, Heap.upd_apply, ite_none, List.getD_cons_zero, List.getD_cons_succ, List.getD_nil, List.length_cons, List.length_nil, List.map_cons, List.map_nil, List.getElem?_cons_zero, List.getElem?_cons_succ, List.getElem?_nil, List.set_cons_zero, List.set_cons_succ, List.take_succ_cons, List.take_zero, List.drop_succ_cons, List.drop_zero, List.nil_append, List.cons_append, List.append_nil, Option.map_some, Option.map_none, Option.bind_some, Option.bind_none, reduceIte, ↓reduceIte, decide_true, decide_false, Bool.true_and, Bool.and_true, Bool.false_and, Bool.and_false, true_and, and_true, and_self, Nat.reduceAdd, Nat.reduceLeDiff, Nat.reduceEqDiff, Nat.zero_add, Nat.add_zero, Nat.le_refl, Nat.zero_le, ge_iff_le, Nat.reduceLT, Nat.zero_lt_succ, Nat.reduceSub, if_true, if_false, forall_const, reduceCtorEq, Bool.not_true, Bool.not_false, Bool.false_eq_true, Int.reduceEq, Int.reduceLT, Int.reduceLE, Int.reduceNeg, Int.reduceToNat, Int.reduceAdd, Int.reduceSub, Nat.reduceMul, Nat.reduceEqDiff, gW_un, gcF_un, gcA_un, ci_mkmap, ci_mapset, ci_lookup, ci_maxl, ci_appz, pi_lookup, pi_maxl, pu_lookup, pu_maxl, maxl_nil, maxl_one, maxl_cons, cells_mapr, stor_mapr, callv_yld, mm_max, mm_min, putAll_cons, putAll_nil, asgK_normal, roundK_normal, roundK_ret, roundK_exit, ilt_nat, *]
    | (refine seqK_now ?_)
    | (refine retK_now ?_)
    | (refine retK_now' ?_)
    | (intro q hq)
    | (refine cond_intro (fun hc => ?_) (fun hc => ?_)))
    · have hi : i < min xs.length 40 := of_decide_eq_true hc
      clear hc
      obtain ⟨g1, g2, g3, g4⟩ := hh4.out i hi
      have hxi := hx.ia g2
      obtain ⟨L, hL⟩ := hxs _ (List.getElem_mem g2)
      have hL1 := hL.cells
      have hw : i < 4611686018427387904 := by omega
      have hw8 : k < 256 := by omega
      have hY := hy.out (off + i) g1 O2 h5.out
      rw [g3, g4, show Ndl.av ⟨k, ((i + 1 : Nat) : Int)⟩ = .agg [.val (.int .u8 k), .val (.int .i64 ((i + 1 : Nat) : Int))] from rfl] at hY
      replace hY := (show Aside _ from hY)
      clear g3 g4
      (repeat' first
    | simp (contextual := true) (maxSteps := 4000000) only [fwc, fwe, cmd_seq, opsW_gpure, drawW_pure, drawW_gpure, Env.upd_apply, Heap.upd_same, Heap.upd_apply, ite_none, List.getD_cons_zero, List.getD_cons_succ, List.getD_nil, List.length_cons, List.length_nil, List.map_cons, List.map_nil, List.getElem?_cons_zero, List.getElem?_cons_succ, List.getElem?_nil, List.set_cons_zero, List.set_cons_succ, List.take_succ_cons, List.take_zero, List.drop_succ_cons, List.drop_zero, List.nil_append, List.cons_append, List.append_nil, Option.map_some, Option.map_none, Option.bind_some, Option.bind_none, reduceIte, ↓reduceIte, decide_true, decide_false, Bool.true_and, Bool.and_true, Bool.false_and, Bool.and_false, true_and, and_true, and_self, Nat.reduceAdd, Nat.reduceLeDiff, Nat.reduceEqDiff, Nat.zero_add, Nat.add_zero, Nat.le_refl, Nat.zero_le, ge_iff_le, Nat.reduceLT, Nat.zero_lt_succ, Nat.reduceSub, if_true, if_false, forall_const, reduceCtorEq, Bool.not_true, Bool.not_false, Bool.false_eq_true, Int.reduceEq, Int.reduceLT, Int.reduceLE, Int.reduceNeg, Int.reduceToNat, Int.reduceAdd, Int.reduceSub, Nat.reduceMul, Nat.reduceEqDiff, gW_un, gcF_un, gcA_un, ci_mkmap, ci_mapset, ci_lookup, ci_maxl, ci_appz, pi_lookup, pi_maxl, pu_lookup, pu_maxl, maxl_nil, maxl_one, maxl_cons, cells_mapr, stor_mapr, callv_yld, mm_max, mm_min, putAll_cons, putAll_nil, asgK_normal, roundK_normal, roundK_ret, roundK_exit, hxi, part_cell, wrap_u8n, wrap_succ, *]
    | (refine seqK_now ?_)
    | (refine retK_now ?_)
    | (refine retK_now' ?_)
    | (intro q hq)
    | (refine cond_intro (fun hc => ?_) (fun hc => ?_)))
      refine YieldA.mono hY.out fun r O3 h => ?_
      clear hY
      rcases h with ⟨rfl, h6⟩ | ⟨rfl, h6⟩
      · have h6 := (show Aside _ from h6)
        (repeat' first
    | simp (contextual := true) (maxSteps := 4000000) only [fwc, fwe, cmd_seq, opsW_gpure, drawW_pure, drawW_gpure, Env.upd_apply, Heap.upd_same, Heap.upd_apply, ite_none, List.getD_cons_zero, List.getD_cons_succ, List.getD_nil, List.length_cons, List.length_nil, List.map_cons, List.map_nil, List.getElem?_cons_zero, List.getElem?_cons_succ, List.getElem?_nil, List.set_cons_zero, List.set_cons_succ, List.take_succ_cons, List.take_zero, List.drop_succ_cons, List.drop_zero, List.nil_append, List.cons_append, List.append_nil, Option.map_some, Option.map_none, Option.bind_some, Option.bind_none, reduceIte, ↓reduceIte, decide_true, decide_false, Bool.true_and, Bool.and_true, Bool.false_and, Bool.and_false, true_and, and_true, and_self, Nat.reduceAdd, Nat.reduceLeDiff, Nat.reduceEqDiff, Nat.zero_add, Nat.add_zero, Nat.le_refl, Nat.zero_le, ge_iff_le, Nat.reduceLT, Nat.zero_lt_succ, Nat.reduceSub, if_true, if_false, forall_const, reduceCtorEq, Bool.not_true, Bool.not_false, Bool.false_eq_true, Int.reduceEq, Int.reduceLT, Int.reduceLE, Int.reduceNeg, Int.reduceToNat, Int.reduceAdd, Int.reduceSub, Nat.reduceMul, Nat.reduceEqDiff, gW_un, gcF_un, gcA_un, ci_mkmap, ci_mapset, ci_lookup, ci_maxl, ci_appz, pi_lookup, pi_maxl, pu_lookup, pu_maxl, maxl_nil, maxl_one, maxl_cons, cells_mapr, stor_mapr, callv_yld, mm_max, mm_min, putAll_cons, putAll_nil, asgK_normal, roundK_normal, roundK_ret, roundK_exit, wrap_succ, *]
    | (refine seqK_now ?_)
    | (refine retK_now ?_)
    | (refine retK_now' ?_)
    | (intro q hq)
    | (refine cond_intro (fun hc => ?_) (fun hc => ?_)))
        refine loopK_now (min xs.length 40 - (i + 1)) (by omega) ?_
        rw [hI2.out]
        refine ⟨i + 1, by omega, rfl, h6.out, ?_⟩
        simp (contextual := true) (maxSteps := 4000000) only [fwc, fwe, cmd_seq, opsW_gpure, drawW_pure, drawW_gpure, Env.upd_apply, Heap.upd_same, Heap.upd_apply, ite_none, List.getD_cons_zero, List.getD_cons_succ, List.getD_nil, List.length_cons, List.length_nil, List.map_cons, List.map_nil, List.getElem?_cons_zero, List.getElem?_cons_succ, List.getElem?_nil, List.set_cons_zero, List.set_cons_succ, List.take_succ_cons, List.take_zero, List.drop_succ_cons, List.drop_zero, List.nil_append, List.cons_append, List.append_nil, Option.map_some, Option.map_none, Option.bind_some, Option.bind_none, reduceIte, ↓reduceIte, decide_true, decide_false, Bool.true_and, Bool.and_true, Bool.false_and, Bool.and_false, true_and, and_true, and_self, Nat.reduceAdd, Nat.reduceLeDiff, Nat.reduceEqDiff, Nat.zero_add, Nat.add_zero, Nat.le_refl, Nat.zero_le, ge_iff_le, Nat.reduceLT, Nat.zero_lt_succ, Nat.reduceSub, if_true, if_false, forall_const, reduceCtorEq, Bool.not_true, Bool.not_false, Bool.false_eq_true, Int.reduceEq, Int.reduceLT, Int.reduceLE, Int.reduceNeg, Int.reduceToNat, Int.reduceAdd, Int.reduceSub, Nat.reduceMul, Nat.reduceEqDiff, gW_un, gcF_un, gcA_un, ci_mkmap, ci_mapset, ci_lookup, ci_maxl, ci_appz, pi_lookup, pi_maxl, pu_lookup, pu_maxl, maxl_nil, maxl_one, maxl_cons, cells_mapr, stor_mapr, callv_yld, mm_max, mm_min, putAll_cons, putAll_nil, asgK_normal, roundK_normal, roundK_ret, roundK_exit, envIn, *]
      · have h6 := (show Aside _ from h6)
        (repeat' first
    | simp (contextual := true) (maxSteps := 4000000) only [fwc, fwe, cmd_seq, opsW_gpure, drawW_pure, drawW_gpure, Env.upd_apply, Heap.upd_same, Heap.upd_apply, ite_none, List.getD_cons_zero, List.getD_cons_succ, List.getD_nil, List.length_cons, List.length_nil, List.map_cons, List.map_nil, List.getElem?_cons_zero, List.getElem?_cons_succ, List.getElem?_nil, List.set_cons_zero, List.set_cons_succ, List.take_succ_cons, List.take_zero, List.drop_succ_cons, List.drop_zero, List.nil_append, List.cons_append, List.append_nil, Option.map_some, Option.map_none, Option.bind_some, Option.bind_none, reduceIte, ↓reduceIte, decide_true, decide_false, Bool.true_and, Bool.and_true, Bool.false_and, Bool.and_false, true_and, and_true, and_self, Nat.reduceAdd, Nat.reduceLeDiff, Nat.reduceEqDiff, Nat.zero_add, Nat.add_zero, Nat.le_refl, Nat.zero_le, ge_iff_le, Nat.reduceLT, Nat.zero_lt_succ, Nat.reduceSub, if_true, if_false, forall_const, reduceCtorEq, Bool.not_true, Bool.not_false, Bool.false_eq_true, Int.reduceEq, Int.reduceLT, Int.reduceLE, Int.reduceNeg, Int.reduceToNat, Int.reduceAdd, Int.reduceSub, Nat.reduceMul, Nat.reduceEqDiff, gW_un, gcF_un, gcA_un, ci_mkmap, ci_mapset, ci_lookup, ci_maxl, ci_appz, pi_lookup, pi_maxl, pu_lookup, pu_maxl, maxl_nil, maxl_one, maxl_cons, cells_mapr, stor_mapr, callv_yld, mm_max, mm_min, putAll_cons, putAll_nil, asgK_normal, roundK_normal, roundK_ret, roundK_exit, *]
    | (refine seqK_now ?_)
    | (refine retK_now ?_)
    | (refine retK_now' ?_)
    | (intro q hq)
    | (refine cond_intro (fun hc => ?_) (fun hc => ?_)))
        exact WeakR.now (.inr h6.out)
    · have hi : i = min xs.length 40 := by have := of_decide_eq_false hc; omega
      have hw : k < 4611686018427387904 := by omega
      subst hi
      have hk1 := (show Aside _ from hnx)
      clear hnx
      (repeat' first
    | simp (contextual := true) (maxSteps := 4000000) only [fwc, fwe, cmd_seq, opsW_gpure, drawW_pure, drawW_gpure, Env.upd_apply, Heap.upd_same, Heap.upd_apply, ite_none, List.getD_cons_zero, List.getD_cons_succ, List.getD_nil, List.length_cons, List.length_nil, List.map_cons, List.map_nil, List.getElem?_cons_zero, List.getElem?_cons_succ, List.getElem?_nil, List.set_cons_zero, List.set_cons_succ, List.take_succ_cons, List.take_zero, List.drop_succ_cons, List.drop_zero, List.nil_append, List.cons_append, List.append_nil, Option.map_some, Option.map_none, Option.bind_some, Option.bind_none, reduceIte, ↓reduceIte, decide_true, decide_false, Bool.true_and, Bool.and_true, Bool.false_and, Bool.and_false, true_and, and_true, and_self, Nat.reduceAdd, Nat.reduceLeDiff, Nat.reduceEqDiff, Nat.zero_add, Nat.add_zero, Nat.le_refl, Nat.zero_le, ge_iff_le, Nat.reduceLT, Nat.zero_lt_succ, Nat.reduceSub, if_true, if_false, forall_const, reduceCtorEq, Bool.not_true, Bool.not_false, Bool.false_eq_true, Int.reduceEq, Int.reduceLT, Int.reduceLE, Int.reduceNeg, Int.reduceToNat, Int.reduceAdd, Int.reduceSub, Nat.reduceMul, Nat.reduceEqDiff, gW_un, gcF_un, gcA_un, ci_mkmap, ci_mapset, ci_lookup, ci_maxl, ci_appz, pi_lookup, pi_maxl, pu_lookup, pu_maxl, maxl_nil, maxl_one, maxl_cons, cells_mapr, stor_mapr, callv_yld, mm_max, mm_min, putAll_cons, putAll_nil, asgK_normal, roundK_normal, roundK_ret, roundK_exit, wrap_succ, *]
    | (refine seqK_now ?_)
    | (refine retK_now ?_)
    | (refine retK_now' ?_)
    | (intro q hq)
    | (refine cond_intro (fun hc => ?_) (fun hc => ?_)))
      refine loopK_now (2 - (k + 1)) (by omega) ?_
      rw [hI.out]
      refine ⟨k + 1, by omega, rfl, ?_, ?_⟩
      · rw [hk1.out]; exact h5.out
      · simp (contextual := true) (maxSteps := 4000000) only [fwc, fwe, cmd_seq, opsW_gpure, drawW_pure, drawW_gpure, Env.upd_apply, Heap.upd_same, Heap.upd_apply, ite_none, List.getD_cons_zero, List.getD_cons_succ, List.getD_nil, List.length_cons, List.length_nil, List.map_cons, List.map_nil, List.getElem?_cons_zero, List.getElem?_cons_succ, List.getElem?_nil, List.set_cons_zero, List.set_cons_succ, List.take_succ_cons, List.take_zero, List.drop_succ_cons, List.drop_zero, List.nil_append, List.cons_append, List.append_nil, Option.map_some, Option.map_none, Option.bind_some, Option.bind_none, reduceIte, ↓reduceIte, decide_true, decide_false, Bool.true_and, Bool.and_true, Bool.false_and, Bool.and_false, true_and, and_true, and_self, Nat.reduceAdd, Nat.reduceLeDiff, Nat.reduceEqDiff, Nat.zero_add, Nat.add_zero, Nat.le_refl, Nat.zero_le, ge_iff_le, Nat.reduceLT, Nat.zero_lt_succ, Nat.reduceSub, if_true, if_false, forall_const, reduceCtorEq, Bool.not_true, Bool.not_false, Bool.false_eq_true, Int.reduceEq, Int.reduceLT, Int.reduceLE, Int.reduceNeg, Int.reduceToNat, Int.reduceAdd, Int.reduceSub, Nat.reduceMul, Nat.reduceEqDiff, gW_un, gcF_un, gcA_un, ci_mkmap, ci_mapset, ci_lookup, ci_maxl, ci_appz, pi_lookup, pi_maxl, pu_lookup, pu_maxl, maxl_nil, maxl_one, maxl_cons, cells_mapr, stor_mapr, callv_yld, mm_max, mm_min, putAll_cons, putAll_nil, asgK_normal, roundK_normal, roundK_ret, roundK_exit, envO, *]
  · have hk : k = 2 := by have := of_decide_eq_false hc; omega
    subst hk
    (repeat' first
    | simp (contextual := true) (maxSteps := 4000000) only [fwc, fwe, cmd_seq, opsW_gpure, drawW_pure, drawW_gpure, Env.upd_apply, Heap.upd_same, Heap.upd_apply, ite_none, List.getD_cons_zero, List.getD_cons_succ, List.getD_nil, List.length_cons, List.length_nil, List.map_cons, List.map_nil, List.getElem?_cons_zero, List.getElem?_cons_succ, List.getElem?_nil, List.set_cons_zero, List.set_cons_succ, List.take_succ_cons, List.take_zero, List.drop_succ_cons, List.drop_zero, List.nil_append, List.cons_append, List.append_nil, Option.map_some, Option.map_none, Option.bind_some, Option.bind_none, reduceIte, ↓reduceIte, decide_true, decide_false, Bool.true_and, Bool.and_true, Bool.false_and, Bool.and_false, true_and, and_true, and_self, Nat.reduceAdd, Nat.reduceLeDiff, Nat.reduceEqDiff, Nat.zero_add, Nat.add_zero, Nat.le_refl, Nat.zero_le, ge_iff_le, Nat.reduceLT, Nat.zero_lt_succ, Nat.reduceSub, if_true, if_false, forall_const, reduceCtorEq, Bool.not_true, Bool.not_false, Bool.false_eq_true, Int.reduceEq, Int.reduceLT, Int.reduceLE, Int.reduceNeg, Int.reduceToNat, Int.reduceAdd, Int.reduceSub, Nat.reduceMul, Nat.reduceEqDiff, gW_un, gcF_un, gcA_un, ci_mkmap, ci_mapset, ci_lookup, ci_maxl, ci_appz, pi_lookup, pi_maxl, pu_lookup, pu_maxl, maxl_nil, maxl_one, maxl_cons, cells_mapr, stor_mapr, callv_yld, mm_max, mm_min, putAll_cons, putAll_nil, asgK_normal, roundK_normal, roundK_ret, roundK_exit, *]
    | (refine seqK_now ?_)
    | (refine retK_now ?_)
    | (refine retK_now' ?_)
    | (intro q hq)
    | (refine cond_intro (fun hc => ?_) (fun hc => ?_)))
    refine WeakR.now (.inl ?_)
    exact h2.out
end Go.Proofs.Ytlpngkeegjickab

namespace Go.Proofs.Ytlpngkeegjickab
open Go.Ab
attribute [local irreducible] WeakR WeakE CallA YieldA

/-- A bed. -/
def IsB (s : AV) (es : List AV) (F : List (List Id)) : Prop := IsL 1 s es ∧ es.length = F.length ∧ ∀ (i : Nat) (h : i < es.length) (h' : i < F.length), IsL 2 es[i] (F[i].map Id.av)
theorem IsB.stk {s : AV} {es : List AV} {F : List (List Id)} (h : IsB s es F) : StkAll es := by
  intro x hx
  obtain ⟨i, hi, rfl⟩ := List.mem_iff_getElem.1 hx
  exact ⟨_, h.2.2 i hi (by rw [← h.2.1]; exact hi)⟩

/-- All needles that are visited. -/
def visL (F B : List (List Id)) : List (List Id) := F.take 40 ++ B.take 40
def namesL (F B : List (List Id)) : List Id := (visL F B).flatten

theorem vis_is {f b : AV} {es fs : List AV} {F B : List (List Id)} (hf : IsB f es F) (hb : IsB b fs B) : (es.take 40 ++ fs.take 40).length = (visL F B).length ∧
    ∀ j (h : j < (es.take 40 ++ fs.take 40).length) (h' : j < (visL F B).length), IsL 2 (es.take 40 ++ fs.take 40)[j] ((visL F B)[j].map Id.av) := by
  have h1 := hf.2.1
  have h2 := hb.2.1
  refine ⟨by simp [visL, h1, h2], fun j h h' => ?_⟩
  unfold visL at h' ⊢
  by_cases hj : j < min 40 es.length
  · have e1 := List.getElem_append_left («as» := es.take 40) (bs := fs.take 40) (i := j) (by simp; omega) (h' := h)
    have e2 := List.getElem_append_left («as» := F.take 40) (bs := B.take 40) (i := j) (by simp; omega) (h' := h')
    rw [e1, e2, List.getElem_take, List.getElem_take]
    exact hf.2.2 j _ _
  · have e1 := List.getElem_append_right («as» := es.take 40) (bs := fs.take 40) (i := j) (by simp; omega) (h₂ := h)
    have e2 := List.getElem_append_right («as» := F.take 40) (bs := B.take 40) (i := j) (by simp; omega) (h₂ := h')
    rw [e1, e2, List.getElem_take, List.getElem_take]
    have : (List.take 40 es).length = (List.take 40 F).length := by simp [h1]
    simp only [this]
    exact hb.2.2 _ _ _

theorem flat_len {G : List (List Id)} (h : ∀ l ∈ G, l.length ≤ 1000) : G.flatten.length ≤ G.length * 1000 := by
  induction G with
  | nil => simp
  | cons l G ih =>
    have := h l (by simp)
    have := ih (fun l hl => h l (by simp [hl]))
    simp only [List.flatten_cons, List.length_append, List.length_cons]
    omega
theorem vis_le (F B : List (List Id)) : (visL F B).length ≤ 80 := by simp [visL]; omega
theorem take_flat (G : List (List Id)) (j : Nat) (h : j < G.length) : (G.take (j + 1)).flatten = (G.take j).flatten ++ G[j] := by
  rw [List.take_succ_eq_append_getElem h, List.flatten_append]
  simp

set_option maxHeartbeats 2000000 in
theorem names_ok (f b : AV) (es fs : List AV) (F B : List (List Id)) (hf : IsB f es F) (hb : IsB b fs B) (hs : ∀ l ∈ visL F B, l.length ≤ 1000) :
    PureA Try.prog 34 [.agg [f, b]] (frA 2 ((namesL F B).map Id.av)) := by
  intro O
  have hf1 := hf.1.cells
  have hb1 := hb.1.cells
  have hf2 := hf.1.stor
  have hb2 := hb.1.stor
  refine k34.call mix ?_
  unfold c34
  (repeat' first
    | simp (contextual := true) (maxSteps := 4000000) only [fwc, fwe, cmd_seq, opsW_gpure, drawW_pure, drawW_gpure, Env.upd_apply, Heap.upd_same, Heap.upd_apply, ite_none, List.getD_cons_zero, List.getD_cons_succ, List.getD_nil, List.length_cons, List.length_nil, List.map_cons, List.map_nil, List.getElem?_cons_zero, List.getElem?_cons_succ, List.getElem?_nil, List.set_cons_zero, List.set_cons_succ, List.take_succ_cons, List.take_zero, List.drop_succ_cons, List.drop_zero, List.nil_append, List.cons_append, List.append_nil, Option.map_some, Option.map_none, Option.bind_some, Option.bind_none, reduceIte, ↓reduceIte, decide_true, decide_false, Bool.true_and, Bool.and_true, Bool.false_and, Bool.and_false, true_and, and_true, and_self, Nat.reduceAdd, Nat.reduceLeDiff, Nat.reduceEqDiff, Nat.zero_add, Nat.add_zero, Nat.le_refl, Nat.zero_le, ge_iff_le, Nat.reduceLT, Nat.zero_lt_succ, Nat.reduceSub, if_true, if_false, forall_const, reduceCtorEq, Bool.not_true, Bool.not_false, Bool.false_eq_true, Int.reduceEq, Int.reduceLT, Int.reduceLE, Int.reduceNeg, Int.reduceToNat, Int.reduceAdd, Int.reduceSub, Nat.reduceMul, Nat.reduceEqDiff, gW_un, gcF_un, gcA_un, ci_mkmap, ci_mapset, ci_lookup, ci_maxl, ci_appz, pi_lookup, pi_maxl, pu_lookup, pu_maxl, maxl_nil, maxl_one, maxl_cons, cells_mapr, stor_mapr, callv_yld, mm_max, mm_min, putAll_cons, putAll_nil, asgK_normal, roundK_normal, roundK_ret, roundK_exit, *]
    | (refine seqK_now ?_)
    | (refine retK_now ?_)
    | (refine retK_now' ?_)
    | (intro q hq)
    | (refine cond_intro (fun hc => ?_) (fun hc => ?_)))
  refine (all_ok f b hf1 hb1 hf2 hb2).use ?_
  (repeat' first
    | simp (contextual := true) (maxSteps := 4000000) only [fwc, fwe, cmd_seq, opsW_gpure, drawW_pure, drawW_gpure, Env.upd_apply, Heap.upd_same, Heap.upd_apply, ite_none, List.getD_cons_zero, List.getD_cons_succ, List.getD_nil, List.length_cons, List.length_nil, List.map_cons, List.map_nil, List.getElem?_cons_zero, List.getElem?_cons_succ, List.getElem?_nil, List.set_cons_zero, List.set_cons_succ, List.take_succ_cons, List.take_zero, List.drop_succ_cons, List.drop_zero, List.nil_append, List.cons_append, List.append_nil, Option.map_some, Option.map_none, Option.bind_some, Option.bind_none, reduceIte, ↓reduceIte, decide_true, decide_false, Bool.true_and, Bool.and_true, Bool.false_and, Bool.and_false, true_and, and_true, and_self, Nat.reduceAdd, Nat.reduceLeDiff, Nat.reduceEqDiff, Nat.zero_add, Nat.add_zero, Nat.le_refl, Nat.zero_le, ge_iff_le, Nat.reduceLT, Nat.zero_lt_succ, Nat.reduceSub, if_true, if_false, forall_const, reduceCtorEq, Bool.not_true, Bool.not_false, Bool.false_eq_true, Int.reduceEq, Int.reduceLT, Int.reduceLE, Int.reduceNeg, Int.reduceToNat, Int.reduceAdd, Int.reduceSub, Nat.reduceMul, Nat.reduceEqDiff, gW_un, gcF_un, gcA_un, ci_mkmap, ci_mapset, ci_lookup, ci_maxl, ci_appz, pi_lookup, pi_maxl, pu_lookup, pu_maxl, maxl_nil, maxl_one, maxl_cons, cells_mapr, stor_mapr, callv_yld, mm_max, mm_min, putAll_cons, putAll_nil, asgK_normal, roundK_normal, roundK_ret, roundK_exit, *]
    | (refine seqK_now ?_)
    | (refine retK_now ?_)
    | (refine retK_now' ?_)
    | (intro q hq)
    | (refine cond_intro (fun hc => ?_) (fun hc => ?_)))
  refine cmd_range rfl ?_
  intro rid RR BB DD hid hY
  replace hY := (show Aside _ from hY)
  rename_i q1 hq1
  rw [upd_none, upd_none] at hid
  obtain ⟨hq2, hq3, hq4⟩ := hq
  obtain ⟨hid1, hid2, hid3, hid4, hid5⟩ := hid
  obtain ⟨hv1, hv2⟩ := vis_is hf hb
  have hvl := vis_le F B
  replace hs := (show Aside _ from hs)
  let J : Nat → Heap → Prop := fun j O' => ∃ s O0, O.sub (O0.del rid) ∧ O0 q = some (.arr 54 1 [s]) ∧ O0 rid = some RR ∧ OwN 38 2 O0 O' s ((((visL F B).take j).flatten).map Id.av)
  refine CallA.mono (all1_ok rid f b es fs hf.1 hb.1 hf.stk hb.stk _ J (fun _ => False) ?_ ?_) ?_
  · refine ⟨_, _, ?_, ?_, ?_, OwN.nil⟩
    · rw [del_upd_new (by rw [upd_none, upd_none]; exact ⟨hid1, hid2, hid3, hid4, hid5⟩)]
      exact sub_upd hq4 (sub_upd hq1 (Heap.sub_refl _))
    · rw [Heap.upd_ne _ _ hid2, Heap.upd_same]
    · exact Heap.upd_same _ _ _
  · intro j hj O1 hJ
    obtain ⟨s, O0, g1, g2, g3, g4⟩ := hJ
    have hj' : j < (visL F B).length := by rw [← hv1]; exact hj
    have hx := hv2 j hj hj'
    generalize (es.take 40 ++ fs.take 40)[j] = x at hx
    have g5 := g4.at_ g3
    have g6 := g4.at_ g2
    have g7 := g4.cells
    have hx1 := hx.cells
    refine hY.out [_, x] O1 _ g5 rfl ?_
    (repeat' first
    | simp (contextual := true) (maxSteps := 4000000) only [fwc, fwe, cmd_seq, opsW_gpure, drawW_pure, drawW_gpure, Env.upd_apply, Heap.upd_same, Heap.upd_apply, ite_none, List.getD_cons_zero, List.getD_cons_succ, List.getD_nil, List.length_cons, List.length_nil, List.map_cons, List.map_nil, List.getElem?_cons_zero, List.getElem?_cons_succ, List.getElem?_nil, List.set_cons_zero, List.set_cons_succ, List.take_succ_cons, List.take_zero, List.drop_succ_cons, List.drop_zero, List.nil_append, List.cons_append, List.append_nil, Option.map_some, Option.map_none, Option.bind_some, Option.bind_none, reduceIte, ↓reduceIte, decide_true, decide_false, Bool.true_and, Bool.and_true, Bool.false_and, Bool.and_false, true_and, and_true, and_self, Nat.reduceAdd, Nat.reduceLeDiff, Nat.reduceEqDiff, Nat.zero_add, Nat.add_zero, Nat.le_refl, Nat.zero_le, ge_iff_le, Nat.reduceLT, Nat.zero_lt_succ, Nat.reduceSub, if_true, if_false, forall_const, reduceCtorEq, Bool.not_true, Bool.not_false, Bool.false_eq_true, Int.reduceEq, Int.reduceLT, Int.reduceLE, Int.reduceNeg, Int.reduceToNat, Int.reduceAdd, Int.reduceSub, Nat.reduceMul, Nat.reduceEqDiff, gW_un, gcF_un, gcA_un, ci_mkmap, ci_mapset, ci_lookup, ci_maxl, ci_appz, pi_lookup, pi_maxl, pu_lookup, pu_maxl, maxl_nil, maxl_one, maxl_cons, cells_mapr, stor_mapr, callv_yld, mm_max, mm_min, putAll_cons, putAll_nil, asgK_normal, roundK_normal, roundK_ret, roundK_exit, part_cell, *]
    | (refine seqK_now ?_)
    | (refine retK_now ?_)
    | (refine retK_now' ?_)
    | (intro q hq)
    | (refine cond_intro (fun hc => ?_) (fun hc => ?_)))
    have g8 := g4.put (x := BB) (show O0 rid ≠ none by rw [g3]; simp)
    refine own_app g8 hx ?_ ?_
    · have e1 := flat_len (G := (visL F B).take j) (fun l hl => hs.out l (List.mem_of_mem_take hl))
      have e2 := hs.out _ (List.getElem_mem hj')
      have e3 : ((visL F B).take j).length ≤ 80 := by simp; omega
      exact fits_of (by simp only [List.length_map]; omega) (by omega)
    intro s2 O2 h2
    have h3 := h2.at_ (q := q) (by rw [Heap.upd_ne _ _ hid2]; exact g2)
    have h4 := h2.at_ (q := rid) (Heap.upd_same _ _ _)
    have h5 := h2.cells
    have h6 := h2.stor
    clear g7 hx1
    (repeat' first
    | simp (contextual := true) (maxSteps := 4000000) only [fwc, fwe, cmd_seq, opsW_gpure, drawW_pure, drawW_gpure, Env.upd_apply, Heap.upd_same, Heap.upd_apply, ite_none, List.getD_cons_zero, List.getD_cons_succ, List.getD_nil, List.length_cons, List.length_nil, List.map_cons, List.map_nil, List.getElem?_cons_zero, List.getElem?_cons_succ, List.getElem?_nil, List.set_cons_zero, List.set_cons_succ, List.take_succ_cons, List.take_zero, List.drop_succ_cons, List.drop_zero, List.nil_append, List.cons_append, List.append_nil, Option.map_some, Option.map_none, Option.bind_some, Option.bind_none, reduceIte, ↓reduceIte, decide_true, decide_false, Bool.true_and, Bool.and_true, Bool.false_and, Bool.and_false, true_and, and_true, and_self, Nat.reduceAdd, Nat.reduceLeDiff, Nat.reduceEqDiff, Nat.zero_add, Nat.add_zero, Nat.le_refl, Nat.zero_le, ge_iff_le, Nat.reduceLT, Nat.zero_lt_succ, Nat.reduceSub, if_true, if_false, forall_const, reduceCtorEq, Bool.not_true, Bool.not_false, Bool.false_eq_true, Int.reduceEq, Int.reduceLT, Int.reduceLE, Int.reduceNeg, Int.reduceToNat, Int.reduceAdd, Int.reduceSub, Nat.reduceMul, Nat.reduceEqDiff, gW_un, gcF_un, gcA_un, ci_mkmap, ci_mapset, ci_lookup, ci_maxl, ci_appz, pi_lookup, pi_maxl, pu_lookup, pu_maxl, maxl_nil, maxl_one, maxl_cons, cells_mapr, stor_mapr, callv_yld, mm_max, mm_min, putAll_cons, putAll_nil, asgK_normal, roundK_normal, roundK_ret, roundK_exit, *]
    | (refine seqK_now ?_)
    | (refine retK_now ?_)
    | (refine retK_now' ?_)
    | (intro q hq)
    | (refine cond_intro (fun hc => ?_) (fun hc => ?_)))
    refine .inl ⟨s2, ((O0.upd rid BB).upd q (.arr 54 1 [s2])).upd rid RR, ?_, ?_, ?_, ?_⟩
    · intro i o ho
      have := g1 i o ho
      rw [Heap.del_apply] at this ⊢
      split at this
      · cases this
      · rename_i hi
        rw [if_neg hi, Heap.upd_ne _ _ hi]
        by_cases hiq : i = q
        · rw [hiq, hq4] at ho; cases ho
        · rw [Heap.upd_ne _ _ hiq, Heap.upd_ne _ _ hi]; exact this
    · rw [Heap.upd_ne _ _ hid2, Heap.upd_same]
    · exact Heap.upd_same _ _ _
    · rw [take_flat _ _ hj', List.map_append]
      exact (h2.put (by rw [Heap.upd_ne _ _ hid2, g2]; simp)).put (upd_some (by rw [Heap.upd_same]; simp))
  · intro r O' h
    rcases h with ⟨s, O0, g1, g2, g3, g4⟩ | h
    · refine .inl ⟨g4.at_ g3, ?_⟩
      rw [hv1, List.take_of_length_le (Nat.le_refl _)] at g4
      have g5 := g4.del (q := rid) (by rw [g3]; simp)
      have g6 := g5.at_ (q := q) (by rw [Heap.del_ne _ hid2]; exact g2)
      have g7 := g4.cells
      (repeat' first
    | simp (contextual := true) (maxSteps := 4000000) only [fwc, fwe, cmd_seq, opsW_gpure, drawW_pure, drawW_gpure, Env.upd_apply, Heap.upd_same, Heap.upd_apply, ite_none, List.getD_cons_zero, List.getD_cons_succ, List.getD_nil, List.length_cons, List.length_nil, List.map_cons, List.map_nil, List.getElem?_cons_zero, List.getElem?_cons_succ, List.getElem?_nil, List.set_cons_zero, List.set_cons_succ, List.take_succ_cons, List.take_zero, List.drop_succ_cons, List.drop_zero, List.nil_append, List.cons_append, List.append_nil, Option.map_some, Option.map_none, Option.bind_some, Option.bind_none, reduceIte, ↓reduceIte, decide_true, decide_false, Bool.true_and, Bool.and_true, Bool.false_and, Bool.and_false, true_and, and_true, and_self, Nat.reduceAdd, Nat.reduceLeDiff, Nat.reduceEqDiff, Nat.zero_add, Nat.add_zero, Nat.le_refl, Nat.zero_le, ge_iff_le, Nat.reduceLT, Nat.zero_lt_succ, Nat.reduceSub, if_true, if_false, forall_const, reduceCtorEq, Bool.not_true, Bool.not_false, Bool.false_eq_true, Int.reduceEq, Int.reduceLT, Int.reduceLE, Int.reduceNeg, Int.reduceToNat, Int.reduceAdd, Int.reduceSub, Nat.reduceMul, Nat.reduceEqDiff, gW_un, gcF_un, gcA_un, ci_mkmap, ci_mapset, ci_lookup, ci_maxl, ci_appz, pi_lookup, pi_maxl, pu_lookup, pu_maxl, maxl_nil, maxl_one, maxl_cons, cells_mapr, stor_mapr, callv_yld, mm_max, mm_min, putAll_cons, putAll_nil, asgK_normal, roundK_normal, roundK_ret, roundK_exit, part_cell, *]
    | (refine seqK_now ?_)
    | (refine retK_now ?_)
    | (refine retK_now' ?_)
    | (intro q hq)
    | (refine cond_intro (fun hc => ?_) (fun hc => ?_)))
      exact g5.pure g1 rfl
    · exact h.elim
end Go.Proofs.Ytlpngkeegjickab

namespace Go.Proofs.Ytlpngkeegjickab
open Go.Ab
attribute [local irreducible] WeakR WeakE CallA YieldA

theorem Id.ext' {p q : Id} : p = q ↔ p.y = q.y ∧ p.n = q.n := by
  cases p; cases q; simp
theorem id_eq (p q : Id) : (decide (p.y = q.y) && (decide (p.n = q.n) && true)) = decide (p = q) := by
  rw [Bool.eq_iff_iff]
  simp [Id.ext']
theorem le_id (p q : Id) : leavesEq [true, true] [.val (.int .u8 p.y), .val (.int .i64 p.n)] [.val (.int .u8 q.y), .val (.int .i64 q.n)] = some (decide (p = q)) := by
  rw [le_int, le_int, le_nil]
  simp [← id_eq]
theorem keyEq_id (p q : Id) : keyEqA [true, true] true p.av q.av = some (decide (p = q)) := le_id p q
theorem keyOK_id (p : Id) : keyOKA [true, true] true p.av = true := by
  unfold keyOKA
  rw [keyEq_id]
  rfl

def seenA (M : List Id) : List (AV × AV) := M.map fun p => (p.av, .val (.bool true))
theorem find_not {p : Id} : ∀ {M : List Id} {k : Nat}, p ∉ M → findA [true, true] true p.av (seenA M) k = some none
  | [], k, _ => rfl
  | q :: M, k, h => by
    have h1 : p ≠ q := fun e => h (by simp [e])
    have h2 : p ∉ M := fun e => h (by simp [e])
    show (match keyEqA [true, true] true p.av q.av with | some true => some (some (k, AV.val (.bool true))) | some false => findA [true, true] true p.av (seenA M) (k + 1) | none => none) = some none
    rw [keyEq_id, decide_eq_false h1]
    exact find_not h2
theorem find_in {p : Id} : ∀ {M : List Id} {k : Nat}, p ∈ M → ∃ i, findA [true, true] true p.av (seenA M) k = some (some (i, .val (.bool true)))
  | [], k, h => by cases h
  | q :: M, k, h => by
    have e : findA [true, true] true p.av (seenA (q :: M)) k = match keyEqA [true, true] true p.av q.av with | some true => some (some (k, AV.val (.bool true))) | some false => findA [true, true] true p.av (seenA M) (k + 1) | none => none := rfl
    rw [e, keyEq_id]
    by_cases hpq : p = q
    · rw [decide_eq_true hpq]; exact ⟨k, rfl⟩
    · rw [decide_eq_false hpq]
      rcases List.mem_cons.1 h with h | h
      · exact absurd h hpq
      · exact find_in h

theorem seen_look {qm : Nat} {M : List Id} (p : Id) (O1 : Heap) (h : O1 qm = some (.mp (seenA M))) : lookupA O1 false [true, true] true (.val (.bool false)) (.mapr qm) (.agg [.val (.int .u8 p.y), .val (.int .i64 p.n)]) = some (.val (.bool (decide (p ∈ M)))) := by
  by_cases hp : p ∈ M
  · obtain ⟨i, hi⟩ := find_in (k := 0) hp
    rw [show AV.agg [.val (.int .u8 p.y), .val (.int .i64 p.n)] = p.av from rfl, lookup_at h (keyOK_id p) hi, decide_eq_true hp]
    rfl
  · rw [show AV.agg [.val (.int .u8 p.y), .val (.int .i64 p.n)] = p.av from rfl, lookup_at h (keyOK_id p) (find_not hp), decide_eq_false hp]
    rfl
theorem seen_set {qm : Nat} {M : List Id} (p : Id) (hp : p ∉ M) (O1 : Heap) (h : O1 qm = some (.mp (seenA M))) : mapsetA O1 [true, true] true (.mapr qm) (.agg [.val (.int .u8 p.y), .val (.int .i64 p.n)]) (.val (.bool true)) = some (O1.upd qm (.mp (seenA (M ++ [p])))) := by
  rw [show AV.agg [.val (.int .u8 p.y), .val (.int .i64 p.n)] = p.av from rfl, mapset_new h (keyOK_id p) (find_not hp)]
  unfold seenA
  rw [List.map_append]
  rfl

def env31 (s : AV) (n qm i : Nat) : Env := ((((Env.upd (fun _ => .junk) 9 (.val (.int .i64 i))).upd 8 (.val (.int .i64 n))).upd 7 s).upd 3 (.mapr qm))

set_option maxHeartbeats 2000000 in
theorem twice_ok (s : AV) (L : List Id) (hs : IsL 2 s (L.map Id.av)) (hl : L.length ≤ 1048576) : PureA Try.prog 38 [s] (.val (.bool (!decide L.Nodup))) := by
  intro O
  have h1 := hs.len
  have h2 := hs.cells
  rw [List.length_map] at h1
  refine k38.call mix ?_
  unfold c38
  (repeat' first
    | simp (contextual := true) (maxSteps := 4000000) only [fwc, fwe, cmd_seq, opsW_gpure, drawW_pure, drawW_gpure, Env.upd_apply, Heap.upd_same, Heap.upd_apply, ite_none, List.getD_cons_zero, List.getD_cons_succ, List.getD_nil, List.length_cons, List.length_nil, List.map_cons, List.map_nil, List.getElem?_cons_zero, List.getElem?_cons_succ, List.getElem?_nil, List.set_cons_zero, List.set_cons_succ, List.take_succ_cons, List.take_zero, List.drop_succ_cons, List.drop_zero, List.nil_append, List.cons_append, List.append_nil, Option.map_some, Option.map_none, Option.bind_some, Option.bind_none, reduceIte, ↓reduceIte, decide_true, decide_false, Bool.true_and, Bool.and_true, Bool.false_and, Bool.and_false, true_and, and_true, and_self, Nat.reduceAdd, Nat.reduceLeDiff, Nat.reduceEqDiff, Nat.zero_add, Nat.add_zero, Nat.le_refl, Nat.zero_le, ge_iff_le, Nat.reduceLT, Nat.zero_lt_succ, Nat.reduceSub, if_true, if_false, forall_const, reduceCtorEq, Bool.not_true, Bool.not_false, Bool.false_eq_true, Int.reduceEq, Int.reduceLT, Int.reduceLE, Int.reduceNeg, Int.reduceToNat, Int.reduceAdd, Int.reduceSub, Nat.reduceMul, Nat.reduceEqDiff, gW_un, gcF_un, gcA_un, ci_mkmap, ci_mapset, ci_lookup, ci_maxl, ci_appz, pi_lookup, pi_maxl, pu_lookup, pu_maxl, maxl_nil, maxl_one, maxl_cons, cells_mapr, stor_mapr, callv_yld, mm_max, mm_min, putAll_cons, putAll_nil, asgK_normal, roundK_normal, roundK_ret, roundK_exit, *]
    | (refine seqK_now ?_)
    | (refine retK_now ?_)
    | (refine retK_now' ?_)
    | (intro q hq)
    | (refine cond_intro (fun hc => ?_) (fun hc => ?_)))
  revert q
  intro qm hqm
  replace hqm : Aside (O qm = none) := hqm
  obtain ⟨I, hI⟩ := hideI (fun m e O' => ∃ i : Nat, i ≤ L.length ∧ m = L.length - i ∧ (L.take i).Nodup ∧ O' = O.upd qm (.mp (seenA (L.take i))) ∧ e = env31 s L.length qm i)
  refine cmd_loop I L.length (by
    rw [hI.out]
    exact ⟨0, by omega, rfl, by simp, rfl, rfl⟩) ?_
  intro m e O' hh
  rw [hI.out] at hh
  obtain ⟨i, h3, rfl, h4, rfl, rfl⟩ := hh
  replace h4 : Aside (L.take i).Nodup := h4
  unfold env31
  (repeat' first
    | simp (contextual := true) (maxSteps := 4000000) only [fwc, fwe, cmd_seq, opsW_gpure, drawW_pure, drawW_gpure, Env.upd_apply, Heap.upd_same, Heap.upd_apply, ite_none, List.getD_cons_zero, List.getD_cons_succ, List.getD_nil, List.length_cons, List.length_nil, List.map_cons, List.map_nil, List.getElem?_cons_zero, List.getElem?_cons_succ, List.getElem?_nil, List.set_cons_zero, List.set_cons_succ, List.take_succ_cons, List.take_zero, List.drop_succ_cons, List.drop_zero, List.nil_append, List.cons_append, List.append_nil, Option.map_some, Option.map_none, Option.bind_some, Option.bind_none, reduceIte, ↓reduceIte, decide_true, decide_false, Bool.true_and, Bool.and_true, Bool.false_and, Bool.and_false, true_and, and_true, and_self, Nat.reduceAdd, Nat.reduceLeDiff, Nat.reduceEqDiff, Nat.zero_add, Nat.add_zero, Nat.le_refl, Nat.zero_le, ge_iff_le, Nat.reduceLT, Nat.zero_lt_succ, Nat.reduceSub, if_true, if_false, forall_const, reduceCtorEq, Bool.not_true, Bool.not_false, Bool.false_eq_true, Int.reduceEq, Int.reduceLT, Int.reduceLE, Int.reduceNeg, Int.reduceToNat, Int.reduceAdd, Int.reduceSub, Nat.reduceMul, Nat.reduceEqDiff, gW_un, gcF_un, gcA_un, ci_mkmap, ci_mapset, ci_lookup, ci_maxl, ci_appz, pi_lookup, pi_maxl, pu_lookup, pu_maxl, maxl_nil, maxl_one, maxl_cons, cells_mapr, stor_mapr, callv_yld, mm_max, mm_min, putAll_cons, putAll_nil, asgK_normal, roundK_normal, roundK_ret, roundK_exit, ilt_nat, *]
    | (refine seqK_now ?_)
    | (refine retK_now ?_)
    | (refine retK_now' ?_)
    | (intro q hq)
    | (refine cond_intro (fun hc => ?_) (fun hc => ?_)))
  · have hi : i < L.length := of_decide_eq_true hc
    clear hc
    have hia := hs.ia (i := i) (by rw [List.length_map]; exact hi)
    rw [List.getElem_map] at hia
    have hnd : (L.take (i + 1)).Nodup ↔ L[i] ∉ L.take i := by
      rw [List.take_succ_eq_append_getElem hi, List.nodup_append]
      simp only [h4.out, true_and, List.nodup_cons, List.not_mem_nil, not_false_eq_true, List.nodup_nil, and_true, List.mem_singleton]
      constructor
      · intro h hm; exact h _ hm _ rfl rfl
      · intro h; exact fun a ha b hb hab => h (hb ▸ hab ▸ ha)
    have htk := List.take_succ_eq_append_getElem hi
    obtain ⟨p, hp⟩ : ∃ p, L[i] = p := ⟨_, rfl⟩
    rw [hp] at hia hnd htk
    rw [show p.av = .agg [.val (.int .u8 p.y), .val (.int .i64 p.n)] from rfl] at hia
    have hlk := seen_look (qm := qm) (M := L.take i) p
    replace htk := (show Aside _ from htk)
    replace hnd := (show Aside _ from hnd)
    replace hp := (show Aside _ from hp)
    have hw : i < 4611686018427387904 := by omega
    by_cases hm : p ∈ L.take i
    · (repeat' first
    | simp (contextual := true) (maxSteps := 4000000) only [fwc, fwe, cmd_seq, opsW_gpure, drawW_pure, drawW_gpure, Env.upd_apply, Heap.upd_same, Heap.upd_apply, ite_none, List.getD_cons_zero, List.getD_cons_succ, List.getD_nil, List.length_cons, List.length_nil, List.map_cons, List.map_nil, List.getElem?_cons_zero, List.getElem?_cons_succ, List.getElem?_nil, List.set_cons_zero, List.set_cons_succ, List.take_succ_cons, List.take_zero, List.drop_succ_cons, List.drop_zero, List.nil_append, List.cons_append, List.append_nil, Option.map_some, Option.map_none, Option.bind_some, Option.bind_none, reduceIte, ↓reduceIte, decide_true, decide_false, Bool.true_and, Bool.and_true, Bool.false_and, Bool.and_false, true_and, and_true, and_self, Nat.reduceAdd, Nat.reduceLeDiff, Nat.reduceEqDiff, Nat.zero_add, Nat.add_zero, Nat.le_refl, Nat.zero_le, ge_iff_le, Nat.reduceLT, Nat.zero_lt_succ, Nat.reduceSub, if_true, if_false, forall_const, reduceCtorEq, Bool.not_true, Bool.not_false, Bool.false_eq_true, Int.reduceEq, Int.reduceLT, Int.reduceLE, Int.reduceNeg, Int.reduceToNat, Int.reduceAdd, Int.reduceSub, Nat.reduceMul, Nat.reduceEqDiff, gW_un, gcF_un, gcA_un, ci_mkmap, ci_mapset, ci_lookup, ci_maxl, ci_appz, pi_lookup, pi_maxl, pu_lookup, pu_maxl, maxl_nil, maxl_one, maxl_cons, cells_mapr, stor_mapr, callv_yld, mm_max, mm_min, putAll_cons, putAll_nil, asgK_normal, roundK_normal, roundK_ret, roundK_exit, part_agg, *]
    | (refine seqK_now ?_)
    | (refine retK_now ?_)
    | (refine retK_now' ?_)
    | (intro q hq)
    | (refine cond_intro (fun hc => ?_) (fun hc => ?_)))
      refine WeakR.pure ?_ ?_
      · refine sub_upd (by simp [*]) (sub_upd hqm.out (Heap.sub_refl _))
      · have : ¬ L.Nodup := fun h => by
          have h' := h.sublist (List.take_sublist (i + 1) L)
          exact (hnd.out.1 h') hm
        simp [this]
    · have hst := seen_set (qm := qm) (M := L.take i) p hm
      (repeat' first
    | simp (contextual := true) (maxSteps := 4000000) only [fwc, fwe, cmd_seq, opsW_gpure, drawW_pure, drawW_gpure, Env.upd_apply, Heap.upd_same, Heap.upd_apply, ite_none, List.getD_cons_zero, List.getD_cons_succ, List.getD_nil, List.length_cons, List.length_nil, List.map_cons, List.map_nil, List.getElem?_cons_zero, List.getElem?_cons_succ, List.getElem?_nil, List.set_cons_zero, List.set_cons_succ, List.take_succ_cons, List.take_zero, List.drop_succ_cons, List.drop_zero, List.nil_append, List.cons_append, List.append_nil, Option.map_some, Option.map_none, Option.bind_some, Option.bind_none, reduceIte, ↓reduceIte, decide_true, decide_false, Bool.true_and, Bool.and_true, Bool.false_and, Bool.and_false, true_and, and_true, and_self, Nat.reduceAdd, Nat.reduceLeDiff, Nat.reduceEqDiff, Nat.zero_add, Nat.add_zero, Nat.le_refl, Nat.zero_le, ge_iff_le, Nat.reduceLT, Nat.zero_lt_succ, Nat.reduceSub, if_true, if_false, forall_const, reduceCtorEq, Bool.not_true, Bool.not_false, Bool.false_eq_true, Int.reduceEq, Int.reduceLT, Int.reduceLE, Int.reduceNeg, Int.reduceToNat, Int.reduceAdd, Int.reduceSub, Nat.reduceMul, Nat.reduceEqDiff, gW_un, gcF_un, gcA_un, ci_mkmap, ci_mapset, ci_lookup, ci_maxl, ci_appz, pi_lookup, pi_maxl, pu_lookup, pu_maxl, maxl_nil, maxl_one, maxl_cons, cells_mapr, stor_mapr, callv_yld, mm_max, mm_min, putAll_cons, putAll_nil, asgK_normal, roundK_normal, roundK_ret, roundK_exit, part_agg, *]
    | (refine seqK_now ?_)
    | (refine retK_now ?_)
    | (refine retK_now' ?_)
    | (intro q hq)
    | (refine cond_intro (fun hc => ?_) (fun hc => ?_)))
      refine loopK_drop (O.upd qm (.mp (seenA (L.take (i + 1))))) ?_ (L.length - (i + 1)) (by omega) ?_
      · rw [htk.out]
        exact sub_both (sub_upd hq.2.2 (sub_upd hqm.out (Heap.sub_refl _)))
      · rw [hI.out]
        refine ⟨i + 1, by omega, rfl, hnd.out.2 hm, rfl, ?_⟩
        simp (contextual := true) (maxSteps := 4000000) only [fwc, fwe, cmd_seq, opsW_gpure, drawW_pure, drawW_gpure, Env.upd_apply, Heap.upd_same, Heap.upd_apply, ite_none, List.getD_cons_zero, List.getD_cons_succ, List.getD_nil, List.length_cons, List.length_nil, List.map_cons, List.map_nil, List.getElem?_cons_zero, List.getElem?_cons_succ, List.getElem?_nil, List.set_cons_zero, List.set_cons_succ, List.take_succ_cons, List.take_zero, List.drop_succ_cons, List.drop_zero, List.nil_append, List.cons_append, List.append_nil, Option.map_some, Option.map_none, Option.bind_some, Option.bind_none, reduceIte, ↓reduceIte, decide_true, decide_false, Bool.true_and, Bool.and_true, Bool.false_and, Bool.and_false, true_and, and_true, and_self, Nat.reduceAdd, Nat.reduceLeDiff, Nat.reduceEqDiff, Nat.zero_add, Nat.add_zero, Nat.le_refl, Nat.zero_le, ge_iff_le, Nat.reduceLT, Nat.zero_lt_succ, Nat.reduceSub, if_true, if_false, forall_const, reduceCtorEq, Bool.not_true, Bool.not_false, Bool.false_eq_true, Int.reduceEq, Int.reduceLT, Int.reduceLE, Int.reduceNeg, Int.reduceToNat, Int.reduceAdd, Int.reduceSub, Nat.reduceMul, Nat.reduceEqDiff, gW_un, gcF_un, gcA_un, ci_mkmap, ci_mapset, ci_lookup, ci_maxl, ci_appz, pi_lookup, pi_maxl, pu_lookup, pu_maxl, maxl_nil, maxl_one, maxl_cons, cells_mapr, stor_mapr, callv_yld, mm_max, mm_min, putAll_cons, putAll_nil, asgK_normal, roundK_normal, roundK_ret, roundK_exit, env31, wrap_succ, *]
  · have : i = L.length := by have := of_decide_eq_false hc; omega
    subst this
    refine WeakR.pure (sub_upd hqm.out (Heap.sub_refl _)) ?_
    have := h4.out
    rw [List.take_length] at this
    simp [this]
end Go.Proofs.Ytlpngkeegjickab

namespace Go.Proofs.Ytlpngkeegjickab
open Go.Ab
attribute [local irreducible] WeakR WeakE CallA YieldA

def idxOf (q : Id → Bool) (l : List Id) : Int := match l.findIdx? q with
  | some i => i
  | none => -1
theorem idx_some {q : Id → Bool} {l : List Id} {i : Nat} (hi : i < l.length) (h1 : q l[i] = true) (h2 : ∀ j (h : j < l.length), j < i → q l[j] = false) : idxOf q l = i := by
  have : l.findIdx? q = some i := by
    rw [List.findIdx?_eq_some_iff_getElem]
    exact ⟨hi, h1, fun j hj => by simp [h2 j (by omega) hj]⟩
  simp [idxOf, this]
theorem idx_none {q : Id → Bool} {l : List Id} (h2 : ∀ j (h : j < l.length), q l[j] = false) : idxOf q l = -1 := by
  have : l.findIdx? q = none := by
    rw [List.findIdx?_eq_none_iff]
    intro x hx
    obtain ⟨j, hj, rfl⟩ := List.mem_iff_getElem.1 hx
    exact h2 j hj
  simp [idxOf, this]
theorem idx_any (q : Id → Bool) (l : List Id) : decide (0 ≤ idxOf q l) = l.any q := by
  unfold idxOf
  cases h : l.findIdx? q with
  | none =>
    have : l.any q = false := by
      rw [List.findIdx?_eq_none_iff] at h
      simpa using h
    rw [this]; rfl
  | some i =>
    rw [List.findIdx?_eq_some_iff_getElem] at h
    obtain ⟨hi, hq, _⟩ := h
    have : l.any q = true := List.any_eq_true.2 ⟨_, List.getElem_mem hi, hq⟩
    rw [this]; simp

def env52 (s : AV) (n : Nat) (f : FuncId) (i : Nat) : Env := (((Env.upd (fun _ => .junk) 8 (.val (.int .i64 i))).upd 7 (.val (.int .i64 n))).upd 1 (.clo (.func f) [] [])).upd 0 s

theorem IndexFunc_ok (s : AV) (l : List Id) (f : FuncId) (q : Id → Bool) (hs : IsL 2 s (l.map Id.av)) (hl : l.length ≤ 1048576) (hq : ∀ x, PureA Try.prog f [x.av] (.val (.bool (q x)))) :
    PureA Try.prog 55 [s, .clo (.func f) [] []] (.val (.int .i64 (idxOf q l))) := by
  intro O
  have h1 := hs.len
  rw [List.length_map] at h1
  refine k55.call mix ?_
  unfold c55
  (repeat' first
    | simp (contextual := true) (maxSteps := 4000000) only [fwc, fwe, cmd_seq, opsW_gpure, drawW_pure, drawW_gpure, Env.upd_apply, Heap.upd_same, Heap.upd_apply, ite_none, List.getD_cons_zero, List.getD_cons_succ, List.getD_nil, List.length_cons, List.length_nil, List.map_cons, List.map_nil, List.getElem?_cons_zero, List.getElem?_cons_succ, List.getElem?_nil, List.set_cons_zero, List.set_cons_succ, List.take_succ_cons, List.take_zero, List.drop_succ_cons, List.drop_zero, List.nil_append, List.cons_append, List.append_nil, Option.map_some, Option.map_none, Option.bind_some, Option.bind_none, reduceIte, ↓reduceIte, decide_true, decide_false, Bool.true_and, Bool.and_true, Bool.false_and, Bool.and_false, true_and, and_true, and_self, Nat.reduceAdd, Nat.reduceLeDiff, Nat.reduceEqDiff, Nat.zero_add, Nat.add_zero, Nat.le_refl, Nat.zero_le, ge_iff_le, Nat.reduceLT, Nat.zero_lt_succ, Nat.reduceSub, if_true, if_false, forall_const, reduceCtorEq, Bool.not_true, Bool.not_false, Bool.false_eq_true, Int.reduceEq, Int.reduceLT, Int.reduceLE, Int.reduceNeg, Int.reduceToNat, Int.reduceAdd, Int.reduceSub, Nat.reduceMul, Nat.reduceEqDiff, gW_un, gcF_un, gcA_un, ci_mkmap, ci_mapset, ci_lookup, ci_maxl, ci_appz, pi_lookup, pi_maxl, pu_lookup, pu_maxl, maxl_nil, maxl_one, maxl_cons, cells_mapr, stor_mapr, callv_yld, mm_max, mm_min, putAll_cons, putAll_nil, asgK_normal, roundK_normal, roundK_ret, roundK_exit, *]
    | (refine seqK_now ?_)
    | (refine retK_now ?_)
    | (refine retK_now' ?_)
    | (intro q hq)
    | (refine cond_intro (fun hc => ?_) (fun hc => ?_)))
  obtain ⟨I, hI⟩ := hideI (fun m e O' => ∃ i : Nat, i ≤ l.length ∧ m = l.length - i ∧ (∀ j (h : j < l.length), j < i → q l[j] = false) ∧ O' = O ∧ e = env52 s l.length f i)
  refine cmd_loop I l.length (by rw [hI.out]; exact ⟨0, by omega, rfl, fun j h hj => by omega, rfl, rfl⟩) ?_
  intro m e O' hh
  rw [hI.out] at hh
  obtain ⟨i, h3, rfl, h2, rfl, rfl⟩ := hh
  replace h2 := (show Aside _ from h2)
  unfold env52
  (repeat' first
    | simp (contextual := true) (maxSteps := 4000000) only [fwc, fwe, cmd_seq, opsW_gpure, drawW_pure, drawW_gpure, Env.upd_apply, Heap.upd_same, Heap.upd_apply, ite_none, List.getD_cons_zero, List.getD_cons_succ, List.getD_nil, List.length_cons, List.length_nil, List.map_cons, List.map_nil, List.getElem?_cons_zero, List.getElem?_cons_succ, List.getElem?_nil, List.set_cons_zero, List.set_cons_succ, List.take_succ_cons, List.take_zero, List.drop_succ_cons, List.drop_zero, List.nil_append, List.cons_append, List.append_nil, Option.map_some, Option.map_none, Option.bind_some, Option.bind_none, reduceIte, ↓reduceIte, decide_true, decide_false, Bool.true_and, Bool.and_true, Bool.false_and, Bool.and_false, true_and, and_true, and_self, Nat.reduceAdd, Nat.reduceLeDiff, Nat.reduceEqDiff, Nat.zero_add, Nat.add_zero, Nat.le_refl, Nat.zero_le, ge_iff_le, Nat.reduceLT, Nat.zero_lt_succ, Nat.reduceSub, if_true, if_false, forall_const, reduceCtorEq, Bool.not_true, Bool.not_false, Bool.false_eq_true, Int.reduceEq, Int.reduceLT, Int.reduceLE, Int.reduceNeg, Int.reduceToNat, Int.reduceAdd, Int.reduceSub, Nat.reduceMul, Nat.reduceEqDiff, gW_un, gcF_un, gcA_un, ci_mkmap, ci_mapset, ci_lookup, ci_maxl, ci_appz, pi_lookup, pi_maxl, pu_lookup, pu_maxl, maxl_nil, maxl_one, maxl_cons, cells_mapr, stor_mapr, callv_yld, mm_max, mm_min, putAll_cons, putAll_nil, asgK_normal, roundK_normal, roundK_ret, roundK_exit, ilt_nat, *]
    | (refine seqK_now ?_)
    | (refine retK_now ?_)
    | (refine retK_now' ?_)
    | (intro q hq)
    | (refine cond_intro (fun hc => ?_) (fun hc => ?_)))
  · have hi : i < l.length := of_decide_eq_true hc
    clear hc
    have hia := hs.ia (i := i) (by rw [List.length_map]; exact hi)
    rw [List.getElem_map] at hia
    have hq' := hq l[i]
    obtain ⟨p, hp⟩ : ∃ p, l[i] = p := ⟨_, rfl⟩
    rw [hp] at hia hq'
    replace hp := (show Aside _ from hp)
    have hp2 : partA p.av 0 2 true = some p.av := part_flat ⟨_, rfl, rfl⟩
    have hw : i < 4611686018427387904 := by omega
    (repeat' first
    | simp (contextual := true) (maxSteps := 4000000) only [fwc, fwe, cmd_seq, opsW_gpure, drawW_pure, drawW_gpure, Env.upd_apply, Heap.upd_same, Heap.upd_apply, ite_none, List.getD_cons_zero, List.getD_cons_succ, List.getD_nil, List.length_cons, List.length_nil, List.map_cons, List.map_nil, List.getElem?_cons_zero, List.getElem?_cons_succ, List.getElem?_nil, List.set_cons_zero, List.set_cons_succ, List.take_succ_cons, List.take_zero, List.drop_succ_cons, List.drop_zero, List.nil_append, List.cons_append, List.append_nil, Option.map_some, Option.map_none, Option.bind_some, Option.bind_none, reduceIte, ↓reduceIte, decide_true, decide_false, Bool.true_and, Bool.and_true, Bool.false_and, Bool.and_false, true_and, and_true, and_self, Nat.reduceAdd, Nat.reduceLeDiff, Nat.reduceEqDiff, Nat.zero_add, Nat.add_zero, Nat.le_refl, Nat.zero_le, ge_iff_le, Nat.reduceLT, Nat.zero_lt_succ, Nat.reduceSub, if_true, if_false, forall_const, reduceCtorEq, Bool.not_true, Bool.not_false, Bool.false_eq_true, Int.reduceEq, Int.reduceLT, Int.reduceLE, Int.reduceNeg, Int.reduceToNat, Int.reduceAdd, Int.reduceSub, Nat.reduceMul, Nat.reduceEqDiff, gW_un, gcF_un, gcA_un, ci_mkmap, ci_mapset, ci_lookup, ci_maxl, ci_appz, pi_lookup, pi_maxl, pu_lookup, pu_maxl, maxl_nil, maxl_one, maxl_cons, cells_mapr, stor_mapr, callv_yld, mm_max, mm_min, putAll_cons, putAll_nil, asgK_normal, roundK_normal, roundK_ret, roundK_exit, *]
    | (refine seqK_now ?_)
    | (refine retK_now ?_)
    | (refine retK_now' ?_)
    | (intro q hq)
    | (refine cond_intro (fun hc => ?_) (fun hc => ?_)))
    refine hq'.use ?_
    (repeat' first
    | simp (contextual := true) (maxSteps := 4000000) only [fwc, fwe, cmd_seq, opsW_gpure, drawW_pure, drawW_gpure, Env.upd_apply, Heap.upd_same, Heap.upd_apply, ite_none, List.getD_cons_zero, List.getD_cons_succ, List.getD_nil, List.length_cons, List.length_nil, List.map_cons, List.map_nil, List.getElem?_cons_zero, List.getElem?_cons_succ, List.getElem?_nil, List.set_cons_zero, List.set_cons_succ, List.take_succ_cons, List.take_zero, List.drop_succ_cons, List.drop_zero, List.nil_append, List.cons_append, List.append_nil, Option.map_some, Option.map_none, Option.bind_some, Option.bind_none, reduceIte, ↓reduceIte, decide_true, decide_false, Bool.true_and, Bool.and_true, Bool.false_and, Bool.and_false, true_and, and_true, and_self, Nat.reduceAdd, Nat.reduceLeDiff, Nat.reduceEqDiff, Nat.zero_add, Nat.add_zero, Nat.le_refl, Nat.zero_le, ge_iff_le, Nat.reduceLT, Nat.zero_lt_succ, Nat.reduceSub, if_true, if_false, forall_const, reduceCtorEq, Bool.not_true, Bool.not_false, Bool.false_eq_true, Int.reduceEq, Int.reduceLT, Int.reduceLE, Int.reduceNeg, Int.reduceToNat, Int.reduceAdd, Int.reduceSub, Nat.reduceMul, Nat.reduceEqDiff, gW_un, gcF_un, gcA_un, ci_mkmap, ci_mapset, ci_lookup, ci_maxl, ci_appz, pi_lookup, pi_maxl, pu_lookup, pu_maxl, maxl_nil, maxl_one, maxl_cons, cells_mapr, stor_mapr, callv_yld, mm_max, mm_min, putAll_cons, putAll_nil, asgK_normal, roundK_normal, roundK_ret, roundK_exit, wrap_succ, *]
    | (refine seqK_now ?_)
    | (refine retK_now ?_)
    | (refine retK_now' ?_)
    | (intro q hq)
    | (refine cond_intro (fun hc => ?_) (fun hc => ?_)))
    · exact WeakR.pure (Heap.sub_refl _) (by rw [idx_some hi (by rw [hp.out]; exact hc) h2.out])
    · refine loopK_now (l.length - (i + 1)) (by omega) ?_
      rw [hI.out]
      refine ⟨i + 1, by omega, rfl, fun j h hj => ?_, rfl, ?_⟩
      · rcases Nat.lt_or_ge j i with h' | h'
        · exact h2.out j h h'
        · have : j = i := by omega
          subst this
          rw [hp.out]
          exact hc
      · simp (contextual := true) (maxSteps := 4000000) only [fwc, fwe, cmd_seq, opsW_gpure, drawW_pure, drawW_gpure, Env.upd_apply, Heap.upd_same, Heap.upd_apply, ite_none, List.getD_cons_zero, List.getD_cons_succ, List.getD_nil, List.length_cons, List.length_nil, List.map_cons, List.map_nil, List.getElem?_cons_zero, List.getElem?_cons_succ, List.getElem?_nil, List.set_cons_zero, List.set_cons_succ, List.take_succ_cons, List.take_zero, List.drop_succ_cons, List.drop_zero, List.nil_append, List.cons_append, List.append_nil, Option.map_some, Option.map_none, Option.bind_some, Option.bind_none, reduceIte, ↓reduceIte, decide_true, decide_false, Bool.true_and, Bool.and_true, Bool.false_and, Bool.and_false, true_and, and_true, and_self, Nat.reduceAdd, Nat.reduceLeDiff, Nat.reduceEqDiff, Nat.zero_add, Nat.add_zero, Nat.le_refl, Nat.zero_le, ge_iff_le, Nat.reduceLT, Nat.zero_lt_succ, Nat.reduceSub, if_true, if_false, forall_const, reduceCtorEq, Bool.not_true, Bool.not_false, Bool.false_eq_true, Int.reduceEq, Int.reduceLT, Int.reduceLE, Int.reduceNeg, Int.reduceToNat, Int.reduceAdd, Int.reduceSub, Nat.reduceMul, Nat.reduceEqDiff, gW_un, gcF_un, gcA_un, ci_mkmap, ci_mapset, ci_lookup, ci_maxl, ci_appz, pi_lookup, pi_maxl, pu_lookup, pu_maxl, maxl_nil, maxl_one, maxl_cons, cells_mapr, stor_mapr, callv_yld, mm_max, mm_min, putAll_cons, putAll_nil, asgK_normal, roundK_normal, roundK_ret, roundK_exit, env52, wrap_succ, *]
  · have hi : ¬ i < l.length := of_decide_eq_false hc
    refine WeakR.pure (by repeat (first | exact Heap.sub_refl _ | refine sub_upd (by simp only [*]) ?_)) ?_
    rw [idx_none (fun j h => h2.out j h (by omega))]

theorem ContainsFunc_ok (s : AV) (l : List Id) (f : FuncId) (q : Id → Bool) (hs : IsL 2 s (l.map Id.av)) (hl : l.length ≤ 1048576) (hq : ∀ x, PureA Try.prog f [x.av] (.val (.bool (q x)))) :
    PureA Try.prog 35 [s, .clo (.func f) [] []] (.val (.bool (l.any q))) := by
  intro O
  refine k35.call mix ?_
  unfold c35
  (repeat' first
    | simp (contextual := true) (maxSteps := 4000000) only [fwc, fwe, cmd_seq, opsW_gpure, drawW_pure, drawW_gpure, Env.upd_apply, Heap.upd_same, Heap.upd_apply, ite_none, List.getD_cons_zero, List.getD_cons_succ, List.getD_nil, List.length_cons, List.length_nil, List.map_cons, List.map_nil, List.getElem?_cons_zero, List.getElem?_cons_succ, List.getElem?_nil, List.set_cons_zero, List.set_cons_succ, List.take_succ_cons, List.take_zero, List.drop_succ_cons, List.drop_zero, List.nil_append, List.cons_append, List.append_nil, Option.map_some, Option.map_none, Option.bind_some, Option.bind_none, reduceIte, ↓reduceIte, decide_true, decide_false, Bool.true_and, Bool.and_true, Bool.false_and, Bool.and_false, true_and, and_true, and_self, Nat.reduceAdd, Nat.reduceLeDiff, Nat.reduceEqDiff, Nat.zero_add, Nat.add_zero, Nat.le_refl, Nat.zero_le, ge_iff_le, Nat.reduceLT, Nat.zero_lt_succ, Nat.reduceSub, if_true, if_false, forall_const, reduceCtorEq, Bool.not_true, Bool.not_false, Bool.false_eq_true, Int.reduceEq, Int.reduceLT, Int.reduceLE, Int.reduceNeg, Int.reduceToNat, Int.reduceAdd, Int.reduceSub, Nat.reduceMul, Nat.reduceEqDiff, gW_un, gcF_un, gcA_un, ci_mkmap, ci_mapset, ci_lookup, ci_maxl, ci_appz, pi_lookup, pi_maxl, pu_lookup, pu_maxl, maxl_nil, maxl_one, maxl_cons, cells_mapr, stor_mapr, callv_yld, mm_max, mm_min, putAll_cons, putAll_nil, asgK_normal, roundK_normal, roundK_ret, roundK_exit, *]
    | (refine seqK_now ?_)
    | (refine retK_now ?_)
    | (refine retK_now' ?_)
    | (intro q hq)
    | (refine cond_intro (fun hc => ?_) (fun hc => ?_)))
  refine (IndexFunc_ok s l f q hs hl hq).use ?_
  (repeat' first
    | simp (contextual := true) (maxSteps := 4000000) only [fwc, fwe, cmd_seq, opsW_gpure, drawW_pure, drawW_gpure, Env.upd_apply, Heap.upd_same, Heap.upd_apply, ite_none, List.getD_cons_zero, List.getD_cons_succ, List.getD_nil, List.length_cons, List.length_nil, List.map_cons, List.map_nil, List.getElem?_cons_zero, List.getElem?_cons_succ, List.getElem?_nil, List.set_cons_zero, List.set_cons_succ, List.take_succ_cons, List.take_zero, List.drop_succ_cons, List.drop_zero, List.nil_append, List.cons_append, List.append_nil, Option.map_some, Option.map_none, Option.bind_some, Option.bind_none, reduceIte, ↓reduceIte, decide_true, decide_false, Bool.true_and, Bool.and_true, Bool.false_and, Bool.and_false, true_and, and_true, and_self, Nat.reduceAdd, Nat.reduceLeDiff, Nat.reduceEqDiff, Nat.zero_add, Nat.add_zero, Nat.le_refl, Nat.zero_le, ge_iff_le, Nat.reduceLT, Nat.zero_lt_succ, Nat.reduceSub, if_true, if_false, forall_const, reduceCtorEq, Bool.not_true, Bool.not_false, Bool.false_eq_true, Int.reduceEq, Int.reduceLT, Int.reduceLE, Int.reduceNeg, Int.reduceToNat, Int.reduceAdd, Int.reduceSub, Nat.reduceMul, Nat.reduceEqDiff, gW_un, gcF_un, gcA_un, ci_mkmap, ci_mapset, ci_lookup, ci_maxl, ci_appz, pi_lookup, pi_maxl, pu_lookup, pu_maxl, maxl_nil, maxl_one, maxl_cons, cells_mapr, stor_mapr, callv_yld, mm_max, mm_min, putAll_cons, putAll_nil, asgK_normal, roundK_normal, roundK_ret, roundK_exit, *]
    | (refine seqK_now ?_)
    | (refine retK_now ?_)
    | (refine retK_now' ?_)
    | (intro q hq)
    | (refine cond_intro (fun hc => ?_) (fun hc => ?_)))
  refine WeakR.pure (by repeat (first | exact Heap.sub_refl _ | refine sub_upd (by simp only [*]) ?_)) ?_
  rw [idx_any]

theorem bad1_ok (p : Id) : PureA Try.prog 36 [p.av] (.val (.bool (!named p))) := by
  intro O
  have h := Named_ok p
  unfold Id.av at h
  refine k36.call mix ?_
  unfold c36 Id.av
  (repeat' first
    | simp (contextual := true) (maxSteps := 4000000) only [fwc, fwe, cmd_seq, opsW_gpure, drawW_pure, drawW_gpure, Env.upd_apply, Heap.upd_same, Heap.upd_apply, ite_none, List.getD_cons_zero, List.getD_cons_succ, List.getD_nil, List.length_cons, List.length_nil, List.map_cons, List.map_nil, List.getElem?_cons_zero, List.getElem?_cons_succ, List.getElem?_nil, List.set_cons_zero, List.set_cons_succ, List.take_succ_cons, List.take_zero, List.drop_succ_cons, List.drop_zero, List.nil_append, List.cons_append, List.append_nil, Option.map_some, Option.map_none, Option.bind_some, Option.bind_none, reduceIte, ↓reduceIte, decide_true, decide_false, Bool.true_and, Bool.and_true, Bool.false_and, Bool.and_false, true_and, and_true, and_self, Nat.reduceAdd, Nat.reduceLeDiff, Nat.reduceEqDiff, Nat.zero_add, Nat.add_zero, Nat.le_refl, Nat.zero_le, ge_iff_le, Nat.reduceLT, Nat.zero_lt_succ, Nat.reduceSub, if_true, if_false, forall_const, reduceCtorEq, Bool.not_true, Bool.not_false, Bool.false_eq_true, Int.reduceEq, Int.reduceLT, Int.reduceLE, Int.reduceNeg, Int.reduceToNat, Int.reduceAdd, Int.reduceSub, Nat.reduceMul, Nat.reduceEqDiff, gW_un, gcF_un, gcA_un, ci_mkmap, ci_mapset, ci_lookup, ci_maxl, ci_appz, pi_lookup, pi_maxl, pu_lookup, pu_maxl, maxl_nil, maxl_one, maxl_cons, cells_mapr, stor_mapr, callv_yld, mm_max, mm_min, putAll_cons, putAll_nil, asgK_normal, roundK_normal, roundK_ret, roundK_exit, *]
    | (refine seqK_now ?_)
    | (refine retK_now ?_)
    | (refine retK_now' ?_)
    | (intro q hq)
    | (refine cond_intro (fun hc => ?_) (fun hc => ?_)))
  refine h.use ?_
  (repeat' first
    | simp (contextual := true) (maxSteps := 4000000) only [fwc, fwe, cmd_seq, opsW_gpure, drawW_pure, drawW_gpure, Env.upd_apply, Heap.upd_same, Heap.upd_apply, ite_none, List.getD_cons_zero, List.getD_cons_succ, List.getD_nil, List.length_cons, List.length_nil, List.map_cons, List.map_nil, List.getElem?_cons_zero, List.getElem?_cons_succ, List.getElem?_nil, List.set_cons_zero, List.set_cons_succ, List.take_succ_cons, List.take_zero, List.drop_succ_cons, List.drop_zero, List.nil_append, List.cons_append, List.append_nil, Option.map_some, Option.map_none, Option.bind_some, Option.bind_none, reduceIte, ↓reduceIte, decide_true, decide_false, Bool.true_and, Bool.and_true, Bool.false_and, Bool.and_false, true_and, and_true, and_self, Nat.reduceAdd, Nat.reduceLeDiff, Nat.reduceEqDiff, Nat.zero_add, Nat.add_zero, Nat.le_refl, Nat.zero_le, ge_iff_le, Nat.reduceLT, Nat.zero_lt_succ, Nat.reduceSub, if_true, if_false, forall_const, reduceCtorEq, Bool.not_true, Bool.not_false, Bool.false_eq_true, Int.reduceEq, Int.reduceLT, Int.reduceLE, Int.reduceNeg, Int.reduceToNat, Int.reduceAdd, Int.reduceSub, Nat.reduceMul, Nat.reduceEqDiff, gW_un, gcF_un, gcA_un, ci_mkmap, ci_mapset, ci_lookup, ci_maxl, ci_appz, pi_lookup, pi_maxl, pu_lookup, pu_maxl, maxl_nil, maxl_one, maxl_cons, cells_mapr, stor_mapr, callv_yld, mm_max, mm_min, putAll_cons, putAll_nil, asgK_normal, roundK_normal, roundK_ret, roundK_exit, *]
    | (refine seqK_now ?_)
    | (refine retK_now ?_)
    | (refine retK_now' ?_)
    | (intro q hq)
    | (refine cond_intro (fun hc => ?_) (fun hc => ?_)))
  refine WeakR.pure (by repeat (first | exact Heap.sub_refl _ | refine sub_upd (by simp only [*]) ?_)) ?_
  rfl

theorem sub_updel {O A : Heap} {i r : Nat} {x : AObj} (h : O i = none) (hs : O.sub (A.del r)) : O.sub ((A.upd i x).del r) := by
  intro j o hj
  have h1 := hs j o hj
  have hji : ¬ j = i := fun e => by rw [e, h] at hj; cases hj
  rw [Heap.del_apply] at h1 ⊢
  split at h1
  · cases h1
  · rename_i hr
    rw [if_neg hr, Heap.upd_ne _ _ hji]
    exact h1

def badNames (l : List Id) : Bool := l.any fun p => !named p
def checkL (F B : List (List Id)) : Int := if (decide (40 < F.length) || decide (40 < B.length)) = true then 9 else if (visL F B).any (fun l => decide (4 < l.length)) = true then 9 else if badNames (namesL F B) = true then 1 else if (!decide (namesL F B).Nodup) = true then 8 else 0

set_option maxHeartbeats 2000000 in
theorem Check_ok (f b : AV) (es fs : List AV) (F B : List (List Id)) (hf : IsB f es F) (hb : IsB b fs B) :
    PureA Try.prog 13 [.agg [f, b]] (.val (.int .i64 (checkL F B))) := by
  intro O
  have hf1 := hf.1.cells
  have hb1 := hb.1.cells
  have hf2 := hf.1.stor
  have hb2 := hb.1.stor
  have hf3 := hf.1.len
  have hb3 := hb.1.len
  rw [hf.2.1] at hf3
  rw [hb.2.1] at hb3
  have d1 : decide ((40 : Int) < (F.length : Int)) = decide (40 < F.length) := decide_eq_decide.2 (by omega)
  have d2 : decide ((40 : Int) < (B.length : Int)) = decide (40 < B.length) := decide_eq_decide.2 (by omega)
  refine k13.call mix ?_
  unfold c13
  (repeat' first
    | simp (contextual := true) (maxSteps := 4000000) only [fwc, fwe, cmd_seq, opsW_gpure, drawW_pure, drawW_gpure, Env.upd_apply, Heap.upd_same, Heap.upd_apply, ite_none, List.getD_cons_zero, List.getD_cons_succ, List.getD_nil, List.length_cons, List.length_nil, List.map_cons, List.map_nil, List.getElem?_cons_zero, List.getElem?_cons_succ, List.getElem?_nil, List.set_cons_zero, List.set_cons_succ, List.take_succ_cons, List.take_zero, List.drop_succ_cons, List.drop_zero, List.nil_append, List.cons_append, List.append_nil, Option.map_some, Option.map_none, Option.bind_some, Option.bind_none, reduceIte, ↓reduceIte, decide_true, decide_false, Bool.true_and, Bool.and_true, Bool.false_and, Bool.and_false, true_and, and_true, and_self, Nat.reduceAdd, Nat.reduceLeDiff, Nat.reduceEqDiff, Nat.zero_add, Nat.add_zero, Nat.le_refl, Nat.zero_le, ge_iff_le, Nat.reduceLT, Nat.zero_lt_succ, Nat.reduceSub, if_true, if_false, forall_const, reduceCtorEq, Bool.not_true, Bool.not_false, Bool.false_eq_true, Int.reduceEq, Int.reduceLT, Int.reduceLE, Int.reduceNeg, Int.reduceToNat, Int.reduceAdd, Int.reduceSub, Nat.reduceMul, Nat.reduceEqDiff, gW_un, gcF_un, gcA_un, ci_mkmap, ci_mapset, ci_lookup, ci_maxl, ci_appz, pi_lookup, pi_maxl, pu_lookup, pu_maxl, maxl_nil, maxl_one, maxl_cons, cells_mapr, stor_mapr, callv_yld, mm_max, mm_min, putAll_cons, putAll_nil, asgK_normal, roundK_normal, roundK_ret, roundK_exit, part_cell, *]
    | (refine seqK_now ?_)
    | (refine retK_now ?_)
    | (refine retK_now' ?_)
    | (intro q hq)
    | (refine cond_intro (fun hc => ?_) (fun hc => ?_)))
  · refine WeakR.pure (by repeat (first | exact Heap.sub_refl _ | refine sub_upd (by simp only [*]) ?_)) ?_
    rw [checkL, if_pos hc]
  replace hc := (show Aside _ from hc)
  refine (all_ok f b hf1 hb1 hf2 hb2).use ?_
  (repeat' first
    | simp (contextual := true) (maxSteps := 4000000) only [fwc, fwe, cmd_seq, opsW_gpure, drawW_pure, drawW_gpure, Env.upd_apply, Heap.upd_same, Heap.upd_apply, ite_none, List.getD_cons_zero, List.getD_cons_succ, List.getD_nil, List.length_cons, List.length_nil, List.map_cons, List.map_nil, List.getElem?_cons_zero, List.getElem?_cons_succ, List.getElem?_nil, List.set_cons_zero, List.set_cons_succ, List.take_succ_cons, List.take_zero, List.drop_succ_cons, List.drop_zero, List.nil_append, List.cons_append, List.append_nil, Option.map_some, Option.map_none, Option.bind_some, Option.bind_none, reduceIte, ↓reduceIte, decide_true, decide_false, Bool.true_and, Bool.and_true, Bool.false_and, Bool.and_false, true_and, and_true, and_self, Nat.reduceAdd, Nat.reduceLeDiff, Nat.reduceEqDiff, Nat.zero_add, Nat.add_zero, Nat.le_refl, Nat.zero_le, ge_iff_le, Nat.reduceLT, Nat.zero_lt_succ, Nat.reduceSub, if_true, if_false, forall_const, reduceCtorEq, Bool.not_true, Bool.not_false, Bool.false_eq_true, Int.reduceEq, Int.reduceLT, Int.reduceLE, Int.reduceNeg, Int.reduceToNat, Int.reduceAdd, Int.reduceSub, Nat.reduceMul, Nat.reduceEqDiff, gW_un, gcF_un, gcA_un, ci_mkmap, ci_mapset, ci_lookup, ci_maxl, ci_appz, pi_lookup, pi_maxl, pu_lookup, pu_maxl, maxl_nil, maxl_one, maxl_cons, cells_mapr, stor_mapr, callv_yld, mm_max, mm_min, putAll_cons, putAll_nil, asgK_normal, roundK_normal, roundK_ret, roundK_exit, *]
    | (refine seqK_now ?_)
    | (refine retK_now ?_)
    | (refine retK_now' ?_)
    | (intro q hq)
    | (refine cond_intro (fun hc => ?_) (fun hc => ?_)))
  refine cmd_range rfl ?_
  intro rid RR BB DD hid hY
  replace hY := (show Aside _ from hY)
  rename_i q1 hq1
  rw [upd_none, upd_none] at hid
  obtain ⟨hq2, hq3, hq4⟩ := hq
  obtain ⟨hid1, hid2, hid3, hid4, hid5⟩ := hid
  obtain ⟨hv1, hv2⟩ := vis_is hf hb
  have hvl := vis_le F B
  let J : Nat → Heap → Prop := fun j O' => (∀ i (h : i < (visL F B).length), i < j → (visL F B)[i].length ≤ 4) ∧ O' rid = some RR ∧ O' q1 = some (.arr 26 2 [.agg [f, b]]) ∧ O' q = some (.arr 29 1 [.val (.int .i64 0)]) ∧ O.sub (O'.del rid)
  let Z : Heap → Prop := fun O' => (∃ i, ∃ (h : i < (visL F B).length), 4 < (visL F B)[i].length) ∧ O' rid = some (DD .ret) ∧ O' q = some (.arr 29 1 [.val (.int .i64 9)]) ∧ O.sub (O'.del rid)
  refine CallA.mono (all1_ok rid f b es fs hf.1 hb.1 hf.stk hb.stk _ J Z ?_ ?_) ?_
  · refine ⟨fun i h h' => by omega, Heap.upd_same _ _ _, ?_, ?_, ?_⟩
    · rw [Heap.upd_ne _ _ hid4, Heap.upd_ne _ _ hq3, Heap.upd_same]
    · rw [Heap.upd_ne _ _ hid2, Heap.upd_same]
    · rw [del_upd_new (by rw [upd_none, upd_none]; exact ⟨hid1, hid2, hid3, hid4, hid5⟩)]
      exact sub_upd hq4 (sub_upd hq1 (Heap.sub_refl _))
  · intro j hj O1 hJ
    obtain ⟨g1, g2, g3, g4, g5⟩ := hJ
    have hj' : j < (visL F B).length := by rw [← hv1]; exact hj
    have hx := hv2 j hj hj'
    generalize (es.take 40 ++ fs.take 40)[j] = x at hx
    have hx1 := hx.len
    rw [List.length_map] at hx1
    have d3 : decide ((4 : Int) < ((visL F B)[j].length : Int)) = decide (4 < (visL F B)[j].length) := decide_eq_decide.2 (by omega)
    replace g1 := (show Aside _ from g1)
    refine hY.out [_, x] O1 _ g2 rfl ?_
    (repeat' first
    | simp (contextual := true) (maxSteps := 4000000) only [fwc, fwe, cmd_seq, opsW_gpure, drawW_pure, drawW_gpure, Env.upd_apply, Heap.upd_same, Heap.upd_apply, ite_none, List.getD_cons_zero, List.getD_cons_succ, List.getD_nil, List.length_cons, List.length_nil, List.map_cons, List.map_nil, List.getElem?_cons_zero, List.getElem?_cons_succ, List.getElem?_nil, List.set_cons_zero, List.set_cons_succ, List.take_succ_cons, List.take_zero, List.drop_succ_cons, List.drop_zero, List.nil_append, List.cons_append, List.append_nil, Option.map_some, Option.map_none, Option.bind_some, Option.bind_none, reduceIte, ↓reduceIte, decide_true, decide_false, Bool.true_and, Bool.and_true, Bool.false_and, Bool.and_false, true_and, and_true, and_self, Nat.reduceAdd, Nat.reduceLeDiff, Nat.reduceEqDiff, Nat.zero_add, Nat.add_zero, Nat.le_refl, Nat.zero_le, ge_iff_le, Nat.reduceLT, Nat.zero_lt_succ, Nat.reduceSub, if_true, if_false, forall_const, reduceCtorEq, Bool.not_true, Bool.not_false, Bool.false_eq_true, Int.reduceEq, Int.reduceLT, Int.reduceLE, Int.reduceNeg, Int.reduceToNat, Int.reduceAdd, Int.reduceSub, Nat.reduceMul, Nat.reduceEqDiff, gW_un, gcF_un, gcA_un, ci_mkmap, ci_mapset, ci_lookup, ci_maxl, ci_appz, pi_lookup, pi_maxl, pu_lookup, pu_maxl, maxl_nil, maxl_one, maxl_cons, cells_mapr, stor_mapr, callv_yld, mm_max, mm_min, putAll_cons, putAll_nil, asgK_normal, roundK_normal, roundK_ret, roundK_exit, *]
    | (refine seqK_now ?_)
    | (refine retK_now ?_)
    | (refine retK_now' ?_)
    | (intro q hq)
    | (refine cond_intro (fun hc => ?_) (fun hc => ?_)))
    · refine .inr ⟨⟨j, hj', of_decide_eq_true hc⟩, Heap.upd_same _ _ _, ?_, sub_updel hid5 (sub_updel hq4 (sub_updel hid5 g5))⟩
      rw [Heap.upd_ne _ _ hid2, Heap.upd_same]
    · refine .inl ⟨?_, Heap.upd_same _ _ _, ?_, ?_, sub_updel hid5 g5⟩
      · intro i h h'
        rcases Nat.lt_or_ge i j with h2 | h2
        · exact g1.out i h h2
        · have : i = j := by omega
          subst this
          have := of_decide_eq_false hc
          omega
      · rw [Heap.upd_ne _ _ hid4]; exact g3
      · rw [Heap.upd_ne _ _ hid2]; exact g4
  · intro r O' h
    rcases h with ⟨g1, g2, g3, g4, g5⟩ | ⟨g1, g2, g3, g4⟩
    · rw [hv1] at g1
      have h4 : (visL F B).any (fun l => decide (4 < l.length)) = false := by
        rw [List.any_eq_false]
        intro l hl
        obtain ⟨i, hi, rfl⟩ := List.mem_iff_getElem.1 hl
        have := g1 i hi hi
        simp; omega
      have hle : ∀ l ∈ visL F B, l.length ≤ 1000 := fun l hl => by
        obtain ⟨i, hi, rfl⟩ := List.mem_iff_getElem.1 hl
        have := g1 i hi hi
        omega
      clear g1
      refine .inl ⟨g2, ?_⟩
      have hn := names_ok f b es fs F B hf hb hle
      have hL := frA_L 2 ((namesL F B).map Id.av)
      have hnl : (namesL F B).length ≤ 1048576 := by
        have := flat_len hle
        unfold namesL
        omega
      have hcf := ContainsFunc_ok _ (namesL F B) 36 (fun p => !named p) hL hnl (fun x => bad1_ok x)
      have htw := twice_ok _ _ hL hnl
      generalize frA 2 ((namesL F B).map Id.av) = nm at hn hcf htw
      replace g5 := (show Aside _ from g5)
      replace hle := (show Aside _ from hle)
      replace h4 := (show Aside _ from h4)
      have g6 : (O'.del rid) q1 = some (.arr 26 2 [.agg [f, b]]) := by rw [Heap.del_ne _ hid4]; exact g3
      have g7 : (O'.del rid) q = some (.arr 29 1 [.val (.int .i64 0)]) := by rw [Heap.del_ne _ hid2]; exact g4
      generalize O'.del rid = O2 at g5 g6 g7
      clear g2 g3 g4 O'
      (repeat' first
    | simp (contextual := true) (maxSteps := 4000000) only [fwc, fwe, cmd_seq, opsW_gpure, drawW_pure, drawW_gpure, Env.upd_apply, Heap.upd_same, Heap.upd_apply, ite_none, List.getD_cons_zero, List.getD_cons_succ, List.getD_nil, List.length_cons, List.length_nil, List.map_cons, List.map_nil, List.getElem?_cons_zero, List.getElem?_cons_succ, List.getElem?_nil, List.set_cons_zero, List.set_cons_succ, List.take_succ_cons, List.take_zero, List.drop_succ_cons, List.drop_zero, List.nil_append, List.cons_append, List.append_nil, Option.map_some, Option.map_none, Option.bind_some, Option.bind_none, reduceIte, ↓reduceIte, decide_true, decide_false, Bool.true_and, Bool.and_true, Bool.false_and, Bool.and_false, true_and, and_true, and_self, Nat.reduceAdd, Nat.reduceLeDiff, Nat.reduceEqDiff, Nat.zero_add, Nat.add_zero, Nat.le_refl, Nat.zero_le, ge_iff_le, Nat.reduceLT, Nat.zero_lt_succ, Nat.reduceSub, if_true, if_false, forall_const, reduceCtorEq, Bool.not_true, Bool.not_false, Bool.false_eq_true, Int.reduceEq, Int.reduceLT, Int.reduceLE, Int.reduceNeg, Int.reduceToNat, Int.reduceAdd, Int.reduceSub, Nat.reduceMul, Nat.reduceEqDiff, gW_un, gcF_un, gcA_un, ci_mkmap, ci_mapset, ci_lookup, ci_maxl, ci_appz, pi_lookup, pi_maxl, pu_lookup, pu_maxl, maxl_nil, maxl_one, maxl_cons, cells_mapr, stor_mapr, callv_yld, mm_max, mm_min, putAll_cons, putAll_nil, asgK_normal, roundK_normal, roundK_ret, roundK_exit, part_cell, part_agg, *]
    | (refine seqK_now ?_)
    | (refine retK_now ?_)
    | (refine retK_now' ?_)
    | (intro q hq)
    | (refine cond_intro (fun hc => ?_) (fun hc => ?_)))
      refine hn.use ?_
      (repeat' first
    | simp (contextual := true) (maxSteps := 4000000) only [fwc, fwe, cmd_seq, opsW_gpure, drawW_pure, drawW_gpure, Env.upd_apply, Heap.upd_same, Heap.upd_apply, ite_none, List.getD_cons_zero, List.getD_cons_succ, List.getD_nil, List.length_cons, List.length_nil, List.map_cons, List.map_nil, List.getElem?_cons_zero, List.getElem?_cons_succ, List.getElem?_nil, List.set_cons_zero, List.set_cons_succ, List.take_succ_cons, List.take_zero, List.drop_succ_cons, List.drop_zero, List.nil_append, List.cons_append, List.append_nil, Option.map_some, Option.map_none, Option.bind_some, Option.bind_none, reduceIte, ↓reduceIte, decide_true, decide_false, Bool.true_and, Bool.and_true, Bool.false_and, Bool.and_false, true_and, and_true, and_self, Nat.reduceAdd, Nat.reduceLeDiff, Nat.reduceEqDiff, Nat.zero_add, Nat.add_zero, Nat.le_refl, Nat.zero_le, ge_iff_le, Nat.reduceLT, Nat.zero_lt_succ, Nat.reduceSub, if_true, if_false, forall_const, reduceCtorEq, Bool.not_true, Bool.not_false, Bool.false_eq_true, Int.reduceEq, Int.reduceLT, Int.reduceLE, Int.reduceNeg, Int.reduceToNat, Int.reduceAdd, Int.reduceSub, Nat.reduceMul, Nat.reduceEqDiff, gW_un, gcF_un, gcA_un, ci_mkmap, ci_mapset, ci_lookup, ci_maxl, ci_appz, pi_lookup, pi_maxl, pu_lookup, pu_maxl, maxl_nil, maxl_one, maxl_cons, cells_mapr, stor_mapr, callv_yld, mm_max, mm_min, putAll_cons, putAll_nil, asgK_normal, roundK_normal, roundK_ret, roundK_exit, *]
    | (refine seqK_now ?_)
    | (refine retK_now ?_)
    | (refine retK_now' ?_)
    | (intro q hq)
    | (refine cond_intro (fun hc => ?_) (fun hc => ?_)))
      refine hcf.use ?_
      (repeat' first
    | simp (contextual := true) (maxSteps := 4000000) only [fwc, fwe, cmd_seq, opsW_gpure, drawW_pure, drawW_gpure, Env.upd_apply, Heap.upd_same, Heap.upd_apply, ite_none, List.getD_cons_zero, List.getD_cons_succ, List.getD_nil, List.length_cons, List.length_nil, List.map_cons, List.map_nil, List.getElem?_cons_zero, List.getElem?_cons_succ, List.getElem?_nil, List.set_cons_zero, List.set_cons_succ, List.take_succ_cons, List.take_zero, List.drop_succ_cons, List.drop_zero, List.nil_append, List.cons_append, List.append_nil, Option.map_some, Option.map_none, Option.bind_some, Option.bind_none, reduceIte, ↓reduceIte, decide_true, decide_false, Bool.true_and, Bool.and_true, Bool.false_and, Bool.and_false, true_and, and_true, and_self, Nat.reduceAdd, Nat.reduceLeDiff, Nat.reduceEqDiff, Nat.zero_add, Nat.add_zero, Nat.le_refl, Nat.zero_le, ge_iff_le, Nat.reduceLT, Nat.zero_lt_succ, Nat.reduceSub, if_true, if_false, forall_const, reduceCtorEq, Bool.not_true, Bool.not_false, Bool.false_eq_true, Int.reduceEq, Int.reduceLT, Int.reduceLE, Int.reduceNeg, Int.reduceToNat, Int.reduceAdd, Int.reduceSub, Nat.reduceMul, Nat.reduceEqDiff, gW_un, gcF_un, gcA_un, ci_mkmap, ci_mapset, ci_lookup, ci_maxl, ci_appz, pi_lookup, pi_maxl, pu_lookup, pu_maxl, maxl_nil, maxl_one, maxl_cons, cells_mapr, stor_mapr, callv_yld, mm_max, mm_min, putAll_cons, putAll_nil, asgK_normal, roundK_normal, roundK_ret, roundK_exit, *]
    | (refine seqK_now ?_)
    | (refine retK_now ?_)
    | (refine retK_now' ?_)
    | (intro q hq)
    | (refine cond_intro (fun hc => ?_) (fun hc => ?_)))
      · refine WeakR.pure (sub_upd hq4 g5.out) ?_
        rename_i hc2
        rw [checkL, if_neg (by rw [hc2.out]; simp), if_neg (by rw [h4.out]; simp), if_pos (by exact hc)]
      replace hc := (show Aside _ from hc)
      refine htw.use ?_
      rename_i hc2
      (repeat' first
    | simp (contextual := true) (maxSteps := 4000000) only [fwc, fwe, cmd_seq, opsW_gpure, drawW_pure, drawW_gpure, Env.upd_apply, Heap.upd_same, Heap.upd_apply, ite_none, List.getD_cons_zero, List.getD_cons_succ, List.getD_nil, List.length_cons, List.length_nil, List.map_cons, List.map_nil, List.getElem?_cons_zero, List.getElem?_cons_succ, List.getElem?_nil, List.set_cons_zero, List.set_cons_succ, List.take_succ_cons, List.take_zero, List.drop_succ_cons, List.drop_zero, List.nil_append, List.cons_append, List.append_nil, Option.map_some, Option.map_none, Option.bind_some, Option.bind_none, reduceIte, ↓reduceIte, decide_true, decide_false, Bool.true_and, Bool.and_true, Bool.false_and, Bool.and_false, true_and, and_true, and_self, Nat.reduceAdd, Nat.reduceLeDiff, Nat.reduceEqDiff, Nat.zero_add, Nat.add_zero, Nat.le_refl, Nat.zero_le, ge_iff_le, Nat.reduceLT, Nat.zero_lt_succ, Nat.reduceSub, if_true, if_false, forall_const, reduceCtorEq, Bool.not_true, Bool.not_false, Bool.false_eq_true, Int.reduceEq, Int.reduceLT, Int.reduceLE, Int.reduceNeg, Int.reduceToNat, Int.reduceAdd, Int.reduceSub, Nat.reduceMul, Nat.reduceEqDiff, gW_un, gcF_un, gcA_un, ci_mkmap, ci_mapset, ci_lookup, ci_maxl, ci_appz, pi_lookup, pi_maxl, pu_lookup, pu_maxl, maxl_nil, maxl_one, maxl_cons, cells_mapr, stor_mapr, callv_yld, mm_max, mm_min, putAll_cons, putAll_nil, asgK_normal, roundK_normal, roundK_ret, roundK_exit, *]
    | (refine seqK_now ?_)
    | (refine retK_now ?_)
    | (refine retK_now' ?_)
    | (intro q hq)
    | (refine cond_intro (fun hc => ?_) (fun hc => ?_)))
      · refine WeakR.pure (sub_upd hq4 g5.out) ?_
        rename_i hc3
        rw [checkL, if_neg (by rw [hc2.out]; simp), if_neg (by rw [h4.out]; simp), if_neg (by rw [show badNames (namesL F B) = false from hc3.out]; simp), if_pos hc]
      · refine WeakR.pure (sub_upd hq4 g5.out) ?_
        rename_i hc3
        rw [checkL, if_neg (by rw [hc2.out]; simp), if_neg (by rw [h4.out]; simp), if_neg (by rw [show badNames (namesL F B) = false from hc3.out]; simp), if_neg (by rw [hc]; simp)]
    · refine .inr ⟨.ret, by simp, g2, ?_⟩
      have g6 : (O'.del rid) q = some (.arr 29 1 [.val (.int .i64 9)]) := by rw [Heap.del_ne _ hid2]; exact g3
      obtain ⟨i, h1, h2⟩ := g1
      have h4 : (visL F B).any (fun l => decide (4 < l.length)) = true := List.any_eq_true.2 ⟨_, List.getElem_mem h1, by simpa using h2⟩
      rw [checkL, if_neg (by rw [hc.out]; simp), if_pos h4]
      clear h4 h2
      (repeat' first
    | simp (contextual := true) (maxSteps := 4000000) only [fwc, fwe, cmd_seq, opsW_gpure, drawW_pure, drawW_gpure, Env.upd_apply, Heap.upd_same, Heap.upd_apply, ite_none, List.getD_cons_zero, List.getD_cons_succ, List.getD_nil, List.length_cons, List.length_nil, List.map_cons, List.map_nil, List.getElem?_cons_zero, List.getElem?_cons_succ, List.getElem?_nil, List.set_cons_zero, List.set_cons_succ, List.take_succ_cons, List.take_zero, List.drop_succ_cons, List.drop_zero, List.nil_append, List.cons_append, List.append_nil, Option.map_some, Option.map_none, Option.bind_some, Option.bind_none, reduceIte, ↓reduceIte, decide_true, decide_false, Bool.true_and, Bool.and_true, Bool.false_and, Bool.and_false, true_and, and_true, and_self, Nat.reduceAdd, Nat.reduceLeDiff, Nat.reduceEqDiff, Nat.zero_add, Nat.add_zero, Nat.le_refl, Nat.zero_le, ge_iff_le, Nat.reduceLT, Nat.zero_lt_succ, Nat.reduceSub, if_true, if_false, forall_const, reduceCtorEq, Bool.not_true, Bool.not_false, Bool.false_eq_true, Int.reduceEq, Int.reduceLT, Int.reduceLE, Int.reduceNeg, Int.reduceToNat, Int.reduceAdd, Int.reduceSub, Nat.reduceMul, Nat.reduceEqDiff, gW_un, gcF_un, gcA_un, ci_mkmap, ci_mapset, ci_lookup, ci_maxl, ci_appz, pi_lookup, pi_maxl, pu_lookup, pu_maxl, maxl_nil, maxl_one, maxl_cons, cells_mapr, stor_mapr, callv_yld, mm_max, mm_min, putAll_cons, putAll_nil, asgK_normal, roundK_normal, roundK_ret, roundK_exit, part_cell, *]
    | (refine seqK_now ?_)
    | (refine retK_now ?_)
    | (refine retK_now' ?_)
    | (intro q hq)
    | (refine cond_intro (fun hc => ?_) (fun hc => ?_)))
      exact WeakR.pure g4 rfl
end Go.Proofs.Ytlpngkeegjickab

namespace Go.Proofs.Ytlpngkeegjickab
open Go.Ab
attribute [local irreducible] WeakR WeakE CallA YieldA

def env53 (s : AV) (n q i : Nat) : Env := (((Env.upd (fun _ => .junk) 8 (.val (.int .i64 i))).upd 7 (.val (.int .i64 n))).upd 3 (.optr q 2 0 0)).upd 0 s

def env39 (s t : AV) (n i : Nat) : Env := (((Env.upd (fun _ => .junk) 13 (.val (.int .i64 i))).upd 12 (.val (.int .i64 n))).upd 1 t).upd 0 s

theorem eq_of_all {L M : List Id} (h : L.length = M.length) (h2 : ∀ j (h : j < L.length) (h' : j < M.length), L[j] = M[j]) : L = M := List.ext_getElem h h2

def env21 (s t : AV) (i : Nat) : Env := ((Env.upd (fun _ => .junk) 5 (.val (.int .i64 i))).upd 1 t).upd 0 s

def needleL (i : Nat) : Ndl := ⟨((i % 80 / 40 : Nat) : Int), ((1 + i % 40 : Nat) : Int)⟩
end Go.Proofs.Ytlpngkeegjickab

namespace Go.Proofs.Ytlpngkeegjickab
open Go.Ab
attribute [local irreducible] WeakR WeakE CallA YieldA

def atL (F B : List (List Id)) (n : Ndl) : List Id := if n.bad = true then [] else (if n.bed = 1 then B else F).getD (n.at_ - 1).toNat []
def atA (es fs : List AV) (n : Ndl) : AV := if n.bad = true then .val (.slice none 0 0) else cpS (getA (if n.bed = 1 then fs else es) (n.at_ - 1).toNat)

theorem getA_L {s : AV} {es : List AV} {F : List (List Id)} (h : IsB s es F) (i : Nat) : IsL 2 (getA es i) ((F.getD i []).map Id.av) := by
  unfold getA
  by_cases hi : i < es.length
  · have hi' : i < F.length := by rw [← h.2.1]; exact hi
    rw [List.getD_eq_getElem?_getD, List.getD_eq_getElem?_getD, List.getElem?_eq_getElem hi, List.getElem?_eq_getElem hi']
    exact h.2.2 i hi hi'
  · rw [List.getD_eq_getElem?_getD, List.getD_eq_getElem?_getD, List.getElem?_eq_none (by omega), List.getElem?_eq_none (by rw [← h.2.1]; omega)]
    exact .nil

/-- How long a bed may be, and its stacks. -/
def Sm (F : List (List Id)) : Prop := F.length ≤ 1000 ∧ ∀ l ∈ F, l.length ≤ 1000
theorem Sm.getD {F : List (List Id)} (h : Sm F) (i : Nat) : (F.getD i []).length ≤ 1000 := by
  rw [List.getD_eq_getElem?_getD]
  by_cases hi : i < F.length
  · rw [List.getElem?_eq_getElem hi]; exact h.2 _ (List.getElem_mem hi)
  · rw [List.getElem?_eq_none (by omega)]; simp
theorem Sm.vis {F B : List (List Id)} (hF : Sm F) (hB : Sm B) : ∀ l ∈ visL F B, l.length ≤ 1000 := by
  intro l hl
  rcases List.mem_append.1 hl with h | h
  · exact hF.2 l (List.mem_of_mem_take h)
  · exact hB.2 l (List.mem_of_mem_take h)

theorem getOK {s : AV} {es : List AV} {F : List (List Id)} (h : IsB s es F) (hs : Sm F) (i : Nat) : PureA Try.prog 49 [s, .val (.int .i64 i)] (getA es i) :=
  get_ok h.1 i (by have := h.2.1; have := hs.1; omega) (fun x hx => by obtain ⟨L, hL⟩ := h.stk x hx; exact ⟨_, hL⟩)

theorem At_ok (f b : AV) (es fs : List AV) (F B : List (List Id)) (n : Ndl) (hf : IsB f es F) (hb : IsB b fs B) (hF : Sm F) (hB : Sm B) :
    PureA Try.prog 25 [.agg [f, b], n.av] (atA es fs n) := by
  intro O
  have hf1 := hf.1.cells
  have hb1 := hb.1.cells
  have hf2 := hf.1.stor
  have hb2 := hb.1.stor
  have hck := NdlCheck_ok n
  rw [show n.av = .agg [.val (.int .u8 n.bed), .val (.int .i64 n.at_)] from rfl] at hck ⊢
  refine k25.call mix ?_
  unfold c25
  (repeat' first
    | simp (contextual := true) (maxSteps := 4000000) only [fwc, fwe, cmd_seq, opsW_gpure, drawW_pure, drawW_gpure, Env.upd_apply, Heap.upd_same, Heap.upd_apply, ite_none, List.getD_cons_zero, List.getD_cons_succ, List.getD_nil, List.length_cons, List.length_nil, List.map_cons, List.map_nil, List.getElem?_cons_zero, List.getElem?_cons_succ, List.getElem?_nil, List.set_cons_zero, List.set_cons_succ, List.take_succ_cons, List.take_zero, List.drop_succ_cons, List.drop_zero, List.nil_append, List.cons_append, List.append_nil, Option.map_some, Option.map_none, Option.bind_some, Option.bind_none, reduceIte, ↓reduceIte, decide_true, decide_false, Bool.true_and, Bool.and_true, Bool.false_and, Bool.and_false, true_and, and_true, and_self, Nat.reduceAdd, Nat.reduceLeDiff, Nat.reduceEqDiff, Nat.zero_add, Nat.add_zero, Nat.le_refl, Nat.zero_le, ge_iff_le, Nat.reduceLT, Nat.zero_lt_succ, Nat.reduceSub, if_true, if_false, forall_const, reduceCtorEq, Bool.not_true, Bool.not_false, Bool.false_eq_true, Int.reduceEq, Int.reduceLT, Int.reduceLE, Int.reduceNeg, Int.reduceToNat, Int.reduceAdd, Int.reduceSub, Nat.reduceMul, Nat.reduceEqDiff, gW_un, gcF_un, gcA_un, ci_mkmap, ci_mapset, ci_lookup, ci_maxl, ci_appz, pi_lookup, pi_maxl, pu_lookup, pu_maxl, maxl_nil, maxl_one, maxl_cons, cells_mapr, stor_mapr, callv_yld, mm_max, mm_min, putAll_cons, putAll_nil, asgK_normal, roundK_normal, roundK_ret, roundK_exit, *]
    | (refine seqK_now ?_)
    | (refine retK_now ?_)
    | (refine retK_now' ?_)
    | (intro q hq)
    | (refine cond_intro (fun hc => ?_) (fun hc => ?_)))
  refine hck.use ?_
  by_cases hbad : n.bad = true
  · have hA : atA es fs n = .val (.slice none 0 0) := by rw [atA, if_pos hbad]
    rw [if_pos hbad]
    rw [hA]
    (repeat' first
    | simp (contextual := true) (maxSteps := 4000000) only [fwc, fwe, cmd_seq, opsW_gpure, drawW_pure, drawW_gpure, Env.upd_apply, Heap.upd_same, Heap.upd_apply, ite_none, List.getD_cons_zero, List.getD_cons_succ, List.getD_nil, List.length_cons, List.length_nil, List.map_cons, List.map_nil, List.getElem?_cons_zero, List.getElem?_cons_succ, List.getElem?_nil, List.set_cons_zero, List.set_cons_succ, List.take_succ_cons, List.take_zero, List.drop_succ_cons, List.drop_zero, List.nil_append, List.cons_append, List.append_nil, Option.map_some, Option.map_none, Option.bind_some, Option.bind_none, reduceIte, ↓reduceIte, decide_true, decide_false, Bool.true_and, Bool.and_true, Bool.false_and, Bool.and_false, true_and, and_true, and_self, Nat.reduceAdd, Nat.reduceLeDiff, Nat.reduceEqDiff, Nat.zero_add, Nat.add_zero, Nat.le_refl, Nat.zero_le, ge_iff_le, Nat.reduceLT, Nat.zero_lt_succ, Nat.reduceSub, if_true, if_false, forall_const, reduceCtorEq, Bool.not_true, Bool.not_false, Bool.false_eq_true, Int.reduceEq, Int.reduceLT, Int.reduceLE, Int.reduceNeg, Int.reduceToNat, Int.reduceAdd, Int.reduceSub, Nat.reduceMul, Nat.reduceEqDiff, gW_un, gcF_un, gcA_un, ci_mkmap, ci_mapset, ci_lookup, ci_maxl, ci_appz, pi_lookup, pi_maxl, pu_lookup, pu_maxl, maxl_nil, maxl_one, maxl_cons, cells_mapr, stor_mapr, callv_yld, mm_max, mm_min, putAll_cons, putAll_nil, asgK_normal, roundK_normal, roundK_ret, roundK_exit, *]
    | (refine seqK_now ?_)
    | (refine retK_now ?_)
    | (refine retK_now' ?_)
    | (intro q hq)
    | (refine cond_intro (fun hc => ?_) (fun hc => ?_)))
    refine WeakR.pure (by repeat (first | exact Heap.sub_refl _ | refine sub_upd (by simp only [*]) ?_)) ?_
    rfl
  · have hA : atA es fs n = cpS (getA (if n.bed = 1 then fs else es) (n.at_ - 1).toNat) := by rw [atA, if_neg hbad]
    rw [if_neg hbad, hA]
    have hw : IntKind.i64.wrap (n.at_ - 1) = (((n.at_ - 1).toNat : Nat) : Int) ∧ 0 ≤ n.at_ - 1 := by
      have h := hbad
      unfold Ndl.bad at h
      simp only [Bool.or_eq_true, decide_eq_true_eq, not_or, Int.not_lt] at h
      rw [wrap_i64 (by omega) (by omega)]
      omega
    obtain ⟨hw, _⟩ := hw
    generalize (n.at_ - 1).toNat = i at hw
    clear hA hbad hck
    have hgF := getOK hf hF i
    have hgB := getOK hb hB i
    have hLF := getA_L hf i
    have hLB := getA_L hb i
    have hlF := hF.getD i
    have hlB := hB.getD i
    (repeat' first
    | simp (contextual := true) (maxSteps := 4000000) only [fwc, fwe, cmd_seq, opsW_gpure, drawW_pure, drawW_gpure, Env.upd_apply, Heap.upd_same, Heap.upd_apply, ite_none, List.getD_cons_zero, List.getD_cons_succ, List.getD_nil, List.length_cons, List.length_nil, List.map_cons, List.map_nil, List.getElem?_cons_zero, List.getElem?_cons_succ, List.getElem?_nil, List.set_cons_zero, List.set_cons_succ, List.take_succ_cons, List.take_zero, List.drop_succ_cons, List.drop_zero, List.nil_append, List.cons_append, List.append_nil, Option.map_some, Option.map_none, Option.bind_some, Option.bind_none, reduceIte, ↓reduceIte, decide_true, decide_false, Bool.true_and, Bool.and_true, Bool.false_and, Bool.and_false, true_and, and_true, and_self, Nat.reduceAdd, Nat.reduceLeDiff, Nat.reduceEqDiff, Nat.zero_add, Nat.add_zero, Nat.le_refl, Nat.zero_le, ge_iff_le, Nat.reduceLT, Nat.zero_lt_succ, Nat.reduceSub, if_true, if_false, forall_const, reduceCtorEq, Bool.not_true, Bool.not_false, Bool.false_eq_true, Int.reduceEq, Int.reduceLT, Int.reduceLE, Int.reduceNeg, Int.reduceToNat, Int.reduceAdd, Int.reduceSub, Nat.reduceMul, Nat.reduceEqDiff, gW_un, gcF_un, gcA_un, ci_mkmap, ci_mapset, ci_lookup, ci_maxl, ci_appz, pi_lookup, pi_maxl, pu_lookup, pu_maxl, maxl_nil, maxl_one, maxl_cons, cells_mapr, stor_mapr, callv_yld, mm_max, mm_min, putAll_cons, putAll_nil, asgK_normal, roundK_normal, roundK_ret, roundK_exit, part_cell, *]
    | (refine seqK_now ?_)
    | (refine retK_now ?_)
    | (refine retK_now' ?_)
    | (intro q hq)
    | (refine cond_intro (fun hc => ?_) (fun hc => ?_)))
    · have hbed : n.bed = 1 := of_decide_eq_true hc
      rw [if_pos hbed]
      clear hc hbed
      refine hgB.use ?_
      (repeat' first
    | simp (contextual := true) (maxSteps := 4000000) only [fwc, fwe, cmd_seq, opsW_gpure, drawW_pure, drawW_gpure, Env.upd_apply, Heap.upd_same, Heap.upd_apply, ite_none, List.getD_cons_zero, List.getD_cons_succ, List.getD_nil, List.length_cons, List.length_nil, List.map_cons, List.map_nil, List.getElem?_cons_zero, List.getElem?_cons_succ, List.getElem?_nil, List.set_cons_zero, List.set_cons_succ, List.take_succ_cons, List.take_zero, List.drop_succ_cons, List.drop_zero, List.nil_append, List.cons_append, List.append_nil, Option.map_some, Option.map_none, Option.bind_some, Option.bind_none, reduceIte, ↓reduceIte, decide_true, decide_false, Bool.true_and, Bool.and_true, Bool.false_and, Bool.and_false, true_and, and_true, and_self, Nat.reduceAdd, Nat.reduceLeDiff, Nat.reduceEqDiff, Nat.zero_add, Nat.add_zero, Nat.le_refl, Nat.zero_le, ge_iff_le, Nat.reduceLT, Nat.zero_lt_succ, Nat.reduceSub, if_true, if_false, forall_const, reduceCtorEq, Bool.not_true, Bool.not_false, Bool.false_eq_true, Int.reduceEq, Int.reduceLT, Int.reduceLE, Int.reduceNeg, Int.reduceToNat, Int.reduceAdd, Int.reduceSub, Nat.reduceMul, Nat.reduceEqDiff, gW_un, gcF_un, gcA_un, ci_mkmap, ci_mapset, ci_lookup, ci_maxl, ci_appz, pi_lookup, pi_maxl, pu_lookup, pu_maxl, maxl_nil, maxl_one, maxl_cons, cells_mapr, stor_mapr, callv_yld, mm_max, mm_min, putAll_cons, putAll_nil, asgK_normal, roundK_normal, roundK_ret, roundK_exit, *]
    | (refine seqK_now ?_)
    | (refine retK_now ?_)
    | (refine retK_now' ?_)
    | (intro q hq)
    | (refine cond_intro (fun hc => ?_) (fun hc => ?_)))
      refine (Clone_ok hLB (by simp only [List.length_map]; omega)).use ?_
      (repeat' first
    | simp (contextual := true) (maxSteps := 4000000) only [fwc, fwe, cmd_seq, opsW_gpure, drawW_pure, drawW_gpure, Env.upd_apply, Heap.upd_same, Heap.upd_apply, ite_none, List.getD_cons_zero, List.getD_cons_succ, List.getD_nil, List.length_cons, List.length_nil, List.map_cons, List.map_nil, List.getElem?_cons_zero, List.getElem?_cons_succ, List.getElem?_nil, List.set_cons_zero, List.set_cons_succ, List.take_succ_cons, List.take_zero, List.drop_succ_cons, List.drop_zero, List.nil_append, List.cons_append, List.append_nil, Option.map_some, Option.map_none, Option.bind_some, Option.bind_none, reduceIte, ↓reduceIte, decide_true, decide_false, Bool.true_and, Bool.and_true, Bool.false_and, Bool.and_false, true_and, and_true, and_self, Nat.reduceAdd, Nat.reduceLeDiff, Nat.reduceEqDiff, Nat.zero_add, Nat.add_zero, Nat.le_refl, Nat.zero_le, ge_iff_le, Nat.reduceLT, Nat.zero_lt_succ, Nat.reduceSub, if_true, if_false, forall_const, reduceCtorEq, Bool.not_true, Bool.not_false, Bool.false_eq_true, Int.reduceEq, Int.reduceLT, Int.reduceLE, Int.reduceNeg, Int.reduceToNat, Int.reduceAdd, Int.reduceSub, Nat.reduceMul, Nat.reduceEqDiff, gW_un, gcF_un, gcA_un, ci_mkmap, ci_mapset, ci_lookup, ci_maxl, ci_appz, pi_lookup, pi_maxl, pu_lookup, pu_maxl, maxl_nil, maxl_one, maxl_cons, cells_mapr, stor_mapr, callv_yld, mm_max, mm_min, putAll_cons, putAll_nil, asgK_normal, roundK_normal, roundK_ret, roundK_exit, *]
    | (refine seqK_now ?_)
    | (refine retK_now ?_)
    | (refine retK_now' ?_)
    | (intro q hq)
    | (refine cond_intro (fun hc => ?_) (fun hc => ?_)))
      refine (Clip_ok hLB).use ?_
      (repeat' first
    | simp (contextual := true) (maxSteps := 4000000) only [fwc, fwe, cmd_seq, opsW_gpure, drawW_pure, drawW_gpure, Env.upd_apply, Heap.upd_same, Heap.upd_apply, ite_none, List.getD_cons_zero, List.getD_cons_succ, List.getD_nil, List.length_cons, List.length_nil, List.map_cons, List.map_nil, List.getElem?_cons_zero, List.getElem?_cons_succ, List.getElem?_nil, List.set_cons_zero, List.set_cons_succ, List.take_succ_cons, List.take_zero, List.drop_succ_cons, List.drop_zero, List.nil_append, List.cons_append, List.append_nil, Option.map_some, Option.map_none, Option.bind_some, Option.bind_none, reduceIte, ↓reduceIte, decide_true, decide_false, Bool.true_and, Bool.and_true, Bool.false_and, Bool.and_false, true_and, and_true, and_self, Nat.reduceAdd, Nat.reduceLeDiff, Nat.reduceEqDiff, Nat.zero_add, Nat.add_zero, Nat.le_refl, Nat.zero_le, ge_iff_le, Nat.reduceLT, Nat.zero_lt_succ, Nat.reduceSub, if_true, if_false, forall_const, reduceCtorEq, Bool.not_true, Bool.not_false, Bool.false_eq_true, Int.reduceEq, Int.reduceLT, Int.reduceLE, Int.reduceNeg, Int.reduceToNat, Int.reduceAdd, Int.reduceSub, Nat.reduceMul, Nat.reduceEqDiff, gW_un, gcF_un, gcA_un, ci_mkmap, ci_mapset, ci_lookup, ci_maxl, ci_appz, pi_lookup, pi_maxl, pu_lookup, pu_maxl, maxl_nil, maxl_one, maxl_cons, cells_mapr, stor_mapr, callv_yld, mm_max, mm_min, putAll_cons, putAll_nil, asgK_normal, roundK_normal, roundK_ret, roundK_exit, *]
    | (refine seqK_now ?_)
    | (refine retK_now ?_)
    | (refine retK_now' ?_)
    | (intro q hq)
    | (refine cond_intro (fun hc => ?_) (fun hc => ?_)))
      refine WeakR.pure (by repeat (first | exact Heap.sub_refl _ | refine sub_upd (by simp only [*]) ?_)) ?_
      rfl
    · have hbed : ¬ n.bed = 1 := of_decide_eq_false hc
      rw [if_neg hbed]
      clear hc hbed
      refine hgF.use ?_
      (repeat' first
    | simp (contextual := true) (maxSteps := 4000000) only [fwc, fwe, cmd_seq, opsW_gpure, drawW_pure, drawW_gpure, Env.upd_apply, Heap.upd_same, Heap.upd_apply, ite_none, List.getD_cons_zero, List.getD_cons_succ, List.getD_nil, List.length_cons, List.length_nil, List.map_cons, List.map_nil, List.getElem?_cons_zero, List.getElem?_cons_succ, List.getElem?_nil, List.set_cons_zero, List.set_cons_succ, List.take_succ_cons, List.take_zero, List.drop_succ_cons, List.drop_zero, List.nil_append, List.cons_append, List.append_nil, Option.map_some, Option.map_none, Option.bind_some, Option.bind_none, reduceIte, ↓reduceIte, decide_true, decide_false, Bool.true_and, Bool.and_true, Bool.false_and, Bool.and_false, true_and, and_true, and_self, Nat.reduceAdd, Nat.reduceLeDiff, Nat.reduceEqDiff, Nat.zero_add, Nat.add_zero, Nat.le_refl, Nat.zero_le, ge_iff_le, Nat.reduceLT, Nat.zero_lt_succ, Nat.reduceSub, if_true, if_false, forall_const, reduceCtorEq, Bool.not_true, Bool.not_false, Bool.false_eq_true, Int.reduceEq, Int.reduceLT, Int.reduceLE, Int.reduceNeg, Int.reduceToNat, Int.reduceAdd, Int.reduceSub, Nat.reduceMul, Nat.reduceEqDiff, gW_un, gcF_un, gcA_un, ci_mkmap, ci_mapset, ci_lookup, ci_maxl, ci_appz, pi_lookup, pi_maxl, pu_lookup, pu_maxl, maxl_nil, maxl_one, maxl_cons, cells_mapr, stor_mapr, callv_yld, mm_max, mm_min, putAll_cons, putAll_nil, asgK_normal, roundK_normal, roundK_ret, roundK_exit, *]
    | (refine seqK_now ?_)
    | (refine retK_now ?_)
    | (refine retK_now' ?_)
    | (intro q hq)
    | (refine cond_intro (fun hc => ?_) (fun hc => ?_)))
      refine (Clone_ok hLF (by simp only [List.length_map]; omega)).use ?_
      (repeat' first
    | simp (contextual := true) (maxSteps := 4000000) only [fwc, fwe, cmd_seq, opsW_gpure, drawW_pure, drawW_gpure, Env.upd_apply, Heap.upd_same, Heap.upd_apply, ite_none, List.getD_cons_zero, List.getD_cons_succ, List.getD_nil, List.length_cons, List.length_nil, List.map_cons, List.map_nil, List.getElem?_cons_zero, List.getElem?_cons_succ, List.getElem?_nil, List.set_cons_zero, List.set_cons_succ, List.take_succ_cons, List.take_zero, List.drop_succ_cons, List.drop_zero, List.nil_append, List.cons_append, List.append_nil, Option.map_some, Option.map_none, Option.bind_some, Option.bind_none, reduceIte, ↓reduceIte, decide_true, decide_false, Bool.true_and, Bool.and_true, Bool.false_and, Bool.and_false, true_and, and_true, and_self, Nat.reduceAdd, Nat.reduceLeDiff, Nat.reduceEqDiff, Nat.zero_add, Nat.add_zero, Nat.le_refl, Nat.zero_le, ge_iff_le, Nat.reduceLT, Nat.zero_lt_succ, Nat.reduceSub, if_true, if_false, forall_const, reduceCtorEq, Bool.not_true, Bool.not_false, Bool.false_eq_true, Int.reduceEq, Int.reduceLT, Int.reduceLE, Int.reduceNeg, Int.reduceToNat, Int.reduceAdd, Int.reduceSub, Nat.reduceMul, Nat.reduceEqDiff, gW_un, gcF_un, gcA_un, ci_mkmap, ci_mapset, ci_lookup, ci_maxl, ci_appz, pi_lookup, pi_maxl, pu_lookup, pu_maxl, maxl_nil, maxl_one, maxl_cons, cells_mapr, stor_mapr, callv_yld, mm_max, mm_min, putAll_cons, putAll_nil, asgK_normal, roundK_normal, roundK_ret, roundK_exit, *]
    | (refine seqK_now ?_)
    | (refine retK_now ?_)
    | (refine retK_now' ?_)
    | (intro q hq)
    | (refine cond_intro (fun hc => ?_) (fun hc => ?_)))
      refine (Clip_ok hLF).use ?_
      (repeat' first
    | simp (contextual := true) (maxSteps := 4000000) only [fwc, fwe, cmd_seq, opsW_gpure, drawW_pure, drawW_gpure, Env.upd_apply, Heap.upd_same, Heap.upd_apply, ite_none, List.getD_cons_zero, List.getD_cons_succ, List.getD_nil, List.length_cons, List.length_nil, List.map_cons, List.map_nil, List.getElem?_cons_zero, List.getElem?_cons_succ, List.getElem?_nil, List.set_cons_zero, List.set_cons_succ, List.take_succ_cons, List.take_zero, List.drop_succ_cons, List.drop_zero, List.nil_append, List.cons_append, List.append_nil, Option.map_some, Option.map_none, Option.bind_some, Option.bind_none, reduceIte, ↓reduceIte, decide_true, decide_false, Bool.true_and, Bool.and_true, Bool.false_and, Bool.and_false, true_and, and_true, and_self, Nat.reduceAdd, Nat.reduceLeDiff, Nat.reduceEqDiff, Nat.zero_add, Nat.add_zero, Nat.le_refl, Nat.zero_le, ge_iff_le, Nat.reduceLT, Nat.zero_lt_succ, Nat.reduceSub, if_true, if_false, forall_const, reduceCtorEq, Bool.not_true, Bool.not_false, Bool.false_eq_true, Int.reduceEq, Int.reduceLT, Int.reduceLE, Int.reduceNeg, Int.reduceToNat, Int.reduceAdd, Int.reduceSub, Nat.reduceMul, Nat.reduceEqDiff, gW_un, gcF_un, gcA_un, ci_mkmap, ci_mapset, ci_lookup, ci_maxl, ci_appz, pi_lookup, pi_maxl, pu_lookup, pu_maxl, maxl_nil, maxl_one, maxl_cons, cells_mapr, stor_mapr, callv_yld, mm_max, mm_min, putAll_cons, putAll_nil, asgK_normal, roundK_normal, roundK_ret, roundK_exit, *]
    | (refine seqK_now ?_)
    | (refine retK_now ?_)
    | (refine retK_now' ?_)
    | (intro q hq)
    | (refine cond_intro (fun hc => ?_) (fun hc => ?_)))
      refine WeakR.pure (by repeat (first | exact Heap.sub_refl _ | refine sub_upd (by simp only [*]) ?_)) ?_
      rfl
theorem atA_T {f b : AV} {es fs : List AV} {F B : List (List Id)} (n : Ndl) (hf : IsB f es F) (hb : IsB b fs B) : IsT 2 (atA es fs n) ((atL F B n).map Id.av) := by
  unfold atA atL
  split
  · exact .nil
  · refine cpS_T ?_
    split
    · exact getA_L hb _
    · exact getA_L hf _

def findL (F B : List (List Id)) (p : Id) : Option Nat := (visL F B).findIdx? (fun l => decide (p ∈ l))
def foundN (n0 : Nat) : Option Nat → Ndl
  | some j => nd n0 j
  | none => ⟨0, 0⟩
def foundE : Option Nat → Int
  | some _ => 0
  | none => 7

end Go.Proofs.Ytlpngkeegjickab

namespace Go.Proofs.Ytlpngkeegjickab
open Go.Ab
attribute [local irreducible] WeakR WeakE CallA YieldA

/-- Nil where there is nothing to come; else an array of one's own. -/
def OwG (n : Nat) (O0 O' : Heap) (s : AV) (L : List AV) : Prop := (n = 0 ∧ s = .val (.slice none 0 0) ∧ L = [] ∧ O' = O0) ∨ (n ≠ 0 ∧ ∃ id c elems, O0 id = none ∧ s = .own id 2 0 L.length c ∧ O' = O0.upd id (.arr 38 2 elems) ∧ elems.take L.length = L ∧ L.length ≤ elems.length)

theorem owg_app {n : Nat} {O0 O' : Heap} {s x : AV} {L X : List AV} {K : AV → Heap → Prop} (h : OwG n O0 O' s L) (hn : n = 0 → X = []) (hX : IsL 2 x X) (hf : fits (L.length + X.length) 16) (hk : ∀ s2 O2, OwG n O0 O2 s2 (L ++ X) → K s2 O2) : AppendSem true 38 2 16 s x O' K := by
  rcases h with ⟨rfl, rfl, rfl, rfl⟩ | ⟨hne, id, c, elems, h0, rfl, rfl, h1, h2⟩
  · have := hn rfl
    subst this
    exact ⟨[], hX.el _, by simpa using hf, fun _ => hk _ _ (.inl ⟨rfl, rfl, rfl, rfl⟩), fun h => absurd rfl h⟩
  · refine app_move (hX.el _) (Heap.upd_same _ _ _) h2 hf fun id' hid' => ?_
    rw [upd_none] at hid'
    rw [del_upd_new h0]
    exact hk _ _ (.inr ⟨hne, id', none, elems.take L.length ++ X, hid'.2.2, by rw [List.length_append], rfl, by rw [h1]; exact List.take_of_length_le (Nat.le_refl _), by rw [h1]; exact Nat.le_refl _⟩)
theorem OwG.pure {n : Nat} {O0 O' : Heap} {s R : AV} {L : List AV} (h : OwG n O0 O' s L) (hn : L.length = n) (hr : frA 2 L = R) : WeakR (fun r' O' => r' = R ∧ O' = O0) s O' := by
  rcases h with ⟨rfl, rfl, rfl, rfl⟩ | ⟨hne, id, c, elems, h0, rfl, rfl, h1, h2⟩
  · exact WeakR.pure (Heap.sub_refl _) hr
  · have hz := Fz.own (id := id) (sz := 2) (elems := elems) 0 L.length c false (by omega) (fun h => by cases h)
    rw [List.drop_zero, h1] at hz
    refine WeakR.pureF id 2 38 elems (Heap.upd_same _ _ _) hz (by rw [del_upd_new h0]; exact Heap.sub_refl _) ?_
    rw [← hr, frA, if_neg (fun e => hne (by rw [← hn, e]; rfl))]

def env40 (s : AV) (n k m : Nat) : Env := (((((Env.upd (fun _ => .junk) 11 (.val (.int .i64 k))).upd 10 (.val (.int .i64 n))).upd 9 s).upd 3 (.val (.int .i64 m))).upd 0 s)
def env40b (s v : AV) (n k : Nat) : Env := ((((Env.upd (fun _ => .junk) 27 (.val (.int .i64 k))).upd 26 (.val (.int .i64 n))).upd 25 s).upd 6 v)

end Go.Proofs.Ytlpngkeegjickab

namespace Go.Proofs.Ytlpngkeegjickab
open Go.Ab
attribute [local irreducible] WeakR WeakE CallA YieldA

def spotL (n : Ndl) (r : Int) : Int := if n.bed = 1 then 4 * (n.at_ + r) else 4 * n.at_ + 2
def rackOK (r : Int) : Bool := decide (-4 ≤ r) && decide (r ≤ 4)
theorem racked_ok (r : Int) : PureA Try.prog 43 [.val (.int .i64 r)] (.val (.bool (rackOK r))) := by
  intro O
  refine k43.call mix ?_
  unfold c43
  (repeat' first
    | simp (contextual := true) (maxSteps := 4000000) only [fwc, fwe, cmd_seq, opsW_gpure, drawW_pure, drawW_gpure, Env.upd_apply, Heap.upd_same, Heap.upd_apply, ite_none, List.getD_cons_zero, List.getD_cons_succ, List.getD_nil, List.length_cons, List.length_nil, List.map_cons, List.map_nil, List.getElem?_cons_zero, List.getElem?_cons_succ, List.getElem?_nil, List.set_cons_zero, List.set_cons_succ, List.take_succ_cons, List.take_zero, List.drop_succ_cons, List.drop_zero, List.nil_append, List.cons_append, List.append_nil, Option.map_some, Option.map_none, Option.bind_some, Option.bind_none, reduceIte, ↓reduceIte, decide_true, decide_false, Bool.true_and, Bool.and_true, Bool.false_and, Bool.and_false, true_and, and_true, and_self, Nat.reduceAdd, Nat.reduceLeDiff, Nat.reduceEqDiff, Nat.zero_add, Nat.add_zero, Nat.le_refl, Nat.zero_le, ge_iff_le, Nat.reduceLT, Nat.zero_lt_succ, Nat.reduceSub, if_true, if_false, forall_const, reduceCtorEq, Bool.not_true, Bool.not_false, Bool.false_eq_true, Int.reduceEq, Int.reduceLT, Int.reduceLE, Int.reduceNeg, Int.reduceToNat, Int.reduceAdd, Int.reduceSub, Nat.reduceMul, Nat.reduceEqDiff, gW_un, gcF_un, gcA_un, ci_mkmap, ci_mapset, ci_lookup, ci_maxl, ci_appz, pi_lookup, pi_maxl, pu_lookup, pu_maxl, maxl_nil, maxl_one, maxl_cons, cells_mapr, stor_mapr, callv_yld, mm_max, mm_min, putAll_cons, putAll_nil, asgK_normal, roundK_normal, roundK_ret, roundK_exit, *]
    | (refine seqK_now ?_)
    | (refine retK_now ?_)
    | (refine retK_now' ?_)
    | (intro q hq)
    | (refine cond_intro (fun hc => ?_) (fun hc => ?_)))
  refine WeakR.pure (by repeat (first | exact Heap.sub_refl _ | refine sub_upd (by simp only [*]) ?_)) ?_
  unfold rackOK
  simp
theorem spot_ok (n : Ndl) (r : Int) (h1 : -1000 ≤ n.at_) (h2 : n.at_ ≤ 1000) (h3 : -1000 ≤ r) (h4 : r ≤ 1000) : PureA Try.prog 44 [n.av, .val (.int .i64 r)] (.val (.int .i64 (spotL n r))) := by
  intro O
  have w1 : IntKind.i64.wrap (n.at_ + r) = n.at_ + r := wrap_i64 (by omega) (by omega)
  have w2 : IntKind.i64.wrap (4 * (n.at_ + r)) = 4 * (n.at_ + r) := wrap_i64 (by omega) (by omega)
  have w3 : IntKind.i64.wrap (4 * n.at_) = 4 * n.at_ := wrap_i64 (by omega) (by omega)
  have w4 : IntKind.i64.wrap (4 * n.at_ + 2) = 4 * n.at_ + 2 := wrap_i64 (by omega) (by omega)
  rw [show n.av = .agg [.val (.int .u8 n.bed), .val (.int .i64 n.at_)] from rfl]
  unfold spotL
  by_cases hb : n.bed = 1
  · have d : decide (n.bed = 1) = true := decide_eq_true hb
    rw [if_pos hb]
    clear h1 h2 h3 h4
    replace hb := (show Aside _ from hb)
    refine k44.call mix ?_
    unfold c44
    (repeat' first
    | simp (contextual := true) (maxSteps := 4000000) only [fwc, fwe, cmd_seq, opsW_gpure, drawW_pure, drawW_gpure, Env.upd_apply, Heap.upd_same, Heap.upd_apply, ite_none, List.getD_cons_zero, List.getD_cons_succ, List.getD_nil, List.length_cons, List.length_nil, List.map_cons, List.map_nil, List.getElem?_cons_zero, List.getElem?_cons_succ, List.getElem?_nil, List.set_cons_zero, List.set_cons_succ, List.take_succ_cons, List.take_zero, List.drop_succ_cons, List.drop_zero, List.nil_append, List.cons_append, List.append_nil, Option.map_some, Option.map_none, Option.bind_some, Option.bind_none, reduceIte, ↓reduceIte, decide_true, decide_false, Bool.true_and, Bool.and_true, Bool.false_and, Bool.and_false, true_and, and_true, and_self, Nat.reduceAdd, Nat.reduceLeDiff, Nat.reduceEqDiff, Nat.zero_add, Nat.add_zero, Nat.le_refl, Nat.zero_le, ge_iff_le, Nat.reduceLT, Nat.zero_lt_succ, Nat.reduceSub, if_true, if_false, forall_const, reduceCtorEq, Bool.not_true, Bool.not_false, Bool.false_eq_true, Int.reduceEq, Int.reduceLT, Int.reduceLE, Int.reduceNeg, Int.reduceToNat, Int.reduceAdd, Int.reduceSub, Nat.reduceMul, Nat.reduceEqDiff, gW_un, gcF_un, gcA_un, ci_mkmap, ci_mapset, ci_lookup, ci_maxl, ci_appz, pi_lookup, pi_maxl, pu_lookup, pu_maxl, maxl_nil, maxl_one, maxl_cons, cells_mapr, stor_mapr, callv_yld, mm_max, mm_min, putAll_cons, putAll_nil, asgK_normal, roundK_normal, roundK_ret, roundK_exit, part_cell, part_agg, *]
    | (refine seqK_now ?_)
    | (refine retK_now ?_)
    | (refine retK_now' ?_)
    | (intro q hq)
    | (refine cond_intro (fun hc => ?_) (fun hc => ?_)))
    refine WeakR.pure (by repeat (first | exact Heap.sub_refl _ | refine sub_upd (by simp only [*]) ?_)) ?_
    rfl
  · have d : decide (n.bed = 1) = false := decide_eq_false hb
    rw [if_neg hb]
    clear h1 h2 h3 h4
    replace hb := (show Aside _ from hb)
    refine k44.call mix ?_
    unfold c44
    (repeat' first
    | simp (contextual := true) (maxSteps := 4000000) only [fwc, fwe, cmd_seq, opsW_gpure, drawW_pure, drawW_gpure, Env.upd_apply, Heap.upd_same, Heap.upd_apply, ite_none, List.getD_cons_zero, List.getD_cons_succ, List.getD_nil, List.length_cons, List.length_nil, List.map_cons, List.map_nil, List.getElem?_cons_zero, List.getElem?_cons_succ, List.getElem?_nil, List.set_cons_zero, List.set_cons_succ, List.take_succ_cons, List.take_zero, List.drop_succ_cons, List.drop_zero, List.nil_append, List.cons_append, List.append_nil, Option.map_some, Option.map_none, Option.bind_some, Option.bind_none, reduceIte, ↓reduceIte, decide_true, decide_false, Bool.true_and, Bool.and_true, Bool.false_and, Bool.and_false, true_and, and_true, and_self, Nat.reduceAdd, Nat.reduceLeDiff, Nat.reduceEqDiff, Nat.zero_add, Nat.add_zero, Nat.le_refl, Nat.zero_le, ge_iff_le, Nat.reduceLT, Nat.zero_lt_succ, Nat.reduceSub, if_true, if_false, forall_const, reduceCtorEq, Bool.not_true, Bool.not_false, Bool.false_eq_true, Int.reduceEq, Int.reduceLT, Int.reduceLE, Int.reduceNeg, Int.reduceToNat, Int.reduceAdd, Int.reduceSub, Nat.reduceMul, Nat.reduceEqDiff, gW_un, gcF_un, gcA_un, ci_mkmap, ci_mapset, ci_lookup, ci_maxl, ci_appz, pi_lookup, pi_maxl, pu_lookup, pu_maxl, maxl_nil, maxl_one, maxl_cons, cells_mapr, stor_mapr, callv_yld, mm_max, mm_min, putAll_cons, putAll_nil, asgK_normal, roundK_normal, roundK_ret, roundK_exit, part_cell, part_agg, *]
    | (refine seqK_now ?_)
    | (refine retK_now ?_)
    | (refine retK_now' ?_)
    | (intro q hq)
    | (refine cond_intro (fun hc => ?_) (fun hc => ?_)))
    refine WeakR.pure (by repeat (first | exact Heap.sub_refl _ | refine sub_upd (by simp only [*]) ?_)) ?_
    rfl
theorem Spot_ok (n : Ndl) (r : Int) : PureA Try.prog 22 [n.av, .val (.int .i64 r)] (.val (.int .i64 (if n.bad = true ∨ rackOK r = false then 0 else spotL n r))) := by
  intro O
  have hc := NdlCheck_ok n
  have hr := racked_ok r
  rw [show n.av = .agg [.val (.int .u8 n.bed), .val (.int .i64 n.at_)] from rfl] at hc ⊢
  refine k22.call mix ?_
  unfold c22
  cases hb : n.bad with
  | true =>
    rw [hb] at hc
    rw [if_pos (.inl rfl)]
    have d : decide ((1 : Int) = 0) = false := by decide
    rw [if_pos rfl] at hc
    (repeat' first
    | simp (contextual := true) (maxSteps := 4000000) only [fwc, fwe, cmd_seq, opsW_gpure, drawW_pure, drawW_gpure, Env.upd_apply, Heap.upd_same, Heap.upd_apply, ite_none, List.getD_cons_zero, List.getD_cons_succ, List.getD_nil, List.length_cons, List.length_nil, List.map_cons, List.map_nil, List.getElem?_cons_zero, List.getElem?_cons_succ, List.getElem?_nil, List.set_cons_zero, List.set_cons_succ, List.take_succ_cons, List.take_zero, List.drop_succ_cons, List.drop_zero, List.nil_append, List.cons_append, List.append_nil, Option.map_some, Option.map_none, Option.bind_some, Option.bind_none, reduceIte, ↓reduceIte, decide_true, decide_false, Bool.true_and, Bool.and_true, Bool.false_and, Bool.and_false, true_and, and_true, and_self, Nat.reduceAdd, Nat.reduceLeDiff, Nat.reduceEqDiff, Nat.zero_add, Nat.add_zero, Nat.le_refl, Nat.zero_le, ge_iff_le, Nat.reduceLT, Nat.zero_lt_succ, Nat.reduceSub, if_true, if_false, forall_const, reduceCtorEq, Bool.not_true, Bool.not_false, Bool.false_eq_true, Int.reduceEq, Int.reduceLT, Int.reduceLE, Int.reduceNeg, Int.reduceToNat, Int.reduceAdd, Int.reduceSub, Nat.reduceMul, Nat.reduceEqDiff, gW_un, gcF_un, gcA_un, ci_mkmap, ci_mapset, ci_lookup, ci_maxl, ci_appz, pi_lookup, pi_maxl, pu_lookup, pu_maxl, maxl_nil, maxl_one, maxl_cons, cells_mapr, stor_mapr, callv_yld, mm_max, mm_min, putAll_cons, putAll_nil, asgK_normal, roundK_normal, roundK_ret, roundK_exit, part_cell, part_agg, *]
    | (refine seqK_now ?_)
    | (refine retK_now ?_)
    | (refine retK_now' ?_)
    | (intro q hq)
    | (refine cond_intro (fun hc => ?_) (fun hc => ?_)))
    refine hc.use ?_
    (repeat' first
    | simp (contextual := true) (maxSteps := 4000000) only [fwc, fwe, cmd_seq, opsW_gpure, drawW_pure, drawW_gpure, Env.upd_apply, Heap.upd_same, Heap.upd_apply, ite_none, List.getD_cons_zero, List.getD_cons_succ, List.getD_nil, List.length_cons, List.length_nil, List.map_cons, List.map_nil, List.getElem?_cons_zero, List.getElem?_cons_succ, List.getElem?_nil, List.set_cons_zero, List.set_cons_succ, List.take_succ_cons, List.take_zero, List.drop_succ_cons, List.drop_zero, List.nil_append, List.cons_append, List.append_nil, Option.map_some, Option.map_none, Option.bind_some, Option.bind_none, reduceIte, ↓reduceIte, decide_true, decide_false, Bool.true_and, Bool.and_true, Bool.false_and, Bool.and_false, true_and, and_true, and_self, Nat.reduceAdd, Nat.reduceLeDiff, Nat.reduceEqDiff, Nat.zero_add, Nat.add_zero, Nat.le_refl, Nat.zero_le, ge_iff_le, Nat.reduceLT, Nat.zero_lt_succ, Nat.reduceSub, if_true, if_false, forall_const, reduceCtorEq, Bool.not_true, Bool.not_false, Bool.false_eq_true, Int.reduceEq, Int.reduceLT, Int.reduceLE, Int.reduceNeg, Int.reduceToNat, Int.reduceAdd, Int.reduceSub, Nat.reduceMul, Nat.reduceEqDiff, gW_un, gcF_un, gcA_un, ci_mkmap, ci_mapset, ci_lookup, ci_maxl, ci_appz, pi_lookup, pi_maxl, pu_lookup, pu_maxl, maxl_nil, maxl_one, maxl_cons, cells_mapr, stor_mapr, callv_yld, mm_max, mm_min, putAll_cons, putAll_nil, asgK_normal, roundK_normal, roundK_ret, roundK_exit, part_cell, part_agg, *]
    | (refine seqK_now ?_)
    | (refine retK_now ?_)
    | (refine retK_now' ?_)
    | (intro q hq)
    | (refine cond_intro (fun hc => ?_) (fun hc => ?_)))
    refine WeakR.pure (by repeat (first | exact Heap.sub_refl _ | refine sub_upd (by simp only [*]) ?_)) ?_
    rfl
  | false =>
    rw [hb] at hc
    rw [if_neg (by simp)] at hc
    have d : decide ((0 : Int) = 0) = true := by decide
    cases hk : rackOK r with
    | false =>
      rw [hk] at hr
      rw [if_pos (.inr rfl)]
      (repeat' first
    | simp (contextual := true) (maxSteps := 4000000) only [fwc, fwe, cmd_seq, opsW_gpure, drawW_pure, drawW_gpure, Env.upd_apply, Heap.upd_same, Heap.upd_apply, ite_none, List.getD_cons_zero, List.getD_cons_succ, List.getD_nil, List.length_cons, List.length_nil, List.map_cons, List.map_nil, List.getElem?_cons_zero, List.getElem?_cons_succ, List.getElem?_nil, List.set_cons_zero, List.set_cons_succ, List.take_succ_cons, List.take_zero, List.drop_succ_cons, List.drop_zero, List.nil_append, List.cons_append, List.append_nil, Option.map_some, Option.map_none, Option.bind_some, Option.bind_none, reduceIte, ↓reduceIte, decide_true, decide_false, Bool.true_and, Bool.and_true, Bool.false_and, Bool.and_false, true_and, and_true, and_self, Nat.reduceAdd, Nat.reduceLeDiff, Nat.reduceEqDiff, Nat.zero_add, Nat.add_zero, Nat.le_refl, Nat.zero_le, ge_iff_le, Nat.reduceLT, Nat.zero_lt_succ, Nat.reduceSub, if_true, if_false, forall_const, reduceCtorEq, Bool.not_true, Bool.not_false, Bool.false_eq_true, Int.reduceEq, Int.reduceLT, Int.reduceLE, Int.reduceNeg, Int.reduceToNat, Int.reduceAdd, Int.reduceSub, Nat.reduceMul, Nat.reduceEqDiff, gW_un, gcF_un, gcA_un, ci_mkmap, ci_mapset, ci_lookup, ci_maxl, ci_appz, pi_lookup, pi_maxl, pu_lookup, pu_maxl, maxl_nil, maxl_one, maxl_cons, cells_mapr, stor_mapr, callv_yld, mm_max, mm_min, putAll_cons, putAll_nil, asgK_normal, roundK_normal, roundK_ret, roundK_exit, part_cell, part_agg, *]
    | (refine seqK_now ?_)
    | (refine retK_now ?_)
    | (refine retK_now' ?_)
    | (intro q hq)
    | (refine cond_intro (fun hc => ?_) (fun hc => ?_)))
      refine hc.use ?_
      (repeat' first
    | simp (contextual := true) (maxSteps := 4000000) only [fwc, fwe, cmd_seq, opsW_gpure, drawW_pure, drawW_gpure, Env.upd_apply, Heap.upd_same, Heap.upd_apply, ite_none, List.getD_cons_zero, List.getD_cons_succ, List.getD_nil, List.length_cons, List.length_nil, List.map_cons, List.map_nil, List.getElem?_cons_zero, List.getElem?_cons_succ, List.getElem?_nil, List.set_cons_zero, List.set_cons_succ, List.take_succ_cons, List.take_zero, List.drop_succ_cons, List.drop_zero, List.nil_append, List.cons_append, List.append_nil, Option.map_some, Option.map_none, Option.bind_some, Option.bind_none, reduceIte, ↓reduceIte, decide_true, decide_false, Bool.true_and, Bool.and_true, Bool.false_and, Bool.and_false, true_and, and_true, and_self, Nat.reduceAdd, Nat.reduceLeDiff, Nat.reduceEqDiff, Nat.zero_add, Nat.add_zero, Nat.le_refl, Nat.zero_le, ge_iff_le, Nat.reduceLT, Nat.zero_lt_succ, Nat.reduceSub, if_true, if_false, forall_const, reduceCtorEq, Bool.not_true, Bool.not_false, Bool.false_eq_true, Int.reduceEq, Int.reduceLT, Int.reduceLE, Int.reduceNeg, Int.reduceToNat, Int.reduceAdd, Int.reduceSub, Nat.reduceMul, Nat.reduceEqDiff, gW_un, gcF_un, gcA_un, ci_mkmap, ci_mapset, ci_lookup, ci_maxl, ci_appz, pi_lookup, pi_maxl, pu_lookup, pu_maxl, maxl_nil, maxl_one, maxl_cons, cells_mapr, stor_mapr, callv_yld, mm_max, mm_min, putAll_cons, putAll_nil, asgK_normal, roundK_normal, roundK_ret, roundK_exit, part_cell, part_agg, *]
    | (refine seqK_now ?_)
    | (refine retK_now ?_)
    | (refine retK_now' ?_)
    | (intro q hq)
    | (refine cond_intro (fun hc => ?_) (fun hc => ?_)))
      refine hr.use ?_
      (repeat' first
    | simp (contextual := true) (maxSteps := 4000000) only [fwc, fwe, cmd_seq, opsW_gpure, drawW_pure, drawW_gpure, Env.upd_apply, Heap.upd_same, Heap.upd_apply, ite_none, List.getD_cons_zero, List.getD_cons_succ, List.getD_nil, List.length_cons, List.length_nil, List.map_cons, List.map_nil, List.getElem?_cons_zero, List.getElem?_cons_succ, List.getElem?_nil, List.set_cons_zero, List.set_cons_succ, List.take_succ_cons, List.take_zero, List.drop_succ_cons, List.drop_zero, List.nil_append, List.cons_append, List.append_nil, Option.map_some, Option.map_none, Option.bind_some, Option.bind_none, reduceIte, ↓reduceIte, decide_true, decide_false, Bool.true_and, Bool.and_true, Bool.false_and, Bool.and_false, true_and, and_true, and_self, Nat.reduceAdd, Nat.reduceLeDiff, Nat.reduceEqDiff, Nat.zero_add, Nat.add_zero, Nat.le_refl, Nat.zero_le, ge_iff_le, Nat.reduceLT, Nat.zero_lt_succ, Nat.reduceSub, if_true, if_false, forall_const, reduceCtorEq, Bool.not_true, Bool.not_false, Bool.false_eq_true, Int.reduceEq, Int.reduceLT, Int.reduceLE, Int.reduceNeg, Int.reduceToNat, Int.reduceAdd, Int.reduceSub, Nat.reduceMul, Nat.reduceEqDiff, gW_un, gcF_un, gcA_un, ci_mkmap, ci_mapset, ci_lookup, ci_maxl, ci_appz, pi_lookup, pi_maxl, pu_lookup, pu_maxl, maxl_nil, maxl_one, maxl_cons, cells_mapr, stor_mapr, callv_yld, mm_max, mm_min, putAll_cons, putAll_nil, asgK_normal, roundK_normal, roundK_ret, roundK_exit, part_cell, part_agg, *]
    | (refine seqK_now ?_)
    | (refine retK_now ?_)
    | (refine retK_now' ?_)
    | (intro q hq)
    | (refine cond_intro (fun hc => ?_) (fun hc => ?_)))
      refine WeakR.pure (by repeat (first | exact Heap.sub_refl _ | refine sub_upd (by simp only [*]) ?_)) ?_
      rfl
    | true =>
      rw [hk] at hr
      rw [if_neg (by simp)]
      have hs := spot_ok n r (by unfold Ndl.bad at hb; simp at hb; omega) (by unfold Ndl.bad at hb; simp at hb; omega) (by unfold rackOK at hk; simp at hk; omega) (by unfold rackOK at hk; simp at hk; omega)
      rw [show n.av = .agg [.val (.int .u8 n.bed), .val (.int .i64 n.at_)] from rfl] at hs
      (repeat' first
    | simp (contextual := true) (maxSteps := 4000000) only [fwc, fwe, cmd_seq, opsW_gpure, drawW_pure, drawW_gpure, Env.upd_apply, Heap.upd_same, Heap.upd_apply, ite_none, List.getD_cons_zero, List.getD_cons_succ, List.getD_nil, List.length_cons, List.length_nil, List.map_cons, List.map_nil, List.getElem?_cons_zero, List.getElem?_cons_succ, List.getElem?_nil, List.set_cons_zero, List.set_cons_succ, List.take_succ_cons, List.take_zero, List.drop_succ_cons, List.drop_zero, List.nil_append, List.cons_append, List.append_nil, Option.map_some, Option.map_none, Option.bind_some, Option.bind_none, reduceIte, ↓reduceIte, decide_true, decide_false, Bool.true_and, Bool.and_true, Bool.false_and, Bool.and_false, true_and, and_true, and_self, Nat.reduceAdd, Nat.reduceLeDiff, Nat.reduceEqDiff, Nat.zero_add, Nat.add_zero, Nat.le_refl, Nat.zero_le, ge_iff_le, Nat.reduceLT, Nat.zero_lt_succ, Nat.reduceSub, if_true, if_false, forall_const, reduceCtorEq, Bool.not_true, Bool.not_false, Bool.false_eq_true, Int.reduceEq, Int.reduceLT, Int.reduceLE, Int.reduceNeg, Int.reduceToNat, Int.reduceAdd, Int.reduceSub, Nat.reduceMul, Nat.reduceEqDiff, gW_un, gcF_un, gcA_un, ci_mkmap, ci_mapset, ci_lookup, ci_maxl, ci_appz, pi_lookup, pi_maxl, pu_lookup, pu_maxl, maxl_nil, maxl_one, maxl_cons, cells_mapr, stor_mapr, callv_yld, mm_max, mm_min, putAll_cons, putAll_nil, asgK_normal, roundK_normal, roundK_ret, roundK_exit, part_cell, part_agg, *]
    | (refine seqK_now ?_)
    | (refine retK_now ?_)
    | (refine retK_now' ?_)
    | (intro q hq)
    | (refine cond_intro (fun hc => ?_) (fun hc => ?_)))
      refine hc.use ?_
      (repeat' first
    | simp (contextual := true) (maxSteps := 4000000) only [fwc, fwe, cmd_seq, opsW_gpure, drawW_pure, drawW_gpure, Env.upd_apply, Heap.upd_same, Heap.upd_apply, ite_none, List.getD_cons_zero, List.getD_cons_succ, List.getD_nil, List.length_cons, List.length_nil, List.map_cons, List.map_nil, List.getElem?_cons_zero, List.getElem?_cons_succ, List.getElem?_nil, List.set_cons_zero, List.set_cons_succ, List.take_succ_cons, List.take_zero, List.drop_succ_cons, List.drop_zero, List.nil_append, List.cons_append, List.append_nil, Option.map_some, Option.map_none, Option.bind_some, Option.bind_none, reduceIte, ↓reduceIte, decide_true, decide_false, Bool.true_and, Bool.and_true, Bool.false_and, Bool.and_false, true_and, and_true, and_self, Nat.reduceAdd, Nat.reduceLeDiff, Nat.reduceEqDiff, Nat.zero_add, Nat.add_zero, Nat.le_refl, Nat.zero_le, ge_iff_le, Nat.reduceLT, Nat.zero_lt_succ, Nat.reduceSub, if_true, if_false, forall_const, reduceCtorEq, Bool.not_true, Bool.not_false, Bool.false_eq_true, Int.reduceEq, Int.reduceLT, Int.reduceLE, Int.reduceNeg, Int.reduceToNat, Int.reduceAdd, Int.reduceSub, Nat.reduceMul, Nat.reduceEqDiff, gW_un, gcF_un, gcA_un, ci_mkmap, ci_mapset, ci_lookup, ci_maxl, ci_appz, pi_lookup, pi_maxl, pu_lookup, pu_maxl, maxl_nil, maxl_one, maxl_cons, cells_mapr, stor_mapr, callv_yld, mm_max, mm_min, putAll_cons, putAll_nil, asgK_normal, roundK_normal, roundK_ret, roundK_exit, part_cell, part_agg, *]
    | (refine seqK_now ?_)
    | (refine retK_now ?_)
    | (refine retK_now' ?_)
    | (intro q hq)
    | (refine cond_intro (fun hc => ?_) (fun hc => ?_)))
      refine hr.use ?_
      (repeat' first
    | simp (contextual := true) (maxSteps := 4000000) only [fwc, fwe, cmd_seq, opsW_gpure, drawW_pure, drawW_gpure, Env.upd_apply, Heap.upd_same, Heap.upd_apply, ite_none, List.getD_cons_zero, List.getD_cons_succ, List.getD_nil, List.length_cons, List.length_nil, List.map_cons, List.map_nil, List.getElem?_cons_zero, List.getElem?_cons_succ, List.getElem?_nil, List.set_cons_zero, List.set_cons_succ, List.take_succ_cons, List.take_zero, List.drop_succ_cons, List.drop_zero, List.nil_append, List.cons_append, List.append_nil, Option.map_some, Option.map_none, Option.bind_some, Option.bind_none, reduceIte, ↓reduceIte, decide_true, decide_false, Bool.true_and, Bool.and_true, Bool.false_and, Bool.and_false, true_and, and_true, and_self, Nat.reduceAdd, Nat.reduceLeDiff, Nat.reduceEqDiff, Nat.zero_add, Nat.add_zero, Nat.le_refl, Nat.zero_le, ge_iff_le, Nat.reduceLT, Nat.zero_lt_succ, Nat.reduceSub, if_true, if_false, forall_const, reduceCtorEq, Bool.not_true, Bool.not_false, Bool.false_eq_true, Int.reduceEq, Int.reduceLT, Int.reduceLE, Int.reduceNeg, Int.reduceToNat, Int.reduceAdd, Int.reduceSub, Nat.reduceMul, Nat.reduceEqDiff, gW_un, gcF_un, gcA_un, ci_mkmap, ci_mapset, ci_lookup, ci_maxl, ci_appz, pi_lookup, pi_maxl, pu_lookup, pu_maxl, maxl_nil, maxl_one, maxl_cons, cells_mapr, stor_mapr, callv_yld, mm_max, mm_min, putAll_cons, putAll_nil, asgK_normal, roundK_normal, roundK_ret, roundK_exit, part_cell, part_agg, *]
    | (refine seqK_now ?_)
    | (refine retK_now ?_)
    | (refine retK_now' ?_)
    | (intro q hq)
    | (refine cond_intro (fun hc => ?_) (fun hc => ?_)))
      refine hs.use ?_
      (repeat' first
    | simp (contextual := true) (maxSteps := 4000000) only [fwc, fwe, cmd_seq, opsW_gpure, drawW_pure, drawW_gpure, Env.upd_apply, Heap.upd_same, Heap.upd_apply, ite_none, List.getD_cons_zero, List.getD_cons_succ, List.getD_nil, List.length_cons, List.length_nil, List.map_cons, List.map_nil, List.getElem?_cons_zero, List.getElem?_cons_succ, List.getElem?_nil, List.set_cons_zero, List.set_cons_succ, List.take_succ_cons, List.take_zero, List.drop_succ_cons, List.drop_zero, List.nil_append, List.cons_append, List.append_nil, Option.map_some, Option.map_none, Option.bind_some, Option.bind_none, reduceIte, ↓reduceIte, decide_true, decide_false, Bool.true_and, Bool.and_true, Bool.false_and, Bool.and_false, true_and, and_true, and_self, Nat.reduceAdd, Nat.reduceLeDiff, Nat.reduceEqDiff, Nat.zero_add, Nat.add_zero, Nat.le_refl, Nat.zero_le, ge_iff_le, Nat.reduceLT, Nat.zero_lt_succ, Nat.reduceSub, if_true, if_false, forall_const, reduceCtorEq, Bool.not_true, Bool.not_false, Bool.false_eq_true, Int.reduceEq, Int.reduceLT, Int.reduceLE, Int.reduceNeg, Int.reduceToNat, Int.reduceAdd, Int.reduceSub, Nat.reduceMul, Nat.reduceEqDiff, gW_un, gcF_un, gcA_un, ci_mkmap, ci_mapset, ci_lookup, ci_maxl, ci_appz, pi_lookup, pi_maxl, pu_lookup, pu_maxl, maxl_nil, maxl_one, maxl_cons, cells_mapr, stor_mapr, callv_yld, mm_max, mm_min, putAll_cons, putAll_nil, asgK_normal, roundK_normal, roundK_ret, roundK_exit, part_cell, part_agg, *]
    | (refine seqK_now ?_)
    | (refine retK_now ?_)
    | (refine retK_now' ?_)
    | (intro q hq)
    | (refine cond_intro (fun hc => ?_) (fun hc => ?_)))
      refine WeakR.pure (by repeat (first | exact Heap.sub_refl _ | refine sub_upd (by simp only [*]) ?_)) ?_
      rfl

/-- The needle at a spot. -/
def atSpot (a r : Int) : Option Nat := (List.range 80).find? fun i => decide (spotL (needleL i) r = a)
def atN (a r : Int) : Ndl := if rackOK r = true then (match atSpot a r with | some i => needleL i | none => ⟨0, 0⟩) else ⟨0, 0⟩
def atE (a r : Int) : Int := if rackOK r = true then (match atSpot a r with | some _ => 0 | none => 7) else 11
def env62 (a r : Int) (q4 q6 j : Nat) : Env := ((((((Env.upd (fun _ => .junk) 16 (.val (.int .i64 j))).upd 15 (.val (.int .i64 2))).upd 14 (.list 1 true [.val (.int .u8 0), .val (.int .u8 1)])).upd 6 (.optr q6 2 0 0)).upd 4 (.optr q4 2 0 0)).upd 1 (.val (.int .i64 r))).upd 0 (.val (.int .i64 a))
def env62b (a r : Int) (q4 q6 j i : Nat) : Env := ((((((((Env.upd (fun _ => .junk) 20 (.val (.int .i64 i))).upd 16 (.val (.int .i64 j))).upd 15 (.val (.int .i64 2))).upd 14 (.list 1 true [.val (.int .u8 0), .val (.int .u8 1)])).upd 8 (.val (.int .u8 j))).upd 6 (.optr q6 2 0 0)).upd 4 (.optr q4 2 0 0)).upd 1 (.val (.int .i64 r))).upd 0 (.val (.int .i64 a))
theorem at_none {a r : Int} (h : ∀ i, i < 80 → spotL (needleL i) r ≠ a) : atSpot a r = none := by
  unfold atSpot
  rw [List.find?_eq_none]
  intro i hi
  simpa using h i (List.mem_range.1 hi)
theorem at_some {a r : Int} {i : Nat} (hi : i < 80) (h : ∀ j, j < i → spotL (needleL j) r ≠ a) (he : spotL (needleL i) r = a) : atSpot a r = some i := by
  unfold atSpot
  rw [List.find?_range_eq_some]
  exact ⟨by simpa using he, List.mem_range.2 hi, fun j hj => by simpa using h j hj⟩
theorem needle_lo {i : Nat} (h : i < 40) : needleL (40 * 0 + i) = ⟨0, ((i + 1 : Nat) : Int)⟩ := by
  unfold needleL
  congr 1 <;> omega
theorem needle_hi {i : Nat} (h : i < 40) : needleL (40 * 1 + i) = ⟨1, ((i + 1 : Nat) : Int)⟩ := by
  unfold needleL
  congr 1 <;> omega
set_option maxHeartbeats 4000000 in
theorem NAt_ok (a r : Int) : PureA Try.prog 21 [.val (.int .i64 a), .val (.int .i64 r)] (.tup [(atN a r).av, .val (.int .i64 (atE a r))]) := by
  intro O
  have hr := racked_ok r
  refine k21.call mix ?_
  unfold c21
  refine seq_go ?_
  (repeat' first
    | simp (contextual := true) (maxSteps := 4000000) only [fwc, fwe, opsW_gpure, drawW_pure, drawW_gpure, Env.upd_apply, Heap.upd_same, Heap.upd_apply, ite_none, List.getD_cons_zero, List.getD_cons_succ, List.getD_nil, List.length_cons, List.length_nil, List.map_cons, List.map_nil, List.getElem?_cons_zero, List.getElem?_cons_succ, List.getElem?_nil, List.set_cons_zero, List.set_cons_succ, List.take_succ_cons, List.take_zero, List.drop_succ_cons, List.drop_zero, List.nil_append, List.cons_append, List.append_nil, Option.map_some, Option.map_none, Option.bind_some, Option.bind_none, reduceIte, ↓reduceIte, decide_true, decide_false, Bool.true_and, Bool.and_true, Bool.false_and, Bool.and_false, true_and, and_true, and_self, Nat.reduceAdd, Nat.reduceLeDiff, Nat.reduceEqDiff, Nat.zero_add, Nat.add_zero, Nat.le_refl, Nat.zero_le, ge_iff_le, Nat.reduceLT, Nat.zero_lt_succ, Nat.reduceSub, if_true, if_false, forall_const, reduceCtorEq, Bool.not_true, Bool.not_false, Bool.false_eq_true, Int.reduceEq, Int.reduceLT, Int.reduceLE, Int.reduceNeg, Int.reduceToNat, Int.reduceAdd, Int.reduceSub, Nat.reduceMul, Nat.reduceEqDiff, gW_un, gcF_un, gcA_un, ci_mkmap, ci_mapset, ci_lookup, ci_maxl, ci_appz, pi_lookup, pi_maxl, pu_lookup, pu_maxl, maxl_nil, maxl_one, maxl_cons, cells_mapr, stor_mapr, callv_yld, mm_max, mm_min, putAll_cons, putAll_nil, asgK_normal, roundK_normal, roundK_ret, roundK_exit, part_cell, part_agg, *]
    | (refine retK_now ?_)
    | (refine retK_now' ?_)
    | (intro q hq)
    | (refine cond_intro (fun hc => ?_) (fun hc => ?_)))
  revert q
  intro q4 hq4
  refine seqK_now ?_
  refine seq_go ?_
  cases hk : rackOK r with
  | false =>
    rw [hk] at hr
    have e1 : atN a r = ⟨0, 0⟩ := by unfold atN; rw [if_neg (by simp [hk])]
    have e2 : atE a r = 11 := by unfold atE; rw [if_neg (by simp [hk])]
    rw [e1, e2]
    clear e1 e2 hk
    (repeat' first
    | simp (contextual := true) (maxSteps := 4000000) only [fwc, fwe, cmd_seq, opsW_gpure, drawW_pure, drawW_gpure, Env.upd_apply, Heap.upd_same, Heap.upd_apply, ite_none, List.getD_cons_zero, List.getD_cons_succ, List.getD_nil, List.length_cons, List.length_nil, List.map_cons, List.map_nil, List.getElem?_cons_zero, List.getElem?_cons_succ, List.getElem?_nil, List.set_cons_zero, List.set_cons_succ, List.take_succ_cons, List.take_zero, List.drop_succ_cons, List.drop_zero, List.nil_append, List.cons_append, List.append_nil, Option.map_some, Option.map_none, Option.bind_some, Option.bind_none, reduceIte, ↓reduceIte, decide_true, decide_false, Bool.true_and, Bool.and_true, Bool.false_and, Bool.and_false, true_and, and_true, and_self, Nat.reduceAdd, Nat.reduceLeDiff, Nat.reduceEqDiff, Nat.zero_add, Nat.add_zero, Nat.le_refl, Nat.zero_le, ge_iff_le, Nat.reduceLT, Nat.zero_lt_succ, Nat.reduceSub, if_true, if_false, forall_const, reduceCtorEq, Bool.not_true, Bool.not_false, Bool.false_eq_true, Int.reduceEq, Int.reduceLT, Int.reduceLE, Int.reduceNeg, Int.reduceToNat, Int.reduceAdd, Int.reduceSub, Nat.reduceMul, Nat.reduceEqDiff, gW_un, gcF_un, gcA_un, ci_mkmap, ci_mapset, ci_lookup, ci_maxl, ci_appz, pi_lookup, pi_maxl, pu_lookup, pu_maxl, maxl_nil, maxl_one, maxl_cons, cells_mapr, stor_mapr, callv_yld, mm_max, mm_min, putAll_cons, putAll_nil, asgK_normal, roundK_normal, roundK_ret, roundK_exit, part_cell, part_agg, *]
    | (refine seqK_now ?_)
    | (refine retK_now ?_)
    | (refine retK_now' ?_)
    | (intro q hq)
    | (refine cond_intro (fun hc => ?_) (fun hc => ?_)))
    refine hr.use ?_
    (repeat' first
    | simp (contextual := true) (maxSteps := 4000000) only [fwc, fwe, cmd_seq, opsW_gpure, drawW_pure, drawW_gpure, Env.upd_apply, Heap.upd_same, Heap.upd_apply, ite_none, List.getD_cons_zero, List.getD_cons_succ, List.getD_nil, List.length_cons, List.length_nil, List.map_cons, List.map_nil, List.getElem?_cons_zero, List.getElem?_cons_succ, List.getElem?_nil, List.set_cons_zero, List.set_cons_succ, List.take_succ_cons, List.take_zero, List.drop_succ_cons, List.drop_zero, List.nil_append, List.cons_append, List.append_nil, Option.map_some, Option.map_none, Option.bind_some, Option.bind_none, reduceIte, ↓reduceIte, decide_true, decide_false, Bool.true_and, Bool.and_true, Bool.false_and, Bool.and_false, true_and, and_true, and_self, Nat.reduceAdd, Nat.reduceLeDiff, Nat.reduceEqDiff, Nat.zero_add, Nat.add_zero, Nat.le_refl, Nat.zero_le, ge_iff_le, Nat.reduceLT, Nat.zero_lt_succ, Nat.reduceSub, if_true, if_false, forall_const, reduceCtorEq, Bool.not_true, Bool.not_false, Bool.false_eq_true, Int.reduceEq, Int.reduceLT, Int.reduceLE, Int.reduceNeg, Int.reduceToNat, Int.reduceAdd, Int.reduceSub, Nat.reduceMul, Nat.reduceEqDiff, gW_un, gcF_un, gcA_un, ci_mkmap, ci_mapset, ci_lookup, ci_maxl, ci_appz, pi_lookup, pi_maxl, pu_lookup, pu_maxl, maxl_nil, maxl_one, maxl_cons, cells_mapr, stor_mapr, callv_yld, mm_max, mm_min, putAll_cons, putAll_nil, asgK_normal, roundK_normal, roundK_ret, roundK_exit, part_cell, part_agg, *]
    | (refine seqK_now ?_)
    | (refine retK_now ?_)
    | (refine retK_now' ?_)
    | (intro q hq)
    | (refine cond_intro (fun hc => ?_) (fun hc => ?_)))
    refine WeakR.pure (by repeat (first | exact Heap.sub_refl _ | refine sub_upd (by simp only [*]) ?_)) ?_
    rfl
  | true =>
    rw [hk] at hr
    have e1 : atN a r = (match atSpot a r with | some i => needleL i | none => ⟨0, 0⟩) := by unfold atN; rw [if_pos hk]
    have e2 : atE a r = (match atSpot a r with | some _ => 0 | none => 7) := by unfold atE; rw [if_pos hk]
    rw [e1, e2]
    clear e1 e2
    have hrk : -4 ≤ r ∧ r ≤ 4 := by unfold rackOK at hk; simpa using hk
    replace hrk := (show Aside _ from hrk)
    clear hk
    refine seq_go ?_
    (repeat' first
    | simp (contextual := true) (maxSteps := 4000000) only [fwc, fwe, opsW_gpure, drawW_pure, drawW_gpure, Env.upd_apply, Heap.upd_same, Heap.upd_apply, ite_none, List.getD_cons_zero, List.getD_cons_succ, List.getD_nil, List.length_cons, List.length_nil, List.map_cons, List.map_nil, List.getElem?_cons_zero, List.getElem?_cons_succ, List.getElem?_nil, List.set_cons_zero, List.set_cons_succ, List.take_succ_cons, List.take_zero, List.drop_succ_cons, List.drop_zero, List.nil_append, List.cons_append, List.append_nil, Option.map_some, Option.map_none, Option.bind_some, Option.bind_none, reduceIte, ↓reduceIte, decide_true, decide_false, Bool.true_and, Bool.and_true, Bool.false_and, Bool.and_false, true_and, and_true, and_self, Nat.reduceAdd, Nat.reduceLeDiff, Nat.reduceEqDiff, Nat.zero_add, Nat.add_zero, Nat.le_refl, Nat.zero_le, ge_iff_le, Nat.reduceLT, Nat.zero_lt_succ, Nat.reduceSub, if_true, if_false, forall_const, reduceCtorEq, Bool.not_true, Bool.not_false, Bool.false_eq_true, Int.reduceEq, Int.reduceLT, Int.reduceLE, Int.reduceNeg, Int.reduceToNat, Int.reduceAdd, Int.reduceSub, Nat.reduceMul, Nat.reduceEqDiff, gW_un, gcF_un, gcA_un, ci_mkmap, ci_mapset, ci_lookup, ci_maxl, ci_appz, pi_lookup, pi_maxl, pu_lookup, pu_maxl, maxl_nil, maxl_one, maxl_cons, cells_mapr, stor_mapr, callv_yld, mm_max, mm_min, putAll_cons, putAll_nil, asgK_normal, roundK_normal, roundK_ret, roundK_exit, part_cell, part_agg, *]
    | (refine retK_now ?_)
    | (refine retK_now' ?_)
    | (intro q hq)
    | (refine cond_intro (fun hc => ?_) (fun hc => ?_)))
    refine hr.use ?_
    clear hr
    (repeat' first
    | simp (contextual := true) (maxSteps := 4000000) only [fwc, fwe, opsW_gpure, drawW_pure, drawW_gpure, Env.upd_apply, Heap.upd_same, Heap.upd_apply, ite_none, List.getD_cons_zero, List.getD_cons_succ, List.getD_nil, List.length_cons, List.length_nil, List.map_cons, List.map_nil, List.getElem?_cons_zero, List.getElem?_cons_succ, List.getElem?_nil, List.set_cons_zero, List.set_cons_succ, List.take_succ_cons, List.take_zero, List.drop_succ_cons, List.drop_zero, List.nil_append, List.cons_append, List.append_nil, Option.map_some, Option.map_none, Option.bind_some, Option.bind_none, reduceIte, ↓reduceIte, decide_true, decide_false, Bool.true_and, Bool.and_true, Bool.false_and, Bool.and_false, true_and, and_true, and_self, Nat.reduceAdd, Nat.reduceLeDiff, Nat.reduceEqDiff, Nat.zero_add, Nat.add_zero, Nat.le_refl, Nat.zero_le, ge_iff_le, Nat.reduceLT, Nat.zero_lt_succ, Nat.reduceSub, if_true, if_false, forall_const, reduceCtorEq, Bool.not_true, Bool.not_false, Bool.false_eq_true, Int.reduceEq, Int.reduceLT, Int.reduceLE, Int.reduceNeg, Int.reduceToNat, Int.reduceAdd, Int.reduceSub, Nat.reduceMul, Nat.reduceEqDiff, gW_un, gcF_un, gcA_un, ci_mkmap, ci_mapset, ci_lookup, ci_maxl, ci_appz, pi_lookup, pi_maxl, pu_lookup, pu_maxl, maxl_nil, maxl_one, maxl_cons, cells_mapr, stor_mapr, callv_yld, mm_max, mm_min, putAll_cons, putAll_nil, asgK_normal, roundK_normal, roundK_ret, roundK_exit, part_cell, part_agg, *]
    | (refine retK_now ?_)
    | (refine retK_now' ?_)
    | (intro q hq)
    | (refine cond_intro (fun hc => ?_) (fun hc => ?_)))
    refine seqK_now ?_
    (repeat' first
    | simp (contextual := true) (maxSteps := 4000000) only [fwc, fwe, opsW_gpure, drawW_pure, drawW_gpure, Env.upd_apply, Heap.upd_same, Heap.upd_apply, ite_none, List.getD_cons_zero, List.getD_cons_succ, List.getD_nil, List.length_cons, List.length_nil, List.map_cons, List.map_nil, List.getElem?_cons_zero, List.getElem?_cons_succ, List.getElem?_nil, List.set_cons_zero, List.set_cons_succ, List.take_succ_cons, List.take_zero, List.drop_succ_cons, List.drop_zero, List.nil_append, List.cons_append, List.append_nil, Option.map_some, Option.map_none, Option.bind_some, Option.bind_none, reduceIte, ↓reduceIte, decide_true, decide_false, Bool.true_and, Bool.and_true, Bool.false_and, Bool.and_false, true_and, and_true, and_self, Nat.reduceAdd, Nat.reduceLeDiff, Nat.reduceEqDiff, Nat.zero_add, Nat.add_zero, Nat.le_refl, Nat.zero_le, ge_iff_le, Nat.reduceLT, Nat.zero_lt_succ, Nat.reduceSub, if_true, if_false, forall_const, reduceCtorEq, Bool.not_true, Bool.not_false, Bool.false_eq_true, Int.reduceEq, Int.reduceLT, Int.reduceLE, Int.reduceNeg, Int.reduceToNat, Int.reduceAdd, Int.reduceSub, Nat.reduceMul, Nat.reduceEqDiff, gW_un, gcF_un, gcA_un, ci_mkmap, ci_mapset, ci_lookup, ci_maxl, ci_appz, pi_lookup, pi_maxl, pu_lookup, pu_maxl, maxl_nil, maxl_one, maxl_cons, cells_mapr, stor_mapr, callv_yld, mm_max, mm_min, putAll_cons, putAll_nil, asgK_normal, roundK_normal, roundK_ret, roundK_exit, part_cell, part_agg, *]
    | (refine retK_now ?_)
    | (refine retK_now' ?_)
    | (intro q hq)
    | (refine cond_intro (fun hc => ?_) (fun hc => ?_)))
    refine seqK_now ?_
    refine seq_go ?_
    (repeat' first
    | simp (contextual := true) (maxSteps := 4000000) only [fwc, fwe, opsW_gpure, drawW_pure, drawW_gpure, Env.upd_apply, Heap.upd_same, Heap.upd_apply, ite_none, List.getD_cons_zero, List.getD_cons_succ, List.getD_nil, List.length_cons, List.length_nil, List.map_cons, List.map_nil, List.getElem?_cons_zero, List.getElem?_cons_succ, List.getElem?_nil, List.set_cons_zero, List.set_cons_succ, List.take_succ_cons, List.take_zero, List.drop_succ_cons, List.drop_zero, List.nil_append, List.cons_append, List.append_nil, Option.map_some, Option.map_none, Option.bind_some, Option.bind_none, reduceIte, ↓reduceIte, decide_true, decide_false, Bool.true_and, Bool.and_true, Bool.false_and, Bool.and_false, true_and, and_true, and_self, Nat.reduceAdd, Nat.reduceLeDiff, Nat.reduceEqDiff, Nat.zero_add, Nat.add_zero, Nat.le_refl, Nat.zero_le, ge_iff_le, Nat.reduceLT, Nat.zero_lt_succ, Nat.reduceSub, if_true, if_false, forall_const, reduceCtorEq, Bool.not_true, Bool.not_false, Bool.false_eq_true, Int.reduceEq, Int.reduceLT, Int.reduceLE, Int.reduceNeg, Int.reduceToNat, Int.reduceAdd, Int.reduceSub, Nat.reduceMul, Nat.reduceEqDiff, gW_un, gcF_un, gcA_un, ci_mkmap, ci_mapset, ci_lookup, ci_maxl, ci_appz, pi_lookup, pi_maxl, pu_lookup, pu_maxl, maxl_nil, maxl_one, maxl_cons, cells_mapr, stor_mapr, callv_yld, mm_max, mm_min, putAll_cons, putAll_nil, asgK_normal, roundK_normal, roundK_ret, roundK_exit, part_cell, part_agg, *]
    | (refine retK_now ?_)
    | (refine retK_now' ?_)
    | (intro q hq)
    | (refine cond_intro (fun hc => ?_) (fun hc => ?_)))
    revert q
    intro q6 hq6
    refine seqK_now ?_
    refine seq_go ?_
    (repeat' first
    | simp (contextual := true) (maxSteps := 4000000) only [fwc, fwe, opsW_gpure, drawW_pure, drawW_gpure, Env.upd_apply, Heap.upd_same, Heap.upd_apply, ite_none, List.getD_cons_zero, List.getD_cons_succ, List.getD_nil, List.length_cons, List.length_nil, List.map_cons, List.map_nil, List.getElem?_cons_zero, List.getElem?_cons_succ, List.getElem?_nil, List.set_cons_zero, List.set_cons_succ, List.take_succ_cons, List.take_zero, List.drop_succ_cons, List.drop_zero, List.nil_append, List.cons_append, List.append_nil, Option.map_some, Option.map_none, Option.bind_some, Option.bind_none, reduceIte, ↓reduceIte, decide_true, decide_false, Bool.true_and, Bool.and_true, Bool.false_and, Bool.and_false, true_and, and_true, and_self, Nat.reduceAdd, Nat.reduceLeDiff, Nat.reduceEqDiff, Nat.zero_add, Nat.add_zero, Nat.le_refl, Nat.zero_le, ge_iff_le, Nat.reduceLT, Nat.zero_lt_succ, Nat.reduceSub, if_true, if_false, forall_const, reduceCtorEq, Bool.not_true, Bool.not_false, Bool.false_eq_true, Int.reduceEq, Int.reduceLT, Int.reduceLE, Int.reduceNeg, Int.reduceToNat, Int.reduceAdd, Int.reduceSub, Nat.reduceMul, Nat.reduceEqDiff, gW_un, gcF_un, gcA_un, ci_mkmap, ci_mapset, ci_lookup, ci_maxl, ci_appz, pi_lookup, pi_maxl, pu_lookup, pu_maxl, maxl_nil, maxl_one, maxl_cons, cells_mapr, stor_mapr, callv_yld, mm_max, mm_min, putAll_cons, putAll_nil, asgK_normal, roundK_normal, roundK_ret, roundK_exit, part_cell, part_agg, *]
    | (refine retK_now ?_)
    | (refine retK_now' ?_)
    | (intro q hq)
    | (refine cond_intro (fun hc => ?_) (fun hc => ?_)))
    refine seqK_now ?_
    obtain ⟨h61, h62, h63⟩ : ¬ q6 = q4 ∧ ¬ q4 = q6 ∧ O q6 = none := by simpa only [upd_none] using hq6
    clear hq6
    refine seq_post (fun e1 O1 => (∃ z : Ndl, O1 = (O.upd q4 (.arr 41 2 [.agg [.val (.int .u8 0), .val (.int .i64 0)]])).upd q6 (.arr 41 2 [z.av]) ∧ ((∃ i, atSpot a r = some i ∧ z = needleL i ∧ i < 80) ∨ (atSpot a r = none ∧ z = ⟨0, 0⟩))) ∧ e1 = (Env.upd (fun _ => .junk) 6 (.optr q6 2 0 0)).upd 4 (.optr q4 2 0 0)) ?_ ?_
    · intro e1 O1 hQ
      obtain ⟨⟨z, rfl, hz⟩, rfl⟩ := hQ
      rw [show z.av = .agg [.val (.int .u8 z.bed), .val (.int .i64 z.at_)] from rfl]
      rcases hz with ⟨i, h1, rfl, hi⟩ | ⟨h1, rfl⟩
      · have hat : decide ((needleL i).at_ = 0) = false := decide_eq_false (by unfold needleL; simp only; omega)
        rw [h1]
        simp only []
        generalize needleL i = u at hat ⊢
        (repeat' first
    | simp (contextual := true) (maxSteps := 4000000) only [fwc, fwe, cmd_seq, opsW_gpure, drawW_pure, drawW_gpure, Env.upd_apply, Heap.upd_same, Heap.upd_apply, ite_none, List.getD_cons_zero, List.getD_cons_succ, List.getD_nil, List.length_cons, List.length_nil, List.map_cons, List.map_nil, List.getElem?_cons_zero, List.getElem?_cons_succ, List.getElem?_nil, List.set_cons_zero, List.set_cons_succ, List.take_succ_cons, List.take_zero, List.drop_succ_cons, List.drop_zero, List.nil_append, List.cons_append, List.append_nil, Option.map_some, Option.map_none, Option.bind_some, Option.bind_none, reduceIte, ↓reduceIte, decide_true, decide_false, Bool.true_and, Bool.and_true, Bool.false_and, Bool.and_false, true_and, and_true, and_self, Nat.reduceAdd, Nat.reduceLeDiff, Nat.reduceEqDiff, Nat.zero_add, Nat.add_zero, Nat.le_refl, Nat.zero_le, ge_iff_le, Nat.reduceLT, Nat.zero_lt_succ, Nat.reduceSub, if_true, if_false, forall_const, reduceCtorEq, Bool.not_true, Bool.not_false, Bool.false_eq_true, Int.reduceEq, Int.reduceLT, Int.reduceLE, Int.reduceNeg, Int.reduceToNat, Int.reduceAdd, Int.reduceSub, Nat.reduceMul, Nat.reduceEqDiff, gW_un, gcF_un, gcA_un, ci_mkmap, ci_mapset, ci_lookup, ci_maxl, ci_appz, pi_lookup, pi_maxl, pu_lookup, pu_maxl, maxl_nil, maxl_one, maxl_cons, cells_mapr, stor_mapr, callv_yld, mm_max, mm_min, putAll_cons, putAll_nil, asgK_normal, roundK_normal, roundK_ret, roundK_exit, part_cell, part_agg, *]
    | (refine seqK_now ?_)
    | (refine retK_now ?_)
    | (refine retK_now' ?_)
    | (intro q hq)
    | (refine cond_intro (fun hc => ?_) (fun hc => ?_)))
        refine WeakR.pure (by repeat (first | exact Heap.sub_refl _ | refine sub_upd (by simp only [*]) ?_)) ?_
        rfl
      · have hat : decide ((0 : Int) = 0) = true := by decide
        rw [h1]
        (repeat' first
    | simp (contextual := true) (maxSteps := 4000000) only [fwc, fwe, cmd_seq, opsW_gpure, drawW_pure, drawW_gpure, Env.upd_apply, Heap.upd_same, Heap.upd_apply, ite_none, List.getD_cons_zero, List.getD_cons_succ, List.getD_nil, List.length_cons, List.length_nil, List.map_cons, List.map_nil, List.getElem?_cons_zero, List.getElem?_cons_succ, List.getElem?_nil, List.set_cons_zero, List.set_cons_succ, List.take_succ_cons, List.take_zero, List.drop_succ_cons, List.drop_zero, List.nil_append, List.cons_append, List.append_nil, Option.map_some, Option.map_none, Option.bind_some, Option.bind_none, reduceIte, ↓reduceIte, decide_true, decide_false, Bool.true_and, Bool.and_true, Bool.false_and, Bool.and_false, true_and, and_true, and_self, Nat.reduceAdd, Nat.reduceLeDiff, Nat.reduceEqDiff, Nat.zero_add, Nat.add_zero, Nat.le_refl, Nat.zero_le, ge_iff_le, Nat.reduceLT, Nat.zero_lt_succ, Nat.reduceSub, if_true, if_false, forall_const, reduceCtorEq, Bool.not_true, Bool.not_false, Bool.false_eq_true, Int.reduceEq, Int.reduceLT, Int.reduceLE, Int.reduceNeg, Int.reduceToNat, Int.reduceAdd, Int.reduceSub, Nat.reduceMul, Nat.reduceEqDiff, gW_un, gcF_un, gcA_un, ci_mkmap, ci_mapset, ci_lookup, ci_maxl, ci_appz, pi_lookup, pi_maxl, pu_lookup, pu_maxl, maxl_nil, maxl_one, maxl_cons, cells_mapr, stor_mapr, callv_yld, mm_max, mm_min, putAll_cons, putAll_nil, asgK_normal, roundK_normal, roundK_ret, roundK_exit, part_cell, part_agg, *]
    | (refine seqK_now ?_)
    | (refine retK_now ?_)
    | (refine retK_now' ?_)
    | (intro q hq)
    | (refine cond_intro (fun hc => ?_) (fun hc => ?_)))
        refine WeakR.pure (by repeat (first | exact Heap.sub_refl _ | refine sub_upd (by simp only [*]) ?_)) ?_
        rfl
    · intro F hF
      replace hF := (show Aside _ from hF)
      obtain ⟨I, hI⟩ := hideI (fun m e O' => ∃ j : Nat, j ≤ 2 ∧ m = 2 - j ∧ (∀ i, i < 40 * j → spotL (needleL i) r ≠ a) ∧ O' = (O.upd q4 (.arr 41 2 [.agg [.val (.int .u8 0), .val (.int .i64 0)]])).upd q6 (.arr 41 2 [.agg [.val (.int .u8 0), .val (.int .i64 0)]]) ∧ e = env62 a r q4 q6 j)
      refine seq_go ?_
      (repeat' first
    | simp (contextual := true) (maxSteps := 4000000) only [fwc, fwe, opsW_gpure, drawW_pure, drawW_gpure, Env.upd_apply, Heap.upd_same, Heap.upd_apply, ite_none, List.getD_cons_zero, List.getD_cons_succ, List.getD_nil, List.length_cons, List.length_nil, List.map_cons, List.map_nil, List.getElem?_cons_zero, List.getElem?_cons_succ, List.getElem?_nil, List.set_cons_zero, List.set_cons_succ, List.take_succ_cons, List.take_zero, List.drop_succ_cons, List.drop_zero, List.nil_append, List.cons_append, List.append_nil, Option.map_some, Option.map_none, Option.bind_some, Option.bind_none, reduceIte, ↓reduceIte, decide_true, decide_false, Bool.true_and, Bool.and_true, Bool.false_and, Bool.and_false, true_and, and_true, and_self, Nat.reduceAdd, Nat.reduceLeDiff, Nat.reduceEqDiff, Nat.zero_add, Nat.add_zero, Nat.le_refl, Nat.zero_le, ge_iff_le, Nat.reduceLT, Nat.zero_lt_succ, Nat.reduceSub, if_true, if_false, forall_const, reduceCtorEq, Bool.not_true, Bool.not_false, Bool.false_eq_true, Int.reduceEq, Int.reduceLT, Int.reduceLE, Int.reduceNeg, Int.reduceToNat, Int.reduceAdd, Int.reduceSub, Nat.reduceMul, Nat.reduceEqDiff, gW_un, gcF_un, gcA_un, ci_mkmap, ci_mapset, ci_lookup, ci_maxl, ci_appz, pi_lookup, pi_maxl, pu_lookup, pu_maxl, maxl_nil, maxl_one, maxl_cons, cells_mapr, stor_mapr, callv_yld, mm_max, mm_min, putAll_cons, putAll_nil, asgK_normal, roundK_normal, roundK_ret, roundK_exit, part_cell, part_agg, *]
    | (refine retK_now ?_)
    | (refine retK_now' ?_)
    | (intro q hq)
    | (refine cond_intro (fun hc => ?_) (fun hc => ?_)))
      refine seqK_now ?_
      (repeat' first
    | simp (contextual := true) (maxSteps := 4000000) only [fwc, fwe, opsW_gpure, drawW_pure, drawW_gpure, Env.upd_apply, Heap.upd_same, Heap.upd_apply, ite_none, List.getD_cons_zero, List.getD_cons_succ, List.getD_nil, List.length_cons, List.length_nil, List.map_cons, List.map_nil, List.getElem?_cons_zero, List.getElem?_cons_succ, List.getElem?_nil, List.set_cons_zero, List.set_cons_succ, List.take_succ_cons, List.take_zero, List.drop_succ_cons, List.drop_zero, List.nil_append, List.cons_append, List.append_nil, Option.map_some, Option.map_none, Option.bind_some, Option.bind_none, reduceIte, ↓reduceIte, decide_true, decide_false, Bool.true_and, Bool.and_true, Bool.false_and, Bool.and_false, true_and, and_true, and_self, Nat.reduceAdd, Nat.reduceLeDiff, Nat.reduceEqDiff, Nat.zero_add, Nat.add_zero, Nat.le_refl, Nat.zero_le, ge_iff_le, Nat.reduceLT, Nat.zero_lt_succ, Nat.reduceSub, if_true, if_false, forall_const, reduceCtorEq, Bool.not_true, Bool.not_false, Bool.false_eq_true, Int.reduceEq, Int.reduceLT, Int.reduceLE, Int.reduceNeg, Int.reduceToNat, Int.reduceAdd, Int.reduceSub, Nat.reduceMul, Nat.reduceEqDiff, gW_un, gcF_un, gcA_un, ci_mkmap, ci_mapset, ci_lookup, ci_maxl, ci_appz, pi_lookup, pi_maxl, pu_lookup, pu_maxl, maxl_nil, maxl_one, maxl_cons, cells_mapr, stor_mapr, callv_yld, mm_max, mm_min, putAll_cons, putAll_nil, asgK_normal, roundK_normal, roundK_ret, roundK_exit, part_cell, part_agg, *]
    | (refine retK_now ?_)
    | (refine retK_now' ?_)
    | (intro q hq)
    | (refine cond_intro (fun hc => ?_) (fun hc => ?_)))
      refine cmd_loop I 2 (by
        rw [hI.out]
        exact ⟨0, by omega, rfl, fun i hi => by omega, rfl, rfl⟩) ?_
      intro m e O' hh
      rw [hI.out] at hh
      obtain ⟨j, hj2, rfl, hlo, rfl, rfl⟩ := hh
      unfold env62
      have dj : decide ((j : Int) < 2) = decide (j < 2) := decide_eq_decide.2 (by omega)
      by_cases hj : j < 2
      · have e1 : decide (j < 2) = true := decide_eq_true hj
        have hbed : indexAddrA 1 (j : Int) (.list 1 true [.val (.int .u8 0), .val (.int .u8 1)]) = some (.ref (.val (.int .u8 (j : Int)))) := by
          match j, hj with
          | 0, _ => rfl
          | 1, _ => rfl
        have hnd : ∀ i : Nat, i < 40 → needleL (40 * j + i) = ⟨(j : Int), ((i + 1 : Nat) : Int)⟩ := fun i hi => by
          match j, hj with
          | 0, _ => exact needle_lo hi
          | 1, _ => exact needle_hi hi
        have hwj : j < 4611686018427387904 := by omega
        obtain ⟨J, hJ⟩ := hideI (fun m e O' => ∃ (i : Nat) (z : Ndl), i ≤ 40 ∧ m = 40 - i ∧ (∀ k, k < 40 * j + i → spotL (needleL k) r ≠ a) ∧ O' = (O.upd q4 (.arr 41 2 [.agg [.val (.int .u8 0), .val (.int .i64 0)]])).upd q6 (.arr 41 2 [z.av]) ∧ e = env62b a r q4 q6 j i)
        replace hlo := (show Aside _ from hlo)
        replace hnd := (show Aside _ from hnd)
        (repeat' first
    | simp (contextual := true) (maxSteps := 4000000) only [fwc, fwe, cmd_seq, opsW_gpure, drawW_pure, drawW_gpure, Env.upd_apply, Heap.upd_same, Heap.upd_apply, ite_none, List.getD_cons_zero, List.getD_cons_succ, List.getD_nil, List.length_cons, List.length_nil, List.map_cons, List.map_nil, List.getElem?_cons_zero, List.getElem?_cons_succ, List.getElem?_nil, List.set_cons_zero, List.set_cons_succ, List.take_succ_cons, List.take_zero, List.drop_succ_cons, List.drop_zero, List.nil_append, List.cons_append, List.append_nil, Option.map_some, Option.map_none, Option.bind_some, Option.bind_none, reduceIte, ↓reduceIte, decide_true, decide_false, Bool.true_and, Bool.and_true, Bool.false_and, Bool.and_false, true_and, and_true, and_self, Nat.reduceAdd, Nat.reduceLeDiff, Nat.reduceEqDiff, Nat.zero_add, Nat.add_zero, Nat.le_refl, Nat.zero_le, ge_iff_le, Nat.reduceLT, Nat.zero_lt_succ, Nat.reduceSub, if_true, if_false, forall_const, reduceCtorEq, Bool.not_true, Bool.not_false, Bool.false_eq_true, Int.reduceEq, Int.reduceLT, Int.reduceLE, Int.reduceNeg, Int.reduceToNat, Int.reduceAdd, Int.reduceSub, Nat.reduceMul, Nat.reduceEqDiff, gW_un, gcF_un, gcA_un, ci_mkmap, ci_mapset, ci_lookup, ci_maxl, ci_appz, pi_lookup, pi_maxl, pu_lookup, pu_maxl, maxl_nil, maxl_one, maxl_cons, cells_mapr, stor_mapr, callv_yld, mm_max, mm_min, putAll_cons, putAll_nil, asgK_normal, roundK_normal, roundK_ret, roundK_exit, part_cell, part_agg, *]
    | (refine seqK_now ?_)
    | (refine retK_now ?_)
    | (refine retK_now' ?_)
    | (intro q hq)
    | (refine cond_intro (fun hc => ?_) (fun hc => ?_)))
        refine cmd_loop J 40 (by
          rw [hJ.out]
          exact ⟨0, ⟨0, 0⟩, by omega, rfl, fun k hk => hlo.out k (by omega), rfl, rfl⟩) ?_
        intro m e O' hh
        rw [hJ.out] at hh
        obtain ⟨i, z, hi40, rfl, hlo2, rfl, rfl⟩ := hh
        unfold env62b
        rw [show z.av = .agg [.val (.int .u8 z.bed), .val (.int .i64 z.at_)] from rfl]
        have di : decide ((i : Int) < 40) = decide (i < 40) := decide_eq_decide.2 (by omega)
        by_cases hi : i < 40
        · have e2 : decide (i < 40) = true := decide_eq_true hi
          have hwi : i < 4611686018427387904 := by omega
          have hsp := spot_ok (needleL (40 * j + i)) r (by rw [hnd.out i hi]; simp only; omega) (by rw [hnd.out i hi]; simp only; omega) (by have := hrk.out; omega) (by have := hrk.out; omega)
          have hn := hnd.out i hi
          rw [hn, show (⟨(j : Int), ((i + 1 : Nat) : Int)⟩ : Ndl).av = .agg [.val (.int .u8 (j : Int)), .val (.int .i64 ((i + 1 : Nat) : Int))] from rfl] at hsp
          replace hlo2 := (show Aside _ from hlo2)
          obtain ⟨s, hs⟩ : ∃ s, spotL ⟨(j : Int), ((i + 1 : Nat) : Int)⟩ r = s := ⟨_, rfl⟩
          rw [hs] at hsp
          rw [← hn] at hs
          replace hs := (show Aside _ from hs)
          replace hn := (show Aside _ from hn)
          by_cases hsa : s = a
          · have e3 : decide (s = a) = true := decide_eq_true hsa
            replace hsa := (show Aside _ from hsa)
            (repeat' first
    | simp (contextual := true) (maxSteps := 4000000) only [fwc, fwe, cmd_seq, opsW_gpure, drawW_pure, drawW_gpure, Env.upd_apply, Heap.upd_same, Heap.upd_apply, ite_none, List.getD_cons_zero, List.getD_cons_succ, List.getD_nil, List.length_cons, List.length_nil, List.map_cons, List.map_nil, List.getElem?_cons_zero, List.getElem?_cons_succ, List.getElem?_nil, List.set_cons_zero, List.set_cons_succ, List.take_succ_cons, List.take_zero, List.drop_succ_cons, List.drop_zero, List.nil_append, List.cons_append, List.append_nil, Option.map_some, Option.map_none, Option.bind_some, Option.bind_none, reduceIte, ↓reduceIte, decide_true, decide_false, Bool.true_and, Bool.and_true, Bool.false_and, Bool.and_false, true_and, and_true, and_self, Nat.reduceAdd, Nat.reduceLeDiff, Nat.reduceEqDiff, Nat.zero_add, Nat.add_zero, Nat.le_refl, Nat.zero_le, ge_iff_le, Nat.reduceLT, Nat.zero_lt_succ, Nat.reduceSub, if_true, if_false, forall_const, reduceCtorEq, Bool.not_true, Bool.not_false, Bool.false_eq_true, Int.reduceEq, Int.reduceLT, Int.reduceLE, Int.reduceNeg, Int.reduceToNat, Int.reduceAdd, Int.reduceSub, Nat.reduceMul, Nat.reduceEqDiff, gW_un, gcF_un, gcA_un, ci_mkmap, ci_mapset, ci_lookup, ci_maxl, ci_appz, pi_lookup, pi_maxl, pu_lookup, pu_maxl, maxl_nil, maxl_one, maxl_cons, cells_mapr, stor_mapr, callv_yld, mm_max, mm_min, putAll_cons, putAll_nil, asgK_normal, roundK_normal, roundK_ret, roundK_exit, part_cell, part_agg, wrap_succ, *]
    | (refine seqK_now ?_)
    | (refine retK_now ?_)
    | (refine retK_now' ?_)
    | (intro q hq)
    | (refine cond_intro (fun hc => ?_) (fun hc => ?_)))
            refine hsp.use ?_
            (repeat' first
    | simp (contextual := true) (maxSteps := 4000000) only [fwc, fwe, cmd_seq, opsW_gpure, drawW_pure, drawW_gpure, Env.upd_apply, Heap.upd_same, Heap.upd_apply, ite_none, List.getD_cons_zero, List.getD_cons_succ, List.getD_nil, List.length_cons, List.length_nil, List.map_cons, List.map_nil, List.getElem?_cons_zero, List.getElem?_cons_succ, List.getElem?_nil, List.set_cons_zero, List.set_cons_succ, List.take_succ_cons, List.take_zero, List.drop_succ_cons, List.drop_zero, List.nil_append, List.cons_append, List.append_nil, Option.map_some, Option.map_none, Option.bind_some, Option.bind_none, reduceIte, ↓reduceIte, decide_true, decide_false, Bool.true_and, Bool.and_true, Bool.false_and, Bool.and_false, true_and, and_true, and_self, Nat.reduceAdd, Nat.reduceLeDiff, Nat.reduceEqDiff, Nat.zero_add, Nat.add_zero, Nat.le_refl, Nat.zero_le, ge_iff_le, Nat.reduceLT, Nat.zero_lt_succ, Nat.reduceSub, if_true, if_false, forall_const, reduceCtorEq, Bool.not_true, Bool.not_false, Bool.false_eq_true, Int.reduceEq, Int.reduceLT, Int.reduceLE, Int.reduceNeg, Int.reduceToNat, Int.reduceAdd, Int.reduceSub, Nat.reduceMul, Nat.reduceEqDiff, gW_un, gcF_un, gcA_un, ci_mkmap, ci_mapset, ci_lookup, ci_maxl, ci_appz, pi_lookup, pi_maxl, pu_lookup, pu_maxl, maxl_nil, maxl_one, maxl_cons, cells_mapr, stor_mapr, callv_yld, mm_max, mm_min, putAll_cons, putAll_nil, asgK_normal, roundK_normal, roundK_ret, roundK_exit, part_cell, part_agg, wrap_succ, *]
    | (refine seqK_now ?_)
    | (refine retK_now ?_)
    | (refine retK_now' ?_)
    | (intro q hq)
    | (refine cond_intro (fun hc => ?_) (fun hc => ?_)))
            refine hF.out _ _ ⟨⟨needleL (40 * j + i), ?_, .inl ⟨40 * j + i, at_some (by omega) (fun k hk => hlo2.out k hk) (by rw [hs.out]; exact hsa.out), rfl, by omega⟩⟩, ?_⟩
            · rw [hn.out]; rfl
            · rfl
          · have e3 : decide (s = a) = false := decide_eq_false hsa
            replace hsa := (show Aside _ from hsa)
            (repeat' first
    | simp (contextual := true) (maxSteps := 4000000) only [fwc, fwe, cmd_seq, opsW_gpure, drawW_pure, drawW_gpure, Env.upd_apply, Heap.upd_same, Heap.upd_apply, ite_none, List.getD_cons_zero, List.getD_cons_succ, List.getD_nil, List.length_cons, List.length_nil, List.map_cons, List.map_nil, List.getElem?_cons_zero, List.getElem?_cons_succ, List.getElem?_nil, List.set_cons_zero, List.set_cons_succ, List.take_succ_cons, List.take_zero, List.drop_succ_cons, List.drop_zero, List.nil_append, List.cons_append, List.append_nil, Option.map_some, Option.map_none, Option.bind_some, Option.bind_none, reduceIte, ↓reduceIte, decide_true, decide_false, Bool.true_and, Bool.and_true, Bool.false_and, Bool.and_false, true_and, and_true, and_self, Nat.reduceAdd, Nat.reduceLeDiff, Nat.reduceEqDiff, Nat.zero_add, Nat.add_zero, Nat.le_refl, Nat.zero_le, ge_iff_le, Nat.reduceLT, Nat.zero_lt_succ, Nat.reduceSub, if_true, if_false, forall_const, reduceCtorEq, Bool.not_true, Bool.not_false, Bool.false_eq_true, Int.reduceEq, Int.reduceLT, Int.reduceLE, Int.reduceNeg, Int.reduceToNat, Int.reduceAdd, Int.reduceSub, Nat.reduceMul, Nat.reduceEqDiff, gW_un, gcF_un, gcA_un, ci_mkmap, ci_mapset, ci_lookup, ci_maxl, ci_appz, pi_lookup, pi_maxl, pu_lookup, pu_maxl, maxl_nil, maxl_one, maxl_cons, cells_mapr, stor_mapr, callv_yld, mm_max, mm_min, putAll_cons, putAll_nil, asgK_normal, roundK_normal, roundK_ret, roundK_exit, part_cell, part_agg, wrap_succ, *]
    | (refine seqK_now ?_)
    | (refine retK_now ?_)
    | (refine retK_now' ?_)
    | (intro q hq)
    | (refine cond_intro (fun hc => ?_) (fun hc => ?_)))
            refine hsp.use ?_
            (repeat' first
    | simp (contextual := true) (maxSteps := 4000000) only [fwc, fwe, cmd_seq, opsW_gpure, drawW_pure, drawW_gpure, Env.upd_apply, Heap.upd_same, Heap.upd_apply, ite_none, List.getD_cons_zero, List.getD_cons_succ, List.getD_nil, List.length_cons, List.length_nil, List.map_cons, List.map_nil, List.getElem?_cons_zero, List.getElem?_cons_succ, List.getElem?_nil, List.set_cons_zero, List.set_cons_succ, List.take_succ_cons, List.take_zero, List.drop_succ_cons, List.drop_zero, List.nil_append, List.cons_append, List.append_nil, Option.map_some, Option.map_none, Option.bind_some, Option.bind_none, reduceIte, ↓reduceIte, decide_true, decide_false, Bool.true_and, Bool.and_true, Bool.false_and, Bool.and_false, true_and, and_true, and_self, Nat.reduceAdd, Nat.reduceLeDiff, Nat.reduceEqDiff, Nat.zero_add, Nat.add_zero, Nat.le_refl, Nat.zero_le, ge_iff_le, Nat.reduceLT, Nat.zero_lt_succ, Nat.reduceSub, if_true, if_false, forall_const, reduceCtorEq, Bool.not_true, Bool.not_false, Bool.false_eq_true, Int.reduceEq, Int.reduceLT, Int.reduceLE, Int.reduceNeg, Int.reduceToNat, Int.reduceAdd, Int.reduceSub, Nat.reduceMul, Nat.reduceEqDiff, gW_un, gcF_un, gcA_un, ci_mkmap, ci_mapset, ci_lookup, ci_maxl, ci_appz, pi_lookup, pi_maxl, pu_lookup, pu_maxl, maxl_nil, maxl_one, maxl_cons, cells_mapr, stor_mapr, callv_yld, mm_max, mm_min, putAll_cons, putAll_nil, asgK_normal, roundK_normal, roundK_ret, roundK_exit, part_cell, part_agg, wrap_succ, *]
    | (refine seqK_now ?_)
    | (refine retK_now ?_)
    | (refine retK_now' ?_)
    | (intro q hq)
    | (refine cond_intro (fun hc => ?_) (fun hc => ?_)))
            refine loopK_now (40 - (i + 1)) (by omega) ?_
            rw [hJ.out]
            refine ⟨i + 1, ⟨(j : Int), ((i + 1 : Nat) : Int)⟩, by omega, rfl, fun k hk => ?_, rfl, rfl⟩
            rcases Nat.lt_or_ge k (40 * j + i) with h | h
            · exact hlo2.out k h
            · have : k = 40 * j + i := by omega
              rw [this, hs.out]
              exact hsa.out
        · have e2 : decide (i < 40) = false := decide_eq_false hi
          have hi4 : i = 40 := by omega
          replace hlo2 := (show Aside _ from hlo2)
          replace hi := (show Aside _ from hi)
          replace hi4 := (show Aside _ from hi4)
          (repeat' first
    | simp (contextual := true) (maxSteps := 4000000) only [fwc, fwe, cmd_seq, opsW_gpure, drawW_pure, drawW_gpure, Env.upd_apply, Heap.upd_same, Heap.upd_apply, ite_none, List.getD_cons_zero, List.getD_cons_succ, List.getD_nil, List.length_cons, List.length_nil, List.map_cons, List.map_nil, List.getElem?_cons_zero, List.getElem?_cons_succ, List.getElem?_nil, List.set_cons_zero, List.set_cons_succ, List.take_succ_cons, List.take_zero, List.drop_succ_cons, List.drop_zero, List.nil_append, List.cons_append, List.append_nil, Option.map_some, Option.map_none, Option.bind_some, Option.bind_none, reduceIte, ↓reduceIte, decide_true, decide_false, Bool.true_and, Bool.and_true, Bool.false_and, Bool.and_false, true_and, and_true, and_self, Nat.reduceAdd, Nat.reduceLeDiff, Nat.reduceEqDiff, Nat.zero_add, Nat.add_zero, Nat.le_refl, Nat.zero_le, ge_iff_le, Nat.reduceLT, Nat.zero_lt_succ, Nat.reduceSub, if_true, if_false, forall_const, reduceCtorEq, Bool.not_true, Bool.not_false, Bool.false_eq_true, Int.reduceEq, Int.reduceLT, Int.reduceLE, Int.reduceNeg, Int.reduceToNat, Int.reduceAdd, Int.reduceSub, Nat.reduceMul, Nat.reduceEqDiff, gW_un, gcF_un, gcA_un, ci_mkmap, ci_mapset, ci_lookup, ci_maxl, ci_appz, pi_lookup, pi_maxl, pu_lookup, pu_maxl, maxl_nil, maxl_one, maxl_cons, cells_mapr, stor_mapr, callv_yld, mm_max, mm_min, putAll_cons, putAll_nil, asgK_normal, roundK_normal, roundK_ret, roundK_exit, part_cell, part_agg, wrap_succ, *]
    | (refine seqK_now ?_)
    | (refine retK_now ?_)
    | (refine retK_now' ?_)
    | (intro q hq)
    | (refine cond_intro (fun hc => ?_) (fun hc => ?_)))
          refine loopK_now (2 - (j + 1)) (by omega) ?_
          rw [hI.out]
          exact ⟨j + 1, by omega, rfl, fun k hk => hlo2.out k (by have := hi4.out; omega), rfl, rfl⟩
      · have e1 : decide (j < 2) = false := decide_eq_false hj
        have hj3 : j = 2 := by omega
        replace hj := (show Aside _ from hj)
        replace hlo := (show Aside _ from hlo)
        replace hj3 := (show Aside _ from hj3)
        (repeat' first
    | simp (contextual := true) (maxSteps := 4000000) only [fwc, fwe, cmd_seq, opsW_gpure, drawW_pure, drawW_gpure, Env.upd_apply, Heap.upd_same, Heap.upd_apply, ite_none, List.getD_cons_zero, List.getD_cons_succ, List.getD_nil, List.length_cons, List.length_nil, List.map_cons, List.map_nil, List.getElem?_cons_zero, List.getElem?_cons_succ, List.getElem?_nil, List.set_cons_zero, List.set_cons_succ, List.take_succ_cons, List.take_zero, List.drop_succ_cons, List.drop_zero, List.nil_append, List.cons_append, List.append_nil, Option.map_some, Option.map_none, Option.bind_some, Option.bind_none, reduceIte, ↓reduceIte, decide_true, decide_false, Bool.true_and, Bool.and_true, Bool.false_and, Bool.and_false, true_and, and_true, and_self, Nat.reduceAdd, Nat.reduceLeDiff, Nat.reduceEqDiff, Nat.zero_add, Nat.add_zero, Nat.le_refl, Nat.zero_le, ge_iff_le, Nat.reduceLT, Nat.zero_lt_succ, Nat.reduceSub, if_true, if_false, forall_const, reduceCtorEq, Bool.not_true, Bool.not_false, Bool.false_eq_true, Int.reduceEq, Int.reduceLT, Int.reduceLE, Int.reduceNeg, Int.reduceToNat, Int.reduceAdd, Int.reduceSub, Nat.reduceMul, Nat.reduceEqDiff, gW_un, gcF_un, gcA_un, ci_mkmap, ci_mapset, ci_lookup, ci_maxl, ci_appz, pi_lookup, pi_maxl, pu_lookup, pu_maxl, maxl_nil, maxl_one, maxl_cons, cells_mapr, stor_mapr, callv_yld, mm_max, mm_min, putAll_cons, putAll_nil, asgK_normal, roundK_normal, roundK_ret, roundK_exit, part_cell, part_agg, *]
    | (refine seqK_now ?_)
    | (refine retK_now ?_)
    | (refine retK_now' ?_)
    | (intro q hq)
    | (refine cond_intro (fun hc => ?_) (fun hc => ?_)))
        refine hF.out _ _ ⟨⟨⟨0, 0⟩, rfl, .inr ⟨at_none fun i hi => hlo.out i (by have := hj3.out; omega), rfl⟩⟩, rfl⟩
/-- The same, told by arithmetic. -/
def atFast (a r : Int) : Option Int :=
  if (a - 2) % 4 = 0 ∧ 1 ≤ (a - 2) / 4 ∧ (a - 2) / 4 ≤ 40 then some ((a - 2) / 4 - 1)
  else if a % 4 = 0 ∧ 1 ≤ a / 4 - r ∧ a / 4 - r ≤ 40 then some (39 + (a / 4 - r)) else none
theorem spot_lo {i : Nat} (r : Int) (h : i < 40) : spotL (needleL i) r = 4 * ((i : Int) + 1) + 2 := by
  have := needle_lo h
  rw [show 40 * 0 + i = i by omega] at this
  rw [this]
  unfold spotL
  rw [if_neg (by simp)]
  simp only
  omega
theorem spot_hi {i : Nat} (r : Int) (h : 40 ≤ i) (h2 : i < 80) : spotL (needleL i) r = 4 * ((i : Int) - 39 + r) := by
  have := needle_hi (show i - 40 < 40 by omega)
  rw [show 40 * 1 + (i - 40) = i by omega] at this
  rw [this]
  unfold spotL
  rw [if_pos rfl]
  simp only
  omega
theorem at_fast (a r : Int) : atSpot a r = (atFast a r).map Int.toNat := by
  unfold atFast
  split
  · rename_i h
    refine at_some (by omega) (fun j hj => ?_) ?_
    · rw [spot_lo r (by omega)]; omega
    · rw [spot_lo r (by omega)]; omega
  · rename_i h
    split
    · rename_i h2
      refine at_some (by omega) (fun j hj => ?_) ?_
      · by_cases h40 : j < 40
        · rw [spot_lo r h40]; omega
        · rw [spot_hi r (by omega) (by omega)]; omega
      · rw [spot_hi r (by omega) (by omega)]; omega
    · rename_i h2
      refine at_none fun i hi => ?_
      by_cases h40 : i < 40
      · rw [spot_lo r h40]; omega
      · rw [spot_hi r (by omega) (by omega)]; omega
def natNAt : List AV → Option AV
  | [.val (.int .i64 a), .val (.int .i64 r)] => match rackOK r with
    | false => some (.tup [(⟨0, 0⟩ : Ndl).av, .val (.int .i64 11)])
    | true => match (atFast a r).map Int.toNat with
      | some i => some (.tup [(needleL i).av, .val (.int .i64 0)])
      | none => some (.tup [(⟨0, 0⟩ : Ndl).av, .val (.int .i64 7)])
  | _ => none
theorem natNAt_ok (args : List AV) (r : AV) (h : natNAt args = some r) : PureA Try.prog 21 args r := by
  unfold natNAt at h
  split at h
  · rename_i a r0
    have key := NAt_ok a r0
    unfold atN atE at key
    rw [at_fast] at key
    split at h
    · rename_i hk; cases h; rw [if_neg (by simp [hk]), if_neg (by simp [hk])] at key; exact key
    · rename_i hk
      rw [if_pos hk, if_pos hk] at key
      split at h
      · rename_i i hi; cases h; rw [hi] at key; exact key
      · rename_i hi; cases h; rw [hi] at key; exact key
  · cases h
end Go.Proofs.Ytlpngkeegjickab

namespace Go.Proofs.Ytlpngkeegjickab
open Go.Ab
attribute [local irreducible] WeakR WeakE CallA YieldA

/-- Names, stacks and beds read off values. -/
def decId : AV → Option Id
  | .agg [.val (.int .u8 y), .val (.int .i64 n)] => some ⟨y, n⟩
  | _ => none
def decIds : List AV → Option (List Id)
  | [] => some []
  | x :: l => match decId x, decIds l with
    | some p, some L => some (p :: L)
    | _, _ => none
def decS : AV → Option (List Id)
  | .list 2 _ l => decIds l
  | .val (.slice none 0 0) => some []
  | _ => none
def decSs : List AV → Option (List (List Id))
  | [] => some []
  | x :: l => match decS x, decSs l with
    | some p, some L => some (p :: L)
    | _, _ => none
def decB : AV → Option (List AV × List (List Id))
  | .list 1 _ l => match decSs l with
    | some F => some (l, F)
    | none => none
  | .val (.slice none 0 0) => some ([], [])
  | _ => none
theorem decId_ok {x : AV} {p : Id} (h : decId x = some p) : x = p.av := by
  unfold decId at h
  split at h
  · cases h; rfl
  · cases h
theorem decIds_ok : ∀ {l : List AV} {L : List Id}, decIds l = some L → l = L.map Id.av
  | [], L, h => by cases h; rfl
  | x :: l, L, h => by
    simp only [decIds] at h
    split at h
    · rename_i p M hp hM
      cases h
      rw [decId_ok hp, decIds_ok hM]
      rfl
    · cases h
theorem decS_ok {x : AV} {L : List Id} (h : decS x = some L) : IsL 2 x (L.map Id.av) := by
  unfold decS at h
  split at h
  · rw [decIds_ok h]; exact .list
  · cases h; exact .nil
  · cases h
theorem decSs_ok : ∀ {l : List AV} {F : List (List Id)}, decSs l = some F → l.length = F.length ∧ ∀ (i : Nat) (h : i < l.length) (h' : i < F.length), IsL 2 l[i] (F[i].map Id.av)
  | [], F, h => by cases h; exact ⟨rfl, fun i h => by simp at h⟩
  | x :: l, F, h => by
    simp only [decSs] at h
    split at h
    · rename_i p M hp hM
      cases h
      obtain ⟨h1, h2⟩ := decSs_ok hM
      refine ⟨by simp [h1], fun i hi hi' => ?_⟩
      cases i with
      | zero => exact decS_ok hp
      | succ i => exact h2 i (by simpa using hi) (by simpa using hi')
    · cases h
theorem decB_ok {x : AV} {es : List AV} {F : List (List Id)} (h : decB x = some (es, F)) : IsB x es F := by
  unfold decB at h
  split at h
  · split at h
    · rename_i hF
      cases h
      obtain ⟨h1, h2⟩ := decSs_ok hF
      exact ⟨.list, h1, h2⟩
    · cases h
  · cases h; exact ⟨.nil, rfl, fun i h => by simp at h⟩
  · cases h

def natCheck : List AV → Option AV
  | [.agg [f, b]] => match decB f, decB b with
    | some (_, F), some (_, B) => some (.val (.int .i64 (checkL F B)))
    | _, _ => none
  | _ => none
theorem natCheck_ok (args : List AV) (r : AV) (h : natCheck args = some r) : PureA Try.prog 13 args r := by
  unfold natCheck at h
  split at h
  · split at h
    · rename_i es F fs B hF hB
      cases h
      exact Check_ok _ _ _ _ F B (decB_ok hF) (decB_ok hB)
    · cases h
  · cases h

def exBeds : AV := (.agg [(.list 1 true [(.val (.slice none 0 0)), (.list 2 true [(.agg [(.val (.int .u8 1)), (.val (.int .i64 0))]), (.agg [(.val (.int .u8 1)), (.val (.int .i64 1))])])]), (.list 1 true [(.val (.slice none 0 0)), (.list 2 true [(.agg [(.val (.int .u8 2)), (.val (.int .i64 0))]), (.agg [(.val (.int .u8 2)), (.val (.int .i64 1))])]), (.val (.slice none 0 0)), (.list 2 true [(.agg [(.val (.int .u8 2)), (.val (.int .i64 2))])])])])
def tb4s : List (FuncId × Fe) := [(11, .code c11 [.tmp 4, .tmp 5] 2),
  (9, .code c9 [.tmp 6, .tmp 7] 3),
  (12, .code c12 [.tmp 8, .tmp 9] 4),
  (30, .code c30 [.tmp 4] 2),
  (31, .code c31 [.tmp 4] 2),
  (20, .code c20 [.tmp 6] 3),
  (22, .code c22 [.tmp 4] 2),
  (23, .code c23 [.tmp 2] 1),
  (21, .nat natNAt),
  (25, .code c25 [.tmp 4] 2),
  (24, .code c24 [.tmp 4] 2),
  (26, .code c26 [.tmp 2] 1),
  (32, .code c32 [.tmp 2] 1),
  (13, .nat natCheck),
  (42, .code c42 [.tmp 2] 1),
  (50, .code c50 [] 2),
  (51, .code c51 [.tmp 4] 2),
  (53, .code c53 [.tmp 2] 1),
  (45, .code c45 [.tmp 2] 1),
  (43, .code c43 [.tmp 2] 1),
  (44, .code c44 [.tmp 4] 2),
  (49, .code c49 [.tmp 4] 2),
  (46, .code c46w [.tmp 2] 1),
  (48, .code c48 [.tmp 2] 1),
  (47, .code c47 [] 1),
  (56, .code c56 [] 3),
  (52, .code c52 [.tmp 4] 2),
  (58, .code c58 [] 4),
  (59, .code c59 [] 5),
  (57, .code c57 [.tmp 2] 1),
  (60, .code c60 [] 5),
  (61, .code c61 [] 5)]
theorem tb4s_ok : TabOK' Try.prog (lookT tb4s) := lookT_ok fun p hp => by
  simp only [tb4s, List.mem_cons, List.not_mem_nil, or_false] at hp
  rcases hp with rfl | rfl | rfl | rfl | rfl | rfl | rfl | rfl | rfl | rfl | rfl | rfl | rfl | rfl | rfl | rfl | rfl | rfl | rfl | rfl | rfl | rfl | rfl | rfl | rfl | rfl | rfl | rfl | rfl | rfl | rfl | rfl
  · exact ⟨k11, by kernel_rfl⟩
  · exact ⟨k9, by kernel_rfl⟩
  · exact ⟨k12, by kernel_rfl⟩
  · exact ⟨k30, by kernel_rfl⟩
  · exact ⟨k31, by kernel_rfl⟩
  · exact ⟨k20, by kernel_rfl⟩
  · exact ⟨k22, by kernel_rfl⟩
  · exact ⟨k23, by kernel_rfl⟩
  · exact natNAt_ok
  · exact ⟨k25, by kernel_rfl⟩
  · exact ⟨k24, by kernel_rfl⟩
  · exact ⟨k26, by kernel_rfl⟩
  · exact ⟨k32, by kernel_rfl⟩
  · exact natCheck_ok
  · exact ⟨k42, by kernel_rfl⟩
  · exact ⟨k50, by kernel_rfl⟩
  · exact ⟨k51, by kernel_rfl⟩
  · exact ⟨k53, by kernel_rfl⟩
  · exact ⟨k45, by kernel_rfl⟩
  · exact ⟨k43, by kernel_rfl⟩
  · exact ⟨k44, by kernel_rfl⟩
  · exact ⟨k49, by kernel_rfl⟩
  · exact ⟨k46w, by kernel_rfl⟩
  · exact ⟨k48, by kernel_rfl⟩
  · exact ⟨k47, by kernel_rfl⟩
  · exact ⟨k56, by kernel_rfl⟩
  · exact ⟨k52, by kernel_rfl⟩
  · exact ⟨k58, by kernel_rfl⟩
  · exact ⟨k59, by kernel_rfl⟩
  · exact ⟨k57, by kernel_rfl⟩
  · exact ⟨k60, by kernel_rfl⟩
  · exact ⟨k61, by kernel_rfl⟩

theorem cr0 : pureWith (lookT tb4s) (cmdR (lookT tb4s) 100000) 11 [exBeds, .val (.int .i64 0)] ⟨.em, 0⟩ = some (.tup [(.list 5 true [(.agg [(.val (.int .u8 2)), (.val (.int .i64 0)), (.val (.int .u8 1)), (.val (.int .i64 2)), (.val (.int .i64 8))]), (.agg [(.val (.int .u8 2)), (.val (.int .i64 1)), (.val (.int .u8 1)), (.val (.int .i64 2)), (.val (.int .i64 8))]), (.agg [(.val (.int .u8 1)), (.val (.int .i64 0)), (.val (.int .u8 0)), (.val (.int .i64 2)), (.val (.int .i64 10))]), (.agg [(.val (.int .u8 1)), (.val (.int .i64 1)), (.val (.int .u8 0)), (.val (.int .i64 2)), (.val (.int .i64 10))]), (.agg [(.val (.int .u8 2)), (.val (.int .i64 2)), (.val (.int .u8 1)), (.val (.int .i64 4)), (.val (.int .i64 16))])]), (.val (.int .i64 0))]) := by kernel_rfl
theorem cr1 : pureWith (lookT tb4s) (cmdR (lookT tb4s) 100000) 11 [exBeds, .val (.int .i64 1)] ⟨.em, 0⟩ = some (.tup [(.list 5 true [(.agg [(.val (.int .u8 1)), (.val (.int .i64 0)), (.val (.int .u8 0)), (.val (.int .i64 2)), (.val (.int .i64 10))]), (.agg [(.val (.int .u8 1)), (.val (.int .i64 1)), (.val (.int .u8 0)), (.val (.int .i64 2)), (.val (.int .i64 10))]), (.agg [(.val (.int .u8 2)), (.val (.int .i64 0)), (.val (.int .u8 1)), (.val (.int .i64 2)), (.val (.int .i64 12))]), (.agg [(.val (.int .u8 2)), (.val (.int .i64 1)), (.val (.int .u8 1)), (.val (.int .i64 2)), (.val (.int .i64 12))]), (.agg [(.val (.int .u8 2)), (.val (.int .i64 2)), (.val (.int .u8 1)), (.val (.int .i64 4)), (.val (.int .i64 20))])]), (.val (.int .i64 0))]) := by kernel_rfl
theorem cr2 : pureWith (lookT tb4s) (cmdR (lookT tb4s) 100000) 9 [exBeds, .val (.int .i64 0), .val (.int .u8 1)] ⟨.em, 0⟩ = some (.tup [(.list 5 true [(.agg [(.val (.int .u8 2)), (.val (.int .i64 1)), (.val (.int .u8 1)), (.val (.int .i64 0)), (.val (.int .i64 (-1)))]), (.agg [(.val (.int .u8 2)), (.val (.int .i64 1)), (.val (.int .u8 1)), (.val (.int .i64 1)), (.val (.int .i64 (-1)))]), (.agg [(.val (.int .u8 2)), (.val (.int .i64 0)), (.val (.int .u8 1)), (.val (.int .i64 0)), (.val (.int .i64 (-1)))]), (.agg [(.val (.int .u8 2)), (.val (.int .i64 0)), (.val (.int .u8 1)), (.val (.int .i64 1)), (.val (.int .i64 (-1)))])]), (.val (.int .i64 0))]) := by kernel_rfl
theorem cr3 : pureWith (lookT tb4s) (cmdR (lookT tb4s) 100000) 9 [exBeds, .val (.int .i64 1), .val (.int .u8 0)] ⟨.em, 0⟩ = some (.tup [(.list 5 true [(.agg [(.val (.int .u8 1)), (.val (.int .i64 1)), (.val (.int .u8 2)), (.val (.int .i64 0)), (.val (.int .i64 1))]), (.agg [(.val (.int .u8 1)), (.val (.int .i64 0)), (.val (.int .u8 2)), (.val (.int .i64 0)), (.val (.int .i64 1))]), (.agg [(.val (.int .u8 1)), (.val (.int .i64 1)), (.val (.int .u8 2)), (.val (.int .i64 1)), (.val (.int .i64 1))]), (.agg [(.val (.int .u8 1)), (.val (.int .i64 0)), (.val (.int .u8 2)), (.val (.int .i64 1)), (.val (.int .i64 1))])]), (.val (.int .i64 0))]) := by kernel_rfl
theorem cr4 : pureWith (lookT tb4s) (cmdR (lookT tb4s) 100000) 9 [exBeds, .val (.int .i64 4), .val (.int .u8 1)] ⟨.em, 0⟩ = some (.tup [(.val (.slice none 0 0)), (.val (.int .i64 11))]) := by kernel_rfl
theorem cr5 : pureWith (lookT tb4s) (cmdR (lookT tb4s) 100000) 12 [exBeds, .val (.int .i64 0), .val (.int .u8 1), .val (.int .i64 9)] ⟨.em, 0⟩ = some (.tup [(.list 4 true [(.agg [(.val (.int .u8 2)), (.val (.int .i64 1)), (.val (.bool true)), (.val (.int .u8 0))]), (.agg [(.val (.int .u8 2)), (.val (.int .i64 0)), (.val (.bool true)), (.val (.int .u8 0))])]), (.val (.int .i64 0))]) := by kernel_rfl
theorem cr6 : pureWith (lookT tb4s) (cmdR (lookT tb4s) 100000) 12 [exBeds, .val (.int .i64 0), .val (.int .u8 1), .val (.int .i64 11)] ⟨.em, 0⟩ = some (.tup [(.list 4 true [(.agg [(.val (.int .u8 2)), (.val (.int .i64 1)), (.val (.bool true)), (.val (.int .u8 0))]), (.agg [(.val (.int .u8 2)), (.val (.int .i64 0)), (.val (.bool true)), (.val (.int .u8 0))])]), (.val (.int .i64 0))]) := by kernel_rfl
theorem cr7 : pureWith (lookT tb4s) (cmdR (lookT tb4s) 100000) 12 [exBeds, .val (.int .i64 0), .val (.int .u8 1), .val (.int .i64 13)] ⟨.em, 0⟩ = some (.tup [(.val (.slice none 0 0)), (.val (.int .i64 0))]) := by kernel_rfl
def natList : List AV → Option AV := natTab [([exBeds, .val (.int .i64 0)], (.tup [(.list 5 true [(.agg [(.val (.int .u8 2)), (.val (.int .i64 0)), (.val (.int .u8 1)), (.val (.int .i64 2)), (.val (.int .i64 8))]), (.agg [(.val (.int .u8 2)), (.val (.int .i64 1)), (.val (.int .u8 1)), (.val (.int .i64 2)), (.val (.int .i64 8))]), (.agg [(.val (.int .u8 1)), (.val (.int .i64 0)), (.val (.int .u8 0)), (.val (.int .i64 2)), (.val (.int .i64 10))]), (.agg [(.val (.int .u8 1)), (.val (.int .i64 1)), (.val (.int .u8 0)), (.val (.int .i64 2)), (.val (.int .i64 10))]), (.agg [(.val (.int .u8 2)), (.val (.int .i64 2)), (.val (.int .u8 1)), (.val (.int .i64 4)), (.val (.int .i64 16))])]), (.val (.int .i64 0))])), ([exBeds, .val (.int .i64 1)], (.tup [(.list 5 true [(.agg [(.val (.int .u8 1)), (.val (.int .i64 0)), (.val (.int .u8 0)), (.val (.int .i64 2)), (.val (.int .i64 10))]), (.agg [(.val (.int .u8 1)), (.val (.int .i64 1)), (.val (.int .u8 0)), (.val (.int .i64 2)), (.val (.int .i64 10))]), (.agg [(.val (.int .u8 2)), (.val (.int .i64 0)), (.val (.int .u8 1)), (.val (.int .i64 2)), (.val (.int .i64 12))]), (.agg [(.val (.int .u8 2)), (.val (.int .i64 1)), (.val (.int .u8 1)), (.val (.int .i64 2)), (.val (.int .i64 12))]), (.agg [(.val (.int .u8 2)), (.val (.int .i64 2)), (.val (.int .u8 1)), (.val (.int .i64 4)), (.val (.int .i64 20))])]), (.val (.int .i64 0))]))]
theorem natList_ok : ∀ (args : List AV) (r : AV), natList args = some r → PureA Try.prog 11 args r := natTab_ok fun p hp => by
  simp only [List.mem_cons, List.not_mem_nil, or_false] at hp
  rcases hp with rfl | rfl
  · exact run_ok mix tb4s_ok 100000 (by kernel_rfl) cr0
  · exact run_ok mix tb4s_ok 100000 (by kernel_rfl) cr1
def natStep : List AV → Option AV := natTab [([exBeds, .val (.int .i64 0), .val (.int .u8 1)], (.tup [(.list 5 true [(.agg [(.val (.int .u8 2)), (.val (.int .i64 1)), (.val (.int .u8 1)), (.val (.int .i64 0)), (.val (.int .i64 (-1)))]), (.agg [(.val (.int .u8 2)), (.val (.int .i64 1)), (.val (.int .u8 1)), (.val (.int .i64 1)), (.val (.int .i64 (-1)))]), (.agg [(.val (.int .u8 2)), (.val (.int .i64 0)), (.val (.int .u8 1)), (.val (.int .i64 0)), (.val (.int .i64 (-1)))]), (.agg [(.val (.int .u8 2)), (.val (.int .i64 0)), (.val (.int .u8 1)), (.val (.int .i64 1)), (.val (.int .i64 (-1)))])]), (.val (.int .i64 0))])), ([exBeds, .val (.int .i64 1), .val (.int .u8 0)], (.tup [(.list 5 true [(.agg [(.val (.int .u8 1)), (.val (.int .i64 1)), (.val (.int .u8 2)), (.val (.int .i64 0)), (.val (.int .i64 1))]), (.agg [(.val (.int .u8 1)), (.val (.int .i64 0)), (.val (.int .u8 2)), (.val (.int .i64 0)), (.val (.int .i64 1))]), (.agg [(.val (.int .u8 1)), (.val (.int .i64 1)), (.val (.int .u8 2)), (.val (.int .i64 1)), (.val (.int .i64 1))]), (.agg [(.val (.int .u8 1)), (.val (.int .i64 0)), (.val (.int .u8 2)), (.val (.int .i64 1)), (.val (.int .i64 1))])]), (.val (.int .i64 0))])), ([exBeds, .val (.int .i64 4), .val (.int .u8 1)], (.tup [(.val (.slice none 0 0)), (.val (.int .i64 11))]))]
theorem natStep_ok : ∀ (args : List AV) (r : AV), natStep args = some r → PureA Try.prog 9 args r := natTab_ok fun p hp => by
  simp only [List.mem_cons, List.not_mem_nil, or_false] at hp
  rcases hp with rfl | rfl | rfl
  · exact run_ok mix tb4s_ok 100000 (by kernel_rfl) cr2
  · exact run_ok mix tb4s_ok 100000 (by kernel_rfl) cr3
  · exact run_ok mix tb4s_ok 100000 (by kernel_rfl) cr4
def natMeets : List AV → Option AV := natTab [([exBeds, .val (.int .i64 0), .val (.int .u8 1), .val (.int .i64 9)], (.tup [(.list 4 true [(.agg [(.val (.int .u8 2)), (.val (.int .i64 1)), (.val (.bool true)), (.val (.int .u8 0))]), (.agg [(.val (.int .u8 2)), (.val (.int .i64 0)), (.val (.bool true)), (.val (.int .u8 0))])]), (.val (.int .i64 0))])), ([exBeds, .val (.int .i64 0), .val (.int .u8 1), .val (.int .i64 11)], (.tup [(.list 4 true [(.agg [(.val (.int .u8 2)), (.val (.int .i64 1)), (.val (.bool true)), (.val (.int .u8 0))]), (.agg [(.val (.int .u8 2)), (.val (.int .i64 0)), (.val (.bool true)), (.val (.int .u8 0))])]), (.val (.int .i64 0))])), ([exBeds, .val (.int .i64 0), .val (.int .u8 1), .val (.int .i64 13)], (.tup [(.val (.slice none 0 0)), (.val (.int .i64 0))]))]
theorem natMeets_ok : ∀ (args : List AV) (r : AV), natMeets args = some r → PureA Try.prog 12 args r := natTab_ok fun p hp => by
  simp only [List.mem_cons, List.not_mem_nil, or_false] at hp
  rcases hp with rfl | rfl | rfl
  · exact run_ok mix tb4s_ok 100000 (by kernel_rfl) cr5
  · exact run_ok mix tb4s_ok 100000 (by kernel_rfl) cr6
  · exact run_ok mix tb4s_ok 100000 (by kernel_rfl) cr7
def tb4 : List (FuncId × Fe) := [(10, .code c10 [.tmp 0] 0),
  (27, .code c27 [.cell true 2 0] 0),
  (11, .nat natList),
  (9, .nat natStep),
  (29, .code c29 [.tmp 2] 1),
  (28, .code c28 [.tmp 2] 1),
  (15, .code c15 [.tmp 6] 3),
  (16, .code c16 [.tmp 2] 1),
  (12, .nat natMeets),
  (40, .code c40 [] 1),
  (32, .code c32 [.tmp 2] 1)]
theorem tb4_ok : TabOK' Try.prog (lookT tb4) := lookT_ok fun p hp => by
  simp only [tb4, List.mem_cons, List.not_mem_nil, or_false] at hp
  rcases hp with rfl | rfl | rfl | rfl | rfl | rfl | rfl | rfl | rfl | rfl | rfl
  · exact ⟨k10, by kernel_rfl⟩
  · exact ⟨k27, by kernel_rfl⟩
  · exact natList_ok
  · exact natStep_ok
  · exact ⟨k29, by kernel_rfl⟩
  · exact ⟨k28, by kernel_rfl⟩
  · exact ⟨k15, by kernel_rfl⟩
  · exact ⟨k16, by kernel_rfl⟩
  · exact natMeets_ok
  · exact ⟨k40, by kernel_rfl⟩
  · exact ⟨k32, by kernel_rfl⟩

theorem lives4_run : pureWith (lookT tb4) (cmdR (lookT tb4) 100000) 10 [] ⟨.em, 0⟩ = some (.val (.bool true)) := by kernel_rfl
theorem lives4_ok : PureA Try.prog 10 [] (.val (.bool true)) := run_ok mix tb4_ok 100000 rfl lives4_run
end Go.Proofs.Ytlpngkeegjickab
