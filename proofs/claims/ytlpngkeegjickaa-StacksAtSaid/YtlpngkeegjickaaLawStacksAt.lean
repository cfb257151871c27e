/- The law StacksAt of the given program: for every input the call returns true, and its arguments read as before. Here: contracts of functions, and the law. -/
import Derived.Test.YtlpngkeegjickaaLawStacksAtP3
set_option linter.unusedSimpArgs false
set_option linter.unusedVariables false
namespace Go.Proofs.Ytlpngkeegjickaa
open Go.Ab
attribute [local irreducible] WeakR WeakE CallA YieldA

def env3b (q5 q7 q8 q10 many found i k : Nat) : Env := (((((((Env.upd (fun _ => .junk) 13 (.val (.int .i64 k))).upd 12 (.val (.int .i64 i))).upd 11 (.val (.int .i64 found))).upd 10 (.optr q10 2 0 0)).upd 9 (.val (.int .i64 many))).upd 8 (.optr q8 2 0 0)).upd 7 (.optr q7 80 0 0)).upd 5 (.optr q5 2 0 0)
def env3 (q5 q7 q8 q10 many found i : Nat) : Env := ((((((Env.upd (fun _ => .junk) 12 (.val (.int .i64 i))).upd 11 (.val (.int .i64 found))).upd 10 (.optr q10 2 0 0)).upd 9 (.val (.int .i64 many))).upd 8 (.optr q8 2 0 0)).upd 7 (.optr q7 80 0 0)).upd 5 (.optr q5 2 0 0)

set_option maxHeartbeats 8000000 in
theorem StacksAt_ok (s : AV) (P : List Put) (n : Ndl) (p : Id) (hs : IsL 2 s (P.map Put.av)) (hP : ∀ p ∈ P, p.ok) :
    PureA Try.prog 3 [s, n.av, p.av] (.val (.bool true)) := by
  intro O
  have hof := of_ok s P hs hP
  have hTo := Of_tab_ok P
  have hTn := (ofN_ok P).2
  generalize ofL P = T at hof hTo
  have hle : ∀ l ∈ T, l.length ≤ 1000 := fun l hl => by have := hTo.le l hl; omega
  have hbd := beds_ok T hTo.len hle
  have hBe := beds_is hle
  have hck := hBe.check
  rw [check_beds hTo (by omega)] at hck
  have hdf := hBe.differs (tabA_is hTo)
  replace hdf : PureA Try.prog 12 [.agg (tabA T), .agg [bedA (bedsF T), bedA (bedsB T)]] (.val (.int .i64 0)) := by rw [differs_beds] at hdf; exact hdf
  obtain ⟨r, hat, hrT⟩ := hBe.at_ n
  have hrl := hrT.isL.len
  rw [List.length_map] at hrl
  have hfd := hBe.find p
  obtain ⟨f1, f2⟩ := find_law hTo p
  rw [f1, f2] at hfd
  have hcn := hBe.count
  rw [names_beds hTo.len] at hcn
  have htl : (tabA T).length = 80 := by simp [tabA, hTo.len]
  have htk : (tabA T).take 80 = tabA T := List.take_of_length_le (by omega)
  have hget := fun i (hi : i < T.length) => tabA_get T i hi
  have c1 := (bedA_is (bedsF T)).2.isL.cells
  have c2 := (bedA_is (bedsB T)).2.isL.cells
  have s1 := (bedA_is (bedsF T)).2.isL.stor
  have s2 := (bedA_is (bedsB T)).2.isL.stor
  generalize bedA (bedsF T) = bf at *
  generalize bedA (bedsB T) = bb at *
  replace hget := (show Aside _ from hget)
  obtain ⟨W, hW⟩ : ∃ W, wh T p 80 = W := ⟨_, rfl⟩
  rw [hW] at hfd
  replace hW := (show Aside _ from hW)
  generalize tabA T = ts at *
  rw [show n.av = .agg [.val (.int .u8 n.bed), .val (.int .i64 n.at_)] from rfl] at hat ⊢
  rw [show p.av = .agg [.val (.int .u8 p.y), .val (.int .i64 p.n)] from rfl] at hfd ⊢
  rw [show W.av = .agg [.val (.int .u8 W.bed), .val (.int .i64 W.at_)] from rfl] at hfd
  clear hBe hrT f1 f2 hle
  replace hTo := (show Aside _ from hTo)
  refine k3.call mix ?_
  unfold c3
  refine seq_go ?_
  (repeat' first
    | simp (contextual := true) (maxSteps := 4000000) only [fwc, fwe, opsW_gpure, drawW_pure, drawW_gpure, Env.upd_apply, Heap.upd_same, Heap.upd_apply, ite_none, List.getD_cons_zero, List.getD_cons_succ, List.getD_nil, List.length_cons, List.length_nil, List.map_cons, List.map_nil, List.getElem?_cons_zero, List.getElem?_cons_succ, List.getElem?_nil, List.set_cons_zero, List.set_cons_succ, List.take_succ_cons, List.take_zero, List.drop_succ_cons, List.drop_zero, List.nil_append, List.cons_append, List.append_nil, Option.map_some, Option.map_none, Option.bind_some, Option.bind_none, reduceIte, ↓reduceIte, decide_true, decide_false, Bool.true_and, Bool.and_true, Bool.false_and, Bool.and_false, true_and, and_true, and_self, Nat.reduceAdd, Nat.reduceLeDiff, Nat.reduceEqDiff, Nat.zero_add, Nat.add_zero, Nat.le_refl, Nat.zero_le, ge_iff_le, Nat.reduceLT, Nat.zero_lt_succ, Nat.reduceSub, if_true, if_false, forall_const, reduceCtorEq, Bool.not_true, Bool.not_false, Bool.false_eq_true, Int.reduceEq, Int.reduceLT, Int.reduceLE, Int.reduceNeg, Int.reduceToNat, Int.reduceAdd, Int.reduceSub, Nat.reduceMul, Nat.reduceEqDiff, gW_un, gcF_un, gcA_un, ci_mkmap, ci_mapset, ci_lookup, ci_maxl, ci_appz, pi_lookup, pi_maxl, pu_lookup, pu_maxl, maxl_nil, maxl_one, maxl_cons, cells_mapr, stor_mapr, callv_yld, mm_max, mm_min, putAll_cons, putAll_nil, asgK_normal, roundK_normal, roundK_ret, roundK_exit, part_cell, part_agg, *]
    | (refine retK_now ?_)
    | (refine retK_now' ?_)
    | (intro q hq)
    | (refine cond_intro (fun hc => ?_) (fun hc => ?_)))
  refine seqK_now ?_
  refine seq_go ?_
  (repeat' first
    | simp (contextual := true) (maxSteps := 4000000) only [fwc, fwe, opsW_gpure, drawW_pure, drawW_gpure, Env.upd_apply, Heap.upd_same, Heap.upd_apply, ite_none, List.getD_cons_zero, List.getD_cons_succ, List.getD_nil, List.length_cons, List.length_nil, List.map_cons, List.map_nil, List.getElem?_cons_zero, List.getElem?_cons_succ, List.getElem?_nil, List.set_cons_zero, List.set_cons_succ, List.take_succ_cons, List.take_zero, List.drop_succ_cons, List.drop_zero, List.nil_append, List.cons_append, List.append_nil, Option.map_some, Option.map_none, Option.bind_some, Option.bind_none, reduceIte, ↓reduceIte, decide_true, decide_false, Bool.true_and, Bool.and_true, Bool.false_and, Bool.and_false, true_and, and_true, and_self, Nat.reduceAdd, Nat.reduceLeDiff, Nat.reduceEqDiff, Nat.zero_add, Nat.add_zero, Nat.le_refl, Nat.zero_le, ge_iff_le, Nat.reduceLT, Nat.zero_lt_succ, Nat.reduceSub, if_true, if_false, forall_const, reduceCtorEq, Bool.not_true, Bool.not_false, Bool.false_eq_true, Int.reduceEq, Int.reduceLT, Int.reduceLE, Int.reduceNeg, Int.reduceToNat, Int.reduceAdd, Int.reduceSub, Nat.reduceMul, Nat.reduceEqDiff, gW_un, gcF_un, gcA_un, ci_mkmap, ci_mapset, ci_lookup, ci_maxl, ci_appz, pi_lookup, pi_maxl, pu_lookup, pu_maxl, maxl_nil, maxl_one, maxl_cons, cells_mapr, stor_mapr, callv_yld, mm_max, mm_min, putAll_cons, putAll_nil, asgK_normal, roundK_normal, roundK_ret, roundK_exit, part_cell, part_agg, *]
    | (refine retK_now ?_)
    | (refine retK_now' ?_)
    | (intro q hq)
    | (refine cond_intro (fun hc => ?_) (fun hc => ?_)))
  refine hof.use ?_
  clear hof
  (repeat' first
    | simp (contextual := true) (maxSteps := 4000000) only [fwc, fwe, opsW_gpure, drawW_pure, drawW_gpure, Env.upd_apply, Heap.upd_same, Heap.upd_apply, ite_none, List.getD_cons_zero, List.getD_cons_succ, List.getD_nil, List.length_cons, List.length_nil, List.map_cons, List.map_nil, List.getElem?_cons_zero, List.getElem?_cons_succ, List.getElem?_nil, List.set_cons_zero, List.set_cons_succ, List.take_succ_cons, List.take_zero, List.drop_succ_cons, List.drop_zero, List.nil_append, List.cons_append, List.append_nil, Option.map_some, Option.map_none, Option.bind_some, Option.bind_none, reduceIte, ↓reduceIte, decide_true, decide_false, Bool.true_and, Bool.and_true, Bool.false_and, Bool.and_false, true_and, and_true, and_self, Nat.reduceAdd, Nat.reduceLeDiff, Nat.reduceEqDiff, Nat.zero_add, Nat.add_zero, Nat.le_refl, Nat.zero_le, ge_iff_le, Nat.reduceLT, Nat.zero_lt_succ, Nat.reduceSub, if_true, if_false, forall_const, reduceCtorEq, Bool.not_true, Bool.not_false, Bool.false_eq_true, Int.reduceEq, Int.reduceLT, Int.reduceLE, Int.reduceNeg, Int.reduceToNat, Int.reduceAdd, Int.reduceSub, Nat.reduceMul, Nat.reduceEqDiff, gW_un, gcF_un, gcA_un, ci_mkmap, ci_mapset, ci_lookup, ci_maxl, ci_appz, pi_lookup, pi_maxl, pu_lookup, pu_maxl, maxl_nil, maxl_one, maxl_cons, cells_mapr, stor_mapr, callv_yld, mm_max, mm_min, putAll_cons, putAll_nil, asgK_normal, roundK_normal, roundK_ret, roundK_exit, part_cell, part_agg, *]
    | (refine retK_now ?_)
    | (refine retK_now' ?_)
    | (intro q hq)
    | (refine cond_intro (fun hc => ?_) (fun hc => ?_)))
  refine seqK_now ?_
  refine seq_go ?_
  (repeat' first
    | simp (contextual := true) (maxSteps := 4000000) only [fwc, fwe, opsW_gpure, drawW_pure, drawW_gpure, Env.upd_apply, Heap.upd_same, Heap.upd_apply, ite_none, List.getD_cons_zero, List.getD_cons_succ, List.getD_nil, List.length_cons, List.length_nil, List.map_cons, List.map_nil, List.getElem?_cons_zero, List.getElem?_cons_succ, List.getElem?_nil, List.set_cons_zero, List.set_cons_succ, List.take_succ_cons, List.take_zero, List.drop_succ_cons, List.drop_zero, List.nil_append, List.cons_append, List.append_nil, Option.map_some, Option.map_none, Option.bind_some, Option.bind_none, reduceIte, ↓reduceIte, decide_true, decide_false, Bool.true_and, Bool.and_true, Bool.false_and, Bool.and_false, true_and, and_true, and_self, Nat.reduceAdd, Nat.reduceLeDiff, Nat.reduceEqDiff, Nat.zero_add, Nat.add_zero, Nat.le_refl, Nat.zero_le, ge_iff_le, Nat.reduceLT, Nat.zero_lt_succ, Nat.reduceSub, if_true, if_false, forall_const, reduceCtorEq, Bool.not_true, Bool.not_false, Bool.false_eq_true, Int.reduceEq, Int.reduceLT, Int.reduceLE, Int.reduceNeg, Int.reduceToNat, Int.reduceAdd, Int.reduceSub, Nat.reduceMul, Nat.reduceEqDiff, gW_un, gcF_un, gcA_un, ci_mkmap, ci_mapset, ci_lookup, ci_maxl, ci_appz, pi_lookup, pi_maxl, pu_lookup, pu_maxl, maxl_nil, maxl_one, maxl_cons, cells_mapr, stor_mapr, callv_yld, mm_max, mm_min, putAll_cons, putAll_nil, asgK_normal, roundK_normal, roundK_ret, roundK_exit, part_cell, part_agg, *]
    | (refine retK_now ?_)
    | (refine retK_now' ?_)
    | (intro q hq)
    | (refine cond_intro (fun hc => ?_) (fun hc => ?_)))
  refine hbd.use ?_
  clear hbd
  (repeat' first
    | simp (contextual := true) (maxSteps := 4000000) only [fwc, fwe, opsW_gpure, drawW_pure, drawW_gpure, Env.upd_apply, Heap.upd_same, Heap.upd_apply, ite_none, List.getD_cons_zero, List.getD_cons_succ, List.getD_nil, List.length_cons, List.length_nil, List.map_cons, List.map_nil, List.getElem?_cons_zero, List.getElem?_cons_succ, List.getElem?_nil, List.set_cons_zero, List.set_cons_succ, List.take_succ_cons, List.take_zero, List.drop_succ_cons, List.drop_zero, List.nil_append, List.cons_append, List.append_nil, Option.map_some, Option.map_none, Option.bind_some, Option.bind_none, reduceIte, ↓reduceIte, decide_true, decide_false, Bool.true_and, Bool.and_true, Bool.false_and, Bool.and_false, true_and, and_true, and_self, Nat.reduceAdd, Nat.reduceLeDiff, Nat.reduceEqDiff, Nat.zero_add, Nat.add_zero, Nat.le_refl, Nat.zero_le, ge_iff_le, Nat.reduceLT, Nat.zero_lt_succ, Nat.reduceSub, if_true, if_false, forall_const, reduceCtorEq, Bool.not_true, Bool.not_false, Bool.false_eq_true, Int.reduceEq, Int.reduceLT, Int.reduceLE, Int.reduceNeg, Int.reduceToNat, Int.reduceAdd, Int.reduceSub, Nat.reduceMul, Nat.reduceEqDiff, gW_un, gcF_un, gcA_un, ci_mkmap, ci_mapset, ci_lookup, ci_maxl, ci_appz, pi_lookup, pi_maxl, pu_lookup, pu_maxl, maxl_nil, maxl_one, maxl_cons, cells_mapr, stor_mapr, callv_yld, mm_max, mm_min, putAll_cons, putAll_nil, asgK_normal, roundK_normal, roundK_ret, roundK_exit, part_cell, part_agg, *]
    | (refine retK_now ?_)
    | (refine retK_now' ?_)
    | (intro q hq)
    | (refine cond_intro (fun hc => ?_) (fun hc => ?_)))
  refine seqK_now ?_
  refine seq_go ?_
  refine seq_go ?_
  (repeat' first
    | simp (contextual := true) (maxSteps := 4000000) only [fwc, fwe, opsW_gpure, drawW_pure, drawW_gpure, Env.upd_apply, Heap.upd_same, Heap.upd_apply, ite_none, List.getD_cons_zero, List.getD_cons_succ, List.getD_nil, List.length_cons, List.length_nil, List.map_cons, List.map_nil, List.getElem?_cons_zero, List.getElem?_cons_succ, List.getElem?_nil, List.set_cons_zero, List.set_cons_succ, List.take_succ_cons, List.take_zero, List.drop_succ_cons, List.drop_zero, List.nil_append, List.cons_append, List.append_nil, Option.map_some, Option.map_none, Option.bind_some, Option.bind_none, reduceIte, ↓reduceIte, decide_true, decide_false, Bool.true_and, Bool.and_true, Bool.false_and, Bool.and_false, true_and, and_true, and_self, Nat.reduceAdd, Nat.reduceLeDiff, Nat.reduceEqDiff, Nat.zero_add, Nat.add_zero, Nat.le_refl, Nat.zero_le, ge_iff_le, Nat.reduceLT, Nat.zero_lt_succ, Nat.reduceSub, if_true, if_false, forall_const, reduceCtorEq, Bool.not_true, Bool.not_false, Bool.false_eq_true, Int.reduceEq, Int.reduceLT, Int.reduceLE, Int.reduceNeg, Int.reduceToNat, Int.reduceAdd, Int.reduceSub, Nat.reduceMul, Nat.reduceEqDiff, gW_un, gcF_un, gcA_un, ci_mkmap, ci_mapset, ci_lookup, ci_maxl, ci_appz, pi_lookup, pi_maxl, pu_lookup, pu_maxl, maxl_nil, maxl_one, maxl_cons, cells_mapr, stor_mapr, callv_yld, mm_max, mm_min, putAll_cons, putAll_nil, asgK_normal, roundK_normal, roundK_ret, roundK_exit, part_cell, part_agg, *]
    | (refine retK_now ?_)
    | (refine retK_now' ?_)
    | (intro q hq)
    | (refine cond_intro (fun hc => ?_) (fun hc => ?_)))
  refine hck.use ?_
  clear hck
  (repeat' first
    | simp (contextual := true) (maxSteps := 4000000) only [fwc, fwe, opsW_gpure, drawW_pure, drawW_gpure, Env.upd_apply, Heap.upd_same, Heap.upd_apply, ite_none, List.getD_cons_zero, List.getD_cons_succ, List.getD_nil, List.length_cons, List.length_nil, List.map_cons, List.map_nil, List.getElem?_cons_zero, List.getElem?_cons_succ, List.getElem?_nil, List.set_cons_zero, List.set_cons_succ, List.take_succ_cons, List.take_zero, List.drop_succ_cons, List.drop_zero, List.nil_append, List.cons_append, List.append_nil, Option.map_some, Option.map_none, Option.bind_some, Option.bind_none, reduceIte, ↓reduceIte, decide_true, decide_false, Bool.true_and, Bool.and_true, Bool.false_and, Bool.and_false, true_and, and_true, and_self, Nat.reduceAdd, Nat.reduceLeDiff, Nat.reduceEqDiff, Nat.zero_add, Nat.add_zero, Nat.le_refl, Nat.zero_le, ge_iff_le, Nat.reduceLT, Nat.zero_lt_succ, Nat.reduceSub, if_true, if_false, forall_const, reduceCtorEq, Bool.not_true, Bool.not_false, Bool.false_eq_true, Int.reduceEq, Int.reduceLT, Int.reduceLE, Int.reduceNeg, Int.reduceToNat, Int.reduceAdd, Int.reduceSub, Nat.reduceMul, Nat.reduceEqDiff, gW_un, gcF_un, gcA_un, ci_mkmap, ci_mapset, ci_lookup, ci_maxl, ci_appz, pi_lookup, pi_maxl, pu_lookup, pu_maxl, maxl_nil, maxl_one, maxl_cons, cells_mapr, stor_mapr, callv_yld, mm_max, mm_min, putAll_cons, putAll_nil, asgK_normal, roundK_normal, roundK_ret, roundK_exit, part_cell, part_agg, *]
    | (refine retK_now ?_)
    | (refine retK_now' ?_)
    | (intro q hq)
    | (refine cond_intro (fun hc => ?_) (fun hc => ?_)))
  refine hdf.use ?_
  clear hdf
  (repeat' first
    | simp (contextual := true) (maxSteps := 4000000) only [fwc, fwe, opsW_gpure, drawW_pure, drawW_gpure, Env.upd_apply, Heap.upd_same, Heap.upd_apply, ite_none, List.getD_cons_zero, List.getD_cons_succ, List.getD_nil, List.length_cons, List.length_nil, List.map_cons, List.map_nil, List.getElem?_cons_zero, List.getElem?_cons_succ, List.getElem?_nil, List.set_cons_zero, List.set_cons_succ, List.take_succ_cons, List.take_zero, List.drop_succ_cons, List.drop_zero, List.nil_append, List.cons_append, List.append_nil, Option.map_some, Option.map_none, Option.bind_some, Option.bind_none, reduceIte, ↓reduceIte, decide_true, decide_false, Bool.true_and, Bool.and_true, Bool.false_and, Bool.and_false, true_and, and_true, and_self, Nat.reduceAdd, Nat.reduceLeDiff, Nat.reduceEqDiff, Nat.zero_add, Nat.add_zero, Nat.le_refl, Nat.zero_le, ge_iff_le, Nat.reduceLT, Nat.zero_lt_succ, Nat.reduceSub, if_true, if_false, forall_const, reduceCtorEq, Bool.not_true, Bool.not_false, Bool.false_eq_true, Int.reduceEq, Int.reduceLT, Int.reduceLE, Int.reduceNeg, Int.reduceToNat, Int.reduceAdd, Int.reduceSub, Nat.reduceMul, Nat.reduceEqDiff, gW_un, gcF_un, gcA_un, ci_mkmap, ci_mapset, ci_lookup, ci_maxl, ci_appz, pi_lookup, pi_maxl, pu_lookup, pu_maxl, maxl_nil, maxl_one, maxl_cons, cells_mapr, stor_mapr, callv_yld, mm_max, mm_min, putAll_cons, putAll_nil, asgK_normal, roundK_normal, roundK_ret, roundK_exit, part_cell, part_agg, *]
    | (refine retK_now ?_)
    | (refine retK_now' ?_)
    | (intro q hq)
    | (refine cond_intro (fun hc => ?_) (fun hc => ?_)))
  refine seqK_now ?_
  (repeat' first
    | simp (contextual := true) (maxSteps := 4000000) only [fwc, fwe, opsW_gpure, drawW_pure, drawW_gpure, Env.upd_apply, Heap.upd_same, Heap.upd_apply, ite_none, List.getD_cons_zero, List.getD_cons_succ, List.getD_nil, List.length_cons, List.length_nil, List.map_cons, List.map_nil, List.getElem?_cons_zero, List.getElem?_cons_succ, List.getElem?_nil, List.set_cons_zero, List.set_cons_succ, List.take_succ_cons, List.take_zero, List.drop_succ_cons, List.drop_zero, List.nil_append, List.cons_append, List.append_nil, Option.map_some, Option.map_none, Option.bind_some, Option.bind_none, reduceIte, ↓reduceIte, decide_true, decide_false, Bool.true_and, Bool.and_true, Bool.false_and, Bool.and_false, true_and, and_true, and_self, Nat.reduceAdd, Nat.reduceLeDiff, Nat.reduceEqDiff, Nat.zero_add, Nat.add_zero, Nat.le_refl, Nat.zero_le, ge_iff_le, Nat.reduceLT, Nat.zero_lt_succ, Nat.reduceSub, if_true, if_false, forall_const, reduceCtorEq, Bool.not_true, Bool.not_false, Bool.false_eq_true, Int.reduceEq, Int.reduceLT, Int.reduceLE, Int.reduceNeg, Int.reduceToNat, Int.reduceAdd, Int.reduceSub, Nat.reduceMul, Nat.reduceEqDiff, gW_un, gcF_un, gcA_un, ci_mkmap, ci_mapset, ci_lookup, ci_maxl, ci_appz, pi_lookup, pi_maxl, pu_lookup, pu_maxl, maxl_nil, maxl_one, maxl_cons, cells_mapr, stor_mapr, callv_yld, mm_max, mm_min, putAll_cons, putAll_nil, asgK_normal, roundK_normal, roundK_ret, roundK_exit, part_cell, part_agg, *]
    | (refine retK_now ?_)
    | (refine retK_now' ?_)
    | (intro q hq)
    | (refine cond_intro (fun hc => ?_) (fun hc => ?_)))
  refine seqK_now ?_
  have hbadE : n.bad = true → lenA r = some (.val (.int .i64 0)) := fun h => by
    have : atL (bedsF T) (bedsB T) n = [] := by unfold atL; rw [if_pos h]
    rw [this] at hrl
    exact hrl
  clear hrl
  replace hbadE := (show Aside _ from hbadE)
  rename_i q4 hq4 q5 hq5 q7 hq7
  revert q
  intro q8 hq8
  refine seq_post (fun e1 O1 => O1 = (((O.upd q4 (.arr 26 2 [.agg [.val (.int .u8 n.bed), .val (.int .i64 n.at_)]])).upd q5 (.arr 28 2 [.agg [.val (.int .u8 p.y), .val (.int .i64 p.n)]])).upd q7 (.arr 31 80 [.agg ts])).upd q8 (.arr 35 2 [.agg [bf, bb]]) ∧ e1 = (((Env.upd (fun _ => .junk) 8 (.optr q8 2 0 0)).upd 7 (.optr q7 80 0 0)).upd 5 (.optr q5 2 0 0))) ?_ ?_
  · intro e1 O1 hQ
    obtain ⟨rfl, rfl⟩ := hQ
    clear hat
    refine cmd_gen (fun H => O.sub H ∧ H q5 = some (.arr 28 2 [.agg [.val (.int .u8 p.y), .val (.int .i64 p.n)]]) ∧ H q7 = some (.arr 31 80 [.agg ts]) ∧ H q8 = some (.arr 35 2 [.agg [bf, bb]])) ⟨sub_upd (by simp [*]) (sub_upd (by simp [*]) (sub_upd (by simp [*]) (sub_upd hq4 (Heap.sub_refl _)))), by simp only [Heap.upd_apply, *, if_true, if_false], by simp only [Heap.upd_apply, *, if_true, if_false], by simp only [Heap.upd_apply, *, if_true, if_false]⟩ ?_
    clear hq4 hq5 hq7 hq8
    intro H hF
    obtain ⟨s0, f5, f7, f8⟩ := hF
    replace s0 := (show Aside _ from s0)
    refine seq_go ?_
    (repeat' first
    | simp (contextual := true) (maxSteps := 4000000) only [fwc, fwe, opsW_gpure, drawW_pure, drawW_gpure, Env.upd_apply, Heap.upd_same, Heap.upd_apply, ite_none, List.getD_cons_zero, List.getD_cons_succ, List.getD_nil, List.length_cons, List.length_nil, List.map_cons, List.map_nil, List.getElem?_cons_zero, List.getElem?_cons_succ, List.getElem?_nil, List.set_cons_zero, List.set_cons_succ, List.take_succ_cons, List.take_zero, List.drop_succ_cons, List.drop_zero, List.nil_append, List.cons_append, List.append_nil, Option.map_some, Option.map_none, Option.bind_some, Option.bind_none, reduceIte, ↓reduceIte, decide_true, decide_false, Bool.true_and, Bool.and_true, Bool.false_and, Bool.and_false, true_and, and_true, and_self, Nat.reduceAdd, Nat.reduceLeDiff, Nat.reduceEqDiff, Nat.zero_add, Nat.add_zero, Nat.le_refl, Nat.zero_le, ge_iff_le, Nat.reduceLT, Nat.zero_lt_succ, Nat.reduceSub, if_true, if_false, forall_const, reduceCtorEq, Bool.not_true, Bool.not_false, Bool.false_eq_true, Int.reduceEq, Int.reduceLT, Int.reduceLE, Int.reduceNeg, Int.reduceToNat, Int.reduceAdd, Int.reduceSub, Nat.reduceMul, Nat.reduceEqDiff, gW_un, gcF_un, gcA_un, ci_mkmap, ci_mapset, ci_lookup, ci_maxl, ci_appz, pi_lookup, pi_maxl, pu_lookup, pu_maxl, maxl_nil, maxl_one, maxl_cons, cells_mapr, stor_mapr, callv_yld, mm_max, mm_min, putAll_cons, putAll_nil, asgK_normal, roundK_normal, roundK_ret, roundK_exit, *]
    | (refine retK_now ?_)
    | (refine retK_now' ?_)
    | (intro q hq)
    | (refine cond_intro (fun hc => ?_) (fun hc => ?_)))
    refine seqK_now ?_
    refine seq_go ?_
    (repeat' first
    | simp (contextual := true) (maxSteps := 4000000) only [fwc, fwe, opsW_gpure, drawW_pure, drawW_gpure, Env.upd_apply, Heap.upd_same, Heap.upd_apply, ite_none, List.getD_cons_zero, List.getD_cons_succ, List.getD_nil, List.length_cons, List.length_nil, List.map_cons, List.map_nil, List.getElem?_cons_zero, List.getElem?_cons_succ, List.getElem?_nil, List.set_cons_zero, List.set_cons_succ, List.take_succ_cons, List.take_zero, List.drop_succ_cons, List.drop_zero, List.nil_append, List.cons_append, List.append_nil, Option.map_some, Option.map_none, Option.bind_some, Option.bind_none, reduceIte, ↓reduceIte, decide_true, decide_false, Bool.true_and, Bool.and_true, Bool.false_and, Bool.and_false, true_and, and_true, and_self, Nat.reduceAdd, Nat.reduceLeDiff, Nat.reduceEqDiff, Nat.zero_add, Nat.add_zero, Nat.le_refl, Nat.zero_le, ge_iff_le, Nat.reduceLT, Nat.zero_lt_succ, Nat.reduceSub, if_true, if_false, forall_const, reduceCtorEq, Bool.not_true, Bool.not_false, Bool.false_eq_true, Int.reduceEq, Int.reduceLT, Int.reduceLE, Int.reduceNeg, Int.reduceToNat, Int.reduceAdd, Int.reduceSub, Nat.reduceMul, Nat.reduceEqDiff, gW_un, gcF_un, gcA_un, ci_mkmap, ci_mapset, ci_lookup, ci_maxl, ci_appz, pi_lookup, pi_maxl, pu_lookup, pu_maxl, maxl_nil, maxl_one, maxl_cons, cells_mapr, stor_mapr, callv_yld, mm_max, mm_min, putAll_cons, putAll_nil, asgK_normal, roundK_normal, roundK_ret, roundK_exit, *]
    | (refine retK_now ?_)
    | (refine retK_now' ?_)
    | (intro q hq)
    | (refine cond_intro (fun hc => ?_) (fun hc => ?_)))
    revert q
    intro q10 hq10
    refine seqK_now ?_
    have g0 := sub_new s0.out hq10 (v := .arr 26 2 [.agg [.val (.int .u8 0), .val (.int .i64 0)]])
    have hO10 := none_of_sub s0.out hq10
    have g5 := upd_keep (v := .arr 26 2 [.agg [.val (.int .u8 0), .val (.int .i64 0)]]) hq10 f5
    have g7 := upd_keep (v := .arr 26 2 [.agg [.val (.int .u8 0), .val (.int .i64 0)]]) hq10 f7
    have g8 := upd_keep (v := .arr 26 2 [.agg [.val (.int .u8 0), .val (.int .i64 0)]]) hq10 f8
    have n5 := ne_of f5 hq10
    have n7 := ne_of f7 hq10
    have n8 := ne_of f8 hq10
    clear g0 g5 g7 g8
    replace hO10 := (show Aside _ from hO10)
    obtain ⟨I, hI⟩ := hideI (fun m e O' => ∃ i : Nat, i ≤ 80 ∧ m = 80 - i ∧ O' = H.upd q10 (.arr 26 2 [(wh T p i).av]) ∧ e = env3 q5 q7 q8 q10 ((T.take i).flatten.length) ((T.take i).flatten.count p) i)
    refine seq_go ?_
    (repeat' first
    | simp (contextual := true) (maxSteps := 4000000) only [fwc, fwe, opsW_gpure, drawW_pure, drawW_gpure, Env.upd_apply, Heap.upd_same, Heap.upd_apply, ite_none, List.getD_cons_zero, List.getD_cons_succ, List.getD_nil, List.length_cons, List.length_nil, List.map_cons, List.map_nil, List.getElem?_cons_zero, List.getElem?_cons_succ, List.getElem?_nil, List.set_cons_zero, List.set_cons_succ, List.take_succ_cons, List.take_zero, List.drop_succ_cons, List.drop_zero, List.nil_append, List.cons_append, List.append_nil, Option.map_some, Option.map_none, Option.bind_some, Option.bind_none, reduceIte, ↓reduceIte, decide_true, decide_false, Bool.true_and, Bool.and_true, Bool.false_and, Bool.and_false, true_and, and_true, and_self, Nat.reduceAdd, Nat.reduceLeDiff, Nat.reduceEqDiff, Nat.zero_add, Nat.add_zero, Nat.le_refl, Nat.zero_le, ge_iff_le, Nat.reduceLT, Nat.zero_lt_succ, Nat.reduceSub, if_true, if_false, forall_const, reduceCtorEq, Bool.not_true, Bool.not_false, Bool.false_eq_true, Int.reduceEq, Int.reduceLT, Int.reduceLE, Int.reduceNeg, Int.reduceToNat, Int.reduceAdd, Int.reduceSub, Nat.reduceMul, Nat.reduceEqDiff, gW_un, gcF_un, gcA_un, ci_mkmap, ci_mapset, ci_lookup, ci_maxl, ci_appz, pi_lookup, pi_maxl, pu_lookup, pu_maxl, maxl_nil, maxl_one, maxl_cons, cells_mapr, stor_mapr, callv_yld, mm_max, mm_min, putAll_cons, putAll_nil, asgK_normal, roundK_normal, roundK_ret, roundK_exit, part_cell, *]
    | (refine retK_now ?_)
    | (refine retK_now' ?_)
    | (intro q hq)
    | (refine cond_intro (fun hc => ?_) (fun hc => ?_)))
    refine seqK_now ?_
    refine seq_go ?_
    refine seq_go ?_
    (repeat' first
    | simp (contextual := true) (maxSteps := 4000000) only [fwc, fwe, opsW_gpure, drawW_pure, drawW_gpure, Env.upd_apply, Heap.upd_same, Heap.upd_apply, ite_none, List.getD_cons_zero, List.getD_cons_succ, List.getD_nil, List.length_cons, List.length_nil, List.map_cons, List.map_nil, List.getElem?_cons_zero, List.getElem?_cons_succ, List.getElem?_nil, List.set_cons_zero, List.set_cons_succ, List.take_succ_cons, List.take_zero, List.drop_succ_cons, List.drop_zero, List.nil_append, List.cons_append, List.append_nil, Option.map_some, Option.map_none, Option.bind_some, Option.bind_none, reduceIte, ↓reduceIte, decide_true, decide_false, Bool.true_and, Bool.and_true, Bool.false_and, Bool.and_false, true_and, and_true, and_self, Nat.reduceAdd, Nat.reduceLeDiff, Nat.reduceEqDiff, Nat.zero_add, Nat.add_zero, Nat.le_refl, Nat.zero_le, ge_iff_le, Nat.reduceLT, Nat.zero_lt_succ, Nat.reduceSub, if_true, if_false, forall_const, reduceCtorEq, Bool.not_true, Bool.not_false, Bool.false_eq_true, Int.reduceEq, Int.reduceLT, Int.reduceLE, Int.reduceNeg, Int.reduceToNat, Int.reduceAdd, Int.reduceSub, Nat.reduceMul, Nat.reduceEqDiff, gW_un, gcF_un, gcA_un, ci_mkmap, ci_mapset, ci_lookup, ci_maxl, ci_appz, pi_lookup, pi_maxl, pu_lookup, pu_maxl, maxl_nil, maxl_one, maxl_cons, cells_mapr, stor_mapr, callv_yld, mm_max, mm_min, putAll_cons, putAll_nil, asgK_normal, roundK_normal, roundK_ret, roundK_exit, part_cell, *]
    | (refine retK_now ?_)
    | (refine retK_now' ?_)
    | (intro q hq)
    | (refine cond_intro (fun hc => ?_) (fun hc => ?_)))
    refine seqK_now ?_
    (repeat' first
    | simp (contextual := true) (maxSteps := 4000000) only [fwc, fwe, opsW_gpure, drawW_pure, drawW_gpure, Env.upd_apply, Heap.upd_same, Heap.upd_apply, ite_none, List.getD_cons_zero, List.getD_cons_succ, List.getD_nil, List.length_cons, List.length_nil, List.map_cons, List.map_nil, List.getElem?_cons_zero, List.getElem?_cons_succ, List.getElem?_nil, List.set_cons_zero, List.set_cons_succ, List.take_succ_cons, List.take_zero, List.drop_succ_cons, List.drop_zero, List.nil_append, List.cons_append, List.append_nil, Option.map_some, Option.map_none, Option.bind_some, Option.bind_none, reduceIte, ↓reduceIte, decide_true, decide_false, Bool.true_and, Bool.and_true, Bool.false_and, Bool.and_false, true_and, and_true, and_self, Nat.reduceAdd, Nat.reduceLeDiff, Nat.reduceEqDiff, Nat.zero_add, Nat.add_zero, Nat.le_refl, Nat.zero_le, ge_iff_le, Nat.reduceLT, Nat.zero_lt_succ, Nat.reduceSub, if_true, if_false, forall_const, reduceCtorEq, Bool.not_true, Bool.not_false, Bool.false_eq_true, Int.reduceEq, Int.reduceLT, Int.reduceLE, Int.reduceNeg, Int.reduceToNat, Int.reduceAdd, Int.reduceSub, Nat.reduceMul, Nat.reduceEqDiff, gW_un, gcF_un, gcA_un, ci_mkmap, ci_mapset, ci_lookup, ci_maxl, ci_appz, pi_lookup, pi_maxl, pu_lookup, pu_maxl, maxl_nil, maxl_one, maxl_cons, cells_mapr, stor_mapr, callv_yld, mm_max, mm_min, putAll_cons, putAll_nil, asgK_normal, roundK_normal, roundK_ret, roundK_exit, part_cell, *]
    | (refine retK_now ?_)
    | (refine retK_now' ?_)
    | (intro q hq)
    | (refine cond_intro (fun hc => ?_) (fun hc => ?_)))
    refine cmd_loop I 80 (by
      rw [hI.out]
      exact ⟨0, by omega, rfl, rfl, rfl⟩) ?_
    intro m e O' hh
    rw [hI.out] at hh
    obtain ⟨i, hi80, rfl, rfl, rfl⟩ := hh
    unfold env3
    have d1 : decide ((i : Int) < 80) = decide (i < 80) := decide_eq_decide.2 (by omega)
    by_cases hi : i < 80
    · have e1 : decide (i < 80) = true := decide_eq_true hi
      have hiT : i < T.length := by rw [hTo.out.len]; exact hi
      have hgi := hget.out i hiT
      have hTi : T.getD i [] = T[i] := by rw [List.getD_eq_getElem?_getD, List.getElem?_eq_getElem hiT]; rfl
      have htf : (T.take (i + 1)).flatten = (T.take i).flatten ++ T[i] := take_flat T i hiT
      have hl4 : T[i].length ≤ 4 := hTo.out.le _ (List.getElem_mem hiT)
      have hM : (T.take i).flatten.length ≤ 80000 := by
        refine Nat.le_trans (flat_len (G := T.take i) (fun l hl => ?_)) ?_
        · have := hTo.out.le l (List.mem_of_mem_take hl); omega
        · have := List.length_take_le i T; omega
      have hC : (T.take i).flatten.count p ≤ (T.take i).flatten.length := List.count_le_length
      have hwh : wh T p (i + 1) = if p ∈ T[i] then needleL i else wh T p i := by rw [wh, hTi]
      have hfin : ∀ F : Prop, (((T.take (i + 1)).flatten.length = (T.take i).flatten.length + T[i].length ∧ (T.take (i + 1)).flatten.count p = (T.take i).flatten.count p + T[i].count p) → F) → F := fun F h => h ⟨by rw [htf, List.length_append], by rw [htf, List.count_append]⟩
      obtain ⟨fl, fc⟩ := hfin _ id
      clear hfin htf hTi
      generalize hM' : (T.take i).flatten.length = M at *
      generalize hC' : (T.take i).flatten.count p = C at *
      generalize hw' : wh T p i = w at *
      generalize hl' : T[i] = l at *
      clear hM' hC' hw' hl'
      replace fl := (show Aside _ from fl)
      replace fc := (show Aside _ from fc)
      replace hwh := (show Aside _ from hwh)
      have hx := frA_L 2 (l.map Id.av)
      have hxl := hx.len
      rw [List.length_map] at hxl
      have hxa := fun (k : Nat) (hk : k < l.length) => hx.ia (i := k) (by rw [List.length_map]; exact hk)
      have hxc := hx.cells
      have hxs := hx.stor
      generalize frA 2 (l.map Id.av) = x at *
      replace hxa := (show Aside _ from hxa)
      have hix : indexPtrA 80 1 false (i : Int) (.optr q7 80 0 0) = some (.optr q7 80 0 i) := by rw [ixp_optr, if_pos (by omega)]; simp
      have hle80 : i + 1 ≤ 80 := by omega
      have htl2 : i + 1 ≤ ts.length := by rw [htl]; omega
      have hwM : IntKind.i64.wrap ((M : Int) + (l.length : Int)) = ((M + l.length : Nat) : Int) := by rw [wrap_i64 (by omega) (by omega)]; omega
      have hwi : i < 4611686018427387904 := by omega
      have hNd := Needle_ok i (by omega)
      have hwu : IntKind.u8.wrap (i : Int) = (i : Int) := wrap_u8n (by omega)
      rw [show (needleL i).av = .agg [.val (.int .u8 (needleL i).bed), .val (.int .i64 (needleL i).at_)] from rfl] at hNd
      obtain ⟨J, hJ⟩ := hideI (fun m e O' => ∃ k : Nat, k ≤ l.length ∧ m = l.length - k ∧ O' = H.upd q10 (.arr 26 2 [(if p ∈ l.take k then needleL i else w).av]) ∧ e = env3b q5 q7 q8 q10 (M + l.length) (C + (l.take k).count p) i k)
      (repeat' first
    | simp (contextual := true) (maxSteps := 4000000) only [fwc, fwe, cmd_seq, opsW_gpure, drawW_pure, drawW_gpure, Env.upd_apply, Heap.upd_same, Heap.upd_apply, ite_none, List.getD_cons_zero, List.getD_cons_succ, List.getD_nil, List.length_cons, List.length_nil, List.map_cons, List.map_nil, List.getElem?_cons_zero, List.getElem?_cons_succ, List.getElem?_nil, List.set_cons_zero, List.set_cons_succ, List.take_succ_cons, List.take_zero, List.drop_succ_cons, List.drop_zero, List.nil_append, List.cons_append, List.append_nil, Option.map_some, Option.map_none, Option.bind_some, Option.bind_none, reduceIte, ↓reduceIte, decide_true, decide_false, Bool.true_and, Bool.and_true, Bool.false_and, Bool.and_false, true_and, and_true, and_self, Nat.reduceAdd, Nat.reduceLeDiff, Nat.reduceEqDiff, Nat.zero_add, Nat.add_zero, Nat.le_refl, Nat.zero_le, ge_iff_le, Nat.reduceLT, Nat.zero_lt_succ, Nat.reduceSub, if_true, if_false, forall_const, reduceCtorEq, Bool.not_true, Bool.not_false, Bool.false_eq_true, Int.reduceEq, Int.reduceLT, Int.reduceLE, Int.reduceNeg, Int.reduceToNat, Int.reduceAdd, Int.reduceSub, Nat.reduceMul, Nat.reduceEqDiff, gW_un, gcF_un, gcA_un, ci_mkmap, ci_mapset, ci_lookup, ci_maxl, ci_appz, pi_lookup, pi_maxl, pu_lookup, pu_maxl, maxl_nil, maxl_one, maxl_cons, cells_mapr, stor_mapr, callv_yld, mm_max, mm_min, putAll_cons, putAll_nil, asgK_normal, roundK_normal, roundK_ret, roundK_exit, part_cell, *]
    | (refine seqK_now ?_)
    | (refine retK_now ?_)
    | (refine retK_now' ?_)
    | (intro q hq)
    | (refine cond_intro (fun hc => ?_) (fun hc => ?_)))
      refine cmd_loop J l.length (by
        rw [hJ.out]
        exact ⟨0, by omega, rfl, by simp, rfl⟩) ?_
      intro m e O' hh
      rw [hJ.out] at hh
      obtain ⟨k, hk4, rfl, rfl, rfl⟩ := hh
      unfold env3b
      by_cases hk : k < l.length
      · have e2 : decide (k < l.length) = true := decide_eq_true hk
        have hia := hxa.out k hk
        rw [List.getElem_map] at hia
        have htk : l.take (k + 1) = l.take k ++ [l[k]] := by rw [List.take_add_one, List.getElem?_eq_getElem hk]; rfl
        have hC2 : (l.take k).count p ≤ (l.take k).length := List.count_le_length
        have hC3 : (l.take k).length ≤ k := List.length_take_le k l
        have hm : p ∈ l.take (k + 1) ↔ p ∈ l.take k ∨ p = l[k] := by rw [htk, List.mem_append, List.mem_singleton]
        have hc' : (l.take (k + 1)).count p = (l.take k).count p + if l[k] = p then 1 else 0 := by
          rw [htk, List.count_append, List.count_singleton]
          by_cases h : l[k] = p
          · simp [h]
          · simp [h]
        generalize hcc : (l.take k).count p = c at *
        clear hcc htk
        generalize l[k] = y at *
        rw [show y.av = .agg [.val (.int .u8 y.y), .val (.int .i64 y.n)] from rfl] at hia
        have hle := le_id y p
        have hwk : k < 4611686018427387904 := by omega
        have hwc : IntKind.i64.wrap (((C + c : Nat) : Int) + 1) = ((C + (c + 1) : Nat) : Int) := by rw [wrap_i64 (by omega) (by omega)]; omega
        obtain ⟨v, hv⟩ : ∃ v, (if p ∈ l.take k then needleL i else w) = v := ⟨_, rfl⟩
        rw [hv]
        rw [show v.av = .agg [.val (.int .u8 v.bed), .val (.int .i64 v.at_)] from rfl]
        replace hv := (show Aside _ from hv)
        by_cases hyp : y = p
        · have e3 : decide (y = p) = true := decide_eq_true hyp
          rw [if_pos hyp] at hc'
          replace hc' := (show Aside _ from hc')
          replace hm := (show Aside _ from hm)
          replace hyp := (show Aside _ from hyp)
          (repeat' first
    | simp (contextual := true) (maxSteps := 4000000) only [fwc, fwe, cmd_seq, opsW_gpure, drawW_pure, drawW_gpure, Env.upd_apply, Heap.upd_same, Heap.upd_apply, ite_none, List.getD_cons_zero, List.getD_cons_succ, List.getD_nil, List.length_cons, List.length_nil, List.map_cons, List.map_nil, List.getElem?_cons_zero, List.getElem?_cons_succ, List.getElem?_nil, List.set_cons_zero, List.set_cons_succ, List.take_succ_cons, List.take_zero, List.drop_succ_cons, List.drop_zero, List.nil_append, List.cons_append, List.append_nil, Option.map_some, Option.map_none, Option.bind_some, Option.bind_none, reduceIte, ↓reduceIte, decide_true, decide_false, Bool.true_and, Bool.and_true, Bool.false_and, Bool.and_false, true_and, and_true, and_self, Nat.reduceAdd, Nat.reduceLeDiff, Nat.reduceEqDiff, Nat.zero_add, Nat.add_zero, Nat.le_refl, Nat.zero_le, ge_iff_le, Nat.reduceLT, Nat.zero_lt_succ, Nat.reduceSub, if_true, if_false, forall_const, reduceCtorEq, Bool.not_true, Bool.not_false, Bool.false_eq_true, Int.reduceEq, Int.reduceLT, Int.reduceLE, Int.reduceNeg, Int.reduceToNat, Int.reduceAdd, Int.reduceSub, Nat.reduceMul, Nat.reduceEqDiff, gW_un, gcF_un, gcA_un, ci_mkmap, ci_mapset, ci_lookup, ci_maxl, ci_appz, pi_lookup, pi_maxl, pu_lookup, pu_maxl, maxl_nil, maxl_one, maxl_cons, cells_mapr, stor_mapr, callv_yld, mm_max, mm_min, putAll_cons, putAll_nil, asgK_normal, roundK_normal, roundK_ret, roundK_exit, ilt_nat, part_cell, part_agg, wrap_succ, *]
    | (refine seqK_now ?_)
    | (refine retK_now ?_)
    | (refine retK_now' ?_)
    | (intro q hq)
    | (refine cond_intro (fun hc => ?_) (fun hc => ?_)))
          refine hNd.use ?_
          (repeat' first
    | simp (contextual := true) (maxSteps := 4000000) only [fwc, fwe, cmd_seq, opsW_gpure, drawW_pure, drawW_gpure, Env.upd_apply, Heap.upd_same, Heap.upd_apply, ite_none, List.getD_cons_zero, List.getD_cons_succ, List.getD_nil, List.length_cons, List.length_nil, List.map_cons, List.map_nil, List.getElem?_cons_zero, List.getElem?_cons_succ, List.getElem?_nil, List.set_cons_zero, List.set_cons_succ, List.take_succ_cons, List.take_zero, List.drop_succ_cons, List.drop_zero, List.nil_append, List.cons_append, List.append_nil, Option.map_some, Option.map_none, Option.bind_some, Option.bind_none, reduceIte, ↓reduceIte, decide_true, decide_false, Bool.true_and, Bool.and_true, Bool.false_and, Bool.and_false, true_and, and_true, and_self, Nat.reduceAdd, Nat.reduceLeDiff, Nat.reduceEqDiff, Nat.zero_add, Nat.add_zero, Nat.le_refl, Nat.zero_le, ge_iff_le, Nat.reduceLT, Nat.zero_lt_succ, Nat.reduceSub, if_true, if_false, forall_const, reduceCtorEq, Bool.not_true, Bool.not_false, Bool.false_eq_true, Int.reduceEq, Int.reduceLT, Int.reduceLE, Int.reduceNeg, Int.reduceToNat, Int.reduceAdd, Int.reduceSub, Nat.reduceMul, Nat.reduceEqDiff, gW_un, gcF_un, gcA_un, ci_mkmap, ci_mapset, ci_lookup, ci_maxl, ci_appz, pi_lookup, pi_maxl, pu_lookup, pu_maxl, maxl_nil, maxl_one, maxl_cons, cells_mapr, stor_mapr, callv_yld, mm_max, mm_min, putAll_cons, putAll_nil, asgK_normal, roundK_normal, roundK_ret, roundK_exit, ilt_nat, part_cell, part_agg, wrap_succ, *]
    | (refine seqK_now ?_)
    | (refine retK_now ?_)
    | (refine retK_now' ?_)
    | (intro q hq)
    | (refine cond_intro (fun hc => ?_) (fun hc => ?_)))
          refine loopK_now (l.length - (k + 1)) (by omega) ?_
          rw [hJ.out]
          refine ⟨k + 1, by omega, rfl, ?_, ?_⟩
          · rw [if_pos (hm.out.2 (.inr hyp.out.symm))]
            rfl
          · rw [hc'.out]
            rfl
        · have e3 : decide (y = p) = false := decide_eq_false hyp
          rw [if_neg hyp, Nat.add_zero] at hc'
          replace hc' := (show Aside _ from hc')
          replace hm := (show Aside _ from hm)
          replace hyp := (show Aside _ from hyp)
          (repeat' first
    | simp (contextual := true) (maxSteps := 4000000) only [fwc, fwe, cmd_seq, opsW_gpure, drawW_pure, drawW_gpure, Env.upd_apply, Heap.upd_same, Heap.upd_apply, ite_none, List.getD_cons_zero, List.getD_cons_succ, List.getD_nil, List.length_cons, List.length_nil, List.map_cons, List.map_nil, List.getElem?_cons_zero, List.getElem?_cons_succ, List.getElem?_nil, List.set_cons_zero, List.set_cons_succ, List.take_succ_cons, List.take_zero, List.drop_succ_cons, List.drop_zero, List.nil_append, List.cons_append, List.append_nil, Option.map_some, Option.map_none, Option.bind_some, Option.bind_none, reduceIte, ↓reduceIte, decide_true, decide_false, Bool.true_and, Bool.and_true, Bool.false_and, Bool.and_false, true_and, and_true, and_self, Nat.reduceAdd, Nat.reduceLeDiff, Nat.reduceEqDiff, Nat.zero_add, Nat.add_zero, Nat.le_refl, Nat.zero_le, ge_iff_le, Nat.reduceLT, Nat.zero_lt_succ, Nat.reduceSub, if_true, if_false, forall_const, reduceCtorEq, Bool.not_true, Bool.not_false, Bool.false_eq_true, Int.reduceEq, Int.reduceLT, Int.reduceLE, Int.reduceNeg, Int.reduceToNat, Int.reduceAdd, Int.reduceSub, Nat.reduceMul, Nat.reduceEqDiff, gW_un, gcF_un, gcA_un, ci_mkmap, ci_mapset, ci_lookup, ci_maxl, ci_appz, pi_lookup, pi_maxl, pu_lookup, pu_maxl, maxl_nil, maxl_one, maxl_cons, cells_mapr, stor_mapr, callv_yld, mm_max, mm_min, putAll_cons, putAll_nil, asgK_normal, roundK_normal, roundK_ret, roundK_exit, ilt_nat, part_cell, part_agg, wrap_succ, *]
    | (refine seqK_now ?_)
    | (refine retK_now ?_)
    | (refine retK_now' ?_)
    | (intro q hq)
    | (refine cond_intro (fun hc => ?_) (fun hc => ?_)))
          refine loopK_now (l.length - (k + 1)) (by omega) ?_
          rw [hJ.out]
          refine ⟨k + 1, by omega, rfl, ?_, ?_⟩
          · have : (p ∈ l.take (k + 1)) ↔ p ∈ l.take k := by
              rw [hm.out]
              exact ⟨fun h => h.elim id fun h => absurd h.symm hyp.out, .inl⟩
            simp only [this]
            rw [hv.out]
            rfl
          · rw [hc'.out]
            rfl
      · have e2 : decide (k < l.length) = false := decide_eq_false hk
        have hkl : k = l.length := by omega
        subst hkl
        rw [List.take_length]
        obtain ⟨v, hv⟩ : ∃ v, (if p ∈ l then needleL i else w) = v := ⟨_, rfl⟩
        rw [hv]
        rw [show v.av = .agg [.val (.int .u8 v.bed), .val (.int .i64 v.at_)] from rfl]
        replace hv := (show Aside _ from hv)
        replace hk := (show Aside _ from hk)
        (repeat' first
    | simp (contextual := true) (maxSteps := 4000000) only [fwc, fwe, cmd_seq, opsW_gpure, drawW_pure, drawW_gpure, Env.upd_apply, Heap.upd_same, Heap.upd_apply, ite_none, List.getD_cons_zero, List.getD_cons_succ, List.getD_nil, List.length_cons, List.length_nil, List.map_cons, List.map_nil, List.getElem?_cons_zero, List.getElem?_cons_succ, List.getElem?_nil, List.set_cons_zero, List.set_cons_succ, List.take_succ_cons, List.take_zero, List.drop_succ_cons, List.drop_zero, List.nil_append, List.cons_append, List.append_nil, Option.map_some, Option.map_none, Option.bind_some, Option.bind_none, reduceIte, ↓reduceIte, decide_true, decide_false, Bool.true_and, Bool.and_true, Bool.false_and, Bool.and_false, true_and, and_true, and_self, Nat.reduceAdd, Nat.reduceLeDiff, Nat.reduceEqDiff, Nat.zero_add, Nat.add_zero, Nat.le_refl, Nat.zero_le, ge_iff_le, Nat.reduceLT, Nat.zero_lt_succ, Nat.reduceSub, if_true, if_false, forall_const, reduceCtorEq, Bool.not_true, Bool.not_false, Bool.false_eq_true, Int.reduceEq, Int.reduceLT, Int.reduceLE, Int.reduceNeg, Int.reduceToNat, Int.reduceAdd, Int.reduceSub, Nat.reduceMul, Nat.reduceEqDiff, gW_un, gcF_un, gcA_un, ci_mkmap, ci_mapset, ci_lookup, ci_maxl, ci_appz, pi_lookup, pi_maxl, pu_lookup, pu_maxl, maxl_nil, maxl_one, maxl_cons, cells_mapr, stor_mapr, callv_yld, mm_max, mm_min, putAll_cons, putAll_nil, asgK_normal, roundK_normal, roundK_ret, roundK_exit, ilt_nat, part_cell, part_agg, wrap_succ, *]
    | (refine seqK_now ?_)
    | (refine retK_now ?_)
    | (refine retK_now' ?_)
    | (intro q hq)
    | (refine cond_intro (fun hc => ?_) (fun hc => ?_)))
        refine loopK_now (80 - (i + 1)) (by omega) ?_
        rw [hI.out]
        refine ⟨i + 1, by omega, rfl, ?_, ?_⟩
        · rw [hwh.out, hv.out]
          rfl
        · rw [fl.out, fc.out]
          rfl
    · have e1 : decide (i < 80) = false := decide_eq_false hi
      have hi8 : i = 80 := by omega
      have htt : T.take i = T := List.take_of_length_le (by rw [hTo.out.len]; omega)
      have hww : wh T p i = W := by rw [hi8]; exact hW.out
      rw [htt, hww]
      replace hi := (show Aside _ from hi)
      replace hi8 := (show Aside _ from hi8)
      clear htt hww
      have hC : T.flatten.count p ≤ T.flatten.length := List.count_le_length
      have hM : T.flatten.length ≤ 80000 := by
        refine Nat.le_trans (flat_len (G := T) (fun l hl => ?_)) ?_
        · have := hTo.out.le l hl; omega
        · rw [hTo.out.len]; omega
      have dc : decide ((T.flatten.count p : Int) = 0) = decide (T.flatten.count p = 0) := decide_eq_decide.2 (by omega)
      generalize T.flatten.count p = C at *
      generalize T.flatten.length = M at *
      have q1 : ∀ z : Int, decide (z = z) = true := fun z => decide_eq_true rfl
      have hle : leavesEq [true, true] [.val (.int .u8 W.bed), .val (.int .i64 W.at_)] [.val (.int .u8 W.bed), .val (.int .i64 W.at_)] = some true := by
        have := le_id ⟨W.bed, W.at_⟩ ⟨W.bed, W.at_⟩
        simpa using this
      rw [show W.av = .agg [.val (.int .u8 W.bed), .val (.int .i64 W.at_)] from rfl]
      by_cases hC0 : C = 0
      · rw [if_pos hC0] at hfd
        have e2 : decide (C = 0) = true := decide_eq_true hC0
        replace hC0 := (show Aside _ from hC0)
        have q7' : decide ((7 : Int) = 7) = true := by decide
        (repeat' first
    | simp (contextual := true) (maxSteps := 4000000) only [fwc, fwe, cmd_seq, opsW_gpure, drawW_pure, drawW_gpure, Env.upd_apply, Heap.upd_same, Heap.upd_apply, ite_none, List.getD_cons_zero, List.getD_cons_succ, List.getD_nil, List.length_cons, List.length_nil, List.map_cons, List.map_nil, List.getElem?_cons_zero, List.getElem?_cons_succ, List.getElem?_nil, List.set_cons_zero, List.set_cons_succ, List.take_succ_cons, List.take_zero, List.drop_succ_cons, List.drop_zero, List.nil_append, List.cons_append, List.append_nil, Option.map_some, Option.map_none, Option.bind_some, Option.bind_none, reduceIte, ↓reduceIte, decide_true, decide_false, Bool.true_and, Bool.and_true, Bool.false_and, Bool.and_false, true_and, and_true, and_self, Nat.reduceAdd, Nat.reduceLeDiff, Nat.reduceEqDiff, Nat.zero_add, Nat.add_zero, Nat.le_refl, Nat.zero_le, ge_iff_le, Nat.reduceLT, Nat.zero_lt_succ, Nat.reduceSub, if_true, if_false, forall_const, reduceCtorEq, Bool.not_true, Bool.not_false, Bool.false_eq_true, Int.reduceEq, Int.reduceLT, Int.reduceLE, Int.reduceNeg, Int.reduceToNat, Int.reduceAdd, Int.reduceSub, Nat.reduceMul, Nat.reduceEqDiff, gW_un, gcF_un, gcA_un, ci_mkmap, ci_mapset, ci_lookup, ci_maxl, ci_appz, pi_lookup, pi_maxl, pu_lookup, pu_maxl, maxl_nil, maxl_one, maxl_cons, cells_mapr, stor_mapr, callv_yld, mm_max, mm_min, putAll_cons, putAll_nil, asgK_normal, roundK_normal, roundK_ret, roundK_exit, part_cell, part_agg, *]
    | (refine seqK_now ?_)
    | (refine retK_now ?_)
    | (refine retK_now' ?_)
    | (intro q hq)
    | (refine cond_intro (fun hc => ?_) (fun hc => ?_)))
        refine hfd.use ?_
        (repeat' first
    | simp (contextual := true) (maxSteps := 4000000) only [fwc, fwe, cmd_seq, opsW_gpure, drawW_pure, drawW_gpure, Env.upd_apply, Heap.upd_same, Heap.upd_apply, ite_none, List.getD_cons_zero, List.getD_cons_succ, List.getD_nil, List.length_cons, List.length_nil, List.map_cons, List.map_nil, List.getElem?_cons_zero, List.getElem?_cons_succ, List.getElem?_nil, List.set_cons_zero, List.set_cons_succ, List.take_succ_cons, List.take_zero, List.drop_succ_cons, List.drop_zero, List.nil_append, List.cons_append, List.append_nil, Option.map_some, Option.map_none, Option.bind_some, Option.bind_none, reduceIte, ↓reduceIte, decide_true, decide_false, Bool.true_and, Bool.and_true, Bool.false_and, Bool.and_false, true_and, and_true, and_self, Nat.reduceAdd, Nat.reduceLeDiff, Nat.reduceEqDiff, Nat.zero_add, Nat.add_zero, Nat.le_refl, Nat.zero_le, ge_iff_le, Nat.reduceLT, Nat.zero_lt_succ, Nat.reduceSub, if_true, if_false, forall_const, reduceCtorEq, Bool.not_true, Bool.not_false, Bool.false_eq_true, Int.reduceEq, Int.reduceLT, Int.reduceLE, Int.reduceNeg, Int.reduceToNat, Int.reduceAdd, Int.reduceSub, Nat.reduceMul, Nat.reduceEqDiff, gW_un, gcF_un, gcA_un, ci_mkmap, ci_mapset, ci_lookup, ci_maxl, ci_appz, pi_lookup, pi_maxl, pu_lookup, pu_maxl, maxl_nil, maxl_one, maxl_cons, cells_mapr, stor_mapr, callv_yld, mm_max, mm_min, putAll_cons, putAll_nil, asgK_normal, roundK_normal, roundK_ret, roundK_exit, part_cell, part_agg, *]
    | (refine seqK_now ?_)
    | (refine retK_now ?_)
    | (refine retK_now' ?_)
    | (intro q hq)
    | (refine cond_intro (fun hc => ?_) (fun hc => ?_)))
        have n8' := ne_of f8 hq.2.2
        (repeat' first
    | simp (contextual := true) (maxSteps := 4000000) only [fwc, fwe, cmd_seq, opsW_gpure, drawW_pure, drawW_gpure, Env.upd_apply, Heap.upd_same, Heap.upd_apply, ite_none, List.getD_cons_zero, List.getD_cons_succ, List.getD_nil, List.length_cons, List.length_nil, List.map_cons, List.map_nil, List.getElem?_cons_zero, List.getElem?_cons_succ, List.getElem?_nil, List.set_cons_zero, List.set_cons_succ, List.take_succ_cons, List.take_zero, List.drop_succ_cons, List.drop_zero, List.nil_append, List.cons_append, List.append_nil, Option.map_some, Option.map_none, Option.bind_some, Option.bind_none, reduceIte, ↓reduceIte, decide_true, decide_false, Bool.true_and, Bool.and_true, Bool.false_and, Bool.and_false, true_and, and_true, and_self, Nat.reduceAdd, Nat.reduceLeDiff, Nat.reduceEqDiff, Nat.zero_add, Nat.add_zero, Nat.le_refl, Nat.zero_le, ge_iff_le, Nat.reduceLT, Nat.zero_lt_succ, Nat.reduceSub, if_true, if_false, forall_const, reduceCtorEq, Bool.not_true, Bool.not_false, Bool.false_eq_true, Int.reduceEq, Int.reduceLT, Int.reduceLE, Int.reduceNeg, Int.reduceToNat, Int.reduceAdd, Int.reduceSub, Nat.reduceMul, Nat.reduceEqDiff, gW_un, gcF_un, gcA_un, ci_mkmap, ci_mapset, ci_lookup, ci_maxl, ci_appz, pi_lookup, pi_maxl, pu_lookup, pu_maxl, maxl_nil, maxl_one, maxl_cons, cells_mapr, stor_mapr, callv_yld, mm_max, mm_min, putAll_cons, putAll_nil, asgK_normal, roundK_normal, roundK_ret, roundK_exit, part_cell, part_agg, *]
    | (refine seqK_now ?_)
    | (refine retK_now ?_)
    | (refine retK_now' ?_)
    | (intro q hq)
    | (refine cond_intro (fun hc => ?_) (fun hc => ?_)))
        refine hcn.use ?_
        (repeat' first
    | simp (contextual := true) (maxSteps := 4000000) only [fwc, fwe, cmd_seq, opsW_gpure, drawW_pure, drawW_gpure, Env.upd_apply, Heap.upd_same, Heap.upd_apply, ite_none, List.getD_cons_zero, List.getD_cons_succ, List.getD_nil, List.length_cons, List.length_nil, List.map_cons, List.map_nil, List.getElem?_cons_zero, List.getElem?_cons_succ, List.getElem?_nil, List.set_cons_zero, List.set_cons_succ, List.take_succ_cons, List.take_zero, List.drop_succ_cons, List.drop_zero, List.nil_append, List.cons_append, List.append_nil, Option.map_some, Option.map_none, Option.bind_some, Option.bind_none, reduceIte, ↓reduceIte, decide_true, decide_false, Bool.true_and, Bool.and_true, Bool.false_and, Bool.and_false, true_and, and_true, and_self, Nat.reduceAdd, Nat.reduceLeDiff, Nat.reduceEqDiff, Nat.zero_add, Nat.add_zero, Nat.le_refl, Nat.zero_le, ge_iff_le, Nat.reduceLT, Nat.zero_lt_succ, Nat.reduceSub, if_true, if_false, forall_const, reduceCtorEq, Bool.not_true, Bool.not_false, Bool.false_eq_true, Int.reduceEq, Int.reduceLT, Int.reduceLE, Int.reduceNeg, Int.reduceToNat, Int.reduceAdd, Int.reduceSub, Nat.reduceMul, Nat.reduceEqDiff, gW_un, gcF_un, gcA_un, ci_mkmap, ci_mapset, ci_lookup, ci_maxl, ci_appz, pi_lookup, pi_maxl, pu_lookup, pu_maxl, maxl_nil, maxl_one, maxl_cons, cells_mapr, stor_mapr, callv_yld, mm_max, mm_min, putAll_cons, putAll_nil, asgK_normal, roundK_normal, roundK_ret, roundK_exit, part_cell, part_agg, *]
    | (refine seqK_now ?_)
    | (refine retK_now ?_)
    | (refine retK_now' ?_)
    | (intro q hq)
    | (refine cond_intro (fun hc => ?_) (fun hc => ?_)))
        refine lives_ok.use ?_
        (repeat' first
    | simp (contextual := true) (maxSteps := 4000000) only [fwc, fwe, cmd_seq, opsW_gpure, drawW_pure, drawW_gpure, Env.upd_apply, Heap.upd_same, Heap.upd_apply, ite_none, List.getD_cons_zero, List.getD_cons_succ, List.getD_nil, List.length_cons, List.length_nil, List.map_cons, List.map_nil, List.getElem?_cons_zero, List.getElem?_cons_succ, List.getElem?_nil, List.set_cons_zero, List.set_cons_succ, List.take_succ_cons, List.take_zero, List.drop_succ_cons, List.drop_zero, List.nil_append, List.cons_append, List.append_nil, Option.map_some, Option.map_none, Option.bind_some, Option.bind_none, reduceIte, ↓reduceIte, decide_true, decide_false, Bool.true_and, Bool.and_true, Bool.false_and, Bool.and_false, true_and, and_true, and_self, Nat.reduceAdd, Nat.reduceLeDiff, Nat.reduceEqDiff, Nat.zero_add, Nat.add_zero, Nat.le_refl, Nat.zero_le, ge_iff_le, Nat.reduceLT, Nat.zero_lt_succ, Nat.reduceSub, if_true, if_false, forall_const, reduceCtorEq, Bool.not_true, Bool.not_false, Bool.false_eq_true, Int.reduceEq, Int.reduceLT, Int.reduceLE, Int.reduceNeg, Int.reduceToNat, Int.reduceAdd, Int.reduceSub, Nat.reduceMul, Nat.reduceEqDiff, gW_un, gcF_un, gcA_un, ci_mkmap, ci_mapset, ci_lookup, ci_maxl, ci_appz, pi_lookup, pi_maxl, pu_lookup, pu_maxl, maxl_nil, maxl_one, maxl_cons, cells_mapr, stor_mapr, callv_yld, mm_max, mm_min, putAll_cons, putAll_nil, asgK_normal, roundK_normal, roundK_ret, roundK_exit, part_cell, part_agg, *]
    | (refine seqK_now ?_)
    | (refine retK_now ?_)
    | (refine retK_now' ?_)
    | (intro q hq)
    | (refine cond_intro (fun hc => ?_) (fun hc => ?_)))
        have hOq := none_of_sub s0.out hq.2.2
        refine WeakR.pure (sub_upd hOq (sub_upd hO10.out s0.out)) ?_
        rfl
      · rw [if_neg hC0] at hfd
        have e2 : decide (C = 0) = false := decide_eq_false hC0
        replace hC0 := (show Aside _ from hC0)
        have q0' : decide ((0 : Int) = 0) = true := by decide
        (repeat' first
    | simp (contextual := true) (maxSteps := 4000000) only [fwc, fwe, cmd_seq, opsW_gpure, drawW_pure, drawW_gpure, Env.upd_apply, Heap.upd_same, Heap.upd_apply, ite_none, List.getD_cons_zero, List.getD_cons_succ, List.getD_nil, List.length_cons, List.length_nil, List.map_cons, List.map_nil, List.getElem?_cons_zero, List.getElem?_cons_succ, List.getElem?_nil, List.set_cons_zero, List.set_cons_succ, List.take_succ_cons, List.take_zero, List.drop_succ_cons, List.drop_zero, List.nil_append, List.cons_append, List.append_nil, Option.map_some, Option.map_none, Option.bind_some, Option.bind_none, reduceIte, ↓reduceIte, decide_true, decide_false, Bool.true_and, Bool.and_true, Bool.false_and, Bool.and_false, true_and, and_true, and_self, Nat.reduceAdd, Nat.reduceLeDiff, Nat.reduceEqDiff, Nat.zero_add, Nat.add_zero, Nat.le_refl, Nat.zero_le, ge_iff_le, Nat.reduceLT, Nat.zero_lt_succ, Nat.reduceSub, if_true, if_false, forall_const, reduceCtorEq, Bool.not_true, Bool.not_false, Bool.false_eq_true, Int.reduceEq, Int.reduceLT, Int.reduceLE, Int.reduceNeg, Int.reduceToNat, Int.reduceAdd, Int.reduceSub, Nat.reduceMul, Nat.reduceEqDiff, gW_un, gcF_un, gcA_un, ci_mkmap, ci_mapset, ci_lookup, ci_maxl, ci_appz, pi_lookup, pi_maxl, pu_lookup, pu_maxl, maxl_nil, maxl_one, maxl_cons, cells_mapr, stor_mapr, callv_yld, mm_max, mm_min, putAll_cons, putAll_nil, asgK_normal, roundK_normal, roundK_ret, roundK_exit, part_cell, part_agg, *]
    | (refine seqK_now ?_)
    | (refine retK_now ?_)
    | (refine retK_now' ?_)
    | (intro q hq)
    | (refine cond_intro (fun hc => ?_) (fun hc => ?_)))
        refine hfd.use ?_
        (repeat' first
    | simp (contextual := true) (maxSteps := 4000000) only [fwc, fwe, cmd_seq, opsW_gpure, drawW_pure, drawW_gpure, Env.upd_apply, Heap.upd_same, Heap.upd_apply, ite_none, List.getD_cons_zero, List.getD_cons_succ, List.getD_nil, List.length_cons, List.length_nil, List.map_cons, List.map_nil, List.getElem?_cons_zero, List.getElem?_cons_succ, List.getElem?_nil, List.set_cons_zero, List.set_cons_succ, List.take_succ_cons, List.take_zero, List.drop_succ_cons, List.drop_zero, List.nil_append, List.cons_append, List.append_nil, Option.map_some, Option.map_none, Option.bind_some, Option.bind_none, reduceIte, ↓reduceIte, decide_true, decide_false, Bool.true_and, Bool.and_true, Bool.false_and, Bool.and_false, true_and, and_true, and_self, Nat.reduceAdd, Nat.reduceLeDiff, Nat.reduceEqDiff, Nat.zero_add, Nat.add_zero, Nat.le_refl, Nat.zero_le, ge_iff_le, Nat.reduceLT, Nat.zero_lt_succ, Nat.reduceSub, if_true, if_false, forall_const, reduceCtorEq, Bool.not_true, Bool.not_false, Bool.false_eq_true, Int.reduceEq, Int.reduceLT, Int.reduceLE, Int.reduceNeg, Int.reduceToNat, Int.reduceAdd, Int.reduceSub, Nat.reduceMul, Nat.reduceEqDiff, gW_un, gcF_un, gcA_un, ci_mkmap, ci_mapset, ci_lookup, ci_maxl, ci_appz, pi_lookup, pi_maxl, pu_lookup, pu_maxl, maxl_nil, maxl_one, maxl_cons, cells_mapr, stor_mapr, callv_yld, mm_max, mm_min, putAll_cons, putAll_nil, asgK_normal, roundK_normal, roundK_ret, roundK_exit, part_cell, part_agg, *]
    | (refine seqK_now ?_)
    | (refine retK_now ?_)
    | (refine retK_now' ?_)
    | (intro q hq)
    | (refine cond_intro (fun hc => ?_) (fun hc => ?_)))
        have n8' := ne_of f8 hq.2.2
        (repeat' first
    | simp (contextual := true) (maxSteps := 4000000) only [fwc, fwe, cmd_seq, opsW_gpure, drawW_pure, drawW_gpure, Env.upd_apply, Heap.upd_same, Heap.upd_apply, ite_none, List.getD_cons_zero, List.getD_cons_succ, List.getD_nil, List.length_cons, List.length_nil, List.map_cons, List.map_nil, List.getElem?_cons_zero, List.getElem?_cons_succ, List.getElem?_nil, List.set_cons_zero, List.set_cons_succ, List.take_succ_cons, List.take_zero, List.drop_succ_cons, List.drop_zero, List.nil_append, List.cons_append, List.append_nil, Option.map_some, Option.map_none, Option.bind_some, Option.bind_none, reduceIte, ↓reduceIte, decide_true, decide_false, Bool.true_and, Bool.and_true, Bool.false_and, Bool.and_false, true_and, and_true, and_self, Nat.reduceAdd, Nat.reduceLeDiff, Nat.reduceEqDiff, Nat.zero_add, Nat.add_zero, Nat.le_refl, Nat.zero_le, ge_iff_le, Nat.reduceLT, Nat.zero_lt_succ, Nat.reduceSub, if_true, if_false, forall_const, reduceCtorEq, Bool.not_true, Bool.not_false, Bool.false_eq_true, Int.reduceEq, Int.reduceLT, Int.reduceLE, Int.reduceNeg, Int.reduceToNat, Int.reduceAdd, Int.reduceSub, Nat.reduceMul, Nat.reduceEqDiff, gW_un, gcF_un, gcA_un, ci_mkmap, ci_mapset, ci_lookup, ci_maxl, ci_appz, pi_lookup, pi_maxl, pu_lookup, pu_maxl, maxl_nil, maxl_one, maxl_cons, cells_mapr, stor_mapr, callv_yld, mm_max, mm_min, putAll_cons, putAll_nil, asgK_normal, roundK_normal, roundK_ret, roundK_exit, part_cell, part_agg, *]
    | (refine seqK_now ?_)
    | (refine retK_now ?_)
    | (refine retK_now' ?_)
    | (intro q hq)
    | (refine cond_intro (fun hc => ?_) (fun hc => ?_)))
        refine hcn.use ?_
        (repeat' first
    | simp (contextual := true) (maxSteps := 4000000) only [fwc, fwe, cmd_seq, opsW_gpure, drawW_pure, drawW_gpure, Env.upd_apply, Heap.upd_same, Heap.upd_apply, ite_none, List.getD_cons_zero, List.getD_cons_succ, List.getD_nil, List.length_cons, List.length_nil, List.map_cons, List.map_nil, List.getElem?_cons_zero, List.getElem?_cons_succ, List.getElem?_nil, List.set_cons_zero, List.set_cons_succ, List.take_succ_cons, List.take_zero, List.drop_succ_cons, List.drop_zero, List.nil_append, List.cons_append, List.append_nil, Option.map_some, Option.map_none, Option.bind_some, Option.bind_none, reduceIte, ↓reduceIte, decide_true, decide_false, Bool.true_and, Bool.and_true, Bool.false_and, Bool.and_false, true_and, and_true, and_self, Nat.reduceAdd, Nat.reduceLeDiff, Nat.reduceEqDiff, Nat.zero_add, Nat.add_zero, Nat.le_refl, Nat.zero_le, ge_iff_le, Nat.reduceLT, Nat.zero_lt_succ, Nat.reduceSub, if_true, if_false, forall_const, reduceCtorEq, Bool.not_true, Bool.not_false, Bool.false_eq_true, Int.reduceEq, Int.reduceLT, Int.reduceLE, Int.reduceNeg, Int.reduceToNat, Int.reduceAdd, Int.reduceSub, Nat.reduceMul, Nat.reduceEqDiff, gW_un, gcF_un, gcA_un, ci_mkmap, ci_mapset, ci_lookup, ci_maxl, ci_appz, pi_lookup, pi_maxl, pu_lookup, pu_maxl, maxl_nil, maxl_one, maxl_cons, cells_mapr, stor_mapr, callv_yld, mm_max, mm_min, putAll_cons, putAll_nil, asgK_normal, roundK_normal, roundK_ret, roundK_exit, part_cell, part_agg, *]
    | (refine seqK_now ?_)
    | (refine retK_now ?_)
    | (refine retK_now' ?_)
    | (intro q hq)
    | (refine cond_intro (fun hc => ?_) (fun hc => ?_)))
        refine lives_ok.use ?_
        (repeat' first
    | simp (contextual := true) (maxSteps := 4000000) only [fwc, fwe, cmd_seq, opsW_gpure, drawW_pure, drawW_gpure, Env.upd_apply, Heap.upd_same, Heap.upd_apply, ite_none, List.getD_cons_zero, List.getD_cons_succ, List.getD_nil, List.length_cons, List.length_nil, List.map_cons, List.map_nil, List.getElem?_cons_zero, List.getElem?_cons_succ, List.getElem?_nil, List.set_cons_zero, List.set_cons_succ, List.take_succ_cons, List.take_zero, List.drop_succ_cons, List.drop_zero, List.nil_append, List.cons_append, List.append_nil, Option.map_some, Option.map_none, Option.bind_some, Option.bind_none, reduceIte, ↓reduceIte, decide_true, decide_false, Bool.true_and, Bool.and_true, Bool.false_and, Bool.and_false, true_and, and_true, and_self, Nat.reduceAdd, Nat.reduceLeDiff, Nat.reduceEqDiff, Nat.zero_add, Nat.add_zero, Nat.le_refl, Nat.zero_le, ge_iff_le, Nat.reduceLT, Nat.zero_lt_succ, Nat.reduceSub, if_true, if_false, forall_const, reduceCtorEq, Bool.not_true, Bool.not_false, Bool.false_eq_true, Int.reduceEq, Int.reduceLT, Int.reduceLE, Int.reduceNeg, Int.reduceToNat, Int.reduceAdd, Int.reduceSub, Nat.reduceMul, Nat.reduceEqDiff, gW_un, gcF_un, gcA_un, ci_mkmap, ci_mapset, ci_lookup, ci_maxl, ci_appz, pi_lookup, pi_maxl, pu_lookup, pu_maxl, maxl_nil, maxl_one, maxl_cons, cells_mapr, stor_mapr, callv_yld, mm_max, mm_min, putAll_cons, putAll_nil, asgK_normal, roundK_normal, roundK_ret, roundK_exit, part_cell, part_agg, *]
    | (refine seqK_now ?_)
    | (refine retK_now ?_)
    | (refine retK_now' ?_)
    | (intro q hq)
    | (refine cond_intro (fun hc => ?_) (fun hc => ?_)))
        have hOq := none_of_sub s0.out hq.2.2
        refine WeakR.pure (sub_upd hOq (sub_upd hO10.out s0.out)) ?_
        rfl
  · intro F hQ
    replace hQ := (show Aside _ from hQ)
    (repeat' first
    | simp (contextual := true) (maxSteps := 4000000) only [fwc, fwe, cmd_seq, opsW_gpure, drawW_pure, drawW_gpure, Env.upd_apply, Heap.upd_same, Heap.upd_apply, ite_none, List.getD_cons_zero, List.getD_cons_succ, List.getD_nil, List.length_cons, List.length_nil, List.map_cons, List.map_nil, List.getElem?_cons_zero, List.getElem?_cons_succ, List.getElem?_nil, List.set_cons_zero, List.set_cons_succ, List.take_succ_cons, List.take_zero, List.drop_succ_cons, List.drop_zero, List.nil_append, List.cons_append, List.append_nil, Option.map_some, Option.map_none, Option.bind_some, Option.bind_none, reduceIte, ↓reduceIte, decide_true, decide_false, Bool.true_and, Bool.and_true, Bool.false_and, Bool.and_false, true_and, and_true, and_self, Nat.reduceAdd, Nat.reduceLeDiff, Nat.reduceEqDiff, Nat.zero_add, Nat.add_zero, Nat.le_refl, Nat.zero_le, ge_iff_le, Nat.reduceLT, Nat.zero_lt_succ, Nat.reduceSub, if_true, if_false, forall_const, reduceCtorEq, Bool.not_true, Bool.not_false, Bool.false_eq_true, Int.reduceEq, Int.reduceLT, Int.reduceLE, Int.reduceNeg, Int.reduceToNat, Int.reduceAdd, Int.reduceSub, Nat.reduceMul, Nat.reduceEqDiff, gW_un, gcF_un, gcA_un, ci_mkmap, ci_mapset, ci_lookup, ci_maxl, ci_appz, pi_lookup, pi_maxl, pu_lookup, pu_maxl, maxl_nil, maxl_one, maxl_cons, cells_mapr, stor_mapr, callv_yld, mm_max, mm_min, putAll_cons, putAll_nil, asgK_normal, roundK_normal, roundK_ret, roundK_exit, part_cell, part_agg, *]
    | (refine seqK_now ?_)
    | (refine retK_now ?_)
    | (refine retK_now' ?_)
    | (intro q hq)
    | (refine cond_intro (fun hc => ?_) (fun hc => ?_)))
    · have hb : n.bad = true := hc
      have hrl := hbadE.out hb
      clear hb
      refine hat.use ?_
      (repeat' first
    | simp (contextual := true) (maxSteps := 4000000) only [fwc, fwe, cmd_seq, opsW_gpure, drawW_pure, drawW_gpure, Env.upd_apply, Heap.upd_same, Heap.upd_apply, ite_none, List.getD_cons_zero, List.getD_cons_succ, List.getD_nil, List.length_cons, List.length_nil, List.map_cons, List.map_nil, List.getElem?_cons_zero, List.getElem?_cons_succ, List.getElem?_nil, List.set_cons_zero, List.set_cons_succ, List.take_succ_cons, List.take_zero, List.drop_succ_cons, List.drop_zero, List.nil_append, List.cons_append, List.append_nil, Option.map_some, Option.map_none, Option.bind_some, Option.bind_none, reduceIte, ↓reduceIte, decide_true, decide_false, Bool.true_and, Bool.and_true, Bool.false_and, Bool.and_false, true_and, and_true, and_self, Nat.reduceAdd, Nat.reduceLeDiff, Nat.reduceEqDiff, Nat.zero_add, Nat.add_zero, Nat.le_refl, Nat.zero_le, ge_iff_le, Nat.reduceLT, Nat.zero_lt_succ, Nat.reduceSub, if_true, if_false, forall_const, reduceCtorEq, Bool.not_true, Bool.not_false, Bool.false_eq_true, Int.reduceEq, Int.reduceLT, Int.reduceLE, Int.reduceNeg, Int.reduceToNat, Int.reduceAdd, Int.reduceSub, Nat.reduceMul, Nat.reduceEqDiff, gW_un, gcF_un, gcA_un, ci_mkmap, ci_mapset, ci_lookup, ci_maxl, ci_appz, pi_lookup, pi_maxl, pu_lookup, pu_maxl, maxl_nil, maxl_one, maxl_cons, cells_mapr, stor_mapr, callv_yld, mm_max, mm_min, putAll_cons, putAll_nil, asgK_normal, roundK_normal, roundK_ret, roundK_exit, part_cell, part_agg, *]
    | (refine seqK_now ?_)
    | (refine retK_now ?_)
    | (refine retK_now' ?_)
    | (intro q hq)
    | (refine cond_intro (fun hc => ?_) (fun hc => ?_)))
      refine hQ.out _ _ ⟨rfl, ?_⟩
      simp (contextual := true) (maxSteps := 4000000) only [fwc, fwe, cmd_seq, opsW_gpure, drawW_pure, drawW_gpure, Env.upd_apply, Heap.upd_same, Heap.upd_apply, ite_none, List.getD_cons_zero, List.getD_cons_succ, List.getD_nil, List.length_cons, List.length_nil, List.map_cons, List.map_nil, List.getElem?_cons_zero, List.getElem?_cons_succ, List.getElem?_nil, List.set_cons_zero, List.set_cons_succ, List.take_succ_cons, List.take_zero, List.drop_succ_cons, List.drop_zero, List.nil_append, List.cons_append, List.append_nil, Option.map_some, Option.map_none, Option.bind_some, Option.bind_none, reduceIte, ↓reduceIte, decide_true, decide_false, Bool.true_and, Bool.and_true, Bool.false_and, Bool.and_false, true_and, and_true, and_self, Nat.reduceAdd, Nat.reduceLeDiff, Nat.reduceEqDiff, Nat.zero_add, Nat.add_zero, Nat.le_refl, Nat.zero_le, ge_iff_le, Nat.reduceLT, Nat.zero_lt_succ, Nat.reduceSub, if_true, if_false, forall_const, reduceCtorEq, Bool.not_true, Bool.not_false, Bool.false_eq_true, Int.reduceEq, Int.reduceLT, Int.reduceLE, Int.reduceNeg, Int.reduceToNat, Int.reduceAdd, Int.reduceSub, Nat.reduceMul, Nat.reduceEqDiff, gW_un, gcF_un, gcA_un, ci_mkmap, ci_mapset, ci_lookup, ci_maxl, ci_appz, pi_lookup, pi_maxl, pu_lookup, pu_maxl, maxl_nil, maxl_one, maxl_cons, cells_mapr, stor_mapr, callv_yld, mm_max, mm_min, putAll_cons, putAll_nil, asgK_normal, roundK_normal, roundK_ret, roundK_exit, *]
    · refine hQ.out _ _ ⟨rfl, ?_⟩
      simp (contextual := true) (maxSteps := 4000000) only [fwc, fwe, cmd_seq, opsW_gpure, drawW_pure, drawW_gpure, Env.upd_apply, Heap.upd_same, Heap.upd_apply, ite_none, List.getD_cons_zero, List.getD_cons_succ, List.getD_nil, List.length_cons, List.length_nil, List.map_cons, List.map_nil, List.getElem?_cons_zero, List.getElem?_cons_succ, List.getElem?_nil, List.set_cons_zero, List.set_cons_succ, List.take_succ_cons, List.take_zero, List.drop_succ_cons, List.drop_zero, List.nil_append, List.cons_append, List.append_nil, Option.map_some, Option.map_none, Option.bind_some, Option.bind_none, reduceIte, ↓reduceIte, decide_true, decide_false, Bool.true_and, Bool.and_true, Bool.false_and, Bool.and_false, true_and, and_true, and_self, Nat.reduceAdd, Nat.reduceLeDiff, Nat.reduceEqDiff, Nat.zero_add, Nat.add_zero, Nat.le_refl, Nat.zero_le, ge_iff_le, Nat.reduceLT, Nat.zero_lt_succ, Nat.reduceSub, if_true, if_false, forall_const, reduceCtorEq, Bool.not_true, Bool.not_false, Bool.false_eq_true, Int.reduceEq, Int.reduceLT, Int.reduceLE, Int.reduceNeg, Int.reduceToNat, Int.reduceAdd, Int.reduceSub, Nat.reduceMul, Nat.reduceEqDiff, gW_un, gcF_un, gcA_un, ci_mkmap, ci_mapset, ci_lookup, ci_maxl, ci_appz, pi_lookup, pi_maxl, pu_lookup, pu_maxl, maxl_nil, maxl_one, maxl_cons, cells_mapr, stor_mapr, callv_yld, mm_max, mm_min, putAll_cons, putAll_nil, asgK_normal, roundK_normal, roundK_ret, roundK_exit, *]
end Go.Proofs.Ytlpngkeegjickaa

namespace Go.Proofs.Ytlpngkeegjickaa
open Go.Ab Go.ChangeShapes Go.WideShapes Go.ChangeAt Go.RowKit

def layB : Lay := .slice true (.int .u8 (.int .u8 .nil)) .nil
def layId : Lay := .int .u8 (.int .i64 .nil)
theorem open_B {s : AV} (h : LayOK layB [s]) : ∃ P : List Put, IsL 2 s (P.map Put.av) ∧ ∀ p ∈ P, p.ok := by
  obtain ⟨s', l, vs', e, h1, _, h3, h4⟩ := h
  simp only [List.cons.injEq] at e
  obtain ⟨rfl, _⟩ := e
  obtain ⟨X, rfl, hX⟩ := map_of_all (f := Put.av) (Q := Put.ok) (l := l) (fun x hx => by
    obtain ⟨es, rfl, y, vs', rfl, hw1, n, vs', rfl, hw2, rfl⟩ := h3 x hx
    have k1 := wf_u8 hw1
    have k2 := wf_u8 hw2
    refine ⟨⟨y.toNat, n.toNat⟩, ?_, by unfold Put.ok; simp only; omega⟩
    unfold Put.av
    rw [show ((y.toNat : Nat) : Int) = y by omega, show ((n.toNat : Nat) : Int) = n by omega])
  exact ⟨X, h1, hX⟩
theorem open_id {a : AV} {es : List AV} (he : elemIs true a es) (h : LayOK layId es) : ∃ m n : Int, (0 ≤ m ∧ m ≤ 255) ∧ (-9223372036854775808 ≤ n ∧ n ≤ 9223372036854775807) ∧ a = .agg [.val (.int .u8 m), .val (.int .i64 n)] := by
  obtain ⟨m, vs', rfl, hm, n, vs', rfl, hn, rfl⟩ := h
  exact ⟨m, n, wf_u8 hm, wf_i64 hn, he⟩
theorem StacksAt_args (vs : List AV) (h : ArgsOK [(false, layB), (true, layId), (true, layId)] vs) : PureA Try.prog 3 vs (.val (.bool true)) := by
  obtain ⟨a, vs', es, rfl, rfl, h1, b, vs', es', rfl, k2, h2, c, vs', es'', rfl, k3, h3, rfl⟩ := h
  obtain ⟨P, hs, hP⟩ := open_B h1
  obtain ⟨m, n, _, _, rfl⟩ := open_id k2 h2
  obtain ⟨y, z, _, _, rfl⟩ := open_id k3 h3
  exact StacksAt_ok a P ⟨m, n⟩ ⟨y, z⟩ hs hP
set_option maxRecDepth 100000 in
theorem StacksAt_lifted (os : Os) (started : os.Started) (H : Type) (enc : TypeId × Value → H) :
    ReturnsInHanded {} Try.checked os 3 .any (Rows.stacksAtSpec.pre6 enc Try.prog Try.f3 Rows.stacksAtRow.domain false) (Rows.stacksAtSpec.post enc Try.prog Try.f3 false true false false) := by
  refine returnsInHanded_of_change (C := Try.checked) own started (by kernel_rfl) Try.func3
    (ChangeSpec.witness6 (enc := enc) (C := Try.checked) false ⟨#[], #[.slice none 0 0, .agg #[.int .u8 0, .int .i64 0], .agg #[.int .u8 0, .int .i64 0]], []⟩ 8 (by kernel_rfl) (by kernel_rfl) (by kernel_rfl) (by kernel_rfl)) ?_
  intro W base args ds gs before hval hW _ _
  exact law_calls (lays := [(false, layB), (true, layId), (true, layId)]) laid (of_decide_eq_true (by kernel_rfl)) (by kernel_rfl) (by kernel_rfl) rfl (fun ds hds => by
    match ds, hds with
    | [d1, d2, d3], _ => rfl) StacksAt_args W base args ds gs before hval hW

theorem StacksAt_holds : Rows.StacksAtSaid :=
  OpenClaim.holds_of_wide 3 Try.f3 rfl rfl rfl rfl rfl rfl rfl ⟨rfl, rfl, rfl, rfl, rfl⟩ rfl rfl rfl rfl rfl (by kernel_rfl) Try.func3 (by kernel_rfl)
    (of_decide_eq_true (by kernel_rfl)) (by unfold Func.isWrapper; first | (rw [if_pos (by decide +kernel)]; kernel_rfl) | (rw [if_neg (by decide +kernel)]; exact ⟨rfl, rfl⟩))
    (fun os started H enc _ => StacksAt_lifted os started H enc)

end Go.Proofs.Ytlpngkeegjickaa
