/- The law StacksAt of the given program: for every input the call returns true, and its arguments read as before. Here: contracts of functions, and the law. -/
import Derived.Test.YtlpngkeegjickaaLawStacksAtP2
import Derived.Test.YtlpngkeegjickaaFc
import Derived.Test.YtlpngkeegjickaaRows
set_option linter.unusedSimpArgs false
set_option linter.unusedVariables false
namespace Go.Proofs.Ytlpngkeegjickaa
open Go.Ab
attribute [local irreducible] WeakR WeakE CallA YieldA

theorem needleL_ok (i : Nat) : (needleL i).bad = false ∧ 0 ≤ (needleL i).bed := by
  unfold needleL Ndl.bad
  simp only [Bool.or_eq_false_iff, decide_eq_false_iff_not]
  omega
/-- A table of slices. -/
structure IsTab (ts : List AV) (T : List (List Id)) : Prop where
  len : ts.length = 80
  tlen : T.length = 80
  el : ∀ (i : Nat) (h : i < ts.length) (h' : i < T.length), IsL 2 ts[i] (T[i].map Id.av)
  le : ∀ l ∈ T, l.length ≤ 1000
theorem tabA_is {T : List (List Id)} {n : Nat} (h : TabOK T n) : IsTab (tabA T) T :=
  ⟨by simp [tabA, h.len], h.len, fun i h1 h2 => by simp only [tabA, List.getElem_map]; exact frA_L _ _, fun l hl => by have := h.le l hl; omega⟩

def diffAt (T F B : List (List Id)) (i : Nat) : Bool := decide (atL F B (needleL i) = T.getD i [])
def longN (F : List (List Id)) : Nat := if 0 < F.length ∧ F.getD (F.length - 1) [] = [] then 1 else 0
def differsL (T F B : List (List Id)) : Nat := (List.range 80).countP (fun i => !diffAt T F B i) + longN F + longN B
def env12 (q2 q3 n i : Nat) : Env := (((Env.upd (fun _ => .junk) 6 (.val (.int .i64 i))).upd 5 (.val (.int .i64 n))).upd 3 (.optr q3 2 0 0)).upd 2 (.optr q2 80 0 0)

set_option maxHeartbeats 4000000 in
theorem differs_ok (ts : List AV) (T : List (List Id)) (f b : AV) (es fs : List AV) (F B : List (List Id)) (hT : IsTab ts T) (hf : IsB f es F) (hb : IsB b fs B) (htf : IsT 1 f es) (htb : IsT 1 b fs) (hF : Sm F) (hB : Sm B) :
    PureA Try.prog 12 [.agg ts, .agg [f, b]] (.val (.int .i64 (differsL T F B))) := by
  intro O
  have m1 := hf.1.cells
  have m2 := hb.1.cells
  have m3 := hf.1.stor
  have m4 := hb.1.stor
  have m5 := hf.1.len
  have m6 := hb.1.len
  rw [hf.2.1] at m5
  rw [hb.2.1] at m6
  have hFl := hF.1
  have hBl := hB.1
  have htl := hT.len
  have htl' := hT.tlen
  have htk : ts.take 80 = ts := List.take_of_length_le (by omega)
  refine k12.call mix ?_
  unfold c12
  (repeat' first
    | simp (contextual := true) (maxSteps := 4000000) only [fwc, fwe, cmd_seq, opsW_gpure, drawW_pure, drawW_gpure, Env.upd_apply, Heap.upd_same, Heap.upd_apply, ite_none, List.getD_cons_zero, List.getD_cons_succ, List.getD_nil, List.length_cons, List.length_nil, List.map_cons, List.map_nil, List.getElem?_cons_zero, List.getElem?_cons_succ, List.getElem?_nil, List.set_cons_zero, List.set_cons_succ, List.take_succ_cons, List.take_zero, List.drop_succ_cons, List.drop_zero, List.nil_append, List.cons_append, List.append_nil, Option.map_some, Option.map_none, Option.bind_some, Option.bind_none, reduceIte, ↓reduceIte, decide_true, decide_false, Bool.true_and, Bool.and_true, Bool.false_and, Bool.and_false, true_and, and_true, and_self, Nat.reduceAdd, Nat.reduceLeDiff, Nat.reduceEqDiff, Nat.zero_add, Nat.add_zero, Nat.le_refl, Nat.zero_le, ge_iff_le, Nat.reduceLT, Nat.zero_lt_succ, Nat.reduceSub, if_true, if_false, forall_const, reduceCtorEq, Bool.not_true, Bool.not_false, Bool.false_eq_true, Int.reduceEq, Int.reduceLT, Int.reduceLE, Int.reduceNeg, Int.reduceToNat, Int.reduceAdd, Int.reduceSub, Nat.reduceMul, Nat.reduceEqDiff, gW_un, gcF_un, gcA_un, ci_mkmap, ci_mapset, ci_lookup, ci_maxl, ci_appz, pi_lookup, pi_maxl, pu_lookup, pu_maxl, maxl_nil, maxl_one, maxl_cons, cells_mapr, stor_mapr, callv_yld, mm_max, mm_min, putAll_cons, putAll_nil, asgK_normal, roundK_normal, roundK_ret, roundK_exit, *]
    | (refine seqK_now ?_)
    | (refine retK_now ?_)
    | (refine retK_now' ?_)
    | (intro q hq)
    | (refine cond_intro (fun hc => ?_) (fun hc => ?_)))
  rename_i q2 hq2
  revert q
  intro q3 hq3
  have hO3 : O q3 = none := hq3.2.2
  obtain ⟨a1, a2, _⟩ := hq3
  obtain ⟨I, hI⟩ := hideI (fun m e O' => ∃ i n : Nat, i ≤ 80 ∧ m = 80 - i ∧ n = (List.range i).countP (fun i => !diffAt T F B i) ∧ O' = (O.upd q2 (.arr 31 80 [.agg ts])).upd q3 (.arr 35 2 [.agg [f, b]]) ∧ e = env12 q2 q3 n i)
  refine cmd_loop I 80 (by rw [hI.out]; exact ⟨0, 0, by omega, rfl, rfl, rfl, rfl⟩) ?_
  intro m e O' hh
  rw [hI.out] at hh
  obtain ⟨i, n, h3, rfl, hn, rfl, rfl⟩ := hh
  have hn8 : n ≤ 80 := by rw [hn]; have := List.countP_le_length (p := fun i => !diffAt T F B i) (l := List.range i); simp at this; omega
  replace hn := (show Aside _ from hn)
  unfold env12
  have d1 : decide ((i : Int) < 80) = decide (i < 80) := decide_eq_decide.2 (by omega)
  have hwn : n < 4611686018427387904 := by omega
  by_cases hi : i < 80
  · have d2 : decide (i < 80) = true := decide_eq_true hi
    have w8 : IntKind.u8.wrap (i : Int) = (i : Int) := wrap_u8n (by omega)
    have hwi : i < 4611686018427387904 := by omega
    have hN := Needle_ok i (by omega)
    have hA := At_ok f b es fs F B (needleL i) hf hb hF hB
    have hAT := atA_T (needleL i) hf hb
    have hix : indexPtrA 80 1 false (i : Int) (.optr q2 80 0 0) = some (.optr q2 80 0 i) := by
      rw [ixp_optr, if_pos (by omega)]
      simp
    have hge : ts[i]? = some ts[i] := List.getElem?_eq_getElem (by omega)
    have hx := hT.el i (by omega) (by omega)
    have hxl := hT.le T[i] (List.getElem_mem (by omega))
    have hgd : T.getD i [] = T[i] := by rw [List.getD_eq_getElem?_getD, List.getElem?_eq_getElem (by omega)]; rfl
    have hcnt : (List.range (i + 1)).countP (fun i => !diffAt T F B i) = n + (if atL F B (needleL i) = T[i] then 0 else 1) := by
      rw [List.range_succ, List.countP_append, ← hn.out]
      simp only [List.countP_cons, List.countP_nil, diffAt, hgd]
      by_cases h : atL F B (needleL i) = T[i] <;> simp [h]
    have hsame := same_ok (atA es fs (needleL i)) (.list 2 false (T[i].map Id.av)) (atL F B (needleL i)) T[i] hAT .list (by have := atL_len hF hB (needleL i); omega)
    generalize hX : T[i] = X at hx hxl hcnt hsame
    generalize ts[i] = x at hge hx
    obtain ⟨u, hu⟩ : ∃ u, needleL i = u := ⟨_, rfl⟩
    rw [hu] at hN hA hAT hcnt hsame
    have hul := atL_len hF hB u
    have hx1 := hx.cells
    have hx2 := hx.len
    rw [List.length_map] at hx2
    have hel : ∀ O, elemsA O 2 x = some (X.map Id.av) := fun O => hx.el O
    clear hgd hX
    replace hcnt := (show Aside _ from hcnt)
    have hle80 : i + 1 ≤ 80 := by omega
    (repeat' first
    | simp (contextual := true) (maxSteps := 4000000) only [fwc, fwe, cmd_seq, opsW_gpure, drawW_pure, drawW_gpure, Env.upd_apply, Heap.upd_same, Heap.upd_apply, ite_none, List.getD_cons_zero, List.getD_cons_succ, List.getD_nil, List.length_cons, List.length_nil, List.map_cons, List.map_nil, List.getElem?_cons_zero, List.getElem?_cons_succ, List.getElem?_nil, List.set_cons_zero, List.set_cons_succ, List.take_succ_cons, List.take_zero, List.drop_succ_cons, List.drop_zero, List.nil_append, List.cons_append, List.append_nil, Option.map_some, Option.map_none, Option.bind_some, Option.bind_none, reduceIte, ↓reduceIte, decide_true, decide_false, Bool.true_and, Bool.and_true, Bool.false_and, Bool.and_false, true_and, and_true, and_self, Nat.reduceAdd, Nat.reduceLeDiff, Nat.reduceEqDiff, Nat.zero_add, Nat.add_zero, Nat.le_refl, Nat.zero_le, ge_iff_le, Nat.reduceLT, Nat.zero_lt_succ, Nat.reduceSub, if_true, if_false, forall_const, reduceCtorEq, Bool.not_true, Bool.not_false, Bool.false_eq_true, Int.reduceEq, Int.reduceLT, Int.reduceLE, Int.reduceNeg, Int.reduceToNat, Int.reduceAdd, Int.reduceSub, Nat.reduceMul, Nat.reduceEqDiff, gW_un, gcF_un, gcA_un, ci_mkmap, ci_mapset, ci_lookup, ci_maxl, ci_appz, pi_lookup, pi_maxl, pu_lookup, pu_maxl, maxl_nil, maxl_one, maxl_cons, cells_mapr, stor_mapr, callv_yld, mm_max, mm_min, putAll_cons, putAll_nil, asgK_normal, roundK_normal, roundK_ret, roundK_exit, part_cell, *]
    | (refine seqK_now ?_)
    | (refine retK_now ?_)
    | (refine retK_now' ?_)
    | (intro q hq)
    | (refine cond_intro (fun hc => ?_) (fun hc => ?_)))
    refine callF_use hN ?_
    rw [show u.av = .agg [.val (.int .u8 u.bed), .val (.int .i64 u.at_)] from rfl] at hA
    (repeat' first
    | simp (contextual := true) (maxSteps := 4000000) only [fwc, fwe, cmd_seq, opsW_gpure, drawW_pure, drawW_gpure, Env.upd_apply, Heap.upd_same, Heap.upd_apply, ite_none, List.getD_cons_zero, List.getD_cons_succ, List.getD_nil, List.length_cons, List.length_nil, List.map_cons, List.map_nil, List.getElem?_cons_zero, List.getElem?_cons_succ, List.getElem?_nil, List.set_cons_zero, List.set_cons_succ, List.take_succ_cons, List.take_zero, List.drop_succ_cons, List.drop_zero, List.nil_append, List.cons_append, List.append_nil, Option.map_some, Option.map_none, Option.bind_some, Option.bind_none, reduceIte, ↓reduceIte, decide_true, decide_false, Bool.true_and, Bool.and_true, Bool.false_and, Bool.and_false, true_and, and_true, and_self, Nat.reduceAdd, Nat.reduceLeDiff, Nat.reduceEqDiff, Nat.zero_add, Nat.add_zero, Nat.le_refl, Nat.zero_le, ge_iff_le, Nat.reduceLT, Nat.zero_lt_succ, Nat.reduceSub, if_true, if_false, forall_const, reduceCtorEq, Bool.not_true, Bool.not_false, Bool.false_eq_true, Int.reduceEq, Int.reduceLT, Int.reduceLE, Int.reduceNeg, Int.reduceToNat, Int.reduceAdd, Int.reduceSub, Nat.reduceMul, Nat.reduceEqDiff, gW_un, gcF_un, gcA_un, ci_mkmap, ci_mapset, ci_lookup, ci_maxl, ci_appz, pi_lookup, pi_maxl, pu_lookup, pu_maxl, maxl_nil, maxl_one, maxl_cons, cells_mapr, stor_mapr, callv_yld, mm_max, mm_min, putAll_cons, putAll_nil, asgK_normal, roundK_normal, roundK_ret, roundK_exit, part_cell, show u.av = .agg [.val (.int .u8 u.bed), .val (.int .i64 u.at_)] from rfl, *]
    | (refine seqK_now ?_)
    | (refine retK_now ?_)
    | (refine retK_now' ?_)
    | (intro q hq)
    | (refine cond_intro (fun hc => ?_) (fun hc => ?_)))
    refine callF_use hA ?_
    (repeat' first
    | simp (contextual := true) (maxSteps := 4000000) only [fwc, fwe, cmd_seq, opsW_gpure, drawW_pure, drawW_gpure, Env.upd_apply, Heap.upd_same, Heap.upd_apply, ite_none, List.getD_cons_zero, List.getD_cons_succ, List.getD_nil, List.length_cons, List.length_nil, List.map_cons, List.map_nil, List.getElem?_cons_zero, List.getElem?_cons_succ, List.getElem?_nil, List.set_cons_zero, List.set_cons_succ, List.take_succ_cons, List.take_zero, List.drop_succ_cons, List.drop_zero, List.nil_append, List.cons_append, List.append_nil, Option.map_some, Option.map_none, Option.bind_some, Option.bind_none, reduceIte, ↓reduceIte, decide_true, decide_false, Bool.true_and, Bool.and_true, Bool.false_and, Bool.and_false, true_and, and_true, and_self, Nat.reduceAdd, Nat.reduceLeDiff, Nat.reduceEqDiff, Nat.zero_add, Nat.add_zero, Nat.le_refl, Nat.zero_le, ge_iff_le, Nat.reduceLT, Nat.zero_lt_succ, Nat.reduceSub, if_true, if_false, forall_const, reduceCtorEq, Bool.not_true, Bool.not_false, Bool.false_eq_true, Int.reduceEq, Int.reduceLT, Int.reduceLE, Int.reduceNeg, Int.reduceToNat, Int.reduceAdd, Int.reduceSub, Nat.reduceMul, Nat.reduceEqDiff, gW_un, gcF_un, gcA_un, ci_mkmap, ci_mapset, ci_lookup, ci_maxl, ci_appz, pi_lookup, pi_maxl, pu_lookup, pu_maxl, maxl_nil, maxl_one, maxl_cons, cells_mapr, stor_mapr, callv_yld, mm_max, mm_min, putAll_cons, putAll_nil, asgK_normal, roundK_normal, roundK_ret, roundK_exit, part_cell, *]
    | (refine seqK_now ?_)
    | (refine retK_now ?_)
    | (refine retK_now' ?_)
    | (intro q hq)
    | (refine cond_intro (fun hc => ?_) (fun hc => ?_)))
    refine drawW_make 0 X.length rfl rfl (Nat.zero_le _) (by unfold maxLen; omega) (by omega) ?_
    (repeat' first
    | simp (contextual := true) (maxSteps := 4000000) only [fwc, fwe, cmd_seq, opsW_gpure, drawW_pure, drawW_gpure, Env.upd_apply, Heap.upd_same, Heap.upd_apply, ite_none, List.getD_cons_zero, List.getD_cons_succ, List.getD_nil, List.length_cons, List.length_nil, List.map_cons, List.map_nil, List.getElem?_cons_zero, List.getElem?_cons_succ, List.getElem?_nil, List.set_cons_zero, List.set_cons_succ, List.take_succ_cons, List.take_zero, List.drop_succ_cons, List.drop_zero, List.nil_append, List.cons_append, List.append_nil, Option.map_some, Option.map_none, Option.bind_some, Option.bind_none, reduceIte, ↓reduceIte, decide_true, decide_false, Bool.true_and, Bool.and_true, Bool.false_and, Bool.and_false, true_and, and_true, and_self, Nat.reduceAdd, Nat.reduceLeDiff, Nat.reduceEqDiff, Nat.zero_add, Nat.add_zero, Nat.le_refl, Nat.zero_le, ge_iff_le, Nat.reduceLT, Nat.zero_lt_succ, Nat.reduceSub, if_true, if_false, forall_const, reduceCtorEq, Bool.not_true, Bool.not_false, Bool.false_eq_true, Int.reduceEq, Int.reduceLT, Int.reduceLE, Int.reduceNeg, Int.reduceToNat, Int.reduceAdd, Int.reduceSub, Nat.reduceMul, Nat.reduceEqDiff, gW_un, gcF_un, gcA_un, ci_mkmap, ci_mapset, ci_lookup, ci_maxl, ci_appz, pi_lookup, pi_maxl, pu_lookup, pu_maxl, maxl_nil, maxl_one, maxl_cons, cells_mapr, stor_mapr, callv_yld, mm_max, mm_min, putAll_cons, putAll_nil, asgK_normal, roundK_normal, roundK_ret, roundK_exit, part_cell, *]
    | (refine seqK_now ?_)
    | (refine retK_now ?_)
    | (refine retK_now' ?_)
    | (intro q hq)
    | (refine cond_intro (fun hc => ?_) (fun hc => ?_)))
    refine drawW_append (.list 2 false (X.map Id.av)) ⟨X.map Id.av, hel _, rfl, rfl, fits_of (by simp; omega) (by omega), by simp⟩ ?_
    (repeat' first
    | simp (contextual := true) (maxSteps := 4000000) only [fwc, fwe, cmd_seq, opsW_gpure, drawW_pure, drawW_gpure, Env.upd_apply, Heap.upd_same, Heap.upd_apply, ite_none, List.getD_cons_zero, List.getD_cons_succ, List.getD_nil, List.length_cons, List.length_nil, List.map_cons, List.map_nil, List.getElem?_cons_zero, List.getElem?_cons_succ, List.getElem?_nil, List.set_cons_zero, List.set_cons_succ, List.take_succ_cons, List.take_zero, List.drop_succ_cons, List.drop_zero, List.nil_append, List.cons_append, List.append_nil, Option.map_some, Option.map_none, Option.bind_some, Option.bind_none, reduceIte, ↓reduceIte, decide_true, decide_false, Bool.true_and, Bool.and_true, Bool.false_and, Bool.and_false, true_and, and_true, and_self, Nat.reduceAdd, Nat.reduceLeDiff, Nat.reduceEqDiff, Nat.zero_add, Nat.add_zero, Nat.le_refl, Nat.zero_le, ge_iff_le, Nat.reduceLT, Nat.zero_lt_succ, Nat.reduceSub, if_true, if_false, forall_const, reduceCtorEq, Bool.not_true, Bool.not_false, Bool.false_eq_true, Int.reduceEq, Int.reduceLT, Int.reduceLE, Int.reduceNeg, Int.reduceToNat, Int.reduceAdd, Int.reduceSub, Nat.reduceMul, Nat.reduceEqDiff, gW_un, gcF_un, gcA_un, ci_mkmap, ci_mapset, ci_lookup, ci_maxl, ci_appz, pi_lookup, pi_maxl, pu_lookup, pu_maxl, maxl_nil, maxl_one, maxl_cons, cells_mapr, stor_mapr, callv_yld, mm_max, mm_min, putAll_cons, putAll_nil, asgK_normal, roundK_normal, roundK_ret, roundK_exit, part_cell, *]
    | (refine seqK_now ?_)
    | (refine retK_now ?_)
    | (refine retK_now' ?_)
    | (intro q hq)
    | (refine cond_intro (fun hc => ?_) (fun hc => ?_)))
    refine callF_use hsame ?_
    by_cases heq : atL F B u = X
    · rw [if_pos heq]
      have hc0 : (List.range (i + 1)).countP (fun i => !diffAt T F B i) = n := by rw [hcnt.out, if_pos heq]; rfl
      replace hc0 := (show Aside _ from hc0)
      replace heq := (show Aside _ from heq)
      (repeat' first
    | simp (contextual := true) (maxSteps := 4000000) only [fwc, fwe, cmd_seq, opsW_gpure, drawW_pure, drawW_gpure, Env.upd_apply, Heap.upd_same, Heap.upd_apply, ite_none, List.getD_cons_zero, List.getD_cons_succ, List.getD_nil, List.length_cons, List.length_nil, List.map_cons, List.map_nil, List.getElem?_cons_zero, List.getElem?_cons_succ, List.getElem?_nil, List.set_cons_zero, List.set_cons_succ, List.take_succ_cons, List.take_zero, List.drop_succ_cons, List.drop_zero, List.nil_append, List.cons_append, List.append_nil, Option.map_some, Option.map_none, Option.bind_some, Option.bind_none, reduceIte, ↓reduceIte, decide_true, decide_false, Bool.true_and, Bool.and_true, Bool.false_and, Bool.and_false, true_and, and_true, and_self, Nat.reduceAdd, Nat.reduceLeDiff, Nat.reduceEqDiff, Nat.zero_add, Nat.add_zero, Nat.le_refl, Nat.zero_le, ge_iff_le, Nat.reduceLT, Nat.zero_lt_succ, Nat.reduceSub, if_true, if_false, forall_const, reduceCtorEq, Bool.not_true, Bool.not_false, Bool.false_eq_true, Int.reduceEq, Int.reduceLT, Int.reduceLE, Int.reduceNeg, Int.reduceToNat, Int.reduceAdd, Int.reduceSub, Nat.reduceMul, Nat.reduceEqDiff, gW_un, gcF_un, gcA_un, ci_mkmap, ci_mapset, ci_lookup, ci_maxl, ci_appz, pi_lookup, pi_maxl, pu_lookup, pu_maxl, maxl_nil, maxl_one, maxl_cons, cells_mapr, stor_mapr, callv_yld, mm_max, mm_min, putAll_cons, putAll_nil, asgK_normal, roundK_normal, roundK_ret, roundK_exit, wrap_succ, *]
    | (refine seqK_now ?_)
    | (refine retK_now ?_)
    | (refine retK_now' ?_)
    | (intro q hq)
    | (refine cond_intro (fun hc => ?_) (fun hc => ?_)))
      refine loopK_now (80 - (i + 1)) (by omega) ?_
      rw [hI.out]
      refine ⟨i + 1, n, by omega, rfl, hc0.out.symm, rfl, ?_⟩
      simp (contextual := true) (maxSteps := 4000000) only [fwc, fwe, cmd_seq, opsW_gpure, drawW_pure, drawW_gpure, Env.upd_apply, Heap.upd_same, Heap.upd_apply, ite_none, List.getD_cons_zero, List.getD_cons_succ, List.getD_nil, List.length_cons, List.length_nil, List.map_cons, List.map_nil, List.getElem?_cons_zero, List.getElem?_cons_succ, List.getElem?_nil, List.set_cons_zero, List.set_cons_succ, List.take_succ_cons, List.take_zero, List.drop_succ_cons, List.drop_zero, List.nil_append, List.cons_append, List.append_nil, Option.map_some, Option.map_none, Option.bind_some, Option.bind_none, reduceIte, ↓reduceIte, decide_true, decide_false, Bool.true_and, Bool.and_true, Bool.false_and, Bool.and_false, true_and, and_true, and_self, Nat.reduceAdd, Nat.reduceLeDiff, Nat.reduceEqDiff, Nat.zero_add, Nat.add_zero, Nat.le_refl, Nat.zero_le, ge_iff_le, Nat.reduceLT, Nat.zero_lt_succ, Nat.reduceSub, if_true, if_false, forall_const, reduceCtorEq, Bool.not_true, Bool.not_false, Bool.false_eq_true, Int.reduceEq, Int.reduceLT, Int.reduceLE, Int.reduceNeg, Int.reduceToNat, Int.reduceAdd, Int.reduceSub, Nat.reduceMul, Nat.reduceEqDiff, gW_un, gcF_un, gcA_un, ci_mkmap, ci_mapset, ci_lookup, ci_maxl, ci_appz, pi_lookup, pi_maxl, pu_lookup, pu_maxl, maxl_nil, maxl_one, maxl_cons, cells_mapr, stor_mapr, callv_yld, mm_max, mm_min, putAll_cons, putAll_nil, asgK_normal, roundK_normal, roundK_ret, roundK_exit, env12, wrap_succ, *]
    · rw [if_neg heq]
      have hc0 : (List.range (i + 1)).countP (fun i => !diffAt T F B i) = n + 1 := by rw [hcnt.out, if_neg heq]
      replace hc0 := (show Aside _ from hc0)
      replace heq := (show Aside _ from heq)
      (repeat' first
    | simp (contextual := true) (maxSteps := 4000000) only [fwc, fwe, cmd_seq, opsW_gpure, drawW_pure, drawW_gpure, Env.upd_apply, Heap.upd_same, Heap.upd_apply, ite_none, List.getD_cons_zero, List.getD_cons_succ, List.getD_nil, List.length_cons, List.length_nil, List.map_cons, List.map_nil, List.getElem?_cons_zero, List.getElem?_cons_succ, List.getElem?_nil, List.set_cons_zero, List.set_cons_succ, List.take_succ_cons, List.take_zero, List.drop_succ_cons, List.drop_zero, List.nil_append, List.cons_append, List.append_nil, Option.map_some, Option.map_none, Option.bind_some, Option.bind_none, reduceIte, ↓reduceIte, decide_true, decide_false, Bool.true_and, Bool.and_true, Bool.false_and, Bool.and_false, true_and, and_true, and_self, Nat.reduceAdd, Nat.reduceLeDiff, Nat.reduceEqDiff, Nat.zero_add, Nat.add_zero, Nat.le_refl, Nat.zero_le, ge_iff_le, Nat.reduceLT, Nat.zero_lt_succ, Nat.reduceSub, if_true, if_false, forall_const, reduceCtorEq, Bool.not_true, Bool.not_false, Bool.false_eq_true, Int.reduceEq, Int.reduceLT, Int.reduceLE, Int.reduceNeg, Int.reduceToNat, Int.reduceAdd, Int.reduceSub, Nat.reduceMul, Nat.reduceEqDiff, gW_un, gcF_un, gcA_un, ci_mkmap, ci_mapset, ci_lookup, ci_maxl, ci_appz, pi_lookup, pi_maxl, pu_lookup, pu_maxl, maxl_nil, maxl_one, maxl_cons, cells_mapr, stor_mapr, callv_yld, mm_max, mm_min, putAll_cons, putAll_nil, asgK_normal, roundK_normal, roundK_ret, roundK_exit, wrap_succ, *]
    | (refine seqK_now ?_)
    | (refine retK_now ?_)
    | (refine retK_now' ?_)
    | (intro q hq)
    | (refine cond_intro (fun hc => ?_) (fun hc => ?_)))
      refine loopK_now (80 - (i + 1)) (by omega) ?_
      rw [hI.out]
      refine ⟨i + 1, n + 1, by omega, rfl, hc0.out.symm, rfl, ?_⟩
      simp (contextual := true) (maxSteps := 4000000) only [fwc, fwe, cmd_seq, opsW_gpure, drawW_pure, drawW_gpure, Env.upd_apply, Heap.upd_same, Heap.upd_apply, ite_none, List.getD_cons_zero, List.getD_cons_succ, List.getD_nil, List.length_cons, List.length_nil, List.map_cons, List.map_nil, List.getElem?_cons_zero, List.getElem?_cons_succ, List.getElem?_nil, List.set_cons_zero, List.set_cons_succ, List.take_succ_cons, List.take_zero, List.drop_succ_cons, List.drop_zero, List.nil_append, List.cons_append, List.append_nil, Option.map_some, Option.map_none, Option.bind_some, Option.bind_none, reduceIte, ↓reduceIte, decide_true, decide_false, Bool.true_and, Bool.and_true, Bool.false_and, Bool.and_false, true_and, and_true, and_self, Nat.reduceAdd, Nat.reduceLeDiff, Nat.reduceEqDiff, Nat.zero_add, Nat.add_zero, Nat.le_refl, Nat.zero_le, ge_iff_le, Nat.reduceLT, Nat.zero_lt_succ, Nat.reduceSub, if_true, if_false, forall_const, reduceCtorEq, Bool.not_true, Bool.not_false, Bool.false_eq_true, Int.reduceEq, Int.reduceLT, Int.reduceLE, Int.reduceNeg, Int.reduceToNat, Int.reduceAdd, Int.reduceSub, Nat.reduceMul, Nat.reduceEqDiff, gW_un, gcF_un, gcA_un, ci_mkmap, ci_mapset, ci_lookup, ci_maxl, ci_appz, pi_lookup, pi_maxl, pu_lookup, pu_maxl, maxl_nil, maxl_one, maxl_cons, cells_mapr, stor_mapr, callv_yld, mm_max, mm_min, putAll_cons, putAll_nil, asgK_normal, roundK_normal, roundK_ret, roundK_exit, env12, wrap_succ, *]
  · have d2 : decide (i < 80) = false := decide_eq_false hi
    have hi8 : i = 80 := by omega
    subst hi8
    refine seq_go ?_
    refine seq_go ?_
    (repeat' first
    | simp (contextual := true) (maxSteps := 4000000) only [fwc, fwe, opsW_gpure, drawW_pure, drawW_gpure, Env.upd_apply, Heap.upd_same, Heap.upd_apply, ite_none, List.getD_cons_zero, List.getD_cons_succ, List.getD_nil, List.length_cons, List.length_nil, List.map_cons, List.map_nil, List.getElem?_cons_zero, List.getElem?_cons_succ, List.getElem?_nil, List.set_cons_zero, List.set_cons_succ, List.take_succ_cons, List.take_zero, List.drop_succ_cons, List.drop_zero, List.nil_append, List.cons_append, List.append_nil, Option.map_some, Option.map_none, Option.bind_some, Option.bind_none, reduceIte, ↓reduceIte, decide_true, decide_false, Bool.true_and, Bool.and_true, Bool.false_and, Bool.and_false, true_and, and_true, and_self, Nat.reduceAdd, Nat.reduceLeDiff, Nat.reduceEqDiff, Nat.zero_add, Nat.add_zero, Nat.le_refl, Nat.zero_le, ge_iff_le, Nat.reduceLT, Nat.zero_lt_succ, Nat.reduceSub, if_true, if_false, forall_const, reduceCtorEq, Bool.not_true, Bool.not_false, Bool.false_eq_true, Int.reduceEq, Int.reduceLT, Int.reduceLE, Int.reduceNeg, Int.reduceToNat, Int.reduceAdd, Int.reduceSub, Nat.reduceMul, Nat.reduceEqDiff, gW_un, gcF_un, gcA_un, ci_mkmap, ci_mapset, ci_lookup, ci_maxl, ci_appz, pi_lookup, pi_maxl, pu_lookup, pu_maxl, maxl_nil, maxl_one, maxl_cons, cells_mapr, stor_mapr, callv_yld, mm_max, mm_min, putAll_cons, putAll_nil, asgK_normal, roundK_normal, roundK_ret, roundK_exit, *]
    | (refine retK_now ?_)
    | (refine retK_now' ?_)
    | (intro q hq)
    | (refine cond_intro (fun hc => ?_) (fun hc => ?_)))
    refine seqK_now ?_
    (repeat' first
    | simp (contextual := true) (maxSteps := 4000000) only [fwc, fwe, opsW_gpure, drawW_pure, drawW_gpure, Env.upd_apply, Heap.upd_same, Heap.upd_apply, ite_none, List.getD_cons_zero, List.getD_cons_succ, List.getD_nil, List.length_cons, List.length_nil, List.map_cons, List.map_nil, List.getElem?_cons_zero, List.getElem?_cons_succ, List.getElem?_nil, List.set_cons_zero, List.set_cons_succ, List.take_succ_cons, List.take_zero, List.drop_succ_cons, List.drop_zero, List.nil_append, List.cons_append, List.append_nil, Option.map_some, Option.map_none, Option.bind_some, Option.bind_none, reduceIte, ↓reduceIte, decide_true, decide_false, Bool.true_and, Bool.and_true, Bool.false_and, Bool.and_false, true_and, and_true, and_self, Nat.reduceAdd, Nat.reduceLeDiff, Nat.reduceEqDiff, Nat.zero_add, Nat.add_zero, Nat.le_refl, Nat.zero_le, ge_iff_le, Nat.reduceLT, Nat.zero_lt_succ, Nat.reduceSub, if_true, if_false, forall_const, reduceCtorEq, Bool.not_true, Bool.not_false, Bool.false_eq_true, Int.reduceEq, Int.reduceLT, Int.reduceLE, Int.reduceNeg, Int.reduceToNat, Int.reduceAdd, Int.reduceSub, Nat.reduceMul, Nat.reduceEqDiff, gW_un, gcF_un, gcA_un, ci_mkmap, ci_mapset, ci_lookup, ci_maxl, ci_appz, pi_lookup, pi_maxl, pu_lookup, pu_maxl, maxl_nil, maxl_one, maxl_cons, cells_mapr, stor_mapr, callv_yld, mm_max, mm_min, putAll_cons, putAll_nil, asgK_normal, roundK_normal, roundK_ret, roundK_exit, *]
    | (refine retK_now ?_)
    | (refine retK_now' ?_)
    | (intro q hq)
    | (refine cond_intro (fun hc => ?_) (fun hc => ?_)))
    refine seqK_now ?_
    refine seq_post (fun e1 O1 => O1 = (O.upd q2 (.arr 31 80 [.agg ts])).upd q3 (.arr 35 2 [.agg [f, b]]) ∧ e1 = ((Env.upd (fun _ => .junk) 5 (.val (.int .i64 ((n + longN F : Nat) : Int)))).upd 3 (.optr q3 2 0 0))) ?_ ?_
    · intro e1 O1 hQ
      obtain ⟨rfl, rfl⟩ := hQ
      have hlF : longN F ≤ 1 := by unfold longN; split <;> omega
      generalize hm : n + longN F = n2
      have hwn2 : n2 < 4611686018427387904 := by omega
      replace hm := (show Aside _ from hm)
      have hgF : ∀ h : 0 < B.length, ∃ y, indexAddrA 1 ((B.length - 1 : Nat) : Int) b = some (.ref y) ∧ y.cells = [y] ∧ lenA y = some (.val (.int .i64 (B.getD (B.length - 1) []).length)) := fun h => by
        have hl := hb.2.1
        have hyL := hb.2.2 (B.length - 1) (by omega) (by omega)
        refine ⟨_, hb.1.ia (by omega), hyL.cells, ?_⟩
        have := hyL.len
        rw [List.length_map] at this
        rw [this, List.getD_eq_getElem?_getD, List.getElem?_eq_getElem (by omega)]
        rfl
      have hne : (!decide ((fs.length : Int) = (B.length : Int))) = false := by rw [hb.2.1]; simp
      have hwl : IntKind.i64.wrap ((B.length : Int) - 1) = ((B.length - 1 : Nat) : Int) ∨ B.length = 0 := by
        rcases Nat.eq_zero_or_pos B.length with h | h
        · exact .inr h
        · left; rw [wrap_i64 (by omega) (by omega)]; omega
      rcases Nat.eq_zero_or_pos B.length with h0 | h0
      · have k1 : decide ((0 : Int) < (B.length : Int)) = false := decide_eq_false (by omega)
        have k2 : longN B = 0 := by unfold longN; rw [if_neg (by omega)]
        replace h0 := (show Aside _ from h0)
        clear hwl hgF
        (repeat' first
    | simp (contextual := true) (maxSteps := 4000000) only [fwc, fwe, cmd_seq, opsW_gpure, drawW_pure, drawW_gpure, Env.upd_apply, Heap.upd_same, Heap.upd_apply, ite_none, List.getD_cons_zero, List.getD_cons_succ, List.getD_nil, List.length_cons, List.length_nil, List.map_cons, List.map_nil, List.getElem?_cons_zero, List.getElem?_cons_succ, List.getElem?_nil, List.set_cons_zero, List.set_cons_succ, List.take_succ_cons, List.take_zero, List.drop_succ_cons, List.drop_zero, List.nil_append, List.cons_append, List.append_nil, Option.map_some, Option.map_none, Option.bind_some, Option.bind_none, reduceIte, ↓reduceIte, decide_true, decide_false, Bool.true_and, Bool.and_true, Bool.false_and, Bool.and_false, true_and, and_true, and_self, Nat.reduceAdd, Nat.reduceLeDiff, Nat.reduceEqDiff, Nat.zero_add, Nat.add_zero, Nat.le_refl, Nat.zero_le, ge_iff_le, Nat.reduceLT, Nat.zero_lt_succ, Nat.reduceSub, if_true, if_false, forall_const, reduceCtorEq, Bool.not_true, Bool.not_false, Bool.false_eq_true, Int.reduceEq, Int.reduceLT, Int.reduceLE, Int.reduceNeg, Int.reduceToNat, Int.reduceAdd, Int.reduceSub, Nat.reduceMul, Nat.reduceEqDiff, gW_un, gcF_un, gcA_un, ci_mkmap, ci_mapset, ci_lookup, ci_maxl, ci_appz, pi_lookup, pi_maxl, pu_lookup, pu_maxl, maxl_nil, maxl_one, maxl_cons, cells_mapr, stor_mapr, callv_yld, mm_max, mm_min, putAll_cons, putAll_nil, asgK_normal, roundK_normal, roundK_ret, roundK_exit, part_cell, *]
    | (refine seqK_now ?_)
    | (refine retK_now ?_)
    | (refine retK_now' ?_)
    | (intro q hq)
    | (refine cond_intro (fun hc => ?_) (fun hc => ?_)))
        refine opsW_gcap (b := false) (sz := 1) (L := fs) rfl (fun _ => ?_) ?_
        · simp only [opd_tmp, Env.upd_apply, jn_true, if_true, *, reduceCtorEq, if_false, Nat.reduceEqDiff, b_eq_f, Bool.not_false]
          try exact htb
        (repeat' first
    | simp (contextual := true) (maxSteps := 4000000) only [fwc, fwe, cmd_seq, opsW_gpure, drawW_pure, drawW_gpure, Env.upd_apply, Heap.upd_same, Heap.upd_apply, ite_none, List.getD_cons_zero, List.getD_cons_succ, List.getD_nil, List.length_cons, List.length_nil, List.map_cons, List.map_nil, List.getElem?_cons_zero, List.getElem?_cons_succ, List.getElem?_nil, List.set_cons_zero, List.set_cons_succ, List.take_succ_cons, List.take_zero, List.drop_succ_cons, List.drop_zero, List.nil_append, List.cons_append, List.append_nil, Option.map_some, Option.map_none, Option.bind_some, Option.bind_none, reduceIte, ↓reduceIte, decide_true, decide_false, Bool.true_and, Bool.and_true, Bool.false_and, Bool.and_false, true_and, and_true, and_self, Nat.reduceAdd, Nat.reduceLeDiff, Nat.reduceEqDiff, Nat.zero_add, Nat.add_zero, Nat.le_refl, Nat.zero_le, ge_iff_le, Nat.reduceLT, Nat.zero_lt_succ, Nat.reduceSub, if_true, if_false, forall_const, reduceCtorEq, Bool.not_true, Bool.not_false, Bool.false_eq_true, Int.reduceEq, Int.reduceLT, Int.reduceLE, Int.reduceNeg, Int.reduceToNat, Int.reduceAdd, Int.reduceSub, Nat.reduceMul, Nat.reduceEqDiff, gW_un, gcF_un, gcA_un, ci_mkmap, ci_mapset, ci_lookup, ci_maxl, ci_appz, pi_lookup, pi_maxl, pu_lookup, pu_maxl, maxl_nil, maxl_one, maxl_cons, cells_mapr, stor_mapr, callv_yld, mm_max, mm_min, putAll_cons, putAll_nil, asgK_normal, roundK_normal, roundK_ret, roundK_exit, part_cell, b_eq_f, *]
    | (refine seqK_now ?_)
    | (refine retK_now ?_)
    | (refine retK_now' ?_)
    | (intro q hq)
    | (refine cond_intro (fun hc => ?_) (fun hc => ?_)))
        refine WeakR.pure (sub_upd hO3 (sub_upd hq2 (Heap.sub_refl _))) ?_
        rw [show differsL T F B = n2 by unfold differsL; rw [k2, ← hm.out, ← hn.out]; rfl]
      · obtain ⟨y, y1, y2, y3⟩ := hgF h0
        have hwl : IntKind.i64.wrap ((B.length : Int) - 1) = ((B.length - 1 : Nat) : Int) := hwl.resolve_right (by omega)
        have k1 : decide ((0 : Int) < (B.length : Int)) = true := decide_eq_true (by omega)
        by_cases hy : B.getD (B.length - 1) [] = []
        · have k2 : longN B = 1 := by unfold longN; rw [if_pos ⟨h0, hy⟩]
          replace y3 : lenA y = some (.val (.int .i64 0)) := by rw [hy] at y3; exact y3
          have dz : decide ((0 : Int) = 0) = true := by decide
          replace h0 := (show Aside _ from h0)
          replace hy := (show Aside _ from hy)
          clear hgF
          (repeat' first
    | simp (contextual := true) (maxSteps := 4000000) only [fwc, fwe, cmd_seq, opsW_gpure, drawW_pure, drawW_gpure, Env.upd_apply, Heap.upd_same, Heap.upd_apply, ite_none, List.getD_cons_zero, List.getD_cons_succ, List.getD_nil, List.length_cons, List.length_nil, List.map_cons, List.map_nil, List.getElem?_cons_zero, List.getElem?_cons_succ, List.getElem?_nil, List.set_cons_zero, List.set_cons_succ, List.take_succ_cons, List.take_zero, List.drop_succ_cons, List.drop_zero, List.nil_append, List.cons_append, List.append_nil, Option.map_some, Option.map_none, Option.bind_some, Option.bind_none, reduceIte, ↓reduceIte, decide_true, decide_false, Bool.true_and, Bool.and_true, Bool.false_and, Bool.and_false, true_and, and_true, and_self, Nat.reduceAdd, Nat.reduceLeDiff, Nat.reduceEqDiff, Nat.zero_add, Nat.add_zero, Nat.le_refl, Nat.zero_le, ge_iff_le, Nat.reduceLT, Nat.zero_lt_succ, Nat.reduceSub, if_true, if_false, forall_const, reduceCtorEq, Bool.not_true, Bool.not_false, Bool.false_eq_true, Int.reduceEq, Int.reduceLT, Int.reduceLE, Int.reduceNeg, Int.reduceToNat, Int.reduceAdd, Int.reduceSub, Nat.reduceMul, Nat.reduceEqDiff, gW_un, gcF_un, gcA_un, ci_mkmap, ci_mapset, ci_lookup, ci_maxl, ci_appz, pi_lookup, pi_maxl, pu_lookup, pu_maxl, maxl_nil, maxl_one, maxl_cons, cells_mapr, stor_mapr, callv_yld, mm_max, mm_min, putAll_cons, putAll_nil, asgK_normal, roundK_normal, roundK_ret, roundK_exit, part_cell, *]
    | (refine seqK_now ?_)
    | (refine retK_now ?_)
    | (refine retK_now' ?_)
    | (intro q hq)
    | (refine cond_intro (fun hc => ?_) (fun hc => ?_)))
          refine opsW_gcap (b := true) (sz := 1) (L := fs) rfl (fun h => by cases h) ?_
          (repeat' first
    | simp (contextual := true) (maxSteps := 4000000) only [fwc, fwe, cmd_seq, opsW_gpure, drawW_pure, drawW_gpure, Env.upd_apply, Heap.upd_same, Heap.upd_apply, ite_none, List.getD_cons_zero, List.getD_cons_succ, List.getD_nil, List.length_cons, List.length_nil, List.map_cons, List.map_nil, List.getElem?_cons_zero, List.getElem?_cons_succ, List.getElem?_nil, List.set_cons_zero, List.set_cons_succ, List.take_succ_cons, List.take_zero, List.drop_succ_cons, List.drop_zero, List.nil_append, List.cons_append, List.append_nil, Option.map_some, Option.map_none, Option.bind_some, Option.bind_none, reduceIte, ↓reduceIte, decide_true, decide_false, Bool.true_and, Bool.and_true, Bool.false_and, Bool.and_false, true_and, and_true, and_self, Nat.reduceAdd, Nat.reduceLeDiff, Nat.reduceEqDiff, Nat.zero_add, Nat.add_zero, Nat.le_refl, Nat.zero_le, ge_iff_le, Nat.reduceLT, Nat.zero_lt_succ, Nat.reduceSub, if_true, if_false, forall_const, reduceCtorEq, Bool.not_true, Bool.not_false, Bool.false_eq_true, Int.reduceEq, Int.reduceLT, Int.reduceLE, Int.reduceNeg, Int.reduceToNat, Int.reduceAdd, Int.reduceSub, Nat.reduceMul, Nat.reduceEqDiff, gW_un, gcF_un, gcA_un, ci_mkmap, ci_mapset, ci_lookup, ci_maxl, ci_appz, pi_lookup, pi_maxl, pu_lookup, pu_maxl, maxl_nil, maxl_one, maxl_cons, cells_mapr, stor_mapr, callv_yld, mm_max, mm_min, putAll_cons, putAll_nil, asgK_normal, roundK_normal, roundK_ret, roundK_exit, part_cell, b_eq_f, wrap_succ, *]
    | (refine seqK_now ?_)
    | (refine retK_now ?_)
    | (refine retK_now' ?_)
    | (intro q hq)
    | (refine cond_intro (fun hc => ?_) (fun hc => ?_)))
          have hw2 := wrap_succ hwn2
          refine WeakR.pure (sub_upd hO3 (sub_upd hq2 (Heap.sub_refl _))) ?_
          rw [show differsL T F B = n2 + 1 by unfold differsL; rw [k2, ← hm.out, ← hn.out]]
          try (first | rfl | rw [hw2])
        · have k2 : longN B = 0 := by unfold longN; rw [if_neg (fun h => hy h.2)]
          have k3 : decide (((B.getD (B.length - 1) []).length : Int) = 0) = false := decide_eq_false (fun h => hy (List.eq_nil_of_length_eq_zero (by omega)))
          replace h0 := (show Aside _ from h0)
          replace hy := (show Aside _ from hy)
          clear hgF
          (repeat' first
    | simp (contextual := true) (maxSteps := 4000000) only [fwc, fwe, cmd_seq, opsW_gpure, drawW_pure, drawW_gpure, Env.upd_apply, Heap.upd_same, Heap.upd_apply, ite_none, List.getD_cons_zero, List.getD_cons_succ, List.getD_nil, List.length_cons, List.length_nil, List.map_cons, List.map_nil, List.getElem?_cons_zero, List.getElem?_cons_succ, List.getElem?_nil, List.set_cons_zero, List.set_cons_succ, List.take_succ_cons, List.take_zero, List.drop_succ_cons, List.drop_zero, List.nil_append, List.cons_append, List.append_nil, Option.map_some, Option.map_none, Option.bind_some, Option.bind_none, reduceIte, ↓reduceIte, decide_true, decide_false, Bool.true_and, Bool.and_true, Bool.false_and, Bool.and_false, true_and, and_true, and_self, Nat.reduceAdd, Nat.reduceLeDiff, Nat.reduceEqDiff, Nat.zero_add, Nat.add_zero, Nat.le_refl, Nat.zero_le, ge_iff_le, Nat.reduceLT, Nat.zero_lt_succ, Nat.reduceSub, if_true, if_false, forall_const, reduceCtorEq, Bool.not_true, Bool.not_false, Bool.false_eq_true, Int.reduceEq, Int.reduceLT, Int.reduceLE, Int.reduceNeg, Int.reduceToNat, Int.reduceAdd, Int.reduceSub, Nat.reduceMul, Nat.reduceEqDiff, gW_un, gcF_un, gcA_un, ci_mkmap, ci_mapset, ci_lookup, ci_maxl, ci_appz, pi_lookup, pi_maxl, pu_lookup, pu_maxl, maxl_nil, maxl_one, maxl_cons, cells_mapr, stor_mapr, callv_yld, mm_max, mm_min, putAll_cons, putAll_nil, asgK_normal, roundK_normal, roundK_ret, roundK_exit, part_cell, *]
    | (refine seqK_now ?_)
    | (refine retK_now ?_)
    | (refine retK_now' ?_)
    | (intro q hq)
    | (refine cond_intro (fun hc => ?_) (fun hc => ?_)))
          refine opsW_gcap (b := false) (sz := 1) (L := fs) rfl (fun _ => ?_) ?_
          · simp only [opd_tmp, Env.upd_apply, jn_true, if_true, *, reduceCtorEq, if_false, Nat.reduceEqDiff, b_eq_f, Bool.not_false]
            try exact htb
          (repeat' first
    | simp (contextual := true) (maxSteps := 4000000) only [fwc, fwe, cmd_seq, opsW_gpure, drawW_pure, drawW_gpure, Env.upd_apply, Heap.upd_same, Heap.upd_apply, ite_none, List.getD_cons_zero, List.getD_cons_succ, List.getD_nil, List.length_cons, List.length_nil, List.map_cons, List.map_nil, List.getElem?_cons_zero, List.getElem?_cons_succ, List.getElem?_nil, List.set_cons_zero, List.set_cons_succ, List.take_succ_cons, List.take_zero, List.drop_succ_cons, List.drop_zero, List.nil_append, List.cons_append, List.append_nil, Option.map_some, Option.map_none, Option.bind_some, Option.bind_none, reduceIte, ↓reduceIte, decide_true, decide_false, Bool.true_and, Bool.and_true, Bool.false_and, Bool.and_false, true_and, and_true, and_self, Nat.reduceAdd, Nat.reduceLeDiff, Nat.reduceEqDiff, Nat.zero_add, Nat.add_zero, Nat.le_refl, Nat.zero_le, ge_iff_le, Nat.reduceLT, Nat.zero_lt_succ, Nat.reduceSub, if_true, if_false, forall_const, reduceCtorEq, Bool.not_true, Bool.not_false, Bool.false_eq_true, Int.reduceEq, Int.reduceLT, Int.reduceLE, Int.reduceNeg, Int.reduceToNat, Int.reduceAdd, Int.reduceSub, Nat.reduceMul, Nat.reduceEqDiff, gW_un, gcF_un, gcA_un, ci_mkmap, ci_mapset, ci_lookup, ci_maxl, ci_appz, pi_lookup, pi_maxl, pu_lookup, pu_maxl, maxl_nil, maxl_one, maxl_cons, cells_mapr, stor_mapr, callv_yld, mm_max, mm_min, putAll_cons, putAll_nil, asgK_normal, roundK_normal, roundK_ret, roundK_exit, part_cell, b_eq_f, *]
    | (refine seqK_now ?_)
    | (refine retK_now ?_)
    | (refine retK_now' ?_)
    | (intro q hq)
    | (refine cond_intro (fun hc => ?_) (fun hc => ?_)))
          refine WeakR.pure (sub_upd hO3 (sub_upd hq2 (Heap.sub_refl _))) ?_
          rw [show differsL T F B = n2 by unfold differsL; rw [k2, ← hm.out, ← hn.out]; rfl]
    · intro F1 hQ
      replace hQ := (show Aside _ from hQ)
      have hw1 : IntKind.i64.wrap ((n : Int) + 1) = ((n + 1 : Nat) : Int) := wrap_succ hwn
      have hgF : ∀ h : 0 < F.length, ∃ y, indexAddrA 1 ((F.length - 1 : Nat) : Int) f = some (.ref y) ∧ y.cells = [y] ∧ lenA y = some (.val (.int .i64 (F.getD (F.length - 1) []).length)) := fun h => by
        have hl := hf.2.1
        have hyL := hf.2.2 (F.length - 1) (by omega) (by omega)
        refine ⟨_, hf.1.ia (by omega), hyL.cells, ?_⟩
        have := hyL.len
        rw [List.length_map] at this
        rw [this, List.getD_eq_getElem?_getD, List.getElem?_eq_getElem (by omega)]
        rfl
      have hne : (!decide ((es.length : Int) = (F.length : Int))) = false := by rw [hf.2.1]; simp
      have hwl : IntKind.i64.wrap ((F.length : Int) - 1) = ((F.length - 1 : Nat) : Int) ∨ F.length = 0 := by
        rcases Nat.eq_zero_or_pos F.length with h | h
        · exact .inr h
        · left; rw [wrap_i64 (by omega) (by omega)]; omega
      rcases Nat.eq_zero_or_pos F.length with h0 | h0
      · have k1 : decide ((0 : Int) < (F.length : Int)) = false := decide_eq_false (by omega)
        have k2 : longN F = 0 := by unfold longN; rw [if_neg (by omega)]
        replace h0 := (show Aside _ from h0)
        clear hwl hgF
        (repeat' first
    | simp (contextual := true) (maxSteps := 4000000) only [fwc, fwe, cmd_seq, opsW_gpure, drawW_pure, drawW_gpure, Env.upd_apply, Heap.upd_same, Heap.upd_apply, ite_none, List.getD_cons_zero, List.getD_cons_succ, List.getD_nil, List.length_cons, List.length_nil, List.map_cons, List.map_nil, List.getElem?_cons_zero, List.getElem?_cons_succ, List.getElem?_nil, List.set_cons_zero, List.set_cons_succ, List.take_succ_cons, List.take_zero, List.drop_succ_cons, List.drop_zero, List.nil_append, List.cons_append, List.append_nil, Option.map_some, Option.map_none, Option.bind_some, Option.bind_none, reduceIte, ↓reduceIte, decide_true, decide_false, Bool.true_and, Bool.and_true, Bool.false_and, Bool.and_false, true_and, and_true, and_self, Nat.reduceAdd, Nat.reduceLeDiff, Nat.reduceEqDiff, Nat.zero_add, Nat.add_zero, Nat.le_refl, Nat.zero_le, ge_iff_le, Nat.reduceLT, Nat.zero_lt_succ, Nat.reduceSub, if_true, if_false, forall_const, reduceCtorEq, Bool.not_true, Bool.not_false, Bool.false_eq_true, Int.reduceEq, Int.reduceLT, Int.reduceLE, Int.reduceNeg, Int.reduceToNat, Int.reduceAdd, Int.reduceSub, Nat.reduceMul, Nat.reduceEqDiff, gW_un, gcF_un, gcA_un, ci_mkmap, ci_mapset, ci_lookup, ci_maxl, ci_appz, pi_lookup, pi_maxl, pu_lookup, pu_maxl, maxl_nil, maxl_one, maxl_cons, cells_mapr, stor_mapr, callv_yld, mm_max, mm_min, putAll_cons, putAll_nil, asgK_normal, roundK_normal, roundK_ret, roundK_exit, part_cell, *]
    | (refine seqK_now ?_)
    | (refine retK_now ?_)
    | (refine retK_now' ?_)
    | (intro q hq)
    | (refine cond_intro (fun hc => ?_) (fun hc => ?_)))
        refine opsW_gcap (b := false) (sz := 1) (L := es) rfl (fun _ => ?_) ?_
        · simp only [opd_tmp, Env.upd_apply, jn_true, if_true, *, reduceCtorEq, if_false, Nat.reduceEqDiff, b_eq_f, Bool.not_false]
          try exact htf
        (repeat' first
    | simp (contextual := true) (maxSteps := 4000000) only [fwc, fwe, cmd_seq, opsW_gpure, drawW_pure, drawW_gpure, Env.upd_apply, Heap.upd_same, Heap.upd_apply, ite_none, List.getD_cons_zero, List.getD_cons_succ, List.getD_nil, List.length_cons, List.length_nil, List.map_cons, List.map_nil, List.getElem?_cons_zero, List.getElem?_cons_succ, List.getElem?_nil, List.set_cons_zero, List.set_cons_succ, List.take_succ_cons, List.take_zero, List.drop_succ_cons, List.drop_zero, List.nil_append, List.cons_append, List.append_nil, Option.map_some, Option.map_none, Option.bind_some, Option.bind_none, reduceIte, ↓reduceIte, decide_true, decide_false, Bool.true_and, Bool.and_true, Bool.false_and, Bool.and_false, true_and, and_true, and_self, Nat.reduceAdd, Nat.reduceLeDiff, Nat.reduceEqDiff, Nat.zero_add, Nat.add_zero, Nat.le_refl, Nat.zero_le, ge_iff_le, Nat.reduceLT, Nat.zero_lt_succ, Nat.reduceSub, if_true, if_false, forall_const, reduceCtorEq, Bool.not_true, Bool.not_false, Bool.false_eq_true, Int.reduceEq, Int.reduceLT, Int.reduceLE, Int.reduceNeg, Int.reduceToNat, Int.reduceAdd, Int.reduceSub, Nat.reduceMul, Nat.reduceEqDiff, gW_un, gcF_un, gcA_un, ci_mkmap, ci_mapset, ci_lookup, ci_maxl, ci_appz, pi_lookup, pi_maxl, pu_lookup, pu_maxl, maxl_nil, maxl_one, maxl_cons, cells_mapr, stor_mapr, callv_yld, mm_max, mm_min, putAll_cons, putAll_nil, asgK_normal, roundK_normal, roundK_ret, roundK_exit, part_cell, b_eq_f, *]
    | (refine seqK_now ?_)
    | (refine retK_now ?_)
    | (refine retK_now' ?_)
    | (intro q hq)
    | (refine cond_intro (fun hc => ?_) (fun hc => ?_)))
        refine hQ.out _ _ ⟨rfl, ?_⟩
        simp (contextual := true) (maxSteps := 4000000) only [fwc, fwe, cmd_seq, opsW_gpure, drawW_pure, drawW_gpure, Env.upd_apply, Heap.upd_same, Heap.upd_apply, ite_none, List.getD_cons_zero, List.getD_cons_succ, List.getD_nil, List.length_cons, List.length_nil, List.map_cons, List.map_nil, List.getElem?_cons_zero, List.getElem?_cons_succ, List.getElem?_nil, List.set_cons_zero, List.set_cons_succ, List.take_succ_cons, List.take_zero, List.drop_succ_cons, List.drop_zero, List.nil_append, List.cons_append, List.append_nil, Option.map_some, Option.map_none, Option.bind_some, Option.bind_none, reduceIte, ↓reduceIte, decide_true, decide_false, Bool.true_and, Bool.and_true, Bool.false_and, Bool.and_false, true_and, and_true, and_self, Nat.reduceAdd, Nat.reduceLeDiff, Nat.reduceEqDiff, Nat.zero_add, Nat.add_zero, Nat.le_refl, Nat.zero_le, ge_iff_le, Nat.reduceLT, Nat.zero_lt_succ, Nat.reduceSub, if_true, if_false, forall_const, reduceCtorEq, Bool.not_true, Bool.not_false, Bool.false_eq_true, Int.reduceEq, Int.reduceLT, Int.reduceLE, Int.reduceNeg, Int.reduceToNat, Int.reduceAdd, Int.reduceSub, Nat.reduceMul, Nat.reduceEqDiff, gW_un, gcF_un, gcA_un, ci_mkmap, ci_mapset, ci_lookup, ci_maxl, ci_appz, pi_lookup, pi_maxl, pu_lookup, pu_maxl, maxl_nil, maxl_one, maxl_cons, cells_mapr, stor_mapr, callv_yld, mm_max, mm_min, putAll_cons, putAll_nil, asgK_normal, roundK_normal, roundK_ret, roundK_exit, *]
      · obtain ⟨y, y1, y2, y3⟩ := hgF h0
        have hwl : IntKind.i64.wrap ((F.length : Int) - 1) = ((F.length - 1 : Nat) : Int) := hwl.resolve_right (by omega)
        have k1 : decide ((0 : Int) < (F.length : Int)) = true := decide_eq_true (by omega)
        by_cases hy : F.getD (F.length - 1) [] = []
        · have k2 : longN F = 1 := by unfold longN; rw [if_pos ⟨h0, hy⟩]
          replace y3 : lenA y = some (.val (.int .i64 0)) := by rw [hy] at y3; exact y3
          have dz : decide ((0 : Int) = 0) = true := by decide
          replace h0 := (show Aside _ from h0)
          replace hy := (show Aside _ from hy)
          clear hgF
          (repeat' first
    | simp (contextual := true) (maxSteps := 4000000) only [fwc, fwe, cmd_seq, opsW_gpure, drawW_pure, drawW_gpure, Env.upd_apply, Heap.upd_same, Heap.upd_apply, ite_none, List.getD_cons_zero, List.getD_cons_succ, List.getD_nil, List.length_cons, List.length_nil, List.map_cons, List.map_nil, List.getElem?_cons_zero, List.getElem?_cons_succ, List.getElem?_nil, List.set_cons_zero, List.set_cons_succ, List.take_succ_cons, List.take_zero, List.drop_succ_cons, List.drop_zero, List.nil_append, List.cons_append, List.append_nil, Option.map_some, Option.map_none, Option.bind_some, Option.bind_none, reduceIte, ↓reduceIte, decide_true, decide_false, Bool.true_and, Bool.and_true, Bool.false_and, Bool.and_false, true_and, and_true, and_self, Nat.reduceAdd, Nat.reduceLeDiff, Nat.reduceEqDiff, Nat.zero_add, Nat.add_zero, Nat.le_refl, Nat.zero_le, ge_iff_le, Nat.reduceLT, Nat.zero_lt_succ, Nat.reduceSub, if_true, if_false, forall_const, reduceCtorEq, Bool.not_true, Bool.not_false, Bool.false_eq_true, Int.reduceEq, Int.reduceLT, Int.reduceLE, Int.reduceNeg, Int.reduceToNat, Int.reduceAdd, Int.reduceSub, Nat.reduceMul, Nat.reduceEqDiff, gW_un, gcF_un, gcA_un, ci_mkmap, ci_mapset, ci_lookup, ci_maxl, ci_appz, pi_lookup, pi_maxl, pu_lookup, pu_maxl, maxl_nil, maxl_one, maxl_cons, cells_mapr, stor_mapr, callv_yld, mm_max, mm_min, putAll_cons, putAll_nil, asgK_normal, roundK_normal, roundK_ret, roundK_exit, part_cell, *]
    | (refine seqK_now ?_)
    | (refine retK_now ?_)
    | (refine retK_now' ?_)
    | (intro q hq)
    | (refine cond_intro (fun hc => ?_) (fun hc => ?_)))
          refine opsW_gcap (b := true) (sz := 1) (L := es) rfl (fun h => by cases h) ?_
          (repeat' first
    | simp (contextual := true) (maxSteps := 4000000) only [fwc, fwe, cmd_seq, opsW_gpure, drawW_pure, drawW_gpure, Env.upd_apply, Heap.upd_same, Heap.upd_apply, ite_none, List.getD_cons_zero, List.getD_cons_succ, List.getD_nil, List.length_cons, List.length_nil, List.map_cons, List.map_nil, List.getElem?_cons_zero, List.getElem?_cons_succ, List.getElem?_nil, List.set_cons_zero, List.set_cons_succ, List.take_succ_cons, List.take_zero, List.drop_succ_cons, List.drop_zero, List.nil_append, List.cons_append, List.append_nil, Option.map_some, Option.map_none, Option.bind_some, Option.bind_none, reduceIte, ↓reduceIte, decide_true, decide_false, Bool.true_and, Bool.and_true, Bool.false_and, Bool.and_false, true_and, and_true, and_self, Nat.reduceAdd, Nat.reduceLeDiff, Nat.reduceEqDiff, Nat.zero_add, Nat.add_zero, Nat.le_refl, Nat.zero_le, ge_iff_le, Nat.reduceLT, Nat.zero_lt_succ, Nat.reduceSub, if_true, if_false, forall_const, reduceCtorEq, Bool.not_true, Bool.not_false, Bool.false_eq_true, Int.reduceEq, Int.reduceLT, Int.reduceLE, Int.reduceNeg, Int.reduceToNat, Int.reduceAdd, Int.reduceSub, Nat.reduceMul, Nat.reduceEqDiff, gW_un, gcF_un, gcA_un, ci_mkmap, ci_mapset, ci_lookup, ci_maxl, ci_appz, pi_lookup, pi_maxl, pu_lookup, pu_maxl, maxl_nil, maxl_one, maxl_cons, cells_mapr, stor_mapr, callv_yld, mm_max, mm_min, putAll_cons, putAll_nil, asgK_normal, roundK_normal, roundK_ret, roundK_exit, part_cell, b_eq_f, *]
    | (refine seqK_now ?_)
    | (refine retK_now ?_)
    | (refine retK_now' ?_)
    | (intro q hq)
    | (refine cond_intro (fun hc => ?_) (fun hc => ?_)))
          refine hQ.out _ _ ⟨rfl, ?_⟩
          simp (contextual := true) (maxSteps := 4000000) only [fwc, fwe, cmd_seq, opsW_gpure, drawW_pure, drawW_gpure, Env.upd_apply, Heap.upd_same, Heap.upd_apply, ite_none, List.getD_cons_zero, List.getD_cons_succ, List.getD_nil, List.length_cons, List.length_nil, List.map_cons, List.map_nil, List.getElem?_cons_zero, List.getElem?_cons_succ, List.getElem?_nil, List.set_cons_zero, List.set_cons_succ, List.take_succ_cons, List.take_zero, List.drop_succ_cons, List.drop_zero, List.nil_append, List.cons_append, List.append_nil, Option.map_some, Option.map_none, Option.bind_some, Option.bind_none, reduceIte, ↓reduceIte, decide_true, decide_false, Bool.true_and, Bool.and_true, Bool.false_and, Bool.and_false, true_and, and_true, and_self, Nat.reduceAdd, Nat.reduceLeDiff, Nat.reduceEqDiff, Nat.zero_add, Nat.add_zero, Nat.le_refl, Nat.zero_le, ge_iff_le, Nat.reduceLT, Nat.zero_lt_succ, Nat.reduceSub, if_true, if_false, forall_const, reduceCtorEq, Bool.not_true, Bool.not_false, Bool.false_eq_true, Int.reduceEq, Int.reduceLT, Int.reduceLE, Int.reduceNeg, Int.reduceToNat, Int.reduceAdd, Int.reduceSub, Nat.reduceMul, Nat.reduceEqDiff, gW_un, gcF_un, gcA_un, ci_mkmap, ci_mapset, ci_lookup, ci_maxl, ci_appz, pi_lookup, pi_maxl, pu_lookup, pu_maxl, maxl_nil, maxl_one, maxl_cons, cells_mapr, stor_mapr, callv_yld, mm_max, mm_min, putAll_cons, putAll_nil, asgK_normal, roundK_normal, roundK_ret, roundK_exit, *]
        · have k2 : longN F = 0 := by unfold longN; rw [if_neg (fun h => hy h.2)]
          have k3 : decide (((F.getD (F.length - 1) []).length : Int) = 0) = false := decide_eq_false (fun h => hy (List.eq_nil_of_length_eq_zero (by omega)))
          replace h0 := (show Aside _ from h0)
          replace hy := (show Aside _ from hy)
          clear hgF
          (repeat' first
    | simp (contextual := true) (maxSteps := 4000000) only [fwc, fwe, cmd_seq, opsW_gpure, drawW_pure, drawW_gpure, Env.upd_apply, Heap.upd_same, Heap.upd_apply, ite_none, List.getD_cons_zero, List.getD_cons_succ, List.getD_nil, List.length_cons, List.length_nil, List.map_cons, List.map_nil, List.getElem?_cons_zero, List.getElem?_cons_succ, List.getElem?_nil, List.set_cons_zero, List.set_cons_succ, List.take_succ_cons, List.take_zero, List.drop_succ_cons, List.drop_zero, List.nil_append, List.cons_append, List.append_nil, Option.map_some, Option.map_none, Option.bind_some, Option.bind_none, reduceIte, ↓reduceIte, decide_true, decide_false, Bool.true_and, Bool.and_true, Bool.false_and, Bool.and_false, true_and, and_true, and_self, Nat.reduceAdd, Nat.reduceLeDiff, Nat.reduceEqDiff, Nat.zero_add, Nat.add_zero, Nat.le_refl, Nat.zero_le, ge_iff_le, Nat.reduceLT, Nat.zero_lt_succ, Nat.reduceSub, if_true, if_false, forall_const, reduceCtorEq, Bool.not_true, Bool.not_false, Bool.false_eq_true, Int.reduceEq, Int.reduceLT, Int.reduceLE, Int.reduceNeg, Int.reduceToNat, Int.reduceAdd, Int.reduceSub, Nat.reduceMul, Nat.reduceEqDiff, gW_un, gcF_un, gcA_un, ci_mkmap, ci_mapset, ci_lookup, ci_maxl, ci_appz, pi_lookup, pi_maxl, pu_lookup, pu_maxl, maxl_nil, maxl_one, maxl_cons, cells_mapr, stor_mapr, callv_yld, mm_max, mm_min, putAll_cons, putAll_nil, asgK_normal, roundK_normal, roundK_ret, roundK_exit, part_cell, *]
    | (refine seqK_now ?_)
    | (refine retK_now ?_)
    | (refine retK_now' ?_)
    | (intro q hq)
    | (refine cond_intro (fun hc => ?_) (fun hc => ?_)))
          refine opsW_gcap (b := false) (sz := 1) (L := es) rfl (fun _ => ?_) ?_
          · simp only [opd_tmp, Env.upd_apply, jn_true, if_true, *, reduceCtorEq, if_false, Nat.reduceEqDiff, b_eq_f, Bool.not_false]
            try exact htf
          (repeat' first
    | simp (contextual := true) (maxSteps := 4000000) only [fwc, fwe, cmd_seq, opsW_gpure, drawW_pure, drawW_gpure, Env.upd_apply, Heap.upd_same, Heap.upd_apply, ite_none, List.getD_cons_zero, List.getD_cons_succ, List.getD_nil, List.length_cons, List.length_nil, List.map_cons, List.map_nil, List.getElem?_cons_zero, List.getElem?_cons_succ, List.getElem?_nil, List.set_cons_zero, List.set_cons_succ, List.take_succ_cons, List.take_zero, List.drop_succ_cons, List.drop_zero, List.nil_append, List.cons_append, List.append_nil, Option.map_some, Option.map_none, Option.bind_some, Option.bind_none, reduceIte, ↓reduceIte, decide_true, decide_false, Bool.true_and, Bool.and_true, Bool.false_and, Bool.and_false, true_and, and_true, and_self, Nat.reduceAdd, Nat.reduceLeDiff, Nat.reduceEqDiff, Nat.zero_add, Nat.add_zero, Nat.le_refl, Nat.zero_le, ge_iff_le, Nat.reduceLT, Nat.zero_lt_succ, Nat.reduceSub, if_true, if_false, forall_const, reduceCtorEq, Bool.not_true, Bool.not_false, Bool.false_eq_true, Int.reduceEq, Int.reduceLT, Int.reduceLE, Int.reduceNeg, Int.reduceToNat, Int.reduceAdd, Int.reduceSub, Nat.reduceMul, Nat.reduceEqDiff, gW_un, gcF_un, gcA_un, ci_mkmap, ci_mapset, ci_lookup, ci_maxl, ci_appz, pi_lookup, pi_maxl, pu_lookup, pu_maxl, maxl_nil, maxl_one, maxl_cons, cells_mapr, stor_mapr, callv_yld, mm_max, mm_min, putAll_cons, putAll_nil, asgK_normal, roundK_normal, roundK_ret, roundK_exit, part_cell, b_eq_f, *]
    | (refine seqK_now ?_)
    | (refine retK_now ?_)
    | (refine retK_now' ?_)
    | (intro q hq)
    | (refine cond_intro (fun hc => ?_) (fun hc => ?_)))
          refine hQ.out _ _ ⟨rfl, ?_⟩
          simp (contextual := true) (maxSteps := 4000000) only [fwc, fwe, cmd_seq, opsW_gpure, drawW_pure, drawW_gpure, Env.upd_apply, Heap.upd_same, Heap.upd_apply, ite_none, List.getD_cons_zero, List.getD_cons_succ, List.getD_nil, List.length_cons, List.length_nil, List.map_cons, List.map_nil, List.getElem?_cons_zero, List.getElem?_cons_succ, List.getElem?_nil, List.set_cons_zero, List.set_cons_succ, List.take_succ_cons, List.take_zero, List.drop_succ_cons, List.drop_zero, List.nil_append, List.cons_append, List.append_nil, Option.map_some, Option.map_none, Option.bind_some, Option.bind_none, reduceIte, ↓reduceIte, decide_true, decide_false, Bool.true_and, Bool.and_true, Bool.false_and, Bool.and_false, true_and, and_true, and_self, Nat.reduceAdd, Nat.reduceLeDiff, Nat.reduceEqDiff, Nat.zero_add, Nat.add_zero, Nat.le_refl, Nat.zero_le, ge_iff_le, Nat.reduceLT, Nat.zero_lt_succ, Nat.reduceSub, if_true, if_false, forall_const, reduceCtorEq, Bool.not_true, Bool.not_false, Bool.false_eq_true, Int.reduceEq, Int.reduceLT, Int.reduceLE, Int.reduceNeg, Int.reduceToNat, Int.reduceAdd, Int.reduceSub, Nat.reduceMul, Nat.reduceEqDiff, gW_un, gcF_un, gcA_un, ci_mkmap, ci_mapset, ci_lookup, ci_maxl, ci_appz, pi_lookup, pi_maxl, pu_lookup, pu_maxl, maxl_nil, maxl_one, maxl_cons, cells_mapr, stor_mapr, callv_yld, mm_max, mm_min, putAll_cons, putAll_nil, asgK_normal, roundK_normal, roundK_ret, roundK_exit, *]
end Go.Proofs.Ytlpngkeegjickaa

namespace Go.Proofs.Ytlpngkeegjickaa
open Go.Ab
attribute [local irreducible] WeakR WeakE CallA YieldA

/-- Beds as a value. -/
structure IsBeds (x : AV) (F B : List (List Id)) : Prop where
  ex : ∃ f b es fs, x = .agg [f, b] ∧ IsB f es F ∧ IsB b fs B ∧ IsT 1 f es ∧ IsT 1 b fs
  sF : Sm F
  sB : Sm B

theorem IsBeds.check {x : AV} {F B : List (List Id)} (h : IsBeds x F B) : PureA Try.prog 11 [x] (.val (.int .i64 (checkL F B))) := by
  obtain ⟨f, b, es, fs, rfl, h1, h2, _, _⟩ := h.ex
  exact Check_ok f b es fs F B h1 h2
theorem IsBeds.at_ {x : AV} {F B : List (List Id)} (h : IsBeds x F B) (n : Ndl) : ∃ r, PureA Try.prog 13 [x, n.av] r ∧ IsT 2 r ((atL F B n).map Id.av) := by
  obtain ⟨f, b, es, fs, rfl, h1, h2, _, _⟩ := h.ex
  exact ⟨_, At_ok f b es fs F B n h1 h2 h.sF h.sB, atA_T n h1 h2⟩
theorem IsBeds.find {x : AV} {F B : List (List Id)} (h : IsBeds x F B) (p : Id) : PureA Try.prog 15 [x, p.av] (.tup [(foundN (min F.length 40) (findL F B p)).av, .val (.int .i64 (foundE (findL F B p)))]) := by
  obtain ⟨f, b, es, fs, rfl, h1, h2, _, _⟩ := h.ex
  exact Find_ok f b es fs F B p h1 h2 h.sF h.sB
theorem IsBeds.count {x : AV} {F B : List (List Id)} (h : IsBeds x F B) : PureA Try.prog 16 [x] (.val (.int .i64 (namesL F B).length)) := by
  obtain ⟨f, b, es, fs, rfl, h1, h2, _, _⟩ := h.ex
  exact Count_ok f b es fs F B h1 h2 (h.sF.vis h.sB)
theorem IsBeds.same {x y : AV} {F B F' B' : List (List Id)} (h : IsBeds x F B) (k : IsBeds y F' B') : PureA Try.prog 19 [x, y] (.val (.bool (sameL F B F' B'))) := by
  obtain ⟨f, b, es, fs, rfl, h1, h2, _, _⟩ := h.ex
  obtain ⟨f', b', es', fs', rfl, h1', h2', _, _⟩ := k.ex
  exact Same_ok f b f' b' es fs es' fs' F B F' B' h1 h2 h1' h2' h.sF h.sB k.sF k.sB
theorem IsBeds.differs {ts : List AV} {T : List (List Id)} {x : AV} {F B : List (List Id)} (hT : IsTab ts T) (h : IsBeds x F B) : PureA Try.prog 12 [.agg ts, x] (.val (.int .i64 (differsL T F B))) := by
  obtain ⟨f, b, es, fs, rfl, h1, h2, h3, h4⟩ := h.ex
  exact differs_ok ts T f b es fs F B hT h1 h2 h3 h4 h.sF h.sB
theorem put_beds {f b x : AV} {es fs : List AV} {F B : List (List Id)} {n : Ndl} {X : List Id} (hf : IsB f es F) (hb : IsB b fs B) (hx : IsL 2 x (X.map Id.av)) (hF : Sm F) (hB : Sm B) (hX : X.length ≤ 1000) (hn : n.at_ ≤ 40) :
    IsBeds (.agg [.list 1 true (putAF es F n x X), .list 1 true (putAB fs B n x X)]) (putLF F n X) (putLB B n X) :=
  ⟨⟨_, _, _, _, rfl, putF_is hf hx, putB_is hb hx, .list, .list⟩, putF_sm hF hX hn, putB_sm hB hX hn⟩
theorem IsBeds.set {x s : AV} {F B : List (List Id)} {X : List Id} (h : IsBeds x F B) (n : Ndl) (hs : IsL 2 s (X.map Id.av)) (hX : X.length ≤ 1000) (h0 : 0 ≤ n.bed) :
    ∃ y, PureA Try.prog 18 [x, n.av, s] (.tup [y, .val (.int .i64 (setE F B n X))]) ∧ (setE F B n X = 0 → IsBeds y (putLF F n X) (putLB B n X)) ∧ (setE F B n X ≠ 0 → y = noBeds) := by
  obtain ⟨f, b, es, fs, rfl, h1, h2, _, _⟩ := h.ex
  refine ⟨_, Set_ok f b s es fs F B n X h1 h2 hs h.sF h.sB hX h0, fun e => ?_, fun e => ?_⟩
  · rw [setA, if_pos e]
    refine put_beds h1 h2 hs h.sF h.sB hX (bad_le ?_)
    unfold setE at e
    split at e
    · split at e
      · cases e
      · rename_i h; simp only [Bool.or_eq_true, not_or] at h; simpa using h.1
    · rename_i h; exact absurd e h
  · rw [setA, if_neg e]
theorem IsBeds.join {x : AV} {F B : List (List Id)} (h : IsBeds x F B) (u v : Ndl) (hu : 0 ≤ u.bed) (hv : 0 ≤ v.bed) :
    ∃ y, PureA Try.prog 20 [x, u.av, v.av] (.tup [y, .val (.int .i64 (joinE F B u v))]) ∧ (joinE F B u v = 0 → IsBeds y (joinF F B u v) (joinB F B u v)) ∧ (joinE F B u v ≠ 0 → y = noBeds) := by
  obtain ⟨f, b, es, fs, rfl, h1, h2, _, _⟩ := h.ex
  refine ⟨_, Join_ok f b es fs F B u v h1 h2 h.sF h.sB hu hv, fun e => ?_, fun e => ?_⟩
  · rw [joinA, if_pos e]
    have hj : (joinedL F B u v).length ≤ 4 ∧ u.bad = false ∧ v.bad = false := by
      unfold joinE at e
      split at e
      · split at e
        · cases e
        · rename_i hb
          simp only [Bool.or_eq_true, not_or] at hb
          split at e
          · cases e
          · split at e
            · cases e
            · exact ⟨by omega, by simpa using hb.1.1, by simpa using hb.1.2⟩
      · rename_i h; exact absurd e h
    obtain ⟨hj, hu', hv'⟩ := hj
    exact put_beds (putF_is h1 .nil) (putB_is h2 .nil) (frA_L _ _) (putF_sm h.sF (by simp) (bad_le hu')) (putB_sm h.sB (by simp) (bad_le hu')) (by omega) (bad_le hv')
  · rw [joinA, if_neg e]

theorem Of_tab_ok (P : List Put) : TabOK (ofL P) (ofN P).2 := (ofN_ok P).1
theorem bedsF_sm {T : List (List Id)} (h : ∀ l ∈ T, l.length ≤ 1000) : Sm (bedsF T) := by
  refine ⟨by have := trF_le T; simp [bedsF]; omega, fun l hl => ?_⟩
  obtain ⟨i, _, rfl⟩ := List.mem_map.1 hl
  rw [List.getD_eq_getElem?_getD]
  by_cases hi : i < T.length
  · rw [List.getElem?_eq_getElem hi]; exact h _ (List.getElem_mem hi)
  · rw [List.getElem?_eq_none (by omega)]; simp
theorem bedsB_sm {T : List (List Id)} (h : ∀ l ∈ T, l.length ≤ 1000) : Sm (bedsB T) := by
  refine ⟨by have := trB_le T; simp [bedsB]; omega, fun l hl => ?_⟩
  obtain ⟨i, _, rfl⟩ := List.mem_map.1 hl
  rw [List.getD_eq_getElem?_getD]
  by_cases hi : 40 + i < T.length
  · rw [List.getElem?_eq_getElem hi]; exact h _ (List.getElem_mem hi)
  · rw [List.getElem?_eq_none (by omega)]; simp
theorem beds_is {T : List (List Id)} (h : ∀ l ∈ T, l.length ≤ 1000) : IsBeds (.agg [bedA (bedsF T), bedA (bedsB T)]) (bedsF T) (bedsB T) :=
  ⟨⟨_, _, _, _, rfl, (bedA_is _).1, (bedA_is _).1, (bedA_is _).2, (bedA_is _).2⟩, bedsF_sm h, bedsB_sm h⟩

/-- The example of the chapter. -/
def exA : Id := ⟨1, 0⟩
def exB : Id := ⟨1, 1⟩
def exC : Id := ⟨2, 0⟩
def exF : List (List Id) := [[], [exA, exB]]
def exK : List (List Id) := [[], [exC]]
def exX : AV := .agg [.list 1 true [nilS, .list 2 true [exA.av, exB.av]], .list 1 true [nilS, .list 2 true [exC.av]]]
theorem ex_is : IsBeds exX exF exK := by
  refine ⟨⟨_, _, _, _, rfl, ⟨.list, rfl, fun i h h' => ?_⟩, ⟨.list, rfl, fun i h h' => ?_⟩, .list, .list⟩, ⟨by decide, by decide⟩, ⟨by decide, by decide⟩⟩
  · match i, h, h' with
    | 0, _, _ => exact .nil
    | 1, _, _ => exact .list
  · match i, h, h' with
    | 0, _, _ => exact .nil
    | 1, _, _ => exact .list
end Go.Proofs.Ytlpngkeegjickaa

namespace Go.Proofs.Ytlpngkeegjickaa
open Go.Ab
attribute [local irreducible] WeakR WeakE CallA YieldA

theorem IsBeds.cells {x : AV} {F B : List (List Id)} (h : IsBeds x F B) : ∃ f b, x = .agg [f, b] ∧ f.cells = [f] ∧ b.cells = [b] ∧ f.stor = true ∧ b.stor = true ∧ lenA f = some (.val (.int .i64 F.length)) ∧ lenA b = some (.val (.int .i64 B.length)) := by
  obtain ⟨f, b, es, fs, rfl, h1, h2, _, _⟩ := h.ex
  have l1 := h1.1.len
  have l2 := h2.1.len
  rw [h1.2.1] at l1
  rw [h2.2.1] at l2
  exact ⟨f, b, rfl, h1.1.cells, h2.1.cells, h1.1.stor, h2.1.stor, l1, l2⟩

theorem cmd_gen {P : Program} {c : Cmd} {K : Kont} {e : Env} {H : Heap} (F : Heap → Prop) (hF : F H) (h : ∀ H', F H' → cmdW P c K e H') : cmdW P c K e H := h H hF
theorem upd_keep {H : Heap} {q i : Nat} {v o : AObj} (hq : H q = none) (h : H i = some o) : (H.upd q v) i = some o := by
  rw [Heap.upd_ne _ _ (fun e => by rw [e, hq] at h; cases h)]; exact h
theorem sub_new {O H : Heap} {q : Nat} {v : AObj} (hs : O.sub H) (hq : H q = none) : O.sub (H.upd q v) := fun i o hi => upd_keep hq (hs i o hi)
theorem none_of_sub {O H : Heap} {q : Nat} (hs : O.sub H) (hq : H q = none) : O q = none := by
  cases h : O q with
  | none => rfl
  | some o => rw [hs _ _ h] at hq; cases hq
theorem ne_of {H : Heap} {i q : Nat} {o : AObj} (h : H i = some o) (hq : H q = none) : ¬ i = q := fun e => by rw [e, hq] at h; cases h

def nF1 : Ndl := ⟨0, 1⟩
def nF2 : Ndl := ⟨0, 2⟩
def nB1 : Ndl := ⟨1, 1⟩
def nB2 : Ndl := ⟨1, 2⟩
def nF3 : Ndl := ⟨0, 3⟩

set_option maxHeartbeats 8000000 in
theorem lives_ok : PureA Try.prog 17 [] (.val (.bool true)) := by
  intro O
  have hE := ex_is
  have hfind : PureA Try.prog 15 [exX, .agg [.val (.int .u8 2), .val (.int .i64 0)]] (.tup [.agg [.val (.int .u8 1), .val (.int .i64 2)], .val (.int .i64 0)]) := by
    have := hE.find exC
    rw [show findL exF exK exC = some 3 by decide] at this
    exact this
  have hck : PureA Try.prog 11 [exX] (.val (.int .i64 0)) := by
    have := hE.check
    rwa [show checkL exF exK = 0 by decide] at this
  obtain ⟨r2, hat2, ht2⟩ := hE.at_ nF2
  obtain ⟨r1, hat1, ht1⟩ := hE.at_ nF1
  have hl2 : lenA r2 = some (.val (.int .i64 2)) := ht2.isL.len
  have hl1 : lenA r1 = some (.val (.int .i64 0)) := ht1.isL.len
  have hcn : PureA Try.prog 16 [exX] (.val (.int .i64 3)) := hE.count
  obtain ⟨y, hj1, hy, _⟩ := hE.join nF2 nB2 (by decide) (by decide)
  have hy := hy (by decide)
  rw [show joinE exF exK nF2 nB2 = 0 by decide] at hj1
  obtain ⟨z, hj2, hz, _⟩ := hE.join nB2 nF2 (by decide) (by decide)
  have hz := hz (by decide)
  rw [show joinE exF exK nB2 nF2 = 0 by decide] at hj2
  obtain ⟨w1, hj3, _, hw1⟩ := hE.join nF1 nB1 (by decide) (by decide)
  have hw1 := hw1 (by decide)
  subst hw1
  rw [show joinE exF exK nF1 nB1 = 13 by decide] at hj3
  obtain ⟨w2, hj4, _, hw2⟩ := hE.join nF2 nF3 (by decide) (by decide)
  have hw2 := hw2 (by decide)
  subst hw2
  rw [show joinE exF exK nF2 nF3 = 1 by decide] at hj4
  obtain ⟨ry, hay, hty⟩ := hy.at_ nB2
  rw [show atL (joinF exF exK nF2 nB2) (joinB exF exK nF2 nB2) nB2 = [exC, exA, exB] by decide] at hty
  obtain ⟨rz, haz, htz⟩ := hz.at_ nF2
  rw [show atL (joinF exF exK nB2 nF2) (joinB exF exK nB2 nF2) nF2 = [exC, exA, exB] by decide] at htz
  have hs1 : PureA Try.prog 21 [ry, .list 2 true [exC.av, exA.av, exB.av]] (.val (.int .i64 1)) := same_ok ry _ [exC, exA, exB] [exC, exA, exB] hty .list (by decide)
  have hs2 : PureA Try.prog 21 [rz, .list 2 true [exC.av, exA.av, exB.av]] (.val (.int .i64 1)) := same_ok rz _ [exC, exA, exB] [exC, exA, exB] htz .list (by decide)
  obtain ⟨v1, hset1, _, hv1⟩ := hE.set (X := [exC]) (s := .list 2 true [exC.av]) nF1 .list (by decide) (by decide)
  have hv1 := hv1 (by decide)
  subst hv1
  rw [show setE exF exK nF1 [exC] = 8 by decide] at hset1
  obtain ⟨v2, hset2, hv2, _⟩ := hE.set (X := [exB]) (s := .list 2 true [exB.av]) nF2 .list (by decide) (by decide)
  have hv2 := hv2 (by decide)
  rw [show setE exF exK nF2 [exB] = 0 by decide] at hset2
  obtain ⟨rv, hav, htv⟩ := hv2.at_ nF2
  rw [show atL (putLF exF nF2 [exB]) (putLB exK nF2 [exB]) nF2 = [exB] by decide] at htv
  have hs3 : PureA Try.prog 21 [rv, .list 2 true [exB.av]] (.val (.int .i64 1)) := same_ok rv _ [exB] [exB] htv .list (by decide)
  have hcv : PureA Try.prog 16 [v2] (.val (.int .i64 2)) := by
    have := hv2.count
    rwa [show (namesL (putLF exF nF2 [exB]) (putLB exK nF2 [exB])).length = 2 by decide] at this
  obtain ⟨yf, yb, hyx, y1, y2, y3, y4, y5, _⟩ := hy.cells
  rw [show ((joinF exF exK nF2 nB2).length : Int) = 0 by decide] at y5
  obtain ⟨zf, zb, hzx, z1, z2, z3, z4, _, _⟩ := hz.cells
  obtain ⟨vf, vb, hvx, v1, v2', v3, v4, _, _⟩ := hv2.cells
  clear hE hy hz hv2 ht1 ht2 hty htz htv
  subst hyx hzx hvx
  simp only [exA, exB, exC, nF1, nF2, nF3, nB1, nB2, Id.av, Ndl.av, nilS, noBeds] at hfind hck hat2 hat1 hcn hj1 hj2 hj3 hj4 hay hs1 haz hs2 hset1 hset2 hav hs3 hcv
  have hpX : partA exX 0 2 true = some exX := part_flat ⟨_, rfl, rfl⟩
  have hcX : exX.cells.length = 2 := rfl
  have hsX : exX.stor = true := rfl
  have hXe : AV.agg [.list 1 true [.val (.slice none 0 0), .list 2 true [(.agg [.val (.int .u8 1), .val (.int .i64 0)]), (.agg [.val (.int .u8 1), .val (.int .i64 1)])]], .list 1 true [.val (.slice none 0 0), .list 2 true [(.agg [.val (.int .u8 2), .val (.int .i64 0)])]]] = exX := rfl
  refine k17.call mix ?_
  unfold c17
  refine seq_go ?_
  (repeat' first
    | simp (contextual := true) (maxSteps := 4000000) only [fwc, fwe, opsW_gpure, drawW_pure, drawW_gpure, Env.upd_apply, Heap.upd_same, Heap.upd_apply, ite_none, List.getD_cons_zero, List.getD_cons_succ, List.getD_nil, List.length_cons, List.length_nil, List.map_cons, List.map_nil, List.getElem?_cons_zero, List.getElem?_cons_succ, List.getElem?_nil, List.set_cons_zero, List.set_cons_succ, List.take_succ_cons, List.take_zero, List.drop_succ_cons, List.drop_zero, List.nil_append, List.cons_append, List.append_nil, Option.map_some, Option.map_none, Option.bind_some, Option.bind_none, reduceIte, ↓reduceIte, decide_true, decide_false, Bool.true_and, Bool.and_true, Bool.false_and, Bool.and_false, true_and, and_true, and_self, Nat.reduceAdd, Nat.reduceLeDiff, Nat.reduceEqDiff, Nat.zero_add, Nat.add_zero, Nat.le_refl, Nat.zero_le, ge_iff_le, Nat.reduceLT, Nat.zero_lt_succ, Nat.reduceSub, if_true, if_false, forall_const, reduceCtorEq, Bool.not_true, Bool.not_false, Bool.false_eq_true, Int.reduceEq, Int.reduceLT, Int.reduceLE, Int.reduceNeg, Int.reduceToNat, Int.reduceAdd, Int.reduceSub, Nat.reduceMul, Nat.reduceEqDiff, gW_un, gcF_un, gcA_un, ci_mkmap, ci_mapset, ci_lookup, ci_maxl, ci_appz, pi_lookup, pi_maxl, pu_lookup, pu_maxl, maxl_nil, maxl_one, maxl_cons, cells_mapr, stor_mapr, callv_yld, mm_max, mm_min, putAll_cons, putAll_nil, asgK_normal, roundK_normal, roundK_ret, roundK_exit, part_cell, part_agg, *]
    | (refine retK_now ?_)
    | (refine retK_now' ?_)
    | (intro q hq)
    | (refine cond_intro (fun hc => ?_) (fun hc => ?_)))
  refine seqK_now ?_
  refine seq_go ?_
  (repeat' first
    | simp (contextual := true) (maxSteps := 4000000) only [fwc, fwe, opsW_gpure, drawW_pure, drawW_gpure, Env.upd_apply, Heap.upd_same, Heap.upd_apply, ite_none, List.getD_cons_zero, List.getD_cons_succ, List.getD_nil, List.length_cons, List.length_nil, List.map_cons, List.map_nil, List.getElem?_cons_zero, List.getElem?_cons_succ, List.getElem?_nil, List.set_cons_zero, List.set_cons_succ, List.take_succ_cons, List.take_zero, List.drop_succ_cons, List.drop_zero, List.nil_append, List.cons_append, List.append_nil, Option.map_some, Option.map_none, Option.bind_some, Option.bind_none, reduceIte, ↓reduceIte, decide_true, decide_false, Bool.true_and, Bool.and_true, Bool.false_and, Bool.and_false, true_and, and_true, and_self, Nat.reduceAdd, Nat.reduceLeDiff, Nat.reduceEqDiff, Nat.zero_add, Nat.add_zero, Nat.le_refl, Nat.zero_le, ge_iff_le, Nat.reduceLT, Nat.zero_lt_succ, Nat.reduceSub, if_true, if_false, forall_const, reduceCtorEq, Bool.not_true, Bool.not_false, Bool.false_eq_true, Int.reduceEq, Int.reduceLT, Int.reduceLE, Int.reduceNeg, Int.reduceToNat, Int.reduceAdd, Int.reduceSub, Nat.reduceMul, Nat.reduceEqDiff, gW_un, gcF_un, gcA_un, ci_mkmap, ci_mapset, ci_lookup, ci_maxl, ci_appz, pi_lookup, pi_maxl, pu_lookup, pu_maxl, maxl_nil, maxl_one, maxl_cons, cells_mapr, stor_mapr, callv_yld, mm_max, mm_min, putAll_cons, putAll_nil, asgK_normal, roundK_normal, roundK_ret, roundK_exit, part_cell, part_agg, *]
    | (refine retK_now ?_)
    | (refine retK_now' ?_)
    | (intro q hq)
    | (refine cond_intro (fun hc => ?_) (fun hc => ?_)))
  rename_i q1 hq1 q2 hq2
  revert q
  intro q3 hq3
  refine seqK_now ?_
  refine cmd_gen (fun H => O.sub H ∧ H q1 = some (.arr 28 2 [(.agg [.val (.int .u8 1), .val (.int .i64 0)])]) ∧ H q2 = some (.arr 28 2 [(.agg [.val (.int .u8 1), .val (.int .i64 1)])]) ∧ H q3 = some (.arr 28 2 [(.agg [.val (.int .u8 2), .val (.int .i64 0)])])) ⟨sub_upd (hq3.2.2.2.2) (sub_upd (hq2.2.2) (sub_upd (hq1) (sub_upd (hq3.2.2.2.2) (sub_upd (hq2.2.2) (sub_upd (hq1) (Heap.sub_refl _)))))), by simp only [Heap.upd_apply, *, if_true, if_false], by simp only [Heap.upd_apply, *, if_true, if_false], by simp only [Heap.upd_apply, *, if_true, if_false]⟩ ?_
  clear hq1 hq2 hq3
  intro H1 hF
  obtain ⟨s0, f1, f2, f3⟩ := hF
  replace s0 := (show Aside _ from s0)
  refine seq_go ?_
  (repeat' first
    | simp (contextual := true) (maxSteps := 4000000) only [fwc, fwe, opsW_gpure, drawW_pure, drawW_gpure, Env.upd_apply, Heap.upd_same, Heap.upd_apply, ite_none, List.getD_cons_zero, List.getD_cons_succ, List.getD_nil, List.length_cons, List.length_nil, List.map_cons, List.map_nil, List.getElem?_cons_zero, List.getElem?_cons_succ, List.getElem?_nil, List.set_cons_zero, List.set_cons_succ, List.take_succ_cons, List.take_zero, List.drop_succ_cons, List.drop_zero, List.nil_append, List.cons_append, List.append_nil, Option.map_some, Option.map_none, Option.bind_some, Option.bind_none, reduceIte, ↓reduceIte, decide_true, decide_false, Bool.true_and, Bool.and_true, Bool.false_and, Bool.and_false, true_and, and_true, and_self, Nat.reduceAdd, Nat.reduceLeDiff, Nat.reduceEqDiff, Nat.zero_add, Nat.add_zero, Nat.le_refl, Nat.zero_le, ge_iff_le, Nat.reduceLT, Nat.zero_lt_succ, Nat.reduceSub, if_true, if_false, forall_const, reduceCtorEq, Bool.not_true, Bool.not_false, Bool.false_eq_true, Int.reduceEq, Int.reduceLT, Int.reduceLE, Int.reduceNeg, Int.reduceToNat, Int.reduceAdd, Int.reduceSub, Nat.reduceMul, Nat.reduceEqDiff, gW_un, gcF_un, gcA_un, ci_mkmap, ci_mapset, ci_lookup, ci_maxl, ci_appz, pi_lookup, pi_maxl, pu_lookup, pu_maxl, maxl_nil, maxl_one, maxl_cons, cells_mapr, stor_mapr, callv_yld, mm_max, mm_min, putAll_cons, putAll_nil, asgK_normal, roundK_normal, roundK_ret, roundK_exit, part_cell, part_agg, *]
    | (refine retK_now ?_)
    | (refine retK_now' ?_)
    | (intro q hq)
    | (refine cond_intro (fun hc => ?_) (fun hc => ?_)))
  revert q
  intro q4 hq4
  refine seqK_now ?_
  refine cmd_gen (fun H => O.sub H ∧ H q1 = some (.arr 28 2 [(.agg [.val (.int .u8 1), .val (.int .i64 0)])]) ∧ H q2 = some (.arr 28 2 [(.agg [.val (.int .u8 1), .val (.int .i64 1)])]) ∧ H q3 = some (.arr 28 2 [(.agg [.val (.int .u8 2), .val (.int .i64 0)])]) ∧ H q4 = some (.arr 35 2 [exX])) ⟨sub_new s0.out hq4, upd_keep hq4 f1, upd_keep hq4 f2, upd_keep hq4 f3, Heap.upd_same _ _ _⟩ ?_
  clear hq4 f1 f2 f3 s0 H1
  intro H2 hF
  obtain ⟨s0, f1, f2, f3, f4⟩ := hF
  replace s0 := (show Aside _ from s0)
  refine seq_go ?_
  (repeat' first
    | simp (contextual := true) (maxSteps := 4000000) only [fwc, fwe, opsW_gpure, drawW_pure, drawW_gpure, Env.upd_apply, Heap.upd_same, Heap.upd_apply, ite_none, List.getD_cons_zero, List.getD_cons_succ, List.getD_nil, List.length_cons, List.length_nil, List.map_cons, List.map_nil, List.getElem?_cons_zero, List.getElem?_cons_succ, List.getElem?_nil, List.set_cons_zero, List.set_cons_succ, List.take_succ_cons, List.take_zero, List.drop_succ_cons, List.drop_zero, List.nil_append, List.cons_append, List.append_nil, Option.map_some, Option.map_none, Option.bind_some, Option.bind_none, reduceIte, ↓reduceIte, decide_true, decide_false, Bool.true_and, Bool.and_true, Bool.false_and, Bool.and_false, true_and, and_true, and_self, Nat.reduceAdd, Nat.reduceLeDiff, Nat.reduceEqDiff, Nat.zero_add, Nat.add_zero, Nat.le_refl, Nat.zero_le, ge_iff_le, Nat.reduceLT, Nat.zero_lt_succ, Nat.reduceSub, if_true, if_false, forall_const, reduceCtorEq, Bool.not_true, Bool.not_false, Bool.false_eq_true, Int.reduceEq, Int.reduceLT, Int.reduceLE, Int.reduceNeg, Int.reduceToNat, Int.reduceAdd, Int.reduceSub, Nat.reduceMul, Nat.reduceEqDiff, gW_un, gcF_un, gcA_un, ci_mkmap, ci_mapset, ci_lookup, ci_maxl, ci_appz, pi_lookup, pi_maxl, pu_lookup, pu_maxl, maxl_nil, maxl_one, maxl_cons, cells_mapr, stor_mapr, callv_yld, mm_max, mm_min, putAll_cons, putAll_nil, asgK_normal, roundK_normal, roundK_ret, roundK_exit, part_cell, part_agg, *]
    | (refine retK_now ?_)
    | (refine retK_now' ?_)
    | (intro q hq)
    | (refine cond_intro (fun hc => ?_) (fun hc => ?_)))
  rename_i q5 hq5 q6 hq6
  revert q
  intro q7 hq7
  have g15 := ne_of f1 (hq5)
  have g16 := ne_of f1 (hq6.2.2)
  have g17 := ne_of f1 (hq7.2.2.2.2)
  have g25 := ne_of f2 (hq5)
  have g26 := ne_of f2 (hq6.2.2)
  have g27 := ne_of f2 (hq7.2.2.2.2)
  have g35 := ne_of f3 (hq5)
  have g36 := ne_of f3 (hq6.2.2)
  have g37 := ne_of f3 (hq7.2.2.2.2)
  have g45 := ne_of f4 (hq5)
  have g46 := ne_of f4 (hq6.2.2)
  have g47 := ne_of f4 (hq7.2.2.2.2)
  refine seqK_now ?_
  refine cmd_gen (fun H => O.sub H ∧ H q1 = some (.arr 28 2 [(.agg [.val (.int .u8 1), .val (.int .i64 0)])]) ∧ H q2 = some (.arr 28 2 [(.agg [.val (.int .u8 1), .val (.int .i64 1)])]) ∧ H q3 = some (.arr 28 2 [(.agg [.val (.int .u8 2), .val (.int .i64 0)])]) ∧ H q4 = some (.arr 35 2 [exX]) ∧ H q5 = some (.arr 26 2 [(.agg [.val (.int .u8 0), .val (.int .i64 1)])]) ∧ H q6 = some (.arr 26 2 [(.agg [.val (.int .u8 0), .val (.int .i64 2)])]) ∧ H q7 = some (.arr 26 2 [(.agg [.val (.int .u8 1), .val (.int .i64 2)])])) ⟨sub_upd (none_of_sub s0.out (hq7.2.2.2.2)) (sub_upd (none_of_sub s0.out (hq6.2.2)) (sub_upd (none_of_sub s0.out (hq5)) (sub_new (sub_new (sub_new s0.out hq5) (by simp only [Heap.upd_apply, *, if_false])) (by simp only [Heap.upd_apply, *, if_false])))), by simp only [Heap.upd_apply, *, if_true, if_false], by simp only [Heap.upd_apply, *, if_true, if_false], by simp only [Heap.upd_apply, *, if_true, if_false], by simp only [Heap.upd_apply, *, if_true, if_false], by simp only [Heap.upd_apply, *, if_true, if_false], by simp only [Heap.upd_apply, *, if_true, if_false], by simp only [Heap.upd_apply, *, if_true, if_false]⟩ ?_
  clear g15 g16 g17 g25 g26 g27 g35 g36 g37 g45 g46 g47 hq5 hq6 hq7 f1 f2 f3 f4 s0 H2
  intro H3 hF
  obtain ⟨s0, f1, f2, f3, f4, f5, f6, f7⟩ := hF
  replace s0 := (show Aside _ from s0)
  refine seq_go ?_
  (repeat' first
    | simp (contextual := true) (maxSteps := 4000000) only [fwc, fwe, opsW_gpure, drawW_pure, drawW_gpure, Env.upd_apply, Heap.upd_same, Heap.upd_apply, ite_none, List.getD_cons_zero, List.getD_cons_succ, List.getD_nil, List.length_cons, List.length_nil, List.map_cons, List.map_nil, List.getElem?_cons_zero, List.getElem?_cons_succ, List.getElem?_nil, List.set_cons_zero, List.set_cons_succ, List.take_succ_cons, List.take_zero, List.drop_succ_cons, List.drop_zero, List.nil_append, List.cons_append, List.append_nil, Option.map_some, Option.map_none, Option.bind_some, Option.bind_none, reduceIte, ↓reduceIte, decide_true, decide_false, Bool.true_and, Bool.and_true, Bool.false_and, Bool.and_false, true_and, and_true, and_self, Nat.reduceAdd, Nat.reduceLeDiff, Nat.reduceEqDiff, Nat.zero_add, Nat.add_zero, Nat.le_refl, Nat.zero_le, ge_iff_le, Nat.reduceLT, Nat.zero_lt_succ, Nat.reduceSub, if_true, if_false, forall_const, reduceCtorEq, Bool.not_true, Bool.not_false, Bool.false_eq_true, Int.reduceEq, Int.reduceLT, Int.reduceLE, Int.reduceNeg, Int.reduceToNat, Int.reduceAdd, Int.reduceSub, Nat.reduceMul, Nat.reduceEqDiff, gW_un, gcF_un, gcA_un, ci_mkmap, ci_mapset, ci_lookup, ci_maxl, ci_appz, pi_lookup, pi_maxl, pu_lookup, pu_maxl, maxl_nil, maxl_one, maxl_cons, cells_mapr, stor_mapr, callv_yld, mm_max, mm_min, putAll_cons, putAll_nil, asgK_normal, roundK_normal, roundK_ret, roundK_exit, part_cell, part_agg, *]
    | (refine retK_now ?_)
    | (refine retK_now' ?_)
    | (intro q hq)
    | (refine cond_intro (fun hc => ?_) (fun hc => ?_)))
  refine hfind.use ?_
  clear hfind
  (repeat' first
    | simp (contextual := true) (maxSteps := 4000000) only [fwc, fwe, opsW_gpure, drawW_pure, drawW_gpure, Env.upd_apply, Heap.upd_same, Heap.upd_apply, ite_none, List.getD_cons_zero, List.getD_cons_succ, List.getD_nil, List.length_cons, List.length_nil, List.map_cons, List.map_nil, List.getElem?_cons_zero, List.getElem?_cons_succ, List.getElem?_nil, List.set_cons_zero, List.set_cons_succ, List.take_succ_cons, List.take_zero, List.drop_succ_cons, List.drop_zero, List.nil_append, List.cons_append, List.append_nil, Option.map_some, Option.map_none, Option.bind_some, Option.bind_none, reduceIte, ↓reduceIte, decide_true, decide_false, Bool.true_and, Bool.and_true, Bool.false_and, Bool.and_false, true_and, and_true, and_self, Nat.reduceAdd, Nat.reduceLeDiff, Nat.reduceEqDiff, Nat.zero_add, Nat.add_zero, Nat.le_refl, Nat.zero_le, ge_iff_le, Nat.reduceLT, Nat.zero_lt_succ, Nat.reduceSub, if_true, if_false, forall_const, reduceCtorEq, Bool.not_true, Bool.not_false, Bool.false_eq_true, Int.reduceEq, Int.reduceLT, Int.reduceLE, Int.reduceNeg, Int.reduceToNat, Int.reduceAdd, Int.reduceSub, Nat.reduceMul, Nat.reduceEqDiff, gW_un, gcF_un, gcA_un, ci_mkmap, ci_mapset, ci_lookup, ci_maxl, ci_appz, pi_lookup, pi_maxl, pu_lookup, pu_maxl, maxl_nil, maxl_one, maxl_cons, cells_mapr, stor_mapr, callv_yld, mm_max, mm_min, putAll_cons, putAll_nil, asgK_normal, roundK_normal, roundK_ret, roundK_exit, part_cell, part_agg, *]
    | (refine retK_now ?_)
    | (refine retK_now' ?_)
    | (intro q hq)
    | (refine cond_intro (fun hc => ?_) (fun hc => ?_)))
  revert q
  intro q8 hq8
  refine seqK_now ?_
  refine cmd_gen (fun H => O.sub H ∧ H q1 = some (.arr 28 2 [(.agg [.val (.int .u8 1), .val (.int .i64 0)])]) ∧ H q2 = some (.arr 28 2 [(.agg [.val (.int .u8 1), .val (.int .i64 1)])]) ∧ H q3 = some (.arr 28 2 [(.agg [.val (.int .u8 2), .val (.int .i64 0)])]) ∧ H q4 = some (.arr 35 2 [exX]) ∧ H q5 = some (.arr 26 2 [(.agg [.val (.int .u8 0), .val (.int .i64 1)])]) ∧ H q6 = some (.arr 26 2 [(.agg [.val (.int .u8 0), .val (.int .i64 2)])]) ∧ H q7 = some (.arr 26 2 [(.agg [.val (.int .u8 1), .val (.int .i64 2)])]) ∧ H q8 = some (.arr 26 2 [(.agg [.val (.int .u8 1), .val (.int .i64 2)])])) ⟨sub_new s0.out hq8, upd_keep hq8 f1, upd_keep hq8 f2, upd_keep hq8 f3, upd_keep hq8 f4, upd_keep hq8 f5, upd_keep hq8 f6, upd_keep hq8 f7, Heap.upd_same _ _ _⟩ ?_
  clear hq8 f1 f2 f3 f4 f5 f6 f7 s0 H3
  intro H4 hF
  obtain ⟨s0, f1, f2, f3, f4, f5, f6, f7, f8⟩ := hF
  replace s0 := (show Aside _ from s0)
  refine seq_go ?_
  refine seq_go ?_
  (repeat' first
    | simp (contextual := true) (maxSteps := 4000000) only [fwc, fwe, opsW_gpure, drawW_pure, drawW_gpure, Env.upd_apply, Heap.upd_same, Heap.upd_apply, ite_none, List.getD_cons_zero, List.getD_cons_succ, List.getD_nil, List.length_cons, List.length_nil, List.map_cons, List.map_nil, List.getElem?_cons_zero, List.getElem?_cons_succ, List.getElem?_nil, List.set_cons_zero, List.set_cons_succ, List.take_succ_cons, List.take_zero, List.drop_succ_cons, List.drop_zero, List.nil_append, List.cons_append, List.append_nil, Option.map_some, Option.map_none, Option.bind_some, Option.bind_none, reduceIte, ↓reduceIte, decide_true, decide_false, Bool.true_and, Bool.and_true, Bool.false_and, Bool.and_false, true_and, and_true, and_self, Nat.reduceAdd, Nat.reduceLeDiff, Nat.reduceEqDiff, Nat.zero_add, Nat.add_zero, Nat.le_refl, Nat.zero_le, ge_iff_le, Nat.reduceLT, Nat.zero_lt_succ, Nat.reduceSub, if_true, if_false, forall_const, reduceCtorEq, Bool.not_true, Bool.not_false, Bool.false_eq_true, Int.reduceEq, Int.reduceLT, Int.reduceLE, Int.reduceNeg, Int.reduceToNat, Int.reduceAdd, Int.reduceSub, Nat.reduceMul, Nat.reduceEqDiff, gW_un, gcF_un, gcA_un, ci_mkmap, ci_mapset, ci_lookup, ci_maxl, ci_appz, pi_lookup, pi_maxl, pu_lookup, pu_maxl, maxl_nil, maxl_one, maxl_cons, cells_mapr, stor_mapr, callv_yld, mm_max, mm_min, putAll_cons, putAll_nil, asgK_normal, roundK_normal, roundK_ret, roundK_exit, part_cell, part_agg, *]
    | (refine retK_now ?_)
    | (refine retK_now' ?_)
    | (intro q hq)
    | (refine cond_intro (fun hc => ?_) (fun hc => ?_)))
  refine hck.use ?_
  clear hck
  (repeat' first
    | simp (contextual := true) (maxSteps := 4000000) only [fwc, fwe, opsW_gpure, drawW_pure, drawW_gpure, Env.upd_apply, Heap.upd_same, Heap.upd_apply, ite_none, List.getD_cons_zero, List.getD_cons_succ, List.getD_nil, List.length_cons, List.length_nil, List.map_cons, List.map_nil, List.getElem?_cons_zero, List.getElem?_cons_succ, List.getElem?_nil, List.set_cons_zero, List.set_cons_succ, List.take_succ_cons, List.take_zero, List.drop_succ_cons, List.drop_zero, List.nil_append, List.cons_append, List.append_nil, Option.map_some, Option.map_none, Option.bind_some, Option.bind_none, reduceIte, ↓reduceIte, decide_true, decide_false, Bool.true_and, Bool.and_true, Bool.false_and, Bool.and_false, true_and, and_true, and_self, Nat.reduceAdd, Nat.reduceLeDiff, Nat.reduceEqDiff, Nat.zero_add, Nat.add_zero, Nat.le_refl, Nat.zero_le, ge_iff_le, Nat.reduceLT, Nat.zero_lt_succ, Nat.reduceSub, if_true, if_false, forall_const, reduceCtorEq, Bool.not_true, Bool.not_false, Bool.false_eq_true, Int.reduceEq, Int.reduceLT, Int.reduceLE, Int.reduceNeg, Int.reduceToNat, Int.reduceAdd, Int.reduceSub, Nat.reduceMul, Nat.reduceEqDiff, gW_un, gcF_un, gcA_un, ci_mkmap, ci_mapset, ci_lookup, ci_maxl, ci_appz, pi_lookup, pi_maxl, pu_lookup, pu_maxl, maxl_nil, maxl_one, maxl_cons, cells_mapr, stor_mapr, callv_yld, mm_max, mm_min, putAll_cons, putAll_nil, asgK_normal, roundK_normal, roundK_ret, roundK_exit, part_cell, part_agg, *]
    | (refine retK_now ?_)
    | (refine retK_now' ?_)
    | (intro q hq)
    | (refine cond_intro (fun hc => ?_) (fun hc => ?_)))
  refine hat2.use ?_
  clear hat2
  (repeat' first
    | simp (contextual := true) (maxSteps := 4000000) only [fwc, fwe, opsW_gpure, drawW_pure, drawW_gpure, Env.upd_apply, Heap.upd_same, Heap.upd_apply, ite_none, List.getD_cons_zero, List.getD_cons_succ, List.getD_nil, List.length_cons, List.length_nil, List.map_cons, List.map_nil, List.getElem?_cons_zero, List.getElem?_cons_succ, List.getElem?_nil, List.set_cons_zero, List.set_cons_succ, List.take_succ_cons, List.take_zero, List.drop_succ_cons, List.drop_zero, List.nil_append, List.cons_append, List.append_nil, Option.map_some, Option.map_none, Option.bind_some, Option.bind_none, reduceIte, ↓reduceIte, decide_true, decide_false, Bool.true_and, Bool.and_true, Bool.false_and, Bool.and_false, true_and, and_true, and_self, Nat.reduceAdd, Nat.reduceLeDiff, Nat.reduceEqDiff, Nat.zero_add, Nat.add_zero, Nat.le_refl, Nat.zero_le, ge_iff_le, Nat.reduceLT, Nat.zero_lt_succ, Nat.reduceSub, if_true, if_false, forall_const, reduceCtorEq, Bool.not_true, Bool.not_false, Bool.false_eq_true, Int.reduceEq, Int.reduceLT, Int.reduceLE, Int.reduceNeg, Int.reduceToNat, Int.reduceAdd, Int.reduceSub, Nat.reduceMul, Nat.reduceEqDiff, gW_un, gcF_un, gcA_un, ci_mkmap, ci_mapset, ci_lookup, ci_maxl, ci_appz, pi_lookup, pi_maxl, pu_lookup, pu_maxl, maxl_nil, maxl_one, maxl_cons, cells_mapr, stor_mapr, callv_yld, mm_max, mm_min, putAll_cons, putAll_nil, asgK_normal, roundK_normal, roundK_ret, roundK_exit, part_cell, part_agg, *]
    | (refine retK_now ?_)
    | (refine retK_now' ?_)
    | (intro q hq)
    | (refine cond_intro (fun hc => ?_) (fun hc => ?_)))
  refine hat1.use ?_
  clear hat1
  (repeat' first
    | simp (contextual := true) (maxSteps := 4000000) only [fwc, fwe, opsW_gpure, drawW_pure, drawW_gpure, Env.upd_apply, Heap.upd_same, Heap.upd_apply, ite_none, List.getD_cons_zero, List.getD_cons_succ, List.getD_nil, List.length_cons, List.length_nil, List.map_cons, List.map_nil, List.getElem?_cons_zero, List.getElem?_cons_succ, List.getElem?_nil, List.set_cons_zero, List.set_cons_succ, List.take_succ_cons, List.take_zero, List.drop_succ_cons, List.drop_zero, List.nil_append, List.cons_append, List.append_nil, Option.map_some, Option.map_none, Option.bind_some, Option.bind_none, reduceIte, ↓reduceIte, decide_true, decide_false, Bool.true_and, Bool.and_true, Bool.false_and, Bool.and_false, true_and, and_true, and_self, Nat.reduceAdd, Nat.reduceLeDiff, Nat.reduceEqDiff, Nat.zero_add, Nat.add_zero, Nat.le_refl, Nat.zero_le, ge_iff_le, Nat.reduceLT, Nat.zero_lt_succ, Nat.reduceSub, if_true, if_false, forall_const, reduceCtorEq, Bool.not_true, Bool.not_false, Bool.false_eq_true, Int.reduceEq, Int.reduceLT, Int.reduceLE, Int.reduceNeg, Int.reduceToNat, Int.reduceAdd, Int.reduceSub, Nat.reduceMul, Nat.reduceEqDiff, gW_un, gcF_un, gcA_un, ci_mkmap, ci_mapset, ci_lookup, ci_maxl, ci_appz, pi_lookup, pi_maxl, pu_lookup, pu_maxl, maxl_nil, maxl_one, maxl_cons, cells_mapr, stor_mapr, callv_yld, mm_max, mm_min, putAll_cons, putAll_nil, asgK_normal, roundK_normal, roundK_ret, roundK_exit, part_cell, part_agg, *]
    | (refine retK_now ?_)
    | (refine retK_now' ?_)
    | (intro q hq)
    | (refine cond_intro (fun hc => ?_) (fun hc => ?_)))
  refine hcn.use ?_
  clear hcn
  (repeat' first
    | simp (contextual := true) (maxSteps := 4000000) only [fwc, fwe, opsW_gpure, drawW_pure, drawW_gpure, Env.upd_apply, Heap.upd_same, Heap.upd_apply, ite_none, List.getD_cons_zero, List.getD_cons_succ, List.getD_nil, List.length_cons, List.length_nil, List.map_cons, List.map_nil, List.getElem?_cons_zero, List.getElem?_cons_succ, List.getElem?_nil, List.set_cons_zero, List.set_cons_succ, List.take_succ_cons, List.take_zero, List.drop_succ_cons, List.drop_zero, List.nil_append, List.cons_append, List.append_nil, Option.map_some, Option.map_none, Option.bind_some, Option.bind_none, reduceIte, ↓reduceIte, decide_true, decide_false, Bool.true_and, Bool.and_true, Bool.false_and, Bool.and_false, true_and, and_true, and_self, Nat.reduceAdd, Nat.reduceLeDiff, Nat.reduceEqDiff, Nat.zero_add, Nat.add_zero, Nat.le_refl, Nat.zero_le, ge_iff_le, Nat.reduceLT, Nat.zero_lt_succ, Nat.reduceSub, if_true, if_false, forall_const, reduceCtorEq, Bool.not_true, Bool.not_false, Bool.false_eq_true, Int.reduceEq, Int.reduceLT, Int.reduceLE, Int.reduceNeg, Int.reduceToNat, Int.reduceAdd, Int.reduceSub, Nat.reduceMul, Nat.reduceEqDiff, gW_un, gcF_un, gcA_un, ci_mkmap, ci_mapset, ci_lookup, ci_maxl, ci_appz, pi_lookup, pi_maxl, pu_lookup, pu_maxl, maxl_nil, maxl_one, maxl_cons, cells_mapr, stor_mapr, callv_yld, mm_max, mm_min, putAll_cons, putAll_nil, asgK_normal, roundK_normal, roundK_ret, roundK_exit, part_cell, part_agg, *]
    | (refine retK_now ?_)
    | (refine retK_now' ?_)
    | (intro q hq)
    | (refine cond_intro (fun hc => ?_) (fun hc => ?_)))
  refine seqK_now ?_
  (repeat' first
    | simp (contextual := true) (maxSteps := 4000000) only [fwc, fwe, opsW_gpure, drawW_pure, drawW_gpure, Env.upd_apply, Heap.upd_same, Heap.upd_apply, ite_none, List.getD_cons_zero, List.getD_cons_succ, List.getD_nil, List.length_cons, List.length_nil, List.map_cons, List.map_nil, List.getElem?_cons_zero, List.getElem?_cons_succ, List.getElem?_nil, List.set_cons_zero, List.set_cons_succ, List.take_succ_cons, List.take_zero, List.drop_succ_cons, List.drop_zero, List.nil_append, List.cons_append, List.append_nil, Option.map_some, Option.map_none, Option.bind_some, Option.bind_none, reduceIte, ↓reduceIte, decide_true, decide_false, Bool.true_and, Bool.and_true, Bool.false_and, Bool.and_false, true_and, and_true, and_self, Nat.reduceAdd, Nat.reduceLeDiff, Nat.reduceEqDiff, Nat.zero_add, Nat.add_zero, Nat.le_refl, Nat.zero_le, ge_iff_le, Nat.reduceLT, Nat.zero_lt_succ, Nat.reduceSub, if_true, if_false, forall_const, reduceCtorEq, Bool.not_true, Bool.not_false, Bool.false_eq_true, Int.reduceEq, Int.reduceLT, Int.reduceLE, Int.reduceNeg, Int.reduceToNat, Int.reduceAdd, Int.reduceSub, Nat.reduceMul, Nat.reduceEqDiff, gW_un, gcF_un, gcA_un, ci_mkmap, ci_mapset, ci_lookup, ci_maxl, ci_appz, pi_lookup, pi_maxl, pu_lookup, pu_maxl, maxl_nil, maxl_one, maxl_cons, cells_mapr, stor_mapr, callv_yld, mm_max, mm_min, putAll_cons, putAll_nil, asgK_normal, roundK_normal, roundK_ret, roundK_exit, part_cell, part_agg, *]
    | (refine retK_now ?_)
    | (refine retK_now' ?_)
    | (intro q hq)
    | (refine cond_intro (fun hc => ?_) (fun hc => ?_)))
  refine seqK_now ?_
  clear f8
  refine seq_go ?_
  (repeat' first
    | simp (contextual := true) (maxSteps := 4000000) only [fwc, fwe, opsW_gpure, drawW_pure, drawW_gpure, Env.upd_apply, Heap.upd_same, Heap.upd_apply, ite_none, List.getD_cons_zero, List.getD_cons_succ, List.getD_nil, List.length_cons, List.length_nil, List.map_cons, List.map_nil, List.getElem?_cons_zero, List.getElem?_cons_succ, List.getElem?_nil, List.set_cons_zero, List.set_cons_succ, List.take_succ_cons, List.take_zero, List.drop_succ_cons, List.drop_zero, List.nil_append, List.cons_append, List.append_nil, Option.map_some, Option.map_none, Option.bind_some, Option.bind_none, reduceIte, ↓reduceIte, decide_true, decide_false, Bool.true_and, Bool.and_true, Bool.false_and, Bool.and_false, true_and, and_true, and_self, Nat.reduceAdd, Nat.reduceLeDiff, Nat.reduceEqDiff, Nat.zero_add, Nat.add_zero, Nat.le_refl, Nat.zero_le, ge_iff_le, Nat.reduceLT, Nat.zero_lt_succ, Nat.reduceSub, if_true, if_false, forall_const, reduceCtorEq, Bool.not_true, Bool.not_false, Bool.false_eq_true, Int.reduceEq, Int.reduceLT, Int.reduceLE, Int.reduceNeg, Int.reduceToNat, Int.reduceAdd, Int.reduceSub, Nat.reduceMul, Nat.reduceEqDiff, gW_un, gcF_un, gcA_un, ci_mkmap, ci_mapset, ci_lookup, ci_maxl, ci_appz, pi_lookup, pi_maxl, pu_lookup, pu_maxl, maxl_nil, maxl_one, maxl_cons, cells_mapr, stor_mapr, callv_yld, mm_max, mm_min, putAll_cons, putAll_nil, asgK_normal, roundK_normal, roundK_ret, roundK_exit, part_cell, part_agg, *]
    | (refine retK_now ?_)
    | (refine retK_now' ?_)
    | (intro q hq)
    | (refine cond_intro (fun hc => ?_) (fun hc => ?_)))
  refine hj1.use ?_
  clear hj1
  (repeat' first
    | simp (contextual := true) (maxSteps := 4000000) only [fwc, fwe, opsW_gpure, drawW_pure, drawW_gpure, Env.upd_apply, Heap.upd_same, Heap.upd_apply, ite_none, List.getD_cons_zero, List.getD_cons_succ, List.getD_nil, List.length_cons, List.length_nil, List.map_cons, List.map_nil, List.getElem?_cons_zero, List.getElem?_cons_succ, List.getElem?_nil, List.set_cons_zero, List.set_cons_succ, List.take_succ_cons, List.take_zero, List.drop_succ_cons, List.drop_zero, List.nil_append, List.cons_append, List.append_nil, Option.map_some, Option.map_none, Option.bind_some, Option.bind_none, reduceIte, ↓reduceIte, decide_true, decide_false, Bool.true_and, Bool.and_true, Bool.false_and, Bool.and_false, true_and, and_true, and_self, Nat.reduceAdd, Nat.reduceLeDiff, Nat.reduceEqDiff, Nat.zero_add, Nat.add_zero, Nat.le_refl, Nat.zero_le, ge_iff_le, Nat.reduceLT, Nat.zero_lt_succ, Nat.reduceSub, if_true, if_false, forall_const, reduceCtorEq, Bool.not_true, Bool.not_false, Bool.false_eq_true, Int.reduceEq, Int.reduceLT, Int.reduceLE, Int.reduceNeg, Int.reduceToNat, Int.reduceAdd, Int.reduceSub, Nat.reduceMul, Nat.reduceEqDiff, gW_un, gcF_un, gcA_un, ci_mkmap, ci_mapset, ci_lookup, ci_maxl, ci_appz, pi_lookup, pi_maxl, pu_lookup, pu_maxl, maxl_nil, maxl_one, maxl_cons, cells_mapr, stor_mapr, callv_yld, mm_max, mm_min, putAll_cons, putAll_nil, asgK_normal, roundK_normal, roundK_ret, roundK_exit, part_cell, part_agg, *]
    | (refine retK_now ?_)
    | (refine retK_now' ?_)
    | (intro q hq)
    | (refine cond_intro (fun hc => ?_) (fun hc => ?_)))
  revert q
  intro q10 hq10
  refine seqK_now ?_
  refine cmd_gen (fun H => O.sub H ∧ H q1 = some (.arr 28 2 [(.agg [.val (.int .u8 1), .val (.int .i64 0)])]) ∧ H q2 = some (.arr 28 2 [(.agg [.val (.int .u8 1), .val (.int .i64 1)])]) ∧ H q3 = some (.arr 28 2 [(.agg [.val (.int .u8 2), .val (.int .i64 0)])]) ∧ H q4 = some (.arr 35 2 [exX]) ∧ H q5 = some (.arr 26 2 [(.agg [.val (.int .u8 0), .val (.int .i64 1)])]) ∧ H q6 = some (.arr 26 2 [(.agg [.val (.int .u8 0), .val (.int .i64 2)])]) ∧ H q7 = some (.arr 26 2 [(.agg [.val (.int .u8 1), .val (.int .i64 2)])]) ∧ H q10 = some (.arr 35 2 [.agg [yf, yb]]) ∧ O q10 = none) ⟨sub_new s0.out hq10, upd_keep hq10 f1, upd_keep hq10 f2, upd_keep hq10 f3, upd_keep hq10 f4, upd_keep hq10 f5, upd_keep hq10 f6, upd_keep hq10 f7, Heap.upd_same _ _ _, none_of_sub s0.out hq10⟩ ?_
  clear hq10 f1 f2 f3 f4 f5 f6 f7 s0 H4
  intro H5 hF
  obtain ⟨s0, f1, f2, f3, f4, f5, f6, f7, f10, ho10⟩ := hF
  replace s0 := (show Aside _ from s0)
  refine seq_go ?_
  (repeat' first
    | simp (contextual := true) (maxSteps := 4000000) only [fwc, fwe, opsW_gpure, drawW_pure, drawW_gpure, Env.upd_apply, Heap.upd_same, Heap.upd_apply, ite_none, List.getD_cons_zero, List.getD_cons_succ, List.getD_nil, List.length_cons, List.length_nil, List.map_cons, List.map_nil, List.getElem?_cons_zero, List.getElem?_cons_succ, List.getElem?_nil, List.set_cons_zero, List.set_cons_succ, List.take_succ_cons, List.take_zero, List.drop_succ_cons, List.drop_zero, List.nil_append, List.cons_append, List.append_nil, Option.map_some, Option.map_none, Option.bind_some, Option.bind_none, reduceIte, ↓reduceIte, decide_true, decide_false, Bool.true_and, Bool.and_true, Bool.false_and, Bool.and_false, true_and, and_true, and_self, Nat.reduceAdd, Nat.reduceLeDiff, Nat.reduceEqDiff, Nat.zero_add, Nat.add_zero, Nat.le_refl, Nat.zero_le, ge_iff_le, Nat.reduceLT, Nat.zero_lt_succ, Nat.reduceSub, if_true, if_false, forall_const, reduceCtorEq, Bool.not_true, Bool.not_false, Bool.false_eq_true, Int.reduceEq, Int.reduceLT, Int.reduceLE, Int.reduceNeg, Int.reduceToNat, Int.reduceAdd, Int.reduceSub, Nat.reduceMul, Nat.reduceEqDiff, gW_un, gcF_un, gcA_un, ci_mkmap, ci_mapset, ci_lookup, ci_maxl, ci_appz, pi_lookup, pi_maxl, pu_lookup, pu_maxl, maxl_nil, maxl_one, maxl_cons, cells_mapr, stor_mapr, callv_yld, mm_max, mm_min, putAll_cons, putAll_nil, asgK_normal, roundK_normal, roundK_ret, roundK_exit, part_cell, part_agg, *]
    | (refine retK_now ?_)
    | (refine retK_now' ?_)
    | (intro q hq)
    | (refine cond_intro (fun hc => ?_) (fun hc => ?_)))
  refine hj2.use ?_
  clear hj2
  (repeat' first
    | simp (contextual := true) (maxSteps := 4000000) only [fwc, fwe, opsW_gpure, drawW_pure, drawW_gpure, Env.upd_apply, Heap.upd_same, Heap.upd_apply, ite_none, List.getD_cons_zero, List.getD_cons_succ, List.getD_nil, List.length_cons, List.length_nil, List.map_cons, List.map_nil, List.getElem?_cons_zero, List.getElem?_cons_succ, List.getElem?_nil, List.set_cons_zero, List.set_cons_succ, List.take_succ_cons, List.take_zero, List.drop_succ_cons, List.drop_zero, List.nil_append, List.cons_append, List.append_nil, Option.map_some, Option.map_none, Option.bind_some, Option.bind_none, reduceIte, ↓reduceIte, decide_true, decide_false, Bool.true_and, Bool.and_true, Bool.false_and, Bool.and_false, true_and, and_true, and_self, Nat.reduceAdd, Nat.reduceLeDiff, Nat.reduceEqDiff, Nat.zero_add, Nat.add_zero, Nat.le_refl, Nat.zero_le, ge_iff_le, Nat.reduceLT, Nat.zero_lt_succ, Nat.reduceSub, if_true, if_false, forall_const, reduceCtorEq, Bool.not_true, Bool.not_false, Bool.false_eq_true, Int.reduceEq, Int.reduceLT, Int.reduceLE, Int.reduceNeg, Int.reduceToNat, Int.reduceAdd, Int.reduceSub, Nat.reduceMul, Nat.reduceEqDiff, gW_un, gcF_un, gcA_un, ci_mkmap, ci_mapset, ci_lookup, ci_maxl, ci_appz, pi_lookup, pi_maxl, pu_lookup, pu_maxl, maxl_nil, maxl_one, maxl_cons, cells_mapr, stor_mapr, callv_yld, mm_max, mm_min, putAll_cons, putAll_nil, asgK_normal, roundK_normal, roundK_ret, roundK_exit, part_cell, part_agg, *]
    | (refine retK_now ?_)
    | (refine retK_now' ?_)
    | (intro q hq)
    | (refine cond_intro (fun hc => ?_) (fun hc => ?_)))
  revert q
  intro q11 hq11
  refine seqK_now ?_
  refine cmd_gen (fun H => O.sub H ∧ H q1 = some (.arr 28 2 [(.agg [.val (.int .u8 1), .val (.int .i64 0)])]) ∧ H q2 = some (.arr 28 2 [(.agg [.val (.int .u8 1), .val (.int .i64 1)])]) ∧ H q3 = some (.arr 28 2 [(.agg [.val (.int .u8 2), .val (.int .i64 0)])]) ∧ H q4 = some (.arr 35 2 [exX]) ∧ H q5 = some (.arr 26 2 [(.agg [.val (.int .u8 0), .val (.int .i64 1)])]) ∧ H q6 = some (.arr 26 2 [(.agg [.val (.int .u8 0), .val (.int .i64 2)])]) ∧ H q7 = some (.arr 26 2 [(.agg [.val (.int .u8 1), .val (.int .i64 2)])]) ∧ H q10 = some (.arr 35 2 [.agg [yf, yb]]) ∧ H q11 = some (.arr 35 2 [.agg [zf, zb]]) ∧ O q10 = none) ⟨sub_new s0.out hq11, upd_keep hq11 f1, upd_keep hq11 f2, upd_keep hq11 f3, upd_keep hq11 f4, upd_keep hq11 f5, upd_keep hq11 f6, upd_keep hq11 f7, upd_keep hq11 f10, Heap.upd_same _ _ _, ho10⟩ ?_
  clear hq11 f1 f2 f3 f4 f5 f6 f7 f10 s0 H5 ho10
  intro H6 hF
  obtain ⟨s0, f1, f2, f3, f4, f5, f6, f7, f10, f11, ho10⟩ := hF
  replace s0 := (show Aside _ from s0)
  refine seq_go ?_
  (repeat' first
    | simp (contextual := true) (maxSteps := 4000000) only [fwc, fwe, opsW_gpure, drawW_pure, drawW_gpure, Env.upd_apply, Heap.upd_same, Heap.upd_apply, ite_none, List.getD_cons_zero, List.getD_cons_succ, List.getD_nil, List.length_cons, List.length_nil, List.map_cons, List.map_nil, List.getElem?_cons_zero, List.getElem?_cons_succ, List.getElem?_nil, List.set_cons_zero, List.set_cons_succ, List.take_succ_cons, List.take_zero, List.drop_succ_cons, List.drop_zero, List.nil_append, List.cons_append, List.append_nil, Option.map_some, Option.map_none, Option.bind_some, Option.bind_none, reduceIte, ↓reduceIte, decide_true, decide_false, Bool.true_and, Bool.and_true, Bool.false_and, Bool.and_false, true_and, and_true, and_self, Nat.reduceAdd, Nat.reduceLeDiff, Nat.reduceEqDiff, Nat.zero_add, Nat.add_zero, Nat.le_refl, Nat.zero_le, ge_iff_le, Nat.reduceLT, Nat.zero_lt_succ, Nat.reduceSub, if_true, if_false, forall_const, reduceCtorEq, Bool.not_true, Bool.not_false, Bool.false_eq_true, Int.reduceEq, Int.reduceLT, Int.reduceLE, Int.reduceNeg, Int.reduceToNat, Int.reduceAdd, Int.reduceSub, Nat.reduceMul, Nat.reduceEqDiff, gW_un, gcF_un, gcA_un, ci_mkmap, ci_mapset, ci_lookup, ci_maxl, ci_appz, pi_lookup, pi_maxl, pu_lookup, pu_maxl, maxl_nil, maxl_one, maxl_cons, cells_mapr, stor_mapr, callv_yld, mm_max, mm_min, putAll_cons, putAll_nil, asgK_normal, roundK_normal, roundK_ret, roundK_exit, part_cell, part_agg, *]
    | (refine retK_now ?_)
    | (refine retK_now' ?_)
    | (intro q hq)
    | (refine cond_intro (fun hc => ?_) (fun hc => ?_)))
  refine hj3.use ?_
  clear hj3
  (repeat' first
    | simp (contextual := true) (maxSteps := 4000000) only [fwc, fwe, opsW_gpure, drawW_pure, drawW_gpure, Env.upd_apply, Heap.upd_same, Heap.upd_apply, ite_none, List.getD_cons_zero, List.getD_cons_succ, List.getD_nil, List.length_cons, List.length_nil, List.map_cons, List.map_nil, List.getElem?_cons_zero, List.getElem?_cons_succ, List.getElem?_nil, List.set_cons_zero, List.set_cons_succ, List.take_succ_cons, List.take_zero, List.drop_succ_cons, List.drop_zero, List.nil_append, List.cons_append, List.append_nil, Option.map_some, Option.map_none, Option.bind_some, Option.bind_none, reduceIte, ↓reduceIte, decide_true, decide_false, Bool.true_and, Bool.and_true, Bool.false_and, Bool.and_false, true_and, and_true, and_self, Nat.reduceAdd, Nat.reduceLeDiff, Nat.reduceEqDiff, Nat.zero_add, Nat.add_zero, Nat.le_refl, Nat.zero_le, ge_iff_le, Nat.reduceLT, Nat.zero_lt_succ, Nat.reduceSub, if_true, if_false, forall_const, reduceCtorEq, Bool.not_true, Bool.not_false, Bool.false_eq_true, Int.reduceEq, Int.reduceLT, Int.reduceLE, Int.reduceNeg, Int.reduceToNat, Int.reduceAdd, Int.reduceSub, Nat.reduceMul, Nat.reduceEqDiff, gW_un, gcF_un, gcA_un, ci_mkmap, ci_mapset, ci_lookup, ci_maxl, ci_appz, pi_lookup, pi_maxl, pu_lookup, pu_maxl, maxl_nil, maxl_one, maxl_cons, cells_mapr, stor_mapr, callv_yld, mm_max, mm_min, putAll_cons, putAll_nil, asgK_normal, roundK_normal, roundK_ret, roundK_exit, part_cell, part_agg, *]
    | (refine retK_now ?_)
    | (refine retK_now' ?_)
    | (intro q hq)
    | (refine cond_intro (fun hc => ?_) (fun hc => ?_)))
  revert q
  intro q13 hq13
  refine seqK_now ?_
  refine cmd_gen (fun H => O.sub H ∧ H q1 = some (.arr 28 2 [(.agg [.val (.int .u8 1), .val (.int .i64 0)])]) ∧ H q2 = some (.arr 28 2 [(.agg [.val (.int .u8 1), .val (.int .i64 1)])]) ∧ H q3 = some (.arr 28 2 [(.agg [.val (.int .u8 2), .val (.int .i64 0)])]) ∧ H q4 = some (.arr 35 2 [exX]) ∧ H q5 = some (.arr 26 2 [(.agg [.val (.int .u8 0), .val (.int .i64 1)])]) ∧ H q6 = some (.arr 26 2 [(.agg [.val (.int .u8 0), .val (.int .i64 2)])]) ∧ H q7 = some (.arr 26 2 [(.agg [.val (.int .u8 1), .val (.int .i64 2)])]) ∧ H q10 = some (.arr 35 2 [.agg [yf, yb]]) ∧ H q11 = some (.arr 35 2 [.agg [zf, zb]]) ∧ O q10 = none) ⟨sub_new s0.out hq13, upd_keep hq13 f1, upd_keep hq13 f2, upd_keep hq13 f3, upd_keep hq13 f4, upd_keep hq13 f5, upd_keep hq13 f6, upd_keep hq13 f7, upd_keep hq13 f10, upd_keep hq13 f11, ho10⟩ ?_
  clear hq13 f1 f2 f3 f4 f5 f6 f7 f10 f11 s0 H6 ho10
  intro H7 hF
  obtain ⟨s0, f1, f2, f3, f4, f5, f6, f7, f10, f11, ho10⟩ := hF
  replace s0 := (show Aside _ from s0)
  refine seq_go ?_
  (repeat' first
    | simp (contextual := true) (maxSteps := 4000000) only [fwc, fwe, opsW_gpure, drawW_pure, drawW_gpure, Env.upd_apply, Heap.upd_same, Heap.upd_apply, ite_none, List.getD_cons_zero, List.getD_cons_succ, List.getD_nil, List.length_cons, List.length_nil, List.map_cons, List.map_nil, List.getElem?_cons_zero, List.getElem?_cons_succ, List.getElem?_nil, List.set_cons_zero, List.set_cons_succ, List.take_succ_cons, List.take_zero, List.drop_succ_cons, List.drop_zero, List.nil_append, List.cons_append, List.append_nil, Option.map_some, Option.map_none, Option.bind_some, Option.bind_none, reduceIte, ↓reduceIte, decide_true, decide_false, Bool.true_and, Bool.and_true, Bool.false_and, Bool.and_false, true_and, and_true, and_self, Nat.reduceAdd, Nat.reduceLeDiff, Nat.reduceEqDiff, Nat.zero_add, Nat.add_zero, Nat.le_refl, Nat.zero_le, ge_iff_le, Nat.reduceLT, Nat.zero_lt_succ, Nat.reduceSub, if_true, if_false, forall_const, reduceCtorEq, Bool.not_true, Bool.not_false, Bool.false_eq_true, Int.reduceEq, Int.reduceLT, Int.reduceLE, Int.reduceNeg, Int.reduceToNat, Int.reduceAdd, Int.reduceSub, Nat.reduceMul, Nat.reduceEqDiff, gW_un, gcF_un, gcA_un, ci_mkmap, ci_mapset, ci_lookup, ci_maxl, ci_appz, pi_lookup, pi_maxl, pu_lookup, pu_maxl, maxl_nil, maxl_one, maxl_cons, cells_mapr, stor_mapr, callv_yld, mm_max, mm_min, putAll_cons, putAll_nil, asgK_normal, roundK_normal, roundK_ret, roundK_exit, part_cell, part_agg, *]
    | (refine retK_now ?_)
    | (refine retK_now' ?_)
    | (intro q hq)
    | (refine cond_intro (fun hc => ?_) (fun hc => ?_)))
  refine hj4.use ?_
  clear hj4
  (repeat' first
    | simp (contextual := true) (maxSteps := 4000000) only [fwc, fwe, opsW_gpure, drawW_pure, drawW_gpure, Env.upd_apply, Heap.upd_same, Heap.upd_apply, ite_none, List.getD_cons_zero, List.getD_cons_succ, List.getD_nil, List.length_cons, List.length_nil, List.map_cons, List.map_nil, List.getElem?_cons_zero, List.getElem?_cons_succ, List.getElem?_nil, List.set_cons_zero, List.set_cons_succ, List.take_succ_cons, List.take_zero, List.drop_succ_cons, List.drop_zero, List.nil_append, List.cons_append, List.append_nil, Option.map_some, Option.map_none, Option.bind_some, Option.bind_none, reduceIte, ↓reduceIte, decide_true, decide_false, Bool.true_and, Bool.and_true, Bool.false_and, Bool.and_false, true_and, and_true, and_self, Nat.reduceAdd, Nat.reduceLeDiff, Nat.reduceEqDiff, Nat.zero_add, Nat.add_zero, Nat.le_refl, Nat.zero_le, ge_iff_le, Nat.reduceLT, Nat.zero_lt_succ, Nat.reduceSub, if_true, if_false, forall_const, reduceCtorEq, Bool.not_true, Bool.not_false, Bool.false_eq_true, Int.reduceEq, Int.reduceLT, Int.reduceLE, Int.reduceNeg, Int.reduceToNat, Int.reduceAdd, Int.reduceSub, Nat.reduceMul, Nat.reduceEqDiff, gW_un, gcF_un, gcA_un, ci_mkmap, ci_mapset, ci_lookup, ci_maxl, ci_appz, pi_lookup, pi_maxl, pu_lookup, pu_maxl, maxl_nil, maxl_one, maxl_cons, cells_mapr, stor_mapr, callv_yld, mm_max, mm_min, putAll_cons, putAll_nil, asgK_normal, roundK_normal, roundK_ret, roundK_exit, part_cell, part_agg, *]
    | (refine retK_now ?_)
    | (refine retK_now' ?_)
    | (intro q hq)
    | (refine cond_intro (fun hc => ?_) (fun hc => ?_)))
  revert q
  intro q15 hq15
  refine seqK_now ?_
  refine cmd_gen (fun H => O.sub H ∧ H q1 = some (.arr 28 2 [(.agg [.val (.int .u8 1), .val (.int .i64 0)])]) ∧ H q2 = some (.arr 28 2 [(.agg [.val (.int .u8 1), .val (.int .i64 1)])]) ∧ H q3 = some (.arr 28 2 [(.agg [.val (.int .u8 2), .val (.int .i64 0)])]) ∧ H q4 = some (.arr 35 2 [exX]) ∧ H q5 = some (.arr 26 2 [(.agg [.val (.int .u8 0), .val (.int .i64 1)])]) ∧ H q6 = some (.arr 26 2 [(.agg [.val (.int .u8 0), .val (.int .i64 2)])]) ∧ H q7 = some (.arr 26 2 [(.agg [.val (.int .u8 1), .val (.int .i64 2)])]) ∧ H q10 = some (.arr 35 2 [.agg [yf, yb]]) ∧ H q11 = some (.arr 35 2 [.agg [zf, zb]]) ∧ O q10 = none) ⟨sub_new s0.out hq15, upd_keep hq15 f1, upd_keep hq15 f2, upd_keep hq15 f3, upd_keep hq15 f4, upd_keep hq15 f5, upd_keep hq15 f6, upd_keep hq15 f7, upd_keep hq15 f10, upd_keep hq15 f11, ho10⟩ ?_
  clear hq15 f1 f2 f3 f4 f5 f6 f7 f10 f11 s0 H7 ho10
  intro H8 hF
  obtain ⟨s0, f1, f2, f3, f4, f5, f6, f7, f10, f11, ho10⟩ := hF
  replace s0 := (show Aside _ from s0)
  refine seq_go ?_
  refine seq_go ?_
  (repeat' first
    | simp (contextual := true) (maxSteps := 4000000) only [fwc, fwe, opsW_gpure, drawW_pure, drawW_gpure, Env.upd_apply, Heap.upd_same, Heap.upd_apply, ite_none, List.getD_cons_zero, List.getD_cons_succ, List.getD_nil, List.length_cons, List.length_nil, List.map_cons, List.map_nil, List.getElem?_cons_zero, List.getElem?_cons_succ, List.getElem?_nil, List.set_cons_zero, List.set_cons_succ, List.take_succ_cons, List.take_zero, List.drop_succ_cons, List.drop_zero, List.nil_append, List.cons_append, List.append_nil, Option.map_some, Option.map_none, Option.bind_some, Option.bind_none, reduceIte, ↓reduceIte, decide_true, decide_false, Bool.true_and, Bool.and_true, Bool.false_and, Bool.and_false, true_and, and_true, and_self, Nat.reduceAdd, Nat.reduceLeDiff, Nat.reduceEqDiff, Nat.zero_add, Nat.add_zero, Nat.le_refl, Nat.zero_le, ge_iff_le, Nat.reduceLT, Nat.zero_lt_succ, Nat.reduceSub, if_true, if_false, forall_const, reduceCtorEq, Bool.not_true, Bool.not_false, Bool.false_eq_true, Int.reduceEq, Int.reduceLT, Int.reduceLE, Int.reduceNeg, Int.reduceToNat, Int.reduceAdd, Int.reduceSub, Nat.reduceMul, Nat.reduceEqDiff, gW_un, gcF_un, gcA_un, ci_mkmap, ci_mapset, ci_lookup, ci_maxl, ci_appz, pi_lookup, pi_maxl, pu_lookup, pu_maxl, maxl_nil, maxl_one, maxl_cons, cells_mapr, stor_mapr, callv_yld, mm_max, mm_min, putAll_cons, putAll_nil, asgK_normal, roundK_normal, roundK_ret, roundK_exit, part_cell, part_agg, *]
    | (refine retK_now ?_)
    | (refine retK_now' ?_)
    | (intro q hq)
    | (refine cond_intro (fun hc => ?_) (fun hc => ?_)))
  refine callF_use hay ?_
  clear hay
  (repeat' first
    | simp (contextual := true) (maxSteps := 4000000) only [fwc, fwe, opsW_gpure, drawW_pure, drawW_gpure, Env.upd_apply, Heap.upd_same, Heap.upd_apply, ite_none, List.getD_cons_zero, List.getD_cons_succ, List.getD_nil, List.length_cons, List.length_nil, List.map_cons, List.map_nil, List.getElem?_cons_zero, List.getElem?_cons_succ, List.getElem?_nil, List.set_cons_zero, List.set_cons_succ, List.take_succ_cons, List.take_zero, List.drop_succ_cons, List.drop_zero, List.nil_append, List.cons_append, List.append_nil, Option.map_some, Option.map_none, Option.bind_some, Option.bind_none, reduceIte, ↓reduceIte, decide_true, decide_false, Bool.true_and, Bool.and_true, Bool.false_and, Bool.and_false, true_and, and_true, and_self, Nat.reduceAdd, Nat.reduceLeDiff, Nat.reduceEqDiff, Nat.zero_add, Nat.add_zero, Nat.le_refl, Nat.zero_le, ge_iff_le, Nat.reduceLT, Nat.zero_lt_succ, Nat.reduceSub, if_true, if_false, forall_const, reduceCtorEq, Bool.not_true, Bool.not_false, Bool.false_eq_true, Int.reduceEq, Int.reduceLT, Int.reduceLE, Int.reduceNeg, Int.reduceToNat, Int.reduceAdd, Int.reduceSub, Nat.reduceMul, Nat.reduceEqDiff, gW_un, gcF_un, gcA_un, ci_mkmap, ci_mapset, ci_lookup, ci_maxl, ci_appz, pi_lookup, pi_maxl, pu_lookup, pu_maxl, maxl_nil, maxl_one, maxl_cons, cells_mapr, stor_mapr, callv_yld, mm_max, mm_min, putAll_cons, putAll_nil, asgK_normal, roundK_normal, roundK_ret, roundK_exit, part_cell, part_agg, *]
    | (refine retK_now ?_)
    | (refine retK_now' ?_)
    | (intro q hq)
    | (refine cond_intro (fun hc => ?_) (fun hc => ?_)))
  refine callF_use hs1 ?_
  clear hs1
  (repeat' first
    | simp (contextual := true) (maxSteps := 4000000) only [fwc, fwe, opsW_gpure, drawW_pure, drawW_gpure, Env.upd_apply, Heap.upd_same, Heap.upd_apply, ite_none, List.getD_cons_zero, List.getD_cons_succ, List.getD_nil, List.length_cons, List.length_nil, List.map_cons, List.map_nil, List.getElem?_cons_zero, List.getElem?_cons_succ, List.getElem?_nil, List.set_cons_zero, List.set_cons_succ, List.take_succ_cons, List.take_zero, List.drop_succ_cons, List.drop_zero, List.nil_append, List.cons_append, List.append_nil, Option.map_some, Option.map_none, Option.bind_some, Option.bind_none, reduceIte, ↓reduceIte, decide_true, decide_false, Bool.true_and, Bool.and_true, Bool.false_and, Bool.and_false, true_and, and_true, and_self, Nat.reduceAdd, Nat.reduceLeDiff, Nat.reduceEqDiff, Nat.zero_add, Nat.add_zero, Nat.le_refl, Nat.zero_le, ge_iff_le, Nat.reduceLT, Nat.zero_lt_succ, Nat.reduceSub, if_true, if_false, forall_const, reduceCtorEq, Bool.not_true, Bool.not_false, Bool.false_eq_true, Int.reduceEq, Int.reduceLT, Int.reduceLE, Int.reduceNeg, Int.reduceToNat, Int.reduceAdd, Int.reduceSub, Nat.reduceMul, Nat.reduceEqDiff, gW_un, gcF_un, gcA_un, ci_mkmap, ci_mapset, ci_lookup, ci_maxl, ci_appz, pi_lookup, pi_maxl, pu_lookup, pu_maxl, maxl_nil, maxl_one, maxl_cons, cells_mapr, stor_mapr, callv_yld, mm_max, mm_min, putAll_cons, putAll_nil, asgK_normal, roundK_normal, roundK_ret, roundK_exit, part_cell, part_agg, *]
    | (refine retK_now ?_)
    | (refine retK_now' ?_)
    | (intro q hq)
    | (refine cond_intro (fun hc => ?_) (fun hc => ?_)))
  refine callF_use haz ?_
  clear haz
  (repeat' first
    | simp (contextual := true) (maxSteps := 4000000) only [fwc, fwe, opsW_gpure, drawW_pure, drawW_gpure, Env.upd_apply, Heap.upd_same, Heap.upd_apply, ite_none, List.getD_cons_zero, List.getD_cons_succ, List.getD_nil, List.length_cons, List.length_nil, List.map_cons, List.map_nil, List.getElem?_cons_zero, List.getElem?_cons_succ, List.getElem?_nil, List.set_cons_zero, List.set_cons_succ, List.take_succ_cons, List.take_zero, List.drop_succ_cons, List.drop_zero, List.nil_append, List.cons_append, List.append_nil, Option.map_some, Option.map_none, Option.bind_some, Option.bind_none, reduceIte, ↓reduceIte, decide_true, decide_false, Bool.true_and, Bool.and_true, Bool.false_and, Bool.and_false, true_and, and_true, and_self, Nat.reduceAdd, Nat.reduceLeDiff, Nat.reduceEqDiff, Nat.zero_add, Nat.add_zero, Nat.le_refl, Nat.zero_le, ge_iff_le, Nat.reduceLT, Nat.zero_lt_succ, Nat.reduceSub, if_true, if_false, forall_const, reduceCtorEq, Bool.not_true, Bool.not_false, Bool.false_eq_true, Int.reduceEq, Int.reduceLT, Int.reduceLE, Int.reduceNeg, Int.reduceToNat, Int.reduceAdd, Int.reduceSub, Nat.reduceMul, Nat.reduceEqDiff, gW_un, gcF_un, gcA_un, ci_mkmap, ci_mapset, ci_lookup, ci_maxl, ci_appz, pi_lookup, pi_maxl, pu_lookup, pu_maxl, maxl_nil, maxl_one, maxl_cons, cells_mapr, stor_mapr, callv_yld, mm_max, mm_min, putAll_cons, putAll_nil, asgK_normal, roundK_normal, roundK_ret, roundK_exit, part_cell, part_agg, *]
    | (refine retK_now ?_)
    | (refine retK_now' ?_)
    | (intro q hq)
    | (refine cond_intro (fun hc => ?_) (fun hc => ?_)))
  refine callF_use hs2 ?_
  clear hs2
  (repeat' first
    | simp (contextual := true) (maxSteps := 4000000) only [fwc, fwe, opsW_gpure, drawW_pure, drawW_gpure, Env.upd_apply, Heap.upd_same, Heap.upd_apply, ite_none, List.getD_cons_zero, List.getD_cons_succ, List.getD_nil, List.length_cons, List.length_nil, List.map_cons, List.map_nil, List.getElem?_cons_zero, List.getElem?_cons_succ, List.getElem?_nil, List.set_cons_zero, List.set_cons_succ, List.take_succ_cons, List.take_zero, List.drop_succ_cons, List.drop_zero, List.nil_append, List.cons_append, List.append_nil, Option.map_some, Option.map_none, Option.bind_some, Option.bind_none, reduceIte, ↓reduceIte, decide_true, decide_false, Bool.true_and, Bool.and_true, Bool.false_and, Bool.and_false, true_and, and_true, and_self, Nat.reduceAdd, Nat.reduceLeDiff, Nat.reduceEqDiff, Nat.zero_add, Nat.add_zero, Nat.le_refl, Nat.zero_le, ge_iff_le, Nat.reduceLT, Nat.zero_lt_succ, Nat.reduceSub, if_true, if_false, forall_const, reduceCtorEq, Bool.not_true, Bool.not_false, Bool.false_eq_true, Int.reduceEq, Int.reduceLT, Int.reduceLE, Int.reduceNeg, Int.reduceToNat, Int.reduceAdd, Int.reduceSub, Nat.reduceMul, Nat.reduceEqDiff, gW_un, gcF_un, gcA_un, ci_mkmap, ci_mapset, ci_lookup, ci_maxl, ci_appz, pi_lookup, pi_maxl, pu_lookup, pu_maxl, maxl_nil, maxl_one, maxl_cons, cells_mapr, stor_mapr, callv_yld, mm_max, mm_min, putAll_cons, putAll_nil, asgK_normal, roundK_normal, roundK_ret, roundK_exit, part_cell, part_agg, *]
    | (refine retK_now ?_)
    | (refine retK_now' ?_)
    | (intro q hq)
    | (refine cond_intro (fun hc => ?_) (fun hc => ?_)))
  refine seqK_now ?_
  (repeat' first
    | simp (contextual := true) (maxSteps := 4000000) only [fwc, fwe, opsW_gpure, drawW_pure, drawW_gpure, Env.upd_apply, Heap.upd_same, Heap.upd_apply, ite_none, List.getD_cons_zero, List.getD_cons_succ, List.getD_nil, List.length_cons, List.length_nil, List.map_cons, List.map_nil, List.getElem?_cons_zero, List.getElem?_cons_succ, List.getElem?_nil, List.set_cons_zero, List.set_cons_succ, List.take_succ_cons, List.take_zero, List.drop_succ_cons, List.drop_zero, List.nil_append, List.cons_append, List.append_nil, Option.map_some, Option.map_none, Option.bind_some, Option.bind_none, reduceIte, ↓reduceIte, decide_true, decide_false, Bool.true_and, Bool.and_true, Bool.false_and, Bool.and_false, true_and, and_true, and_self, Nat.reduceAdd, Nat.reduceLeDiff, Nat.reduceEqDiff, Nat.zero_add, Nat.add_zero, Nat.le_refl, Nat.zero_le, ge_iff_le, Nat.reduceLT, Nat.zero_lt_succ, Nat.reduceSub, if_true, if_false, forall_const, reduceCtorEq, Bool.not_true, Bool.not_false, Bool.false_eq_true, Int.reduceEq, Int.reduceLT, Int.reduceLE, Int.reduceNeg, Int.reduceToNat, Int.reduceAdd, Int.reduceSub, Nat.reduceMul, Nat.reduceEqDiff, gW_un, gcF_un, gcA_un, ci_mkmap, ci_mapset, ci_lookup, ci_maxl, ci_appz, pi_lookup, pi_maxl, pu_lookup, pu_maxl, maxl_nil, maxl_one, maxl_cons, cells_mapr, stor_mapr, callv_yld, mm_max, mm_min, putAll_cons, putAll_nil, asgK_normal, roundK_normal, roundK_ret, roundK_exit, part_cell, part_agg, *]
    | (refine retK_now ?_)
    | (refine retK_now' ?_)
    | (intro q hq)
    | (refine cond_intro (fun hc => ?_) (fun hc => ?_)))
  refine seqK_now ?_
  refine seq_go ?_
  (repeat' first
    | simp (contextual := true) (maxSteps := 4000000) only [fwc, fwe, opsW_gpure, drawW_pure, drawW_gpure, Env.upd_apply, Heap.upd_same, Heap.upd_apply, ite_none, List.getD_cons_zero, List.getD_cons_succ, List.getD_nil, List.length_cons, List.length_nil, List.map_cons, List.map_nil, List.getElem?_cons_zero, List.getElem?_cons_succ, List.getElem?_nil, List.set_cons_zero, List.set_cons_succ, List.take_succ_cons, List.take_zero, List.drop_succ_cons, List.drop_zero, List.nil_append, List.cons_append, List.append_nil, Option.map_some, Option.map_none, Option.bind_some, Option.bind_none, reduceIte, ↓reduceIte, decide_true, decide_false, Bool.true_and, Bool.and_true, Bool.false_and, Bool.and_false, true_and, and_true, and_self, Nat.reduceAdd, Nat.reduceLeDiff, Nat.reduceEqDiff, Nat.zero_add, Nat.add_zero, Nat.le_refl, Nat.zero_le, ge_iff_le, Nat.reduceLT, Nat.zero_lt_succ, Nat.reduceSub, if_true, if_false, forall_const, reduceCtorEq, Bool.not_true, Bool.not_false, Bool.false_eq_true, Int.reduceEq, Int.reduceLT, Int.reduceLE, Int.reduceNeg, Int.reduceToNat, Int.reduceAdd, Int.reduceSub, Nat.reduceMul, Nat.reduceEqDiff, gW_un, gcF_un, gcA_un, ci_mkmap, ci_mapset, ci_lookup, ci_maxl, ci_appz, pi_lookup, pi_maxl, pu_lookup, pu_maxl, maxl_nil, maxl_one, maxl_cons, cells_mapr, stor_mapr, callv_yld, mm_max, mm_min, putAll_cons, putAll_nil, asgK_normal, roundK_normal, roundK_ret, roundK_exit, part_cell, part_agg, *]
    | (refine retK_now ?_)
    | (refine retK_now' ?_)
    | (intro q hq)
    | (refine cond_intro (fun hc => ?_) (fun hc => ?_)))
  refine hset1.use ?_
  clear hset1
  (repeat' first
    | simp (contextual := true) (maxSteps := 4000000) only [fwc, fwe, opsW_gpure, drawW_pure, drawW_gpure, Env.upd_apply, Heap.upd_same, Heap.upd_apply, ite_none, List.getD_cons_zero, List.getD_cons_succ, List.getD_nil, List.length_cons, List.length_nil, List.map_cons, List.map_nil, List.getElem?_cons_zero, List.getElem?_cons_succ, List.getElem?_nil, List.set_cons_zero, List.set_cons_succ, List.take_succ_cons, List.take_zero, List.drop_succ_cons, List.drop_zero, List.nil_append, List.cons_append, List.append_nil, Option.map_some, Option.map_none, Option.bind_some, Option.bind_none, reduceIte, ↓reduceIte, decide_true, decide_false, Bool.true_and, Bool.and_true, Bool.false_and, Bool.and_false, true_and, and_true, and_self, Nat.reduceAdd, Nat.reduceLeDiff, Nat.reduceEqDiff, Nat.zero_add, Nat.add_zero, Nat.le_refl, Nat.zero_le, ge_iff_le, Nat.reduceLT, Nat.zero_lt_succ, Nat.reduceSub, if_true, if_false, forall_const, reduceCtorEq, Bool.not_true, Bool.not_false, Bool.false_eq_true, Int.reduceEq, Int.reduceLT, Int.reduceLE, Int.reduceNeg, Int.reduceToNat, Int.reduceAdd, Int.reduceSub, Nat.reduceMul, Nat.reduceEqDiff, gW_un, gcF_un, gcA_un, ci_mkmap, ci_mapset, ci_lookup, ci_maxl, ci_appz, pi_lookup, pi_maxl, pu_lookup, pu_maxl, maxl_nil, maxl_one, maxl_cons, cells_mapr, stor_mapr, callv_yld, mm_max, mm_min, putAll_cons, putAll_nil, asgK_normal, roundK_normal, roundK_ret, roundK_exit, part_cell, part_agg, *]
    | (refine retK_now ?_)
    | (refine retK_now' ?_)
    | (intro q hq)
    | (refine cond_intro (fun hc => ?_) (fun hc => ?_)))
  refine seqK_now ?_
  refine seq_go ?_
  (repeat' first
    | simp (contextual := true) (maxSteps := 4000000) only [fwc, fwe, opsW_gpure, drawW_pure, drawW_gpure, Env.upd_apply, Heap.upd_same, Heap.upd_apply, ite_none, List.getD_cons_zero, List.getD_cons_succ, List.getD_nil, List.length_cons, List.length_nil, List.map_cons, List.map_nil, List.getElem?_cons_zero, List.getElem?_cons_succ, List.getElem?_nil, List.set_cons_zero, List.set_cons_succ, List.take_succ_cons, List.take_zero, List.drop_succ_cons, List.drop_zero, List.nil_append, List.cons_append, List.append_nil, Option.map_some, Option.map_none, Option.bind_some, Option.bind_none, reduceIte, ↓reduceIte, decide_true, decide_false, Bool.true_and, Bool.and_true, Bool.false_and, Bool.and_false, true_and, and_true, and_self, Nat.reduceAdd, Nat.reduceLeDiff, Nat.reduceEqDiff, Nat.zero_add, Nat.add_zero, Nat.le_refl, Nat.zero_le, ge_iff_le, Nat.reduceLT, Nat.zero_lt_succ, Nat.reduceSub, if_true, if_false, forall_const, reduceCtorEq, Bool.not_true, Bool.not_false, Bool.false_eq_true, Int.reduceEq, Int.reduceLT, Int.reduceLE, Int.reduceNeg, Int.reduceToNat, Int.reduceAdd, Int.reduceSub, Nat.reduceMul, Nat.reduceEqDiff, gW_un, gcF_un, gcA_un, ci_mkmap, ci_mapset, ci_lookup, ci_maxl, ci_appz, pi_lookup, pi_maxl, pu_lookup, pu_maxl, maxl_nil, maxl_one, maxl_cons, cells_mapr, stor_mapr, callv_yld, mm_max, mm_min, putAll_cons, putAll_nil, asgK_normal, roundK_normal, roundK_ret, roundK_exit, part_cell, part_agg, *]
    | (refine retK_now ?_)
    | (refine retK_now' ?_)
    | (intro q hq)
    | (refine cond_intro (fun hc => ?_) (fun hc => ?_)))
  refine hset2.use ?_
  clear hset2
  (repeat' first
    | simp (contextual := true) (maxSteps := 4000000) only [fwc, fwe, opsW_gpure, drawW_pure, drawW_gpure, Env.upd_apply, Heap.upd_same, Heap.upd_apply, ite_none, List.getD_cons_zero, List.getD_cons_succ, List.getD_nil, List.length_cons, List.length_nil, List.map_cons, List.map_nil, List.getElem?_cons_zero, List.getElem?_cons_succ, List.getElem?_nil, List.set_cons_zero, List.set_cons_succ, List.take_succ_cons, List.take_zero, List.drop_succ_cons, List.drop_zero, List.nil_append, List.cons_append, List.append_nil, Option.map_some, Option.map_none, Option.bind_some, Option.bind_none, reduceIte, ↓reduceIte, decide_true, decide_false, Bool.true_and, Bool.and_true, Bool.false_and, Bool.and_false, true_and, and_true, and_self, Nat.reduceAdd, Nat.reduceLeDiff, Nat.reduceEqDiff, Nat.zero_add, Nat.add_zero, Nat.le_refl, Nat.zero_le, ge_iff_le, Nat.reduceLT, Nat.zero_lt_succ, Nat.reduceSub, if_true, if_false, forall_const, reduceCtorEq, Bool.not_true, Bool.not_false, Bool.false_eq_true, Int.reduceEq, Int.reduceLT, Int.reduceLE, Int.reduceNeg, Int.reduceToNat, Int.reduceAdd, Int.reduceSub, Nat.reduceMul, Nat.reduceEqDiff, gW_un, gcF_un, gcA_un, ci_mkmap, ci_mapset, ci_lookup, ci_maxl, ci_appz, pi_lookup, pi_maxl, pu_lookup, pu_maxl, maxl_nil, maxl_one, maxl_cons, cells_mapr, stor_mapr, callv_yld, mm_max, mm_min, putAll_cons, putAll_nil, asgK_normal, roundK_normal, roundK_ret, roundK_exit, part_cell, part_agg, *]
    | (refine retK_now ?_)
    | (refine retK_now' ?_)
    | (intro q hq)
    | (refine cond_intro (fun hc => ?_) (fun hc => ?_)))
  refine seqK_now ?_
  have e1 : ¬ q2 = q10 := fun e => by rw [e, f10] at f2; simp at f2
  have e2 : ¬ q6 = q10 := fun e => by rw [e, f10] at f6; simp at f6
  replace ho10 := (show Aside _ from ho10)
  refine seq_go ?_
  (repeat' first
    | simp (contextual := true) (maxSteps := 4000000) only [fwc, fwe, opsW_gpure, drawW_pure, drawW_gpure, Env.upd_apply, Heap.upd_same, Heap.upd_apply, ite_none, List.getD_cons_zero, List.getD_cons_succ, List.getD_nil, List.length_cons, List.length_nil, List.map_cons, List.map_nil, List.getElem?_cons_zero, List.getElem?_cons_succ, List.getElem?_nil, List.set_cons_zero, List.set_cons_succ, List.take_succ_cons, List.take_zero, List.drop_succ_cons, List.drop_zero, List.nil_append, List.cons_append, List.append_nil, Option.map_some, Option.map_none, Option.bind_some, Option.bind_none, reduceIte, ↓reduceIte, decide_true, decide_false, Bool.true_and, Bool.and_true, Bool.false_and, Bool.and_false, true_and, and_true, and_self, Nat.reduceAdd, Nat.reduceLeDiff, Nat.reduceEqDiff, Nat.zero_add, Nat.add_zero, Nat.le_refl, Nat.zero_le, ge_iff_le, Nat.reduceLT, Nat.zero_lt_succ, Nat.reduceSub, if_true, if_false, forall_const, reduceCtorEq, Bool.not_true, Bool.not_false, Bool.false_eq_true, Int.reduceEq, Int.reduceLT, Int.reduceLE, Int.reduceNeg, Int.reduceToNat, Int.reduceAdd, Int.reduceSub, Nat.reduceMul, Nat.reduceEqDiff, gW_un, gcF_un, gcA_un, ci_mkmap, ci_mapset, ci_lookup, ci_maxl, ci_appz, pi_lookup, pi_maxl, pu_lookup, pu_maxl, maxl_nil, maxl_one, maxl_cons, cells_mapr, stor_mapr, callv_yld, mm_max, mm_min, putAll_cons, putAll_nil, asgK_normal, roundK_normal, roundK_ret, roundK_exit, part_cell, part_agg, *]
    | (refine retK_now ?_)
    | (refine retK_now' ?_)
    | (intro q hq)
    | (refine cond_intro (fun hc => ?_) (fun hc => ?_)))
  refine callF_use hav ?_
  clear hav
  (repeat' first
    | simp (contextual := true) (maxSteps := 4000000) only [fwc, fwe, opsW_gpure, drawW_pure, drawW_gpure, Env.upd_apply, Heap.upd_same, Heap.upd_apply, ite_none, List.getD_cons_zero, List.getD_cons_succ, List.getD_nil, List.length_cons, List.length_nil, List.map_cons, List.map_nil, List.getElem?_cons_zero, List.getElem?_cons_succ, List.getElem?_nil, List.set_cons_zero, List.set_cons_succ, List.take_succ_cons, List.take_zero, List.drop_succ_cons, List.drop_zero, List.nil_append, List.cons_append, List.append_nil, Option.map_some, Option.map_none, Option.bind_some, Option.bind_none, reduceIte, ↓reduceIte, decide_true, decide_false, Bool.true_and, Bool.and_true, Bool.false_and, Bool.and_false, true_and, and_true, and_self, Nat.reduceAdd, Nat.reduceLeDiff, Nat.reduceEqDiff, Nat.zero_add, Nat.add_zero, Nat.le_refl, Nat.zero_le, ge_iff_le, Nat.reduceLT, Nat.zero_lt_succ, Nat.reduceSub, if_true, if_false, forall_const, reduceCtorEq, Bool.not_true, Bool.not_false, Bool.false_eq_true, Int.reduceEq, Int.reduceLT, Int.reduceLE, Int.reduceNeg, Int.reduceToNat, Int.reduceAdd, Int.reduceSub, Nat.reduceMul, Nat.reduceEqDiff, gW_un, gcF_un, gcA_un, ci_mkmap, ci_mapset, ci_lookup, ci_maxl, ci_appz, pi_lookup, pi_maxl, pu_lookup, pu_maxl, maxl_nil, maxl_one, maxl_cons, cells_mapr, stor_mapr, callv_yld, mm_max, mm_min, putAll_cons, putAll_nil, asgK_normal, roundK_normal, roundK_ret, roundK_exit, part_cell, part_agg, *]
    | (refine retK_now ?_)
    | (refine retK_now' ?_)
    | (intro q hq)
    | (refine cond_intro (fun hc => ?_) (fun hc => ?_)))
  refine callF_use hs3 ?_
  clear hs3
  (repeat' first
    | simp (contextual := true) (maxSteps := 4000000) only [fwc, fwe, opsW_gpure, drawW_pure, drawW_gpure, Env.upd_apply, Heap.upd_same, Heap.upd_apply, ite_none, List.getD_cons_zero, List.getD_cons_succ, List.getD_nil, List.length_cons, List.length_nil, List.map_cons, List.map_nil, List.getElem?_cons_zero, List.getElem?_cons_succ, List.getElem?_nil, List.set_cons_zero, List.set_cons_succ, List.take_succ_cons, List.take_zero, List.drop_succ_cons, List.drop_zero, List.nil_append, List.cons_append, List.append_nil, Option.map_some, Option.map_none, Option.bind_some, Option.bind_none, reduceIte, ↓reduceIte, decide_true, decide_false, Bool.true_and, Bool.and_true, Bool.false_and, Bool.and_false, true_and, and_true, and_self, Nat.reduceAdd, Nat.reduceLeDiff, Nat.reduceEqDiff, Nat.zero_add, Nat.add_zero, Nat.le_refl, Nat.zero_le, ge_iff_le, Nat.reduceLT, Nat.zero_lt_succ, Nat.reduceSub, if_true, if_false, forall_const, reduceCtorEq, Bool.not_true, Bool.not_false, Bool.false_eq_true, Int.reduceEq, Int.reduceLT, Int.reduceLE, Int.reduceNeg, Int.reduceToNat, Int.reduceAdd, Int.reduceSub, Nat.reduceMul, Nat.reduceEqDiff, gW_un, gcF_un, gcA_un, ci_mkmap, ci_mapset, ci_lookup, ci_maxl, ci_appz, pi_lookup, pi_maxl, pu_lookup, pu_maxl, maxl_nil, maxl_one, maxl_cons, cells_mapr, stor_mapr, callv_yld, mm_max, mm_min, putAll_cons, putAll_nil, asgK_normal, roundK_normal, roundK_ret, roundK_exit, part_cell, part_agg, *]
    | (refine retK_now ?_)
    | (refine retK_now' ?_)
    | (intro q hq)
    | (refine cond_intro (fun hc => ?_) (fun hc => ?_)))
  refine callF_use hcv ?_
  clear hcv
  (repeat' first
    | simp (contextual := true) (maxSteps := 4000000) only [fwc, fwe, opsW_gpure, drawW_pure, drawW_gpure, Env.upd_apply, Heap.upd_same, Heap.upd_apply, ite_none, List.getD_cons_zero, List.getD_cons_succ, List.getD_nil, List.length_cons, List.length_nil, List.map_cons, List.map_nil, List.getElem?_cons_zero, List.getElem?_cons_succ, List.getElem?_nil, List.set_cons_zero, List.set_cons_succ, List.take_succ_cons, List.take_zero, List.drop_succ_cons, List.drop_zero, List.nil_append, List.cons_append, List.append_nil, Option.map_some, Option.map_none, Option.bind_some, Option.bind_none, reduceIte, ↓reduceIte, decide_true, decide_false, Bool.true_and, Bool.and_true, Bool.false_and, Bool.and_false, true_and, and_true, and_self, Nat.reduceAdd, Nat.reduceLeDiff, Nat.reduceEqDiff, Nat.zero_add, Nat.add_zero, Nat.le_refl, Nat.zero_le, ge_iff_le, Nat.reduceLT, Nat.zero_lt_succ, Nat.reduceSub, if_true, if_false, forall_const, reduceCtorEq, Bool.not_true, Bool.not_false, Bool.false_eq_true, Int.reduceEq, Int.reduceLT, Int.reduceLE, Int.reduceNeg, Int.reduceToNat, Int.reduceAdd, Int.reduceSub, Nat.reduceMul, Nat.reduceEqDiff, gW_un, gcF_un, gcA_un, ci_mkmap, ci_mapset, ci_lookup, ci_maxl, ci_appz, pi_lookup, pi_maxl, pu_lookup, pu_maxl, maxl_nil, maxl_one, maxl_cons, cells_mapr, stor_mapr, callv_yld, mm_max, mm_min, putAll_cons, putAll_nil, asgK_normal, roundK_normal, roundK_ret, roundK_exit, part_cell, part_agg, *]
    | (refine retK_now ?_)
    | (refine retK_now' ?_)
    | (intro q hq)
    | (refine cond_intro (fun hc => ?_) (fun hc => ?_)))
  refine seqK_now ?_
  (repeat' first
    | simp (contextual := true) (maxSteps := 4000000) only [fwc, fwe, opsW_gpure, drawW_pure, drawW_gpure, Env.upd_apply, Heap.upd_same, Heap.upd_apply, ite_none, List.getD_cons_zero, List.getD_cons_succ, List.getD_nil, List.length_cons, List.length_nil, List.map_cons, List.map_nil, List.getElem?_cons_zero, List.getElem?_cons_succ, List.getElem?_nil, List.set_cons_zero, List.set_cons_succ, List.take_succ_cons, List.take_zero, List.drop_succ_cons, List.drop_zero, List.nil_append, List.cons_append, List.append_nil, Option.map_some, Option.map_none, Option.bind_some, Option.bind_none, reduceIte, ↓reduceIte, decide_true, decide_false, Bool.true_and, Bool.and_true, Bool.false_and, Bool.and_false, true_and, and_true, and_self, Nat.reduceAdd, Nat.reduceLeDiff, Nat.reduceEqDiff, Nat.zero_add, Nat.add_zero, Nat.le_refl, Nat.zero_le, ge_iff_le, Nat.reduceLT, Nat.zero_lt_succ, Nat.reduceSub, if_true, if_false, forall_const, reduceCtorEq, Bool.not_true, Bool.not_false, Bool.false_eq_true, Int.reduceEq, Int.reduceLT, Int.reduceLE, Int.reduceNeg, Int.reduceToNat, Int.reduceAdd, Int.reduceSub, Nat.reduceMul, Nat.reduceEqDiff, gW_un, gcF_un, gcA_un, ci_mkmap, ci_mapset, ci_lookup, ci_maxl, ci_appz, pi_lookup, pi_maxl, pu_lookup, pu_maxl, maxl_nil, maxl_one, maxl_cons, cells_mapr, stor_mapr, callv_yld, mm_max, mm_min, putAll_cons, putAll_nil, asgK_normal, roundK_normal, roundK_ret, roundK_exit, part_cell, part_agg, *]
    | (refine retK_now ?_)
    | (refine retK_now' ?_)
    | (intro q hq)
    | (refine cond_intro (fun hc => ?_) (fun hc => ?_)))
  (repeat' first
    | simp (contextual := true) (maxSteps := 4000000) only [fwc, fwe, cmd_seq, opsW_gpure, drawW_pure, drawW_gpure, Env.upd_apply, Heap.upd_same, Heap.upd_apply, ite_none, List.getD_cons_zero, List.getD_cons_succ, List.getD_nil, List.length_cons, List.length_nil, List.map_cons, List.map_nil, List.getElem?_cons_zero, List.getElem?_cons_succ, List.getElem?_nil, List.set_cons_zero, List.set_cons_succ, List.take_succ_cons, List.take_zero, List.drop_succ_cons, List.drop_zero, List.nil_append, List.cons_append, List.append_nil, Option.map_some, Option.map_none, Option.bind_some, Option.bind_none, reduceIte, ↓reduceIte, decide_true, decide_false, Bool.true_and, Bool.and_true, Bool.false_and, Bool.and_false, true_and, and_true, and_self, Nat.reduceAdd, Nat.reduceLeDiff, Nat.reduceEqDiff, Nat.zero_add, Nat.add_zero, Nat.le_refl, Nat.zero_le, ge_iff_le, Nat.reduceLT, Nat.zero_lt_succ, Nat.reduceSub, if_true, if_false, forall_const, reduceCtorEq, Bool.not_true, Bool.not_false, Bool.false_eq_true, Int.reduceEq, Int.reduceLT, Int.reduceLE, Int.reduceNeg, Int.reduceToNat, Int.reduceAdd, Int.reduceSub, Nat.reduceMul, Nat.reduceEqDiff, gW_un, gcF_un, gcA_un, ci_mkmap, ci_mapset, ci_lookup, ci_maxl, ci_appz, pi_lookup, pi_maxl, pu_lookup, pu_maxl, maxl_nil, maxl_one, maxl_cons, cells_mapr, stor_mapr, callv_yld, mm_max, mm_min, putAll_cons, putAll_nil, asgK_normal, roundK_normal, roundK_ret, roundK_exit, *]
    | (refine seqK_now ?_)
    | (refine retK_now ?_)
    | (refine retK_now' ?_)
    | (intro q hq)
    | (refine cond_intro (fun hc => ?_) (fun hc => ?_)))
  exact WeakR.pure (sub_upd ho10.out s0.out) rfl
end Go.Proofs.Ytlpngkeegjickaa

namespace Go.Proofs.Ytlpngkeegjickaa
open Go.Ab
attribute [local irreducible] WeakR WeakE CallA YieldA

theorem part_of {G : List (List Id)} {tr n : Nat} (hle : tr ≤ n) (hn : G.length = n) (hi : ∀ j, tr ≤ j → j < n → G.getD j [] = []) : G = (List.range tr).map (fun i => G.getD i []) ++ List.replicate (n - tr) [] := by
  refine List.ext_getElem (by simp; omega) fun i h1 h2 => ?_
  by_cases h : i < tr
  · rw [List.getElem_append_left (by simpa using h)]
    simp [List.getD_eq_getElem?_getD, List.getElem?_eq_getElem h1]
  · rw [List.getElem_append_right (by simp; omega), List.getElem_replicate]
    have := hi i (by omega) (by omega)
    rw [List.getD_eq_getElem?_getD, List.getElem?_eq_getElem h1] at this
    exact this
theorem flat_rep (n : Nat) : (List.replicate n ([] : List Id)).flatten = [] := by
  induction n with
  | zero => rfl
  | succ n ih => rw [List.replicate_succ, List.flatten_cons, ih]; rfl

theorem bedsF_flat {T : List (List Id)} (h : T.length = 80) : (T.take 40).flatten = (bedsF T).flatten := by
  have := part_of (G := T.take 40) (tr := trF T) (n := 40) (trF_le T) (by simp [h]) (fun j h1 h2 => trim_hi _ 40 j h1 h2)
  rw [this, List.flatten_append, flat_rep, List.append_nil]
  congr 1
  unfold bedsF
  refine List.map_congr_left fun i hi => ?_
  have hi : i < trF T := List.mem_range.1 hi
  have := trF_le T
  rw [List.getD_eq_getElem?_getD, List.getElem?_take, if_pos (by omega), ← List.getD_eq_getElem?_getD]
theorem bedsB_flat {T : List (List Id)} (h : T.length = 80) : (T.drop 40).flatten = (bedsB T).flatten := by
  have := part_of (G := T.drop 40) (tr := trB T) (n := 40) (trB_le T) (by simp [h]) (fun j h1 h2 => trim_hi _ 40 j h1 h2)
  rw [this, List.flatten_append, flat_rep, List.append_nil]
  congr 1
  unfold bedsB
  refine List.map_congr_left fun i hi => ?_
  rw [List.getD_eq_getElem?_getD, List.getElem?_drop, ← List.getD_eq_getElem?_getD]
theorem bedsF_len (T : List (List Id)) : (bedsF T).length = trF T := by simp [bedsF]
theorem bedsB_len (T : List (List Id)) : (bedsB T).length = trB T := by simp [bedsB]
theorem vis_beds (T : List (List Id)) : visL (bedsF T) (bedsB T) = bedsF T ++ bedsB T := by
  have h1 := trF_le T
  have h2 := trB_le T
  unfold visL
  rw [List.take_of_length_le (by rw [bedsF_len]; exact h1), List.take_of_length_le (by rw [bedsB_len]; exact h2)]
theorem names_beds {T : List (List Id)} (h : T.length = 80) : namesL (bedsF T) (bedsB T) = T.flatten := by
  unfold namesL
  rw [vis_beds, List.flatten_append, ← bedsF_flat h, ← bedsB_flat h, ← List.flatten_append, List.take_append_drop]

theorem bedsF_get (T : List (List Id)) (i : Nat) (hi : i < 40) : (bedsF T).getD i [] = T.getD i [] := by
  by_cases h : i < trF T
  · rw [List.getD_eq_getElem?_getD (l := bedsF T), List.getElem?_eq_getElem (by rw [bedsF_len]; exact h)]
    simp [bedsF]
  · rw [getD_nil (by rw [bedsF_len]; omega), trF_hi (by omega) hi]
theorem bedsB_get (T : List (List Id)) (i : Nat) (hi : i < 40) : (bedsB T).getD i [] = T.getD (40 + i) [] := by
  by_cases h : i < trB T
  · rw [List.getD_eq_getElem?_getD (l := bedsB T), List.getElem?_eq_getElem (by rw [bedsB_len]; exact h)]
    simp [bedsB]
  · rw [getD_nil (by rw [bedsB_len]; omega), trB_hi (by omega) hi]

theorem at_needle (F B : List (List Id)) (i : Nat) (hi : i < 80) : atL F B (needleL i) = if i < 40 then F.getD i [] else B.getD (i - 40) [] := by
  unfold atL
  rw [if_neg (by rw [(needleL_ok i).1]; simp)]
  by_cases h : i < 40
  · rw [if_pos h, if_neg (by unfold needleL; simp only; omega)]
    congr 1
    unfold needleL
    simp only
    omega
  · rw [if_neg h, if_pos (by unfold needleL; simp only; omega)]
    congr 1
    unfold needleL
    simp only
    omega
theorem at_beds (T : List (List Id)) (i : Nat) (hi : i < 80) : atL (bedsF T) (bedsB T) (needleL i) = T.getD i [] := by
  rw [at_needle _ _ i hi]
  split
  · exact bedsF_get T i (by omega)
  · rw [bedsB_get T (i - 40) (by omega)]
    congr 1
    omega

theorem longF (T : List (List Id)) : longN (bedsF T) = 0 := by
  unfold longN
  rw [if_neg]
  rintro ⟨h1, h2⟩
  rw [bedsF_len] at h1 h2
  have := trF_le T
  rw [bedsF_get T _ (by omega)] at h2
  exact trF_lo h1 h2
theorem longB (T : List (List Id)) : longN (bedsB T) = 0 := by
  unfold longN
  rw [if_neg]
  rintro ⟨h1, h2⟩
  rw [bedsB_len] at h1 h2
  have := trB_le T
  rw [bedsB_get T _ (by omega)] at h2
  exact trB_lo h1 h2

/-- The beds of a table hold what it says, and are short. -/
theorem differs_beds (T : List (List Id)) : differsL T (bedsF T) (bedsB T) = 0 := by
  unfold differsL
  simp only [longF, longB, Nat.add_zero]
  rw [List.countP_eq_zero]
  intro i hi
  have hi : i < 80 := List.mem_range.1 hi
  simp [diffAt, at_beds T i hi]

theorem idn_named {j : Nat} (h : j < 1000) : named (idn j) = true := by
  unfold named idn
  simp only [Bool.and_eq_true, decide_eq_true_eq]
  omega

/-- The beds of a table are valid. -/
theorem check_beds {T : List (List Id)} {n : Nat} (h : TabOK T n) (hn : n ≤ 1000) : checkL (bedsF T) (bedsB T) = 0 := by
  have h1 := trF_le T
  have h2 := trB_le T
  unfold checkL
  rw [if_neg, if_neg, if_neg, if_neg]
  · rw [names_beds h.len]
    simp [h.nd]
  · rw [names_beds h.len]
    unfold badNames
    simp only [List.any_eq_true, not_exists, not_and]
    intro p hp
    obtain ⟨j, hj, rfl⟩ := h.mem p hp
    simp [idn_named (show j < 1000 by omega)]
  · rw [vis_beds]
    simp only [List.any_eq_true, not_exists, not_and, decide_eq_true_eq, Nat.not_lt]
    intro l hl
    have key : ∀ i, (T.getD i []).length ≤ 4 := fun i => by
      rw [List.getD_eq_getElem?_getD]
      by_cases hi : i < T.length
      · rw [List.getElem?_eq_getElem hi]; exact h.le _ (List.getElem_mem hi)
      · rw [List.getElem?_eq_none (by omega)]; simp
    rcases List.mem_append.1 hl with hl | hl
    · obtain ⟨i, _, rfl⟩ := List.mem_map.1 hl; exact key i
    · obtain ⟨i, _, rfl⟩ := List.mem_map.1 hl; exact key _
  · rw [bedsF_len, bedsB_len]
    simp
    omega

theorem Of_ok (s : AV) (P : List Put) (hs : IsL 2 s (P.map Put.av)) (hP : ∀ p ∈ P, p.ok) : PureA Try.prog 22 [s] (.agg [bedA (bedsF (ofL P)), bedA (bedsB (ofL P))]) := by
  intro O
  have h1 := of_ok s P hs hP
  have hT := Of_tab_ok P
  have h2 := beds_ok (ofL P) hT.len (fun l hl => by have := hT.le l hl; omega)
  have c1 := (bedA_is (bedsF (ofL P))).2.isL.cells
  have c2 := (bedA_is (bedsB (ofL P))).2.isL.cells
  refine k22.call mix ?_
  unfold c22
  (repeat' first
    | simp (contextual := true) (maxSteps := 4000000) only [fwc, fwe, cmd_seq, opsW_gpure, drawW_pure, drawW_gpure, Env.upd_apply, Heap.upd_same, Heap.upd_apply, ite_none, List.getD_cons_zero, List.getD_cons_succ, List.getD_nil, List.length_cons, List.length_nil, List.map_cons, List.map_nil, List.getElem?_cons_zero, List.getElem?_cons_succ, List.getElem?_nil, List.set_cons_zero, List.set_cons_succ, List.take_succ_cons, List.take_zero, List.drop_succ_cons, List.drop_zero, List.nil_append, List.cons_append, List.append_nil, Option.map_some, Option.map_none, Option.bind_some, Option.bind_none, reduceIte, ↓reduceIte, decide_true, decide_false, Bool.true_and, Bool.and_true, Bool.false_and, Bool.and_false, true_and, and_true, and_self, Nat.reduceAdd, Nat.reduceLeDiff, Nat.reduceEqDiff, Nat.zero_add, Nat.add_zero, Nat.le_refl, Nat.zero_le, ge_iff_le, Nat.reduceLT, Nat.zero_lt_succ, Nat.reduceSub, if_true, if_false, forall_const, reduceCtorEq, Bool.not_true, Bool.not_false, Bool.false_eq_true, Int.reduceEq, Int.reduceLT, Int.reduceLE, Int.reduceNeg, Int.reduceToNat, Int.reduceAdd, Int.reduceSub, Nat.reduceMul, Nat.reduceEqDiff, gW_un, gcF_un, gcA_un, ci_mkmap, ci_mapset, ci_lookup, ci_maxl, ci_appz, pi_lookup, pi_maxl, pu_lookup, pu_maxl, maxl_nil, maxl_one, maxl_cons, cells_mapr, stor_mapr, callv_yld, mm_max, mm_min, putAll_cons, putAll_nil, asgK_normal, roundK_normal, roundK_ret, roundK_exit, *]
    | (refine seqK_now ?_)
    | (refine retK_now ?_)
    | (refine retK_now' ?_)
    | (intro q hq)
    | (refine cond_intro (fun hc => ?_) (fun hc => ?_)))
  refine h1.use ?_
  (repeat' first
    | simp (contextual := true) (maxSteps := 4000000) only [fwc, fwe, cmd_seq, opsW_gpure, drawW_pure, drawW_gpure, Env.upd_apply, Heap.upd_same, Heap.upd_apply, ite_none, List.getD_cons_zero, List.getD_cons_succ, List.getD_nil, List.length_cons, List.length_nil, List.map_cons, List.map_nil, List.getElem?_cons_zero, List.getElem?_cons_succ, List.getElem?_nil, List.set_cons_zero, List.set_cons_succ, List.take_succ_cons, List.take_zero, List.drop_succ_cons, List.drop_zero, List.nil_append, List.cons_append, List.append_nil, Option.map_some, Option.map_none, Option.bind_some, Option.bind_none, reduceIte, ↓reduceIte, decide_true, decide_false, Bool.true_and, Bool.and_true, Bool.false_and, Bool.and_false, true_and, and_true, and_self, Nat.reduceAdd, Nat.reduceLeDiff, Nat.reduceEqDiff, Nat.zero_add, Nat.add_zero, Nat.le_refl, Nat.zero_le, ge_iff_le, Nat.reduceLT, Nat.zero_lt_succ, Nat.reduceSub, if_true, if_false, forall_const, reduceCtorEq, Bool.not_true, Bool.not_false, Bool.false_eq_true, Int.reduceEq, Int.reduceLT, Int.reduceLE, Int.reduceNeg, Int.reduceToNat, Int.reduceAdd, Int.reduceSub, Nat.reduceMul, Nat.reduceEqDiff, gW_un, gcF_un, gcA_un, ci_mkmap, ci_mapset, ci_lookup, ci_maxl, ci_appz, pi_lookup, pi_maxl, pu_lookup, pu_maxl, maxl_nil, maxl_one, maxl_cons, cells_mapr, stor_mapr, callv_yld, mm_max, mm_min, putAll_cons, putAll_nil, asgK_normal, roundK_normal, roundK_ret, roundK_exit, *]
    | (refine seqK_now ?_)
    | (refine retK_now ?_)
    | (refine retK_now' ?_)
    | (intro q hq)
    | (refine cond_intro (fun hc => ?_) (fun hc => ?_)))
  refine h2.use ?_
  (repeat' first
    | simp (contextual := true) (maxSteps := 4000000) only [fwc, fwe, cmd_seq, opsW_gpure, drawW_pure, drawW_gpure, Env.upd_apply, Heap.upd_same, Heap.upd_apply, ite_none, List.getD_cons_zero, List.getD_cons_succ, List.getD_nil, List.length_cons, List.length_nil, List.map_cons, List.map_nil, List.getElem?_cons_zero, List.getElem?_cons_succ, List.getElem?_nil, List.set_cons_zero, List.set_cons_succ, List.take_succ_cons, List.take_zero, List.drop_succ_cons, List.drop_zero, List.nil_append, List.cons_append, List.append_nil, Option.map_some, Option.map_none, Option.bind_some, Option.bind_none, reduceIte, ↓reduceIte, decide_true, decide_false, Bool.true_and, Bool.and_true, Bool.false_and, Bool.and_false, true_and, and_true, and_self, Nat.reduceAdd, Nat.reduceLeDiff, Nat.reduceEqDiff, Nat.zero_add, Nat.add_zero, Nat.le_refl, Nat.zero_le, ge_iff_le, Nat.reduceLT, Nat.zero_lt_succ, Nat.reduceSub, if_true, if_false, forall_const, reduceCtorEq, Bool.not_true, Bool.not_false, Bool.false_eq_true, Int.reduceEq, Int.reduceLT, Int.reduceLE, Int.reduceNeg, Int.reduceToNat, Int.reduceAdd, Int.reduceSub, Nat.reduceMul, Nat.reduceEqDiff, gW_un, gcF_un, gcA_un, ci_mkmap, ci_mapset, ci_lookup, ci_maxl, ci_appz, pi_lookup, pi_maxl, pu_lookup, pu_maxl, maxl_nil, maxl_one, maxl_cons, cells_mapr, stor_mapr, callv_yld, mm_max, mm_min, putAll_cons, putAll_nil, asgK_normal, roundK_normal, roundK_ret, roundK_exit, part_agg, *]
    | (refine seqK_now ?_)
    | (refine retK_now ?_)
    | (refine retK_now' ?_)
    | (intro q hq)
    | (refine cond_intro (fun hc => ?_) (fun hc => ?_)))
  refine WeakR.pure (by repeat (first | exact Heap.sub_refl _ | refine sub_upd (by simp only [*]) ?_)) ?_
  rfl
end Go.Proofs.Ytlpngkeegjickaa

namespace Go.Proofs.Ytlpngkeegjickaa
open Go.Ab
attribute [local irreducible] WeakR WeakE CallA YieldA

theorem trimL_get (l : List (List Id)) (i : Nat) : (trimL l).getD i [] = l.getD i [] := by
  unfold trimL
  have hle := trimN_le l l.length
  by_cases h : i < trimN l l.length
  · rw [List.getD_eq_getElem?_getD, List.getElem?_take, if_pos h, ← List.getD_eq_getElem?_getD]
  · rw [getD_nil (by rw [List.length_take]; omega)]
    by_cases h2 : i < l.length
    · exact (trim_hi l l.length i (by omega) h2).symm
    · rw [getD_nil (by omega)]
theorem fullL_get (F : List (List Id)) (a : Nat) (X : List Id) (i : Nat) : (fullL F a X).getD i [] = if i + 1 = a then X else F.getD i [] := by
  by_cases h : i < max F.length a
  · rw [List.getD_eq_getElem?_getD, List.getElem?_eq_getElem (by simpa [fullL] using h)]
    simp [fullL]
  · rw [getD_nil (by simp [fullL]; omega), if_neg (by omega), getD_nil (by omega)]
theorem withL_get (F : List (List Id)) (a : Nat) (X : List Id) (i : Nat) : (withL F a X).getD i [] = if i + 1 = a then X else F.getD i [] := by
  unfold withL
  rw [trimL_get, fullL_get]
theorem with1_get (F : List (List Id)) (i : Nat) : (withL F 1 (F.getD 0 [])).getD i [] = F.getD i [] := by
  rw [withL_get]
  split
  · rw [show i = 0 by omega]
  · rfl
theorem putLF_get (F : List (List Id)) (n : Ndl) (X : List Id) (i : Nat) : (putLF F n X).getD i [] = if ¬ n.bed = 1 ∧ i + 1 = n.at_.toNat then X else F.getD i [] := by
  unfold putLF
  split
  · rename_i h
    rw [with1_get, if_neg (fun h' => h'.1 h)]
  · rename_i h
    rw [withL_get]
    by_cases h2 : i + 1 = n.at_.toNat
    · rw [if_pos h2, if_pos ⟨h, h2⟩]
    · rw [if_neg h2, if_neg (fun h' => h2 h'.2)]
theorem putLB_get (B : List (List Id)) (n : Ndl) (X : List Id) (i : Nat) : (putLB B n X).getD i [] = if n.bed = 1 ∧ i + 1 = n.at_.toNat then X else B.getD i [] := by
  unfold putLB
  split
  · rename_i h
    rw [withL_get]
    by_cases h2 : i + 1 = n.at_.toNat
    · rw [if_pos h2, if_pos ⟨h, h2⟩]
    · rw [if_neg h2, if_neg (fun h' => h2 h'.2)]
  · rename_i h
    rw [with1_get, if_neg (fun h' => h h'.1)]

theorem trim_long (l : List (List Id)) : longN (trimL l) = 0 := by
  unfold longN
  rw [if_neg]
  rintro ⟨h1, h2⟩
  have hle := trimN_le l l.length
  have hlen : (trimL l).length = trimN l l.length := by unfold trimL; rw [List.length_take]; omega
  rw [hlen, trimL_get] at h2
  exact trim_lo l l.length (by omega) h2
theorem with_long (F : List (List Id)) (a : Nat) (X : List Id) : longN (withL F a X) = 0 := trim_long _
theorem putF_long (F : List (List Id)) (n : Ndl) (X : List Id) : longN (putLF F n X) = 0 := by
  unfold putLF; split <;> exact with_long _ _ _
theorem putB_long (B : List (List Id)) (n : Ndl) (X : List Id) : longN (putLB B n X) = 0 := by
  unfold putLB; split <;> exact with_long _ _ _

/-- What the needles hold behind a put. -/
theorem at_put {F B : List (List Id)} {n : Ndl} {X : List Id} (hn : n.bad = false) (h0 : 0 ≤ n.bed) (m : Ndl) (hm : m.bad = false) (hm0 : 0 ≤ m.bed) : atL (putLF F n X) (putLB B n X) m = if m = n then X else atL F B m := by
  have k : ∀ z : Ndl, z.bad = false → z.bed ≤ 1 ∧ 1 ≤ z.at_ ∧ z.at_ ≤ 40 := fun z h => by
    unfold Ndl.bad at h
    simp only [Bool.or_eq_false_iff, decide_eq_false_iff_not, Int.not_lt] at h
    omega
  obtain ⟨k1, k2, k3⟩ := k n hn
  obtain ⟨l1, l2, l3⟩ := k m hm
  have hext : m = n ↔ m.bed = n.bed ∧ m.at_ = n.at_ := by cases m; cases n; simp
  unfold atL
  rw [hm]
  simp only [Bool.false_eq_true, if_false]
  by_cases hb : m.bed = 1
  · rw [if_pos hb, if_pos hb, putLB_get]
    by_cases he : m = n
    · rw [if_pos he, if_pos]
      subst he
      exact ⟨hb, by omega⟩
    · rw [if_neg he, if_neg]
      rintro ⟨h1, h2⟩
      exact he (hext.2 ⟨by omega, by omega⟩)
  · rw [if_neg hb, if_neg hb, putLF_get]
    by_cases he : m = n
    · rw [if_pos he, if_pos]
      subst he
      exact ⟨hb, by omega⟩
    · rw [if_neg he, if_neg]
      rintro ⟨h1, h2⟩
      exact he (hext.2 ⟨by omega, by omega⟩)

/-- .. and behind a join. -/
theorem at_join {F B : List (List Id)} {u v : Ndl} (hu : u.bad = false) (hv : v.bad = false) (hu0 : 0 ≤ u.bed) (hv0 : 0 ≤ v.bed) (m : Ndl) (hm : m.bad = false) (hm0 : 0 ≤ m.bed) :
    atL (joinF F B u v) (joinB F B u v) m = if m = v then joinedL F B u v else if m = u then [] else atL F B m := by
  unfold joinF joinB
  rw [at_put hv hv0 m hm hm0, at_put hu hu0 m hm hm0]
theorem join_long (F B : List (List Id)) (u v : Ndl) : longN (joinF F B u v) = 0 ∧ longN (joinB F B u v) = 0 := ⟨putF_long _ _ _, putB_long _ _ _⟩
end Go.Proofs.Ytlpngkeegjickaa

namespace Go.Proofs.Ytlpngkeegjickaa
open Go.Ab
attribute [local irreducible] WeakR WeakE CallA YieldA

/-- All needles of beds as a table. -/
def tabOf (F B : List (List Id)) : List (List Id) := (List.range 40).map (fun i => F.getD i []) ++ (List.range 40).map (fun i => B.getD i [])
theorem tabOf_len (F B : List (List Id)) : (tabOf F B).length = 80 := by simp [tabOf]
theorem pad_flat (F : List (List Id)) (h : F.length ≤ 40) : ((List.range 40).map (fun i => F.getD i [])).flatten = F.flatten := by
  have := part_of (G := (List.range 40).map (fun i => F.getD i [])) (tr := F.length) (n := 40) h (by simp) (fun j h1 h2 => by
    rw [List.getD_eq_getElem?_getD, List.getElem?_map, List.getElem?_range h2]
    exact getD_nil h1)
  rw [this, List.flatten_append, flat_rep, List.append_nil]
  congr 1
  refine List.ext_getElem (by simp) fun i h1 h2 => ?_
  have h3 : i < 40 := by omega
  simp [List.getD_eq_getElem?_getD, List.getElem?_map, List.getElem?_range h3, List.getElem?_eq_getElem h2]
theorem names_tab {F B : List (List Id)} (hF : F.length ≤ 40) (hB : B.length ≤ 40) : namesL F B = (tabOf F B).flatten := by
  unfold namesL visL tabOf
  rw [List.take_of_length_le hF, List.take_of_length_le hB, List.flatten_append, List.flatten_append, pad_flat F hF, pad_flat B hB]
theorem tabOf_get (F B : List (List Id)) (i : Nat) (hi : i < 80) : (tabOf F B).getD i [] = atL F B (needleL i) := by
  rw [at_needle _ _ i hi]
  unfold tabOf
  rw [List.getD_eq_getElem?_getD]
  split
  · rename_i h
    rw [List.getElem?_append_left (by simpa using h), List.getElem?_map, List.getElem?_range h]
    rfl
  · rename_i h
    rw [List.getElem?_append_right (by simp; omega), List.getElem?_map, List.length_map, List.length_range, List.getElem?_range (by omega)]
    rfl

/-- Beds are valid if their table is. -/
theorem check_tab {F B : List (List Id)} {n : Nat} (hF : F.length ≤ 40) (hB : B.length ≤ 40) (h : TabOK (tabOf F B) n) (hn : n ≤ 1000) : checkL F B = 0 := by
  unfold checkL
  rw [if_neg, if_neg, if_neg, if_neg]
  · rw [names_tab hF hB]
    simp [h.nd]
  · rw [names_tab hF hB]
    unfold badNames
    simp only [List.any_eq_true, not_exists, not_and]
    intro p hp
    obtain ⟨j, hj, rfl⟩ := h.mem p hp
    simp [idn_named (show j < 1000 by omega)]
  · simp only [List.any_eq_true, not_exists, not_and, decide_eq_true_eq, Nat.not_lt]
    intro l hl
    unfold visL at hl
    rw [List.take_of_length_le hF, List.take_of_length_le hB] at hl
    have key : ∀ G : List (List Id), G.length ≤ 40 → l ∈ G → l ∈ (List.range 40).map (fun i => G.getD i []) := fun G hG hm => by
      obtain ⟨i, hi, rfl⟩ := List.mem_iff_getElem.1 hm
      refine List.mem_map.2 ⟨i, List.mem_range.2 (by omega), ?_⟩
      rw [List.getD_eq_getElem?_getD, List.getElem?_eq_getElem hi]
      rfl
    refine h.le l ?_
    unfold tabOf
    rcases List.mem_append.1 hl with hm | hm
    · exact List.mem_append.2 (.inl (key F hF hm))
    · exact List.mem_append.2 (.inr (key B hB hm))
  · simp
    omega

/-- What moves over stays as it is, in all. -/
theorem move_perm {T : List (List Id)} {i k : Nat} (hi : i < T.length) (hk : k < T.length) (hne : i ≠ k) {X : List Id} (hX : X.Perm (T.getD k [] ++ T.getD i [])) : ((T.set i []).set k X).flatten.Perm T.flatten := by
  have gen : ∀ (T : List (List Id)) (j : Nat) (Y : List Id), j < T.length → (T.set j Y).flatten.Perm (Y ++ (T.set j []).flatten) := by
    intro T
    induction T with
    | nil => intro j Y h; simp at h
    | cons l T ih =>
      intro j Y h
      cases j with
      | zero => simp
      | succ j =>
        simp only [List.set_cons_succ, List.flatten_cons]
        refine (List.Perm.append_left l (ih j Y (by simpa using h))).trans ?_
        rw [← List.append_assoc, ← List.append_assoc]
        exact List.Perm.append_right _ List.perm_append_comm
  have selfk : ∀ (T : List (List Id)) (j : Nat), j < T.length → T.set j (T.getD j []) = T := fun T j h => by
    refine List.ext_getElem (by simp) fun a h1 h2 => ?_
    rw [List.getElem_set]
    split
    · rename_i e; subst e; rw [List.getD_eq_getElem?_getD, List.getElem?_eq_getElem h]; rfl
    · rfl
  have h1 := gen (T.set i []) k X (by simpa using hk)
  have h2 := gen (T.set k []) i (T.getD i []) (by simpa using hi)
  have h3 := gen T k (T.getD k []) hk
  rw [selfk T k hk] at h3
  have h4 : ((T.set k []).set i (T.getD i [])) = T.set k [] := by
    have := selfk (T.set k []) i (by simpa using hi)
    rwa [show (T.set k []).getD i [] = T.getD i [] by
      rw [List.getD_eq_getElem?_getD, List.getElem?_set, if_neg (Ne.symm hne), ← List.getD_eq_getElem?_getD]] at this
  rw [h4] at h2
  have h5 : (T.set k []).set i [] = (T.set i []).set k [] := List.set_comm _ _ (Ne.symm hne)
  rw [h5] at h2
  refine h1.trans ?_
  refine (List.Perm.append_right _ hX).trans ?_
  rw [List.append_assoc]
  exact (List.Perm.append_left _ h2.symm).trans h3.symm
end Go.Proofs.Ytlpngkeegjickaa

namespace Go.Proofs.Ytlpngkeegjickaa
open Go.Ab
attribute [local irreducible] WeakR WeakE CallA YieldA

def ix (n : Ndl) : Nat := if n.bed = 1 then 40 + (n.at_.toNat - 1) else n.at_.toNat - 1
/-- A needle of the machine. -/
structure Ndl.Good (n : Ndl) : Prop where
  bad : n.bad = false
  nn : 0 ≤ n.bed
theorem Ndl.Good.rng {n : Ndl} (h : n.Good) : (n.bed = 0 ∨ n.bed = 1) ∧ 1 ≤ n.at_ ∧ n.at_ ≤ 40 := by
  have h1 := h.bad
  have h2 := h.nn
  unfold Ndl.bad at h1
  simp only [Bool.or_eq_false_iff, decide_eq_false_iff_not, Int.not_lt] at h1
  omega
theorem Ndl.ext' (m n : Ndl) : m = n ↔ m.bed = n.bed ∧ m.at_ = n.at_ := by cases m; cases n; simp
theorem needle_good (i : Nat) : (needleL i).Good := ⟨(needleL_ok i).1, (needleL_ok i).2⟩
theorem ix_lt {n : Ndl} (h : n.Good) : ix n < 80 := by
  obtain ⟨h1, h2, h3⟩ := h.rng
  unfold ix
  split <;> omega
theorem needle_ix {n : Ndl} (h : n.Good) : needleL (ix n) = n := by
  obtain ⟨h1, h2, h3⟩ := h.rng
  rw [Ndl.ext']
  unfold ix needleL
  simp only
  split <;> omega
theorem ix_needle {i : Nat} (hi : i < 80) : ix (needleL i) = i := by
  unfold ix needleL
  simp only
  split <;> omega
theorem needle_eq {i : Nat} (hi : i < 80) {n : Ndl} (h : n.Good) : needleL i = n ↔ i = ix n := by
  constructor
  · intro e; rw [← e, ix_needle hi]
  · intro e; rw [e, needle_ix h]

theorem tab_put {F B : List (List Id)} {n : Ndl} {X : List Id} (h : n.Good) : tabOf (putLF F n X) (putLB B n X) = (tabOf F B).set (ix n) X := by
  refine List.ext_getElem (by simp [tabOf_len]) fun i h1 h2 => ?_
  rw [tabOf_len] at h1
  have e1 := tabOf_get (putLF F n X) (putLB B n X) i h1
  have e2 := tabOf_get F B i h1
  rw [at_put h.bad h.nn _ (needle_good i).bad (needle_good i).nn] at e1
  rw [List.getD_eq_getElem?_getD, List.getElem?_eq_getElem (by rw [tabOf_len]; exact h1)] at e1 e2
  rw [List.getElem_set]
  simp only [Option.getD_some] at e1 e2
  rw [e1]
  by_cases he : i = ix n
  · rw [if_pos ((needle_eq h1 h).2 he), if_pos he.symm]
  · rw [if_neg (fun e => he ((needle_eq h1 h).1 e)), if_neg (Ne.symm he), e2]
theorem tab_join {F B : List (List Id)} {u v : Ndl} (hu : u.Good) (hv : v.Good) : tabOf (joinF F B u v) (joinB F B u v) = ((tabOf F B).set (ix u) []).set (ix v) (joinedL F B u v) := by
  unfold joinF joinB
  rw [tab_put hv, tab_put hu]
theorem at_ix {F B : List (List Id)} {n : Ndl} (h : n.Good) : atL F B n = (tabOf F B).getD (ix n) [] := by
  rw [tabOf_get _ _ _ (ix_lt h), needle_ix h]
theorem joined_perm {F B : List (List Id)} {u v : Ndl} (hu : u.Good) (hv : v.Good) : (joinedL F B u v).Perm ((tabOf F B).getD (ix v) [] ++ (tabOf F B).getD (ix u) []) := by
  rw [← at_ix hu, ← at_ix hv]
  unfold joinedL
  split
  · exact List.perm_append_comm
  · exact .refl _
theorem join_tab {F B : List (List Id)} {u v : Ndl} {n : Nat} (hu : u.Good) (hv : v.Good) (hne : u.bed ≠ v.bed) (h : TabOK (tabOf F B) n) (hl : (joinedL F B u v).length ≤ 4) : TabOK (tabOf (joinF F B u v) (joinB F B u v)) n := by
  have hix : ix u ≠ ix v := fun e => hne (by rw [← needle_ix hu, ← needle_ix hv, e])
  have hp := move_perm (T := tabOf F B) (i := ix u) (k := ix v) (by rw [tabOf_len]; exact ix_lt hu) (by rw [tabOf_len]; exact ix_lt hv) hix (joined_perm hu hv)
  rw [tab_join hu hv]
  refine ⟨by simp [tabOf_len], fun l hm => ?_, fun p hm => h.mem p (hp.mem_iff.1 hm), hp.nodup_iff.2 h.nd⟩
  rcases List.mem_or_eq_of_mem_set hm with hm | rfl
  · rcases List.mem_or_eq_of_mem_set hm with hm | rfl
    · exact h.le l hm
    · simp
  · exact hl
theorem put_len {F B : List (List Id)} {n : Ndl} {X : List Id} (h : n.Good) (hF : F.length ≤ 40) (hB : B.length ≤ 40) : (putLF F n X).length ≤ 40 ∧ (putLB B n X).length ≤ 40 := by
  obtain ⟨_, h2, h3⟩ := h.rng
  have key : ∀ (G : List (List Id)) (a : Nat) (Y : List Id), G.length ≤ 40 → a ≤ 40 → (withL G a Y).length ≤ 40 := fun G a Y hG ha => by
    unfold withL trimL
    rw [List.length_take]
    simp [fullL]
    omega
  unfold putLF putLB
  constructor
  · split <;> exact key _ _ _ hF (by omega)
  · split <;> exact key _ _ _ hB (by omega)
theorem join_len {F B : List (List Id)} {u v : Ndl} (hu : u.Good) (hv : v.Good) (hF : F.length ≤ 40) (hB : B.length ≤ 40) : (joinF F B u v).length ≤ 40 ∧ (joinB F B u v).length ≤ 40 := by
  have h1 := put_len (X := []) hu hF hB
  exact put_len hv h1.1 h1.2

theorem tab_beds {T : List (List Id)} (h : T.length = 80) : tabOf (bedsF T) (bedsB T) = T := by
  refine List.ext_getElem (by rw [tabOf_len, h]) fun i h1 h2 => ?_
  have hi : i < 80 := by rw [tabOf_len] at h1; exact h1
  have e1 := tabOf_get (bedsF T) (bedsB T) i hi
  rw [at_beds T i hi, List.getD_eq_getElem?_getD, List.getD_eq_getElem?_getD, List.getElem?_eq_getElem h1, List.getElem?_eq_getElem h2] at e1
  exact e1
/-- Two beds with the same table hold the same. -/
theorem same_tab {F B F' B' : List (List Id)} (hF : F.length ≤ 40) (hB : B.length ≤ 40) (hF' : F'.length ≤ 40) (hB' : B'.length ≤ 40) : sameL F B F' B' = true ↔ tabOf F B = tabOf F' B' := by
  rw [sameL_iff]
  constructor
  · intro h
    unfold tabOf
    congr 1
    · exact List.map_congr_left fun i _ => (h i).1
    · exact List.map_congr_left fun i _ => (h i).2
  · intro h i
    by_cases hi : i < 40
    · have e1 := tabOf_get F B i (by omega)
      have e2 := tabOf_get F' B' i (by omega)
      have e3 := tabOf_get F B (40 + i) (by omega)
      have e4 := tabOf_get F' B' (40 + i) (by omega)
      rw [at_needle _ _ _ (by omega), if_pos hi] at e1 e2
      rw [at_needle _ _ _ (by omega), if_neg (by omega), show 40 + i - 40 = i by omega] at e3 e4
      exact ⟨by rw [← e1, ← e2, h], by rw [← e3, ← e4, h]⟩
    · rw [getD_nil (by omega), getD_nil (by omega), getD_nil (by omega), getD_nil (by omega)]
      exact ⟨rfl, rfl⟩
end Go.Proofs.Ytlpngkeegjickaa

namespace Go.Proofs.Ytlpngkeegjickaa
open Go.Ab
attribute [local irreducible] WeakR WeakE CallA YieldA

theorem set_getD (T : List (List Id)) (i j : Nat) (X : List Id) (hi : i < T.length) : (T.set i X).getD j [] = if j = i then X else T.getD j [] := by
  rw [List.getD_eq_getElem?_getD, List.getElem?_set]
  by_cases h : i = j
  · rw [if_pos h, if_pos (by omega), if_pos h.symm]; rfl
  · rw [if_neg h, if_neg (Ne.symm h), List.getD_eq_getElem?_getD]
theorem inner_get {at_ : Nat} : ∀ (r : Nat) (T : List (List Id)) (k : Nat), at_ < T.length → (T.getD at_ []).length + r ≤ 4 →
    ((inner at_ r T k).1.getD at_ []).length = (T.getD at_ []).length + r ∧ (∀ j, j ≠ at_ → (inner at_ r T k).1.getD j [] = T.getD j []) ∧ (inner at_ r T k).1.length = T.length
  | 0, T, k, _, _ => ⟨rfl, fun _ _ => rfl, rfl⟩
  | r + 1, T, k, h, hl => by
    unfold inner
    rw [if_pos (by omega)]
    have hs := set_getD T at_ at_ (T.getD at_ [] ++ [idn k]) h
    rw [if_pos rfl] at hs
    obtain ⟨h1, h2, h3⟩ := inner_get r (T.set at_ (T.getD at_ [] ++ [idn k])) (k + 1) (by simpa using h) (by rw [hs, List.length_append]; simp only [List.length_cons, List.length_nil]; omega)
    refine ⟨?_, fun j hj => ?_, ?_⟩
    · rw [h1, hs, List.length_append]; simp only [List.length_cons, List.length_nil]; omega
    · rw [h2 j hj, set_getD T at_ j _ h, if_neg hj]
    · rw [h3, List.length_set]

/-- The two needles of the law. -/
def backP (a n c m : Nat) : List Put := [⟨a, n⟩, ⟨40 + c, m⟩]
theorem back_tab {a n c m : Nat} (ha : a < 40) (hc : c < 40) (hn : n < 5) (hm : m < 5) : ((ofL (backP a n c m)).getD a []).length = n ∧ ((ofL (backP a n c m)).getD (40 + c) []).length = m := by
  have e : ofL (backP a n c m) = (inner (40 + c) m (inner a n (List.replicate 80 []) 0).1 (inner a n (List.replicate 80 []) 0).2).1 := by
    unfold ofL ofN backP
    simp only [List.take_succ_cons, List.take_nil, List.foldl_cons, List.foldl_nil]
    rw [Nat.mod_eq_of_lt (show a < 80 by omega), Nat.mod_eq_of_lt (show 40 + c < 80 by omega), Nat.mod_eq_of_lt hn, Nat.mod_eq_of_lt hm]
  have r0 : ∀ i, (List.replicate 80 ([] : List Id)).getD i [] = [] := fun i => by
    rw [List.getD_eq_getElem?_getD, List.getElem?_replicate]
    split <;> rfl
  obtain ⟨h1, h2, h3⟩ := inner_get (at_ := a) n (List.replicate 80 []) 0 (by rw [List.length_replicate]; omega) (by rw [r0]; simp; omega)
  rw [r0] at h1
  rw [List.length_replicate] at h3
  have h4 := h2 (40 + c) (by omega)
  rw [r0] at h4
  obtain ⟨g1, g2, g3⟩ := inner_get (at_ := 40 + c) m (inner a n (List.replicate 80 []) 0).1 (inner a n (List.replicate 80 []) 0).2 (by rw [h3]; omega) (by rw [h4]; simp; omega)
  rw [h4] at g1
  rw [e]
  refine ⟨?_, ?_⟩
  · rw [g2 a (by omega), h1]; simp
  · rw [g1]; simp

/-- What the law says, of beds whose table is known. -/
theorem back_law {F B : List (List Id)} {f g : Ndl} {k : Nat} (hF : F.length ≤ 40) (hB : B.length ≤ 40) (hT : TabOK (tabOf F B) k) (hk : k ≤ 1000) (hf : f.Good) (hg : g.Good) (hf0 : f.bed = 0) (hg1 : g.bed = 1) :
    (atL F B f = [] → joinE F B f g = 13) ∧
    (atL F B f ≠ [] → 4 < (atL F B f).length + (atL F B g).length → joinE F B f g = 9) ∧
    (atL F B f ≠ [] → (atL F B f).length + (atL F B g).length ≤ 4 → joinE F B f g = 0 ∧ atL (joinF F B f g) (joinB F B f g) f = [] ∧ (atL (joinF F B f g) (joinB F B f g) g).length = (atL F B f).length + (atL F B g).length ∧
      joinE (joinF F B f g) (joinB F B f g) g f = 0 ∧ (atL (joinF (joinF F B f g) (joinB F B f g) g f) (joinB (joinF F B f g) (joinB F B f g) g f) f).length = (atL F B f).length + (atL F B g).length ∧
      (sameL (joinF (joinF F B f g) (joinB F B f g) g f) (joinB (joinF F B f g) (joinB F B f g) g f) F B = decide ((atL F B g).length = 0))) := by
  have hc := check_tab hF hB hT hk
  have hne : ¬ f.bed = g.bed := by omega
  have hjl : (joinedL F B f g).length = (atL F B f).length + (atL F B g).length := by
    unfold joinedL
    rw [if_neg (by omega), List.length_append]; omega
  have hE : joinE F B f g = if atL F B f = [] then 13 else if 4 < (joinedL F B f g).length then 9 else 0 := by
    unfold joinE
    rw [if_pos hc, hf.bad, hg.bad, decide_eq_false hne]
    simp
  refine ⟨fun h => by rw [hE, if_pos h], fun h h2 => by rw [hE, if_neg h, if_pos (by omega)], fun h h2 => ?_⟩
  have h3 : joinE F B f g = 0 := by rw [hE, if_neg h, if_neg (by omega)]
  have hT2 := join_tab hf hg (by omega) hT (by omega)
  obtain ⟨hF2, hB2⟩ := join_len hf hg hF hB
  have hc2 := check_tab hF2 hB2 hT2 hk
  have hfg : f ≠ g := fun e => hne (by rw [e])
  have a1 : atL (joinF F B f g) (joinB F B f g) f = [] := by
    rw [at_join hf.bad hg.bad hf.nn hg.nn f hf.bad hf.nn, if_neg hfg, if_pos rfl]
  have a2 : atL (joinF F B f g) (joinB F B f g) g = joinedL F B f g := by
    rw [at_join hf.bad hg.bad hf.nn hg.nn g hg.bad hg.nn, if_pos rfl]
  have hgn : joinedL F B f g ≠ [] := fun e => h (List.eq_nil_of_length_eq_zero (by rw [e] at hjl; change 0 = _ at hjl; omega))
  have hjl2 : joinedL (joinF F B f g) (joinB F B f g) g f = joinedL F B f g := by
    rw [joinedL, if_pos hf0, a1, a2, List.append_nil]
  have hE2 : joinE (joinF F B f g) (joinB F B f g) g f = 0 := by
    unfold joinE
    rw [if_pos hc2, hf.bad, hg.bad, decide_eq_false (Ne.symm hne), hjl2, a2, if_neg (by simp), if_neg hgn, if_neg (by omega)]
  have b1 : atL (joinF (joinF F B f g) (joinB F B f g) g f) (joinB (joinF F B f g) (joinB F B f g) g f) f = joinedL F B f g := by
    rw [at_join hg.bad hf.bad hg.nn hf.nn f hf.bad hf.nn, if_pos rfl, hjl2]
  refine ⟨h3, a1, by rw [a2, hjl], hE2, by rw [b1, hjl], ?_⟩
  obtain ⟨hF3, hB3⟩ := join_len hg hf hF2 hB2
  rw [Bool.eq_iff_iff, same_tab hF3 hB3 hF hB, decide_eq_true_eq]
  have hixne : ix f ≠ ix g := fun e => hfg (by rw [← needle_ix hf, ← needle_ix hg, e])
  constructor
  · intro e
    have e1 := at_ix (F := joinF (joinF F B f g) (joinB F B f g) g f) (B := joinB (joinF F B f g) (joinB F B f g) g f) hf
    rw [e, ← at_ix hf, b1] at e1
    have := congrArg List.length e1
    omega
  · intro e
    have hnil : atL F B g = [] := List.eq_nil_of_length_eq_zero e
    have hjf : joinedL F B f g = atL F B f := by
      rw [joinedL, if_neg (by omega), hnil, List.nil_append]
    rw [tab_join hg hf, tab_join hf hg, hjl2, hjf]
    refine List.ext_getElem (by simp) fun i h1 h2 => ?_
    have hfi := at_ix (F := F) (B := B) hf
    have hgi := at_ix (F := F) (B := B) hg
    rw [List.getD_eq_getElem?_getD, List.getElem?_eq_getElem (by rw [tabOf_len]; exact ix_lt hf)] at hfi
    rw [List.getD_eq_getElem?_getD, List.getElem?_eq_getElem (by rw [tabOf_len]; exact ix_lt hg)] at hgi
    simp only [Option.getD_some] at hfi hgi
    simp only [List.getElem_set]
    by_cases e1 : ix f = i
    · subst e1
      rw [if_pos rfl, hfi]
    · rw [if_neg e1]
      by_cases e2 : ix g = i
      · subst e2
        rw [if_pos rfl, ← hgi, hnil]
      · rw [if_neg e2, if_neg e2, if_neg e1]
end Go.Proofs.Ytlpngkeegjickaa

namespace Go.Proofs.Ytlpngkeegjickaa
open Go.Ab
attribute [local irreducible] WeakR WeakE CallA YieldA

set_option maxHeartbeats 8000000 in
theorem StacksBack_ok (m0 m1 a0 a1 : Nat) (h1 : m0 < 256) (h2 : m1 < 256) (h3 : a0 < 256) (h4 : a1 < 256) :
    PureA Try.prog 7 [.agg [.val (.int .u8 m0), .val (.int .u8 m1)], .agg [.val (.int .u8 a0), .val (.int .u8 a1)]] (.val (.bool true)) := by
  intro O
  have i0 : ∀ q, indexPtrA 2 1 false 0 (.optr q 2 0 0) = some (.optr q 2 0 0) := fun _ => rfl
  have i1 : ∀ q, indexPtrA 2 1 false 1 (.optr q 2 0 0) = some (.optr q 2 0 1) := fun _ => rfl
  have r1 : Int.tmod (a0 : Int) 40 = ((a0 % 40 : Nat) : Int) := by rw [Int.tmod_eq_emod_of_nonneg (by omega)]; omega
  have r2 : Int.tmod (a1 : Int) 40 = ((a1 % 40 : Nat) : Int) := by rw [Int.tmod_eq_emod_of_nonneg (by omega)]; omega
  have r3 : Int.tmod (m0 : Int) 5 = ((m0 % 5 : Nat) : Int) := by rw [Int.tmod_eq_emod_of_nonneg (by omega)]; omega
  have r4 : Int.tmod (m1 : Int) 5 = ((m1 % 5 : Nat) : Int) := by rw [Int.tmod_eq_emod_of_nonneg (by omega)]; omega
  have r5 : IntKind.u8.wrap (40 + ((a1 % 40 : Nat) : Int)) = ((40 + a1 % 40 : Nat) : Int) := by rw [wrap_u8 (by omega) (by omega)]; omega
  have ha : a0 % 40 < 40 := Nat.mod_lt _ (by omega)
  have hc : a1 % 40 < 40 := Nat.mod_lt _ (by omega)
  have hn : m0 % 5 < 5 := Nat.mod_lt _ (by omega)
  have hm : m1 % 5 < 5 := Nat.mod_lt _ (by omega)
  have hNf := Needle_ok (a0 % 40) (by omega)
  have hNg := Needle_ok (40 + a1 % 40) (by omega)
  have hf0 : (needleL (a0 % 40)).bed = 0 := by unfold needleL; simp only; omega
  have hg1 : (needleL (40 + a1 % 40)).bed = 1 := by unfold needleL; simp only; omega
  generalize a0 % 40 = a at r1 ha hNf hf0
  generalize a1 % 40 = c at r2 r5 hc hNg hg1
  generalize m0 % 5 = n at r3 hn
  generalize m1 % 5 = m at r4 hm
  have w1 : IntKind.i64.wrap (n : Int) = n := wrap_nat (by omega)
  have w2 : IntKind.i64.wrap (m : Int) = m := wrap_nat (by omega)
  have w3 : IntKind.i64.wrap ((n : Int) + (m : Int)) = ((n + m : Nat) : Int) := by rw [wrap_i64 (by omega) (by omega)]; omega
  have hOf := Of_ok (.list 2 true [Put.av ⟨a, n⟩, Put.av ⟨40 + c, m⟩]) (backP a n c m) .list (fun p hp => by
    simp only [backP, List.mem_cons, List.not_mem_nil, or_false] at hp
    rcases hp with rfl | rfl <;> (unfold Put.ok; simp only; omega))
  obtain ⟨t1, t2⟩ := back_tab ha hc hn hm
  have hTo := Of_tab_ok (backP a n c m)
  have hTn := (ofN_ok (backP a n c m)).2
  generalize ofL (backP a n c m) = T at hOf t1 t2 hTo
  have hle : ∀ l ∈ T, l.length ≤ 1000 := fun l hl => by have := hTo.le l hl; omega
  have hBe := beds_is hle
  have c1 := (bedA_is (bedsF T)).2.isL.cells
  have c2 := (bedA_is (bedsB T)).2.isL.cells
  have s1 := (bedA_is (bedsF T)).2.isL.stor
  have s2 := (bedA_is (bedsB T)).2.isL.stor
  have hlF : (bedsF T).length ≤ 40 := by rw [bedsF_len]; exact trF_le T
  have hlB : (bedsB T).length ≤ 40 := by rw [bedsB_len]; exact trB_le T
  have htab := tab_beds hTo.len
  obtain ⟨L1, L2, L3⟩ := back_law hlF hlB (f := needleL a) (g := needleL (40 + c)) (k := (ofN (backP a n c m)).2) (by rw [htab]; exact hTo) (by omega) (needle_good a) (needle_good (40 + c)) hf0 hg1
  have x1 := at_beds T a (by omega)
  have x2 := at_beds T (40 + c) (by omega)
  rw [← x1] at t1
  rw [← x2] at t2
  generalize bedA (bedsF T) = bf at *
  generalize bedA (bedsB T) = bb at *
  generalize bedsF T = F at *
  generalize bedsB T = B at *
  generalize hfe : needleL a = f at *
  generalize hge : needleL (40 + c) = g at *
  obtain ⟨y, hj, hy, hy'⟩ := hBe.join f g (by omega) (by omega)
  clear hTo hTn hle htab x1 x2 hfe hge
  replace hf0 := (show Aside _ from hf0)
  replace hg1 := (show Aside _ from hg1)
  replace L1 := (show Aside _ from L1)
  replace L2 := (show Aside _ from L2)
  replace L3 := (show Aside _ from L3)
  replace t1 := (show Aside _ from t1)
  replace t2 := (show Aside _ from t2)
  rw [show f.av = .agg [.val (.int .u8 f.bed), .val (.int .i64 f.at_)] from rfl] at hNf hj
  rw [show g.av = .agg [.val (.int .u8 g.bed), .val (.int .i64 g.at_)] from rfl] at hNg hj
  simp only [Put.av] at hOf
  refine k7.call mix ?_
  unfold c7
  refine seq_go ?_
  (repeat' first
    | simp (contextual := true) (maxSteps := 4000000) only [fwc, fwe, opsW_gpure, drawW_pure, drawW_gpure, Env.upd_apply, Heap.upd_same, Heap.upd_apply, ite_none, List.getD_cons_zero, List.getD_cons_succ, List.getD_nil, List.length_cons, List.length_nil, List.map_cons, List.map_nil, List.getElem?_cons_zero, List.getElem?_cons_succ, List.getElem?_nil, List.set_cons_zero, List.set_cons_succ, List.take_succ_cons, List.take_zero, List.drop_succ_cons, List.drop_zero, List.nil_append, List.cons_append, List.append_nil, Option.map_some, Option.map_none, Option.bind_some, Option.bind_none, reduceIte, ↓reduceIte, decide_true, decide_false, Bool.true_and, Bool.and_true, Bool.false_and, Bool.and_false, true_and, and_true, and_self, Nat.reduceAdd, Nat.reduceLeDiff, Nat.reduceEqDiff, Nat.zero_add, Nat.add_zero, Nat.le_refl, Nat.zero_le, ge_iff_le, Nat.reduceLT, Nat.zero_lt_succ, Nat.reduceSub, if_true, if_false, forall_const, reduceCtorEq, Bool.not_true, Bool.not_false, Bool.false_eq_true, Int.reduceEq, Int.reduceLT, Int.reduceLE, Int.reduceNeg, Int.reduceToNat, Int.reduceAdd, Int.reduceSub, Nat.reduceMul, Nat.reduceEqDiff, gW_un, gcF_un, gcA_un, ci_mkmap, ci_mapset, ci_lookup, ci_maxl, ci_appz, pi_lookup, pi_maxl, pu_lookup, pu_maxl, maxl_nil, maxl_one, maxl_cons, cells_mapr, stor_mapr, callv_yld, mm_max, mm_min, putAll_cons, putAll_nil, asgK_normal, roundK_normal, roundK_ret, roundK_exit, part_cell, part_agg, *]
    | (refine retK_now ?_)
    | (refine retK_now' ?_)
    | (intro q hq)
    | (refine cond_intro (fun hc => ?_) (fun hc => ?_)))
  refine seqK_now ?_
  refine seq_go ?_
  (repeat' first
    | simp (contextual := true) (maxSteps := 4000000) only [fwc, fwe, opsW_gpure, drawW_pure, drawW_gpure, Env.upd_apply, Heap.upd_same, Heap.upd_apply, ite_none, List.getD_cons_zero, List.getD_cons_succ, List.getD_nil, List.length_cons, List.length_nil, List.map_cons, List.map_nil, List.getElem?_cons_zero, List.getElem?_cons_succ, List.getElem?_nil, List.set_cons_zero, List.set_cons_succ, List.take_succ_cons, List.take_zero, List.drop_succ_cons, List.drop_zero, List.nil_append, List.cons_append, List.append_nil, Option.map_some, Option.map_none, Option.bind_some, Option.bind_none, reduceIte, ↓reduceIte, decide_true, decide_false, Bool.true_and, Bool.and_true, Bool.false_and, Bool.and_false, true_and, and_true, and_self, Nat.reduceAdd, Nat.reduceLeDiff, Nat.reduceEqDiff, Nat.zero_add, Nat.add_zero, Nat.le_refl, Nat.zero_le, ge_iff_le, Nat.reduceLT, Nat.zero_lt_succ, Nat.reduceSub, if_true, if_false, forall_const, reduceCtorEq, Bool.not_true, Bool.not_false, Bool.false_eq_true, Int.reduceEq, Int.reduceLT, Int.reduceLE, Int.reduceNeg, Int.reduceToNat, Int.reduceAdd, Int.reduceSub, Nat.reduceMul, Nat.reduceEqDiff, gW_un, gcF_un, gcA_un, ci_mkmap, ci_mapset, ci_lookup, ci_maxl, ci_appz, pi_lookup, pi_maxl, pu_lookup, pu_maxl, maxl_nil, maxl_one, maxl_cons, cells_mapr, stor_mapr, callv_yld, mm_max, mm_min, putAll_cons, putAll_nil, asgK_normal, roundK_normal, roundK_ret, roundK_exit, part_cell, part_agg, *]
    | (refine retK_now ?_)
    | (refine retK_now' ?_)
    | (intro q hq)
    | (refine cond_intro (fun hc => ?_) (fun hc => ?_)))
  refine callF_use hNf ?_
  (repeat' first
    | simp (contextual := true) (maxSteps := 4000000) only [fwc, fwe, opsW_gpure, drawW_pure, drawW_gpure, Env.upd_apply, Heap.upd_same, Heap.upd_apply, ite_none, List.getD_cons_zero, List.getD_cons_succ, List.getD_nil, List.length_cons, List.length_nil, List.map_cons, List.map_nil, List.getElem?_cons_zero, List.getElem?_cons_succ, List.getElem?_nil, List.set_cons_zero, List.set_cons_succ, List.take_succ_cons, List.take_zero, List.drop_succ_cons, List.drop_zero, List.nil_append, List.cons_append, List.append_nil, Option.map_some, Option.map_none, Option.bind_some, Option.bind_none, reduceIte, ↓reduceIte, decide_true, decide_false, Bool.true_and, Bool.and_true, Bool.false_and, Bool.and_false, true_and, and_true, and_self, Nat.reduceAdd, Nat.reduceLeDiff, Nat.reduceEqDiff, Nat.zero_add, Nat.add_zero, Nat.le_refl, Nat.zero_le, ge_iff_le, Nat.reduceLT, Nat.zero_lt_succ, Nat.reduceSub, if_true, if_false, forall_const, reduceCtorEq, Bool.not_true, Bool.not_false, Bool.false_eq_true, Int.reduceEq, Int.reduceLT, Int.reduceLE, Int.reduceNeg, Int.reduceToNat, Int.reduceAdd, Int.reduceSub, Nat.reduceMul, Nat.reduceEqDiff, gW_un, gcF_un, gcA_un, ci_mkmap, ci_mapset, ci_lookup, ci_maxl, ci_appz, pi_lookup, pi_maxl, pu_lookup, pu_maxl, maxl_nil, maxl_one, maxl_cons, cells_mapr, stor_mapr, callv_yld, mm_max, mm_min, putAll_cons, putAll_nil, asgK_normal, roundK_normal, roundK_ret, roundK_exit, part_cell, part_agg, *]
    | (refine retK_now ?_)
    | (refine retK_now' ?_)
    | (intro q hq)
    | (refine cond_intro (fun hc => ?_) (fun hc => ?_)))
  refine callF_use hNg ?_
  (repeat' first
    | simp (contextual := true) (maxSteps := 4000000) only [fwc, fwe, opsW_gpure, drawW_pure, drawW_gpure, Env.upd_apply, Heap.upd_same, Heap.upd_apply, ite_none, List.getD_cons_zero, List.getD_cons_succ, List.getD_nil, List.length_cons, List.length_nil, List.map_cons, List.map_nil, List.getElem?_cons_zero, List.getElem?_cons_succ, List.getElem?_nil, List.set_cons_zero, List.set_cons_succ, List.take_succ_cons, List.take_zero, List.drop_succ_cons, List.drop_zero, List.nil_append, List.cons_append, List.append_nil, Option.map_some, Option.map_none, Option.bind_some, Option.bind_none, reduceIte, ↓reduceIte, decide_true, decide_false, Bool.true_and, Bool.and_true, Bool.false_and, Bool.and_false, true_and, and_true, and_self, Nat.reduceAdd, Nat.reduceLeDiff, Nat.reduceEqDiff, Nat.zero_add, Nat.add_zero, Nat.le_refl, Nat.zero_le, ge_iff_le, Nat.reduceLT, Nat.zero_lt_succ, Nat.reduceSub, if_true, if_false, forall_const, reduceCtorEq, Bool.not_true, Bool.not_false, Bool.false_eq_true, Int.reduceEq, Int.reduceLT, Int.reduceLE, Int.reduceNeg, Int.reduceToNat, Int.reduceAdd, Int.reduceSub, Nat.reduceMul, Nat.reduceEqDiff, gW_un, gcF_un, gcA_un, ci_mkmap, ci_mapset, ci_lookup, ci_maxl, ci_appz, pi_lookup, pi_maxl, pu_lookup, pu_maxl, maxl_nil, maxl_one, maxl_cons, cells_mapr, stor_mapr, callv_yld, mm_max, mm_min, putAll_cons, putAll_nil, asgK_normal, roundK_normal, roundK_ret, roundK_exit, part_cell, part_agg, *]
    | (refine retK_now ?_)
    | (refine retK_now' ?_)
    | (intro q hq)
    | (refine cond_intro (fun hc => ?_) (fun hc => ?_)))
  refine seqK_now ?_
  refine seq_go ?_
  (repeat' first
    | simp (contextual := true) (maxSteps := 4000000) only [fwc, fwe, opsW_gpure, drawW_pure, drawW_gpure, Env.upd_apply, Heap.upd_same, Heap.upd_apply, ite_none, List.getD_cons_zero, List.getD_cons_succ, List.getD_nil, List.length_cons, List.length_nil, List.map_cons, List.map_nil, List.getElem?_cons_zero, List.getElem?_cons_succ, List.getElem?_nil, List.set_cons_zero, List.set_cons_succ, List.take_succ_cons, List.take_zero, List.drop_succ_cons, List.drop_zero, List.nil_append, List.cons_append, List.append_nil, Option.map_some, Option.map_none, Option.bind_some, Option.bind_none, reduceIte, ↓reduceIte, decide_true, decide_false, Bool.true_and, Bool.and_true, Bool.false_and, Bool.and_false, true_and, and_true, and_self, Nat.reduceAdd, Nat.reduceLeDiff, Nat.reduceEqDiff, Nat.zero_add, Nat.add_zero, Nat.le_refl, Nat.zero_le, ge_iff_le, Nat.reduceLT, Nat.zero_lt_succ, Nat.reduceSub, if_true, if_false, forall_const, reduceCtorEq, Bool.not_true, Bool.not_false, Bool.false_eq_true, Int.reduceEq, Int.reduceLT, Int.reduceLE, Int.reduceNeg, Int.reduceToNat, Int.reduceAdd, Int.reduceSub, Nat.reduceMul, Nat.reduceEqDiff, gW_un, gcF_un, gcA_un, ci_mkmap, ci_mapset, ci_lookup, ci_maxl, ci_appz, pi_lookup, pi_maxl, pu_lookup, pu_maxl, maxl_nil, maxl_one, maxl_cons, cells_mapr, stor_mapr, callv_yld, mm_max, mm_min, putAll_cons, putAll_nil, asgK_normal, roundK_normal, roundK_ret, roundK_exit, part_cell, part_agg, *]
    | (refine retK_now ?_)
    | (refine retK_now' ?_)
    | (intro q hq)
    | (refine cond_intro (fun hc => ?_) (fun hc => ?_)))
  refine seqK_now ?_
  refine seq_go ?_
  (repeat' first
    | simp (contextual := true) (maxSteps := 4000000) only [fwc, fwe, opsW_gpure, drawW_pure, drawW_gpure, Env.upd_apply, Heap.upd_same, Heap.upd_apply, ite_none, List.getD_cons_zero, List.getD_cons_succ, List.getD_nil, List.length_cons, List.length_nil, List.map_cons, List.map_nil, List.getElem?_cons_zero, List.getElem?_cons_succ, List.getElem?_nil, List.set_cons_zero, List.set_cons_succ, List.take_succ_cons, List.take_zero, List.drop_succ_cons, List.drop_zero, List.nil_append, List.cons_append, List.append_nil, Option.map_some, Option.map_none, Option.bind_some, Option.bind_none, reduceIte, ↓reduceIte, decide_true, decide_false, Bool.true_and, Bool.and_true, Bool.false_and, Bool.and_false, true_and, and_true, and_self, Nat.reduceAdd, Nat.reduceLeDiff, Nat.reduceEqDiff, Nat.zero_add, Nat.add_zero, Nat.le_refl, Nat.zero_le, ge_iff_le, Nat.reduceLT, Nat.zero_lt_succ, Nat.reduceSub, if_true, if_false, forall_const, reduceCtorEq, Bool.not_true, Bool.not_false, Bool.false_eq_true, Int.reduceEq, Int.reduceLT, Int.reduceLE, Int.reduceNeg, Int.reduceToNat, Int.reduceAdd, Int.reduceSub, Nat.reduceMul, Nat.reduceEqDiff, gW_un, gcF_un, gcA_un, ci_mkmap, ci_mapset, ci_lookup, ci_maxl, ci_appz, pi_lookup, pi_maxl, pu_lookup, pu_maxl, maxl_nil, maxl_one, maxl_cons, cells_mapr, stor_mapr, callv_yld, mm_max, mm_min, putAll_cons, putAll_nil, asgK_normal, roundK_normal, roundK_ret, roundK_exit, part_cell, part_agg, *]
    | (refine retK_now ?_)
    | (refine retK_now' ?_)
    | (intro q hq)
    | (refine cond_intro (fun hc => ?_) (fun hc => ?_)))
  refine hOf.use ?_
  clear hOf hNf hNg
  (repeat' first
    | simp (contextual := true) (maxSteps := 4000000) only [fwc, fwe, opsW_gpure, drawW_pure, drawW_gpure, Env.upd_apply, Heap.upd_same, Heap.upd_apply, ite_none, List.getD_cons_zero, List.getD_cons_succ, List.getD_nil, List.length_cons, List.length_nil, List.map_cons, List.map_nil, List.getElem?_cons_zero, List.getElem?_cons_succ, List.getElem?_nil, List.set_cons_zero, List.set_cons_succ, List.take_succ_cons, List.take_zero, List.drop_succ_cons, List.drop_zero, List.nil_append, List.cons_append, List.append_nil, Option.map_some, Option.map_none, Option.bind_some, Option.bind_none, reduceIte, ↓reduceIte, decide_true, decide_false, Bool.true_and, Bool.and_true, Bool.false_and, Bool.and_false, true_and, and_true, and_self, Nat.reduceAdd, Nat.reduceLeDiff, Nat.reduceEqDiff, Nat.zero_add, Nat.add_zero, Nat.le_refl, Nat.zero_le, ge_iff_le, Nat.reduceLT, Nat.zero_lt_succ, Nat.reduceSub, if_true, if_false, forall_const, reduceCtorEq, Bool.not_true, Bool.not_false, Bool.false_eq_true, Int.reduceEq, Int.reduceLT, Int.reduceLE, Int.reduceNeg, Int.reduceToNat, Int.reduceAdd, Int.reduceSub, Nat.reduceMul, Nat.reduceEqDiff, gW_un, gcF_un, gcA_un, ci_mkmap, ci_mapset, ci_lookup, ci_maxl, ci_appz, pi_lookup, pi_maxl, pu_lookup, pu_maxl, maxl_nil, maxl_one, maxl_cons, cells_mapr, stor_mapr, callv_yld, mm_max, mm_min, putAll_cons, putAll_nil, asgK_normal, roundK_normal, roundK_ret, roundK_exit, part_cell, part_agg, *]
    | (refine retK_now ?_)
    | (refine retK_now' ?_)
    | (intro q hq)
    | (refine cond_intro (fun hc => ?_) (fun hc => ?_)))
  refine seqK_now ?_
  refine seq_go ?_
  (repeat' first
    | simp (contextual := true) (maxSteps := 4000000) only [fwc, fwe, opsW_gpure, drawW_pure, drawW_gpure, Env.upd_apply, Heap.upd_same, Heap.upd_apply, ite_none, List.getD_cons_zero, List.getD_cons_succ, List.getD_nil, List.length_cons, List.length_nil, List.map_cons, List.map_nil, List.getElem?_cons_zero, List.getElem?_cons_succ, List.getElem?_nil, List.set_cons_zero, List.set_cons_succ, List.take_succ_cons, List.take_zero, List.drop_succ_cons, List.drop_zero, List.nil_append, List.cons_append, List.append_nil, Option.map_some, Option.map_none, Option.bind_some, Option.bind_none, reduceIte, ↓reduceIte, decide_true, decide_false, Bool.true_and, Bool.and_true, Bool.false_and, Bool.and_false, true_and, and_true, and_self, Nat.reduceAdd, Nat.reduceLeDiff, Nat.reduceEqDiff, Nat.zero_add, Nat.add_zero, Nat.le_refl, Nat.zero_le, ge_iff_le, Nat.reduceLT, Nat.zero_lt_succ, Nat.reduceSub, if_true, if_false, forall_const, reduceCtorEq, Bool.not_true, Bool.not_false, Bool.false_eq_true, Int.reduceEq, Int.reduceLT, Int.reduceLE, Int.reduceNeg, Int.reduceToNat, Int.reduceAdd, Int.reduceSub, Nat.reduceMul, Nat.reduceEqDiff, gW_un, gcF_un, gcA_un, ci_mkmap, ci_mapset, ci_lookup, ci_maxl, ci_appz, pi_lookup, pi_maxl, pu_lookup, pu_maxl, maxl_nil, maxl_one, maxl_cons, cells_mapr, stor_mapr, callv_yld, mm_max, mm_min, putAll_cons, putAll_nil, asgK_normal, roundK_normal, roundK_ret, roundK_exit, part_cell, part_agg, *]
    | (refine retK_now ?_)
    | (refine retK_now' ?_)
    | (intro q hq)
    | (refine cond_intro (fun hc => ?_) (fun hc => ?_)))
  refine seqK_now ?_
  have d13 : decide ((13 : Int) = 13) = true := by decide
  have d9 : decide ((9 : Int) = 9) = true := by decide
  have d0 : (!decide ((0 : Int) = 0)) = false := by decide
  have dn : decide ((n : Int) = 0) = decide (n = 0) := decide_eq_decide.2 (by omega)
  have dm : decide ((m : Int) = 0) = decide (m = 0) := decide_eq_decide.2 (by omega)
  have d4 : decide ((4 : Int) < ((n + m : Nat) : Int)) = decide (4 < n + m) := decide_eq_decide.2 (by omega)
  by_cases hn0 : n = 0
  · have e1 : atL F B f = [] := List.eq_nil_of_length_eq_zero (by rw [t1.out, hn0])
    have e2 := L1.out e1
    rw [e2] at hj
    have e3 := hy' (by rw [e2]; decide)
    rw [e3] at hj
    have e4 : decide (n = 0) = true := decide_eq_true hn0
    replace hn0 := (show Aside _ from hn0)
    clear hy hy' e1 e2 e3 hBe
    unfold noBeds at hj
    (repeat' first
    | simp (contextual := true) (maxSteps := 4000000) only [fwc, fwe, cmd_seq, opsW_gpure, drawW_pure, drawW_gpure, Env.upd_apply, Heap.upd_same, Heap.upd_apply, ite_none, List.getD_cons_zero, List.getD_cons_succ, List.getD_nil, List.length_cons, List.length_nil, List.map_cons, List.map_nil, List.getElem?_cons_zero, List.getElem?_cons_succ, List.getElem?_nil, List.set_cons_zero, List.set_cons_succ, List.take_succ_cons, List.take_zero, List.drop_succ_cons, List.drop_zero, List.nil_append, List.cons_append, List.append_nil, Option.map_some, Option.map_none, Option.bind_some, Option.bind_none, reduceIte, ↓reduceIte, decide_true, decide_false, Bool.true_and, Bool.and_true, Bool.false_and, Bool.and_false, true_and, and_true, and_self, Nat.reduceAdd, Nat.reduceLeDiff, Nat.reduceEqDiff, Nat.zero_add, Nat.add_zero, Nat.le_refl, Nat.zero_le, ge_iff_le, Nat.reduceLT, Nat.zero_lt_succ, Nat.reduceSub, if_true, if_false, forall_const, reduceCtorEq, Bool.not_true, Bool.not_false, Bool.false_eq_true, Int.reduceEq, Int.reduceLT, Int.reduceLE, Int.reduceNeg, Int.reduceToNat, Int.reduceAdd, Int.reduceSub, Nat.reduceMul, Nat.reduceEqDiff, gW_un, gcF_un, gcA_un, ci_mkmap, ci_mapset, ci_lookup, ci_maxl, ci_appz, pi_lookup, pi_maxl, pu_lookup, pu_maxl, maxl_nil, maxl_one, maxl_cons, cells_mapr, stor_mapr, callv_yld, mm_max, mm_min, putAll_cons, putAll_nil, asgK_normal, roundK_normal, roundK_ret, roundK_exit, part_cell, part_agg, *]
    | (refine seqK_now ?_)
    | (refine retK_now ?_)
    | (refine retK_now' ?_)
    | (intro q hq)
    | (refine cond_intro (fun hc => ?_) (fun hc => ?_)))
    refine hj.use ?_
    (repeat' first
    | simp (contextual := true) (maxSteps := 4000000) only [fwc, fwe, cmd_seq, opsW_gpure, drawW_pure, drawW_gpure, Env.upd_apply, Heap.upd_same, Heap.upd_apply, ite_none, List.getD_cons_zero, List.getD_cons_succ, List.getD_nil, List.length_cons, List.length_nil, List.map_cons, List.map_nil, List.getElem?_cons_zero, List.getElem?_cons_succ, List.getElem?_nil, List.set_cons_zero, List.set_cons_succ, List.take_succ_cons, List.take_zero, List.drop_succ_cons, List.drop_zero, List.nil_append, List.cons_append, List.append_nil, Option.map_some, Option.map_none, Option.bind_some, Option.bind_none, reduceIte, ↓reduceIte, decide_true, decide_false, Bool.true_and, Bool.and_true, Bool.false_and, Bool.and_false, true_and, and_true, and_self, Nat.reduceAdd, Nat.reduceLeDiff, Nat.reduceEqDiff, Nat.zero_add, Nat.add_zero, Nat.le_refl, Nat.zero_le, ge_iff_le, Nat.reduceLT, Nat.zero_lt_succ, Nat.reduceSub, if_true, if_false, forall_const, reduceCtorEq, Bool.not_true, Bool.not_false, Bool.false_eq_true, Int.reduceEq, Int.reduceLT, Int.reduceLE, Int.reduceNeg, Int.reduceToNat, Int.reduceAdd, Int.reduceSub, Nat.reduceMul, Nat.reduceEqDiff, gW_un, gcF_un, gcA_un, ci_mkmap, ci_mapset, ci_lookup, ci_maxl, ci_appz, pi_lookup, pi_maxl, pu_lookup, pu_maxl, maxl_nil, maxl_one, maxl_cons, cells_mapr, stor_mapr, callv_yld, mm_max, mm_min, putAll_cons, putAll_nil, asgK_normal, roundK_normal, roundK_ret, roundK_exit, part_cell, part_agg, *]
    | (refine seqK_now ?_)
    | (refine retK_now ?_)
    | (refine retK_now' ?_)
    | (intro q hq)
    | (refine cond_intro (fun hc => ?_) (fun hc => ?_)))
    refine lives_ok.use ?_
    (repeat' first
    | simp (contextual := true) (maxSteps := 4000000) only [fwc, fwe, cmd_seq, opsW_gpure, drawW_pure, drawW_gpure, Env.upd_apply, Heap.upd_same, Heap.upd_apply, ite_none, List.getD_cons_zero, List.getD_cons_succ, List.getD_nil, List.length_cons, List.length_nil, List.map_cons, List.map_nil, List.getElem?_cons_zero, List.getElem?_cons_succ, List.getElem?_nil, List.set_cons_zero, List.set_cons_succ, List.take_succ_cons, List.take_zero, List.drop_succ_cons, List.drop_zero, List.nil_append, List.cons_append, List.append_nil, Option.map_some, Option.map_none, Option.bind_some, Option.bind_none, reduceIte, ↓reduceIte, decide_true, decide_false, Bool.true_and, Bool.and_true, Bool.false_and, Bool.and_false, true_and, and_true, and_self, Nat.reduceAdd, Nat.reduceLeDiff, Nat.reduceEqDiff, Nat.zero_add, Nat.add_zero, Nat.le_refl, Nat.zero_le, ge_iff_le, Nat.reduceLT, Nat.zero_lt_succ, Nat.reduceSub, if_true, if_false, forall_const, reduceCtorEq, Bool.not_true, Bool.not_false, Bool.false_eq_true, Int.reduceEq, Int.reduceLT, Int.reduceLE, Int.reduceNeg, Int.reduceToNat, Int.reduceAdd, Int.reduceSub, Nat.reduceMul, Nat.reduceEqDiff, gW_un, gcF_un, gcA_un, ci_mkmap, ci_mapset, ci_lookup, ci_maxl, ci_appz, pi_lookup, pi_maxl, pu_lookup, pu_maxl, maxl_nil, maxl_one, maxl_cons, cells_mapr, stor_mapr, callv_yld, mm_max, mm_min, putAll_cons, putAll_nil, asgK_normal, roundK_normal, roundK_ret, roundK_exit, part_cell, part_agg, *]
    | (refine seqK_now ?_)
    | (refine retK_now ?_)
    | (refine retK_now' ?_)
    | (intro q hq)
    | (refine cond_intro (fun hc => ?_) (fun hc => ?_)))
    refine WeakR.pure (by repeat (first | exact Heap.sub_refl _ | refine sub_upd (by simp only [*]) ?_)) ?_
    rfl
  · have e1 : atL F B f ≠ [] := fun e => hn0 (by rw [← t1.out, e]; rfl)
    have e4 : decide (n = 0) = false := decide_eq_false hn0
    by_cases h4' : 4 < n + m
    · have e2 := L2.out e1 (by rw [t1.out, t2.out]; exact h4')
      rw [e2] at hj
      have e3 := hy' (by rw [e2]; decide)
      rw [e3] at hj
      have e5 : decide (4 < n + m) = true := decide_eq_true h4'
      replace h4' := (show Aside _ from h4')
      replace hn0 := (show Aside _ from hn0)
      clear hy hy' e1 e2 e3 hBe
      unfold noBeds at hj
      (repeat' first
    | simp (contextual := true) (maxSteps := 4000000) only [fwc, fwe, cmd_seq, opsW_gpure, drawW_pure, drawW_gpure, Env.upd_apply, Heap.upd_same, Heap.upd_apply, ite_none, List.getD_cons_zero, List.getD_cons_succ, List.getD_nil, List.length_cons, List.length_nil, List.map_cons, List.map_nil, List.getElem?_cons_zero, List.getElem?_cons_succ, List.getElem?_nil, List.set_cons_zero, List.set_cons_succ, List.take_succ_cons, List.take_zero, List.drop_succ_cons, List.drop_zero, List.nil_append, List.cons_append, List.append_nil, Option.map_some, Option.map_none, Option.bind_some, Option.bind_none, reduceIte, ↓reduceIte, decide_true, decide_false, Bool.true_and, Bool.and_true, Bool.false_and, Bool.and_false, true_and, and_true, and_self, Nat.reduceAdd, Nat.reduceLeDiff, Nat.reduceEqDiff, Nat.zero_add, Nat.add_zero, Nat.le_refl, Nat.zero_le, ge_iff_le, Nat.reduceLT, Nat.zero_lt_succ, Nat.reduceSub, if_true, if_false, forall_const, reduceCtorEq, Bool.not_true, Bool.not_false, Bool.false_eq_true, Int.reduceEq, Int.reduceLT, Int.reduceLE, Int.reduceNeg, Int.reduceToNat, Int.reduceAdd, Int.reduceSub, Nat.reduceMul, Nat.reduceEqDiff, gW_un, gcF_un, gcA_un, ci_mkmap, ci_mapset, ci_lookup, ci_maxl, ci_appz, pi_lookup, pi_maxl, pu_lookup, pu_maxl, maxl_nil, maxl_one, maxl_cons, cells_mapr, stor_mapr, callv_yld, mm_max, mm_min, putAll_cons, putAll_nil, asgK_normal, roundK_normal, roundK_ret, roundK_exit, part_cell, part_agg, *]
    | (refine seqK_now ?_)
    | (refine retK_now ?_)
    | (refine retK_now' ?_)
    | (intro q hq)
    | (refine cond_intro (fun hc => ?_) (fun hc => ?_)))
      refine hj.use ?_
      (repeat' first
    | simp (contextual := true) (maxSteps := 4000000) only [fwc, fwe, cmd_seq, opsW_gpure, drawW_pure, drawW_gpure, Env.upd_apply, Heap.upd_same, Heap.upd_apply, ite_none, List.getD_cons_zero, List.getD_cons_succ, List.getD_nil, List.length_cons, List.length_nil, List.map_cons, List.map_nil, List.getElem?_cons_zero, List.getElem?_cons_succ, List.getElem?_nil, List.set_cons_zero, List.set_cons_succ, List.take_succ_cons, List.take_zero, List.drop_succ_cons, List.drop_zero, List.nil_append, List.cons_append, List.append_nil, Option.map_some, Option.map_none, Option.bind_some, Option.bind_none, reduceIte, ↓reduceIte, decide_true, decide_false, Bool.true_and, Bool.and_true, Bool.false_and, Bool.and_false, true_and, and_true, and_self, Nat.reduceAdd, Nat.reduceLeDiff, Nat.reduceEqDiff, Nat.zero_add, Nat.add_zero, Nat.le_refl, Nat.zero_le, ge_iff_le, Nat.reduceLT, Nat.zero_lt_succ, Nat.reduceSub, if_true, if_false, forall_const, reduceCtorEq, Bool.not_true, Bool.not_false, Bool.false_eq_true, Int.reduceEq, Int.reduceLT, Int.reduceLE, Int.reduceNeg, Int.reduceToNat, Int.reduceAdd, Int.reduceSub, Nat.reduceMul, Nat.reduceEqDiff, gW_un, gcF_un, gcA_un, ci_mkmap, ci_mapset, ci_lookup, ci_maxl, ci_appz, pi_lookup, pi_maxl, pu_lookup, pu_maxl, maxl_nil, maxl_one, maxl_cons, cells_mapr, stor_mapr, callv_yld, mm_max, mm_min, putAll_cons, putAll_nil, asgK_normal, roundK_normal, roundK_ret, roundK_exit, part_cell, part_agg, *]
    | (refine seqK_now ?_)
    | (refine retK_now ?_)
    | (refine retK_now' ?_)
    | (intro q hq)
    | (refine cond_intro (fun hc => ?_) (fun hc => ?_)))
      refine lives_ok.use ?_
      (repeat' first
    | simp (contextual := true) (maxSteps := 4000000) only [fwc, fwe, cmd_seq, opsW_gpure, drawW_pure, drawW_gpure, Env.upd_apply, Heap.upd_same, Heap.upd_apply, ite_none, List.getD_cons_zero, List.getD_cons_succ, List.getD_nil, List.length_cons, List.length_nil, List.map_cons, List.map_nil, List.getElem?_cons_zero, List.getElem?_cons_succ, List.getElem?_nil, List.set_cons_zero, List.set_cons_succ, List.take_succ_cons, List.take_zero, List.drop_succ_cons, List.drop_zero, List.nil_append, List.cons_append, List.append_nil, Option.map_some, Option.map_none, Option.bind_some, Option.bind_none, reduceIte, ↓reduceIte, decide_true, decide_false, Bool.true_and, Bool.and_true, Bool.false_and, Bool.and_false, true_and, and_true, and_self, Nat.reduceAdd, Nat.reduceLeDiff, Nat.reduceEqDiff, Nat.zero_add, Nat.add_zero, Nat.le_refl, Nat.zero_le, ge_iff_le, Nat.reduceLT, Nat.zero_lt_succ, Nat.reduceSub, if_true, if_false, forall_const, reduceCtorEq, Bool.not_true, Bool.not_false, Bool.false_eq_true, Int.reduceEq, Int.reduceLT, Int.reduceLE, Int.reduceNeg, Int.reduceToNat, Int.reduceAdd, Int.reduceSub, Nat.reduceMul, Nat.reduceEqDiff, gW_un, gcF_un, gcA_un, ci_mkmap, ci_mapset, ci_lookup, ci_maxl, ci_appz, pi_lookup, pi_maxl, pu_lookup, pu_maxl, maxl_nil, maxl_one, maxl_cons, cells_mapr, stor_mapr, callv_yld, mm_max, mm_min, putAll_cons, putAll_nil, asgK_normal, roundK_normal, roundK_ret, roundK_exit, part_cell, part_agg, *]
    | (refine seqK_now ?_)
    | (refine retK_now ?_)
    | (refine retK_now' ?_)
    | (intro q hq)
    | (refine cond_intro (fun hc => ?_) (fun hc => ?_)))
      refine WeakR.pure (by repeat (first | exact Heap.sub_refl _ | refine sub_upd (by simp only [*]) ?_)) ?_
      rfl
    · have e5 : decide (4 < n + m) = false := decide_eq_false h4'
      obtain ⟨M1, M2, M3, M4, M5, M6⟩ := L3.out e1 (by rw [t1.out, t2.out]; omega)
      rw [t1.out, t2.out] at M3 M5
      rw [t2.out] at M6
      have hy := hy M1
      rw [M1] at hj
      obtain ⟨k1, k2, k3, k4, k5, k6, k7, _, _⟩ := hy.cells
      obtain ⟨p1, hp1, hpT1⟩ := hy.at_ f
      obtain ⟨p2, hp2, hpT2⟩ := hy.at_ g
      have hpl1 := hpT1.isL.len
      have hpl2 := hpT2.isL.len
      rw [List.length_map] at hpl1 hpl2
      rw [M2] at hpl1
      rw [M3] at hpl2
      replace hpl1 : lenA p1 = some (.val (.int .i64 0)) := hpl1
      obtain ⟨z, hjz, hz, _⟩ := hy.join g f (by have := hg1.out; omega) (by have := hf0.out; omega)
      have hz := hz M4
      rw [M4] at hjz
      obtain ⟨k8, k9, k10, k11, k12, k13, k14, _, _⟩ := hz.cells
      obtain ⟨p3, hp3, hpT3⟩ := hz.at_ f
      have hpl3 := hpT3.isL.len
      rw [List.length_map, M5] at hpl3
      have hsm := hz.same hBe
      rw [M6] at hsm
      rw [show f.av = .agg [.val (.int .u8 f.bed), .val (.int .i64 f.at_)] from rfl] at hp1 hp3 hjz
      rw [show g.av = .agg [.val (.int .u8 g.bed), .val (.int .i64 g.at_)] from rfl] at hp2 hjz
      have q1 : (!decide (((n + m : Nat) : Int) = ((n + m : Nat) : Int))) = false := by simp
      have q2 : decide (((n + m : Nat) : Int) = ((n + m : Nat) : Int)) = true := by simp
      have q3 : (decide (m = 0) == decide (m = 0)) = true := by simp
      have q4 : decide ((0 : Int) = 0) = true := by decide
      subst k3 k10
      replace h4' := (show Aside _ from h4')
      replace hn0 := (show Aside _ from hn0)
      clear hy hy' e1 hBe hz M1 M2 M3 M4 M5 M6 hpT1 hpT2 hpT3
      (repeat' first
    | simp (contextual := true) (maxSteps := 4000000) only [fwc, fwe, cmd_seq, opsW_gpure, drawW_pure, drawW_gpure, Env.upd_apply, Heap.upd_same, Heap.upd_apply, ite_none, List.getD_cons_zero, List.getD_cons_succ, List.getD_nil, List.length_cons, List.length_nil, List.map_cons, List.map_nil, List.getElem?_cons_zero, List.getElem?_cons_succ, List.getElem?_nil, List.set_cons_zero, List.set_cons_succ, List.take_succ_cons, List.take_zero, List.drop_succ_cons, List.drop_zero, List.nil_append, List.cons_append, List.append_nil, Option.map_some, Option.map_none, Option.bind_some, Option.bind_none, reduceIte, ↓reduceIte, decide_true, decide_false, Bool.true_and, Bool.and_true, Bool.false_and, Bool.and_false, true_and, and_true, and_self, Nat.reduceAdd, Nat.reduceLeDiff, Nat.reduceEqDiff, Nat.zero_add, Nat.add_zero, Nat.le_refl, Nat.zero_le, ge_iff_le, Nat.reduceLT, Nat.zero_lt_succ, Nat.reduceSub, if_true, if_false, forall_const, reduceCtorEq, Bool.not_true, Bool.not_false, Bool.false_eq_true, Int.reduceEq, Int.reduceLT, Int.reduceLE, Int.reduceNeg, Int.reduceToNat, Int.reduceAdd, Int.reduceSub, Nat.reduceMul, Nat.reduceEqDiff, gW_un, gcF_un, gcA_un, ci_mkmap, ci_mapset, ci_lookup, ci_maxl, ci_appz, pi_lookup, pi_maxl, pu_lookup, pu_maxl, maxl_nil, maxl_one, maxl_cons, cells_mapr, stor_mapr, callv_yld, mm_max, mm_min, putAll_cons, putAll_nil, asgK_normal, roundK_normal, roundK_ret, roundK_exit, part_cell, part_agg, *]
    | (refine seqK_now ?_)
    | (refine retK_now ?_)
    | (refine retK_now' ?_)
    | (intro q hq)
    | (refine cond_intro (fun hc => ?_) (fun hc => ?_)))
      refine hj.use ?_
      (repeat' first
    | simp (contextual := true) (maxSteps := 4000000) only [fwc, fwe, cmd_seq, opsW_gpure, drawW_pure, drawW_gpure, Env.upd_apply, Heap.upd_same, Heap.upd_apply, ite_none, List.getD_cons_zero, List.getD_cons_succ, List.getD_nil, List.length_cons, List.length_nil, List.map_cons, List.map_nil, List.getElem?_cons_zero, List.getElem?_cons_succ, List.getElem?_nil, List.set_cons_zero, List.set_cons_succ, List.take_succ_cons, List.take_zero, List.drop_succ_cons, List.drop_zero, List.nil_append, List.cons_append, List.append_nil, Option.map_some, Option.map_none, Option.bind_some, Option.bind_none, reduceIte, ↓reduceIte, decide_true, decide_false, Bool.true_and, Bool.and_true, Bool.false_and, Bool.and_false, true_and, and_true, and_self, Nat.reduceAdd, Nat.reduceLeDiff, Nat.reduceEqDiff, Nat.zero_add, Nat.add_zero, Nat.le_refl, Nat.zero_le, ge_iff_le, Nat.reduceLT, Nat.zero_lt_succ, Nat.reduceSub, if_true, if_false, forall_const, reduceCtorEq, Bool.not_true, Bool.not_false, Bool.false_eq_true, Int.reduceEq, Int.reduceLT, Int.reduceLE, Int.reduceNeg, Int.reduceToNat, Int.reduceAdd, Int.reduceSub, Nat.reduceMul, Nat.reduceEqDiff, gW_un, gcF_un, gcA_un, ci_mkmap, ci_mapset, ci_lookup, ci_maxl, ci_appz, pi_lookup, pi_maxl, pu_lookup, pu_maxl, maxl_nil, maxl_one, maxl_cons, cells_mapr, stor_mapr, callv_yld, mm_max, mm_min, putAll_cons, putAll_nil, asgK_normal, roundK_normal, roundK_ret, roundK_exit, part_cell, part_agg, *]
    | (refine seqK_now ?_)
    | (refine retK_now ?_)
    | (refine retK_now' ?_)
    | (intro q hq)
    | (refine cond_intro (fun hc => ?_) (fun hc => ?_)))
      refine hp1.use ?_
      (repeat' first
    | simp (contextual := true) (maxSteps := 4000000) only [fwc, fwe, cmd_seq, opsW_gpure, drawW_pure, drawW_gpure, Env.upd_apply, Heap.upd_same, Heap.upd_apply, ite_none, List.getD_cons_zero, List.getD_cons_succ, List.getD_nil, List.length_cons, List.length_nil, List.map_cons, List.map_nil, List.getElem?_cons_zero, List.getElem?_cons_succ, List.getElem?_nil, List.set_cons_zero, List.set_cons_succ, List.take_succ_cons, List.take_zero, List.drop_succ_cons, List.drop_zero, List.nil_append, List.cons_append, List.append_nil, Option.map_some, Option.map_none, Option.bind_some, Option.bind_none, reduceIte, ↓reduceIte, decide_true, decide_false, Bool.true_and, Bool.and_true, Bool.false_and, Bool.and_false, true_and, and_true, and_self, Nat.reduceAdd, Nat.reduceLeDiff, Nat.reduceEqDiff, Nat.zero_add, Nat.add_zero, Nat.le_refl, Nat.zero_le, ge_iff_le, Nat.reduceLT, Nat.zero_lt_succ, Nat.reduceSub, if_true, if_false, forall_const, reduceCtorEq, Bool.not_true, Bool.not_false, Bool.false_eq_true, Int.reduceEq, Int.reduceLT, Int.reduceLE, Int.reduceNeg, Int.reduceToNat, Int.reduceAdd, Int.reduceSub, Nat.reduceMul, Nat.reduceEqDiff, gW_un, gcF_un, gcA_un, ci_mkmap, ci_mapset, ci_lookup, ci_maxl, ci_appz, pi_lookup, pi_maxl, pu_lookup, pu_maxl, maxl_nil, maxl_one, maxl_cons, cells_mapr, stor_mapr, callv_yld, mm_max, mm_min, putAll_cons, putAll_nil, asgK_normal, roundK_normal, roundK_ret, roundK_exit, part_cell, part_agg, *]
    | (refine seqK_now ?_)
    | (refine retK_now ?_)
    | (refine retK_now' ?_)
    | (intro q hq)
    | (refine cond_intro (fun hc => ?_) (fun hc => ?_)))
      refine hp2.use ?_
      (repeat' first
    | simp (contextual := true) (maxSteps := 4000000) only [fwc, fwe, cmd_seq, opsW_gpure, drawW_pure, drawW_gpure, Env.upd_apply, Heap.upd_same, Heap.upd_apply, ite_none, List.getD_cons_zero, List.getD_cons_succ, List.getD_nil, List.length_cons, List.length_nil, List.map_cons, List.map_nil, List.getElem?_cons_zero, List.getElem?_cons_succ, List.getElem?_nil, List.set_cons_zero, List.set_cons_succ, List.take_succ_cons, List.take_zero, List.drop_succ_cons, List.drop_zero, List.nil_append, List.cons_append, List.append_nil, Option.map_some, Option.map_none, Option.bind_some, Option.bind_none, reduceIte, ↓reduceIte, decide_true, decide_false, Bool.true_and, Bool.and_true, Bool.false_and, Bool.and_false, true_and, and_true, and_self, Nat.reduceAdd, Nat.reduceLeDiff, Nat.reduceEqDiff, Nat.zero_add, Nat.add_zero, Nat.le_refl, Nat.zero_le, ge_iff_le, Nat.reduceLT, Nat.zero_lt_succ, Nat.reduceSub, if_true, if_false, forall_const, reduceCtorEq, Bool.not_true, Bool.not_false, Bool.false_eq_true, Int.reduceEq, Int.reduceLT, Int.reduceLE, Int.reduceNeg, Int.reduceToNat, Int.reduceAdd, Int.reduceSub, Nat.reduceMul, Nat.reduceEqDiff, gW_un, gcF_un, gcA_un, ci_mkmap, ci_mapset, ci_lookup, ci_maxl, ci_appz, pi_lookup, pi_maxl, pu_lookup, pu_maxl, maxl_nil, maxl_one, maxl_cons, cells_mapr, stor_mapr, callv_yld, mm_max, mm_min, putAll_cons, putAll_nil, asgK_normal, roundK_normal, roundK_ret, roundK_exit, part_cell, part_agg, *]
    | (refine seqK_now ?_)
    | (refine retK_now ?_)
    | (refine retK_now' ?_)
    | (intro q hq)
    | (refine cond_intro (fun hc => ?_) (fun hc => ?_)))
      refine hjz.use ?_
      (repeat' first
    | simp (contextual := true) (maxSteps := 4000000) only [fwc, fwe, cmd_seq, opsW_gpure, drawW_pure, drawW_gpure, Env.upd_apply, Heap.upd_same, Heap.upd_apply, ite_none, List.getD_cons_zero, List.getD_cons_succ, List.getD_nil, List.length_cons, List.length_nil, List.map_cons, List.map_nil, List.getElem?_cons_zero, List.getElem?_cons_succ, List.getElem?_nil, List.set_cons_zero, List.set_cons_succ, List.take_succ_cons, List.take_zero, List.drop_succ_cons, List.drop_zero, List.nil_append, List.cons_append, List.append_nil, Option.map_some, Option.map_none, Option.bind_some, Option.bind_none, reduceIte, ↓reduceIte, decide_true, decide_false, Bool.true_and, Bool.and_true, Bool.false_and, Bool.and_false, true_and, and_true, and_self, Nat.reduceAdd, Nat.reduceLeDiff, Nat.reduceEqDiff, Nat.zero_add, Nat.add_zero, Nat.le_refl, Nat.zero_le, ge_iff_le, Nat.reduceLT, Nat.zero_lt_succ, Nat.reduceSub, if_true, if_false, forall_const, reduceCtorEq, Bool.not_true, Bool.not_false, Bool.false_eq_true, Int.reduceEq, Int.reduceLT, Int.reduceLE, Int.reduceNeg, Int.reduceToNat, Int.reduceAdd, Int.reduceSub, Nat.reduceMul, Nat.reduceEqDiff, gW_un, gcF_un, gcA_un, ci_mkmap, ci_mapset, ci_lookup, ci_maxl, ci_appz, pi_lookup, pi_maxl, pu_lookup, pu_maxl, maxl_nil, maxl_one, maxl_cons, cells_mapr, stor_mapr, callv_yld, mm_max, mm_min, putAll_cons, putAll_nil, asgK_normal, roundK_normal, roundK_ret, roundK_exit, part_cell, part_agg, *]
    | (refine seqK_now ?_)
    | (refine retK_now ?_)
    | (refine retK_now' ?_)
    | (intro q hq)
    | (refine cond_intro (fun hc => ?_) (fun hc => ?_)))
      refine hp3.use ?_
      (repeat' first
    | simp (contextual := true) (maxSteps := 4000000) only [fwc, fwe, cmd_seq, opsW_gpure, drawW_pure, drawW_gpure, Env.upd_apply, Heap.upd_same, Heap.upd_apply, ite_none, List.getD_cons_zero, List.getD_cons_succ, List.getD_nil, List.length_cons, List.length_nil, List.map_cons, List.map_nil, List.getElem?_cons_zero, List.getElem?_cons_succ, List.getElem?_nil, List.set_cons_zero, List.set_cons_succ, List.take_succ_cons, List.take_zero, List.drop_succ_cons, List.drop_zero, List.nil_append, List.cons_append, List.append_nil, Option.map_some, Option.map_none, Option.bind_some, Option.bind_none, reduceIte, ↓reduceIte, decide_true, decide_false, Bool.true_and, Bool.and_true, Bool.false_and, Bool.and_false, true_and, and_true, and_self, Nat.reduceAdd, Nat.reduceLeDiff, Nat.reduceEqDiff, Nat.zero_add, Nat.add_zero, Nat.le_refl, Nat.zero_le, ge_iff_le, Nat.reduceLT, Nat.zero_lt_succ, Nat.reduceSub, if_true, if_false, forall_const, reduceCtorEq, Bool.not_true, Bool.not_false, Bool.false_eq_true, Int.reduceEq, Int.reduceLT, Int.reduceLE, Int.reduceNeg, Int.reduceToNat, Int.reduceAdd, Int.reduceSub, Nat.reduceMul, Nat.reduceEqDiff, gW_un, gcF_un, gcA_un, ci_mkmap, ci_mapset, ci_lookup, ci_maxl, ci_appz, pi_lookup, pi_maxl, pu_lookup, pu_maxl, maxl_nil, maxl_one, maxl_cons, cells_mapr, stor_mapr, callv_yld, mm_max, mm_min, putAll_cons, putAll_nil, asgK_normal, roundK_normal, roundK_ret, roundK_exit, part_cell, part_agg, *]
    | (refine seqK_now ?_)
    | (refine retK_now ?_)
    | (refine retK_now' ?_)
    | (intro q hq)
    | (refine cond_intro (fun hc => ?_) (fun hc => ?_)))
      refine hsm.use ?_
      (repeat' first
    | simp (contextual := true) (maxSteps := 4000000) only [fwc, fwe, cmd_seq, opsW_gpure, drawW_pure, drawW_gpure, Env.upd_apply, Heap.upd_same, Heap.upd_apply, ite_none, List.getD_cons_zero, List.getD_cons_succ, List.getD_nil, List.length_cons, List.length_nil, List.map_cons, List.map_nil, List.getElem?_cons_zero, List.getElem?_cons_succ, List.getElem?_nil, List.set_cons_zero, List.set_cons_succ, List.take_succ_cons, List.take_zero, List.drop_succ_cons, List.drop_zero, List.nil_append, List.cons_append, List.append_nil, Option.map_some, Option.map_none, Option.bind_some, Option.bind_none, reduceIte, ↓reduceIte, decide_true, decide_false, Bool.true_and, Bool.and_true, Bool.false_and, Bool.and_false, true_and, and_true, and_self, Nat.reduceAdd, Nat.reduceLeDiff, Nat.reduceEqDiff, Nat.zero_add, Nat.add_zero, Nat.le_refl, Nat.zero_le, ge_iff_le, Nat.reduceLT, Nat.zero_lt_succ, Nat.reduceSub, if_true, if_false, forall_const, reduceCtorEq, Bool.not_true, Bool.not_false, Bool.false_eq_true, Int.reduceEq, Int.reduceLT, Int.reduceLE, Int.reduceNeg, Int.reduceToNat, Int.reduceAdd, Int.reduceSub, Nat.reduceMul, Nat.reduceEqDiff, gW_un, gcF_un, gcA_un, ci_mkmap, ci_mapset, ci_lookup, ci_maxl, ci_appz, pi_lookup, pi_maxl, pu_lookup, pu_maxl, maxl_nil, maxl_one, maxl_cons, cells_mapr, stor_mapr, callv_yld, mm_max, mm_min, putAll_cons, putAll_nil, asgK_normal, roundK_normal, roundK_ret, roundK_exit, part_cell, part_agg, *]
    | (refine seqK_now ?_)
    | (refine retK_now ?_)
    | (refine retK_now' ?_)
    | (intro q hq)
    | (refine cond_intro (fun hc => ?_) (fun hc => ?_)))
      refine lives_ok.use ?_
      (repeat' first
    | simp (contextual := true) (maxSteps := 4000000) only [fwc, fwe, cmd_seq, opsW_gpure, drawW_pure, drawW_gpure, Env.upd_apply, Heap.upd_same, Heap.upd_apply, ite_none, List.getD_cons_zero, List.getD_cons_succ, List.getD_nil, List.length_cons, List.length_nil, List.map_cons, List.map_nil, List.getElem?_cons_zero, List.getElem?_cons_succ, List.getElem?_nil, List.set_cons_zero, List.set_cons_succ, List.take_succ_cons, List.take_zero, List.drop_succ_cons, List.drop_zero, List.nil_append, List.cons_append, List.append_nil, Option.map_some, Option.map_none, Option.bind_some, Option.bind_none, reduceIte, ↓reduceIte, decide_true, decide_false, Bool.true_and, Bool.and_true, Bool.false_and, Bool.and_false, true_and, and_true, and_self, Nat.reduceAdd, Nat.reduceLeDiff, Nat.reduceEqDiff, Nat.zero_add, Nat.add_zero, Nat.le_refl, Nat.zero_le, ge_iff_le, Nat.reduceLT, Nat.zero_lt_succ, Nat.reduceSub, if_true, if_false, forall_const, reduceCtorEq, Bool.not_true, Bool.not_false, Bool.false_eq_true, Int.reduceEq, Int.reduceLT, Int.reduceLE, Int.reduceNeg, Int.reduceToNat, Int.reduceAdd, Int.reduceSub, Nat.reduceMul, Nat.reduceEqDiff, gW_un, gcF_un, gcA_un, ci_mkmap, ci_mapset, ci_lookup, ci_maxl, ci_appz, pi_lookup, pi_maxl, pu_lookup, pu_maxl, maxl_nil, maxl_one, maxl_cons, cells_mapr, stor_mapr, callv_yld, mm_max, mm_min, putAll_cons, putAll_nil, asgK_normal, roundK_normal, roundK_ret, roundK_exit, part_cell, part_agg, *]
    | (refine seqK_now ?_)
    | (refine retK_now ?_)
    | (refine retK_now' ?_)
    | (intro q hq)
    | (refine cond_intro (fun hc => ?_) (fun hc => ?_)))
      refine WeakR.pure (by repeat (first | exact Heap.sub_refl _ | refine sub_upd (by simp only [*]) ?_)) ?_
      rfl
end Go.Proofs.Ytlpngkeegjickaa

namespace Go.Proofs.Ytlpngkeegjickaa
open Go.Ab Go.ChangeShapes Go.WideShapes Go.ChangeAt Go.RowKit

theorem own : ownKnob Try.prog.godebug = none := by kernel_rfl
theorem laid : laidOutB Try.prog = true := by kernel_rfl
theorem wf_u8 {n : Int} (h : (Lit.int .u8 n).wf = true) : 0 ≤ n ∧ n ≤ 255 := by
  simpa [Lit.wf, IntKind.min, IntKind.max, IntKind.signed, IntKind.bits] using h
theorem wf_i64 {n : Int} (h : (Lit.int .i64 n).wf = true) : -9223372036854775808 ≤ n ∧ n ≤ 9223372036854775807 := by
  simpa [Lit.wf, IntKind.min, IntKind.max, IntKind.signed, IntKind.bits] using h

def lay2 : Lay := .int .u8 (.int .u8 .nil)
theorem open_2 {a : AV} {es : List AV} (he : elemIs true a es) (h : LayOK lay2 es) : ∃ m n : Nat, m < 256 ∧ n < 256 ∧ a = .agg [.val (.int .u8 m), .val (.int .u8 n)] := by
  obtain ⟨m, vs', rfl, hm, n, vs', rfl, hn, rfl⟩ := h
  have h1 := wf_u8 hm
  have h2 := wf_u8 hn
  refine ⟨m.toNat, n.toNat, by omega, by omega, ?_⟩
  rw [show ((m.toNat : Nat) : Int) = m by omega, show ((n.toNat : Nat) : Int) = n by omega]
  exact he
theorem StacksBack_args (vs : List AV) (h : ArgsOK [(true, lay2), (true, lay2)] vs) : PureA Try.prog 7 vs (.val (.bool true)) := by
  obtain ⟨a, vs', es, rfl, k1, h1, b, vs', es', rfl, k2, h2, rfl⟩ := h
  obtain ⟨m0, m1, g1, g2, rfl⟩ := open_2 k1 h1
  obtain ⟨a0, a1, g3, g4, rfl⟩ := open_2 k2 h2
  exact StacksBack_ok m0 m1 a0 a1 g1 g2 g3 g4
set_option maxRecDepth 100000 in
theorem StacksBack_lifted (os : Os) (started : os.Started) (H : Type) (enc : TypeId × Value → H) :
    ReturnsInHanded {} Try.checked os 7 .any (Rows.stacksBackSpec.pre6 enc Try.prog Try.f7 Rows.stacksBackRow.domain false) (Rows.stacksBackSpec.post enc Try.prog Try.f7 false true false false) := by
  refine returnsInHanded_of_change (C := Try.checked) own started (by kernel_rfl) Try.func7
    (ChangeSpec.witness6 (enc := enc) (C := Try.checked) false ⟨#[], #[.agg #[.int .u8 0, .int .u8 0], .agg #[.int .u8 0, .int .u8 0]], []⟩ 8 (by kernel_rfl) (by kernel_rfl) (by kernel_rfl) (by kernel_rfl)) ?_
  intro W base args ds gs before hval hW _ _
  exact law_calls (lays := [(true, lay2), (true, lay2)]) laid (of_decide_eq_true (by kernel_rfl)) (by kernel_rfl) (by kernel_rfl) rfl (fun ds hds => by
    match ds, hds with
    | [d1, d2], _ => rfl) StacksBack_args W base args ds gs before hval hW

theorem StacksBack_holds : Rows.StacksBackSaid :=
  OpenClaim.holds_of_wide 7 Try.f7 rfl rfl rfl rfl rfl rfl rfl ⟨rfl, rfl, rfl, rfl, rfl⟩ rfl rfl rfl rfl rfl (by kernel_rfl) Try.func7 (by kernel_rfl)
    (of_decide_eq_true (by kernel_rfl)) (by unfold Func.isWrapper; first | (rw [if_pos (by decide +kernel)]; kernel_rfl) | (rw [if_neg (by decide +kernel)]; exact ⟨rfl, rfl⟩))
    (fun os started H enc _ => StacksBack_lifted os started H enc)

end Go.Proofs.Ytlpngkeegjickaa

namespace Go.Proofs.Ytlpngkeegjickaa
open Go.Ab

/-- The needle of an element that is visited. -/
def ixv (T : List (List Id)) (j : Nat) : Nat := if j < trF T then j else 40 + (j - trF T)
theorem vis_len (T : List (List Id)) : (visL (bedsF T) (bedsB T)).length = trF T + trB T := by
  rw [vis_beds, List.length_append, bedsF_len, bedsB_len]
theorem vis_get (T : List (List Id)) (j : Nat) (h : j < (visL (bedsF T) (bedsB T)).length) : (visL (bedsF T) (bedsB T))[j] = T.getD (ixv T j) [] := by
  have hl := vis_len T
  have h1 := trF_le T
  have h2 := trB_le T
  have e : (visL (bedsF T) (bedsB T))[j] = (bedsF T ++ bedsB T)[j]'(by rw [← vis_beds]; exact h) := by
    congr 1
    exact vis_beds T
  rw [e]
  unfold ixv
  by_cases hj : j < trF T
  · rw [List.getElem_append_left (by rw [bedsF_len]; exact hj), if_pos hj]
    simp [bedsF]
  · rw [List.getElem_append_right (by rw [bedsF_len]; omega), if_neg hj]
    simp [bedsB, bedsF_len]
theorem nd_ixv (T : List (List Id)) (j : Nat) (h : j < trF T + trB T) : nd (min (bedsF T).length 40) j = needleL (ixv T j) := by
  have h1 := trF_le T
  have h2 := trB_le T
  rw [bedsF_len, Nat.min_eq_left h1, Ndl.ext']
  unfold nd ixv needleL
  by_cases hj : j < trF T
  · simp only [if_pos hj]; omega
  · simp only [if_neg hj]; omega
theorem uniq {T : List (List Id)} (h : T.flatten.Nodup) {p : Id} {i k : Nat} (hi : p ∈ T.getD i []) (hk : p ∈ T.getD k []) : i = k := by
  have key : ∀ {a b : Nat}, a < b → p ∈ T.getD a [] → p ∈ T.getD b [] → False := fun {a b} hab ha hb => by
    have hbl : b < T.length := Nat.lt_of_not_le fun h => by rw [getD_nil h] at hb; cases hb
    have hal : a < T.length := by omega
    rw [List.getD_eq_getElem?_getD, List.getElem?_eq_getElem hal] at ha
    rw [List.getD_eq_getElem?_getD, List.getElem?_eq_getElem hbl] at hb
    have := (List.pairwise_iff_getElem.1 (List.pairwise_flatten.1 h).2) a b hal hbl hab
    exact this p ha p hb rfl
  rcases Nat.lt_trichotomy i k with h1 | h1 | h1
  · exact (key h1 hi hk).elim
  · exact h1
  · exact (key h1 hk hi).elim
theorem mem_tab {T : List (List Id)} {p : Id} (h : p ∈ T.flatten) : ∃ i, i < T.length ∧ p ∈ T.getD i [] := by
  obtain ⟨l, hl, hp⟩ := List.mem_flatten.1 h
  obtain ⟨i, hi, rfl⟩ := List.mem_iff_getElem.1 hl
  exact ⟨i, hi, by rw [List.getD_eq_getElem?_getD, List.getElem?_eq_getElem hi]; exact hp⟩
theorem tab_mem {T : List (List Id)} {p : Id} {i : Nat} (h : p ∈ T.getD i []) : p ∈ T.flatten := by
  have hi : i < T.length := Nat.lt_of_not_le fun h' => by rw [getD_nil h'] at h; cases h
  rw [List.getD_eq_getElem?_getD, List.getElem?_eq_getElem hi] at h
  exact List.mem_flatten.2 ⟨_, List.getElem_mem hi, h⟩

theorem find_none {T : List (List Id)} {p : Id} (h : p ∉ T.flatten) : findL (bedsF T) (bedsB T) p = none := by
  unfold findL
  rw [List.findIdx?_eq_none_iff]
  intro l hl
  obtain ⟨j, hj, rfl⟩ := List.mem_iff_getElem.1 hl
  refine decide_eq_false fun hm => h ?_
  rw [vis_get] at hm
  exact tab_mem hm
theorem find_some {T : List (List Id)} {p : Id} (hT : T.length = 80) (hn : T.flatten.Nodup) {i : Nat} (hi : p ∈ T.getD i []) : ∃ j, findL (bedsF T) (bedsB T) p = some j ∧ nd (min (bedsF T).length 40) j = needleL i := by
  cases hf : findL (bedsF T) (bedsB T) p with
  | some j =>
    unfold findL at hf
    rw [List.findIdx?_eq_some_iff_getElem] at hf
    obtain ⟨h1, h2, _⟩ := hf
    have h2 := of_decide_eq_true h2
    rw [vis_get] at h2
    rw [vis_len] at h1
    exact ⟨j, rfl, by rw [nd_ixv T j h1, uniq hn h2 hi]⟩
  | none =>
    exfalso
    unfold findL at hf
    rw [List.findIdx?_eq_none_iff] at hf
    have hm : p ∈ (visL (bedsF T) (bedsB T)).flatten := by
      rw [show (visL (bedsF T) (bedsB T)).flatten = T.flatten from names_beds hT]
      exact tab_mem hi
    obtain ⟨l, hl, hp⟩ := List.mem_flatten.1 hm
    have := hf l hl
    simp [hp] at this
end Go.Proofs.Ytlpngkeegjickaa

namespace Go.Proofs.Ytlpngkeegjickaa
open Go.Ab
attribute [local irreducible] WeakR WeakE CallA YieldA

/-- Where the law finds a name. -/
def wh (T : List (List Id)) (p : Id) : Nat → Ndl
  | 0 => ⟨0, 0⟩
  | i + 1 => if p ∈ T.getD i [] then needleL i else wh T p i
theorem wh_none {T : List (List Id)} {p : Id} (h : p ∉ T.flatten) : ∀ i, wh T p i = ⟨0, 0⟩
  | 0 => rfl
  | i + 1 => by
    unfold wh
    rw [if_neg (fun hm => h (tab_mem hm)), wh_none h i]
theorem wh_some {T : List (List Id)} {p : Id} (hn : T.flatten.Nodup) {i : Nat} (hi : p ∈ T.getD i []) : ∀ k, i < k → wh T p k = needleL i
  | 0, h => by omega
  | k + 1, h => by
    unfold wh
    by_cases hk : p ∈ T.getD k []
    · rw [if_pos hk, uniq hn hk hi]
    · rw [if_neg hk]
      refine wh_some hn hi k ?_
      rcases Nat.lt_or_ge i k with h' | h'
      · exact h'
      · have : i = k := by omega
        exact absurd (this ▸ hi) hk

/-- What Find says is what the law finds. -/
theorem find_law {T : List (List Id)} {k : Nat} (h : TabOK T k) (p : Id) :
    (foundN (min (bedsF T).length 40) (findL (bedsF T) (bedsB T) p)) = wh T p 80 ∧ foundE (findL (bedsF T) (bedsB T) p) = (if T.flatten.count p = 0 then 7 else 0) := by
  by_cases hp : p ∈ T.flatten
  · obtain ⟨i, hi, hm⟩ := mem_tab hp
    obtain ⟨j, hj, hN⟩ := find_some h.len h.nd hm
    rw [h.len] at hi
    rw [hj, wh_some h.nd hm 80 hi, if_neg (by rw [List.count_eq_zero]; exact fun h => h hp)]
    exact ⟨hN, rfl⟩
  · rw [find_none hp, wh_none hp, if_pos (List.count_eq_zero.2 hp)]
    exact ⟨rfl, rfl⟩
end Go.Proofs.Ytlpngkeegjickaa
