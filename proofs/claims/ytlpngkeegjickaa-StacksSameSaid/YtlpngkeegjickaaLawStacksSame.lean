/- The law StacksSame of the given program: for every input the call returns true, and its arguments read as before. Here: contracts of functions, and the law. -/
import Derived.Test.YtlpngkeegjickaaLawStacksSameP1
import Derived.Test.YtlpngkeegjickaaFc
import Derived.Test.YtlpngkeegjickaaRows
set_option linter.unusedSimpArgs false
set_option linter.unusedVariables false
namespace Go.Proofs.Ytlpngkeegjickaa
open Go.Ab
attribute [local irreducible] WeakR WeakE CallA YieldA

theorem needleL_ok (i : Nat) : (needleL i).bad = false ∧ 0 ≤ (needleL i).bed := by
  unfold needleL Ndl.bad
  simp only [Bool.or_eq_false_iff, decide_eq_false_iff_not]
  omega
/-- A table of slices. -/
structure IsTab (ts : List AV) (T : List (List Id)) : Prop where
  len : ts.length = 80
  tlen : T.length = 80
  el : ∀ (i : Nat) (h : i < ts.length) (h' : i < T.length), IsL 2 ts[i] (T[i].map Id.av)
  le : ∀ l ∈ T, l.length ≤ 1000
theorem tabA_is {T : List (List Id)} {n : Nat} (h : TabOK T n) : IsTab (tabA T) T :=
  ⟨by simp [tabA, h.len], h.len, fun i h1 h2 => by simp only [tabA, List.getElem_map]; exact frA_L _ _, fun l hl => by have := h.le l hl; omega⟩

def diffAt (T F B : List (List Id)) (i : Nat) : Bool := decide (atL F B (needleL i) = T.getD i [])
def longN (F : List (List Id)) : Nat := if 0 < F.length ∧ F.getD (F.length - 1) [] = [] then 1 else 0
def differsL (T F B : List (List Id)) : Nat := (List.range 80).countP (fun i => !diffAt T F B i) + longN F + longN B
def env12 (q2 q3 n i : Nat) : Env := (((Env.upd (fun _ => .junk) 6 (.val (.int .i64 i))).upd 5 (.val (.int .i64 n))).upd 3 (.optr q3 2 0 0)).upd 2 (.optr q2 80 0 0)

set_option maxHeartbeats 4000000 in
theorem differs_ok (ts : List AV) (T : List (List Id)) (f b : AV) (es fs : List AV) (F B : List (List Id)) (hT : IsTab ts T) (hf : IsB f es F) (hb : IsB b fs B) (htf : IsT 1 f es) (htb : IsT 1 b fs) (hF : Sm F) (hB : Sm B) :
    PureA Try.prog 12 [.agg ts, .agg [f, b]] (.val (.int .i64 (differsL T F B))) := by
  intro O
  have m1 := hf.1.cells
  have m2 := hb.1.cells
  have m3 := hf.1.stor
  have m4 := hb.1.stor
  have m5 := hf.1.len
  have m6 := hb.1.len
  rw [hf.2.1] at m5
  rw [hb.2.1] at m6
  have hFl := hF.1
  have hBl := hB.1
  have htl := hT.len
  have htl' := hT.tlen
  have htk : ts.take 80 = ts := List.take_of_length_le (by omega)
  refine k12.call mix ?_
  unfold c12
  (repeat' first
    | simp (contextual := true) (maxSteps := 4000000) only [fwc, fwe, fww, reduceIte, ↓reduceIte, Nat.reduceAdd, Nat.reduceLeDiff, Nat.reduceEqDiff, Nat.reduceLT, Nat.reduceSub, reduceCtorEq, Int.reduceEq, Int.reduceLT, Int.reduceLE, Int.reduceNeg, Int.reduceToNat, Int.reduceAdd, Int.reduceSub, Nat.reduceMul, *]
    | (refine seqK_now ?_)
    | (refine retK_now ?_)
    | (refine retK_now' ?_)
    | (intro q hq)
    | (refine cond_intro (fun hc => ?_) (fun hc => ?_)))
  rename_i q2 hq2
  revert q
  intro q3 hq3
  have hO3 : O q3 = none := hq3.2.2
  obtain ⟨a1, a2, _⟩ := hq3
  obtain ⟨I, hI⟩ := hideI (fun m e O' => ∃ i n : Nat, i ≤ 80 ∧ m = 80 - i ∧ n = (List.range i).countP (fun i => !diffAt T F B i) ∧ O' = (O.upd q2 (.arr 31 80 [.agg ts])).upd q3 (.arr 35 2 [.agg [f, b]]) ∧ e = env12 q2 q3 n i)
  refine cmd_loop I 80 (by rw [hI.out]; exact ⟨0, 0, by omega, rfl, rfl, rfl, rfl⟩) ?_
  intro m e O' hh
  rw [hI.out] at hh
  obtain ⟨i, n, h3, rfl, hn, rfl, rfl⟩ := hh
  have hn8 : n ≤ 80 := by rw [hn]; have := List.countP_le_length (p := fun i => !diffAt T F B i) (l := List.range i); simp at this; omega
  replace hn := (show Aside _ from hn)
  unfold env12
  have d1 : decide ((i : Int) < 80) = decide (i < 80) := decide_eq_decide.2 (by omega)
  have hwn : n < 4611686018427387904 := by omega
  by_cases hi : i < 80
  · have d2 : decide (i < 80) = true := decide_eq_true hi
    have w8 : IntKind.u8.wrap (i : Int) = (i : Int) := wrap_u8n (by omega)
    have hwi : i < 4611686018427387904 := by omega
    have hN := Needle_ok i (by omega)
    have hA := At_ok f b es fs F B (needleL i) hf hb hF hB
    have hAT := atA_T (needleL i) hf hb
    have hix : indexPtrA 80 1 false (i : Int) (.optr q2 80 0 0) = some (.optr q2 80 0 i) := by
      rw [ixp_optr, if_pos (by omega)]
      simp
    have hge : ts[i]? = some ts[i] := List.getElem?_eq_getElem (by omega)
    have hx := hT.el i (by omega) (by omega)
    have hxl := hT.le T[i] (List.getElem_mem (by omega))
    have hgd : T.getD i [] = T[i] := by rw [List.getD_eq_getElem?_getD, List.getElem?_eq_getElem (by omega)]; rfl
    have hcnt : (List.range (i + 1)).countP (fun i => !diffAt T F B i) = n + (if atL F B (needleL i) = T[i] then 0 else 1) := by
      rw [List.range_succ, List.countP_append, ← hn.out]
      simp only [List.countP_cons, List.countP_nil, diffAt, hgd]
      by_cases h : atL F B (needleL i) = T[i] <;> simp [h]
    have hsame := same_ok (atA es fs (needleL i)) (.list 2 true (T[i].map Id.av)) (atL F B (needleL i)) T[i] hAT .list (by have := atL_len hF hB (needleL i); omega)
    generalize hX : T[i] = X at hx hxl hcnt hsame
    generalize ts[i] = x at hge hx
    obtain ⟨u, hu⟩ : ∃ u, needleL i = u := ⟨_, rfl⟩
    rw [hu] at hN hA hAT hcnt hsame
    have hul := atL_len hF hB u
    have hx1 := hx.cells
    have hx2 := hx.len
    rw [List.length_map] at hx2
    have hel : ∀ O, elemsA O 2 x = some (X.map Id.av) := fun O => hx.el O
    clear hgd hX
    replace hcnt := (show Aside _ from hcnt)
    have hle80 : i + 1 ≤ 80 := by omega
    (repeat' first
    | simp (contextual := true) (maxSteps := 4000000) only [fwc, fwe, fww, reduceIte, ↓reduceIte, Nat.reduceAdd, Nat.reduceLeDiff, Nat.reduceEqDiff, Nat.reduceLT, Nat.reduceSub, reduceCtorEq, Int.reduceEq, Int.reduceLT, Int.reduceLE, Int.reduceNeg, Int.reduceToNat, Int.reduceAdd, Int.reduceSub, Nat.reduceMul, part_cell, *]
    | (refine seqK_now ?_)
    | (refine retK_now ?_)
    | (refine retK_now' ?_)
    | (intro q hq)
    | (refine cond_intro (fun hc => ?_) (fun hc => ?_)))
    refine callF_use hN ?_
    rw [show u.av = .agg [.val (.int .u8 u.bed), .val (.int .i64 u.at_)] from rfl] at hA
    (repeat' first
    | simp (contextual := true) (maxSteps := 4000000) only [fwc, fwe, fww, reduceIte, ↓reduceIte, Nat.reduceAdd, Nat.reduceLeDiff, Nat.reduceEqDiff, Nat.reduceLT, Nat.reduceSub, reduceCtorEq, Int.reduceEq, Int.reduceLT, Int.reduceLE, Int.reduceNeg, Int.reduceToNat, Int.reduceAdd, Int.reduceSub, Nat.reduceMul, part_cell, show u.av = .agg [.val (.int .u8 u.bed), .val (.int .i64 u.at_)] from rfl, *]
    | (refine seqK_now ?_)
    | (refine retK_now ?_)
    | (refine retK_now' ?_)
    | (intro q hq)
    | (refine cond_intro (fun hc => ?_) (fun hc => ?_)))
    refine callF_use hA ?_
    (repeat' first
    | simp (contextual := true) (maxSteps := 4000000) only [fwc, fwe, fww, reduceIte, ↓reduceIte, Nat.reduceAdd, Nat.reduceLeDiff, Nat.reduceEqDiff, Nat.reduceLT, Nat.reduceSub, reduceCtorEq, Int.reduceEq, Int.reduceLT, Int.reduceLE, Int.reduceNeg, Int.reduceToNat, Int.reduceAdd, Int.reduceSub, Nat.reduceMul, part_cell, *]
    | (refine seqK_now ?_)
    | (refine retK_now ?_)
    | (refine retK_now' ?_)
    | (intro q hq)
    | (refine cond_intro (fun hc => ?_) (fun hc => ?_)))
    refine drawW_make 0 X.length rfl rfl (Nat.zero_le _) (by unfold maxLen; omega) (by omega) ?_
    (repeat' first
    | simp (contextual := true) (maxSteps := 4000000) only [fwc, fwe, fww, reduceIte, ↓reduceIte, Nat.reduceAdd, Nat.reduceLeDiff, Nat.reduceEqDiff, Nat.reduceLT, Nat.reduceSub, reduceCtorEq, Int.reduceEq, Int.reduceLT, Int.reduceLE, Int.reduceNeg, Int.reduceToNat, Int.reduceAdd, Int.reduceSub, Nat.reduceMul, part_cell, *]
    | (refine seqK_now ?_)
    | (refine retK_now ?_)
    | (refine retK_now' ?_)
    | (intro q hq)
    | (refine cond_intro (fun hc => ?_) (fun hc => ?_)))
    refine drawW_append (.list 2 true (X.map Id.av)) ⟨X.map Id.av, hel _, rfl, rfl, fits_of (by simp; omega) (by omega), by simp⟩ ?_
    (repeat' first
    | simp (contextual := true) (maxSteps := 4000000) only [fwc, fwe, fww, reduceIte, ↓reduceIte, Nat.reduceAdd, Nat.reduceLeDiff, Nat.reduceEqDiff, Nat.reduceLT, Nat.reduceSub, reduceCtorEq, Int.reduceEq, Int.reduceLT, Int.reduceLE, Int.reduceNeg, Int.reduceToNat, Int.reduceAdd, Int.reduceSub, Nat.reduceMul, part_cell, *]
    | (refine seqK_now ?_)
    | (refine retK_now ?_)
    | (refine retK_now' ?_)
    | (intro q hq)
    | (refine cond_intro (fun hc => ?_) (fun hc => ?_)))
    refine callF_use hsame ?_
    by_cases heq : atL F B u = X
    · rw [if_pos heq]
      have hc0 : (List.range (i + 1)).countP (fun i => !diffAt T F B i) = n := by rw [hcnt.out, if_pos heq]; rfl
      replace hc0 := (show Aside _ from hc0)
      replace heq := (show Aside _ from heq)
      (repeat' first
    | simp (contextual := true) (maxSteps := 4000000) only [fwc, fwe, fww, reduceIte, ↓reduceIte, Nat.reduceAdd, Nat.reduceLeDiff, Nat.reduceEqDiff, Nat.reduceLT, Nat.reduceSub, reduceCtorEq, Int.reduceEq, Int.reduceLT, Int.reduceLE, Int.reduceNeg, Int.reduceToNat, Int.reduceAdd, Int.reduceSub, Nat.reduceMul, wrap_succ, *]
    | (refine seqK_now ?_)
    | (refine retK_now ?_)
    | (refine retK_now' ?_)
    | (intro q hq)
    | (refine cond_intro (fun hc => ?_) (fun hc => ?_)))
      refine loopK_now (80 - (i + 1)) (by omega) ?_
      rw [hI.out]
      refine ⟨i + 1, n, by omega, rfl, hc0.out.symm, rfl, ?_⟩
      simp (contextual := true) (maxSteps := 4000000) only [fwc, fwe, fww, reduceIte, ↓reduceIte, Nat.reduceAdd, Nat.reduceLeDiff, Nat.reduceEqDiff, Nat.reduceLT, Nat.reduceSub, reduceCtorEq, Int.reduceEq, Int.reduceLT, Int.reduceLE, Int.reduceNeg, Int.reduceToNat, Int.reduceAdd, Int.reduceSub, Nat.reduceMul, env12, wrap_succ, *]
    · rw [if_neg heq]
      have hc0 : (List.range (i + 1)).countP (fun i => !diffAt T F B i) = n + 1 := by rw [hcnt.out, if_neg heq]
      replace hc0 := (show Aside _ from hc0)
      replace heq := (show Aside _ from heq)
      (repeat' first
    | simp (contextual := true) (maxSteps := 4000000) only [fwc, fwe, fww, reduceIte, ↓reduceIte, Nat.reduceAdd, Nat.reduceLeDiff, Nat.reduceEqDiff, Nat.reduceLT, Nat.reduceSub, reduceCtorEq, Int.reduceEq, Int.reduceLT, Int.reduceLE, Int.reduceNeg, Int.reduceToNat, Int.reduceAdd, Int.reduceSub, Nat.reduceMul, wrap_succ, *]
    | (refine seqK_now ?_)
    | (refine retK_now ?_)
    | (refine retK_now' ?_)
    | (intro q hq)
    | (refine cond_intro (fun hc => ?_) (fun hc => ?_)))
      refine loopK_now (80 - (i + 1)) (by omega) ?_
      rw [hI.out]
      refine ⟨i + 1, n + 1, by omega, rfl, hc0.out.symm, rfl, ?_⟩
      simp (contextual := true) (maxSteps := 4000000) only [fwc, fwe, fww, reduceIte, ↓reduceIte, Nat.reduceAdd, Nat.reduceLeDiff, Nat.reduceEqDiff, Nat.reduceLT, Nat.reduceSub, reduceCtorEq, Int.reduceEq, Int.reduceLT, Int.reduceLE, Int.reduceNeg, Int.reduceToNat, Int.reduceAdd, Int.reduceSub, Nat.reduceMul, env12, wrap_succ, *]
  · have d2 : decide (i < 80) = false := decide_eq_false hi
    have hi8 : i = 80 := by omega
    subst hi8
    refine seq_go ?_
    refine seq_go ?_
    (repeat' first
    | simp (contextual := true) (maxSteps := 4000000) only [fwc, fwe, fww, reduceIte, ↓reduceIte, Nat.reduceAdd, Nat.reduceLeDiff, Nat.reduceEqDiff, Nat.reduceLT, Nat.reduceSub, reduceCtorEq, Int.reduceEq, Int.reduceLT, Int.reduceLE, Int.reduceNeg, Int.reduceToNat, Int.reduceAdd, Int.reduceSub, Nat.reduceMul, *]
    | (refine retK_now ?_)
    | (refine retK_now' ?_)
    | (intro q hq)
    | (refine cond_intro (fun hc => ?_) (fun hc => ?_)))
    refine seqK_now ?_
    (repeat' first
    | simp (contextual := true) (maxSteps := 4000000) only [fwc, fwe, fww, reduceIte, ↓reduceIte, Nat.reduceAdd, Nat.reduceLeDiff, Nat.reduceEqDiff, Nat.reduceLT, Nat.reduceSub, reduceCtorEq, Int.reduceEq, Int.reduceLT, Int.reduceLE, Int.reduceNeg, Int.reduceToNat, Int.reduceAdd, Int.reduceSub, Nat.reduceMul, *]
    | (refine retK_now ?_)
    | (refine retK_now' ?_)
    | (intro q hq)
    | (refine cond_intro (fun hc => ?_) (fun hc => ?_)))
    refine seqK_now ?_
    refine seq_post (fun e1 O1 => O1 = (O.upd q2 (.arr 31 80 [.agg ts])).upd q3 (.arr 35 2 [.agg [f, b]]) ∧ e1 = ((Env.upd (fun _ => .junk) 5 (.val (.int .i64 ((n + longN F : Nat) : Int)))).upd 3 (.optr q3 2 0 0))) ?_ ?_
    · intro e1 O1 hQ
      obtain ⟨rfl, rfl⟩ := hQ
      have hlF : longN F ≤ 1 := by unfold longN; split <;> omega
      generalize hm : n + longN F = n2
      have hwn2 : n2 < 4611686018427387904 := by omega
      replace hm := (show Aside _ from hm)
      have hgF : ∀ h : 0 < B.length, ∃ y, indexAddrA 1 ((B.length - 1 : Nat) : Int) b = some (.ref y) ∧ y.cells = [y] ∧ lenA y = some (.val (.int .i64 (B.getD (B.length - 1) []).length)) := fun h => by
        have hl := hb.2.1
        have hyL := hb.2.2 (B.length - 1) (by omega) (by omega)
        refine ⟨_, hb.1.ia (by omega), hyL.cells, ?_⟩
        have := hyL.len
        rw [List.length_map] at this
        rw [this, List.getD_eq_getElem?_getD, List.getElem?_eq_getElem (by omega)]
        rfl
      have hne : (!decide ((fs.length : Int) = (B.length : Int))) = false := by rw [hb.2.1]; simp
      have hwl : IntKind.i64.wrap ((B.length : Int) - 1) = ((B.length - 1 : Nat) : Int) ∨ B.length = 0 := by
        rcases Nat.eq_zero_or_pos B.length with h | h
        · exact .inr h
        · left; rw [wrap_i64 (by omega) (by omega)]; omega
      rcases Nat.eq_zero_or_pos B.length with h0 | h0
      · have k1 : decide ((0 : Int) < (B.length : Int)) = false := decide_eq_false (by omega)
        have k2 : longN B = 0 := by unfold longN; rw [if_neg (by omega)]
        replace h0 := (show Aside _ from h0)
        clear hwl hgF
        (repeat' first
    | simp (contextual := true) (maxSteps := 4000000) only [fwc, fwe, fww, reduceIte, ↓reduceIte, Nat.reduceAdd, Nat.reduceLeDiff, Nat.reduceEqDiff, Nat.reduceLT, Nat.reduceSub, reduceCtorEq, Int.reduceEq, Int.reduceLT, Int.reduceLE, Int.reduceNeg, Int.reduceToNat, Int.reduceAdd, Int.reduceSub, Nat.reduceMul, part_cell, *]
    | (refine seqK_now ?_)
    | (refine retK_now ?_)
    | (refine retK_now' ?_)
    | (intro q hq)
    | (refine cond_intro (fun hc => ?_) (fun hc => ?_)))
        refine opsW_gcap (b := false) (sz := 1) (L := fs) rfl (fun _ => ?_) ?_
        · simp only [opd_tmp, Env.upd_apply, jn_true, if_true, *, reduceCtorEq, if_false, Nat.reduceEqDiff, b_eq_f, Bool.not_false]
          try exact htb
        (repeat' first
    | simp (contextual := true) (maxSteps := 4000000) only [fwc, fwe, fww, reduceIte, ↓reduceIte, Nat.reduceAdd, Nat.reduceLeDiff, Nat.reduceEqDiff, Nat.reduceLT, Nat.reduceSub, reduceCtorEq, Int.reduceEq, Int.reduceLT, Int.reduceLE, Int.reduceNeg, Int.reduceToNat, Int.reduceAdd, Int.reduceSub, Nat.reduceMul, part_cell, b_eq_f, *]
    | (refine seqK_now ?_)
    | (refine retK_now ?_)
    | (refine retK_now' ?_)
    | (intro q hq)
    | (refine cond_intro (fun hc => ?_) (fun hc => ?_)))
        refine WeakR.pure (sub_upd hO3 (sub_upd hq2 (Heap.sub_refl _))) ?_
        rw [show differsL T F B = n2 by unfold differsL; rw [k2, ← hm.out, ← hn.out]; rfl]
      · obtain ⟨y, y1, y2, y3⟩ := hgF h0
        have hwl : IntKind.i64.wrap ((B.length : Int) - 1) = ((B.length - 1 : Nat) : Int) := hwl.resolve_right (by omega)
        have k1 : decide ((0 : Int) < (B.length : Int)) = true := decide_eq_true (by omega)
        by_cases hy : B.getD (B.length - 1) [] = []
        · have k2 : longN B = 1 := by unfold longN; rw [if_pos ⟨h0, hy⟩]
          replace y3 : lenA y = some (.val (.int .i64 0)) := by rw [hy] at y3; exact y3
          have dz : decide ((0 : Int) = 0) = true := by decide
          replace h0 := (show Aside _ from h0)
          replace hy := (show Aside _ from hy)
          clear hgF
          (repeat' first
    | simp (contextual := true) (maxSteps := 4000000) only [fwc, fwe, fww, reduceIte, ↓reduceIte, Nat.reduceAdd, Nat.reduceLeDiff, Nat.reduceEqDiff, Nat.reduceLT, Nat.reduceSub, reduceCtorEq, Int.reduceEq, Int.reduceLT, Int.reduceLE, Int.reduceNeg, Int.reduceToNat, Int.reduceAdd, Int.reduceSub, Nat.reduceMul, part_cell, *]
    | (refine seqK_now ?_)
    | (refine retK_now ?_)
    | (refine retK_now' ?_)
    | (intro q hq)
    | (refine cond_intro (fun hc => ?_) (fun hc => ?_)))
          refine opsW_gcap (b := true) (sz := 1) (L := fs) rfl (fun h => by cases h) ?_
          (repeat' first
    | simp (contextual := true) (maxSteps := 4000000) only [fwc, fwe, fww, reduceIte, ↓reduceIte, Nat.reduceAdd, Nat.reduceLeDiff, Nat.reduceEqDiff, Nat.reduceLT, Nat.reduceSub, reduceCtorEq, Int.reduceEq, Int.reduceLT, Int.reduceLE, Int.reduceNeg, Int.reduceToNat, Int.reduceAdd, Int.reduceSub, Nat.reduceMul, part_cell, b_eq_f, wrap_succ, *]
    | (refine seqK_now ?_)
    | (refine retK_now ?_)
    | (refine retK_now' ?_)
    | (intro q hq)
    | (refine cond_intro (fun hc => ?_) (fun hc => ?_)))
          have hw2 := wrap_succ hwn2
          refine WeakR.pure (sub_upd hO3 (sub_upd hq2 (Heap.sub_refl _))) ?_
          rw [show differsL T F B = n2 + 1 by unfold differsL; rw [k2, ← hm.out, ← hn.out]]
          try (first | rfl | rw [hw2])
        · have k2 : longN B = 0 := by unfold longN; rw [if_neg (fun h => hy h.2)]
          have k3 : decide (((B.getD (B.length - 1) []).length : Int) = 0) = false := decide_eq_false (fun h => hy (List.eq_nil_of_length_eq_zero (by omega)))
          replace h0 := (show Aside _ from h0)
          replace hy := (show Aside _ from hy)
          clear hgF
          (repeat' first
    | simp (contextual := true) (maxSteps := 4000000) only [fwc, fwe, fww, reduceIte, ↓reduceIte, Nat.reduceAdd, Nat.reduceLeDiff, Nat.reduceEqDiff, Nat.reduceLT, Nat.reduceSub, reduceCtorEq, Int.reduceEq, Int.reduceLT, Int.reduceLE, Int.reduceNeg, Int.reduceToNat, Int.reduceAdd, Int.reduceSub, Nat.reduceMul, part_cell, *]
    | (refine seqK_now ?_)
    | (refine retK_now ?_)
    | (refine retK_now' ?_)
    | (intro q hq)
    | (refine cond_intro (fun hc => ?_) (fun hc => ?_)))
          refine opsW_gcap (b := false) (sz := 1) (L := fs) rfl (fun _ => ?_) ?_
          · simp only [opd_tmp, Env.upd_apply, jn_true, if_true, *, reduceCtorEq, if_false, Nat.reduceEqDiff, b_eq_f, Bool.not_false]
            try exact htb
          (repeat' first
    | simp (contextual := true) (maxSteps := 4000000) only [fwc, fwe, fww, reduceIte, ↓reduceIte, Nat.reduceAdd, Nat.reduceLeDiff, Nat.reduceEqDiff, Nat.reduceLT, Nat.reduceSub, reduceCtorEq, Int.reduceEq, Int.reduceLT, Int.reduceLE, Int.reduceNeg, Int.reduceToNat, Int.reduceAdd, Int.reduceSub, Nat.reduceMul, part_cell, b_eq_f, *]
    | (refine seqK_now ?_)
    | (refine retK_now ?_)
    | (refine retK_now' ?_)
    | (intro q hq)
    | (refine cond_intro (fun hc => ?_) (fun hc => ?_)))
          refine WeakR.pure (sub_upd hO3 (sub_upd hq2 (Heap.sub_refl _))) ?_
          rw [show differsL T F B = n2 by unfold differsL; rw [k2, ← hm.out, ← hn.out]; rfl]
    · intro F1 hQ
      replace hQ := (show Aside _ from hQ)
      have hw1 : IntKind.i64.wrap ((n : Int) + 1) = ((n + 1 : Nat) : Int) := wrap_succ hwn
      have hgF : ∀ h : 0 < F.length, ∃ y, indexAddrA 1 ((F.length - 1 : Nat) : Int) f = some (.ref y) ∧ y.cells = [y] ∧ lenA y = some (.val (.int .i64 (F.getD (F.length - 1) []).length)) := fun h => by
        have hl := hf.2.1
        have hyL := hf.2.2 (F.length - 1) (by omega) (by omega)
        refine ⟨_, hf.1.ia (by omega), hyL.cells, ?_⟩
        have := hyL.len
        rw [List.length_map] at this
        rw [this, List.getD_eq_getElem?_getD, List.getElem?_eq_getElem (by omega)]
        rfl
      have hne : (!decide ((es.length : Int) = (F.length : Int))) = false := by rw [hf.2.1]; simp
      have hwl : IntKind.i64.wrap ((F.length : Int) - 1) = ((F.length - 1 : Nat) : Int) ∨ F.length = 0 := by
        rcases Nat.eq_zero_or_pos F.length with h | h
        · exact .inr h
        · left; rw [wrap_i64 (by omega) (by omega)]; omega
      rcases Nat.eq_zero_or_pos F.length with h0 | h0
      · have k1 : decide ((0 : Int) < (F.length : Int)) = false := decide_eq_false (by omega)
        have k2 : longN F = 0 := by unfold longN; rw [if_neg (by omega)]
        replace h0 := (show Aside _ from h0)
        clear hwl hgF
        (repeat' first
    | simp (contextual := true) (maxSteps := 4000000) only [fwc, fwe, fww, reduceIte, ↓reduceIte, Nat.reduceAdd, Nat.reduceLeDiff, Nat.reduceEqDiff, Nat.reduceLT, Nat.reduceSub, reduceCtorEq, Int.reduceEq, Int.reduceLT, Int.reduceLE, Int.reduceNeg, Int.reduceToNat, Int.reduceAdd, Int.reduceSub, Nat.reduceMul, part_cell, *]
    | (refine seqK_now ?_)
    | (refine retK_now ?_)
    | (refine retK_now' ?_)
    | (intro q hq)
    | (refine cond_intro (fun hc => ?_) (fun hc => ?_)))
        refine opsW_gcap (b := false) (sz := 1) (L := es) rfl (fun _ => ?_) ?_
        · simp only [opd_tmp, Env.upd_apply, jn_true, if_true, *, reduceCtorEq, if_false, Nat.reduceEqDiff, b_eq_f, Bool.not_false]
          try exact htf
        (repeat' first
    | simp (contextual := true) (maxSteps := 4000000) only [fwc, fwe, fww, reduceIte, ↓reduceIte, Nat.reduceAdd, Nat.reduceLeDiff, Nat.reduceEqDiff, Nat.reduceLT, Nat.reduceSub, reduceCtorEq, Int.reduceEq, Int.reduceLT, Int.reduceLE, Int.reduceNeg, Int.reduceToNat, Int.reduceAdd, Int.reduceSub, Nat.reduceMul, part_cell, b_eq_f, *]
    | (refine seqK_now ?_)
    | (refine retK_now ?_)
    | (refine retK_now' ?_)
    | (intro q hq)
    | (refine cond_intro (fun hc => ?_) (fun hc => ?_)))
        refine hQ.out _ _ ⟨rfl, ?_⟩
        simp (contextual := true) (maxSteps := 4000000) only [fwc, fwe, fww, reduceIte, ↓reduceIte, Nat.reduceAdd, Nat.reduceLeDiff, Nat.reduceEqDiff, Nat.reduceLT, Nat.reduceSub, reduceCtorEq, Int.reduceEq, Int.reduceLT, Int.reduceLE, Int.reduceNeg, Int.reduceToNat, Int.reduceAdd, Int.reduceSub, Nat.reduceMul, *]
      · obtain ⟨y, y1, y2, y3⟩ := hgF h0
        have hwl : IntKind.i64.wrap ((F.length : Int) - 1) = ((F.length - 1 : Nat) : Int) := hwl.resolve_right (by omega)
        have k1 : decide ((0 : Int) < (F.length : Int)) = true := decide_eq_true (by omega)
        by_cases hy : F.getD (F.length - 1) [] = []
        · have k2 : longN F = 1 := by unfold longN; rw [if_pos ⟨h0, hy⟩]
          replace y3 : lenA y = some (.val (.int .i64 0)) := by rw [hy] at y3; exact y3
          have dz : decide ((0 : Int) = 0) = true := by decide
          replace h0 := (show Aside _ from h0)
          replace hy := (show Aside _ from hy)
          clear hgF
          (repeat' first
    | simp (contextual := true) (maxSteps := 4000000) only [fwc, fwe, fww, reduceIte, ↓reduceIte, Nat.reduceAdd, Nat.reduceLeDiff, Nat.reduceEqDiff, Nat.reduceLT, Nat.reduceSub, reduceCtorEq, Int.reduceEq, Int.reduceLT, Int.reduceLE, Int.reduceNeg, Int.reduceToNat, Int.reduceAdd, Int.reduceSub, Nat.reduceMul, part_cell, *]
    | (refine seqK_now ?_)
    | (refine retK_now ?_)
    | (refine retK_now' ?_)
    | (intro q hq)
    | (refine cond_intro (fun hc => ?_) (fun hc => ?_)))
          refine opsW_gcap (b := true) (sz := 1) (L := es) rfl (fun h => by cases h) ?_
          (repeat' first
    | simp (contextual := true) (maxSteps := 4000000) only [fwc, fwe, fww, reduceIte, ↓reduceIte, Nat.reduceAdd, Nat.reduceLeDiff, Nat.reduceEqDiff, Nat.reduceLT, Nat.reduceSub, reduceCtorEq, Int.reduceEq, Int.reduceLT, Int.reduceLE, Int.reduceNeg, Int.reduceToNat, Int.reduceAdd, Int.reduceSub, Nat.reduceMul, part_cell, b_eq_f, *]
    | (refine seqK_now ?_)
    | (refine retK_now ?_)
    | (refine retK_now' ?_)
    | (intro q hq)
    | (refine cond_intro (fun hc => ?_) (fun hc => ?_)))
          refine hQ.out _ _ ⟨rfl, ?_⟩
          simp (contextual := true) (maxSteps := 4000000) only [fwc, fwe, fww, reduceIte, ↓reduceIte, Nat.reduceAdd, Nat.reduceLeDiff, Nat.reduceEqDiff, Nat.reduceLT, Nat.reduceSub, reduceCtorEq, Int.reduceEq, Int.reduceLT, Int.reduceLE, Int.reduceNeg, Int.reduceToNat, Int.reduceAdd, Int.reduceSub, Nat.reduceMul, *]
        · have k2 : longN F = 0 := by unfold longN; rw [if_neg (fun h => hy h.2)]
          have k3 : decide (((F.getD (F.length - 1) []).length : Int) = 0) = false := decide_eq_false (fun h => hy (List.eq_nil_of_length_eq_zero (by omega)))
          replace h0 := (show Aside _ from h0)
          replace hy := (show Aside _ from hy)
          clear hgF
          (repeat' first
    | simp (contextual := true) (maxSteps := 4000000) only [fwc, fwe, fww, reduceIte, ↓reduceIte, Nat.reduceAdd, Nat.reduceLeDiff, Nat.reduceEqDiff, Nat.reduceLT, Nat.reduceSub, reduceCtorEq, Int.reduceEq, Int.reduceLT, Int.reduceLE, Int.reduceNeg, Int.reduceToNat, Int.reduceAdd, Int.reduceSub, Nat.reduceMul, part_cell, *]
    | (refine seqK_now ?_)
    | (refine retK_now ?_)
    | (refine retK_now' ?_)
    | (intro q hq)
    | (refine cond_intro (fun hc => ?_) (fun hc => ?_)))
          refine opsW_gcap (b := false) (sz := 1) (L := es) rfl (fun _ => ?_) ?_
          · simp only [opd_tmp, Env.upd_apply, jn_true, if_true, *, reduceCtorEq, if_false, Nat.reduceEqDiff, b_eq_f, Bool.not_false]
            try exact htf
          (repeat' first
    | simp (contextual := true) (maxSteps := 4000000) only [fwc, fwe, fww, reduceIte, ↓reduceIte, Nat.reduceAdd, Nat.reduceLeDiff, Nat.reduceEqDiff, Nat.reduceLT, Nat.reduceSub, reduceCtorEq, Int.reduceEq, Int.reduceLT, Int.reduceLE, Int.reduceNeg, Int.reduceToNat, Int.reduceAdd, Int.reduceSub, Nat.reduceMul, part_cell, b_eq_f, *]
    | (refine seqK_now ?_)
    | (refine retK_now ?_)
    | (refine retK_now' ?_)
    | (intro q hq)
    | (refine cond_intro (fun hc => ?_) (fun hc => ?_)))
          refine hQ.out _ _ ⟨rfl, ?_⟩
          simp (contextual := true) (maxSteps := 4000000) only [fwc, fwe, fww, reduceIte, ↓reduceIte, Nat.reduceAdd, Nat.reduceLeDiff, Nat.reduceEqDiff, Nat.reduceLT, Nat.reduceSub, reduceCtorEq, Int.reduceEq, Int.reduceLT, Int.reduceLE, Int.reduceNeg, Int.reduceToNat, Int.reduceAdd, Int.reduceSub, Nat.reduceMul, *]
end Go.Proofs.Ytlpngkeegjickaa

namespace Go.Proofs.Ytlpngkeegjickaa
open Go.Ab
attribute [local irreducible] WeakR WeakE CallA YieldA

/-- Beds as a value. -/
structure IsBeds (x : AV) (F B : List (List Id)) : Prop where
  ex : ∃ f b es fs, x = .agg [f, b] ∧ IsB f es F ∧ IsB b fs B ∧ IsT 1 f es ∧ IsT 1 b fs
  sF : Sm F
  sB : Sm B

theorem IsBeds.check {x : AV} {F B : List (List Id)} (h : IsBeds x F B) : PureA Try.prog 11 [x] (.val (.int .i64 (checkL F B))) := by
  obtain ⟨f, b, es, fs, rfl, h1, h2, _, _⟩ := h.ex
  exact Check_ok f b es fs F B h1 h2
theorem IsBeds.at_ {x : AV} {F B : List (List Id)} (h : IsBeds x F B) (n : Ndl) : ∃ r, PureA Try.prog 13 [x, n.av] r ∧ IsT 2 r ((atL F B n).map Id.av) := by
  obtain ⟨f, b, es, fs, rfl, h1, h2, _, _⟩ := h.ex
  exact ⟨_, At_ok f b es fs F B n h1 h2 h.sF h.sB, atA_T n h1 h2⟩
theorem IsBeds.find {x : AV} {F B : List (List Id)} (h : IsBeds x F B) (p : Id) : PureA Try.prog 15 [x, p.av] (.tup [(foundN (min F.length 40) (findL F B p)).av, .val (.int .i64 (foundE (findL F B p)))]) := by
  obtain ⟨f, b, es, fs, rfl, h1, h2, _, _⟩ := h.ex
  exact Find_ok f b es fs F B p h1 h2 h.sF h.sB
theorem IsBeds.count {x : AV} {F B : List (List Id)} (h : IsBeds x F B) : PureA Try.prog 16 [x] (.val (.int .i64 (namesL F B).length)) := by
  obtain ⟨f, b, es, fs, rfl, h1, h2, _, _⟩ := h.ex
  exact Count_ok f b es fs F B h1 h2 (h.sF.vis h.sB)
theorem IsBeds.same {x y : AV} {F B F' B' : List (List Id)} (h : IsBeds x F B) (k : IsBeds y F' B') : PureA Try.prog 19 [x, y] (.val (.bool (sameL F B F' B'))) := by
  obtain ⟨f, b, es, fs, rfl, h1, h2, _, _⟩ := h.ex
  obtain ⟨f', b', es', fs', rfl, h1', h2', _, _⟩ := k.ex
  exact Same_ok f b f' b' es fs es' fs' F B F' B' h1 h2 h1' h2' h.sF h.sB k.sF k.sB
theorem IsBeds.differs {ts : List AV} {T : List (List Id)} {x : AV} {F B : List (List Id)} (hT : IsTab ts T) (h : IsBeds x F B) : PureA Try.prog 12 [.agg ts, x] (.val (.int .i64 (differsL T F B))) := by
  obtain ⟨f, b, es, fs, rfl, h1, h2, h3, h4⟩ := h.ex
  exact differs_ok ts T f b es fs F B hT h1 h2 h3 h4 h.sF h.sB
theorem put_beds {f b x : AV} {es fs : List AV} {F B : List (List Id)} {n : Ndl} {X : List Id} (hf : IsB f es F) (hb : IsB b fs B) (hx : IsL 2 x (X.map Id.av)) (hF : Sm F) (hB : Sm B) (hX : X.length ≤ 1000) (hn : n.at_ ≤ 40) :
    IsBeds (.agg [.list 1 true (putAF es F n x X), .list 1 true (putAB fs B n x X)]) (putLF F n X) (putLB B n X) :=
  ⟨⟨_, _, _, _, rfl, putF_is hf hx, putB_is hb hx, .list, .list⟩, putF_sm hF hX hn, putB_sm hB hX hn⟩
theorem IsBeds.set {x s : AV} {F B : List (List Id)} {X : List Id} (h : IsBeds x F B) (n : Ndl) (hs : IsL 2 s (X.map Id.av)) (hX : X.length ≤ 1000) (h0 : 0 ≤ n.bed) :
    ∃ y, PureA Try.prog 18 [x, n.av, s] (.tup [y, .val (.int .i64 (setE F B n X))]) ∧ (setE F B n X = 0 → IsBeds y (putLF F n X) (putLB B n X)) ∧ (setE F B n X ≠ 0 → y = noBeds) := by
  obtain ⟨f, b, es, fs, rfl, h1, h2, _, _⟩ := h.ex
  refine ⟨_, Set_ok f b s es fs F B n X h1 h2 hs h.sF h.sB hX h0, fun e => ?_, fun e => ?_⟩
  · rw [setA, if_pos e]
    refine put_beds h1 h2 hs h.sF h.sB hX (bad_le ?_)
    unfold setE at e
    split at e
    · split at e
      · cases e
      · rename_i h; simp only [Bool.or_eq_true, not_or] at h; simpa using h.1
    · rename_i h; exact absurd e h
  · rw [setA, if_neg e]
theorem IsBeds.join {x : AV} {F B : List (List Id)} (h : IsBeds x F B) (u v : Ndl) (hu : 0 ≤ u.bed) (hv : 0 ≤ v.bed) :
    ∃ y, PureA Try.prog 20 [x, u.av, v.av] (.tup [y, .val (.int .i64 (joinE F B u v))]) ∧ (joinE F B u v = 0 → IsBeds y (joinF F B u v) (joinB F B u v)) ∧ (joinE F B u v ≠ 0 → y = noBeds) := by
  obtain ⟨f, b, es, fs, rfl, h1, h2, _, _⟩ := h.ex
  refine ⟨_, Join_ok f b es fs F B u v h1 h2 h.sF h.sB hu hv, fun e => ?_, fun e => ?_⟩
  · rw [joinA, if_pos e]
    have hj : (joinedL F B u v).length ≤ 4 ∧ u.bad = false ∧ v.bad = false := by
      unfold joinE at e
      split at e
      · split at e
        · cases e
        · rename_i hb
          simp only [Bool.or_eq_true, not_or] at hb
          split at e
          · cases e
          · split at e
            · cases e
            · exact ⟨by omega, by simpa using hb.1.1, by simpa using hb.1.2⟩
      · rename_i h; exact absurd e h
    obtain ⟨hj, hu', hv'⟩ := hj
    exact put_beds (putF_is h1 .nil) (putB_is h2 .nil) (frA_L _ _) (putF_sm h.sF (by simp) (bad_le hu')) (putB_sm h.sB (by simp) (bad_le hu')) (by omega) (bad_le hv')
  · rw [joinA, if_neg e]

theorem Of_tab_ok (P : List Put) : TabOK (ofL P) (ofN P).2 := (ofN_ok P).1
theorem bedsF_sm {T : List (List Id)} (h : ∀ l ∈ T, l.length ≤ 1000) : Sm (bedsF T) := by
  refine ⟨by have := trF_le T; simp [bedsF]; omega, fun l hl => ?_⟩
  obtain ⟨i, _, rfl⟩ := List.mem_map.1 hl
  rw [List.getD_eq_getElem?_getD]
  by_cases hi : i < T.length
  · rw [List.getElem?_eq_getElem hi]; exact h _ (List.getElem_mem hi)
  · rw [List.getElem?_eq_none (by omega)]; simp
theorem bedsB_sm {T : List (List Id)} (h : ∀ l ∈ T, l.length ≤ 1000) : Sm (bedsB T) := by
  refine ⟨by have := trB_le T; simp [bedsB]; omega, fun l hl => ?_⟩
  obtain ⟨i, _, rfl⟩ := List.mem_map.1 hl
  rw [List.getD_eq_getElem?_getD]
  by_cases hi : 40 + i < T.length
  · rw [List.getElem?_eq_getElem hi]; exact h _ (List.getElem_mem hi)
  · rw [List.getElem?_eq_none (by omega)]; simp
theorem beds_is {T : List (List Id)} (h : ∀ l ∈ T, l.length ≤ 1000) : IsBeds (.agg [bedA (bedsF T), bedA (bedsB T)]) (bedsF T) (bedsB T) :=
  ⟨⟨_, _, _, _, rfl, (bedA_is _).1, (bedA_is _).1, (bedA_is _).2, (bedA_is _).2⟩, bedsF_sm h, bedsB_sm h⟩

/-- The example of the chapter. -/
def exA : Id := ⟨1, 0⟩
def exB : Id := ⟨1, 1⟩
def exC : Id := ⟨2, 0⟩
def exF : List (List Id) := [[], [exA, exB]]
def exK : List (List Id) := [[], [exC]]
def exX : AV := .agg [.list 1 true [nilS, .list 2 true [exA.av, exB.av]], .list 1 true [nilS, .list 2 true [exC.av]]]
theorem ex_is : IsBeds exX exF exK := by
  refine ⟨⟨_, _, _, _, rfl, ⟨.list, rfl, fun i h h' => ?_⟩, ⟨.list, rfl, fun i h h' => ?_⟩, .list, .list⟩, ⟨by decide, by decide⟩, ⟨by decide, by decide⟩⟩
  · match i, h, h' with
    | 0, _, _ => exact .nil
    | 1, _, _ => exact .list
  · match i, h, h' with
    | 0, _, _ => exact .nil
    | 1, _, _ => exact .list
end Go.Proofs.Ytlpngkeegjickaa

namespace Go.Proofs.Ytlpngkeegjickaa
open Go.Ab
attribute [local irreducible] WeakR WeakE CallA YieldA

theorem IsBeds.cells {x : AV} {F B : List (List Id)} (h : IsBeds x F B) : ∃ f b, x = .agg [f, b] ∧ f.cells = [f] ∧ b.cells = [b] ∧ f.stor = true ∧ b.stor = true ∧ lenA f = some (.val (.int .i64 F.length)) ∧ lenA b = some (.val (.int .i64 B.length)) := by
  obtain ⟨f, b, es, fs, rfl, h1, h2, _, _⟩ := h.ex
  have l1 := h1.1.len
  have l2 := h2.1.len
  rw [h1.2.1] at l1
  rw [h2.2.1] at l2
  exact ⟨f, b, rfl, h1.1.cells, h2.1.cells, h1.1.stor, h2.1.stor, l1, l2⟩

theorem cmd_gen {P : Program} {c : Cmd} {K : Kont} {e : Env} {H : Heap} (F : Heap → Prop) (hF : F H) (h : ∀ H', F H' → cmdW P c K e H') : cmdW P c K e H := h H hF
theorem upd_keep {H : Heap} {q i : Nat} {v o : AObj} (hq : H q = none) (h : H i = some o) : (H.upd q v) i = some o := by
  rw [Heap.upd_ne _ _ (fun e => by rw [e, hq] at h; cases h)]; exact h
theorem sub_new {O H : Heap} {q : Nat} {v : AObj} (hs : O.sub H) (hq : H q = none) : O.sub (H.upd q v) := fun i o hi => upd_keep hq (hs i o hi)
theorem none_of_sub {O H : Heap} {q : Nat} (hs : O.sub H) (hq : H q = none) : O q = none := by
  cases h : O q with
  | none => rfl
  | some o => rw [hs _ _ h] at hq; cases hq
theorem ne_of {H : Heap} {i q : Nat} {o : AObj} (h : H i = some o) (hq : H q = none) : ¬ i = q := fun e => by rw [e, hq] at h; cases h

def nF1 : Ndl := ⟨0, 1⟩
def nF2 : Ndl := ⟨0, 2⟩
def nB1 : Ndl := ⟨1, 1⟩
def nB2 : Ndl := ⟨1, 2⟩
def nF3 : Ndl := ⟨0, 3⟩

set_option maxHeartbeats 8000000 in
theorem lives_ok : PureA Try.prog 17 [] (.val (.bool true)) := by
  intro O
  have hE := ex_is
  have hfind : PureA Try.prog 15 [exX, .agg [.val (.int .u8 2), .val (.int .i64 0)]] (.tup [.agg [.val (.int .u8 1), .val (.int .i64 2)], .val (.int .i64 0)]) := by
    have := hE.find exC
    rw [show findL exF exK exC = some 3 by decide] at this
    exact this
  have hck : PureA Try.prog 11 [exX] (.val (.int .i64 0)) := by
    have := hE.check
    rwa [show checkL exF exK = 0 by decide] at this
  obtain ⟨r2, hat2, ht2⟩ := hE.at_ nF2
  obtain ⟨r1, hat1, ht1⟩ := hE.at_ nF1
  have hl2 : lenA r2 = some (.val (.int .i64 2)) := ht2.isL.len
  have hl1 : lenA r1 = some (.val (.int .i64 0)) := ht1.isL.len
  have hcn : PureA Try.prog 16 [exX] (.val (.int .i64 3)) := hE.count
  obtain ⟨y, hj1, hy, _⟩ := hE.join nF2 nB2 (by decide) (by decide)
  have hy := hy (by decide)
  rw [show joinE exF exK nF2 nB2 = 0 by decide] at hj1
  obtain ⟨z, hj2, hz, _⟩ := hE.join nB2 nF2 (by decide) (by decide)
  have hz := hz (by decide)
  rw [show joinE exF exK nB2 nF2 = 0 by decide] at hj2
  obtain ⟨w1, hj3, _, hw1⟩ := hE.join nF1 nB1 (by decide) (by decide)
  have hw1 := hw1 (by decide)
  subst hw1
  rw [show joinE exF exK nF1 nB1 = 13 by decide] at hj3
  obtain ⟨w2, hj4, _, hw2⟩ := hE.join nF2 nF3 (by decide) (by decide)
  have hw2 := hw2 (by decide)
  subst hw2
  rw [show joinE exF exK nF2 nF3 = 1 by decide] at hj4
  obtain ⟨ry, hay, hty⟩ := hy.at_ nB2
  rw [show atL (joinF exF exK nF2 nB2) (joinB exF exK nF2 nB2) nB2 = [exC, exA, exB] by decide] at hty
  obtain ⟨rz, haz, htz⟩ := hz.at_ nF2
  rw [show atL (joinF exF exK nB2 nF2) (joinB exF exK nB2 nF2) nF2 = [exC, exA, exB] by decide] at htz
  have hs1 : PureA Try.prog 21 [ry, .list 2 true [exC.av, exA.av, exB.av]] (.val (.int .i64 1)) := same_ok ry _ [exC, exA, exB] [exC, exA, exB] hty .list (by decide)
  have hs2 : PureA Try.prog 21 [rz, .list 2 true [exC.av, exA.av, exB.av]] (.val (.int .i64 1)) := same_ok rz _ [exC, exA, exB] [exC, exA, exB] htz .list (by decide)
  obtain ⟨v1, hset1, _, hv1⟩ := hE.set (X := [exC]) (s := .list 2 true [exC.av]) nF1 .list (by decide) (by decide)
  have hv1 := hv1 (by decide)
  subst hv1
  rw [show setE exF exK nF1 [exC] = 8 by decide] at hset1
  obtain ⟨v2, hset2, hv2, _⟩ := hE.set (X := [exB]) (s := .list 2 true [exB.av]) nF2 .list (by decide) (by decide)
  have hv2 := hv2 (by decide)
  rw [show setE exF exK nF2 [exB] = 0 by decide] at hset2
  obtain ⟨rv, hav, htv⟩ := hv2.at_ nF2
  rw [show atL (putLF exF nF2 [exB]) (putLB exK nF2 [exB]) nF2 = [exB] by decide] at htv
  have hs3 : PureA Try.prog 21 [rv, .list 2 true [exB.av]] (.val (.int .i64 1)) := same_ok rv _ [exB] [exB] htv .list (by decide)
  have hcv : PureA Try.prog 16 [v2] (.val (.int .i64 2)) := by
    have := hv2.count
    rwa [show (namesL (putLF exF nF2 [exB]) (putLB exK nF2 [exB])).length = 2 by decide] at this
  obtain ⟨yf, yb, hyx, y1, y2, y3, y4, y5, _⟩ := hy.cells
  rw [show ((joinF exF exK nF2 nB2).length : Int) = 0 by decide] at y5
  obtain ⟨zf, zb, hzx, z1, z2, z3, z4, _, _⟩ := hz.cells
  obtain ⟨vf, vb, hvx, v1, v2', v3, v4, _, _⟩ := hv2.cells
  clear hE hy hz hv2 ht1 ht2 hty htz htv
  subst hyx hzx hvx
  simp only [exA, exB, exC, nF1, nF2, nF3, nB1, nB2, Id.av, Ndl.av, nilS, noBeds] at hfind hck hat2 hat1 hcn hj1 hj2 hj3 hj4 hay hs1 haz hs2 hset1 hset2 hav hs3 hcv
  have hpX : partA exX 0 2 true = some exX := part_flat ⟨_, rfl, rfl⟩
  have hcX : exX.cells.length = 2 := rfl
  have hsX : exX.stor = true := rfl
  have hXe : AV.agg [.list 1 true [.val (.slice none 0 0), .list 2 true [(.agg [.val (.int .u8 1), .val (.int .i64 0)]), (.agg [.val (.int .u8 1), .val (.int .i64 1)])]], .list 1 true [.val (.slice none 0 0), .list 2 true [(.agg [.val (.int .u8 2), .val (.int .i64 0)])]]] = exX := rfl
  refine k17.call mix ?_
  unfold c17
  refine seq_go ?_
  (repeat' first
    | simp (contextual := true) (maxSteps := 4000000) only [fwc, fwe, fww, reduceIte, ↓reduceIte, Nat.reduceAdd, Nat.reduceLeDiff, Nat.reduceEqDiff, Nat.reduceLT, Nat.reduceSub, reduceCtorEq, Int.reduceEq, Int.reduceLT, Int.reduceLE, Int.reduceNeg, Int.reduceToNat, Int.reduceAdd, Int.reduceSub, Nat.reduceMul, part_cell, part_agg, *]
    | (refine retK_now ?_)
    | (refine retK_now' ?_)
    | (intro q hq)
    | (refine cond_intro (fun hc => ?_) (fun hc => ?_)))
  refine seqK_now ?_
  refine seq_go ?_
  (repeat' first
    | simp (contextual := true) (maxSteps := 4000000) only [fwc, fwe, fww, reduceIte, ↓reduceIte, Nat.reduceAdd, Nat.reduceLeDiff, Nat.reduceEqDiff, Nat.reduceLT, Nat.reduceSub, reduceCtorEq, Int.reduceEq, Int.reduceLT, Int.reduceLE, Int.reduceNeg, Int.reduceToNat, Int.reduceAdd, Int.reduceSub, Nat.reduceMul, part_cell, part_agg, *]
    | (refine retK_now ?_)
    | (refine retK_now' ?_)
    | (intro q hq)
    | (refine cond_intro (fun hc => ?_) (fun hc => ?_)))
  rename_i q1 hq1 q2 hq2
  revert q
  intro q3 hq3
  refine seqK_now ?_
  refine cmd_gen (fun H => O.sub H ∧ H q1 = some (.arr 28 2 [(.agg [.val (.int .u8 1), .val (.int .i64 0)])]) ∧ H q2 = some (.arr 28 2 [(.agg [.val (.int .u8 1), .val (.int .i64 1)])]) ∧ H q3 = some (.arr 28 2 [(.agg [.val (.int .u8 2), .val (.int .i64 0)])])) ⟨sub_upd (hq3.2.2.2.2) (sub_upd (hq2.2.2) (sub_upd (hq1) (sub_upd (hq3.2.2.2.2) (sub_upd (hq2.2.2) (sub_upd (hq1) (Heap.sub_refl _)))))), by simp only [Heap.upd_apply, *, if_true, if_false], by simp only [Heap.upd_apply, *, if_true, if_false], by simp only [Heap.upd_apply, *, if_true, if_false]⟩ ?_
  clear hq1 hq2 hq3
  intro H1 hF
  obtain ⟨s0, f1, f2, f3⟩ := hF
  replace s0 := (show Aside _ from s0)
  refine seq_go ?_
  (repeat' first
    | simp (contextual := true) (maxSteps := 4000000) only [fwc, fwe, fww, reduceIte, ↓reduceIte, Nat.reduceAdd, Nat.reduceLeDiff, Nat.reduceEqDiff, Nat.reduceLT, Nat.reduceSub, reduceCtorEq, Int.reduceEq, Int.reduceLT, Int.reduceLE, Int.reduceNeg, Int.reduceToNat, Int.reduceAdd, Int.reduceSub, Nat.reduceMul, part_cell, part_agg, *]
    | (refine retK_now ?_)
    | (refine retK_now' ?_)
    | (intro q hq)
    | (refine cond_intro (fun hc => ?_) (fun hc => ?_)))
  revert q
  intro q4 hq4
  refine seqK_now ?_
  refine cmd_gen (fun H => O.sub H ∧ H q1 = some (.arr 28 2 [(.agg [.val (.int .u8 1), .val (.int .i64 0)])]) ∧ H q2 = some (.arr 28 2 [(.agg [.val (.int .u8 1), .val (.int .i64 1)])]) ∧ H q3 = some (.arr 28 2 [(.agg [.val (.int .u8 2), .val (.int .i64 0)])]) ∧ H q4 = some (.arr 35 2 [exX])) ⟨sub_new s0.out hq4, upd_keep hq4 f1, upd_keep hq4 f2, upd_keep hq4 f3, Heap.upd_same _ _ _⟩ ?_
  clear hq4 f1 f2 f3 s0 H1
  intro H2 hF
  obtain ⟨s0, f1, f2, f3, f4⟩ := hF
  replace s0 := (show Aside _ from s0)
  refine seq_go ?_
  (repeat' first
    | simp (contextual := true) (maxSteps := 4000000) only [fwc, fwe, fww, reduceIte, ↓reduceIte, Nat.reduceAdd, Nat.reduceLeDiff, Nat.reduceEqDiff, Nat.reduceLT, Nat.reduceSub, reduceCtorEq, Int.reduceEq, Int.reduceLT, Int.reduceLE, Int.reduceNeg, Int.reduceToNat, Int.reduceAdd, Int.reduceSub, Nat.reduceMul, part_cell, part_agg, *]
    | (refine retK_now ?_)
    | (refine retK_now' ?_)
    | (intro q hq)
    | (refine cond_intro (fun hc => ?_) (fun hc => ?_)))
  rename_i q5 hq5 q6 hq6
  revert q
  intro q7 hq7
  have g15 := ne_of f1 (hq5)
  have g16 := ne_of f1 (hq6.2.2)
  have g17 := ne_of f1 (hq7.2.2.2.2)
  have g25 := ne_of f2 (hq5)
  have g26 := ne_of f2 (hq6.2.2)
  have g27 := ne_of f2 (hq7.2.2.2.2)
  have g35 := ne_of f3 (hq5)
  have g36 := ne_of f3 (hq6.2.2)
  have g37 := ne_of f3 (hq7.2.2.2.2)
  have g45 := ne_of f4 (hq5)
  have g46 := ne_of f4 (hq6.2.2)
  have g47 := ne_of f4 (hq7.2.2.2.2)
  refine seqK_now ?_
  refine cmd_gen (fun H => O.sub H ∧ H q1 = some (.arr 28 2 [(.agg [.val (.int .u8 1), .val (.int .i64 0)])]) ∧ H q2 = some (.arr 28 2 [(.agg [.val (.int .u8 1), .val (.int .i64 1)])]) ∧ H q3 = some (.arr 28 2 [(.agg [.val (.int .u8 2), .val (.int .i64 0)])]) ∧ H q4 = some (.arr 35 2 [exX]) ∧ H q5 = some (.arr 26 2 [(.agg [.val (.int .u8 0), .val (.int .i64 1)])]) ∧ H q6 = some (.arr 26 2 [(.agg [.val (.int .u8 0), .val (.int .i64 2)])]) ∧ H q7 = some (.arr 26 2 [(.agg [.val (.int .u8 1), .val (.int .i64 2)])])) ⟨sub_upd (none_of_sub s0.out (hq7.2.2.2.2)) (sub_upd (none_of_sub s0.out (hq6.2.2)) (sub_upd (none_of_sub s0.out (hq5)) (sub_new (sub_new (sub_new s0.out hq5) (by simp only [Heap.upd_apply, *, if_false])) (by simp only [Heap.upd_apply, *, if_false])))), by simp only [Heap.upd_apply, *, if_true, if_false], by simp only [Heap.upd_apply, *, if_true, if_false], by simp only [Heap.upd_apply, *, if_true, if_false], by simp only [Heap.upd_apply, *, if_true, if_false], by simp only [Heap.upd_apply, *, if_true, if_false], by simp only [Heap.upd_apply, *, if_true, if_false], by simp only [Heap.upd_apply, *, if_true, if_false]⟩ ?_
  clear g15 g16 g17 g25 g26 g27 g35 g36 g37 g45 g46 g47 hq5 hq6 hq7 f1 f2 f3 f4 s0 H2
  intro H3 hF
  obtain ⟨s0, f1, f2, f3, f4, f5, f6, f7⟩ := hF
  replace s0 := (show Aside _ from s0)
  refine seq_go ?_
  (repeat' first
    | simp (contextual := true) (maxSteps := 4000000) only [fwc, fwe, fww, reduceIte, ↓reduceIte, Nat.reduceAdd, Nat.reduceLeDiff, Nat.reduceEqDiff, Nat.reduceLT, Nat.reduceSub, reduceCtorEq, Int.reduceEq, Int.reduceLT, Int.reduceLE, Int.reduceNeg, Int.reduceToNat, Int.reduceAdd, Int.reduceSub, Nat.reduceMul, part_cell, part_agg, *]
    | (refine retK_now ?_)
    | (refine retK_now' ?_)
    | (intro q hq)
    | (refine cond_intro (fun hc => ?_) (fun hc => ?_)))
  refine hfind.use ?_
  clear hfind
  (repeat' first
    | simp (contextual := true) (maxSteps := 4000000) only [fwc, fwe, fww, reduceIte, ↓reduceIte, Nat.reduceAdd, Nat.reduceLeDiff, Nat.reduceEqDiff, Nat.reduceLT, Nat.reduceSub, reduceCtorEq, Int.reduceEq, Int.reduceLT, Int.reduceLE, Int.reduceNeg, Int.reduceToNat, Int.reduceAdd, Int.reduceSub, Nat.reduceMul, part_cell, part_agg, *]
    | (refine retK_now ?_)
    | (refine retK_now' ?_)
    | (intro q hq)
    | (refine cond_intro (fun hc => ?_) (fun hc => ?_)))
  revert q
  intro q8 hq8
  refine seqK_now ?_
  refine cmd_gen (fun H => O.sub H ∧ H q1 = some (.arr 28 2 [(.agg [.val (.int .u8 1), .val (.int .i64 0)])]) ∧ H q2 = some (.arr 28 2 [(.agg [.val (.int .u8 1), .val (.int .i64 1)])]) ∧ H q3 = some (.arr 28 2 [(.agg [.val (.int .u8 2), .val (.int .i64 0)])]) ∧ H q4 = some (.arr 35 2 [exX]) ∧ H q5 = some (.arr 26 2 [(.agg [.val (.int .u8 0), .val (.int .i64 1)])]) ∧ H q6 = some (.arr 26 2 [(.agg [.val (.int .u8 0), .val (.int .i64 2)])]) ∧ H q7 = some (.arr 26 2 [(.agg [.val (.int .u8 1), .val (.int .i64 2)])]) ∧ H q8 = some (.arr 26 2 [(.agg [.val (.int .u8 1), .val (.int .i64 2)])])) ⟨sub_new s0.out hq8, upd_keep hq8 f1, upd_keep hq8 f2, upd_keep hq8 f3, upd_keep hq8 f4, upd_keep hq8 f5, upd_keep hq8 f6, upd_keep hq8 f7, Heap.upd_same _ _ _⟩ ?_
  clear hq8 f1 f2 f3 f4 f5 f6 f7 s0 H3
  intro H4 hF
  obtain ⟨s0, f1, f2, f3, f4, f5, f6, f7, f8⟩ := hF
  replace s0 := (show Aside _ from s0)
  refine seq_go ?_
  refine seq_go ?_
  (repeat' first
    | simp (contextual := true) (maxSteps := 4000000) only [fwc, fwe, fww, reduceIte, ↓reduceIte, Nat.reduceAdd, Nat.reduceLeDiff, Nat.reduceEqDiff, Nat.reduceLT, Nat.reduceSub, reduceCtorEq, Int.reduceEq, Int.reduceLT, Int.reduceLE, Int.reduceNeg, Int.reduceToNat, Int.reduceAdd, Int.reduceSub, Nat.reduceMul, part_cell, part_agg, *]
    | (refine retK_now ?_)
    | (refine retK_now' ?_)
    | (intro q hq)
    | (refine cond_intro (fun hc => ?_) (fun hc => ?_)))
  refine hck.use ?_
  clear hck
  (repeat' first
    | simp (contextual := true) (maxSteps := 4000000) only [fwc, fwe, fww, reduceIte, ↓reduceIte, Nat.reduceAdd, Nat.reduceLeDiff, Nat.reduceEqDiff, Nat.reduceLT, Nat.reduceSub, reduceCtorEq, Int.reduceEq, Int.reduceLT, Int.reduceLE, Int.reduceNeg, Int.reduceToNat, Int.reduceAdd, Int.reduceSub, Nat.reduceMul, part_cell, part_agg, *]
    | (refine retK_now ?_)
    | (refine retK_now' ?_)
    | (intro q hq)
    | (refine cond_intro (fun hc => ?_) (fun hc => ?_)))
  refine hat2.use ?_
  clear hat2
  (repeat' first
    | simp (contextual := true) (maxSteps := 4000000) only [fwc, fwe, fww, reduceIte, ↓reduceIte, Nat.reduceAdd, Nat.reduceLeDiff, Nat.reduceEqDiff, Nat.reduceLT, Nat.reduceSub, reduceCtorEq, Int.reduceEq, Int.reduceLT, Int.reduceLE, Int.reduceNeg, Int.reduceToNat, Int.reduceAdd, Int.reduceSub, Nat.reduceMul, part_cell, part_agg, *]
    | (refine retK_now ?_)
    | (refine retK_now' ?_)
    | (intro q hq)
    | (refine cond_intro (fun hc => ?_) (fun hc => ?_)))
  refine hat1.use ?_
  clear hat1
  (repeat' first
    | simp (contextual := true) (maxSteps := 4000000) only [fwc, fwe, fww, reduceIte, ↓reduceIte, Nat.reduceAdd, Nat.reduceLeDiff, Nat.reduceEqDiff, Nat.reduceLT, Nat.reduceSub, reduceCtorEq, Int.reduceEq, Int.reduceLT, Int.reduceLE, Int.reduceNeg, Int.reduceToNat, Int.reduceAdd, Int.reduceSub, Nat.reduceMul, part_cell, part_agg, *]
    | (refine retK_now ?_)
    | (refine retK_now' ?_)
    | (intro q hq)
    | (refine cond_intro (fun hc => ?_) (fun hc => ?_)))
  refine hcn.use ?_
  clear hcn
  (repeat' first
    | simp (contextual := true) (maxSteps := 4000000) only [fwc, fwe, fww, reduceIte, ↓reduceIte, Nat.reduceAdd, Nat.reduceLeDiff, Nat.reduceEqDiff, Nat.reduceLT, Nat.reduceSub, reduceCtorEq, Int.reduceEq, Int.reduceLT, Int.reduceLE, Int.reduceNeg, Int.reduceToNat, Int.reduceAdd, Int.reduceSub, Nat.reduceMul, part_cell, part_agg, *]
    | (refine retK_now ?_)
    | (refine retK_now' ?_)
    | (intro q hq)
    | (refine cond_intro (fun hc => ?_) (fun hc => ?_)))
  refine seqK_now ?_
  (repeat' first
    | simp (contextual := true) (maxSteps := 4000000) only [fwc, fwe, fww, reduceIte, ↓reduceIte, Nat.reduceAdd, Nat.reduceLeDiff, Nat.reduceEqDiff, Nat.reduceLT, Nat.reduceSub, reduceCtorEq, Int.reduceEq, Int.reduceLT, Int.reduceLE, Int.reduceNeg, Int.reduceToNat, Int.reduceAdd, Int.reduceSub, Nat.reduceMul, part_cell, part_agg, *]
    | (refine retK_now ?_)
    | (refine retK_now' ?_)
    | (intro q hq)
    | (refine cond_intro (fun hc => ?_) (fun hc => ?_)))
  refine seqK_now ?_
  clear f8
  refine seq_go ?_
  (repeat' first
    | simp (contextual := true) (maxSteps := 4000000) only [fwc, fwe, fww, reduceIte, ↓reduceIte, Nat.reduceAdd, Nat.reduceLeDiff, Nat.reduceEqDiff, Nat.reduceLT, Nat.reduceSub, reduceCtorEq, Int.reduceEq, Int.reduceLT, Int.reduceLE, Int.reduceNeg, Int.reduceToNat, Int.reduceAdd, Int.reduceSub, Nat.reduceMul, part_cell, part_agg, *]
    | (refine retK_now ?_)
    | (refine retK_now' ?_)
    | (intro q hq)
    | (refine cond_intro (fun hc => ?_) (fun hc => ?_)))
  refine hj1.use ?_
  clear hj1
  (repeat' first
    | simp (contextual := true) (maxSteps := 4000000) only [fwc, fwe, fww, reduceIte, ↓reduceIte, Nat.reduceAdd, Nat.reduceLeDiff, Nat.reduceEqDiff, Nat.reduceLT, Nat.reduceSub, reduceCtorEq, Int.reduceEq, Int.reduceLT, Int.reduceLE, Int.reduceNeg, Int.reduceToNat, Int.reduceAdd, Int.reduceSub, Nat.reduceMul, part_cell, part_agg, *]
    | (refine retK_now ?_)
    | (refine retK_now' ?_)
    | (intro q hq)
    | (refine cond_intro (fun hc => ?_) (fun hc => ?_)))
  revert q
  intro q10 hq10
  refine seqK_now ?_
  refine cmd_gen (fun H => O.sub H ∧ H q1 = some (.arr 28 2 [(.agg [.val (.int .u8 1), .val (.int .i64 0)])]) ∧ H q2 = some (.arr 28 2 [(.agg [.val (.int .u8 1), .val (.int .i64 1)])]) ∧ H q3 = some (.arr 28 2 [(.agg [.val (.int .u8 2), .val (.int .i64 0)])]) ∧ H q4 = some (.arr 35 2 [exX]) ∧ H q5 = some (.arr 26 2 [(.agg [.val (.int .u8 0), .val (.int .i64 1)])]) ∧ H q6 = some (.arr 26 2 [(.agg [.val (.int .u8 0), .val (.int .i64 2)])]) ∧ H q7 = some (.arr 26 2 [(.agg [.val (.int .u8 1), .val (.int .i64 2)])]) ∧ H q10 = some (.arr 35 2 [.agg [yf, yb]]) ∧ O q10 = none) ⟨sub_new s0.out hq10, upd_keep hq10 f1, upd_keep hq10 f2, upd_keep hq10 f3, upd_keep hq10 f4, upd_keep hq10 f5, upd_keep hq10 f6, upd_keep hq10 f7, Heap.upd_same _ _ _, none_of_sub s0.out hq10⟩ ?_
  clear hq10 f1 f2 f3 f4 f5 f6 f7 s0 H4
  intro H5 hF
  obtain ⟨s0, f1, f2, f3, f4, f5, f6, f7, f10, ho10⟩ := hF
  replace s0 := (show Aside _ from s0)
  refine seq_go ?_
  (repeat' first
    | simp (contextual := true) (maxSteps := 4000000) only [fwc, fwe, fww, reduceIte, ↓reduceIte, Nat.reduceAdd, Nat.reduceLeDiff, Nat.reduceEqDiff, Nat.reduceLT, Nat.reduceSub, reduceCtorEq, Int.reduceEq, Int.reduceLT, Int.reduceLE, Int.reduceNeg, Int.reduceToNat, Int.reduceAdd, Int.reduceSub, Nat.reduceMul, part_cell, part_agg, *]
    | (refine retK_now ?_)
    | (refine retK_now' ?_)
    | (intro q hq)
    | (refine cond_intro (fun hc => ?_) (fun hc => ?_)))
  refine hj2.use ?_
  clear hj2
  (repeat' first
    | simp (contextual := true) (maxSteps := 4000000) only [fwc, fwe, fww, reduceIte, ↓reduceIte, Nat.reduceAdd, Nat.reduceLeDiff, Nat.reduceEqDiff, Nat.reduceLT, Nat.reduceSub, reduceCtorEq, Int.reduceEq, Int.reduceLT, Int.reduceLE, Int.reduceNeg, Int.reduceToNat, Int.reduceAdd, Int.reduceSub, Nat.reduceMul, part_cell, part_agg, *]
    | (refine retK_now ?_)
    | (refine retK_now' ?_)
    | (intro q hq)
    | (refine cond_intro (fun hc => ?_) (fun hc => ?_)))
  revert q
  intro q11 hq11
  refine seqK_now ?_
  refine cmd_gen (fun H => O.sub H ∧ H q1 = some (.arr 28 2 [(.agg [.val (.int .u8 1), .val (.int .i64 0)])]) ∧ H q2 = some (.arr 28 2 [(.agg [.val (.int .u8 1), .val (.int .i64 1)])]) ∧ H q3 = some (.arr 28 2 [(.agg [.val (.int .u8 2), .val (.int .i64 0)])]) ∧ H q4 = some (.arr 35 2 [exX]) ∧ H q5 = some (.arr 26 2 [(.agg [.val (.int .u8 0), .val (.int .i64 1)])]) ∧ H q6 = some (.arr 26 2 [(.agg [.val (.int .u8 0), .val (.int .i64 2)])]) ∧ H q7 = some (.arr 26 2 [(.agg [.val (.int .u8 1), .val (.int .i64 2)])]) ∧ H q10 = some (.arr 35 2 [.agg [yf, yb]]) ∧ H q11 = some (.arr 35 2 [.agg [zf, zb]]) ∧ O q10 = none) ⟨sub_new s0.out hq11, upd_keep hq11 f1, upd_keep hq11 f2, upd_keep hq11 f3, upd_keep hq11 f4, upd_keep hq11 f5, upd_keep hq11 f6, upd_keep hq11 f7, upd_keep hq11 f10, Heap.upd_same _ _ _, ho10⟩ ?_
  clear hq11 f1 f2 f3 f4 f5 f6 f7 f10 s0 H5 ho10
  intro H6 hF
  obtain ⟨s0, f1, f2, f3, f4, f5, f6, f7, f10, f11, ho10⟩ := hF
  replace s0 := (show Aside _ from s0)
  refine seq_go ?_
  (repeat' first
    | simp (contextual := true) (maxSteps := 4000000) only [fwc, fwe, fww, reduceIte, ↓reduceIte, Nat.reduceAdd, Nat.reduceLeDiff, Nat.reduceEqDiff, Nat.reduceLT, Nat.reduceSub, reduceCtorEq, Int.reduceEq, Int.reduceLT, Int.reduceLE, Int.reduceNeg, Int.reduceToNat, Int.reduceAdd, Int.reduceSub, Nat.reduceMul, part_cell, part_agg, *]
    | (refine retK_now ?_)
    | (refine retK_now' ?_)
    | (intro q hq)
    | (refine cond_intro (fun hc => ?_) (fun hc => ?_)))
  refine hj3.use ?_
  clear hj3
  (repeat' first
    | simp (contextual := true) (maxSteps := 4000000) only [fwc, fwe, fww, reduceIte, ↓reduceIte, Nat.reduceAdd, Nat.reduceLeDiff, Nat.reduceEqDiff, Nat.reduceLT, Nat.reduceSub, reduceCtorEq, Int.reduceEq, Int.reduceLT, Int.reduceLE, Int.reduceNeg, Int.reduceToNat, Int.reduceAdd, Int.reduceSub, Nat.reduceMul, part_cell, part_agg, *]
    | (refine retK_now ?_)
    | (refine retK_now' ?_)
    | (intro q hq)
    | (refine cond_intro (fun hc => ?_) (fun hc => ?_)))
  revert q
  intro q13 hq13
  refine seqK_now ?_
  refine cmd_gen (fun H => O.sub H ∧ H q1 = some (.arr 28 2 [(.agg [.val (.int .u8 1), .val (.int .i64 0)])]) ∧ H q2 = some (.arr 28 2 [(.agg [.val (.int .u8 1), .val (.int .i64 1)])]) ∧ H q3 = some (.arr 28 2 [(.agg [.val (.int .u8 2), .val (.int .i64 0)])]) ∧ H q4 = some (.arr 35 2 [exX]) ∧ H q5 = some (.arr 26 2 [(.agg [.val (.int .u8 0), .val (.int .i64 1)])]) ∧ H q6 = some (.arr 26 2 [(.agg [.val (.int .u8 0), .val (.int .i64 2)])]) ∧ H q7 = some (.arr 26 2 [(.agg [.val (.int .u8 1), .val (.int .i64 2)])]) ∧ H q10 = some (.arr 35 2 [.agg [yf, yb]]) ∧ H q11 = some (.arr 35 2 [.agg [zf, zb]]) ∧ O q10 = none) ⟨sub_new s0.out hq13, upd_keep hq13 f1, upd_keep hq13 f2, upd_keep hq13 f3, upd_keep hq13 f4, upd_keep hq13 f5, upd_keep hq13 f6, upd_keep hq13 f7, upd_keep hq13 f10, upd_keep hq13 f11, ho10⟩ ?_
  clear hq13 f1 f2 f3 f4 f5 f6 f7 f10 f11 s0 H6 ho10
  intro H7 hF
  obtain ⟨s0, f1, f2, f3, f4, f5, f6, f7, f10, f11, ho10⟩ := hF
  replace s0 := (show Aside _ from s0)
  refine seq_go ?_
  (repeat' first
    | simp (contextual := true) (maxSteps := 4000000) only [fwc, fwe, fww, reduceIte, ↓reduceIte, Nat.reduceAdd, Nat.reduceLeDiff, Nat.reduceEqDiff, Nat.reduceLT, Nat.reduceSub, reduceCtorEq, Int.reduceEq, Int.reduceLT, Int.reduceLE, Int.reduceNeg, Int.reduceToNat, Int.reduceAdd, Int.reduceSub, Nat.reduceMul, part_cell, part_agg, *]
    | (refine retK_now ?_)
    | (refine retK_now' ?_)
    | (intro q hq)
    | (refine cond_intro (fun hc => ?_) (fun hc => ?_)))
  refine hj4.use ?_
  clear hj4
  (repeat' first
    | simp (contextual := true) (maxSteps := 4000000) only [fwc, fwe, fww, reduceIte, ↓reduceIte, Nat.reduceAdd, Nat.reduceLeDiff, Nat.reduceEqDiff, Nat.reduceLT, Nat.reduceSub, reduceCtorEq, Int.reduceEq, Int.reduceLT, Int.reduceLE, Int.reduceNeg, Int.reduceToNat, Int.reduceAdd, Int.reduceSub, Nat.reduceMul, part_cell, part_agg, *]
    | (refine retK_now ?_)
    | (refine retK_now' ?_)
    | (intro q hq)
    | (refine cond_intro (fun hc => ?_) (fun hc => ?_)))
  revert q
  intro q15 hq15
  refine seqK_now ?_
  refine cmd_gen (fun H => O.sub H ∧ H q1 = some (.arr 28 2 [(.agg [.val (.int .u8 1), .val (.int .i64 0)])]) ∧ H q2 = some (.arr 28 2 [(.agg [.val (.int .u8 1), .val (.int .i64 1)])]) ∧ H q3 = some (.arr 28 2 [(.agg [.val (.int .u8 2), .val (.int .i64 0)])]) ∧ H q4 = some (.arr 35 2 [exX]) ∧ H q5 = some (.arr 26 2 [(.agg [.val (.int .u8 0), .val (.int .i64 1)])]) ∧ H q6 = some (.arr 26 2 [(.agg [.val (.int .u8 0), .val (.int .i64 2)])]) ∧ H q7 = some (.arr 26 2 [(.agg [.val (.int .u8 1), .val (.int .i64 2)])]) ∧ H q10 = some (.arr 35 2 [.agg [yf, yb]]) ∧ H q11 = some (.arr 35 2 [.agg [zf, zb]]) ∧ O q10 = none) ⟨sub_new s0.out hq15, upd_keep hq15 f1, upd_keep hq15 f2, upd_keep hq15 f3, upd_keep hq15 f4, upd_keep hq15 f5, upd_keep hq15 f6, upd_keep hq15 f7, upd_keep hq15 f10, upd_keep hq15 f11, ho10⟩ ?_
  clear hq15 f1 f2 f3 f4 f5 f6 f7 f10 f11 s0 H7 ho10
  intro H8 hF
  obtain ⟨s0, f1, f2, f3, f4, f5, f6, f7, f10, f11, ho10⟩ := hF
  replace s0 := (show Aside _ from s0)
  refine seq_go ?_
  refine seq_go ?_
  (repeat' first
    | simp (contextual := true) (maxSteps := 4000000) only [fwc, fwe, fww, reduceIte, ↓reduceIte, Nat.reduceAdd, Nat.reduceLeDiff, Nat.reduceEqDiff, Nat.reduceLT, Nat.reduceSub, reduceCtorEq, Int.reduceEq, Int.reduceLT, Int.reduceLE, Int.reduceNeg, Int.reduceToNat, Int.reduceAdd, Int.reduceSub, Nat.reduceMul, part_cell, part_agg, *]
    | (refine retK_now ?_)
    | (refine retK_now' ?_)
    | (intro q hq)
    | (refine cond_intro (fun hc => ?_) (fun hc => ?_)))
  refine callF_use hay ?_
  clear hay
  (repeat' first
    | simp (contextual := true) (maxSteps := 4000000) only [fwc, fwe, fww, reduceIte, ↓reduceIte, Nat.reduceAdd, Nat.reduceLeDiff, Nat.reduceEqDiff, Nat.reduceLT, Nat.reduceSub, reduceCtorEq, Int.reduceEq, Int.reduceLT, Int.reduceLE, Int.reduceNeg, Int.reduceToNat, Int.reduceAdd, Int.reduceSub, Nat.reduceMul, part_cell, part_agg, *]
    | (refine retK_now ?_)
    | (refine retK_now' ?_)
    | (intro q hq)
    | (refine cond_intro (fun hc => ?_) (fun hc => ?_)))
  refine callF_use hs1 ?_
  clear hs1
  (repeat' first
    | simp (contextual := true) (maxSteps := 4000000) only [fwc, fwe, fww, reduceIte, ↓reduceIte, Nat.reduceAdd, Nat.reduceLeDiff, Nat.reduceEqDiff, Nat.reduceLT, Nat.reduceSub, reduceCtorEq, Int.reduceEq, Int.reduceLT, Int.reduceLE, Int.reduceNeg, Int.reduceToNat, Int.reduceAdd, Int.reduceSub, Nat.reduceMul, part_cell, part_agg, *]
    | (refine retK_now ?_)
    | (refine retK_now' ?_)
    | (intro q hq)
    | (refine cond_intro (fun hc => ?_) (fun hc => ?_)))
  refine callF_use haz ?_
  clear haz
  (repeat' first
    | simp (contextual := true) (maxSteps := 4000000) only [fwc, fwe, fww, reduceIte, ↓reduceIte, Nat.reduceAdd, Nat.reduceLeDiff, Nat.reduceEqDiff, Nat.reduceLT, Nat.reduceSub, reduceCtorEq, Int.reduceEq, Int.reduceLT, Int.reduceLE, Int.reduceNeg, Int.reduceToNat, Int.reduceAdd, Int.reduceSub, Nat.reduceMul, part_cell, part_agg, *]
    | (refine retK_now ?_)
    | (refine retK_now' ?_)
    | (intro q hq)
    | (refine cond_intro (fun hc => ?_) (fun hc => ?_)))
  refine callF_use hs2 ?_
  clear hs2
  (repeat' first
    | simp (contextual := true) (maxSteps := 4000000) only [fwc, fwe, fww, reduceIte, ↓reduceIte, Nat.reduceAdd, Nat.reduceLeDiff, Nat.reduceEqDiff, Nat.reduceLT, Nat.reduceSub, reduceCtorEq, Int.reduceEq, Int.reduceLT, Int.reduceLE, Int.reduceNeg, Int.reduceToNat, Int.reduceAdd, Int.reduceSub, Nat.reduceMul, part_cell, part_agg, *]
    | (refine retK_now ?_)
    | (refine retK_now' ?_)
    | (intro q hq)
    | (refine cond_intro (fun hc => ?_) (fun hc => ?_)))
  refine seqK_now ?_
  (repeat' first
    | simp (contextual := true) (maxSteps := 4000000) only [fwc, fwe, fww, reduceIte, ↓reduceIte, Nat.reduceAdd, Nat.reduceLeDiff, Nat.reduceEqDiff, Nat.reduceLT, Nat.reduceSub, reduceCtorEq, Int.reduceEq, Int.reduceLT, Int.reduceLE, Int.reduceNeg, Int.reduceToNat, Int.reduceAdd, Int.reduceSub, Nat.reduceMul, part_cell, part_agg, *]
    | (refine retK_now ?_)
    | (refine retK_now' ?_)
    | (intro q hq)
    | (refine cond_intro (fun hc => ?_) (fun hc => ?_)))
  refine seqK_now ?_
  refine seq_go ?_
  (repeat' first
    | simp (contextual := true) (maxSteps := 4000000) only [fwc, fwe, fww, reduceIte, ↓reduceIte, Nat.reduceAdd, Nat.reduceLeDiff, Nat.reduceEqDiff, Nat.reduceLT, Nat.reduceSub, reduceCtorEq, Int.reduceEq, Int.reduceLT, Int.reduceLE, Int.reduceNeg, Int.reduceToNat, Int.reduceAdd, Int.reduceSub, Nat.reduceMul, part_cell, part_agg, *]
    | (refine retK_now ?_)
    | (refine retK_now' ?_)
    | (intro q hq)
    | (refine cond_intro (fun hc => ?_) (fun hc => ?_)))
  refine hset1.use ?_
  clear hset1
  (repeat' first
    | simp (contextual := true) (maxSteps := 4000000) only [fwc, fwe, fww, reduceIte, ↓reduceIte, Nat.reduceAdd, Nat.reduceLeDiff, Nat.reduceEqDiff, Nat.reduceLT, Nat.reduceSub, reduceCtorEq, Int.reduceEq, Int.reduceLT, Int.reduceLE, Int.reduceNeg, Int.reduceToNat, Int.reduceAdd, Int.reduceSub, Nat.reduceMul, part_cell, part_agg, *]
    | (refine retK_now ?_)
    | (refine retK_now' ?_)
    | (intro q hq)
    | (refine cond_intro (fun hc => ?_) (fun hc => ?_)))
  refine seqK_now ?_
  refine seq_go ?_
  (repeat' first
    | simp (contextual := true) (maxSteps := 4000000) only [fwc, fwe, fww, reduceIte, ↓reduceIte, Nat.reduceAdd, Nat.reduceLeDiff, Nat.reduceEqDiff, Nat.reduceLT, Nat.reduceSub, reduceCtorEq, Int.reduceEq, Int.reduceLT, Int.reduceLE, Int.reduceNeg, Int.reduceToNat, Int.reduceAdd, Int.reduceSub, Nat.reduceMul, part_cell, part_agg, *]
    | (refine retK_now ?_)
    | (refine retK_now' ?_)
    | (intro q hq)
    | (refine cond_intro (fun hc => ?_) (fun hc => ?_)))
  refine hset2.use ?_
  clear hset2
  (repeat' first
    | simp (contextual := true) (maxSteps := 4000000) only [fwc, fwe, fww, reduceIte, ↓reduceIte, Nat.reduceAdd, Nat.reduceLeDiff, Nat.reduceEqDiff, Nat.reduceLT, Nat.reduceSub, reduceCtorEq, Int.reduceEq, Int.reduceLT, Int.reduceLE, Int.reduceNeg, Int.reduceToNat, Int.reduceAdd, Int.reduceSub, Nat.reduceMul, part_cell, part_agg, *]
    | (refine retK_now ?_)
    | (refine retK_now' ?_)
    | (intro q hq)
    | (refine cond_intro (fun hc => ?_) (fun hc => ?_)))
  refine seqK_now ?_
  have e1 : ¬ q2 = q10 := fun e => by rw [e, f10] at f2; simp at f2
  have e2 : ¬ q6 = q10 := fun e => by rw [e, f10] at f6; simp at f6
  replace ho10 := (show Aside _ from ho10)
  refine seq_go ?_
  (repeat' first
    | simp (contextual := true) (maxSteps := 4000000) only [fwc, fwe, fww, reduceIte, ↓reduceIte, Nat.reduceAdd, Nat.reduceLeDiff, Nat.reduceEqDiff, Nat.reduceLT, Nat.reduceSub, reduceCtorEq, Int.reduceEq, Int.reduceLT, Int.reduceLE, Int.reduceNeg, Int.reduceToNat, Int.reduceAdd, Int.reduceSub, Nat.reduceMul, part_cell, part_agg, *]
    | (refine retK_now ?_)
    | (refine retK_now' ?_)
    | (intro q hq)
    | (refine cond_intro (fun hc => ?_) (fun hc => ?_)))
  refine callF_use hav ?_
  clear hav
  (repeat' first
    | simp (contextual := true) (maxSteps := 4000000) only [fwc, fwe, fww, reduceIte, ↓reduceIte, Nat.reduceAdd, Nat.reduceLeDiff, Nat.reduceEqDiff, Nat.reduceLT, Nat.reduceSub, reduceCtorEq, Int.reduceEq, Int.reduceLT, Int.reduceLE, Int.reduceNeg, Int.reduceToNat, Int.reduceAdd, Int.reduceSub, Nat.reduceMul, part_cell, part_agg, *]
    | (refine retK_now ?_)
    | (refine retK_now' ?_)
    | (intro q hq)
    | (refine cond_intro (fun hc => ?_) (fun hc => ?_)))
  refine callF_use hs3 ?_
  clear hs3
  (repeat' first
    | simp (contextual := true) (maxSteps := 4000000) only [fwc, fwe, fww, reduceIte, ↓reduceIte, Nat.reduceAdd, Nat.reduceLeDiff, Nat.reduceEqDiff, Nat.reduceLT, Nat.reduceSub, reduceCtorEq, Int.reduceEq, Int.reduceLT, Int.reduceLE, Int.reduceNeg, Int.reduceToNat, Int.reduceAdd, Int.reduceSub, Nat.reduceMul, part_cell, part_agg, *]
    | (refine retK_now ?_)
    | (refine retK_now' ?_)
    | (intro q hq)
    | (refine cond_intro (fun hc => ?_) (fun hc => ?_)))
  refine callF_use hcv ?_
  clear hcv
  (repeat' first
    | simp (contextual := true) (maxSteps := 4000000) only [fwc, fwe, fww, reduceIte, ↓reduceIte, Nat.reduceAdd, Nat.reduceLeDiff, Nat.reduceEqDiff, Nat.reduceLT, Nat.reduceSub, reduceCtorEq, Int.reduceEq, Int.reduceLT, Int.reduceLE, Int.reduceNeg, Int.reduceToNat, Int.reduceAdd, Int.reduceSub, Nat.reduceMul, part_cell, part_agg, *]
    | (refine retK_now ?_)
    | (refine retK_now' ?_)
    | (intro q hq)
    | (refine cond_intro (fun hc => ?_) (fun hc => ?_)))
  refine seqK_now ?_
  (repeat' first
    | simp (contextual := true) (maxSteps := 4000000) only [fwc, fwe, fww, reduceIte, ↓reduceIte, Nat.reduceAdd, Nat.reduceLeDiff, Nat.reduceEqDiff, Nat.reduceLT, Nat.reduceSub, reduceCtorEq, Int.reduceEq, Int.reduceLT, Int.reduceLE, Int.reduceNeg, Int.reduceToNat, Int.reduceAdd, Int.reduceSub, Nat.reduceMul, part_cell, part_agg, *]
    | (refine retK_now ?_)
    | (refine retK_now' ?_)
    | (intro q hq)
    | (refine cond_intro (fun hc => ?_) (fun hc => ?_)))
  (repeat' first
    | simp (contextual := true) (maxSteps := 4000000) only [fwc, fwe, fww, reduceIte, ↓reduceIte, Nat.reduceAdd, Nat.reduceLeDiff, Nat.reduceEqDiff, Nat.reduceLT, Nat.reduceSub, reduceCtorEq, Int.reduceEq, Int.reduceLT, Int.reduceLE, Int.reduceNeg, Int.reduceToNat, Int.reduceAdd, Int.reduceSub, Nat.reduceMul, *]
    | (refine seqK_now ?_)
    | (refine retK_now ?_)
    | (refine retK_now' ?_)
    | (intro q hq)
    | (refine cond_intro (fun hc => ?_) (fun hc => ?_)))
  exact WeakR.pure (sub_upd ho10.out s0.out) rfl
end Go.Proofs.Ytlpngkeegjickaa

namespace Go.Proofs.Ytlpngkeegjickaa
open Go.Ab
attribute [local irreducible] WeakR WeakE CallA YieldA

theorem part_of {G : List (List Id)} {tr n : Nat} (hle : tr ≤ n) (hn : G.length = n) (hi : ∀ j, tr ≤ j → j < n → G.getD j [] = []) : G = (List.range tr).map (fun i => G.getD i []) ++ List.replicate (n - tr) [] := by
  refine List.ext_getElem (by simp; omega) fun i h1 h2 => ?_
  by_cases h : i < tr
  · rw [List.getElem_append_left (by simpa using h)]
    simp [List.getD_eq_getElem?_getD, List.getElem?_eq_getElem h1]
  · rw [List.getElem_append_right (by simp; omega), List.getElem_replicate]
    have := hi i (by omega) (by omega)
    rw [List.getD_eq_getElem?_getD, List.getElem?_eq_getElem h1] at this
    exact this
theorem flat_rep (n : Nat) : (List.replicate n ([] : List Id)).flatten = [] := by
  induction n with
  | zero => rfl
  | succ n ih => rw [List.replicate_succ, List.flatten_cons, ih]; rfl

theorem bedsF_flat {T : List (List Id)} (h : T.length = 80) : (T.take 40).flatten = (bedsF T).flatten := by
  have := part_of (G := T.take 40) (tr := trF T) (n := 40) (trF_le T) (by simp [h]) (fun j h1 h2 => trim_hi _ 40 j h1 h2)
  rw [this, List.flatten_append, flat_rep, List.append_nil]
  congr 1
  unfold bedsF
  refine List.map_congr_left fun i hi => ?_
  have hi : i < trF T := List.mem_range.1 hi
  have := trF_le T
  rw [List.getD_eq_getElem?_getD, List.getElem?_take, if_pos (by omega), ← List.getD_eq_getElem?_getD]
theorem bedsB_flat {T : List (List Id)} (h : T.length = 80) : (T.drop 40).flatten = (bedsB T).flatten := by
  have := part_of (G := T.drop 40) (tr := trB T) (n := 40) (trB_le T) (by simp [h]) (fun j h1 h2 => trim_hi _ 40 j h1 h2)
  rw [this, List.flatten_append, flat_rep, List.append_nil]
  congr 1
  unfold bedsB
  refine List.map_congr_left fun i hi => ?_
  rw [List.getD_eq_getElem?_getD, List.getElem?_drop, ← List.getD_eq_getElem?_getD]
theorem bedsF_len (T : List (List Id)) : (bedsF T).length = trF T := by simp [bedsF]
theorem bedsB_len (T : List (List Id)) : (bedsB T).length = trB T := by simp [bedsB]
theorem vis_beds (T : List (List Id)) : visL (bedsF T) (bedsB T) = bedsF T ++ bedsB T := by
  have h1 := trF_le T
  have h2 := trB_le T
  unfold visL
  rw [List.take_of_length_le (by rw [bedsF_len]; exact h1), List.take_of_length_le (by rw [bedsB_len]; exact h2)]
theorem names_beds {T : List (List Id)} (h : T.length = 80) : namesL (bedsF T) (bedsB T) = T.flatten := by
  unfold namesL
  rw [vis_beds, List.flatten_append, ← bedsF_flat h, ← bedsB_flat h, ← List.flatten_append, List.take_append_drop]

theorem bedsF_get (T : List (List Id)) (i : Nat) (hi : i < 40) : (bedsF T).getD i [] = T.getD i [] := by
  by_cases h : i < trF T
  · rw [List.getD_eq_getElem?_getD (l := bedsF T), List.getElem?_eq_getElem (by rw [bedsF_len]; exact h)]
    simp [bedsF]
  · rw [getD_nil (by rw [bedsF_len]; omega), trF_hi (by omega) hi]
theorem bedsB_get (T : List (List Id)) (i : Nat) (hi : i < 40) : (bedsB T).getD i [] = T.getD (40 + i) [] := by
  by_cases h : i < trB T
  · rw [List.getD_eq_getElem?_getD (l := bedsB T), List.getElem?_eq_getElem (by rw [bedsB_len]; exact h)]
    simp [bedsB]
  · rw [getD_nil (by rw [bedsB_len]; omega), trB_hi (by omega) hi]

theorem at_needle (F B : List (List Id)) (i : Nat) (hi : i < 80) : atL F B (needleL i) = if i < 40 then F.getD i [] else B.getD (i - 40) [] := by
  unfold atL
  rw [if_neg (by rw [(needleL_ok i).1]; simp)]
  by_cases h : i < 40
  · rw [if_pos h, if_neg (by unfold needleL; simp only; omega)]
    congr 1
    unfold needleL
    simp only
    omega
  · rw [if_neg h, if_pos (by unfold needleL; simp only; omega)]
    congr 1
    unfold needleL
    simp only
    omega
theorem at_beds (T : List (List Id)) (i : Nat) (hi : i < 80) : atL (bedsF T) (bedsB T) (needleL i) = T.getD i [] := by
  rw [at_needle _ _ i hi]
  split
  · exact bedsF_get T i (by omega)
  · rw [bedsB_get T (i - 40) (by omega)]
    congr 1
    omega

theorem longF (T : List (List Id)) : longN (bedsF T) = 0 := by
  unfold longN
  rw [if_neg]
  rintro ⟨h1, h2⟩
  rw [bedsF_len] at h1 h2
  have := trF_le T
  rw [bedsF_get T _ (by omega)] at h2
  exact trF_lo h1 h2
theorem longB (T : List (List Id)) : longN (bedsB T) = 0 := by
  unfold longN
  rw [if_neg]
  rintro ⟨h1, h2⟩
  rw [bedsB_len] at h1 h2
  have := trB_le T
  rw [bedsB_get T _ (by omega)] at h2
  exact trB_lo h1 h2

/-- The beds of a table hold what it says, and are short. -/
theorem differs_beds (T : List (List Id)) : differsL T (bedsF T) (bedsB T) = 0 := by
  unfold differsL
  simp only [longF, longB, Nat.add_zero]
  rw [List.countP_eq_zero]
  intro i hi
  have hi : i < 80 := List.mem_range.1 hi
  simp [diffAt, at_beds T i hi]

theorem idn_named {j : Nat} (h : j < 1000) : named (idn j) = true := by
  unfold named idn
  simp only [Bool.and_eq_true, decide_eq_true_eq]
  omega

/-- The beds of a table are valid. -/
theorem check_beds {T : List (List Id)} {n : Nat} (h : TabOK T n) (hn : n ≤ 1000) : checkL (bedsF T) (bedsB T) = 0 := by
  have h1 := trF_le T
  have h2 := trB_le T
  unfold checkL
  rw [if_neg, if_neg, if_neg, if_neg]
  · rw [names_beds h.len]
    simp [h.nd]
  · rw [names_beds h.len]
    unfold badNames
    simp only [List.any_eq_true, not_exists, not_and]
    intro p hp
    obtain ⟨j, hj, rfl⟩ := h.mem p hp
    simp [idn_named (show j < 1000 by omega)]
  · rw [vis_beds]
    simp only [List.any_eq_true, not_exists, not_and, decide_eq_true_eq, Nat.not_lt]
    intro l hl
    have key : ∀ i, (T.getD i []).length ≤ 4 := fun i => by
      rw [List.getD_eq_getElem?_getD]
      by_cases hi : i < T.length
      · rw [List.getElem?_eq_getElem hi]; exact h.le _ (List.getElem_mem hi)
      · rw [List.getElem?_eq_none (by omega)]; simp
    rcases List.mem_append.1 hl with hl | hl
    · obtain ⟨i, _, rfl⟩ := List.mem_map.1 hl; exact key i
    · obtain ⟨i, _, rfl⟩ := List.mem_map.1 hl; exact key _
  · rw [bedsF_len, bedsB_len]
    simp
    omega

theorem Of_ok (s : AV) (P : List Put) (hs : IsL 2 s (P.map Put.av)) (hP : ∀ p ∈ P, p.ok) : PureA Try.prog 22 [s] (.agg [bedA (bedsF (ofL P)), bedA (bedsB (ofL P))]) := by
  intro O
  have h1 := of_ok s P hs hP
  have hT := Of_tab_ok P
  have h2 := beds_ok (ofL P) hT.len (fun l hl => by have := hT.le l hl; omega)
  have c1 := (bedA_is (bedsF (ofL P))).2.isL.cells
  have c2 := (bedA_is (bedsB (ofL P))).2.isL.cells
  refine k22.call mix ?_
  unfold c22
  (repeat' first
    | simp (contextual := true) (maxSteps := 4000000) only [fwc, fwe, fww, reduceIte, ↓reduceIte, Nat.reduceAdd, Nat.reduceLeDiff, Nat.reduceEqDiff, Nat.reduceLT, Nat.reduceSub, reduceCtorEq, Int.reduceEq, Int.reduceLT, Int.reduceLE, Int.reduceNeg, Int.reduceToNat, Int.reduceAdd, Int.reduceSub, Nat.reduceMul, *]
    | (refine seqK_now ?_)
    | (refine retK_now ?_)
    | (refine retK_now' ?_)
    | (intro q hq)
    | (refine cond_intro (fun hc => ?_) (fun hc => ?_)))
  refine h1.use ?_
  (repeat' first
    | simp (contextual := true) (maxSteps := 4000000) only [fwc, fwe, fww, reduceIte, ↓reduceIte, Nat.reduceAdd, Nat.reduceLeDiff, Nat.reduceEqDiff, Nat.reduceLT, Nat.reduceSub, reduceCtorEq, Int.reduceEq, Int.reduceLT, Int.reduceLE, Int.reduceNeg, Int.reduceToNat, Int.reduceAdd, Int.reduceSub, Nat.reduceMul, *]
    | (refine seqK_now ?_)
    | (refine retK_now ?_)
    | (refine retK_now' ?_)
    | (intro q hq)
    | (refine cond_intro (fun hc => ?_) (fun hc => ?_)))
  refine h2.use ?_
  (repeat' first
    | simp (contextual := true) (maxSteps := 4000000) only [fwc, fwe, fww, reduceIte, ↓reduceIte, Nat.reduceAdd, Nat.reduceLeDiff, Nat.reduceEqDiff, Nat.reduceLT, Nat.reduceSub, reduceCtorEq, Int.reduceEq, Int.reduceLT, Int.reduceLE, Int.reduceNeg, Int.reduceToNat, Int.reduceAdd, Int.reduceSub, Nat.reduceMul, part_agg, *]
    | (refine seqK_now ?_)
    | (refine retK_now ?_)
    | (refine retK_now' ?_)
    | (intro q hq)
    | (refine cond_intro (fun hc => ?_) (fun hc => ?_)))
  refine WeakR.pure (by repeat (first | exact Heap.sub_refl _ | refine sub_upd (by simp only [*]) ?_)) ?_
  rfl
end Go.Proofs.Ytlpngkeegjickaa

namespace Go.Proofs.Ytlpngkeegjickaa
open Go.Ab
attribute [local irreducible] WeakR WeakE CallA YieldA

theorem trimL_get (l : List (List Id)) (i : Nat) : (trimL l).getD i [] = l.getD i [] := by
  unfold trimL
  have hle := trimN_le l l.length
  by_cases h : i < trimN l l.length
  · rw [List.getD_eq_getElem?_getD, List.getElem?_take, if_pos h, ← List.getD_eq_getElem?_getD]
  · rw [getD_nil (by rw [List.length_take]; omega)]
    by_cases h2 : i < l.length
    · exact (trim_hi l l.length i (by omega) h2).symm
    · rw [getD_nil (by omega)]
theorem fullL_get (F : List (List Id)) (a : Nat) (X : List Id) (i : Nat) : (fullL F a X).getD i [] = if i + 1 = a then X else F.getD i [] := by
  by_cases h : i < max F.length a
  · rw [List.getD_eq_getElem?_getD, List.getElem?_eq_getElem (by simpa [fullL] using h)]
    simp [fullL]
  · rw [getD_nil (by simp [fullL]; omega), if_neg (by omega), getD_nil (by omega)]
theorem withL_get (F : List (List Id)) (a : Nat) (X : List Id) (i : Nat) : (withL F a X).getD i [] = if i + 1 = a then X else F.getD i [] := by
  unfold withL
  rw [trimL_get, fullL_get]
theorem with1_get (F : List (List Id)) (i : Nat) : (withL F 1 (F.getD 0 [])).getD i [] = F.getD i [] := by
  rw [withL_get]
  split
  · rw [show i = 0 by omega]
  · rfl
theorem putLF_get (F : List (List Id)) (n : Ndl) (X : List Id) (i : Nat) : (putLF F n X).getD i [] = if ¬ n.bed = 1 ∧ i + 1 = n.at_.toNat then X else F.getD i [] := by
  unfold putLF
  split
  · rename_i h
    rw [with1_get, if_neg (fun h' => h'.1 h)]
  · rename_i h
    rw [withL_get]
    by_cases h2 : i + 1 = n.at_.toNat
    · rw [if_pos h2, if_pos ⟨h, h2⟩]
    · rw [if_neg h2, if_neg (fun h' => h2 h'.2)]
theorem putLB_get (B : List (List Id)) (n : Ndl) (X : List Id) (i : Nat) : (putLB B n X).getD i [] = if n.bed = 1 ∧ i + 1 = n.at_.toNat then X else B.getD i [] := by
  unfold putLB
  split
  · rename_i h
    rw [withL_get]
    by_cases h2 : i + 1 = n.at_.toNat
    · rw [if_pos h2, if_pos ⟨h, h2⟩]
    · rw [if_neg h2, if_neg (fun h' => h2 h'.2)]
  · rename_i h
    rw [with1_get, if_neg (fun h' => h h'.1)]

theorem trim_long (l : List (List Id)) : longN (trimL l) = 0 := by
  unfold longN
  rw [if_neg]
  rintro ⟨h1, h2⟩
  have hle := trimN_le l l.length
  have hlen : (trimL l).length = trimN l l.length := by unfold trimL; rw [List.length_take]; omega
  rw [hlen, trimL_get] at h2
  exact trim_lo l l.length (by omega) h2
theorem with_long (F : List (List Id)) (a : Nat) (X : List Id) : longN (withL F a X) = 0 := trim_long _
theorem putF_long (F : List (List Id)) (n : Ndl) (X : List Id) : longN (putLF F n X) = 0 := by
  unfold putLF; split <;> exact with_long _ _ _
theorem putB_long (B : List (List Id)) (n : Ndl) (X : List Id) : longN (putLB B n X) = 0 := by
  unfold putLB; split <;> exact with_long _ _ _

/-- What the needles hold behind a put. -/
theorem at_put {F B : List (List Id)} {n : Ndl} {X : List Id} (hn : n.bad = false) (h0 : 0 ≤ n.bed) (m : Ndl) (hm : m.bad = false) (hm0 : 0 ≤ m.bed) : atL (putLF F n X) (putLB B n X) m = if m = n then X else atL F B m := by
  have k : ∀ z : Ndl, z.bad = false → z.bed ≤ 1 ∧ 1 ≤ z.at_ ∧ z.at_ ≤ 40 := fun z h => by
    unfold Ndl.bad at h
    simp only [Bool.or_eq_false_iff, decide_eq_false_iff_not, Int.not_lt] at h
    omega
  obtain ⟨k1, k2, k3⟩ := k n hn
  obtain ⟨l1, l2, l3⟩ := k m hm
  have hext : m = n ↔ m.bed = n.bed ∧ m.at_ = n.at_ := by cases m; cases n; simp
  unfold atL
  rw [hm]
  simp only [Bool.false_eq_true, if_false]
  by_cases hb : m.bed = 1
  · rw [if_pos hb, if_pos hb, putLB_get]
    by_cases he : m = n
    · rw [if_pos he, if_pos]
      subst he
      exact ⟨hb, by omega⟩
    · rw [if_neg he, if_neg]
      rintro ⟨h1, h2⟩
      exact he (hext.2 ⟨by omega, by omega⟩)
  · rw [if_neg hb, if_neg hb, putLF_get]
    by_cases he : m = n
    · rw [if_pos he, if_pos]
      subst he
      exact ⟨hb, by omega⟩
    · rw [if_neg he, if_neg]
      rintro ⟨h1, h2⟩
      exact he (hext.2 ⟨by omega, by omega⟩)

/-- .. and behind a join. -/
theorem at_join {F B : List (List Id)} {u v : Ndl} (hu : u.bad = false) (hv : v.bad = false) (hu0 : 0 ≤ u.bed) (hv0 : 0 ≤ v.bed) (m : Ndl) (hm : m.bad = false) (hm0 : 0 ≤ m.bed) :
    atL (joinF F B u v) (joinB F B u v) m = if m = v then joinedL F B u v else if m = u then [] else atL F B m := by
  unfold joinF joinB
  rw [at_put hv hv0 m hm hm0, at_put hu hu0 m hm hm0]
theorem join_long (F B : List (List Id)) (u v : Ndl) : longN (joinF F B u v) = 0 ∧ longN (joinB F B u v) = 0 := ⟨putF_long _ _ _, putB_long _ _ _⟩
end Go.Proofs.Ytlpngkeegjickaa

namespace Go.Proofs.Ytlpngkeegjickaa
open Go.Ab
attribute [local irreducible] WeakR WeakE CallA YieldA

/-- All needles of beds as a table. -/
def tabOf (F B : List (List Id)) : List (List Id) := (List.range 40).map (fun i => F.getD i []) ++ (List.range 40).map (fun i => B.getD i [])
theorem tabOf_len (F B : List (List Id)) : (tabOf F B).length = 80 := by simp [tabOf]
theorem pad_flat (F : List (List Id)) (h : F.length ≤ 40) : ((List.range 40).map (fun i => F.getD i [])).flatten = F.flatten := by
  have := part_of (G := (List.range 40).map (fun i => F.getD i [])) (tr := F.length) (n := 40) h (by simp) (fun j h1 h2 => by
    rw [List.getD_eq_getElem?_getD, List.getElem?_map, List.getElem?_range h2]
    exact getD_nil h1)
  rw [this, List.flatten_append, flat_rep, List.append_nil]
  congr 1
  refine List.ext_getElem (by simp) fun i h1 h2 => ?_
  have h3 : i < 40 := by omega
  simp [List.getD_eq_getElem?_getD, List.getElem?_map, List.getElem?_range h3, List.getElem?_eq_getElem h2]
theorem names_tab {F B : List (List Id)} (hF : F.length ≤ 40) (hB : B.length ≤ 40) : namesL F B = (tabOf F B).flatten := by
  unfold namesL visL tabOf
  rw [List.take_of_length_le hF, List.take_of_length_le hB, List.flatten_append, List.flatten_append, pad_flat F hF, pad_flat B hB]
theorem tabOf_get (F B : List (List Id)) (i : Nat) (hi : i < 80) : (tabOf F B).getD i [] = atL F B (needleL i) := by
  rw [at_needle _ _ i hi]
  unfold tabOf
  rw [List.getD_eq_getElem?_getD]
  split
  · rename_i h
    rw [List.getElem?_append_left (by simpa using h), List.getElem?_map, List.getElem?_range h]
    rfl
  · rename_i h
    rw [List.getElem?_append_right (by simp; omega), List.getElem?_map, List.length_map, List.length_range, List.getElem?_range (by omega)]
    rfl

/-- Beds are valid if their table is. -/
theorem check_tab {F B : List (List Id)} {n : Nat} (hF : F.length ≤ 40) (hB : B.length ≤ 40) (h : TabOK (tabOf F B) n) (hn : n ≤ 1000) : checkL F B = 0 := by
  unfold checkL
  rw [if_neg, if_neg, if_neg, if_neg]
  · rw [names_tab hF hB]
    simp [h.nd]
  · rw [names_tab hF hB]
    unfold badNames
    simp only [List.any_eq_true, not_exists, not_and]
    intro p hp
    obtain ⟨j, hj, rfl⟩ := h.mem p hp
    simp [idn_named (show j < 1000 by omega)]
  · simp only [List.any_eq_true, not_exists, not_and, decide_eq_true_eq, Nat.not_lt]
    intro l hl
    unfold visL at hl
    rw [List.take_of_length_le hF, List.take_of_length_le hB] at hl
    have key : ∀ G : List (List Id), G.length ≤ 40 → l ∈ G → l ∈ (List.range 40).map (fun i => G.getD i []) := fun G hG hm => by
      obtain ⟨i, hi, rfl⟩ := List.mem_iff_getElem.1 hm
      refine List.mem_map.2 ⟨i, List.mem_range.2 (by omega), ?_⟩
      rw [List.getD_eq_getElem?_getD, List.getElem?_eq_getElem hi]
      rfl
    refine h.le l ?_
    unfold tabOf
    rcases List.mem_append.1 hl with hm | hm
    · exact List.mem_append.2 (.inl (key F hF hm))
    · exact List.mem_append.2 (.inr (key B hB hm))
  · simp
    omega

/-- What moves over stays as it is, in all. -/
theorem move_perm {T : List (List Id)} {i k : Nat} (hi : i < T.length) (hk : k < T.length) (hne : i ≠ k) {X : List Id} (hX : X.Perm (T.getD k [] ++ T.getD i [])) : ((T.set i []).set k X).flatten.Perm T.flatten := by
  have gen : ∀ (T : List (List Id)) (j : Nat) (Y : List Id), j < T.length → (T.set j Y).flatten.Perm (Y ++ (T.set j []).flatten) := by
    intro T
    induction T with
    | nil => intro j Y h; simp at h
    | cons l T ih =>
      intro j Y h
      cases j with
      | zero => simp
      | succ j =>
        simp only [List.set_cons_succ, List.flatten_cons]
        refine (List.Perm.append_left l (ih j Y (by simpa using h))).trans ?_
        rw [← List.append_assoc, ← List.append_assoc]
        exact List.Perm.append_right _ List.perm_append_comm
  have selfk : ∀ (T : List (List Id)) (j : Nat), j < T.length → T.set j (T.getD j []) = T := fun T j h => by
    refine List.ext_getElem (by simp) fun a h1 h2 => ?_
    rw [List.getElem_set]
    split
    · rename_i e; subst e; rw [List.getD_eq_getElem?_getD, List.getElem?_eq_getElem h]; rfl
    · rfl
  have h1 := gen (T.set i []) k X (by simpa using hk)
  have h2 := gen (T.set k []) i (T.getD i []) (by simpa using hi)
  have h3 := gen T k (T.getD k []) hk
  rw [selfk T k hk] at h3
  have h4 : ((T.set k []).set i (T.getD i [])) = T.set k [] := by
    have := selfk (T.set k []) i (by simpa using hi)
    rwa [show (T.set k []).getD i [] = T.getD i [] by
      rw [List.getD_eq_getElem?_getD, List.getElem?_set, if_neg (Ne.symm hne), ← List.getD_eq_getElem?_getD]] at this
  rw [h4] at h2
  have h5 : (T.set k []).set i [] = (T.set i []).set k [] := List.set_comm _ _ (Ne.symm hne)
  rw [h5] at h2
  refine h1.trans ?_
  refine (List.Perm.append_right _ hX).trans ?_
  rw [List.append_assoc]
  exact (List.Perm.append_left _ h2.symm).trans h3.symm
end Go.Proofs.Ytlpngkeegjickaa

namespace Go.Proofs.Ytlpngkeegjickaa
open Go.Ab
attribute [local irreducible] WeakR WeakE CallA YieldA

def ix (n : Ndl) : Nat := if n.bed = 1 then 40 + (n.at_.toNat - 1) else n.at_.toNat - 1
/-- A needle of the machine. -/
structure Ndl.Good (n : Ndl) : Prop where
  bad : n.bad = false
  nn : 0 ≤ n.bed
theorem Ndl.Good.rng {n : Ndl} (h : n.Good) : (n.bed = 0 ∨ n.bed = 1) ∧ 1 ≤ n.at_ ∧ n.at_ ≤ 40 := by
  have h1 := h.bad
  have h2 := h.nn
  unfold Ndl.bad at h1
  simp only [Bool.or_eq_false_iff, decide_eq_false_iff_not, Int.not_lt] at h1
  omega
theorem Ndl.ext' (m n : Ndl) : m = n ↔ m.bed = n.bed ∧ m.at_ = n.at_ := by cases m; cases n; simp
theorem needle_good (i : Nat) : (needleL i).Good := ⟨(needleL_ok i).1, (needleL_ok i).2⟩
theorem ix_lt {n : Ndl} (h : n.Good) : ix n < 80 := by
  obtain ⟨h1, h2, h3⟩ := h.rng
  unfold ix
  split <;> omega
theorem needle_ix {n : Ndl} (h : n.Good) : needleL (ix n) = n := by
  obtain ⟨h1, h2, h3⟩ := h.rng
  rw [Ndl.ext']
  unfold ix needleL
  simp only
  split <;> omega
theorem ix_needle {i : Nat} (hi : i < 80) : ix (needleL i) = i := by
  unfold ix needleL
  simp only
  split <;> omega
theorem needle_eq {i : Nat} (hi : i < 80) {n : Ndl} (h : n.Good) : needleL i = n ↔ i = ix n := by
  constructor
  · intro e; rw [← e, ix_needle hi]
  · intro e; rw [e, needle_ix h]

theorem tab_put {F B : List (List Id)} {n : Ndl} {X : List Id} (h : n.Good) : tabOf (putLF F n X) (putLB B n X) = (tabOf F B).set (ix n) X := by
  refine List.ext_getElem (by simp [tabOf_len]) fun i h1 h2 => ?_
  rw [tabOf_len] at h1
  have e1 := tabOf_get (putLF F n X) (putLB B n X) i h1
  have e2 := tabOf_get F B i h1
  rw [at_put h.bad h.nn _ (needle_good i).bad (needle_good i).nn] at e1
  rw [List.getD_eq_getElem?_getD, List.getElem?_eq_getElem (by rw [tabOf_len]; exact h1)] at e1 e2
  rw [List.getElem_set]
  simp only [Option.getD_some] at e1 e2
  rw [e1]
  by_cases he : i = ix n
  · rw [if_pos ((needle_eq h1 h).2 he), if_pos he.symm]
  · rw [if_neg (fun e => he ((needle_eq h1 h).1 e)), if_neg (Ne.symm he), e2]
theorem tab_join {F B : List (List Id)} {u v : Ndl} (hu : u.Good) (hv : v.Good) : tabOf (joinF F B u v) (joinB F B u v) = ((tabOf F B).set (ix u) []).set (ix v) (joinedL F B u v) := by
  unfold joinF joinB
  rw [tab_put hv, tab_put hu]
theorem at_ix {F B : List (List Id)} {n : Ndl} (h : n.Good) : atL F B n = (tabOf F B).getD (ix n) [] := by
  rw [tabOf_get _ _ _ (ix_lt h), needle_ix h]
theorem joined_perm {F B : List (List Id)} {u v : Ndl} (hu : u.Good) (hv : v.Good) : (joinedL F B u v).Perm ((tabOf F B).getD (ix v) [] ++ (tabOf F B).getD (ix u) []) := by
  rw [← at_ix hu, ← at_ix hv]
  unfold joinedL
  split
  · exact List.perm_append_comm
  · exact .refl _
theorem join_tab {F B : List (List Id)} {u v : Ndl} {n : Nat} (hu : u.Good) (hv : v.Good) (hne : u.bed ≠ v.bed) (h : TabOK (tabOf F B) n) (hl : (joinedL F B u v).length ≤ 4) : TabOK (tabOf (joinF F B u v) (joinB F B u v)) n := by
  have hix : ix u ≠ ix v := fun e => hne (by rw [← needle_ix hu, ← needle_ix hv, e])
  have hp := move_perm (T := tabOf F B) (i := ix u) (k := ix v) (by rw [tabOf_len]; exact ix_lt hu) (by rw [tabOf_len]; exact ix_lt hv) hix (joined_perm hu hv)
  rw [tab_join hu hv]
  refine ⟨by simp [tabOf_len], fun l hm => ?_, fun p hm => h.mem p (hp.mem_iff.1 hm), hp.nodup_iff.2 h.nd⟩
  rcases List.mem_or_eq_of_mem_set hm with hm | rfl
  · rcases List.mem_or_eq_of_mem_set hm with hm | rfl
    · exact h.le l hm
    · simp
  · exact hl
theorem put_len {F B : List (List Id)} {n : Ndl} {X : List Id} (h : n.Good) (hF : F.length ≤ 40) (hB : B.length ≤ 40) : (putLF F n X).length ≤ 40 ∧ (putLB B n X).length ≤ 40 := by
  obtain ⟨_, h2, h3⟩ := h.rng
  have key : ∀ (G : List (List Id)) (a : Nat) (Y : List Id), G.length ≤ 40 → a ≤ 40 → (withL G a Y).length ≤ 40 := fun G a Y hG ha => by
    unfold withL trimL
    rw [List.length_take]
    simp [fullL]
    omega
  unfold putLF putLB
  constructor
  · split <;> exact key _ _ _ hF (by omega)
  · split <;> exact key _ _ _ hB (by omega)
theorem join_len {F B : List (List Id)} {u v : Ndl} (hu : u.Good) (hv : v.Good) (hF : F.length ≤ 40) (hB : B.length ≤ 40) : (joinF F B u v).length ≤ 40 ∧ (joinB F B u v).length ≤ 40 := by
  have h1 := put_len (X := []) hu hF hB
  exact put_len hv h1.1 h1.2

theorem tab_beds {T : List (List Id)} (h : T.length = 80) : tabOf (bedsF T) (bedsB T) = T := by
  refine List.ext_getElem (by rw [tabOf_len, h]) fun i h1 h2 => ?_
  have hi : i < 80 := by rw [tabOf_len] at h1; exact h1
  have e1 := tabOf_get (bedsF T) (bedsB T) i hi
  rw [at_beds T i hi, List.getD_eq_getElem?_getD, List.getD_eq_getElem?_getD, List.getElem?_eq_getElem h1, List.getElem?_eq_getElem h2] at e1
  exact e1
/-- Two beds with the same table hold the same. -/
theorem same_tab {F B F' B' : List (List Id)} (hF : F.length ≤ 40) (hB : B.length ≤ 40) (hF' : F'.length ≤ 40) (hB' : B'.length ≤ 40) : sameL F B F' B' = true ↔ tabOf F B = tabOf F' B' := by
  rw [sameL_iff]
  constructor
  · intro h
    unfold tabOf
    congr 1
    · exact List.map_congr_left fun i _ => (h i).1
    · exact List.map_congr_left fun i _ => (h i).2
  · intro h i
    by_cases hi : i < 40
    · have e1 := tabOf_get F B i (by omega)
      have e2 := tabOf_get F' B' i (by omega)
      have e3 := tabOf_get F B (40 + i) (by omega)
      have e4 := tabOf_get F' B' (40 + i) (by omega)
      rw [at_needle _ _ _ (by omega), if_pos hi] at e1 e2
      rw [at_needle _ _ _ (by omega), if_neg (by omega), show 40 + i - 40 = i by omega] at e3 e4
      exact ⟨by rw [← e1, ← e2, h], by rw [← e3, ← e4, h]⟩
    · rw [getD_nil (by omega), getD_nil (by omega), getD_nil (by omega), getD_nil (by omega)]
      exact ⟨rfl, rfl⟩
end Go.Proofs.Ytlpngkeegjickaa

namespace Go.Proofs.Ytlpngkeegjickaa
open Go.Ab
attribute [local irreducible] WeakR WeakE CallA YieldA

theorem rep_get (F : List (List Id)) (r i : Nat) : (F ++ List.replicate r []).getD i [] = F.getD i [] := by
  rw [List.getD_eq_getElem?_getD, List.getD_eq_getElem?_getD]
  by_cases h : i < F.length
  · rw [List.getElem?_append_left h]
  · rw [List.getElem?_append_right (by omega), List.getElem?_eq_none (by omega : F.length ≤ i), List.getElem?_replicate]
    split <;> rfl
theorem sameL_eq {F B F' B' : List (List Id)} {b : Bool} (h : (∀ i, F.getD i [] = F'.getD i [] ∧ B.getD i [] = B'.getD i []) ↔ b = true) : sameL F B F' B' = b := by
  rw [Bool.eq_iff_iff, sameL_iff]; exact h
theorem beds_eq {T T' : List (List Id)} (h : T.length = 80) (h' : T'.length = 80) : (∀ i, (bedsF T).getD i [] = (bedsF T').getD i [] ∧ (bedsB T).getD i [] = (bedsB T').getD i []) ↔ T = T' := by
  have k : ∀ T : List (List Id), (bedsF T).length ≤ 40 ∧ (bedsB T).length ≤ 40 := fun T => ⟨by rw [bedsF_len]; exact trF_le T, by rw [bedsB_len]; exact trB_le T⟩
  rw [← sameL_iff, same_tab (k T).1 (k T).2 (k T').1 (k T').2, tab_beds h, tab_beds h']
/-- However many empty needles stand behind the last ones. -/
theorem same_pad {T T' : List (List Id)} (h : T.length = 80) (h' : T'.length = 80) (r : Nat) :
    sameL (bedsF T ++ List.replicate r []) (bedsB T) (bedsF T') (bedsB T' ++ List.replicate r []) = decide (T = T') ∧
    sameL (bedsF T') (bedsB T' ++ List.replicate r []) (bedsF T ++ List.replicate r []) (bedsB T) = decide (T = T') ∧
    sameL (bedsF T ++ List.replicate r []) (bedsB T) (bedsF T ++ List.replicate r []) (bedsB T) = true := by
  refine ⟨sameL_eq ?_, sameL_eq ?_, sameL_eq ⟨fun _ => rfl, fun _ i => ⟨rfl, rfl⟩⟩⟩
  · simp only [rep_get, decide_eq_true_eq]
    exact beds_eq h h'
  · simp only [rep_get, decide_eq_true_eq]
    rw [beds_eq h' h]
    exact ⟨Eq.symm, Eq.symm⟩
/-- What the law finds of the first needles. -/
def eqTo (T T' : List (List Id)) (i : Nat) : Bool := decide (T.take i = T'.take i)
theorem eqTo_succ {T T' : List (List Id)} {i : Nat} (h : i < T.length) (h' : i < T'.length) : eqTo T T' (i + 1) = (eqTo T T' i && decide (T[i] = T'[i])) := by
  unfold eqTo
  rw [← Bool.decide_and]
  refine decide_eq_decide.2 ?_
  rw [List.take_add_one, List.take_add_one, List.getElem?_eq_getElem h, List.getElem?_eq_getElem h']
  constructor
  · intro e
    have := List.append_inj e (by simp; omega)
    exact ⟨this.1, by simpa using this.2⟩
  · rintro ⟨e1, e2⟩
    rw [e1, e2]
theorem eqTo_all {T T' : List (List Id)} (h : T.length = 80) (h' : T'.length = 80) : eqTo T T' 80 = decide (T = T') := by
  unfold eqTo
  rw [List.take_of_length_le (by omega), List.take_of_length_le (by omega)]

/-- A slice of stacks that grows: as it came, or an array of one's own. -/
def SL (O O' : Heap) (s : AV) (L : List AV) : Prop := IsT 1 s L ∨ ∃ id, O id = none ∧ s = .own id 1 0 L.length none ∧ O' id = some (.arr 29 1 L)
theorem SL.cells {O O' : Heap} {s : AV} {L : List AV} (h : SL O O' s L) : s.cells = [s] ∧ s.stor = true := by
  rcases h with h | ⟨id, _, rfl, _⟩
  · exact ⟨h.isL.cells, h.isL.stor⟩
  · exact ⟨rfl, rfl⟩
/-- Two of them have arrays of their own. -/
def Apart (s t : AV) : Prop := ∀ (i a b c d a' b' c' d' : Nat) (e e' : Option Nat), s = .own i a b c e → t = .own i a' b' c' e' → False
theorem isT_notOwn {sz : Nat} {s : AV} {L : List AV} (h : IsT sz s L) (i a b c : Nat) (e : Option Nat) : s ≠ .own i a b c e := by
  rcases h with ⟨rfl, _⟩ | rfl <;> simp
/-- One is appended. -/
theorem sl_app {O O' : Heap} {s y t : AV} {L M : List AV} (h : SL O O' s L) (hsub : O.sub O') (hlt : L.length < 1000) {K : AV → Heap → Prop}
    (ht : SL O O' t M) (hap : Apart s t)
    (hk : ∀ s' O2, SL O O2 s' (L ++ [y]) → O.sub O2 → SL O O2 t M → Apart s' t → (∀ q E s2 l, O' q = some (.arr E s2 l) → E ≠ 29 → O2 q = O' q) → K s' O2) :
    AppendSem true 29 1 24 s (.list 1 true [y]) O' K := by
  have hf : fits (L.length + [y].length) 24 := fits_of (by simp; omega) (by omega)
  have fresh : ∀ id', O' id' = none → O id' = none := fun id' h' => by
    cases ho : O id' with
    | none => rfl
    | some o => rw [hsub _ _ ho] at h'; cases h'
  have start : IsT 1 s L → ∀ id, O' id = none → K (.own id 1 0 (L.length + 1) none) (O'.upd id (.arr 29 1 (L ++ [y]))) := fun hT id hid => by
    refine hk _ _ (.inr ⟨id, fresh id hid, by rw [List.length_append]; rfl, Heap.upd_same _ _ _⟩) (sub_new hsub hid) ?_ ?_ (fun q E s2 l hq _ => Heap.upd_ne _ _ (fun e => by rw [e, hid] at hq; cases hq))
    · rcases ht with ht | ⟨id2, k1, k2, k3⟩
      · exact .inl ht
      · exact .inr ⟨id2, k1, k2, by rw [Heap.upd_ne _ _ (fun e => by rw [e, hid] at k3; cases k3)]; exact k3⟩
    · intro i a b c d a' b' c' d' e e' h1 h2
      cases h1
      rcases ht with ht | ⟨id2, k1, k2, k3⟩
      · exact isT_notOwn ht _ _ _ _ _ h2
      · rw [k2] at h2; cases h2; rw [hid] at k3; cases k3
  rcases h with h | ⟨id, k1, k2, k3⟩
  · rcases h with ⟨rfl, rfl⟩ | rfl
    · exact app_nil_own (el_list _ _ _ _) (by simpa using hf) (by simp) (fun id hid => start (.inl ⟨rfl, rfl⟩) id hid)
    · exact app_list_own (el_list _ _ _ _) hf (fun h => by cases h) (fun _ id hid => start (.inr rfl) id hid)
  · subst k2
    refine app_move (el_list _ _ _ _) k3 (Nat.le_refl _) hf fun id' hid' => ?_
    have hne : id' ≠ id := fun e => by rw [e, k3] at hid'; cases hid'
    rw [List.take_length]
    refine hk _ _ (.inr ⟨id', fresh id' hid', by rw [List.length_append], Heap.upd_same _ _ _⟩) (fun i o hi => ?_) ?_ ?_ (fun q E s2 l hq hE => ?_)
    · rw [Heap.upd_ne _ _ (fun e => by rw [e, fresh id' hid'] at hi; cases hi), Heap.del_ne _ (fun e => by rw [e, k1] at hi; cases hi)]
      exact hsub i o hi
    · rcases ht with ht | ⟨id2, j1, j2, j3⟩
      · exact .inl ht
      · have h1 : id2 ≠ id := fun e => hap id 1 0 L.length 0 1 0 M.length 0 none none rfl (by rw [← e]; exact j2)
        exact .inr ⟨id2, j1, j2, by rw [Heap.upd_ne _ _ (fun e => by rw [e, hid'] at j3; cases j3), Heap.del_ne _ h1]; exact j3⟩
    · intro i a b c d a' b' c' d' e e' h1 h2
      cases h1
      rcases ht with ht | ⟨id2, j1, j2, j3⟩
      · exact isT_notOwn ht _ _ _ _ _ h2
      · rw [j2] at h2; cases h2; rw [hid'] at j3; cases j3
    · rw [Heap.upd_ne _ _ (fun e => by rw [e, hid'] at hq; cases hq), Heap.del_ne _ (fun e => by rw [e, k3] at hq; cases hq; exact hE rfl)]
end Go.Proofs.Ytlpngkeegjickaa

namespace Go.Proofs.Ytlpngkeegjickaa
open Go.Ab
attribute [local irreducible] WeakR WeakE CallA YieldA

theorem tabA_set (T : List (List Id)) (i : Nat) (X : List Id) : tabA (T.set i X) = (tabA T).set i (frA 2 (X.map Id.av)) := by
  unfold tabA
  rw [List.map_set]
def envS (q5 q7 q8 : Nat) (b : Bool) (i : Nat) : Env := ((((Env.upd (fun _ => .junk) 11 (.val (.int .i64 i))).upd 10 (.val (.bool b))).upd 8 (.optr q8 80 0 0)).upd 7 (.optr q7 80 0 0)).upd 5 (.optr q5 2 0 0)
def envP (q5 : Nat) (b : Bool) (q12 q13 i : Nat) : Env := ((((Env.upd (fun _ => .junk) 14 (.val (.int .i64 i))).upd 13 (.optr q13 2 0 0)).upd 12 (.optr q12 2 0 0)).upd 10 (.val (.bool b))).upd 5 (.optr q5 2 0 0)

/-- The state of the appending of empty needles. -/
structure StP (O O' : Heap) (q5 q12 q13 : Nat) (m0 m1 : Nat) (pb qf sp sq : AV) (L M : List AV) : Prop where
  sub : O.sub O'
  o12 : O q12 = none
  o13 : O q13 = none
  f5 : O' q5 = some (.arr 52 2 [.agg [.val (.int .u8 m0), .val (.int .u8 m1)]])
  f12 : O' q12 = some (.arr 35 2 [.agg [sp, pb]])
  f13 : O' q13 = some (.arr 35 2 [.agg [qf, sq]])
  p : SL O O' sp L
  q : SL O O' sq M
  ap : Apart sp sq

theorem SL.frz {O O' : Heap} {q5 q12 q13 m0 m1 : Nat} {pb qf sp sq : AV} {L M : List AV} (h : StP O O' q5 q12 q13 m0 m1 pb qf sp sq L M) {F : Env → Heap → Prop} {e : Env} (hne : q12 ≠ q13)
    (hk : ∀ sp' sq' O2, IsL 1 sp' L → IsL 1 sq' M → sp'.cells = [sp'] → sq'.cells = [sq'] → O.sub O2 → O2 q12 = some (.arr 35 2 [.agg [sp', pb]]) → O2 q13 = some (.arr 35 2 [.agg [qf, sq']]) → F e O2) : WeakE F e O' := by
  have fzo : ∀ (id : Nat) (L : List AV), Fz id 1 L (.own id 1 0 L.length none) (.list 1 false L) := fun id L => by
    have := Fz.own (id := id) (sz := 1) (elems := L) 0 L.length none false (by omega) (fun h => by cases h)
    rwa [List.drop_zero, List.take_length] at this
  have two : ∀ {id : Nat} {L : List AV} {a b a' b' : AV}, Fz id 1 L a a' → Fz id 1 L b b' → ∀ (i : Nat) x y, [AV.agg [a, b]][i]? = some x → [AV.agg [a', b']][i]? = some y → Fz id 1 L x y := fun {id L a b a' b'} ha hb i x y hx hy => by
    cases i with
    | zero =>
      cases hx; cases hy
      refine .agg _ _ rfl fun i x y hx hy => ?_
      match i, hx, hy with
      | 0, hx, hy => cases hx; cases hy; exact ha
      | 1, hx, hy => cases hx; cases hy; exact hb
    | succ i => simp at hx
  -- the second one
  have second : ∀ sp' O1, IsL 1 sp' L → sp'.cells = [sp'] → O.sub O1 → O1 q12 = some (.arr 35 2 [.agg [sp', pb]]) → O1 q13 = some (.arr 35 2 [.agg [qf, sq]]) → SL O O1 sq M → WeakE F e O1 := fun sp' O1 h1 h2 h3 h4 h5 h6 => by
    rcases h6 with h6 | ⟨id, k1, rfl, k3⟩
    · exact WeakE.now (hk sp' sq O1 h1 h6.isL h2 h6.isL.cells h3 h4 h5)
    · have n1 : id ≠ q12 := fun e => by rw [e, h4] at k3; cases k3
      have n2 : id ≠ q13 := fun e => by rw [e, h5] at k3; cases k3
      refine WeakE.freezeIn (els' := [.agg [qf, .list 1 false M]]) k3 (fun t => .same _) h5 (Ne.symm n2) rfl (two (.same _) (fzo id M)) (WeakE.now (hk sp' _ _ h1 .list h2 rfl (fun i o hi => ?_) ?_ (Heap.upd_same _ _ _)))
      · rw [Heap.upd_ne _ _ (fun e => by rw [e, h.o13] at hi; cases hi), Heap.del_ne _ (fun e => by rw [e, k1] at hi; cases hi)]
        exact h3 i o hi
      · rw [Heap.upd_ne _ _ hne, Heap.del_ne _ (Ne.symm n1)]
        exact h4
  rcases h.p with hp | ⟨id, k1, rfl, k3⟩
  · exact second sp O' hp.isL hp.isL.cells h.sub h.f12 h.f13 h.q
  · have n1 : id ≠ q12 := fun e => by have := h.f12; rw [← e, k3] at this; cases this
    have n2 : id ≠ q13 := fun e => by have := h.f13; rw [← e, k3] at this; cases this
    refine WeakE.freezeIn (els' := [.agg [.list 1 false L, pb]]) k3 (fun t => .same _) h.f12 (Ne.symm n1) rfl (two (fzo id L) (.same _)) (second (.list 1 false L) _ .list rfl (fun i o hi => ?_) (Heap.upd_same _ _ _) ?_ ?_)
    · rw [Heap.upd_ne _ _ (fun e => by rw [e, h.o12] at hi; cases hi), Heap.del_ne _ (fun e => by rw [e, k1] at hi; cases hi)]
      exact h.sub i o hi
    · rw [Heap.upd_ne _ _ (Ne.symm hne), Heap.del_ne _ (Ne.symm n2)]
      exact h.f13
    · rcases h.q with hq | ⟨id2, j1, j2, j3⟩
      · exact .inl hq
      · have m1 : id2 ≠ id := fun e => h.ap id 1 0 L.length 0 1 0 M.length 0 none none rfl (by rw [← e]; exact j2)
        have m2 : id2 ≠ q12 := fun e => by have := h.f12; rw [← e, j3] at this; cases this
        exact .inr ⟨id2, j1, j2, by rw [Heap.upd_ne _ _ m2, Heap.del_ne _ m1]; exact j3⟩

theorem SL.put {O O2 : Heap} {s : AV} {L : List AV} (h : SL O O2 s L) {q : Nat} {E s2 : Nat} {l : List AV} {x : AObj} (hq : O2 q = some (.arr E s2 l)) (hE : E ≠ 29) : SL O (O2.upd q x) s L := by
  rcases h with h | ⟨id, k1, k2, k3⟩
  · exact .inl h
  · exact .inr ⟨id, k1, k2, by rw [Heap.upd_ne _ _ (fun e => by rw [e, hq] at k3; cases k3; exact hE rfl)]; exact k3⟩
theorem pad_is {s : AV} {F : List (List Id)} {r : Nat} {y : AV} (h : IsL 1 s (F.map stk ++ List.replicate r y)) (hy : IsL 2 y []) : IsB s (F.map stk ++ List.replicate r y) (F ++ List.replicate r []) := by
  refine ⟨h, by simp, fun i h1 h2 => ?_⟩
  by_cases hi : i < F.length
  · rw [List.getElem_append_left (by simpa using hi), List.getElem_append_left hi]
    simp only [List.getElem_map]
    exact .list
  · rw [List.getElem_append_right (by simp; omega), List.getElem_append_right (by omega), List.getElem_replicate, List.getElem_replicate]
    exact hy
theorem pad_sm {F : List (List Id)} (h : Sm F) {r : Nat} (hF : F.length ≤ 40) (hr : r ≤ 10) : Sm (F ++ List.replicate r []) := by
  refine ⟨by simp; omega, fun l hl => ?_⟩
  rcases List.mem_append.1 hl with hl | hl
  · exact h.2 l hl
  · rw [List.eq_of_mem_replicate hl]; simp

set_option maxHeartbeats 8000000 in
theorem StacksSame_ok (s t : AV) (P Q : List Put) (m0 m1 : Nat) (hs : IsL 2 s (P.map Put.av)) (hP : ∀ p ∈ P, p.ok) (ht : IsL 2 t (Q.map Put.av)) (hQ : ∀ p ∈ Q, p.ok) (g0 : m0 < 256) (g1 : m1 < 256) :
    PureA Try.prog 6 [s, t, .agg [.val (.int .u8 m0), .val (.int .u8 m1)]] (.val (.bool true)) := by
  intro O
  have hof1 := of_ok s P hs hP
  have hof2 := of_ok t Q ht hQ
  have hT1 := Of_tab_ok P
  have hT2 := Of_tab_ok Q
  have hn1 := (ofN_ok P).2
  generalize ofL P = T1 at hof1 hT1
  generalize ofL Q = TQ at hof2 hT2
  clear hs ht hP hQ hn1
  have i0 : ∀ q, indexPtrA 2 1 false 0 (.optr q 2 0 0) = some (.optr q 2 0 0) := fun _ => rfl
  have i1 : ∀ q, indexPtrA 2 1 false 1 (.optr q 2 0 0) = some (.optr q 2 0 1) := fun _ => rfl
  have r0 : Int.tmod (m0 : Int) 5 = ((m0 % 5 : Nat) : Int) := by rw [Int.tmod_eq_emod_of_nonneg (by omega)]; omega
  have r1 : Int.tmod (m1 : Int) 2 = ((m1 % 2 : Nat) : Int) := by rw [Int.tmod_eq_emod_of_nonneg (by omega)]; omega
  have r2 : Int.tmod (m1 : Int) 4 = ((m1 % 4 : Nat) : Int) := by rw [Int.tmod_eq_emod_of_nonneg (by omega)]; omega
  have r3 : IntKind.u8.wrap (Int.tdiv (m1 : Int) 4) = ((m1 / 4 : Nat) : Int) := by rw [Int.tdiv_eq_ediv_of_nonneg (by omega), wrap_u8 (by omega) (by omega)]; omega
  have r4 : IntKind.i64.wrap ((m1 / 4 : Nat) : Int) = ((m1 / 4 : Nat) : Int) := wrap_nat (by omega)
  have r5 : Int.tmod ((m1 / 4 : Nat) : Int) 80 = ((m1 / 4 % 80 : Nat) : Int) := by rw [Int.tmod_eq_emod_of_nonneg (by omega)]; omega
  have w0 : IntKind.i64.wrap ((m0 % 5 : Nat) : Int) = ((m0 % 5 : Nat) : Int) := wrap_nat (by omega)
  have l1 : (tabA T1).length = 80 := by simp [tabA, hT1.len]
  have l2 : (tabA TQ).length = 80 := by simp [tabA, hT2.len]
  have k1 : (tabA T1).take 80 = tabA T1 := List.take_of_length_le (by omega)
  have k2 : (tabA TQ).take 80 = tabA TQ := List.take_of_length_le (by omega)
  have hg1 := fun i (hi : i < T1.length) => tabA_get T1 i hi
  obtain ⟨ts, hts⟩ : ∃ x, tabA T1 = x := ⟨_, rfl⟩
  obtain ⟨tq, htq⟩ : ∃ x, tabA TQ = x := ⟨_, rfl⟩
  rw [hts] at hof1 l1 k1 hg1
  rw [htq] at hof2 l2 k2
  replace hts := (show Aside _ from hts)
  replace htq := (show Aside _ from htq)
  replace hg1 := (show Aside _ from hg1)
  replace hT1 := (show Aside _ from hT1)
  replace hT2 := (show Aside _ from hT2)
  refine k6.call mix ?_
  unfold c6
  refine seq_go ?_
  (repeat' first
    | simp (contextual := true) (maxSteps := 4000000) only [fwc, fwe, fww, reduceIte, ↓reduceIte, Nat.reduceAdd, Nat.reduceLeDiff, Nat.reduceEqDiff, Nat.reduceLT, Nat.reduceSub, reduceCtorEq, Int.reduceEq, Int.reduceLT, Int.reduceLE, Int.reduceNeg, Int.reduceToNat, Int.reduceAdd, Int.reduceSub, Nat.reduceMul, part_cell, part_agg, *]
    | (refine retK_now ?_)
    | (refine retK_now' ?_)
    | (intro q hq)
    | (refine cond_intro (fun hc => ?_) (fun hc => ?_)))
  revert q
  intro q5 hq5
  refine seqK_now ?_
  refine seq_go ?_
  (repeat' first
    | simp (contextual := true) (maxSteps := 4000000) only [fwc, fwe, fww, reduceIte, ↓reduceIte, Nat.reduceAdd, Nat.reduceLeDiff, Nat.reduceEqDiff, Nat.reduceLT, Nat.reduceSub, reduceCtorEq, Int.reduceEq, Int.reduceLT, Int.reduceLE, Int.reduceNeg, Int.reduceToNat, Int.reduceAdd, Int.reduceSub, Nat.reduceMul, part_cell, part_agg, *]
    | (refine retK_now ?_)
    | (refine retK_now' ?_)
    | (intro q hq)
    | (refine cond_intro (fun hc => ?_) (fun hc => ?_)))
  refine hof1.use ?_
  clear hof1
  (repeat' first
    | simp (contextual := true) (maxSteps := 4000000) only [fwc, fwe, fww, reduceIte, ↓reduceIte, Nat.reduceAdd, Nat.reduceLeDiff, Nat.reduceEqDiff, Nat.reduceLT, Nat.reduceSub, reduceCtorEq, Int.reduceEq, Int.reduceLT, Int.reduceLE, Int.reduceNeg, Int.reduceToNat, Int.reduceAdd, Int.reduceSub, Nat.reduceMul, part_cell, part_agg, *]
    | (refine retK_now ?_)
    | (refine retK_now' ?_)
    | (intro q hq)
    | (refine cond_intro (fun hc => ?_) (fun hc => ?_)))
  refine hof2.use ?_
  clear hof2
  (repeat' first
    | simp (contextual := true) (maxSteps := 4000000) only [fwc, fwe, fww, reduceIte, ↓reduceIte, Nat.reduceAdd, Nat.reduceLeDiff, Nat.reduceEqDiff, Nat.reduceLT, Nat.reduceSub, reduceCtorEq, Int.reduceEq, Int.reduceLT, Int.reduceLE, Int.reduceNeg, Int.reduceToNat, Int.reduceAdd, Int.reduceSub, Nat.reduceMul, part_cell, part_agg, *]
    | (refine retK_now ?_)
    | (refine retK_now' ?_)
    | (intro q hq)
    | (refine cond_intro (fun hc => ?_) (fun hc => ?_)))
  rename_i q7 hq7
  revert q
  intro q8 hq8
  refine seqK_now ?_
  refine cmd_gen (fun H => O.sub H ∧ H q5 = some (.arr 52 2 [.agg [.val (.int .u8 m0), .val (.int .u8 m1)]]) ∧ H q7 = some (.arr 31 80 [.agg ts]) ∧ H q8 = some (.arr 31 80 [.agg tq])) ⟨fun i o hi => ?_, by simp only [Heap.upd_apply, *, if_true, if_false], by simp only [Heap.upd_apply, *, if_true, if_false], by simp only [Heap.upd_apply, *, if_true, if_false]⟩ ?_
  · have e5 : i ≠ q5 := fun e => by rw [e, hq5] at hi; cases hi
    have e7 : i ≠ q7 := fun e => by rw [e, hq7.2.2] at hi; cases hi
    have e8 : i ≠ q8 := fun e => by rw [e, hq8.2.2.2.2] at hi; cases hi
    simp only [Heap.upd_apply, if_neg e5, if_neg e7, if_neg e8]
    exact hi
  have o8 := hq8.2.2.2.2
  have n85 : ¬ q5 = q8 := hq8.2.2.2.1
  have n87 : ¬ q7 = q8 := hq8.2.1
  clear hq5 hq7 hq8
  intro H hF
  obtain ⟨s0, f5, f7, f8⟩ := hF
  replace s0 := (show Aside _ from s0)
  refine seq_post (fun e1 O1 => (∃ T2 : List (List Id), T2.length = 80 ∧ (∀ l ∈ T2, l.length ≤ 1000) ∧ O.sub O1 ∧ O1 q5 = some (.arr 52 2 [.agg [.val (.int .u8 m0), .val (.int .u8 m1)]]) ∧ O1 q7 = some (.arr 31 80 [.agg ts]) ∧ O1 q8 = some (.arr 31 80 [.agg (tabA T2)])) ∧ e1 = ((Env.upd (fun _ => .junk) 8 (.optr q8 80 0 0)).upd 7 (.optr q7 80 0 0)).upd 5 (.optr q5 2 0 0)) ?_ ?_
  rotate_left
  · intro F hF
    replace hF := (show Aside _ from hF)
    have d1 : decide (((m1 % 2 : Nat) : Int) = 1) = decide (m1 % 2 = 1) := decide_eq_decide.2 (by omega)
    have d2 : decide (((m1 % 4 : Nat) : Int) = 3) = decide (m1 % 4 = 3) := decide_eq_decide.2 (by omega)
    by_cases h1 : m1 % 2 = 1
    rotate_left
    · have e1 : decide (m1 % 2 = 1) = false := decide_eq_false h1
      replace h1 := (show Aside _ from h1)
      (repeat' first
    | simp (contextual := true) (maxSteps := 4000000) only [fwc, fwe, fww, reduceIte, ↓reduceIte, Nat.reduceAdd, Nat.reduceLeDiff, Nat.reduceEqDiff, Nat.reduceLT, Nat.reduceSub, reduceCtorEq, Int.reduceEq, Int.reduceLT, Int.reduceLE, Int.reduceNeg, Int.reduceToNat, Int.reduceAdd, Int.reduceSub, Nat.reduceMul, ilt_nat, part_cell, part_agg, wrap_succ, and_false, *]
    | (refine seqK_now ?_)
    | (refine retK_now ?_)
    | (refine retK_now' ?_)
    | (intro q hq)
    | (refine cond_intro (fun hc => ?_) (fun hc => ?_)))
      exact hF.out _ _ ⟨⟨TQ, hT2.out.len, fun l hl => by have := hT2.out.le l hl; omega, s0.out, f5, f7, by rw [htq.out]; exact f8⟩, rfl⟩
    have e1 : decide (m1 % 2 = 1) = true := decide_eq_true h1
    replace h1 := (show Aside _ from h1)
    by_cases h3 : m1 % 4 = 3
    rotate_left
    · have e3 : decide (m1 % 4 = 3) = false := decide_eq_false h3
      replace h3 := (show Aside _ from h3)
      (repeat' first
    | simp (contextual := true) (maxSteps := 4000000) only [fwc, fwe, fww, reduceIte, ↓reduceIte, Nat.reduceAdd, Nat.reduceLeDiff, Nat.reduceEqDiff, Nat.reduceLT, Nat.reduceSub, reduceCtorEq, Int.reduceEq, Int.reduceLT, Int.reduceLE, Int.reduceNeg, Int.reduceToNat, Int.reduceAdd, Int.reduceSub, Nat.reduceMul, ilt_nat, part_cell, part_agg, wrap_succ, and_false, *]
    | (refine seqK_now ?_)
    | (refine retK_now ?_)
    | (refine retK_now' ?_)
    | (intro q hq)
    | (refine cond_intro (fun hc => ?_) (fun hc => ?_)))
      refine hF.out _ _ ⟨⟨T1, hT1.out.len, fun l hl => by have := hT1.out.le l hl; omega, fun i o hi => ?_, ?_, ?_, ?_⟩, rfl⟩
      · rw [Heap.upd_ne _ _ (fun e => by rw [e, o8] at hi; cases hi)]; exact s0.out i o hi
      · rw [Heap.upd_ne _ _ n85]; exact f5
      · rw [Heap.upd_ne _ _ n87]; exact f7
      · rw [hts.out]; exact Heap.upd_same _ _ _
    have e3 : decide (m1 % 4 = 3) = true := decide_eq_true h3
    replace h3 := (show Aside _ from h3)
    have hi80 : m1 / 4 % 80 < 80 := Nat.mod_lt _ (by omega)
    generalize m1 / 4 % 80 = i at *
    have ti : i < T1.length := by rw [hT1.out.len]; exact hi80
    have gi := hg1.out i ti
    have el := fun O => (frA_L 2 (T1[i].map Id.av)).el O
    have x1 := (frA_L 2 (T1[i].map Id.av)).cells
    have hl4 : T1[i].length ≤ 4 := hT1.out.le _ (List.getElem_mem ti)
    have ix : ∀ q, indexPtrA 80 1 false (i : Int) (.optr q 80 0 0) = some (.optr q 80 0 i) := fun q => by rw [ixp_optr, if_pos (by omega)]; simp
    have b1 : i + 1 ≤ 80 := hi80
    have b2 : i + 1 ≤ ts.length := by omega
    obtain ⟨xJ, hxJ⟩ : ∃ x : AV, x = .list 2 false (T1[i].map Id.av ++ [.agg [.val (.int .u8 6), .val (.int .i64 9)]]) := ⟨_, rfl⟩
    have hxc : xJ.cells = [xJ] := by rw [hxJ]; rfl
    have hxs : xJ.stor = true := by rw [hxJ]; rfl
    have hsp : ts.take i ++ [xJ] ++ ts.drop (i + 1) = ts.set i xJ := by rw [List.set_eq_take_append_cons_drop, if_pos (by omega)]; simp
    have hT2' : tabA (T1.set i (T1[i] ++ [⟨6, 9⟩])) = ts.set i xJ := by
      rw [tabA_set, hts.out, hxJ, frA, if_neg (by simp), List.map_append]
      rfl
    have hle2 : ∀ l ∈ T1.set i (T1[i] ++ [⟨6, 9⟩]), l.length ≤ 1000 := fun l hl => by
      rcases List.mem_or_eq_of_mem_set hl with hl | rfl
      · have := hT1.out.le l hl; omega
      · rw [List.length_append]; simp; omega
    have hlen2 : (T1.set i (T1[i] ++ [⟨6, 9⟩])).length = 80 := by rw [List.length_set]; exact hT1.out.len
    generalize T1.set i (T1[i] ++ [⟨6, 9⟩]) = T2 at *
    generalize hX : T1[i] = X at *
    clear hX
    generalize frA 2 (X.map Id.av) = ex at *
    replace hxJ := (show Aside _ from hxJ)
    replace hle2 := (show Aside _ from hle2)
    replace hlen2 := (show Aside _ from hlen2)
    replace hT2' := (show Aside _ from hT2')
    have fl : ∀ n : Nat, n ≤ 100 → fits n 16 := fun n hn => fits_of (by omega) (by omega)
    replace fl := (show Aside _ from fl)
    replace hl4 := (show Aside _ from hl4)
    (repeat' first
    | simp (contextual := true) (maxSteps := 4000000) only [fwc, fwe, fww, reduceIte, ↓reduceIte, Nat.reduceAdd, Nat.reduceLeDiff, Nat.reduceEqDiff, Nat.reduceLT, Nat.reduceSub, reduceCtorEq, Int.reduceEq, Int.reduceLT, Int.reduceLE, Int.reduceNeg, Int.reduceToNat, Int.reduceAdd, Int.reduceSub, Nat.reduceMul, ilt_nat, part_cell, part_agg, wrap_succ, and_false, *]
    | (refine seqK_now ?_)
    | (refine retK_now ?_)
    | (refine retK_now' ?_)
    | (intro q hq)
    | (refine cond_intro (fun hc => ?_) (fun hc => ?_)))
    have fin : ∀ O1, O1 = H.upd q8 (.arr 31 80 [.agg (ts.set i xJ)]) → ∀ e1, e1 = ((Env.upd (fun _ => .junk) 8 (.optr q8 80 0 0)).upd 7 (.optr q7 80 0 0)).upd 5 (.optr q5 2 0 0) → F e1 O1 := fun O1 hO1 e1 he1 => by
      refine hF.out _ _ ⟨⟨T2, hlen2.out, hle2.out, ?_⟩, he1⟩
      subst hO1
      refine ⟨fun i o hi => ?_, ?_, ?_, ?_⟩
      · rw [Heap.upd_ne _ _ (fun e => by rw [e, o8] at hi; cases hi)]; exact s0.out i o hi
      · rw [Heap.upd_ne _ _ n85]; exact f5
      · rw [Heap.upd_ne _ _ n87]; exact f7
      · rw [hT2'.out]; exact Heap.upd_same _ _ _
    replace fin := (show Aside _ from fin)
    refine app_list_own (el _) (fl.out _ (by have := hl4.out; simp; omega)) (fun hn => ?_) (fun hn id hid => ?_)
    · have hxJ2 : AV.list 2 false ([] ++ [AV.agg [.val (.int .u8 6), .val (.int .i64 9)]]) = xJ := by rw [hxJ.out, hn]
      replace hn := (show Aside _ from hn)
      replace hxJ2 := (show Aside _ from hxJ2)
      (repeat' first
    | simp (contextual := true) (maxSteps := 4000000) only [fwc, fwe, fww, reduceIte, ↓reduceIte, Nat.reduceAdd, Nat.reduceLeDiff, Nat.reduceEqDiff, Nat.reduceLT, Nat.reduceSub, reduceCtorEq, Int.reduceEq, Int.reduceLT, Int.reduceLE, Int.reduceNeg, Int.reduceToNat, Int.reduceAdd, Int.reduceSub, Nat.reduceMul, ilt_nat, part_cell, part_agg, wrap_succ, and_false, *]
    | (refine seqK_now ?_)
    | (refine retK_now ?_)
    | (refine retK_now' ?_)
    | (intro q hq)
    | (refine cond_intro (fun hc => ?_) (fun hc => ?_)))
      refine app_list (el_list _ _ _ _) (fl.out _ (by simp)) ?_
      rw [hxJ2.out]
      (repeat' first
    | simp (contextual := true) (maxSteps := 4000000) only [fwc, fwe, fww, reduceIte, ↓reduceIte, Nat.reduceAdd, Nat.reduceLeDiff, Nat.reduceEqDiff, Nat.reduceLT, Nat.reduceSub, reduceCtorEq, Int.reduceEq, Int.reduceLT, Int.reduceLE, Int.reduceNeg, Int.reduceToNat, Int.reduceAdd, Int.reduceSub, Nat.reduceMul, ilt_nat, part_cell, part_agg, wrap_succ, and_false, *]
    | (refine seqK_now ?_)
    | (refine retK_now ?_)
    | (refine retK_now' ?_)
    | (intro q hq)
    | (refine cond_intro (fun hc => ?_) (fun hc => ?_)))
      exact fin.out _ rfl _ rfl
    · replace hn := (show Aside _ from hn)
      (repeat' first
    | simp (contextual := true) (maxSteps := 4000000) only [fwc, fwe, fww, reduceIte, ↓reduceIte, Nat.reduceAdd, Nat.reduceLeDiff, Nat.reduceEqDiff, Nat.reduceLT, Nat.reduceSub, reduceCtorEq, Int.reduceEq, Int.reduceLT, Int.reduceLE, Int.reduceNeg, Int.reduceToNat, Int.reduceAdd, Int.reduceSub, Nat.reduceMul, ilt_nat, part_cell, part_agg, wrap_succ, and_false, *]
    | (refine seqK_now ?_)
    | (refine retK_now ?_)
    | (refine retK_now' ?_)
    | (intro q hq)
    | (refine cond_intro (fun hc => ?_) (fun hc => ?_)))
      refine app_fz (el_list _ _ _ _) (Heap.upd_same _ _ _) (by simp) (fl.out _ (by have := hl4.out; simp; omega)) ?_
      rw [del_upd_new hid, List.take_of_length_le (Nat.le_refl _), ← hxJ.out]
      (repeat' first
    | simp (contextual := true) (maxSteps := 4000000) only [fwc, fwe, fww, reduceIte, ↓reduceIte, Nat.reduceAdd, Nat.reduceLeDiff, Nat.reduceEqDiff, Nat.reduceLT, Nat.reduceSub, reduceCtorEq, Int.reduceEq, Int.reduceLT, Int.reduceLE, Int.reduceNeg, Int.reduceToNat, Int.reduceAdd, Int.reduceSub, Nat.reduceMul, ilt_nat, part_cell, part_agg, wrap_succ, and_false, *]
    | (refine seqK_now ?_)
    | (refine retK_now ?_)
    | (refine retK_now' ?_)
    | (intro q hq)
    | (refine cond_intro (fun hc => ?_) (fun hc => ?_)))
      exact fin.out _ rfl _ rfl
  intro e1 O1 hQ
  obtain ⟨⟨T2, hlen2, hle2, s0', f5', f7', f8'⟩, rfl⟩ := hQ
  clear s0 f5 f7 f8 H
  refine cmd_gen (fun H => O.sub H ∧ H q5 = some (.arr 52 2 [.agg [.val (.int .u8 m0), .val (.int .u8 m1)]]) ∧ H q7 = some (.arr 31 80 [.agg ts]) ∧ H q8 = some (.arr 31 80 [.agg (tabA T2)])) ⟨s0', f5', f7', f8'⟩ ?_
  clear s0' f5' f7' f8' O1
  intro H hF
  obtain ⟨s0, f5, f7, f8⟩ := hF
  replace s0 := (show Aside _ from s0)
  have l3 : (tabA T2).length = 80 := by simp [tabA, hlen2]
  have k3 : (tabA T2).take 80 = tabA T2 := List.take_of_length_le (by omega)
  have hg2 := fun i (hi : i < T2.length) => tabA_get T2 i hi
  have hb1 := beds_ok T1 hT1.out.len (fun l hl => by have := hT1.out.le l hl; omega)
  have hb2 := beds_ok T2 hlen2 hle2
  rw [hts.out] at hb1
  obtain ⟨ty, hty⟩ : ∃ x, tabA T2 = x := ⟨_, rfl⟩
  rw [hty] at f8 l3 k3 hg2 hb2
  replace hg2 := (show Aside _ from hg2)
  replace hlen2 := (show Aside _ from hlen2)
  replace hle2 := (show Aside _ from hle2)
  clear hty htq hT2 k2 l2 tq r1 r2 r3 r4 r5
  refine seq_go ?_
  (repeat' first
    | simp (contextual := true) (maxSteps := 4000000) only [fwc, fwe, fww, reduceIte, ↓reduceIte, Nat.reduceAdd, Nat.reduceLeDiff, Nat.reduceEqDiff, Nat.reduceLT, Nat.reduceSub, reduceCtorEq, Int.reduceEq, Int.reduceLT, Int.reduceLE, Int.reduceNeg, Int.reduceToNat, Int.reduceAdd, Int.reduceSub, Nat.reduceMul, part_cell, part_agg, and_false, *]
    | (refine retK_now ?_)
    | (refine retK_now' ?_)
    | (intro q hq)
    | (refine cond_intro (fun hc => ?_) (fun hc => ?_)))
  refine seqK_now ?_
  refine seq_post (fun e1 O1 => O1 = H ∧ e1 = (((Env.upd (fun _ => .junk) 10 (.val (.bool (decide (T1 = T2))))).upd 8 (.optr q8 80 0 0)).upd 7 (.optr q7 80 0 0)).upd 5 (.optr q5 2 0 0)) ?_ ?_
  rotate_left
  · intro F hF
    replace hF := (show Aside _ from hF)
    obtain ⟨I, hI⟩ := hideI (fun m e O' => ∃ i : Nat, i ≤ 80 ∧ m = 80 - i ∧ O' = H ∧ e = envS q5 q7 q8 (eqTo T1 T2 i) i)
    refine seq_go ?_
    (repeat' first
    | simp (contextual := true) (maxSteps := 4000000) only [fwc, fwe, fww, reduceIte, ↓reduceIte, Nat.reduceAdd, Nat.reduceLeDiff, Nat.reduceEqDiff, Nat.reduceLT, Nat.reduceSub, reduceCtorEq, Int.reduceEq, Int.reduceLT, Int.reduceLE, Int.reduceNeg, Int.reduceToNat, Int.reduceAdd, Int.reduceSub, Nat.reduceMul, part_cell, part_agg, and_false, *]
    | (refine retK_now ?_)
    | (refine retK_now' ?_)
    | (intro q hq)
    | (refine cond_intro (fun hc => ?_) (fun hc => ?_)))
    refine seqK_now ?_
    (repeat' first
    | simp (contextual := true) (maxSteps := 4000000) only [fwc, fwe, fww, reduceIte, ↓reduceIte, Nat.reduceAdd, Nat.reduceLeDiff, Nat.reduceEqDiff, Nat.reduceLT, Nat.reduceSub, reduceCtorEq, Int.reduceEq, Int.reduceLT, Int.reduceLE, Int.reduceNeg, Int.reduceToNat, Int.reduceAdd, Int.reduceSub, Nat.reduceMul, part_cell, part_agg, and_false, *]
    | (refine retK_now ?_)
    | (refine retK_now' ?_)
    | (intro q hq)
    | (refine cond_intro (fun hc => ?_) (fun hc => ?_)))
    refine cmd_loop I 80 (by
      rw [hI.out]
      exact ⟨0, by omega, rfl, rfl, rfl⟩) ?_
    intro m e O' hh
    rw [hI.out] at hh
    obtain ⟨i, hi80, rfl, rfl, rfl⟩ := hh
    unfold envS
    have d1 : decide ((i : Int) < 80) = decide (i < 80) := decide_eq_decide.2 (by omega)
    by_cases hi : i < 80
    · have e1 : decide (i < 80) = true := decide_eq_true hi
      have t1 : i < T1.length := by rw [hT1.out.len]; exact hi
      have t2 : i < T2.length := by rw [hlen2.out]; exact hi
      have y1 := hg1.out i t1
      have y2 := hg2.out i t2
      have z1 := (frA_L 2 (T1[i].map Id.av)).len
      rw [List.length_map] at z1
      have z2 := fun O => (frA_L 2 (T1[i].map Id.av)).el O
      have hl4 : T1[i].length ≤ 4 := hT1.out.le _ (List.getElem_mem t1)
      have hsm := same_ok (.list 2 true (T1[i].map Id.av)) (frA 2 (T2[i].map Id.av)) T1[i] T2[i] .list (frA_L _ _) (by omega)
      have hes := eqTo_succ t1 t2
      generalize eqTo T1 T2 i = b at *
      generalize T1[i] = X at *
      generalize T2[i] = Y at *
      generalize frA 2 (X.map Id.av) = ex at *
      generalize frA 2 (Y.map Id.av) = ey at *
      have ix : ∀ q, indexPtrA 80 1 false (i : Int) (.optr q 80 0 0) = some (.optr q 80 0 i) := fun q => by rw [ixp_optr, if_pos (by omega)]; simp
      have b1 : i + 1 ≤ 80 := hi
      have b2 : i + 1 ≤ ts.length := by omega
      have b3 : i + 1 ≤ ty.length := by omega
      have hwi : i < 4611686018427387904 := by omega
      have hXl : X.length ≤ 4611686018427387904 := by omega
      have hfit : fits (([] : List AV).length + (X.map Id.av).length) 16 := fits_of (by simp; omega) (by omega)
      have hmk : X.length ≤ maxLen ∧ 16 * X.length ≤ 281474976710656 := by unfold maxLen; omega
      replace hes := (show Aside _ from hes)
      replace hl4 := (show Aside _ from hl4)
      replace hfit := (show Aside _ from hfit)
      replace hmk := (show Aside _ from hmk)
      (repeat' first
    | simp (contextual := true) (maxSteps := 4000000) only [fwc, fwe, fww, reduceIte, ↓reduceIte, Nat.reduceAdd, Nat.reduceLeDiff, Nat.reduceEqDiff, Nat.reduceLT, Nat.reduceSub, reduceCtorEq, Int.reduceEq, Int.reduceLT, Int.reduceLE, Int.reduceNeg, Int.reduceToNat, Int.reduceAdd, Int.reduceSub, Nat.reduceMul, ilt_nat, part_cell, part_agg, wrap_succ, and_false, *]
    | (refine seqK_now ?_)
    | (refine retK_now ?_)
    | (refine retK_now' ?_)
    | (intro q hq)
    | (refine cond_intro (fun hc => ?_) (fun hc => ?_)))
      refine drawW_make 0 X.length rfl rfl (Nat.zero_le _) hmk.out.1 hmk.out.2 ?_
      (repeat' first
    | simp (contextual := true) (maxSteps := 4000000) only [fwc, fwe, fww, reduceIte, ↓reduceIte, Nat.reduceAdd, Nat.reduceLeDiff, Nat.reduceEqDiff, Nat.reduceLT, Nat.reduceSub, reduceCtorEq, Int.reduceEq, Int.reduceLT, Int.reduceLE, Int.reduceNeg, Int.reduceToNat, Int.reduceAdd, Int.reduceSub, Nat.reduceMul, ilt_nat, part_cell, part_agg, wrap_succ, and_false, *]
    | (refine seqK_now ?_)
    | (refine retK_now ?_)
    | (refine retK_now' ?_)
    | (intro q hq)
    | (refine cond_intro (fun hc => ?_) (fun hc => ?_)))
      refine drawW_append (.list 2 true (X.map Id.av)) ⟨X.map Id.av, z2 _, rfl, rfl, hfit.out, by simp⟩ ?_
      (repeat' first
    | simp (contextual := true) (maxSteps := 4000000) only [fwc, fwe, fww, reduceIte, ↓reduceIte, Nat.reduceAdd, Nat.reduceLeDiff, Nat.reduceEqDiff, Nat.reduceLT, Nat.reduceSub, reduceCtorEq, Int.reduceEq, Int.reduceLT, Int.reduceLE, Int.reduceNeg, Int.reduceToNat, Int.reduceAdd, Int.reduceSub, Nat.reduceMul, ilt_nat, part_cell, part_agg, wrap_succ, and_false, *]
    | (refine seqK_now ?_)
    | (refine retK_now ?_)
    | (refine retK_now' ?_)
    | (intro q hq)
    | (refine cond_intro (fun hc => ?_) (fun hc => ?_)))
      refine callF_use hsm ?_
      by_cases heq : X = Y
      · rw [if_pos heq]
        have de : decide (X = Y) = true := decide_eq_true heq
        have d10 : decide ((1 : Int) = 0) = false := by decide
        replace heq := (show Aside _ from heq)
        (repeat' first
    | simp (contextual := true) (maxSteps := 4000000) only [fwc, fwe, fww, reduceIte, ↓reduceIte, Nat.reduceAdd, Nat.reduceLeDiff, Nat.reduceEqDiff, Nat.reduceLT, Nat.reduceSub, reduceCtorEq, Int.reduceEq, Int.reduceLT, Int.reduceLE, Int.reduceNeg, Int.reduceToNat, Int.reduceAdd, Int.reduceSub, Nat.reduceMul, ilt_nat, part_cell, part_agg, wrap_succ, and_false, *]
    | (refine seqK_now ?_)
    | (refine retK_now ?_)
    | (refine retK_now' ?_)
    | (intro q hq)
    | (refine cond_intro (fun hc => ?_) (fun hc => ?_)))
        refine loopK_now (80 - (i + 1)) (by omega) ?_
        rw [hI.out]
        refine ⟨i + 1, by omega, rfl, rfl, ?_⟩
        rw [hes.out, de, Bool.and_true]
        rfl
      · rw [if_neg heq]
        have de : decide (X = Y) = false := decide_eq_false heq
        have d00 : decide ((0 : Int) = 0) = true := by decide
        replace heq := (show Aside _ from heq)
        (repeat' first
    | simp (contextual := true) (maxSteps := 4000000) only [fwc, fwe, fww, reduceIte, ↓reduceIte, Nat.reduceAdd, Nat.reduceLeDiff, Nat.reduceEqDiff, Nat.reduceLT, Nat.reduceSub, reduceCtorEq, Int.reduceEq, Int.reduceLT, Int.reduceLE, Int.reduceNeg, Int.reduceToNat, Int.reduceAdd, Int.reduceSub, Nat.reduceMul, ilt_nat, part_cell, part_agg, wrap_succ, and_false, *]
    | (refine seqK_now ?_)
    | (refine retK_now ?_)
    | (refine retK_now' ?_)
    | (intro q hq)
    | (refine cond_intro (fun hc => ?_) (fun hc => ?_)))
        refine loopK_now (80 - (i + 1)) (by omega) ?_
        rw [hI.out]
        refine ⟨i + 1, by omega, rfl, rfl, ?_⟩
        rw [hes.out, de, Bool.and_false]
        rfl
    · have e1 : decide (i < 80) = false := decide_eq_false hi
      have hi8 : eqTo T1 T2 i = decide (T1 = T2) := by
        have : i = 80 := by omega
        rw [this]
        exact eqTo_all hT1.out.len hlen2.out
      rw [hi8]
      replace hi := (show Aside _ from hi)
      clear hi8
      (repeat' first
    | simp (contextual := true) (maxSteps := 4000000) only [fwc, fwe, fww, reduceIte, ↓reduceIte, Nat.reduceAdd, Nat.reduceLeDiff, Nat.reduceEqDiff, Nat.reduceLT, Nat.reduceSub, reduceCtorEq, Int.reduceEq, Int.reduceLT, Int.reduceLE, Int.reduceNeg, Int.reduceToNat, Int.reduceAdd, Int.reduceSub, Nat.reduceMul, ilt_nat, part_cell, part_agg, wrap_succ, and_false, *]
    | (refine seqK_now ?_)
    | (refine retK_now ?_)
    | (refine retK_now' ?_)
    | (intro q hq)
    | (refine cond_intro (fun hc => ?_) (fun hc => ?_)))
      exact hF.out _ _ ⟨rfl, rfl⟩
  intro e1 O1 hQ
  obtain ⟨hO1, rfl⟩ := hQ
  rw [hO1]
  clear hO1 O1
  have cb1 := (bedA_is (bedsF T1)).2.isL.cells
  have cb2 := (bedA_is (bedsB T1)).2.isL.cells
  have cb3 := (bedA_is (bedsF T2)).2.isL.cells
  have cb4 := (bedA_is (bedsB T2)).2.isL.cells
  have sb1 := (bedA_is (bedsF T1)).2.isL.stor
  have sb2 := (bedA_is (bedsB T1)).2.isL.stor
  have sb3 := (bedA_is (bedsF T2)).2.isL.stor
  have sb4 := (bedA_is (bedsB T2)).2.isL.stor
  obtain ⟨vf, hvf⟩ : ∃ x, bedA (bedsF T1) = x := ⟨_, rfl⟩
  obtain ⟨vb, hvb⟩ : ∃ x, bedA (bedsB T1) = x := ⟨_, rfl⟩
  obtain ⟨wf, hwf⟩ : ∃ x, bedA (bedsF T2) = x := ⟨_, rfl⟩
  obtain ⟨wb, hwb⟩ : ∃ x, bedA (bedsB T2) = x := ⟨_, rfl⟩
  rw [hvf, hvb] at hb1
  rw [hwf, hwb] at hb2
  rw [hvf] at cb1 sb1
  rw [hvb] at cb2 sb2
  rw [hwf] at cb3 sb3
  rw [hwb] at cb4 sb4
  replace hvf := (show Aside _ from hvf)
  replace hvb := (show Aside _ from hvb)
  replace hwf := (show Aside _ from hwf)
  replace hwb := (show Aside _ from hwb)
  obtain ⟨bq, hbq⟩ : ∃ b, decide (T1 = T2) = b := ⟨_, rfl⟩
  rw [hbq]
  replace hbq := (show Aside _ from hbq)
  refine seq_go ?_
  (repeat' first
    | simp (contextual := true) (maxSteps := 4000000) only [fwc, fwe, fww, reduceIte, ↓reduceIte, Nat.reduceAdd, Nat.reduceLeDiff, Nat.reduceEqDiff, Nat.reduceLT, Nat.reduceSub, reduceCtorEq, Int.reduceEq, Int.reduceLT, Int.reduceLE, Int.reduceNeg, Int.reduceToNat, Int.reduceAdd, Int.reduceSub, Nat.reduceMul, part_cell, part_agg, and_false, *]
    | (refine retK_now ?_)
    | (refine retK_now' ?_)
    | (intro q hq)
    | (refine cond_intro (fun hc => ?_) (fun hc => ?_)))
  refine callF_use hb1 ?_
  (repeat' first
    | simp (contextual := true) (maxSteps := 4000000) only [fwc, fwe, fww, reduceIte, ↓reduceIte, Nat.reduceAdd, Nat.reduceLeDiff, Nat.reduceEqDiff, Nat.reduceLT, Nat.reduceSub, reduceCtorEq, Int.reduceEq, Int.reduceLT, Int.reduceLE, Int.reduceNeg, Int.reduceToNat, Int.reduceAdd, Int.reduceSub, Nat.reduceMul, part_cell, part_agg, and_false, *]
    | (refine retK_now ?_)
    | (refine retK_now' ?_)
    | (intro q hq)
    | (refine cond_intro (fun hc => ?_) (fun hc => ?_)))
  refine callF_use hb2 ?_
  (repeat' first
    | simp (contextual := true) (maxSteps := 4000000) only [fwc, fwe, fww, reduceIte, ↓reduceIte, Nat.reduceAdd, Nat.reduceLeDiff, Nat.reduceEqDiff, Nat.reduceLT, Nat.reduceSub, reduceCtorEq, Int.reduceEq, Int.reduceLT, Int.reduceLE, Int.reduceNeg, Int.reduceToNat, Int.reduceAdd, Int.reduceSub, Nat.reduceMul, part_cell, part_agg, and_false, *]
    | (refine retK_now ?_)
    | (refine retK_now' ?_)
    | (intro q hq)
    | (refine cond_intro (fun hc => ?_) (fun hc => ?_)))
  rename_i q12 hq12
  revert q
  intro q13 hq13
  have z1 := ne_of f8 hq12
  have z2 := ne_of f8 hq13.2.2
  have z3 := ne_of f5 hq12
  have z4 := ne_of f5 hq13.2.2
  have o12 := none_of_sub s0.out hq12
  have o13 := none_of_sub s0.out hq13.2.2
  obtain ⟨n1, n2, hH13⟩ := hq13
  simp (contextual := true) (maxSteps := 4000000) only [fwc, fwe, fww, reduceIte, ↓reduceIte, Nat.reduceAdd, Nat.reduceLeDiff, Nat.reduceEqDiff, Nat.reduceLT, Nat.reduceSub, reduceCtorEq, Int.reduceEq, Int.reduceLT, Int.reduceLE, Int.reduceNeg, Int.reduceToNat, Int.reduceAdd, Int.reduceSub, Nat.reduceMul, part_cell, part_agg, and_false, *]
  refine seqK_now ?_
  refine cmd_gen (fun H2 => StP O H2 q5 q12 q13 m0 m1 vb wf vf wb ((bedsF T1).map stk ++ List.replicate 0 nilS) ((bedsB T2).map stk ++ List.replicate 0 (.list 2 true []))) ⟨fun i o hi => ?_, o12, o13, ?_, ?_, ?_, .inl ?_, .inl ?_, ?_⟩ ?_
  · have e12 : i ≠ q12 := fun e => by rw [e, o12] at hi; cases hi
    have e13 : i ≠ q13 := fun e => by rw [e, o13] at hi; cases hi
    simp only [Heap.upd_apply, if_neg e12, if_neg e13]
    exact s0.out i o hi
  · simp only [Heap.upd_apply, z3, z4, if_false]; exact f5
  · simp only [Heap.upd_apply, n1, n2, if_true, if_false]
  · simp only [Heap.upd_apply, n1, n2, if_true, if_false]
  · rw [← hvf.out, List.replicate_zero, List.append_nil]; exact (bedA_is _).2
  · rw [← hwb.out, List.replicate_zero, List.append_nil]; exact (bedA_is _).2
  · intro i a b c d a' b' c' d' e e' h1 h2
    refine isT_notOwn (sz := 1) (L := (bedsF T1).map stk) ?_ _ _ _ _ _ h1
    rw [← hvf.out]
    exact (bedA_is _).2
  have hq12n : q12 ≠ q13 := fun e => n2 e
  clear f5 f7 f8 s0 hq12 hH13 z1 z2 z3 z4 hb1 hb2 H
  intro H hst
  have hrl : m0 % 5 < 5 := Nat.mod_lt _ (by omega)
  refine seq_post (fun e1 O1 => (∃ sp' sq', IsL 1 sp' ((bedsF T1).map stk ++ List.replicate (m0 % 5) nilS) ∧ IsL 1 sq' ((bedsB T2).map stk ++ List.replicate (m0 % 5) (.list 2 true [])) ∧ sp'.cells = [sp'] ∧ sq'.cells = [sq'] ∧ O.sub O1 ∧ O1 q12 = some (.arr 35 2 [.agg [sp', vb]]) ∧ O1 q13 = some (.arr 35 2 [.agg [wf, sq']])) ∧ e1 = ((Env.upd (fun _ => .junk) 13 (.optr q13 2 0 0)).upd 12 (.optr q12 2 0 0)).upd 10 (.val (.bool bq))) ?_ ?_
  rotate_left
  · intro F hF
    replace hF := (show Aside _ from hF)
    obtain ⟨I, hI⟩ := hideI (fun m e O' => ∃ (i : Nat) (sp sq : AV), i ≤ m0 % 5 ∧ m = m0 % 5 - i ∧ StP O O' q5 q12 q13 m0 m1 vb wf sp sq ((bedsF T1).map stk ++ List.replicate i nilS) ((bedsB T2).map stk ++ List.replicate i (.list 2 true [])) ∧ e = envP q5 bq q12 q13 i)
    refine seq_go ?_
    (repeat' first
    | simp (contextual := true) (maxSteps := 4000000) only [fwc, fwe, fww, reduceIte, ↓reduceIte, Nat.reduceAdd, Nat.reduceLeDiff, Nat.reduceEqDiff, Nat.reduceLT, Nat.reduceSub, reduceCtorEq, Int.reduceEq, Int.reduceLT, Int.reduceLE, Int.reduceNeg, Int.reduceToNat, Int.reduceAdd, Int.reduceSub, Nat.reduceMul, ilt_nat, part_cell, part_agg, and_false, *]
    | (refine retK_now ?_)
    | (refine retK_now' ?_)
    | (intro q hq)
    | (refine cond_intro (fun hc => ?_) (fun hc => ?_)))
    refine seqK_now ?_
    (repeat' first
    | simp (contextual := true) (maxSteps := 4000000) only [fwc, fwe, fww, reduceIte, ↓reduceIte, Nat.reduceAdd, Nat.reduceLeDiff, Nat.reduceEqDiff, Nat.reduceLT, Nat.reduceSub, reduceCtorEq, Int.reduceEq, Int.reduceLT, Int.reduceLE, Int.reduceNeg, Int.reduceToNat, Int.reduceAdd, Int.reduceSub, Nat.reduceMul, ilt_nat, part_cell, part_agg, and_false, *]
    | (refine retK_now ?_)
    | (refine retK_now' ?_)
    | (intro q hq)
    | (refine cond_intro (fun hc => ?_) (fun hc => ?_)))
    refine cmd_loop I (m0 % 5) (by
      rw [hI.out]
      exact ⟨0, vf, wb, by omega, rfl, hst, rfl⟩) ?_
    clear hst H
    intro m e O' hh
    rw [hI.out] at hh
    obtain ⟨i, sp, sq, hi5, rfl, hst, rfl⟩ := hh
    unfold envP
    have g5 := hst.f5
    have g12 := hst.f12
    have g13 := hst.f13
    have p1 := hst.p.cells.1
    have p2 := hst.p.cells.2
    have p3 := hst.q.cells.1
    have p4 := hst.q.cells.2
    by_cases hi : i < m0 % 5
    · have e1 : decide (i < m0 % 5) = true := decide_eq_true hi
      have hwi : i < 4611686018427387904 := by omega
      have hL : ((bedsF T1).map stk ++ List.replicate i nilS).length < 1000 := by
        have := trF_le T1
        simp [bedsF_len]; omega
      have hM : ((bedsB T2).map stk ++ List.replicate i (AV.list 2 true [])).length < 1000 := by
        have := trB_le T2
        simp [bedsB_len]; omega
      have hLs : ((bedsF T1).map stk ++ List.replicate i nilS) ++ [nilS] = (bedsF T1).map stk ++ List.replicate (i + 1) nilS := by rw [List.replicate_succ', List.append_assoc]
      have hMs : ((bedsB T2).map stk ++ List.replicate i (AV.list 2 true [])) ++ [AV.list 2 true []] = (bedsB T2).map stk ++ List.replicate (i + 1) (AV.list 2 true []) := by rw [List.replicate_succ', List.append_assoc]
      replace hL := (show Aside _ from hL)
      replace hM := (show Aside _ from hM)
      replace hLs := (show Aside _ from hLs)
      replace hMs := (show Aside _ from hMs)
      replace hst := (show Aside _ from hst)
      refine seq_go ?_
      refine seq_go ?_
      (repeat' first
    | simp (contextual := true) (maxSteps := 4000000) only [fwc, fwe, fww, reduceIte, ↓reduceIte, Nat.reduceAdd, Nat.reduceLeDiff, Nat.reduceEqDiff, Nat.reduceLT, Nat.reduceSub, reduceCtorEq, Int.reduceEq, Int.reduceLT, Int.reduceLE, Int.reduceNeg, Int.reduceToNat, Int.reduceAdd, Int.reduceSub, Nat.reduceMul, ilt_nat, part_cell, part_agg, and_false, *]
    | (refine retK_now ?_)
    | (refine retK_now' ?_)
    | (intro q hq)
    | (refine cond_intro (fun hc => ?_) (fun hc => ?_)))
      refine seqK_now ?_
      (repeat' first
    | simp (contextual := true) (maxSteps := 4000000) only [fwc, fwe, fww, reduceIte, ↓reduceIte, Nat.reduceAdd, Nat.reduceLeDiff, Nat.reduceEqDiff, Nat.reduceLT, Nat.reduceSub, reduceCtorEq, Int.reduceEq, Int.reduceLT, Int.reduceLE, Int.reduceNeg, Int.reduceToNat, Int.reduceAdd, Int.reduceSub, Nat.reduceMul, ilt_nat, part_cell, part_agg, and_false, *]
    | (refine retK_now ?_)
    | (refine retK_now' ?_)
    | (intro q hq)
    | (refine cond_intro (fun hc => ?_) (fun hc => ?_)))
      refine seqK_now ?_
      refine seq_go ?_
      (repeat' first
    | simp (contextual := true) (maxSteps := 4000000) only [fwc, fwe, fww, reduceIte, ↓reduceIte, Nat.reduceAdd, Nat.reduceLeDiff, Nat.reduceEqDiff, Nat.reduceLT, Nat.reduceSub, reduceCtorEq, Int.reduceEq, Int.reduceLT, Int.reduceLE, Int.reduceNeg, Int.reduceToNat, Int.reduceAdd, Int.reduceSub, Nat.reduceMul, ilt_nat, part_cell, part_agg, and_false, *]
    | (refine retK_now ?_)
    | (refine retK_now' ?_)
    | (intro q hq)
    | (refine cond_intro (fun hc => ?_) (fun hc => ?_)))
      refine sl_app (y := nilS) hst.out.p hst.out.sub hL.out hst.out.q hst.out.ap fun s' O2 a1 a2 a3 a4 a5 => ?_
      have b5 := (a5 q5 _ _ _ g5 (by decide)).trans g5
      have b12 := (a5 q12 _ _ _ g12 (by decide)).trans g12
      have b13 := (a5 q13 _ _ _ g13 (by decide)).trans g13
      have b1 := a1.cells.1
      have b2 := a1.cells.2
      rw [hLs.out] at a1
      replace a1 := (show Aside _ from a1)
      replace a2 := (show Aside _ from a2)
      replace a3 := (show Aside _ from a3)
      replace a4 := (show Aside _ from a4)
      replace a5 := (show Aside _ from a5)
      (repeat' first
    | simp (contextual := true) (maxSteps := 4000000) only [fwc, fwe, fww, reduceIte, ↓reduceIte, Nat.reduceAdd, Nat.reduceLeDiff, Nat.reduceEqDiff, Nat.reduceLT, Nat.reduceSub, reduceCtorEq, Int.reduceEq, Int.reduceLT, Int.reduceLE, Int.reduceNeg, Int.reduceToNat, Int.reduceAdd, Int.reduceSub, Nat.reduceMul, ilt_nat, part_cell, part_agg, and_false, *]
    | (refine retK_now ?_)
    | (refine retK_now' ?_)
    | (intro q hq)
    | (refine cond_intro (fun hc => ?_) (fun hc => ?_)))
      refine seqK_now ?_
      have hst2 : StP O (O2.upd q12 (.arr 35 2 [.agg [s', vb]])) q5 q12 q13 m0 m1 vb wf s' sq ((bedsF T1).map stk ++ List.replicate (i + 1) nilS) ((bedsB T2).map stk ++ List.replicate i (.list 2 true [])) :=
        ⟨fun i o hi => by rw [Heap.upd_ne _ _ (fun e => by rw [e, o12] at hi; cases hi)]; exact a2.out i o hi, o12, o13, by rw [Heap.upd_ne _ _ (fun e => by rw [e, b12] at b5; cases b5)]; exact b5, Heap.upd_same _ _ _, by rw [Heap.upd_ne _ _ (Ne.symm hq12n)]; exact b13, SL.put a1.out b12 (by decide), SL.put a3.out b12 (by decide), a4.out⟩
      clear b5 b12 b13 g5 g12 g13
      generalize O2.upd q12 (.arr 35 2 [.agg [s', vb]]) = O3 at *
      have g5 := hst2.f5
      have g12 := hst2.f12
      have g13 := hst2.f13
      replace hst2 := (show Aside _ from hst2)
      (repeat' first
    | simp (contextual := true) (maxSteps := 4000000) only [fwc, fwe, fww, reduceIte, ↓reduceIte, Nat.reduceAdd, Nat.reduceLeDiff, Nat.reduceEqDiff, Nat.reduceLT, Nat.reduceSub, reduceCtorEq, Int.reduceEq, Int.reduceLT, Int.reduceLE, Int.reduceNeg, Int.reduceToNat, Int.reduceAdd, Int.reduceSub, Nat.reduceMul, ilt_nat, part_cell, part_agg, and_false, *]
    | (refine retK_now ?_)
    | (refine retK_now' ?_)
    | (intro q hq)
    | (refine cond_intro (fun hc => ?_) (fun hc => ?_)))
      refine sl_app (y := .list 2 true []) hst2.out.q hst2.out.sub hM.out hst2.out.p (fun i a b c d a' b' c' d' e e' h1 h2 => hst2.out.ap i a' b' c' d' a b c d e' e h2 h1) fun t' O4 c1 c2 c3 c4 c5 => ?_
      have b5 := (c5 q5 _ _ _ g5 (by decide)).trans g5
      have b12 := (c5 q12 _ _ _ g12 (by decide)).trans g12
      have b13 := (c5 q13 _ _ _ g13 (by decide)).trans g13
      have b3 := c1.cells.1
      have b4 := c1.cells.2
      rw [hMs.out] at c1
      replace c1 := (show Aside _ from c1)
      replace c2 := (show Aside _ from c2)
      replace c3 := (show Aside _ from c3)
      replace c4 := (show Aside _ from c4)
      replace c5 := (show Aside _ from c5)
      (repeat' first
    | simp (contextual := true) (maxSteps := 4000000) only [fwc, fwe, fww, reduceIte, ↓reduceIte, Nat.reduceAdd, Nat.reduceLeDiff, Nat.reduceEqDiff, Nat.reduceLT, Nat.reduceSub, reduceCtorEq, Int.reduceEq, Int.reduceLT, Int.reduceLE, Int.reduceNeg, Int.reduceToNat, Int.reduceAdd, Int.reduceSub, Nat.reduceMul, ilt_nat, part_cell, part_agg, wrap_succ, and_false, *]
    | (refine seqK_now ?_)
    | (refine retK_now ?_)
    | (refine retK_now' ?_)
    | (intro q hq)
    | (refine cond_intro (fun hc => ?_) (fun hc => ?_)))
      refine loopK_now (m0 % 5 - (i + 1)) (by omega) ?_
      rw [hI.out]
      refine ⟨i + 1, s', t', by omega, rfl, ⟨fun i o hi => ?_, o12, o13, ?_, ?_, Heap.upd_same _ _ _, SL.put c3.out b13 (by decide), SL.put c1.out b13 (by decide), fun i a b c d a' b' c' d' e e' h1 h2 => c4.out i a' b' c' d' a b c d e' e h2 h1⟩, rfl⟩
      · rw [Heap.upd_ne _ _ (fun e => by rw [e, o13] at hi; cases hi)]; exact c2.out i o hi
      · rw [Heap.upd_ne _ _ (fun e => by rw [e, b13] at b5; cases b5)]; exact b5
      · rw [Heap.upd_ne _ _ hq12n]; exact b12
    · have e1 : decide (i < m0 % 5) = false := decide_eq_false hi
      have hir : i = m0 % 5 := by omega
      rw [hir] at hst
      replace hi := (show Aside _ from hi)
      replace hir := (show Aside _ from hir)
      replace hst := (show Aside _ from hst)
      refine seq_go ?_
      refine seq_go ?_
      (repeat' first
    | simp (contextual := true) (maxSteps := 4000000) only [fwc, fwe, fww, reduceIte, ↓reduceIte, Nat.reduceAdd, Nat.reduceLeDiff, Nat.reduceEqDiff, Nat.reduceLT, Nat.reduceSub, reduceCtorEq, Int.reduceEq, Int.reduceLT, Int.reduceLE, Int.reduceNeg, Int.reduceToNat, Int.reduceAdd, Int.reduceSub, Nat.reduceMul, ilt_nat, part_cell, part_agg, and_false, *]
    | (refine retK_now ?_)
    | (refine retK_now' ?_)
    | (intro q hq)
    | (refine cond_intro (fun hc => ?_) (fun hc => ?_)))
      refine seqK_now ?_
      (repeat' first
    | simp (contextual := true) (maxSteps := 4000000) only [fwc, fwe, fww, reduceIte, ↓reduceIte, Nat.reduceAdd, Nat.reduceLeDiff, Nat.reduceEqDiff, Nat.reduceLT, Nat.reduceSub, reduceCtorEq, Int.reduceEq, Int.reduceLT, Int.reduceLE, Int.reduceNeg, Int.reduceToNat, Int.reduceAdd, Int.reduceSub, Nat.reduceMul, ilt_nat, part_cell, part_agg, and_false, *]
    | (refine retK_now ?_)
    | (refine retK_now' ?_)
    | (intro q hq)
    | (refine cond_intro (fun hc => ?_) (fun hc => ?_)))
      refine WeakE.forget (keepE [10, 12, 13] _) (keepE_or _ _) ?_
      refine SL.frz hst.out hq12n fun sp' sq' O2 h1 h2 h3 h4 h5 h6 h7 => ?_
      exact hF.out _ _ ⟨⟨sp', sq', h1, h2, h3, h4, h5, h6, h7⟩, rfl⟩
  intro e1 O1 hQ
  obtain ⟨⟨sp', sq', h1, h2, h3, h4, h5, h6, h7⟩, rfl⟩ := hQ
  have hle1 : ∀ l ∈ T1, l.length ≤ 1000 := fun l hl => by have := hT1.out.le l hl; omega
  have sF1 := bedsF_sm hle1
  have sB1 := bedsB_sm hle1
  have sF2 := bedsF_sm hle2.out
  have sB2 := bedsB_sm hle2.out
  have fF1 : (bedsF T1).length ≤ 40 := by rw [bedsF_len]; exact trF_le T1
  have fB2 : (bedsB T2).length ≤ 40 := by rw [bedsB_len]; exact trB_le T2
  have iP := pad_is h1 .nil
  have iQ := pad_is h2 .list
  have iB1 : IsB vb ((bedsB T1).map stk) (bedsB T1) := by rw [← hvb.out]; exact (bedA_is _).1
  have iF2 : IsB wf ((bedsF T2).map stk) (bedsF T2) := by rw [← hwf.out]; exact (bedA_is _).1
  have uP := pad_sm sF1 fF1 (r := m0 % 5) (by omega)
  have uQ := pad_sm sB2 fB2 (r := m0 % 5) (by omega)
  obtain ⟨e1, e2, e3⟩ := same_pad hT1.out.len hlen2.out (m0 % 5)
  have c1 := Same_ok _ _ _ _ _ _ _ _ _ _ _ _ iP iB1 iF2 iQ uP sB1 sF2 uQ
  have c2 := Same_ok _ _ _ _ _ _ _ _ _ _ _ _ iF2 iQ iP iB1 sF2 uQ uP sB1
  have c3 := Same_ok _ _ _ _ _ _ _ _ _ _ _ _ iP iB1 iP iB1 uP sB1 uP sB1
  rw [e1, hbq.out] at c1
  rw [e2, hbq.out] at c2
  rw [e3] at c3
  clear e1 e2 e3 iP iQ iB1 iF2 uP uQ h1 h2 sF1 sB1 sF2 sB2 hst
  have qb : (bq == bq) = true := by simp
  replace h5 := (show Aside _ from h5)
  (repeat' first
    | simp (contextual := true) (maxSteps := 4000000) only [fwc, fwe, fww, reduceIte, ↓reduceIte, Nat.reduceAdd, Nat.reduceLeDiff, Nat.reduceEqDiff, Nat.reduceLT, Nat.reduceSub, reduceCtorEq, Int.reduceEq, Int.reduceLT, Int.reduceLE, Int.reduceNeg, Int.reduceToNat, Int.reduceAdd, Int.reduceSub, Nat.reduceMul, ilt_nat, part_cell, part_agg, wrap_succ, and_false, *]
    | (refine seqK_now ?_)
    | (refine retK_now ?_)
    | (refine retK_now' ?_)
    | (intro q hq)
    | (refine cond_intro (fun hc => ?_) (fun hc => ?_)))
  refine c1.use ?_
  (repeat' first
    | simp (contextual := true) (maxSteps := 4000000) only [fwc, fwe, fww, reduceIte, ↓reduceIte, Nat.reduceAdd, Nat.reduceLeDiff, Nat.reduceEqDiff, Nat.reduceLT, Nat.reduceSub, reduceCtorEq, Int.reduceEq, Int.reduceLT, Int.reduceLE, Int.reduceNeg, Int.reduceToNat, Int.reduceAdd, Int.reduceSub, Nat.reduceMul, ilt_nat, part_cell, part_agg, wrap_succ, and_false, *]
    | (refine seqK_now ?_)
    | (refine retK_now ?_)
    | (refine retK_now' ?_)
    | (intro q hq)
    | (refine cond_intro (fun hc => ?_) (fun hc => ?_)))
  refine c2.use ?_
  (repeat' first
    | simp (contextual := true) (maxSteps := 4000000) only [fwc, fwe, fww, reduceIte, ↓reduceIte, Nat.reduceAdd, Nat.reduceLeDiff, Nat.reduceEqDiff, Nat.reduceLT, Nat.reduceSub, reduceCtorEq, Int.reduceEq, Int.reduceLT, Int.reduceLE, Int.reduceNeg, Int.reduceToNat, Int.reduceAdd, Int.reduceSub, Nat.reduceMul, ilt_nat, part_cell, part_agg, wrap_succ, and_false, *]
    | (refine seqK_now ?_)
    | (refine retK_now ?_)
    | (refine retK_now' ?_)
    | (intro q hq)
    | (refine cond_intro (fun hc => ?_) (fun hc => ?_)))
  refine c3.use ?_
  (repeat' first
    | simp (contextual := true) (maxSteps := 4000000) only [fwc, fwe, fww, reduceIte, ↓reduceIte, Nat.reduceAdd, Nat.reduceLeDiff, Nat.reduceEqDiff, Nat.reduceLT, Nat.reduceSub, reduceCtorEq, Int.reduceEq, Int.reduceLT, Int.reduceLE, Int.reduceNeg, Int.reduceToNat, Int.reduceAdd, Int.reduceSub, Nat.reduceMul, ilt_nat, part_cell, part_agg, wrap_succ, and_false, *]
    | (refine seqK_now ?_)
    | (refine retK_now ?_)
    | (refine retK_now' ?_)
    | (intro q hq)
    | (refine cond_intro (fun hc => ?_) (fun hc => ?_)))
  refine lives_ok.use ?_
  (repeat' first
    | simp (contextual := true) (maxSteps := 4000000) only [fwc, fwe, fww, reduceIte, ↓reduceIte, Nat.reduceAdd, Nat.reduceLeDiff, Nat.reduceEqDiff, Nat.reduceLT, Nat.reduceSub, reduceCtorEq, Int.reduceEq, Int.reduceLT, Int.reduceLE, Int.reduceNeg, Int.reduceToNat, Int.reduceAdd, Int.reduceSub, Nat.reduceMul, ilt_nat, part_cell, part_agg, wrap_succ, and_false, *]
    | (refine seqK_now ?_)
    | (refine retK_now ?_)
    | (refine retK_now' ?_)
    | (intro q hq)
    | (refine cond_intro (fun hc => ?_) (fun hc => ?_)))
  refine WeakR.pure h5.out ?_
  rfl
end Go.Proofs.Ytlpngkeegjickaa

namespace Go.Proofs.Ytlpngkeegjickaa
open Go.Ab Go.ChangeShapes Go.WideShapes Go.ChangeAt Go.RowKit

theorem own : ownKnob Try.prog.godebug = none := by kernel_rfl
theorem laid : laidOutB Try.prog = true := by kernel_rfl
theorem wf_u8 {n : Int} (h : (Lit.int .u8 n).wf = true) : 0 ≤ n ∧ n ≤ 255 := by
  simpa [Lit.wf, IntKind.min, IntKind.max, IntKind.signed, IntKind.bits] using h
theorem wf_i64 {n : Int} (h : (Lit.int .i64 n).wf = true) : -9223372036854775808 ≤ n ∧ n ≤ 9223372036854775807 := by
  simpa [Lit.wf, IntKind.min, IntKind.max, IntKind.signed, IntKind.bits] using h

def lay2 : Lay := .int .u8 (.int .u8 .nil)
theorem open_2 {a : AV} {es : List AV} (he : elemIs true a es) (h : LayOK lay2 es) : ∃ m n : Nat, m < 256 ∧ n < 256 ∧ a = .agg [.val (.int .u8 m), .val (.int .u8 n)] := by
  obtain ⟨m, vs', rfl, hm, n, vs', rfl, hn, rfl⟩ := h
  have h1 := wf_u8 hm
  have h2 := wf_u8 hn
  refine ⟨m.toNat, n.toNat, by omega, by omega, ?_⟩
  rw [show ((m.toNat : Nat) : Int) = m by omega, show ((n.toNat : Nat) : Int) = n by omega]
  exact he
def layB : Lay := .slice true (.int .u8 (.int .u8 .nil)) .nil
def layId : Lay := .int .u8 (.int .i64 .nil)
theorem open_B {s : AV} (h : LayOK layB [s]) : ∃ P : List Put, IsL 2 s (P.map Put.av) ∧ ∀ p ∈ P, p.ok := by
  obtain ⟨s', l, vs', e, h1, _, h3, h4⟩ := h
  simp only [List.cons.injEq] at e
  obtain ⟨rfl, _⟩ := e
  obtain ⟨X, rfl, hX⟩ := map_of_all (f := Put.av) (Q := Put.ok) (l := l) (fun x hx => by
    obtain ⟨es, rfl, y, vs', rfl, hw1, n, vs', rfl, hw2, rfl⟩ := h3 x hx
    have k1 := wf_u8 hw1
    have k2 := wf_u8 hw2
    refine ⟨⟨y.toNat, n.toNat⟩, ?_, by unfold Put.ok; simp only; omega⟩
    unfold Put.av
    rw [show ((y.toNat : Nat) : Int) = y by omega, show ((n.toNat : Nat) : Int) = n by omega])
  exact ⟨X, h1, hX⟩
theorem open_id {a : AV} {es : List AV} (he : elemIs true a es) (h : LayOK layId es) : ∃ m n : Int, (0 ≤ m ∧ m ≤ 255) ∧ (-9223372036854775808 ≤ n ∧ n ≤ 9223372036854775807) ∧ a = .agg [.val (.int .u8 m), .val (.int .i64 n)] := by
  obtain ⟨m, vs', rfl, hm, n, vs', rfl, hn, rfl⟩ := h
  exact ⟨m, n, wf_u8 hm, wf_i64 hn, he⟩
theorem StacksSame_args (vs : List AV) (h : ArgsOK [(false, layB), (false, layB), (true, lay2)] vs) : PureA Try.prog 6 vs (.val (.bool true)) := by
  obtain ⟨a, vs', es, rfl, rfl, h1, b, vs', es', rfl, rfl, h2, c, vs', es'', rfl, k3, h3, rfl⟩ := h
  obtain ⟨P, hs, hP⟩ := open_B h1
  obtain ⟨Q, ht, hQ⟩ := open_B h2
  obtain ⟨m, n, hm, hn, rfl⟩ := open_2 k3 h3
  exact StacksSame_ok a b P Q m n hs hP ht hQ hm hn
set_option maxRecDepth 100000 in
theorem StacksSame_lifted (os : Os) (started : os.Started) (H : Type) (enc : TypeId × Value → H) :
    ReturnsInHanded {} Try.checked os 6 .any (Rows.stacksSameSpec.pre6 enc Try.prog Try.f6 Rows.stacksSameRow.domain false) (Rows.stacksSameSpec.post enc Try.prog Try.f6 false true false false) := by
  refine returnsInHanded_of_change (C := Try.checked) own started (by kernel_rfl) Try.func6
    (ChangeSpec.witness6 (enc := enc) (C := Try.checked) false ⟨#[], #[.slice none 0 0, .slice none 0 0, .agg #[.int .u8 0, .int .u8 0]], []⟩ 8 (by kernel_rfl) (by kernel_rfl) (by kernel_rfl) (by kernel_rfl)) ?_
  intro W base args ds gs before hval hW _ _
  exact law_calls (lays := [(false, layB), (false, layB), (true, lay2)]) laid (of_decide_eq_true (by kernel_rfl)) (by kernel_rfl) (by kernel_rfl) rfl (fun ds hds => by
    match ds, hds with
    | [d1, d2, d3], _ => rfl) StacksSame_args W base args ds gs before hval hW

theorem StacksSame_holds : Rows.StacksSameSaid :=
  OpenClaim.holds_of_wide 6 Try.f6 rfl rfl rfl rfl rfl rfl rfl ⟨rfl, rfl, rfl, rfl, rfl⟩ rfl rfl rfl rfl rfl (by kernel_rfl) Try.func6 (by kernel_rfl)
    (of_decide_eq_true (by kernel_rfl)) (by unfold Func.isWrapper; first | (rw [if_pos (by decide +kernel)]; kernel_rfl) | (rw [if_neg (by decide +kernel)]; exact ⟨rfl, rfl⟩))
    (fun os started H enc _ => StacksSame_lifted os started H enc)

end Go.Proofs.Ytlpngkeegjickaa
