/- The law StacksSet of the given program: for every input the call returns true, and its arguments read as before. Here: contracts of functions, and the law. -/
import Derived.Test.YtlpngkeegjickaaLawStacksSetP1
import Derived.Test.YtlpngkeegjickaaFc
import Derived.Test.YtlpngkeegjickaaRows
set_option linter.unusedSimpArgs false
set_option linter.unusedVariables false
namespace Go.Proofs.Ytlpngkeegjickaa
open Go.Ab
attribute [local irreducible] WeakR WeakE CallA YieldA

theorem needleL_ok (i : Nat) : (needleL i).bad = false ∧ 0 ≤ (needleL i).bed := by
  unfold needleL Ndl.bad
  simp only [Bool.or_eq_false_iff, decide_eq_false_iff_not]
  omega
/-- A table of slices. -/
structure IsTab (ts : List AV) (T : List (List Id)) : Prop where
  len : ts.length = 80
  tlen : T.length = 80
  el : ∀ (i : Nat) (h : i < ts.length) (h' : i < T.length), IsL 2 ts[i] (T[i].map Id.av)
  le : ∀ l ∈ T, l.length ≤ 1000
theorem tabA_is {T : List (List Id)} {n : Nat} (h : TabOK T n) : IsTab (tabA T) T :=
  ⟨by simp [tabA, h.len], h.len, fun i h1 h2 => by simp only [tabA, List.getElem_map]; exact frA_L _ _, fun l hl => by have := h.le l hl; omega⟩

def diffAt (T F B : List (List Id)) (i : Nat) : Bool := decide (atL F B (needleL i) = T.getD i [])
def longN (F : List (List Id)) : Nat := if 0 < F.length ∧ F.getD (F.length - 1) [] = [] then 1 else 0
def differsL (T F B : List (List Id)) : Nat := (List.range 80).countP (fun i => !diffAt T F B i) + longN F + longN B
def env12 (q2 q3 n i : Nat) : Env := (((Env.upd (fun _ => .junk) 6 (.val (.int .i64 i))).upd 5 (.val (.int .i64 n))).upd 3 (.optr q3 2 0 0)).upd 2 (.optr q2 80 0 0)

set_option maxHeartbeats 4000000 in
theorem differs_ok (ts : List AV) (T : List (List Id)) (f b : AV) (es fs : List AV) (F B : List (List Id)) (hT : IsTab ts T) (hf : IsB f es F) (hb : IsB b fs B) (htf : IsT 1 f es) (htb : IsT 1 b fs) (hF : Sm F) (hB : Sm B) :
    PureA Try.prog 12 [.agg ts, .agg [f, b]] (.val (.int .i64 (differsL T F B))) := by
  intro O
  have m1 := hf.1.cells
  have m2 := hb.1.cells
  have m3 := hf.1.stor
  have m4 := hb.1.stor
  have m5 := hf.1.len
  have m6 := hb.1.len
  rw [hf.2.1] at m5
  rw [hb.2.1] at m6
  have hFl := hF.1
  have hBl := hB.1
  have htl := hT.len
  have htl' := hT.tlen
  have htk : ts.take 80 = ts := List.take_of_length_le (by omega)
  refine k12.call mix ?_
  unfold c12
  (repeat' first
    | simp (contextual := true) (maxSteps := 4000000) only [fwc, fwe, fww, reduceIte, ↓reduceIte, Nat.reduceAdd, Nat.reduceLeDiff, Nat.reduceEqDiff, Nat.reduceLT, Nat.reduceSub, reduceCtorEq, Int.reduceEq, Int.reduceLT, Int.reduceLE, Int.reduceNeg, Int.reduceToNat, Int.reduceAdd, Int.reduceSub, Nat.reduceMul, *]
    | (refine seqK_now ?_)
    | (refine retK_now ?_)
    | (refine retK_now' ?_)
    | (intro q hq)
    | (refine cond_intro (fun hc => ?_) (fun hc => ?_)))
  rename_i q2 hq2
  revert q
  intro q3 hq3
  have hO3 : O q3 = none := hq3.2.2
  obtain ⟨a1, a2, _⟩ := hq3
  obtain ⟨I, hI⟩ := hideI (fun m e O' => ∃ i n : Nat, i ≤ 80 ∧ m = 80 - i ∧ n = (List.range i).countP (fun i => !diffAt T F B i) ∧ O' = (O.upd q2 (.arr 31 80 [.agg ts])).upd q3 (.arr 35 2 [.agg [f, b]]) ∧ e = env12 q2 q3 n i)
  refine cmd_loop I 80 (by rw [hI.out]; exact ⟨0, 0, by omega, rfl, rfl, rfl, rfl⟩) ?_
  intro m e O' hh
  rw [hI.out] at hh
  obtain ⟨i, n, h3, rfl, hn, rfl, rfl⟩ := hh
  have hn8 : n ≤ 80 := by rw [hn]; have := List.countP_le_length (p := fun i => !diffAt T F B i) (l := List.range i); simp at this; omega
  replace hn := (show Aside _ from hn)
  unfold env12
  have d1 : decide ((i : Int) < 80) = decide (i < 80) := decide_eq_decide.2 (by omega)
  have hwn : n < 4611686018427387904 := by omega
  by_cases hi : i < 80
  · have d2 : decide (i < 80) = true := decide_eq_true hi
    have w8 : IntKind.u8.wrap (i : Int) = (i : Int) := wrap_u8n (by omega)
    have hwi : i < 4611686018427387904 := by omega
    have hN := Needle_ok i (by omega)
    have hA := At_ok f b es fs F B (needleL i) hf hb hF hB
    have hAT := atA_T (needleL i) hf hb
    have hix : indexPtrA 80 1 false (i : Int) (.optr q2 80 0 0) = some (.optr q2 80 0 i) := by
      rw [ixp_optr, if_pos (by omega)]
      simp
    have hge : ts[i]? = some ts[i] := List.getElem?_eq_getElem (by omega)
    have hx := hT.el i (by omega) (by omega)
    have hxl := hT.le T[i] (List.getElem_mem (by omega))
    have hgd : T.getD i [] = T[i] := by rw [List.getD_eq_getElem?_getD, List.getElem?_eq_getElem (by omega)]; rfl
    have hcnt : (List.range (i + 1)).countP (fun i => !diffAt T F B i) = n + (if atL F B (needleL i) = T[i] then 0 else 1) := by
      rw [List.range_succ, List.countP_append, ← hn.out]
      simp only [List.countP_cons, List.countP_nil, diffAt, hgd]
      by_cases h : atL F B (needleL i) = T[i] <;> simp [h]
    have hsame := same_ok (atA es fs (needleL i)) (.list 2 true (T[i].map Id.av)) (atL F B (needleL i)) T[i] hAT .list (by have := atL_len hF hB (needleL i); omega)
    generalize hX : T[i] = X at hx hxl hcnt hsame
    generalize ts[i] = x at hge hx
    obtain ⟨u, hu⟩ : ∃ u, needleL i = u := ⟨_, rfl⟩
    rw [hu] at hN hA hAT hcnt hsame
    have hul := atL_len hF hB u
    have hx1 := hx.cells
    have hx2 := hx.len
    rw [List.length_map] at hx2
    have hel : ∀ O, elemsA O 2 x = some (X.map Id.av) := fun O => hx.el O
    clear hgd hX
    replace hcnt := (show Aside _ from hcnt)
    have hle80 : i + 1 ≤ 80 := by omega
    (repeat' first
    | simp (contextual := true) (maxSteps := 4000000) only [fwc, fwe, fww, reduceIte, ↓reduceIte, Nat.reduceAdd, Nat.reduceLeDiff, Nat.reduceEqDiff, Nat.reduceLT, Nat.reduceSub, reduceCtorEq, Int.reduceEq, Int.reduceLT, Int.reduceLE, Int.reduceNeg, Int.reduceToNat, Int.reduceAdd, Int.reduceSub, Nat.reduceMul, part_cell, *]
    | (refine seqK_now ?_)
    | (refine retK_now ?_)
    | (refine retK_now' ?_)
    | (intro q hq)
    | (refine cond_intro (fun hc => ?_) (fun hc => ?_)))
    refine callF_use hN ?_
    rw [show u.av = .agg [.val (.int .u8 u.bed), .val (.int .i64 u.at_)] from rfl] at hA
    (repeat' first
    | simp (contextual := true) (maxSteps := 4000000) only [fwc, fwe, fww, reduceIte, ↓reduceIte, Nat.reduceAdd, Nat.reduceLeDiff, Nat.reduceEqDiff, Nat.reduceLT, Nat.reduceSub, reduceCtorEq, Int.reduceEq, Int.reduceLT, Int.reduceLE, Int.reduceNeg, Int.reduceToNat, Int.reduceAdd, Int.reduceSub, Nat.reduceMul, part_cell, show u.av = .agg [.val (.int .u8 u.bed), .val (.int .i64 u.at_)] from rfl, *]
    | (refine seqK_now ?_)
    | (refine retK_now ?_)
    | (refine retK_now' ?_)
    | (intro q hq)
    | (refine cond_intro (fun hc => ?_) (fun hc => ?_)))
    refine callF_use hA ?_
    (repeat' first
    | simp (contextual := true) (maxSteps := 4000000) only [fwc, fwe, fww, reduceIte, ↓reduceIte, Nat.reduceAdd, Nat.reduceLeDiff, Nat.reduceEqDiff, Nat.reduceLT, Nat.reduceSub, reduceCtorEq, Int.reduceEq, Int.reduceLT, Int.reduceLE, Int.reduceNeg, Int.reduceToNat, Int.reduceAdd, Int.reduceSub, Nat.reduceMul, part_cell, *]
    | (refine seqK_now ?_)
    | (refine retK_now ?_)
    | (refine retK_now' ?_)
    | (intro q hq)
    | (refine cond_intro (fun hc => ?_) (fun hc => ?_)))
    refine drawW_make 0 X.length rfl rfl (Nat.zero_le _) (by unfold maxLen; omega) (by omega) ?_
    (repeat' first
    | simp (contextual := true) (maxSteps := 4000000) only [fwc, fwe, fww, reduceIte, ↓reduceIte, Nat.reduceAdd, Nat.reduceLeDiff, Nat.reduceEqDiff, Nat.reduceLT, Nat.reduceSub, reduceCtorEq, Int.reduceEq, Int.reduceLT, Int.reduceLE, Int.reduceNeg, Int.reduceToNat, Int.reduceAdd, Int.reduceSub, Nat.reduceMul, part_cell, *]
    | (refine seqK_now ?_)
    | (refine retK_now ?_)
    | (refine retK_now' ?_)
    | (intro q hq)
    | (refine cond_intro (fun hc => ?_) (fun hc => ?_)))
    refine drawW_append (.list 2 true (X.map Id.av)) ⟨X.map Id.av, hel _, rfl, rfl, fits_of (by simp; omega) (by omega), by simp⟩ ?_
    (repeat' first
    | simp (contextual := true) (maxSteps := 4000000) only [fwc, fwe, fww, reduceIte, ↓reduceIte, Nat.reduceAdd, Nat.reduceLeDiff, Nat.reduceEqDiff, Nat.reduceLT, Nat.reduceSub, reduceCtorEq, Int.reduceEq, Int.reduceLT, Int.reduceLE, Int.reduceNeg, Int.reduceToNat, Int.reduceAdd, Int.reduceSub, Nat.reduceMul, part_cell, *]
    | (refine seqK_now ?_)
    | (refine retK_now ?_)
    | (refine retK_now' ?_)
    | (intro q hq)
    | (refine cond_intro (fun hc => ?_) (fun hc => ?_)))
    refine callF_use hsame ?_
    by_cases heq : atL F B u = X
    · rw [if_pos heq]
      have hc0 : (List.range (i + 1)).countP (fun i => !diffAt T F B i) = n := by rw [hcnt.out, if_pos heq]; rfl
      replace hc0 := (show Aside _ from hc0)
      replace heq := (show Aside _ from heq)
      (repeat' first
    | simp (contextual := true) (maxSteps := 4000000) only [fwc, fwe, fww, reduceIte, ↓reduceIte, Nat.reduceAdd, Nat.reduceLeDiff, Nat.reduceEqDiff, Nat.reduceLT, Nat.reduceSub, reduceCtorEq, Int.reduceEq, Int.reduceLT, Int.reduceLE, Int.reduceNeg, Int.reduceToNat, Int.reduceAdd, Int.reduceSub, Nat.reduceMul, wrap_succ, *]
    | (refine seqK_now ?_)
    | (refine retK_now ?_)
    | (refine retK_now' ?_)
    | (intro q hq)
    | (refine cond_intro (fun hc => ?_) (fun hc => ?_)))
      refine loopK_now (80 - (i + 1)) (by omega) ?_
      rw [hI.out]
      refine ⟨i + 1, n, by omega, rfl, hc0.out.symm, rfl, ?_⟩
      simp (contextual := true) (maxSteps := 4000000) only [fwc, fwe, fww, reduceIte, ↓reduceIte, Nat.reduceAdd, Nat.reduceLeDiff, Nat.reduceEqDiff, Nat.reduceLT, Nat.reduceSub, reduceCtorEq, Int.reduceEq, Int.reduceLT, Int.reduceLE, Int.reduceNeg, Int.reduceToNat, Int.reduceAdd, Int.reduceSub, Nat.reduceMul, env12, wrap_succ, *]
    · rw [if_neg heq]
      have hc0 : (List.range (i + 1)).countP (fun i => !diffAt T F B i) = n + 1 := by rw [hcnt.out, if_neg heq]
      replace hc0 := (show Aside _ from hc0)
      replace heq := (show Aside _ from heq)
      (repeat' first
    | simp (contextual := true) (maxSteps := 4000000) only [fwc, fwe, fww, reduceIte, ↓reduceIte, Nat.reduceAdd, Nat.reduceLeDiff, Nat.reduceEqDiff, Nat.reduceLT, Nat.reduceSub, reduceCtorEq, Int.reduceEq, Int.reduceLT, Int.reduceLE, Int.reduceNeg, Int.reduceToNat, Int.reduceAdd, Int.reduceSub, Nat.reduceMul, wrap_succ, *]
    | (refine seqK_now ?_)
    | (refine retK_now ?_)
    | (refine retK_now' ?_)
    | (intro q hq)
    | (refine cond_intro (fun hc => ?_) (fun hc => ?_)))
      refine loopK_now (80 - (i + 1)) (by omega) ?_
      rw [hI.out]
      refine ⟨i + 1, n + 1, by omega, rfl, hc0.out.symm, rfl, ?_⟩
      simp (contextual := true) (maxSteps := 4000000) only [fwc, fwe, fww, reduceIte, ↓reduceIte, Nat.reduceAdd, Nat.reduceLeDiff, Nat.reduceEqDiff, Nat.reduceLT, Nat.reduceSub, reduceCtorEq, Int.reduceEq, Int.reduceLT, Int.reduceLE, Int.reduceNeg, Int.reduceToNat, Int.reduceAdd, Int.reduceSub, Nat.reduceMul, env12, wrap_succ, *]
  · have d2 : decide (i < 80) = false := decide_eq_false hi
    have hi8 : i = 80 := by omega
    subst hi8
    refine seq_go ?_
    refine seq_go ?_
    (repeat' first
    | simp (contextual := true) (maxSteps := 4000000) only [fwc, fwe, fww, reduceIte, ↓reduceIte, Nat.reduceAdd, Nat.reduceLeDiff, Nat.reduceEqDiff, Nat.reduceLT, Nat.reduceSub, reduceCtorEq, Int.reduceEq, Int.reduceLT, Int.reduceLE, Int.reduceNeg, Int.reduceToNat, Int.reduceAdd, Int.reduceSub, Nat.reduceMul, *]
    | (refine retK_now ?_)
    | (refine retK_now' ?_)
    | (intro q hq)
    | (refine cond_intro (fun hc => ?_) (fun hc => ?_)))
    refine seqK_now ?_
    (repeat' first
    | simp (contextual := true) (maxSteps := 4000000) only [fwc, fwe, fww, reduceIte, ↓reduceIte, Nat.reduceAdd, Nat.reduceLeDiff, Nat.reduceEqDiff, Nat.reduceLT, Nat.reduceSub, reduceCtorEq, Int.reduceEq, Int.reduceLT, Int.reduceLE, Int.reduceNeg, Int.reduceToNat, Int.reduceAdd, Int.reduceSub, Nat.reduceMul, *]
    | (refine retK_now ?_)
    | (refine retK_now' ?_)
    | (intro q hq)
    | (refine cond_intro (fun hc => ?_) (fun hc => ?_)))
    refine seqK_now ?_
    refine seq_post (fun e1 O1 => O1 = (O.upd q2 (.arr 31 80 [.agg ts])).upd q3 (.arr 35 2 [.agg [f, b]]) ∧ e1 = ((Env.upd (fun _ => .junk) 5 (.val (.int .i64 ((n + longN F : Nat) : Int)))).upd 3 (.optr q3 2 0 0))) ?_ ?_
    · intro e1 O1 hQ
      obtain ⟨rfl, rfl⟩ := hQ
      have hlF : longN F ≤ 1 := by unfold longN; split <;> omega
      generalize hm : n + longN F = n2
      have hwn2 : n2 < 4611686018427387904 := by omega
      replace hm := (show Aside _ from hm)
      have hgF : ∀ h : 0 < B.length, ∃ y, indexAddrA 1 ((B.length - 1 : Nat) : Int) b = some (.ref y) ∧ y.cells = [y] ∧ lenA y = some (.val (.int .i64 (B.getD (B.length - 1) []).length)) := fun h => by
        have hl := hb.2.1
        have hyL := hb.2.2 (B.length - 1) (by omega) (by omega)
        refine ⟨_, hb.1.ia (by omega), hyL.cells, ?_⟩
        have := hyL.len
        rw [List.length_map] at this
        rw [this, List.getD_eq_getElem?_getD, List.getElem?_eq_getElem (by omega)]
        rfl
      have hne : (!decide ((fs.length : Int) = (B.length : Int))) = false := by rw [hb.2.1]; simp
      have hwl : IntKind.i64.wrap ((B.length : Int) - 1) = ((B.length - 1 : Nat) : Int) ∨ B.length = 0 := by
        rcases Nat.eq_zero_or_pos B.length with h | h
        · exact .inr h
        · left; rw [wrap_i64 (by omega) (by omega)]; omega
      rcases Nat.eq_zero_or_pos B.length with h0 | h0
      · have k1 : decide ((0 : Int) < (B.length : Int)) = false := decide_eq_false (by omega)
        have k2 : longN B = 0 := by unfold longN; rw [if_neg (by omega)]
        replace h0 := (show Aside _ from h0)
        clear hwl hgF
        (repeat' first
    | simp (contextual := true) (maxSteps := 4000000) only [fwc, fwe, fww, reduceIte, ↓reduceIte, Nat.reduceAdd, Nat.reduceLeDiff, Nat.reduceEqDiff, Nat.reduceLT, Nat.reduceSub, reduceCtorEq, Int.reduceEq, Int.reduceLT, Int.reduceLE, Int.reduceNeg, Int.reduceToNat, Int.reduceAdd, Int.reduceSub, Nat.reduceMul, part_cell, *]
    | (refine seqK_now ?_)
    | (refine retK_now ?_)
    | (refine retK_now' ?_)
    | (intro q hq)
    | (refine cond_intro (fun hc => ?_) (fun hc => ?_)))
        refine opsW_gcap (b := false) (sz := 1) (L := fs) rfl (fun _ => ?_) ?_
        · simp only [opd_tmp, Env.upd_apply, jn_true, if_true, *, reduceCtorEq, if_false, Nat.reduceEqDiff, b_eq_f, Bool.not_false]
          try exact htb
        (repeat' first
    | simp (contextual := true) (maxSteps := 4000000) only [fwc, fwe, fww, reduceIte, ↓reduceIte, Nat.reduceAdd, Nat.reduceLeDiff, Nat.reduceEqDiff, Nat.reduceLT, Nat.reduceSub, reduceCtorEq, Int.reduceEq, Int.reduceLT, Int.reduceLE, Int.reduceNeg, Int.reduceToNat, Int.reduceAdd, Int.reduceSub, Nat.reduceMul, part_cell, b_eq_f, *]
    | (refine seqK_now ?_)
    | (refine retK_now ?_)
    | (refine retK_now' ?_)
    | (intro q hq)
    | (refine cond_intro (fun hc => ?_) (fun hc => ?_)))
        refine WeakR.pure (sub_upd hO3 (sub_upd hq2 (Heap.sub_refl _))) ?_
        rw [show differsL T F B = n2 by unfold differsL; rw [k2, ← hm.out, ← hn.out]; rfl]
      · obtain ⟨y, y1, y2, y3⟩ := hgF h0
        have hwl : IntKind.i64.wrap ((B.length : Int) - 1) = ((B.length - 1 : Nat) : Int) := hwl.resolve_right (by omega)
        have k1 : decide ((0 : Int) < (B.length : Int)) = true := decide_eq_true (by omega)
        by_cases hy : B.getD (B.length - 1) [] = []
        · have k2 : longN B = 1 := by unfold longN; rw [if_pos ⟨h0, hy⟩]
          replace y3 : lenA y = some (.val (.int .i64 0)) := by rw [hy] at y3; exact y3
          have dz : decide ((0 : Int) = 0) = true := by decide
          replace h0 := (show Aside _ from h0)
          replace hy := (show Aside _ from hy)
          clear hgF
          (repeat' first
    | simp (contextual := true) (maxSteps := 4000000) only [fwc, fwe, fww, reduceIte, ↓reduceIte, Nat.reduceAdd, Nat.reduceLeDiff, Nat.reduceEqDiff, Nat.reduceLT, Nat.reduceSub, reduceCtorEq, Int.reduceEq, Int.reduceLT, Int.reduceLE, Int.reduceNeg, Int.reduceToNat, Int.reduceAdd, Int.reduceSub, Nat.reduceMul, part_cell, *]
    | (refine seqK_now ?_)
    | (refine retK_now ?_)
    | (refine retK_now' ?_)
    | (intro q hq)
    | (refine cond_intro (fun hc => ?_) (fun hc => ?_)))
          refine opsW_gcap (b := true) (sz := 1) (L := fs) rfl (fun h => by cases h) ?_
          (repeat' first
    | simp (contextual := true) (maxSteps := 4000000) only [fwc, fwe, fww, reduceIte, ↓reduceIte, Nat.reduceAdd, Nat.reduceLeDiff, Nat.reduceEqDiff, Nat.reduceLT, Nat.reduceSub, reduceCtorEq, Int.reduceEq, Int.reduceLT, Int.reduceLE, Int.reduceNeg, Int.reduceToNat, Int.reduceAdd, Int.reduceSub, Nat.reduceMul, part_cell, b_eq_f, wrap_succ, *]
    | (refine seqK_now ?_)
    | (refine retK_now ?_)
    | (refine retK_now' ?_)
    | (intro q hq)
    | (refine cond_intro (fun hc => ?_) (fun hc => ?_)))
          have hw2 := wrap_succ hwn2
          refine WeakR.pure (sub_upd hO3 (sub_upd hq2 (Heap.sub_refl _))) ?_
          rw [show differsL T F B = n2 + 1 by unfold differsL; rw [k2, ← hm.out, ← hn.out]]
          try (first | rfl | rw [hw2])
        · have k2 : longN B = 0 := by unfold longN; rw [if_neg (fun h => hy h.2)]
          have k3 : decide (((B.getD (B.length - 1) []).length : Int) = 0) = false := decide_eq_false (fun h => hy (List.eq_nil_of_length_eq_zero (by omega)))
          replace h0 := (show Aside _ from h0)
          replace hy := (show Aside _ from hy)
          clear hgF
          (repeat' first
    | simp (contextual := true) (maxSteps := 4000000) only [fwc, fwe, fww, reduceIte, ↓reduceIte, Nat.reduceAdd, Nat.reduceLeDiff, Nat.reduceEqDiff, Nat.reduceLT, Nat.reduceSub, reduceCtorEq, Int.reduceEq, Int.reduceLT, Int.reduceLE, Int.reduceNeg, Int.reduceToNat, Int.reduceAdd, Int.reduceSub, Nat.reduceMul, part_cell, *]
    | (refine seqK_now ?_)
    | (refine retK_now ?_)
    | (refine retK_now' ?_)
    | (intro q hq)
    | (refine cond_intro (fun hc => ?_) (fun hc => ?_)))
          refine opsW_gcap (b := false) (sz := 1) (L := fs) rfl (fun _ => ?_) ?_
          · simp only [opd_tmp, Env.upd_apply, jn_true, if_true, *, reduceCtorEq, if_false, Nat.reduceEqDiff, b_eq_f, Bool.not_false]
            try exact htb
          (repeat' first
    | simp (contextual := true) (maxSteps := 4000000) only [fwc, fwe, fww, reduceIte, ↓reduceIte, Nat.reduceAdd, Nat.reduceLeDiff, Nat.reduceEqDiff, Nat.reduceLT, Nat.reduceSub, reduceCtorEq, Int.reduceEq, Int.reduceLT, Int.reduceLE, Int.reduceNeg, Int.reduceToNat, Int.reduceAdd, Int.reduceSub, Nat.reduceMul, part_cell, b_eq_f, *]
    | (refine seqK_now ?_)
    | (refine retK_now ?_)
    | (refine retK_now' ?_)
    | (intro q hq)
    | (refine cond_intro (fun hc => ?_) (fun hc => ?_)))
          refine WeakR.pure (sub_upd hO3 (sub_upd hq2 (Heap.sub_refl _))) ?_
          rw [show differsL T F B = n2 by unfold differsL; rw [k2, ← hm.out, ← hn.out]; rfl]
    · intro F1 hQ
      replace hQ := (show Aside _ from hQ)
      have hw1 : IntKind.i64.wrap ((n : Int) + 1) = ((n + 1 : Nat) : Int) := wrap_succ hwn
      have hgF : ∀ h : 0 < F.length, ∃ y, indexAddrA 1 ((F.length - 1 : Nat) : Int) f = some (.ref y) ∧ y.cells = [y] ∧ lenA y = some (.val (.int .i64 (F.getD (F.length - 1) []).length)) := fun h => by
        have hl := hf.2.1
        have hyL := hf.2.2 (F.length - 1) (by omega) (by omega)
        refine ⟨_, hf.1.ia (by omega), hyL.cells, ?_⟩
        have := hyL.len
        rw [List.length_map] at this
        rw [this, List.getD_eq_getElem?_getD, List.getElem?_eq_getElem (by omega)]
        rfl
      have hne : (!decide ((es.length : Int) = (F.length : Int))) = false := by rw [hf.2.1]; simp
      have hwl : IntKind.i64.wrap ((F.length : Int) - 1) = ((F.length - 1 : Nat) : Int) ∨ F.length = 0 := by
        rcases Nat.eq_zero_or_pos F.length with h | h
        · exact .inr h
        · left; rw [wrap_i64 (by omega) (by omega)]; omega
      rcases Nat.eq_zero_or_pos F.length with h0 | h0
      · have k1 : decide ((0 : Int) < (F.length : Int)) = false := decide_eq_false (by omega)
        have k2 : longN F = 0 := by unfold longN; rw [if_neg (by omega)]
        replace h0 := (show Aside _ from h0)
        clear hwl hgF
        (repeat' first
    | simp (contextual := true) (maxSteps := 4000000) only [fwc, fwe, fww, reduceIte, ↓reduceIte, Nat.reduceAdd, Nat.reduceLeDiff, Nat.reduceEqDiff, Nat.reduceLT, Nat.reduceSub, reduceCtorEq, Int.reduceEq, Int.reduceLT, Int.reduceLE, Int.reduceNeg, Int.reduceToNat, Int.reduceAdd, Int.reduceSub, Nat.reduceMul, part_cell, *]
    | (refine seqK_now ?_)
    | (refine retK_now ?_)
    | (refine retK_now' ?_)
    | (intro q hq)
    | (refine cond_intro (fun hc => ?_) (fun hc => ?_)))
        refine opsW_gcap (b := false) (sz := 1) (L := es) rfl (fun _ => ?_) ?_
        · simp only [opd_tmp, Env.upd_apply, jn_true, if_true, *, reduceCtorEq, if_false, Nat.reduceEqDiff, b_eq_f, Bool.not_false]
          try exact htf
        (repeat' first
    | simp (contextual := true) (maxSteps := 4000000) only [fwc, fwe, fww, reduceIte, ↓reduceIte, Nat.reduceAdd, Nat.reduceLeDiff, Nat.reduceEqDiff, Nat.reduceLT, Nat.reduceSub, reduceCtorEq, Int.reduceEq, Int.reduceLT, Int.reduceLE, Int.reduceNeg, Int.reduceToNat, Int.reduceAdd, Int.reduceSub, Nat.reduceMul, part_cell, b_eq_f, *]
    | (refine seqK_now ?_)
    | (refine retK_now ?_)
    | (refine retK_now' ?_)
    | (intro q hq)
    | (refine cond_intro (fun hc => ?_) (fun hc => ?_)))
        refine hQ.out _ _ ⟨rfl, ?_⟩
        simp (contextual := true) (maxSteps := 4000000) only [fwc, fwe, fww, reduceIte, ↓reduceIte, Nat.reduceAdd, Nat.reduceLeDiff, Nat.reduceEqDiff, Nat.reduceLT, Nat.reduceSub, reduceCtorEq, Int.reduceEq, Int.reduceLT, Int.reduceLE, Int.reduceNeg, Int.reduceToNat, Int.reduceAdd, Int.reduceSub, Nat.reduceMul, *]
      · obtain ⟨y, y1, y2, y3⟩ := hgF h0
        have hwl : IntKind.i64.wrap ((F.length : Int) - 1) = ((F.length - 1 : Nat) : Int) := hwl.resolve_right (by omega)
        have k1 : decide ((0 : Int) < (F.length : Int)) = true := decide_eq_true (by omega)
        by_cases hy : F.getD (F.length - 1) [] = []
        · have k2 : longN F = 1 := by unfold longN; rw [if_pos ⟨h0, hy⟩]
          replace y3 : lenA y = some (.val (.int .i64 0)) := by rw [hy] at y3; exact y3
          have dz : decide ((0 : Int) = 0) = true := by decide
          replace h0 := (show Aside _ from h0)
          replace hy := (show Aside _ from hy)
          clear hgF
          (repeat' first
    | simp (contextual := true) (maxSteps := 4000000) only [fwc, fwe, fww, reduceIte, ↓reduceIte, Nat.reduceAdd, Nat.reduceLeDiff, Nat.reduceEqDiff, Nat.reduceLT, Nat.reduceSub, reduceCtorEq, Int.reduceEq, Int.reduceLT, Int.reduceLE, Int.reduceNeg, Int.reduceToNat, Int.reduceAdd, Int.reduceSub, Nat.reduceMul, part_cell, *]
    | (refine seqK_now ?_)
    | (refine retK_now ?_)
    | (refine retK_now' ?_)
    | (intro q hq)
    | (refine cond_intro (fun hc => ?_) (fun hc => ?_)))
          refine opsW_gcap (b := true) (sz := 1) (L := es) rfl (fun h => by cases h) ?_
          (repeat' first
    | simp (contextual := true) (maxSteps := 4000000) only [fwc, fwe, fww, reduceIte, ↓reduceIte, Nat.reduceAdd, Nat.reduceLeDiff, Nat.reduceEqDiff, Nat.reduceLT, Nat.reduceSub, reduceCtorEq, Int.reduceEq, Int.reduceLT, Int.reduceLE, Int.reduceNeg, Int.reduceToNat, Int.reduceAdd, Int.reduceSub, Nat.reduceMul, part_cell, b_eq_f, *]
    | (refine seqK_now ?_)
    | (refine retK_now ?_)
    | (refine retK_now' ?_)
    | (intro q hq)
    | (refine cond_intro (fun hc => ?_) (fun hc => ?_)))
          refine hQ.out _ _ ⟨rfl, ?_⟩
          simp (contextual := true) (maxSteps := 4000000) only [fwc, fwe, fww, reduceIte, ↓reduceIte, Nat.reduceAdd, Nat.reduceLeDiff, Nat.reduceEqDiff, Nat.reduceLT, Nat.reduceSub, reduceCtorEq, Int.reduceEq, Int.reduceLT, Int.reduceLE, Int.reduceNeg, Int.reduceToNat, Int.reduceAdd, Int.reduceSub, Nat.reduceMul, *]
        · have k2 : longN F = 0 := by unfold longN; rw [if_neg (fun h => hy h.2)]
          have k3 : decide (((F.getD (F.length - 1) []).length : Int) = 0) = false := decide_eq_false (fun h => hy (List.eq_nil_of_length_eq_zero (by omega)))
          replace h0 := (show Aside _ from h0)
          replace hy := (show Aside _ from hy)
          clear hgF
          (repeat' first
    | simp (contextual := true) (maxSteps := 4000000) only [fwc, fwe, fww, reduceIte, ↓reduceIte, Nat.reduceAdd, Nat.reduceLeDiff, Nat.reduceEqDiff, Nat.reduceLT, Nat.reduceSub, reduceCtorEq, Int.reduceEq, Int.reduceLT, Int.reduceLE, Int.reduceNeg, Int.reduceToNat, Int.reduceAdd, Int.reduceSub, Nat.reduceMul, part_cell, *]
    | (refine seqK_now ?_)
    | (refine retK_now ?_)
    | (refine retK_now' ?_)
    | (intro q hq)
    | (refine cond_intro (fun hc => ?_) (fun hc => ?_)))
          refine opsW_gcap (b := false) (sz := 1) (L := es) rfl (fun _ => ?_) ?_
          · simp only [opd_tmp, Env.upd_apply, jn_true, if_true, *, reduceCtorEq, if_false, Nat.reduceEqDiff, b_eq_f, Bool.not_false]
            try exact htf
          (repeat' first
    | simp (contextual := true) (maxSteps := 4000000) only [fwc, fwe, fww, reduceIte, ↓reduceIte, Nat.reduceAdd, Nat.reduceLeDiff, Nat.reduceEqDiff, Nat.reduceLT, Nat.reduceSub, reduceCtorEq, Int.reduceEq, Int.reduceLT, Int.reduceLE, Int.reduceNeg, Int.reduceToNat, Int.reduceAdd, Int.reduceSub, Nat.reduceMul, part_cell, b_eq_f, *]
    | (refine seqK_now ?_)
    | (refine retK_now ?_)
    | (refine retK_now' ?_)
    | (intro q hq)
    | (refine cond_intro (fun hc => ?_) (fun hc => ?_)))
          refine hQ.out _ _ ⟨rfl, ?_⟩
          simp (contextual := true) (maxSteps := 4000000) only [fwc, fwe, fww, reduceIte, ↓reduceIte, Nat.reduceAdd, Nat.reduceLeDiff, Nat.reduceEqDiff, Nat.reduceLT, Nat.reduceSub, reduceCtorEq, Int.reduceEq, Int.reduceLT, Int.reduceLE, Int.reduceNeg, Int.reduceToNat, Int.reduceAdd, Int.reduceSub, Nat.reduceMul, *]
end Go.Proofs.Ytlpngkeegjickaa

namespace Go.Proofs.Ytlpngkeegjickaa
open Go.Ab
attribute [local irreducible] WeakR WeakE CallA YieldA

/-- Beds as a value. -/
structure IsBeds (x : AV) (F B : List (List Id)) : Prop where
  ex : ∃ f b es fs, x = .agg [f, b] ∧ IsB f es F ∧ IsB b fs B ∧ IsT 1 f es ∧ IsT 1 b fs
  sF : Sm F
  sB : Sm B

theorem IsBeds.check {x : AV} {F B : List (List Id)} (h : IsBeds x F B) : PureA Try.prog 11 [x] (.val (.int .i64 (checkL F B))) := by
  obtain ⟨f, b, es, fs, rfl, h1, h2, _, _⟩ := h.ex
  exact Check_ok f b es fs F B h1 h2
theorem IsBeds.at_ {x : AV} {F B : List (List Id)} (h : IsBeds x F B) (n : Ndl) : ∃ r, PureA Try.prog 13 [x, n.av] r ∧ IsT 2 r ((atL F B n).map Id.av) := by
  obtain ⟨f, b, es, fs, rfl, h1, h2, _, _⟩ := h.ex
  exact ⟨_, At_ok f b es fs F B n h1 h2 h.sF h.sB, atA_T n h1 h2⟩
theorem IsBeds.find {x : AV} {F B : List (List Id)} (h : IsBeds x F B) (p : Id) : PureA Try.prog 15 [x, p.av] (.tup [(foundN (min F.length 40) (findL F B p)).av, .val (.int .i64 (foundE (findL F B p)))]) := by
  obtain ⟨f, b, es, fs, rfl, h1, h2, _, _⟩ := h.ex
  exact Find_ok f b es fs F B p h1 h2 h.sF h.sB
theorem IsBeds.count {x : AV} {F B : List (List Id)} (h : IsBeds x F B) : PureA Try.prog 16 [x] (.val (.int .i64 (namesL F B).length)) := by
  obtain ⟨f, b, es, fs, rfl, h1, h2, _, _⟩ := h.ex
  exact Count_ok f b es fs F B h1 h2 (h.sF.vis h.sB)
theorem IsBeds.same {x y : AV} {F B F' B' : List (List Id)} (h : IsBeds x F B) (k : IsBeds y F' B') : PureA Try.prog 19 [x, y] (.val (.bool (sameL F B F' B'))) := by
  obtain ⟨f, b, es, fs, rfl, h1, h2, _, _⟩ := h.ex
  obtain ⟨f', b', es', fs', rfl, h1', h2', _, _⟩ := k.ex
  exact Same_ok f b f' b' es fs es' fs' F B F' B' h1 h2 h1' h2' h.sF h.sB k.sF k.sB
theorem IsBeds.differs {ts : List AV} {T : List (List Id)} {x : AV} {F B : List (List Id)} (hT : IsTab ts T) (h : IsBeds x F B) : PureA Try.prog 12 [.agg ts, x] (.val (.int .i64 (differsL T F B))) := by
  obtain ⟨f, b, es, fs, rfl, h1, h2, h3, h4⟩ := h.ex
  exact differs_ok ts T f b es fs F B hT h1 h2 h3 h4 h.sF h.sB
theorem put_beds {f b x : AV} {es fs : List AV} {F B : List (List Id)} {n : Ndl} {X : List Id} (hf : IsB f es F) (hb : IsB b fs B) (hx : IsL 2 x (X.map Id.av)) (hF : Sm F) (hB : Sm B) (hX : X.length ≤ 1000) (hn : n.at_ ≤ 40) :
    IsBeds (.agg [.list 1 true (putAF es F n x X), .list 1 true (putAB fs B n x X)]) (putLF F n X) (putLB B n X) :=
  ⟨⟨_, _, _, _, rfl, putF_is hf hx, putB_is hb hx, .list, .list⟩, putF_sm hF hX hn, putB_sm hB hX hn⟩
theorem IsBeds.set {x s : AV} {F B : List (List Id)} {X : List Id} (h : IsBeds x F B) (n : Ndl) (hs : IsL 2 s (X.map Id.av)) (hX : X.length ≤ 1000) (h0 : 0 ≤ n.bed) :
    ∃ y, PureA Try.prog 18 [x, n.av, s] (.tup [y, .val (.int .i64 (setE F B n X))]) ∧ (setE F B n X = 0 → IsBeds y (putLF F n X) (putLB B n X)) ∧ (setE F B n X ≠ 0 → y = noBeds) := by
  obtain ⟨f, b, es, fs, rfl, h1, h2, _, _⟩ := h.ex
  refine ⟨_, Set_ok f b s es fs F B n X h1 h2 hs h.sF h.sB hX h0, fun e => ?_, fun e => ?_⟩
  · rw [setA, if_pos e]
    refine put_beds h1 h2 hs h.sF h.sB hX (bad_le ?_)
    unfold setE at e
    split at e
    · split at e
      · cases e
      · rename_i h; simp only [Bool.or_eq_true, not_or] at h; simpa using h.1
    · rename_i h; exact absurd e h
  · rw [setA, if_neg e]
theorem IsBeds.join {x : AV} {F B : List (List Id)} (h : IsBeds x F B) (u v : Ndl) (hu : 0 ≤ u.bed) (hv : 0 ≤ v.bed) :
    ∃ y, PureA Try.prog 20 [x, u.av, v.av] (.tup [y, .val (.int .i64 (joinE F B u v))]) ∧ (joinE F B u v = 0 → IsBeds y (joinF F B u v) (joinB F B u v)) ∧ (joinE F B u v ≠ 0 → y = noBeds) := by
  obtain ⟨f, b, es, fs, rfl, h1, h2, _, _⟩ := h.ex
  refine ⟨_, Join_ok f b es fs F B u v h1 h2 h.sF h.sB hu hv, fun e => ?_, fun e => ?_⟩
  · rw [joinA, if_pos e]
    have hj : (joinedL F B u v).length ≤ 4 ∧ u.bad = false ∧ v.bad = false := by
      unfold joinE at e
      split at e
      · split at e
        · cases e
        · rename_i hb
          simp only [Bool.or_eq_true, not_or] at hb
          split at e
          · cases e
          · split at e
            · cases e
            · exact ⟨by omega, by simpa using hb.1.1, by simpa using hb.1.2⟩
      · rename_i h; exact absurd e h
    obtain ⟨hj, hu', hv'⟩ := hj
    exact put_beds (putF_is h1 .nil) (putB_is h2 .nil) (frA_L _ _) (putF_sm h.sF (by simp) (bad_le hu')) (putB_sm h.sB (by simp) (bad_le hu')) (by omega) (bad_le hv')
  · rw [joinA, if_neg e]

theorem Of_tab_ok (P : List Put) : TabOK (ofL P) (ofN P).2 := (ofN_ok P).1
theorem bedsF_sm {T : List (List Id)} (h : ∀ l ∈ T, l.length ≤ 1000) : Sm (bedsF T) := by
  refine ⟨by have := trF_le T; simp [bedsF]; omega, fun l hl => ?_⟩
  obtain ⟨i, _, rfl⟩ := List.mem_map.1 hl
  rw [List.getD_eq_getElem?_getD]
  by_cases hi : i < T.length
  · rw [List.getElem?_eq_getElem hi]; exact h _ (List.getElem_mem hi)
  · rw [List.getElem?_eq_none (by omega)]; simp
theorem bedsB_sm {T : List (List Id)} (h : ∀ l ∈ T, l.length ≤ 1000) : Sm (bedsB T) := by
  refine ⟨by have := trB_le T; simp [bedsB]; omega, fun l hl => ?_⟩
  obtain ⟨i, _, rfl⟩ := List.mem_map.1 hl
  rw [List.getD_eq_getElem?_getD]
  by_cases hi : 40 + i < T.length
  · rw [List.getElem?_eq_getElem hi]; exact h _ (List.getElem_mem hi)
  · rw [List.getElem?_eq_none (by omega)]; simp
theorem beds_is {T : List (List Id)} (h : ∀ l ∈ T, l.length ≤ 1000) : IsBeds (.agg [bedA (bedsF T), bedA (bedsB T)]) (bedsF T) (bedsB T) :=
  ⟨⟨_, _, _, _, rfl, (bedA_is _).1, (bedA_is _).1, (bedA_is _).2, (bedA_is _).2⟩, bedsF_sm h, bedsB_sm h⟩

/-- The example of the chapter. -/
def exA : Id := ⟨1, 0⟩
def exB : Id := ⟨1, 1⟩
def exC : Id := ⟨2, 0⟩
def exF : List (List Id) := [[], [exA, exB]]
def exK : List (List Id) := [[], [exC]]
def exX : AV := .agg [.list 1 true [nilS, .list 2 true [exA.av, exB.av]], .list 1 true [nilS, .list 2 true [exC.av]]]
theorem ex_is : IsBeds exX exF exK := by
  refine ⟨⟨_, _, _, _, rfl, ⟨.list, rfl, fun i h h' => ?_⟩, ⟨.list, rfl, fun i h h' => ?_⟩, .list, .list⟩, ⟨by decide, by decide⟩, ⟨by decide, by decide⟩⟩
  · match i, h, h' with
    | 0, _, _ => exact .nil
    | 1, _, _ => exact .list
  · match i, h, h' with
    | 0, _, _ => exact .nil
    | 1, _, _ => exact .list
end Go.Proofs.Ytlpngkeegjickaa

namespace Go.Proofs.Ytlpngkeegjickaa
open Go.Ab
attribute [local irreducible] WeakR WeakE CallA YieldA

theorem IsBeds.cells {x : AV} {F B : List (List Id)} (h : IsBeds x F B) : ∃ f b, x = .agg [f, b] ∧ f.cells = [f] ∧ b.cells = [b] ∧ f.stor = true ∧ b.stor = true ∧ lenA f = some (.val (.int .i64 F.length)) ∧ lenA b = some (.val (.int .i64 B.length)) := by
  obtain ⟨f, b, es, fs, rfl, h1, h2, _, _⟩ := h.ex
  have l1 := h1.1.len
  have l2 := h2.1.len
  rw [h1.2.1] at l1
  rw [h2.2.1] at l2
  exact ⟨f, b, rfl, h1.1.cells, h2.1.cells, h1.1.stor, h2.1.stor, l1, l2⟩

theorem cmd_gen {P : Program} {c : Cmd} {K : Kont} {e : Env} {H : Heap} (F : Heap → Prop) (hF : F H) (h : ∀ H', F H' → cmdW P c K e H') : cmdW P c K e H := h H hF
theorem upd_keep {H : Heap} {q i : Nat} {v o : AObj} (hq : H q = none) (h : H i = some o) : (H.upd q v) i = some o := by
  rw [Heap.upd_ne _ _ (fun e => by rw [e, hq] at h; cases h)]; exact h
theorem sub_new {O H : Heap} {q : Nat} {v : AObj} (hs : O.sub H) (hq : H q = none) : O.sub (H.upd q v) := fun i o hi => upd_keep hq (hs i o hi)
theorem none_of_sub {O H : Heap} {q : Nat} (hs : O.sub H) (hq : H q = none) : O q = none := by
  cases h : O q with
  | none => rfl
  | some o => rw [hs _ _ h] at hq; cases hq
theorem ne_of {H : Heap} {i q : Nat} {o : AObj} (h : H i = some o) (hq : H q = none) : ¬ i = q := fun e => by rw [e, hq] at h; cases h

def nF1 : Ndl := ⟨0, 1⟩
def nF2 : Ndl := ⟨0, 2⟩
def nB1 : Ndl := ⟨1, 1⟩
def nB2 : Ndl := ⟨1, 2⟩
def nF3 : Ndl := ⟨0, 3⟩

set_option maxHeartbeats 8000000 in
theorem lives_ok : PureA Try.prog 17 [] (.val (.bool true)) := by
  intro O
  have hE := ex_is
  have hfind : PureA Try.prog 15 [exX, .agg [.val (.int .u8 2), .val (.int .i64 0)]] (.tup [.agg [.val (.int .u8 1), .val (.int .i64 2)], .val (.int .i64 0)]) := by
    have := hE.find exC
    rw [show findL exF exK exC = some 3 by decide] at this
    exact this
  have hck : PureA Try.prog 11 [exX] (.val (.int .i64 0)) := by
    have := hE.check
    rwa [show checkL exF exK = 0 by decide] at this
  obtain ⟨r2, hat2, ht2⟩ := hE.at_ nF2
  obtain ⟨r1, hat1, ht1⟩ := hE.at_ nF1
  have hl2 : lenA r2 = some (.val (.int .i64 2)) := ht2.isL.len
  have hl1 : lenA r1 = some (.val (.int .i64 0)) := ht1.isL.len
  have hcn : PureA Try.prog 16 [exX] (.val (.int .i64 3)) := hE.count
  obtain ⟨y, hj1, hy, _⟩ := hE.join nF2 nB2 (by decide) (by decide)
  have hy := hy (by decide)
  rw [show joinE exF exK nF2 nB2 = 0 by decide] at hj1
  obtain ⟨z, hj2, hz, _⟩ := hE.join nB2 nF2 (by decide) (by decide)
  have hz := hz (by decide)
  rw [show joinE exF exK nB2 nF2 = 0 by decide] at hj2
  obtain ⟨w1, hj3, _, hw1⟩ := hE.join nF1 nB1 (by decide) (by decide)
  have hw1 := hw1 (by decide)
  subst hw1
  rw [show joinE exF exK nF1 nB1 = 13 by decide] at hj3
  obtain ⟨w2, hj4, _, hw2⟩ := hE.join nF2 nF3 (by decide) (by decide)
  have hw2 := hw2 (by decide)
  subst hw2
  rw [show joinE exF exK nF2 nF3 = 1 by decide] at hj4
  obtain ⟨ry, hay, hty⟩ := hy.at_ nB2
  rw [show atL (joinF exF exK nF2 nB2) (joinB exF exK nF2 nB2) nB2 = [exC, exA, exB] by decide] at hty
  obtain ⟨rz, haz, htz⟩ := hz.at_ nF2
  rw [show atL (joinF exF exK nB2 nF2) (joinB exF exK nB2 nF2) nF2 = [exC, exA, exB] by decide] at htz
  have hs1 : PureA Try.prog 21 [ry, .list 2 true [exC.av, exA.av, exB.av]] (.val (.int .i64 1)) := same_ok ry _ [exC, exA, exB] [exC, exA, exB] hty .list (by decide)
  have hs2 : PureA Try.prog 21 [rz, .list 2 true [exC.av, exA.av, exB.av]] (.val (.int .i64 1)) := same_ok rz _ [exC, exA, exB] [exC, exA, exB] htz .list (by decide)
  obtain ⟨v1, hset1, _, hv1⟩ := hE.set (X := [exC]) (s := .list 2 true [exC.av]) nF1 .list (by decide) (by decide)
  have hv1 := hv1 (by decide)
  subst hv1
  rw [show setE exF exK nF1 [exC] = 8 by decide] at hset1
  obtain ⟨v2, hset2, hv2, _⟩ := hE.set (X := [exB]) (s := .list 2 true [exB.av]) nF2 .list (by decide) (by decide)
  have hv2 := hv2 (by decide)
  rw [show setE exF exK nF2 [exB] = 0 by decide] at hset2
  obtain ⟨rv, hav, htv⟩ := hv2.at_ nF2
  rw [show atL (putLF exF nF2 [exB]) (putLB exK nF2 [exB]) nF2 = [exB] by decide] at htv
  have hs3 : PureA Try.prog 21 [rv, .list 2 true [exB.av]] (.val (.int .i64 1)) := same_ok rv _ [exB] [exB] htv .list (by decide)
  have hcv : PureA Try.prog 16 [v2] (.val (.int .i64 2)) := by
    have := hv2.count
    rwa [show (namesL (putLF exF nF2 [exB]) (putLB exK nF2 [exB])).length = 2 by decide] at this
  obtain ⟨yf, yb, hyx, y1, y2, y3, y4, y5, _⟩ := hy.cells
  rw [show ((joinF exF exK nF2 nB2).length : Int) = 0 by decide] at y5
  obtain ⟨zf, zb, hzx, z1, z2, z3, z4, _, _⟩ := hz.cells
  obtain ⟨vf, vb, hvx, v1, v2', v3, v4, _, _⟩ := hv2.cells
  clear hE hy hz hv2 ht1 ht2 hty htz htv
  subst hyx hzx hvx
  simp only [exA, exB, exC, nF1, nF2, nF3, nB1, nB2, Id.av, Ndl.av, nilS, noBeds] at hfind hck hat2 hat1 hcn hj1 hj2 hj3 hj4 hay hs1 haz hs2 hset1 hset2 hav hs3 hcv
  have hpX : partA exX 0 2 true = some exX := part_flat ⟨_, rfl, rfl⟩
  have hcX : exX.cells.length = 2 := rfl
  have hsX : exX.stor = true := rfl
  have hXe : AV.agg [.list 1 true [.val (.slice none 0 0), .list 2 true [(.agg [.val (.int .u8 1), .val (.int .i64 0)]), (.agg [.val (.int .u8 1), .val (.int .i64 1)])]], .list 1 true [.val (.slice none 0 0), .list 2 true [(.agg [.val (.int .u8 2), .val (.int .i64 0)])]]] = exX := rfl
  refine k17.call mix ?_
  unfold c17
  refine seq_go ?_
  (repeat' first
    | simp (contextual := true) (maxSteps := 4000000) only [fwc, fwe, fww, reduceIte, ↓reduceIte, Nat.reduceAdd, Nat.reduceLeDiff, Nat.reduceEqDiff, Nat.reduceLT, Nat.reduceSub, reduceCtorEq, Int.reduceEq, Int.reduceLT, Int.reduceLE, Int.reduceNeg, Int.reduceToNat, Int.reduceAdd, Int.reduceSub, Nat.reduceMul, part_cell, part_agg, *]
    | (refine retK_now ?_)
    | (refine retK_now' ?_)
    | (intro q hq)
    | (refine cond_intro (fun hc => ?_) (fun hc => ?_)))
  refine seqK_now ?_
  refine seq_go ?_
  (repeat' first
    | simp (contextual := true) (maxSteps := 4000000) only [fwc, fwe, fww, reduceIte, ↓reduceIte, Nat.reduceAdd, Nat.reduceLeDiff, Nat.reduceEqDiff, Nat.reduceLT, Nat.reduceSub, reduceCtorEq, Int.reduceEq, Int.reduceLT, Int.reduceLE, Int.reduceNeg, Int.reduceToNat, Int.reduceAdd, Int.reduceSub, Nat.reduceMul, part_cell, part_agg, *]
    | (refine retK_now ?_)
    | (refine retK_now' ?_)
    | (intro q hq)
    | (refine cond_intro (fun hc => ?_) (fun hc => ?_)))
  rename_i q1 hq1 q2 hq2
  revert q
  intro q3 hq3
  refine seqK_now ?_
  refine cmd_gen (fun H => O.sub H ∧ H q1 = some (.arr 28 2 [(.agg [.val (.int .u8 1), .val (.int .i64 0)])]) ∧ H q2 = some (.arr 28 2 [(.agg [.val (.int .u8 1), .val (.int .i64 1)])]) ∧ H q3 = some (.arr 28 2 [(.agg [.val (.int .u8 2), .val (.int .i64 0)])])) ⟨sub_upd (hq3.2.2.2.2) (sub_upd (hq2.2.2) (sub_upd (hq1) (sub_upd (hq3.2.2.2.2) (sub_upd (hq2.2.2) (sub_upd (hq1) (Heap.sub_refl _)))))), by simp only [Heap.upd_apply, *, if_true, if_false], by simp only [Heap.upd_apply, *, if_true, if_false], by simp only [Heap.upd_apply, *, if_true, if_false]⟩ ?_
  clear hq1 hq2 hq3
  intro H1 hF
  obtain ⟨s0, f1, f2, f3⟩ := hF
  replace s0 := (show Aside _ from s0)
  refine seq_go ?_
  (repeat' first
    | simp (contextual := true) (maxSteps := 4000000) only [fwc, fwe, fww, reduceIte, ↓reduceIte, Nat.reduceAdd, Nat.reduceLeDiff, Nat.reduceEqDiff, Nat.reduceLT, Nat.reduceSub, reduceCtorEq, Int.reduceEq, Int.reduceLT, Int.reduceLE, Int.reduceNeg, Int.reduceToNat, Int.reduceAdd, Int.reduceSub, Nat.reduceMul, part_cell, part_agg, *]
    | (refine retK_now ?_)
    | (refine retK_now' ?_)
    | (intro q hq)
    | (refine cond_intro (fun hc => ?_) (fun hc => ?_)))
  revert q
  intro q4 hq4
  refine seqK_now ?_
  refine cmd_gen (fun H => O.sub H ∧ H q1 = some (.arr 28 2 [(.agg [.val (.int .u8 1), .val (.int .i64 0)])]) ∧ H q2 = some (.arr 28 2 [(.agg [.val (.int .u8 1), .val (.int .i64 1)])]) ∧ H q3 = some (.arr 28 2 [(.agg [.val (.int .u8 2), .val (.int .i64 0)])]) ∧ H q4 = some (.arr 35 2 [exX])) ⟨sub_new s0.out hq4, upd_keep hq4 f1, upd_keep hq4 f2, upd_keep hq4 f3, Heap.upd_same _ _ _⟩ ?_
  clear hq4 f1 f2 f3 s0 H1
  intro H2 hF
  obtain ⟨s0, f1, f2, f3, f4⟩ := hF
  replace s0 := (show Aside _ from s0)
  refine seq_go ?_
  (repeat' first
    | simp (contextual := true) (maxSteps := 4000000) only [fwc, fwe, fww, reduceIte, ↓reduceIte, Nat.reduceAdd, Nat.reduceLeDiff, Nat.reduceEqDiff, Nat.reduceLT, Nat.reduceSub, reduceCtorEq, Int.reduceEq, Int.reduceLT, Int.reduceLE, Int.reduceNeg, Int.reduceToNat, Int.reduceAdd, Int.reduceSub, Nat.reduceMul, part_cell, part_agg, *]
    | (refine retK_now ?_)
    | (refine retK_now' ?_)
    | (intro q hq)
    | (refine cond_intro (fun hc => ?_) (fun hc => ?_)))
  rename_i q5 hq5 q6 hq6
  revert q
  intro q7 hq7
  have g15 := ne_of f1 (hq5)
  have g16 := ne_of f1 (hq6.2.2)
  have g17 := ne_of f1 (hq7.2.2.2.2)
  have g25 := ne_of f2 (hq5)
  have g26 := ne_of f2 (hq6.2.2)
  have g27 := ne_of f2 (hq7.2.2.2.2)
  have g35 := ne_of f3 (hq5)
  have g36 := ne_of f3 (hq6.2.2)
  have g37 := ne_of f3 (hq7.2.2.2.2)
  have g45 := ne_of f4 (hq5)
  have g46 := ne_of f4 (hq6.2.2)
  have g47 := ne_of f4 (hq7.2.2.2.2)
  refine seqK_now ?_
  refine cmd_gen (fun H => O.sub H ∧ H q1 = some (.arr 28 2 [(.agg [.val (.int .u8 1), .val (.int .i64 0)])]) ∧ H q2 = some (.arr 28 2 [(.agg [.val (.int .u8 1), .val (.int .i64 1)])]) ∧ H q3 = some (.arr 28 2 [(.agg [.val (.int .u8 2), .val (.int .i64 0)])]) ∧ H q4 = some (.arr 35 2 [exX]) ∧ H q5 = some (.arr 26 2 [(.agg [.val (.int .u8 0), .val (.int .i64 1)])]) ∧ H q6 = some (.arr 26 2 [(.agg [.val (.int .u8 0), .val (.int .i64 2)])]) ∧ H q7 = some (.arr 26 2 [(.agg [.val (.int .u8 1), .val (.int .i64 2)])])) ⟨sub_upd (none_of_sub s0.out (hq7.2.2.2.2)) (sub_upd (none_of_sub s0.out (hq6.2.2)) (sub_upd (none_of_sub s0.out (hq5)) (sub_new (sub_new (sub_new s0.out hq5) (by simp only [Heap.upd_apply, *, if_false])) (by simp only [Heap.upd_apply, *, if_false])))), by simp only [Heap.upd_apply, *, if_true, if_false], by simp only [Heap.upd_apply, *, if_true, if_false], by simp only [Heap.upd_apply, *, if_true, if_false], by simp only [Heap.upd_apply, *, if_true, if_false], by simp only [Heap.upd_apply, *, if_true, if_false], by simp only [Heap.upd_apply, *, if_true, if_false], by simp only [Heap.upd_apply, *, if_true, if_false]⟩ ?_
  clear g15 g16 g17 g25 g26 g27 g35 g36 g37 g45 g46 g47 hq5 hq6 hq7 f1 f2 f3 f4 s0 H2
  intro H3 hF
  obtain ⟨s0, f1, f2, f3, f4, f5, f6, f7⟩ := hF
  replace s0 := (show Aside _ from s0)
  refine seq_go ?_
  (repeat' first
    | simp (contextual := true) (maxSteps := 4000000) only [fwc, fwe, fww, reduceIte, ↓reduceIte, Nat.reduceAdd, Nat.reduceLeDiff, Nat.reduceEqDiff, Nat.reduceLT, Nat.reduceSub, reduceCtorEq, Int.reduceEq, Int.reduceLT, Int.reduceLE, Int.reduceNeg, Int.reduceToNat, Int.reduceAdd, Int.reduceSub, Nat.reduceMul, part_cell, part_agg, *]
    | (refine retK_now ?_)
    | (refine retK_now' ?_)
    | (intro q hq)
    | (refine cond_intro (fun hc => ?_) (fun hc => ?_)))
  refine hfind.use ?_
  clear hfind
  (repeat' first
    | simp (contextual := true) (maxSteps := 4000000) only [fwc, fwe, fww, reduceIte, ↓reduceIte, Nat.reduceAdd, Nat.reduceLeDiff, Nat.reduceEqDiff, Nat.reduceLT, Nat.reduceSub, reduceCtorEq, Int.reduceEq, Int.reduceLT, Int.reduceLE, Int.reduceNeg, Int.reduceToNat, Int.reduceAdd, Int.reduceSub, Nat.reduceMul, part_cell, part_agg, *]
    | (refine retK_now ?_)
    | (refine retK_now' ?_)
    | (intro q hq)
    | (refine cond_intro (fun hc => ?_) (fun hc => ?_)))
  revert q
  intro q8 hq8
  refine seqK_now ?_
  refine cmd_gen (fun H => O.sub H ∧ H q1 = some (.arr 28 2 [(.agg [.val (.int .u8 1), .val (.int .i64 0)])]) ∧ H q2 = some (.arr 28 2 [(.agg [.val (.int .u8 1), .val (.int .i64 1)])]) ∧ H q3 = some (.arr 28 2 [(.agg [.val (.int .u8 2), .val (.int .i64 0)])]) ∧ H q4 = some (.arr 35 2 [exX]) ∧ H q5 = some (.arr 26 2 [(.agg [.val (.int .u8 0), .val (.int .i64 1)])]) ∧ H q6 = some (.arr 26 2 [(.agg [.val (.int .u8 0), .val (.int .i64 2)])]) ∧ H q7 = some (.arr 26 2 [(.agg [.val (.int .u8 1), .val (.int .i64 2)])]) ∧ H q8 = some (.arr 26 2 [(.agg [.val (.int .u8 1), .val (.int .i64 2)])])) ⟨sub_new s0.out hq8, upd_keep hq8 f1, upd_keep hq8 f2, upd_keep hq8 f3, upd_keep hq8 f4, upd_keep hq8 f5, upd_keep hq8 f6, upd_keep hq8 f7, Heap.upd_same _ _ _⟩ ?_
  clear hq8 f1 f2 f3 f4 f5 f6 f7 s0 H3
  intro H4 hF
  obtain ⟨s0, f1, f2, f3, f4, f5, f6, f7, f8⟩ := hF
  replace s0 := (show Aside _ from s0)
  refine seq_go ?_
  refine seq_go ?_
  (repeat' first
    | simp (contextual := true) (maxSteps := 4000000) only [fwc, fwe, fww, reduceIte, ↓reduceIte, Nat.reduceAdd, Nat.reduceLeDiff, Nat.reduceEqDiff, Nat.reduceLT, Nat.reduceSub, reduceCtorEq, Int.reduceEq, Int.reduceLT, Int.reduceLE, Int.reduceNeg, Int.reduceToNat, Int.reduceAdd, Int.reduceSub, Nat.reduceMul, part_cell, part_agg, *]
    | (refine retK_now ?_)
    | (refine retK_now' ?_)
    | (intro q hq)
    | (refine cond_intro (fun hc => ?_) (fun hc => ?_)))
  refine hck.use ?_
  clear hck
  (repeat' first
    | simp (contextual := true) (maxSteps := 4000000) only [fwc, fwe, fww, reduceIte, ↓reduceIte, Nat.reduceAdd, Nat.reduceLeDiff, Nat.reduceEqDiff, Nat.reduceLT, Nat.reduceSub, reduceCtorEq, Int.reduceEq, Int.reduceLT, Int.reduceLE, Int.reduceNeg, Int.reduceToNat, Int.reduceAdd, Int.reduceSub, Nat.reduceMul, part_cell, part_agg, *]
    | (refine retK_now ?_)
    | (refine retK_now' ?_)
    | (intro q hq)
    | (refine cond_intro (fun hc => ?_) (fun hc => ?_)))
  refine hat2.use ?_
  clear hat2
  (repeat' first
    | simp (contextual := true) (maxSteps := 4000000) only [fwc, fwe, fww, reduceIte, ↓reduceIte, Nat.reduceAdd, Nat.reduceLeDiff, Nat.reduceEqDiff, Nat.reduceLT, Nat.reduceSub, reduceCtorEq, Int.reduceEq, Int.reduceLT, Int.reduceLE, Int.reduceNeg, Int.reduceToNat, Int.reduceAdd, Int.reduceSub, Nat.reduceMul, part_cell, part_agg, *]
    | (refine retK_now ?_)
    | (refine retK_now' ?_)
    | (intro q hq)
    | (refine cond_intro (fun hc => ?_) (fun hc => ?_)))
  refine hat1.use ?_
  clear hat1
  (repeat' first
    | simp (contextual := true) (maxSteps := 4000000) only [fwc, fwe, fww, reduceIte, ↓reduceIte, Nat.reduceAdd, Nat.reduceLeDiff, Nat.reduceEqDiff, Nat.reduceLT, Nat.reduceSub, reduceCtorEq, Int.reduceEq, Int.reduceLT, Int.reduceLE, Int.reduceNeg, Int.reduceToNat, Int.reduceAdd, Int.reduceSub, Nat.reduceMul, part_cell, part_agg, *]
    | (refine retK_now ?_)
    | (refine retK_now' ?_)
    | (intro q hq)
    | (refine cond_intro (fun hc => ?_) (fun hc => ?_)))
  refine hcn.use ?_
  clear hcn
  (repeat' first
    | simp (contextual := true) (maxSteps := 4000000) only [fwc, fwe, fww, reduceIte, ↓reduceIte, Nat.reduceAdd, Nat.reduceLeDiff, Nat.reduceEqDiff, Nat.reduceLT, Nat.reduceSub, reduceCtorEq, Int.reduceEq, Int.reduceLT, Int.reduceLE, Int.reduceNeg, Int.reduceToNat, Int.reduceAdd, Int.reduceSub, Nat.reduceMul, part_cell, part_agg, *]
    | (refine retK_now ?_)
    | (refine retK_now' ?_)
    | (intro q hq)
    | (refine cond_intro (fun hc => ?_) (fun hc => ?_)))
  refine seqK_now ?_
  (repeat' first
    | simp (contextual := true) (maxSteps := 4000000) only [fwc, fwe, fww, reduceIte, ↓reduceIte, Nat.reduceAdd, Nat.reduceLeDiff, Nat.reduceEqDiff, Nat.reduceLT, Nat.reduceSub, reduceCtorEq, Int.reduceEq, Int.reduceLT, Int.reduceLE, Int.reduceNeg, Int.reduceToNat, Int.reduceAdd, Int.reduceSub, Nat.reduceMul, part_cell, part_agg, *]
    | (refine retK_now ?_)
    | (refine retK_now' ?_)
    | (intro q hq)
    | (refine cond_intro (fun hc => ?_) (fun hc => ?_)))
  refine seqK_now ?_
  clear f8
  refine seq_go ?_
  (repeat' first
    | simp (contextual := true) (maxSteps := 4000000) only [fwc, fwe, fww, reduceIte, ↓reduceIte, Nat.reduceAdd, Nat.reduceLeDiff, Nat.reduceEqDiff, Nat.reduceLT, Nat.reduceSub, reduceCtorEq, Int.reduceEq, Int.reduceLT, Int.reduceLE, Int.reduceNeg, Int.reduceToNat, Int.reduceAdd, Int.reduceSub, Nat.reduceMul, part_cell, part_agg, *]
    | (refine retK_now ?_)
    | (refine retK_now' ?_)
    | (intro q hq)
    | (refine cond_intro (fun hc => ?_) (fun hc => ?_)))
  refine hj1.use ?_
  clear hj1
  (repeat' first
    | simp (contextual := true) (maxSteps := 4000000) only [fwc, fwe, fww, reduceIte, ↓reduceIte, Nat.reduceAdd, Nat.reduceLeDiff, Nat.reduceEqDiff, Nat.reduceLT, Nat.reduceSub, reduceCtorEq, Int.reduceEq, Int.reduceLT, Int.reduceLE, Int.reduceNeg, Int.reduceToNat, Int.reduceAdd, Int.reduceSub, Nat.reduceMul, part_cell, part_agg, *]
    | (refine retK_now ?_)
    | (refine retK_now' ?_)
    | (intro q hq)
    | (refine cond_intro (fun hc => ?_) (fun hc => ?_)))
  revert q
  intro q10 hq10
  refine seqK_now ?_
  refine cmd_gen (fun H => O.sub H ∧ H q1 = some (.arr 28 2 [(.agg [.val (.int .u8 1), .val (.int .i64 0)])]) ∧ H q2 = some (.arr 28 2 [(.agg [.val (.int .u8 1), .val (.int .i64 1)])]) ∧ H q3 = some (.arr 28 2 [(.agg [.val (.int .u8 2), .val (.int .i64 0)])]) ∧ H q4 = some (.arr 35 2 [exX]) ∧ H q5 = some (.arr 26 2 [(.agg [.val (.int .u8 0), .val (.int .i64 1)])]) ∧ H q6 = some (.arr 26 2 [(.agg [.val (.int .u8 0), .val (.int .i64 2)])]) ∧ H q7 = some (.arr 26 2 [(.agg [.val (.int .u8 1), .val (.int .i64 2)])]) ∧ H q10 = some (.arr 35 2 [.agg [yf, yb]]) ∧ O q10 = none) ⟨sub_new s0.out hq10, upd_keep hq10 f1, upd_keep hq10 f2, upd_keep hq10 f3, upd_keep hq10 f4, upd_keep hq10 f5, upd_keep hq10 f6, upd_keep hq10 f7, Heap.upd_same _ _ _, none_of_sub s0.out hq10⟩ ?_
  clear hq10 f1 f2 f3 f4 f5 f6 f7 s0 H4
  intro H5 hF
  obtain ⟨s0, f1, f2, f3, f4, f5, f6, f7, f10, ho10⟩ := hF
  replace s0 := (show Aside _ from s0)
  refine seq_go ?_
  (repeat' first
    | simp (contextual := true) (maxSteps := 4000000) only [fwc, fwe, fww, reduceIte, ↓reduceIte, Nat.reduceAdd, Nat.reduceLeDiff, Nat.reduceEqDiff, Nat.reduceLT, Nat.reduceSub, reduceCtorEq, Int.reduceEq, Int.reduceLT, Int.reduceLE, Int.reduceNeg, Int.reduceToNat, Int.reduceAdd, Int.reduceSub, Nat.reduceMul, part_cell, part_agg, *]
    | (refine retK_now ?_)
    | (refine retK_now' ?_)
    | (intro q hq)
    | (refine cond_intro (fun hc => ?_) (fun hc => ?_)))
  refine hj2.use ?_
  clear hj2
  (repeat' first
    | simp (contextual := true) (maxSteps := 4000000) only [fwc, fwe, fww, reduceIte, ↓reduceIte, Nat.reduceAdd, Nat.reduceLeDiff, Nat.reduceEqDiff, Nat.reduceLT, Nat.reduceSub, reduceCtorEq, Int.reduceEq, Int.reduceLT, Int.reduceLE, Int.reduceNeg, Int.reduceToNat, Int.reduceAdd, Int.reduceSub, Nat.reduceMul, part_cell, part_agg, *]
    | (refine retK_now ?_)
    | (refine retK_now' ?_)
    | (intro q hq)
    | (refine cond_intro (fun hc => ?_) (fun hc => ?_)))
  revert q
  intro q11 hq11
  refine seqK_now ?_
  refine cmd_gen (fun H => O.sub H ∧ H q1 = some (.arr 28 2 [(.agg [.val (.int .u8 1), .val (.int .i64 0)])]) ∧ H q2 = some (.arr 28 2 [(.agg [.val (.int .u8 1), .val (.int .i64 1)])]) ∧ H q3 = some (.arr 28 2 [(.agg [.val (.int .u8 2), .val (.int .i64 0)])]) ∧ H q4 = some (.arr 35 2 [exX]) ∧ H q5 = some (.arr 26 2 [(.agg [.val (.int .u8 0), .val (.int .i64 1)])]) ∧ H q6 = some (.arr 26 2 [(.agg [.val (.int .u8 0), .val (.int .i64 2)])]) ∧ H q7 = some (.arr 26 2 [(.agg [.val (.int .u8 1), .val (.int .i64 2)])]) ∧ H q10 = some (.arr 35 2 [.agg [yf, yb]]) ∧ H q11 = some (.arr 35 2 [.agg [zf, zb]]) ∧ O q10 = none) ⟨sub_new s0.out hq11, upd_keep hq11 f1, upd_keep hq11 f2, upd_keep hq11 f3, upd_keep hq11 f4, upd_keep hq11 f5, upd_keep hq11 f6, upd_keep hq11 f7, upd_keep hq11 f10, Heap.upd_same _ _ _, ho10⟩ ?_
  clear hq11 f1 f2 f3 f4 f5 f6 f7 f10 s0 H5 ho10
  intro H6 hF
  obtain ⟨s0, f1, f2, f3, f4, f5, f6, f7, f10, f11, ho10⟩ := hF
  replace s0 := (show Aside _ from s0)
  refine seq_go ?_
  (repeat' first
    | simp (contextual := true) (maxSteps := 4000000) only [fwc, fwe, fww, reduceIte, ↓reduceIte, Nat.reduceAdd, Nat.reduceLeDiff, Nat.reduceEqDiff, Nat.reduceLT, Nat.reduceSub, reduceCtorEq, Int.reduceEq, Int.reduceLT, Int.reduceLE, Int.reduceNeg, Int.reduceToNat, Int.reduceAdd, Int.reduceSub, Nat.reduceMul, part_cell, part_agg, *]
    | (refine retK_now ?_)
    | (refine retK_now' ?_)
    | (intro q hq)
    | (refine cond_intro (fun hc => ?_) (fun hc => ?_)))
  refine hj3.use ?_
  clear hj3
  (repeat' first
    | simp (contextual := true) (maxSteps := 4000000) only [fwc, fwe, fww, reduceIte, ↓reduceIte, Nat.reduceAdd, Nat.reduceLeDiff, Nat.reduceEqDiff, Nat.reduceLT, Nat.reduceSub, reduceCtorEq, Int.reduceEq, Int.reduceLT, Int.reduceLE, Int.reduceNeg, Int.reduceToNat, Int.reduceAdd, Int.reduceSub, Nat.reduceMul, part_cell, part_agg, *]
    | (refine retK_now ?_)
    | (refine retK_now' ?_)
    | (intro q hq)
    | (refine cond_intro (fun hc => ?_) (fun hc => ?_)))
  revert q
  intro q13 hq13
  refine seqK_now ?_
  refine cmd_gen (fun H => O.sub H ∧ H q1 = some (.arr 28 2 [(.agg [.val (.int .u8 1), .val (.int .i64 0)])]) ∧ H q2 = some (.arr 28 2 [(.agg [.val (.int .u8 1), .val (.int .i64 1)])]) ∧ H q3 = some (.arr 28 2 [(.agg [.val (.int .u8 2), .val (.int .i64 0)])]) ∧ H q4 = some (.arr 35 2 [exX]) ∧ H q5 = some (.arr 26 2 [(.agg [.val (.int .u8 0), .val (.int .i64 1)])]) ∧ H q6 = some (.arr 26 2 [(.agg [.val (.int .u8 0), .val (.int .i64 2)])]) ∧ H q7 = some (.arr 26 2 [(.agg [.val (.int .u8 1), .val (.int .i64 2)])]) ∧ H q10 = some (.arr 35 2 [.agg [yf, yb]]) ∧ H q11 = some (.arr 35 2 [.agg [zf, zb]]) ∧ O q10 = none) ⟨sub_new s0.out hq13, upd_keep hq13 f1, upd_keep hq13 f2, upd_keep hq13 f3, upd_keep hq13 f4, upd_keep hq13 f5, upd_keep hq13 f6, upd_keep hq13 f7, upd_keep hq13 f10, upd_keep hq13 f11, ho10⟩ ?_
  clear hq13 f1 f2 f3 f4 f5 f6 f7 f10 f11 s0 H6 ho10
  intro H7 hF
  obtain ⟨s0, f1, f2, f3, f4, f5, f6, f7, f10, f11, ho10⟩ := hF
  replace s0 := (show Aside _ from s0)
  refine seq_go ?_
  (repeat' first
    | simp (contextual := true) (maxSteps := 4000000) only [fwc, fwe, fww, reduceIte, ↓reduceIte, Nat.reduceAdd, Nat.reduceLeDiff, Nat.reduceEqDiff, Nat.reduceLT, Nat.reduceSub, reduceCtorEq, Int.reduceEq, Int.reduceLT, Int.reduceLE, Int.reduceNeg, Int.reduceToNat, Int.reduceAdd, Int.reduceSub, Nat.reduceMul, part_cell, part_agg, *]
    | (refine retK_now ?_)
    | (refine retK_now' ?_)
    | (intro q hq)
    | (refine cond_intro (fun hc => ?_) (fun hc => ?_)))
  refine hj4.use ?_
  clear hj4
  (repeat' first
    | simp (contextual := true) (maxSteps := 4000000) only [fwc, fwe, fww, reduceIte, ↓reduceIte, Nat.reduceAdd, Nat.reduceLeDiff, Nat.reduceEqDiff, Nat.reduceLT, Nat.reduceSub, reduceCtorEq, Int.reduceEq, Int.reduceLT, Int.reduceLE, Int.reduceNeg, Int.reduceToNat, Int.reduceAdd, Int.reduceSub, Nat.reduceMul, part_cell, part_agg, *]
    | (refine retK_now ?_)
    | (refine retK_now' ?_)
    | (intro q hq)
    | (refine cond_intro (fun hc => ?_) (fun hc => ?_)))
  revert q
  intro q15 hq15
  refine seqK_now ?_
  refine cmd_gen (fun H => O.sub H ∧ H q1 = some (.arr 28 2 [(.agg [.val (.int .u8 1), .val (.int .i64 0)])]) ∧ H q2 = some (.arr 28 2 [(.agg [.val (.int .u8 1), .val (.int .i64 1)])]) ∧ H q3 = some (.arr 28 2 [(.agg [.val (.int .u8 2), .val (.int .i64 0)])]) ∧ H q4 = some (.arr 35 2 [exX]) ∧ H q5 = some (.arr 26 2 [(.agg [.val (.int .u8 0), .val (.int .i64 1)])]) ∧ H q6 = some (.arr 26 2 [(.agg [.val (.int .u8 0), .val (.int .i64 2)])]) ∧ H q7 = some (.arr 26 2 [(.agg [.val (.int .u8 1), .val (.int .i64 2)])]) ∧ H q10 = some (.arr 35 2 [.agg [yf, yb]]) ∧ H q11 = some (.arr 35 2 [.agg [zf, zb]]) ∧ O q10 = none) ⟨sub_new s0.out hq15, upd_keep hq15 f1, upd_keep hq15 f2, upd_keep hq15 f3, upd_keep hq15 f4, upd_keep hq15 f5, upd_keep hq15 f6, upd_keep hq15 f7, upd_keep hq15 f10, upd_keep hq15 f11, ho10⟩ ?_
  clear hq15 f1 f2 f3 f4 f5 f6 f7 f10 f11 s0 H7 ho10
  intro H8 hF
  obtain ⟨s0, f1, f2, f3, f4, f5, f6, f7, f10, f11, ho10⟩ := hF
  replace s0 := (show Aside _ from s0)
  refine seq_go ?_
  refine seq_go ?_
  (repeat' first
    | simp (contextual := true) (maxSteps := 4000000) only [fwc, fwe, fww, reduceIte, ↓reduceIte, Nat.reduceAdd, Nat.reduceLeDiff, Nat.reduceEqDiff, Nat.reduceLT, Nat.reduceSub, reduceCtorEq, Int.reduceEq, Int.reduceLT, Int.reduceLE, Int.reduceNeg, Int.reduceToNat, Int.reduceAdd, Int.reduceSub, Nat.reduceMul, part_cell, part_agg, *]
    | (refine retK_now ?_)
    | (refine retK_now' ?_)
    | (intro q hq)
    | (refine cond_intro (fun hc => ?_) (fun hc => ?_)))
  refine callF_use hay ?_
  clear hay
  (repeat' first
    | simp (contextual := true) (maxSteps := 4000000) only [fwc, fwe, fww, reduceIte, ↓reduceIte, Nat.reduceAdd, Nat.reduceLeDiff, Nat.reduceEqDiff, Nat.reduceLT, Nat.reduceSub, reduceCtorEq, Int.reduceEq, Int.reduceLT, Int.reduceLE, Int.reduceNeg, Int.reduceToNat, Int.reduceAdd, Int.reduceSub, Nat.reduceMul, part_cell, part_agg, *]
    | (refine retK_now ?_)
    | (refine retK_now' ?_)
    | (intro q hq)
    | (refine cond_intro (fun hc => ?_) (fun hc => ?_)))
  refine callF_use hs1 ?_
  clear hs1
  (repeat' first
    | simp (contextual := true) (maxSteps := 4000000) only [fwc, fwe, fww, reduceIte, ↓reduceIte, Nat.reduceAdd, Nat.reduceLeDiff, Nat.reduceEqDiff, Nat.reduceLT, Nat.reduceSub, reduceCtorEq, Int.reduceEq, Int.reduceLT, Int.reduceLE, Int.reduceNeg, Int.reduceToNat, Int.reduceAdd, Int.reduceSub, Nat.reduceMul, part_cell, part_agg, *]
    | (refine retK_now ?_)
    | (refine retK_now' ?_)
    | (intro q hq)
    | (refine cond_intro (fun hc => ?_) (fun hc => ?_)))
  refine callF_use haz ?_
  clear haz
  (repeat' first
    | simp (contextual := true) (maxSteps := 4000000) only [fwc, fwe, fww, reduceIte, ↓reduceIte, Nat.reduceAdd, Nat.reduceLeDiff, Nat.reduceEqDiff, Nat.reduceLT, Nat.reduceSub, reduceCtorEq, Int.reduceEq, Int.reduceLT, Int.reduceLE, Int.reduceNeg, Int.reduceToNat, Int.reduceAdd, Int.reduceSub, Nat.reduceMul, part_cell, part_agg, *]
    | (refine retK_now ?_)
    | (refine retK_now' ?_)
    | (intro q hq)
    | (refine cond_intro (fun hc => ?_) (fun hc => ?_)))
  refine callF_use hs2 ?_
  clear hs2
  (repeat' first
    | simp (contextual := true) (maxSteps := 4000000) only [fwc, fwe, fww, reduceIte, ↓reduceIte, Nat.reduceAdd, Nat.reduceLeDiff, Nat.reduceEqDiff, Nat.reduceLT, Nat.reduceSub, reduceCtorEq, Int.reduceEq, Int.reduceLT, Int.reduceLE, Int.reduceNeg, Int.reduceToNat, Int.reduceAdd, Int.reduceSub, Nat.reduceMul, part_cell, part_agg, *]
    | (refine retK_now ?_)
    | (refine retK_now' ?_)
    | (intro q hq)
    | (refine cond_intro (fun hc => ?_) (fun hc => ?_)))
  refine seqK_now ?_
  (repeat' first
    | simp (contextual := true) (maxSteps := 4000000) only [fwc, fwe, fww, reduceIte, ↓reduceIte, Nat.reduceAdd, Nat.reduceLeDiff, Nat.reduceEqDiff, Nat.reduceLT, Nat.reduceSub, reduceCtorEq, Int.reduceEq, Int.reduceLT, Int.reduceLE, Int.reduceNeg, Int.reduceToNat, Int.reduceAdd, Int.reduceSub, Nat.reduceMul, part_cell, part_agg, *]
    | (refine retK_now ?_)
    | (refine retK_now' ?_)
    | (intro q hq)
    | (refine cond_intro (fun hc => ?_) (fun hc => ?_)))
  refine seqK_now ?_
  refine seq_go ?_
  (repeat' first
    | simp (contextual := true) (maxSteps := 4000000) only [fwc, fwe, fww, reduceIte, ↓reduceIte, Nat.reduceAdd, Nat.reduceLeDiff, Nat.reduceEqDiff, Nat.reduceLT, Nat.reduceSub, reduceCtorEq, Int.reduceEq, Int.reduceLT, Int.reduceLE, Int.reduceNeg, Int.reduceToNat, Int.reduceAdd, Int.reduceSub, Nat.reduceMul, part_cell, part_agg, *]
    | (refine retK_now ?_)
    | (refine retK_now' ?_)
    | (intro q hq)
    | (refine cond_intro (fun hc => ?_) (fun hc => ?_)))
  refine hset1.use ?_
  clear hset1
  (repeat' first
    | simp (contextual := true) (maxSteps := 4000000) only [fwc, fwe, fww, reduceIte, ↓reduceIte, Nat.reduceAdd, Nat.reduceLeDiff, Nat.reduceEqDiff, Nat.reduceLT, Nat.reduceSub, reduceCtorEq, Int.reduceEq, Int.reduceLT, Int.reduceLE, Int.reduceNeg, Int.reduceToNat, Int.reduceAdd, Int.reduceSub, Nat.reduceMul, part_cell, part_agg, *]
    | (refine retK_now ?_)
    | (refine retK_now' ?_)
    | (intro q hq)
    | (refine cond_intro (fun hc => ?_) (fun hc => ?_)))
  refine seqK_now ?_
  refine seq_go ?_
  (repeat' first
    | simp (contextual := true) (maxSteps := 4000000) only [fwc, fwe, fww, reduceIte, ↓reduceIte, Nat.reduceAdd, Nat.reduceLeDiff, Nat.reduceEqDiff, Nat.reduceLT, Nat.reduceSub, reduceCtorEq, Int.reduceEq, Int.reduceLT, Int.reduceLE, Int.reduceNeg, Int.reduceToNat, Int.reduceAdd, Int.reduceSub, Nat.reduceMul, part_cell, part_agg, *]
    | (refine retK_now ?_)
    | (refine retK_now' ?_)
    | (intro q hq)
    | (refine cond_intro (fun hc => ?_) (fun hc => ?_)))
  refine hset2.use ?_
  clear hset2
  (repeat' first
    | simp (contextual := true) (maxSteps := 4000000) only [fwc, fwe, fww, reduceIte, ↓reduceIte, Nat.reduceAdd, Nat.reduceLeDiff, Nat.reduceEqDiff, Nat.reduceLT, Nat.reduceSub, reduceCtorEq, Int.reduceEq, Int.reduceLT, Int.reduceLE, Int.reduceNeg, Int.reduceToNat, Int.reduceAdd, Int.reduceSub, Nat.reduceMul, part_cell, part_agg, *]
    | (refine retK_now ?_)
    | (refine retK_now' ?_)
    | (intro q hq)
    | (refine cond_intro (fun hc => ?_) (fun hc => ?_)))
  refine seqK_now ?_
  have e1 : ¬ q2 = q10 := fun e => by rw [e, f10] at f2; simp at f2
  have e2 : ¬ q6 = q10 := fun e => by rw [e, f10] at f6; simp at f6
  replace ho10 := (show Aside _ from ho10)
  refine seq_go ?_
  (repeat' first
    | simp (contextual := true) (maxSteps := 4000000) only [fwc, fwe, fww, reduceIte, ↓reduceIte, Nat.reduceAdd, Nat.reduceLeDiff, Nat.reduceEqDiff, Nat.reduceLT, Nat.reduceSub, reduceCtorEq, Int.reduceEq, Int.reduceLT, Int.reduceLE, Int.reduceNeg, Int.reduceToNat, Int.reduceAdd, Int.reduceSub, Nat.reduceMul, part_cell, part_agg, *]
    | (refine retK_now ?_)
    | (refine retK_now' ?_)
    | (intro q hq)
    | (refine cond_intro (fun hc => ?_) (fun hc => ?_)))
  refine callF_use hav ?_
  clear hav
  (repeat' first
    | simp (contextual := true) (maxSteps := 4000000) only [fwc, fwe, fww, reduceIte, ↓reduceIte, Nat.reduceAdd, Nat.reduceLeDiff, Nat.reduceEqDiff, Nat.reduceLT, Nat.reduceSub, reduceCtorEq, Int.reduceEq, Int.reduceLT, Int.reduceLE, Int.reduceNeg, Int.reduceToNat, Int.reduceAdd, Int.reduceSub, Nat.reduceMul, part_cell, part_agg, *]
    | (refine retK_now ?_)
    | (refine retK_now' ?_)
    | (intro q hq)
    | (refine cond_intro (fun hc => ?_) (fun hc => ?_)))
  refine callF_use hs3 ?_
  clear hs3
  (repeat' first
    | simp (contextual := true) (maxSteps := 4000000) only [fwc, fwe, fww, reduceIte, ↓reduceIte, Nat.reduceAdd, Nat.reduceLeDiff, Nat.reduceEqDiff, Nat.reduceLT, Nat.reduceSub, reduceCtorEq, Int.reduceEq, Int.reduceLT, Int.reduceLE, Int.reduceNeg, Int.reduceToNat, Int.reduceAdd, Int.reduceSub, Nat.reduceMul, part_cell, part_agg, *]
    | (refine retK_now ?_)
    | (refine retK_now' ?_)
    | (intro q hq)
    | (refine cond_intro (fun hc => ?_) (fun hc => ?_)))
  refine callF_use hcv ?_
  clear hcv
  (repeat' first
    | simp (contextual := true) (maxSteps := 4000000) only [fwc, fwe, fww, reduceIte, ↓reduceIte, Nat.reduceAdd, Nat.reduceLeDiff, Nat.reduceEqDiff, Nat.reduceLT, Nat.reduceSub, reduceCtorEq, Int.reduceEq, Int.reduceLT, Int.reduceLE, Int.reduceNeg, Int.reduceToNat, Int.reduceAdd, Int.reduceSub, Nat.reduceMul, part_cell, part_agg, *]
    | (refine retK_now ?_)
    | (refine retK_now' ?_)
    | (intro q hq)
    | (refine cond_intro (fun hc => ?_) (fun hc => ?_)))
  refine seqK_now ?_
  (repeat' first
    | simp (contextual := true) (maxSteps := 4000000) only [fwc, fwe, fww, reduceIte, ↓reduceIte, Nat.reduceAdd, Nat.reduceLeDiff, Nat.reduceEqDiff, Nat.reduceLT, Nat.reduceSub, reduceCtorEq, Int.reduceEq, Int.reduceLT, Int.reduceLE, Int.reduceNeg, Int.reduceToNat, Int.reduceAdd, Int.reduceSub, Nat.reduceMul, part_cell, part_agg, *]
    | (refine retK_now ?_)
    | (refine retK_now' ?_)
    | (intro q hq)
    | (refine cond_intro (fun hc => ?_) (fun hc => ?_)))
  (repeat' first
    | simp (contextual := true) (maxSteps := 4000000) only [fwc, fwe, fww, reduceIte, ↓reduceIte, Nat.reduceAdd, Nat.reduceLeDiff, Nat.reduceEqDiff, Nat.reduceLT, Nat.reduceSub, reduceCtorEq, Int.reduceEq, Int.reduceLT, Int.reduceLE, Int.reduceNeg, Int.reduceToNat, Int.reduceAdd, Int.reduceSub, Nat.reduceMul, *]
    | (refine seqK_now ?_)
    | (refine retK_now ?_)
    | (refine retK_now' ?_)
    | (intro q hq)
    | (refine cond_intro (fun hc => ?_) (fun hc => ?_)))
  exact WeakR.pure (sub_upd ho10.out s0.out) rfl
end Go.Proofs.Ytlpngkeegjickaa

namespace Go.Proofs.Ytlpngkeegjickaa
open Go.Ab
attribute [local irreducible] WeakR WeakE CallA YieldA

theorem part_of {G : List (List Id)} {tr n : Nat} (hle : tr ≤ n) (hn : G.length = n) (hi : ∀ j, tr ≤ j → j < n → G.getD j [] = []) : G = (List.range tr).map (fun i => G.getD i []) ++ List.replicate (n - tr) [] := by
  refine List.ext_getElem (by simp; omega) fun i h1 h2 => ?_
  by_cases h : i < tr
  · rw [List.getElem_append_left (by simpa using h)]
    simp [List.getD_eq_getElem?_getD, List.getElem?_eq_getElem h1]
  · rw [List.getElem_append_right (by simp; omega), List.getElem_replicate]
    have := hi i (by omega) (by omega)
    rw [List.getD_eq_getElem?_getD, List.getElem?_eq_getElem h1] at this
    exact this
theorem flat_rep (n : Nat) : (List.replicate n ([] : List Id)).flatten = [] := by
  induction n with
  | zero => rfl
  | succ n ih => rw [List.replicate_succ, List.flatten_cons, ih]; rfl

theorem bedsF_flat {T : List (List Id)} (h : T.length = 80) : (T.take 40).flatten = (bedsF T).flatten := by
  have := part_of (G := T.take 40) (tr := trF T) (n := 40) (trF_le T) (by simp [h]) (fun j h1 h2 => trim_hi _ 40 j h1 h2)
  rw [this, List.flatten_append, flat_rep, List.append_nil]
  congr 1
  unfold bedsF
  refine List.map_congr_left fun i hi => ?_
  have hi : i < trF T := List.mem_range.1 hi
  have := trF_le T
  rw [List.getD_eq_getElem?_getD, List.getElem?_take, if_pos (by omega), ← List.getD_eq_getElem?_getD]
theorem bedsB_flat {T : List (List Id)} (h : T.length = 80) : (T.drop 40).flatten = (bedsB T).flatten := by
  have := part_of (G := T.drop 40) (tr := trB T) (n := 40) (trB_le T) (by simp [h]) (fun j h1 h2 => trim_hi _ 40 j h1 h2)
  rw [this, List.flatten_append, flat_rep, List.append_nil]
  congr 1
  unfold bedsB
  refine List.map_congr_left fun i hi => ?_
  rw [List.getD_eq_getElem?_getD, List.getElem?_drop, ← List.getD_eq_getElem?_getD]
theorem bedsF_len (T : List (List Id)) : (bedsF T).length = trF T := by simp [bedsF]
theorem bedsB_len (T : List (List Id)) : (bedsB T).length = trB T := by simp [bedsB]
theorem vis_beds (T : List (List Id)) : visL (bedsF T) (bedsB T) = bedsF T ++ bedsB T := by
  have h1 := trF_le T
  have h2 := trB_le T
  unfold visL
  rw [List.take_of_length_le (by rw [bedsF_len]; exact h1), List.take_of_length_le (by rw [bedsB_len]; exact h2)]
theorem names_beds {T : List (List Id)} (h : T.length = 80) : namesL (bedsF T) (bedsB T) = T.flatten := by
  unfold namesL
  rw [vis_beds, List.flatten_append, ← bedsF_flat h, ← bedsB_flat h, ← List.flatten_append, List.take_append_drop]

theorem bedsF_get (T : List (List Id)) (i : Nat) (hi : i < 40) : (bedsF T).getD i [] = T.getD i [] := by
  by_cases h : i < trF T
  · rw [List.getD_eq_getElem?_getD (l := bedsF T), List.getElem?_eq_getElem (by rw [bedsF_len]; exact h)]
    simp [bedsF]
  · rw [getD_nil (by rw [bedsF_len]; omega), trF_hi (by omega) hi]
theorem bedsB_get (T : List (List Id)) (i : Nat) (hi : i < 40) : (bedsB T).getD i [] = T.getD (40 + i) [] := by
  by_cases h : i < trB T
  · rw [List.getD_eq_getElem?_getD (l := bedsB T), List.getElem?_eq_getElem (by rw [bedsB_len]; exact h)]
    simp [bedsB]
  · rw [getD_nil (by rw [bedsB_len]; omega), trB_hi (by omega) hi]

theorem at_needle (F B : List (List Id)) (i : Nat) (hi : i < 80) : atL F B (needleL i) = if i < 40 then F.getD i [] else B.getD (i - 40) [] := by
  unfold atL
  rw [if_neg (by rw [(needleL_ok i).1]; simp)]
  by_cases h : i < 40
  · rw [if_pos h, if_neg (by unfold needleL; simp only; omega)]
    congr 1
    unfold needleL
    simp only
    omega
  · rw [if_neg h, if_pos (by unfold needleL; simp only; omega)]
    congr 1
    unfold needleL
    simp only
    omega
theorem at_beds (T : List (List Id)) (i : Nat) (hi : i < 80) : atL (bedsF T) (bedsB T) (needleL i) = T.getD i [] := by
  rw [at_needle _ _ i hi]
  split
  · exact bedsF_get T i (by omega)
  · rw [bedsB_get T (i - 40) (by omega)]
    congr 1
    omega

theorem longF (T : List (List Id)) : longN (bedsF T) = 0 := by
  unfold longN
  rw [if_neg]
  rintro ⟨h1, h2⟩
  rw [bedsF_len] at h1 h2
  have := trF_le T
  rw [bedsF_get T _ (by omega)] at h2
  exact trF_lo h1 h2
theorem longB (T : List (List Id)) : longN (bedsB T) = 0 := by
  unfold longN
  rw [if_neg]
  rintro ⟨h1, h2⟩
  rw [bedsB_len] at h1 h2
  have := trB_le T
  rw [bedsB_get T _ (by omega)] at h2
  exact trB_lo h1 h2

/-- The beds of a table hold what it says, and are short. -/
theorem differs_beds (T : List (List Id)) : differsL T (bedsF T) (bedsB T) = 0 := by
  unfold differsL
  simp only [longF, longB, Nat.add_zero]
  rw [List.countP_eq_zero]
  intro i hi
  have hi : i < 80 := List.mem_range.1 hi
  simp [diffAt, at_beds T i hi]

theorem idn_named {j : Nat} (h : j < 1000) : named (idn j) = true := by
  unfold named idn
  simp only [Bool.and_eq_true, decide_eq_true_eq]
  omega

/-- The beds of a table are valid. -/
theorem check_beds {T : List (List Id)} {n : Nat} (h : TabOK T n) (hn : n ≤ 1000) : checkL (bedsF T) (bedsB T) = 0 := by
  have h1 := trF_le T
  have h2 := trB_le T
  unfold checkL
  rw [if_neg, if_neg, if_neg, if_neg]
  · rw [names_beds h.len]
    simp [h.nd]
  · rw [names_beds h.len]
    unfold badNames
    simp only [List.any_eq_true, not_exists, not_and]
    intro p hp
    obtain ⟨j, hj, rfl⟩ := h.mem p hp
    simp [idn_named (show j < 1000 by omega)]
  · rw [vis_beds]
    simp only [List.any_eq_true, not_exists, not_and, decide_eq_true_eq, Nat.not_lt]
    intro l hl
    have key : ∀ i, (T.getD i []).length ≤ 4 := fun i => by
      rw [List.getD_eq_getElem?_getD]
      by_cases hi : i < T.length
      · rw [List.getElem?_eq_getElem hi]; exact h.le _ (List.getElem_mem hi)
      · rw [List.getElem?_eq_none (by omega)]; simp
    rcases List.mem_append.1 hl with hl | hl
    · obtain ⟨i, _, rfl⟩ := List.mem_map.1 hl; exact key i
    · obtain ⟨i, _, rfl⟩ := List.mem_map.1 hl; exact key _
  · rw [bedsF_len, bedsB_len]
    simp
    omega

theorem Of_ok (s : AV) (P : List Put) (hs : IsL 2 s (P.map Put.av)) (hP : ∀ p ∈ P, p.ok) : PureA Try.prog 22 [s] (.agg [bedA (bedsF (ofL P)), bedA (bedsB (ofL P))]) := by
  intro O
  have h1 := of_ok s P hs hP
  have hT := Of_tab_ok P
  have h2 := beds_ok (ofL P) hT.len (fun l hl => by have := hT.le l hl; omega)
  have c1 := (bedA_is (bedsF (ofL P))).2.isL.cells
  have c2 := (bedA_is (bedsB (ofL P))).2.isL.cells
  refine k22.call mix ?_
  unfold c22
  (repeat' first
    | simp (contextual := true) (maxSteps := 4000000) only [fwc, fwe, fww, reduceIte, ↓reduceIte, Nat.reduceAdd, Nat.reduceLeDiff, Nat.reduceEqDiff, Nat.reduceLT, Nat.reduceSub, reduceCtorEq, Int.reduceEq, Int.reduceLT, Int.reduceLE, Int.reduceNeg, Int.reduceToNat, Int.reduceAdd, Int.reduceSub, Nat.reduceMul, *]
    | (refine seqK_now ?_)
    | (refine retK_now ?_)
    | (refine retK_now' ?_)
    | (intro q hq)
    | (refine cond_intro (fun hc => ?_) (fun hc => ?_)))
  refine h1.use ?_
  (repeat' first
    | simp (contextual := true) (maxSteps := 4000000) only [fwc, fwe, fww, reduceIte, ↓reduceIte, Nat.reduceAdd, Nat.reduceLeDiff, Nat.reduceEqDiff, Nat.reduceLT, Nat.reduceSub, reduceCtorEq, Int.reduceEq, Int.reduceLT, Int.reduceLE, Int.reduceNeg, Int.reduceToNat, Int.reduceAdd, Int.reduceSub, Nat.reduceMul, *]
    | (refine seqK_now ?_)
    | (refine retK_now ?_)
    | (refine retK_now' ?_)
    | (intro q hq)
    | (refine cond_intro (fun hc => ?_) (fun hc => ?_)))
  refine h2.use ?_
  (repeat' first
    | simp (contextual := true) (maxSteps := 4000000) only [fwc, fwe, fww, reduceIte, ↓reduceIte, Nat.reduceAdd, Nat.reduceLeDiff, Nat.reduceEqDiff, Nat.reduceLT, Nat.reduceSub, reduceCtorEq, Int.reduceEq, Int.reduceLT, Int.reduceLE, Int.reduceNeg, Int.reduceToNat, Int.reduceAdd, Int.reduceSub, Nat.reduceMul, part_agg, *]
    | (refine seqK_now ?_)
    | (refine retK_now ?_)
    | (refine retK_now' ?_)
    | (intro q hq)
    | (refine cond_intro (fun hc => ?_) (fun hc => ?_)))
  refine WeakR.pure (by repeat (first | exact Heap.sub_refl _ | refine sub_upd (by simp only [*]) ?_)) ?_
  rfl
end Go.Proofs.Ytlpngkeegjickaa

namespace Go.Proofs.Ytlpngkeegjickaa
open Go.Ab
attribute [local irreducible] WeakR WeakE CallA YieldA

theorem trimL_get (l : List (List Id)) (i : Nat) : (trimL l).getD i [] = l.getD i [] := by
  unfold trimL
  have hle := trimN_le l l.length
  by_cases h : i < trimN l l.length
  · rw [List.getD_eq_getElem?_getD, List.getElem?_take, if_pos h, ← List.getD_eq_getElem?_getD]
  · rw [getD_nil (by rw [List.length_take]; omega)]
    by_cases h2 : i < l.length
    · exact (trim_hi l l.length i (by omega) h2).symm
    · rw [getD_nil (by omega)]
theorem fullL_get (F : List (List Id)) (a : Nat) (X : List Id) (i : Nat) : (fullL F a X).getD i [] = if i + 1 = a then X else F.getD i [] := by
  by_cases h : i < max F.length a
  · rw [List.getD_eq_getElem?_getD, List.getElem?_eq_getElem (by simpa [fullL] using h)]
    simp [fullL]
  · rw [getD_nil (by simp [fullL]; omega), if_neg (by omega), getD_nil (by omega)]
theorem withL_get (F : List (List Id)) (a : Nat) (X : List Id) (i : Nat) : (withL F a X).getD i [] = if i + 1 = a then X else F.getD i [] := by
  unfold withL
  rw [trimL_get, fullL_get]
theorem with1_get (F : List (List Id)) (i : Nat) : (withL F 1 (F.getD 0 [])).getD i [] = F.getD i [] := by
  rw [withL_get]
  split
  · rw [show i = 0 by omega]
  · rfl
theorem putLF_get (F : List (List Id)) (n : Ndl) (X : List Id) (i : Nat) : (putLF F n X).getD i [] = if ¬ n.bed = 1 ∧ i + 1 = n.at_.toNat then X else F.getD i [] := by
  unfold putLF
  split
  · rename_i h
    rw [with1_get, if_neg (fun h' => h'.1 h)]
  · rename_i h
    rw [withL_get]
    by_cases h2 : i + 1 = n.at_.toNat
    · rw [if_pos h2, if_pos ⟨h, h2⟩]
    · rw [if_neg h2, if_neg (fun h' => h2 h'.2)]
theorem putLB_get (B : List (List Id)) (n : Ndl) (X : List Id) (i : Nat) : (putLB B n X).getD i [] = if n.bed = 1 ∧ i + 1 = n.at_.toNat then X else B.getD i [] := by
  unfold putLB
  split
  · rename_i h
    rw [withL_get]
    by_cases h2 : i + 1 = n.at_.toNat
    · rw [if_pos h2, if_pos ⟨h, h2⟩]
    · rw [if_neg h2, if_neg (fun h' => h2 h'.2)]
  · rename_i h
    rw [with1_get, if_neg (fun h' => h h'.1)]

theorem trim_long (l : List (List Id)) : longN (trimL l) = 0 := by
  unfold longN
  rw [if_neg]
  rintro ⟨h1, h2⟩
  have hle := trimN_le l l.length
  have hlen : (trimL l).length = trimN l l.length := by unfold trimL; rw [List.length_take]; omega
  rw [hlen, trimL_get] at h2
  exact trim_lo l l.length (by omega) h2
theorem with_long (F : List (List Id)) (a : Nat) (X : List Id) : longN (withL F a X) = 0 := trim_long _
theorem putF_long (F : List (List Id)) (n : Ndl) (X : List Id) : longN (putLF F n X) = 0 := by
  unfold putLF; split <;> exact with_long _ _ _
theorem putB_long (B : List (List Id)) (n : Ndl) (X : List Id) : longN (putLB B n X) = 0 := by
  unfold putLB; split <;> exact with_long _ _ _

/-- What the needles hold behind a put. -/
theorem at_put {F B : List (List Id)} {n : Ndl} {X : List Id} (hn : n.bad = false) (h0 : 0 ≤ n.bed) (m : Ndl) (hm : m.bad = false) (hm0 : 0 ≤ m.bed) : atL (putLF F n X) (putLB B n X) m = if m = n then X else atL F B m := by
  have k : ∀ z : Ndl, z.bad = false → z.bed ≤ 1 ∧ 1 ≤ z.at_ ∧ z.at_ ≤ 40 := fun z h => by
    unfold Ndl.bad at h
    simp only [Bool.or_eq_false_iff, decide_eq_false_iff_not, Int.not_lt] at h
    omega
  obtain ⟨k1, k2, k3⟩ := k n hn
  obtain ⟨l1, l2, l3⟩ := k m hm
  have hext : m = n ↔ m.bed = n.bed ∧ m.at_ = n.at_ := by cases m; cases n; simp
  unfold atL
  rw [hm]
  simp only [Bool.false_eq_true, if_false]
  by_cases hb : m.bed = 1
  · rw [if_pos hb, if_pos hb, putLB_get]
    by_cases he : m = n
    · rw [if_pos he, if_pos]
      subst he
      exact ⟨hb, by omega⟩
    · rw [if_neg he, if_neg]
      rintro ⟨h1, h2⟩
      exact he (hext.2 ⟨by omega, by omega⟩)
  · rw [if_neg hb, if_neg hb, putLF_get]
    by_cases he : m = n
    · rw [if_pos he, if_pos]
      subst he
      exact ⟨hb, by omega⟩
    · rw [if_neg he, if_neg]
      rintro ⟨h1, h2⟩
      exact he (hext.2 ⟨by omega, by omega⟩)

/-- .. and behind a join. -/
theorem at_join {F B : List (List Id)} {u v : Ndl} (hu : u.bad = false) (hv : v.bad = false) (hu0 : 0 ≤ u.bed) (hv0 : 0 ≤ v.bed) (m : Ndl) (hm : m.bad = false) (hm0 : 0 ≤ m.bed) :
    atL (joinF F B u v) (joinB F B u v) m = if m = v then joinedL F B u v else if m = u then [] else atL F B m := by
  unfold joinF joinB
  rw [at_put hv hv0 m hm hm0, at_put hu hu0 m hm hm0]
theorem join_long (F B : List (List Id)) (u v : Ndl) : longN (joinF F B u v) = 0 ∧ longN (joinB F B u v) = 0 := ⟨putF_long _ _ _, putB_long _ _ _⟩
end Go.Proofs.Ytlpngkeegjickaa

namespace Go.Proofs.Ytlpngkeegjickaa
open Go.Ab
attribute [local irreducible] WeakR WeakE CallA YieldA

/-- All needles of beds as a table. -/
def tabOf (F B : List (List Id)) : List (List Id) := (List.range 40).map (fun i => F.getD i []) ++ (List.range 40).map (fun i => B.getD i [])
theorem tabOf_len (F B : List (List Id)) : (tabOf F B).length = 80 := by simp [tabOf]
theorem pad_flat (F : List (List Id)) (h : F.length ≤ 40) : ((List.range 40).map (fun i => F.getD i [])).flatten = F.flatten := by
  have := part_of (G := (List.range 40).map (fun i => F.getD i [])) (tr := F.length) (n := 40) h (by simp) (fun j h1 h2 => by
    rw [List.getD_eq_getElem?_getD, List.getElem?_map, List.getElem?_range h2]
    exact getD_nil h1)
  rw [this, List.flatten_append, flat_rep, List.append_nil]
  congr 1
  refine List.ext_getElem (by simp) fun i h1 h2 => ?_
  have h3 : i < 40 := by omega
  simp [List.getD_eq_getElem?_getD, List.getElem?_map, List.getElem?_range h3, List.getElem?_eq_getElem h2]
theorem names_tab {F B : List (List Id)} (hF : F.length ≤ 40) (hB : B.length ≤ 40) : namesL F B = (tabOf F B).flatten := by
  unfold namesL visL tabOf
  rw [List.take_of_length_le hF, List.take_of_length_le hB, List.flatten_append, List.flatten_append, pad_flat F hF, pad_flat B hB]
theorem tabOf_get (F B : List (List Id)) (i : Nat) (hi : i < 80) : (tabOf F B).getD i [] = atL F B (needleL i) := by
  rw [at_needle _ _ i hi]
  unfold tabOf
  rw [List.getD_eq_getElem?_getD]
  split
  · rename_i h
    rw [List.getElem?_append_left (by simpa using h), List.getElem?_map, List.getElem?_range h]
    rfl
  · rename_i h
    rw [List.getElem?_append_right (by simp; omega), List.getElem?_map, List.length_map, List.length_range, List.getElem?_range (by omega)]
    rfl

/-- Beds are valid if their table is. -/
theorem check_tab {F B : List (List Id)} {n : Nat} (hF : F.length ≤ 40) (hB : B.length ≤ 40) (h : TabOK (tabOf F B) n) (hn : n ≤ 1000) : checkL F B = 0 := by
  unfold checkL
  rw [if_neg, if_neg, if_neg, if_neg]
  · rw [names_tab hF hB]
    simp [h.nd]
  · rw [names_tab hF hB]
    unfold badNames
    simp only [List.any_eq_true, not_exists, not_and]
    intro p hp
    obtain ⟨j, hj, rfl⟩ := h.mem p hp
    simp [idn_named (show j < 1000 by omega)]
  · simp only [List.any_eq_true, not_exists, not_and, decide_eq_true_eq, Nat.not_lt]
    intro l hl
    unfold visL at hl
    rw [List.take_of_length_le hF, List.take_of_length_le hB] at hl
    have key : ∀ G : List (List Id), G.length ≤ 40 → l ∈ G → l ∈ (List.range 40).map (fun i => G.getD i []) := fun G hG hm => by
      obtain ⟨i, hi, rfl⟩ := List.mem_iff_getElem.1 hm
      refine List.mem_map.2 ⟨i, List.mem_range.2 (by omega), ?_⟩
      rw [List.getD_eq_getElem?_getD, List.getElem?_eq_getElem hi]
      rfl
    refine h.le l ?_
    unfold tabOf
    rcases List.mem_append.1 hl with hm | hm
    · exact List.mem_append.2 (.inl (key F hF hm))
    · exact List.mem_append.2 (.inr (key B hB hm))
  · simp
    omega

/-- What moves over stays as it is, in all. -/
theorem move_perm {T : List (List Id)} {i k : Nat} (hi : i < T.length) (hk : k < T.length) (hne : i ≠ k) {X : List Id} (hX : X.Perm (T.getD k [] ++ T.getD i [])) : ((T.set i []).set k X).flatten.Perm T.flatten := by
  have gen : ∀ (T : List (List Id)) (j : Nat) (Y : List Id), j < T.length → (T.set j Y).flatten.Perm (Y ++ (T.set j []).flatten) := by
    intro T
    induction T with
    | nil => intro j Y h; simp at h
    | cons l T ih =>
      intro j Y h
      cases j with
      | zero => simp
      | succ j =>
        simp only [List.set_cons_succ, List.flatten_cons]
        refine (List.Perm.append_left l (ih j Y (by simpa using h))).trans ?_
        rw [← List.append_assoc, ← List.append_assoc]
        exact List.Perm.append_right _ List.perm_append_comm
  have selfk : ∀ (T : List (List Id)) (j : Nat), j < T.length → T.set j (T.getD j []) = T := fun T j h => by
    refine List.ext_getElem (by simp) fun a h1 h2 => ?_
    rw [List.getElem_set]
    split
    · rename_i e; subst e; rw [List.getD_eq_getElem?_getD, List.getElem?_eq_getElem h]; rfl
    · rfl
  have h1 := gen (T.set i []) k X (by simpa using hk)
  have h2 := gen (T.set k []) i (T.getD i []) (by simpa using hi)
  have h3 := gen T k (T.getD k []) hk
  rw [selfk T k hk] at h3
  have h4 : ((T.set k []).set i (T.getD i [])) = T.set k [] := by
    have := selfk (T.set k []) i (by simpa using hi)
    rwa [show (T.set k []).getD i [] = T.getD i [] by
      rw [List.getD_eq_getElem?_getD, List.getElem?_set, if_neg (Ne.symm hne), ← List.getD_eq_getElem?_getD]] at this
  rw [h4] at h2
  have h5 : (T.set k []).set i [] = (T.set i []).set k [] := List.set_comm _ _ (Ne.symm hne)
  rw [h5] at h2
  refine h1.trans ?_
  refine (List.Perm.append_right _ hX).trans ?_
  rw [List.append_assoc]
  exact (List.Perm.append_left _ h2.symm).trans h3.symm
end Go.Proofs.Ytlpngkeegjickaa

namespace Go.Proofs.Ytlpngkeegjickaa
open Go.Ab
attribute [local irreducible] WeakR WeakE CallA YieldA

def ix (n : Ndl) : Nat := if n.bed = 1 then 40 + (n.at_.toNat - 1) else n.at_.toNat - 1
/-- A needle of the machine. -/
structure Ndl.Good (n : Ndl) : Prop where
  bad : n.bad = false
  nn : 0 ≤ n.bed
theorem Ndl.Good.rng {n : Ndl} (h : n.Good) : (n.bed = 0 ∨ n.bed = 1) ∧ 1 ≤ n.at_ ∧ n.at_ ≤ 40 := by
  have h1 := h.bad
  have h2 := h.nn
  unfold Ndl.bad at h1
  simp only [Bool.or_eq_false_iff, decide_eq_false_iff_not, Int.not_lt] at h1
  omega
theorem Ndl.ext' (m n : Ndl) : m = n ↔ m.bed = n.bed ∧ m.at_ = n.at_ := by cases m; cases n; simp
theorem needle_good (i : Nat) : (needleL i).Good := ⟨(needleL_ok i).1, (needleL_ok i).2⟩
theorem ix_lt {n : Ndl} (h : n.Good) : ix n < 80 := by
  obtain ⟨h1, h2, h3⟩ := h.rng
  unfold ix
  split <;> omega
theorem needle_ix {n : Ndl} (h : n.Good) : needleL (ix n) = n := by
  obtain ⟨h1, h2, h3⟩ := h.rng
  rw [Ndl.ext']
  unfold ix needleL
  simp only
  split <;> omega
theorem ix_needle {i : Nat} (hi : i < 80) : ix (needleL i) = i := by
  unfold ix needleL
  simp only
  split <;> omega
theorem needle_eq {i : Nat} (hi : i < 80) {n : Ndl} (h : n.Good) : needleL i = n ↔ i = ix n := by
  constructor
  · intro e; rw [← e, ix_needle hi]
  · intro e; rw [e, needle_ix h]

theorem tab_put {F B : List (List Id)} {n : Ndl} {X : List Id} (h : n.Good) : tabOf (putLF F n X) (putLB B n X) = (tabOf F B).set (ix n) X := by
  refine List.ext_getElem (by simp [tabOf_len]) fun i h1 h2 => ?_
  rw [tabOf_len] at h1
  have e1 := tabOf_get (putLF F n X) (putLB B n X) i h1
  have e2 := tabOf_get F B i h1
  rw [at_put h.bad h.nn _ (needle_good i).bad (needle_good i).nn] at e1
  rw [List.getD_eq_getElem?_getD, List.getElem?_eq_getElem (by rw [tabOf_len]; exact h1)] at e1 e2
  rw [List.getElem_set]
  simp only [Option.getD_some] at e1 e2
  rw [e1]
  by_cases he : i = ix n
  · rw [if_pos ((needle_eq h1 h).2 he), if_pos he.symm]
  · rw [if_neg (fun e => he ((needle_eq h1 h).1 e)), if_neg (Ne.symm he), e2]
theorem tab_join {F B : List (List Id)} {u v : Ndl} (hu : u.Good) (hv : v.Good) : tabOf (joinF F B u v) (joinB F B u v) = ((tabOf F B).set (ix u) []).set (ix v) (joinedL F B u v) := by
  unfold joinF joinB
  rw [tab_put hv, tab_put hu]
theorem at_ix {F B : List (List Id)} {n : Ndl} (h : n.Good) : atL F B n = (tabOf F B).getD (ix n) [] := by
  rw [tabOf_get _ _ _ (ix_lt h), needle_ix h]
theorem joined_perm {F B : List (List Id)} {u v : Ndl} (hu : u.Good) (hv : v.Good) : (joinedL F B u v).Perm ((tabOf F B).getD (ix v) [] ++ (tabOf F B).getD (ix u) []) := by
  rw [← at_ix hu, ← at_ix hv]
  unfold joinedL
  split
  · exact List.perm_append_comm
  · exact .refl _
theorem join_tab {F B : List (List Id)} {u v : Ndl} {n : Nat} (hu : u.Good) (hv : v.Good) (hne : u.bed ≠ v.bed) (h : TabOK (tabOf F B) n) (hl : (joinedL F B u v).length ≤ 4) : TabOK (tabOf (joinF F B u v) (joinB F B u v)) n := by
  have hix : ix u ≠ ix v := fun e => hne (by rw [← needle_ix hu, ← needle_ix hv, e])
  have hp := move_perm (T := tabOf F B) (i := ix u) (k := ix v) (by rw [tabOf_len]; exact ix_lt hu) (by rw [tabOf_len]; exact ix_lt hv) hix (joined_perm hu hv)
  rw [tab_join hu hv]
  refine ⟨by simp [tabOf_len], fun l hm => ?_, fun p hm => h.mem p (hp.mem_iff.1 hm), hp.nodup_iff.2 h.nd⟩
  rcases List.mem_or_eq_of_mem_set hm with hm | rfl
  · rcases List.mem_or_eq_of_mem_set hm with hm | rfl
    · exact h.le l hm
    · simp
  · exact hl
theorem put_len {F B : List (List Id)} {n : Ndl} {X : List Id} (h : n.Good) (hF : F.length ≤ 40) (hB : B.length ≤ 40) : (putLF F n X).length ≤ 40 ∧ (putLB B n X).length ≤ 40 := by
  obtain ⟨_, h2, h3⟩ := h.rng
  have key : ∀ (G : List (List Id)) (a : Nat) (Y : List Id), G.length ≤ 40 → a ≤ 40 → (withL G a Y).length ≤ 40 := fun G a Y hG ha => by
    unfold withL trimL
    rw [List.length_take]
    simp [fullL]
    omega
  unfold putLF putLB
  constructor
  · split <;> exact key _ _ _ hF (by omega)
  · split <;> exact key _ _ _ hB (by omega)
theorem join_len {F B : List (List Id)} {u v : Ndl} (hu : u.Good) (hv : v.Good) (hF : F.length ≤ 40) (hB : B.length ≤ 40) : (joinF F B u v).length ≤ 40 ∧ (joinB F B u v).length ≤ 40 := by
  have h1 := put_len (X := []) hu hF hB
  exact put_len hv h1.1 h1.2

theorem tab_beds {T : List (List Id)} (h : T.length = 80) : tabOf (bedsF T) (bedsB T) = T := by
  refine List.ext_getElem (by rw [tabOf_len, h]) fun i h1 h2 => ?_
  have hi : i < 80 := by rw [tabOf_len] at h1; exact h1
  have e1 := tabOf_get (bedsF T) (bedsB T) i hi
  rw [at_beds T i hi, List.getD_eq_getElem?_getD, List.getD_eq_getElem?_getD, List.getElem?_eq_getElem h1, List.getElem?_eq_getElem h2] at e1
  exact e1
/-- Two beds with the same table hold the same. -/
theorem same_tab {F B F' B' : List (List Id)} (hF : F.length ≤ 40) (hB : B.length ≤ 40) (hF' : F'.length ≤ 40) (hB' : B'.length ≤ 40) : sameL F B F' B' = true ↔ tabOf F B = tabOf F' B' := by
  rw [sameL_iff]
  constructor
  · intro h
    unfold tabOf
    congr 1
    · exact List.map_congr_left fun i _ => (h i).1
    · exact List.map_congr_left fun i _ => (h i).2
  · intro h i
    by_cases hi : i < 40
    · have e1 := tabOf_get F B i (by omega)
      have e2 := tabOf_get F' B' i (by omega)
      have e3 := tabOf_get F B (40 + i) (by omega)
      have e4 := tabOf_get F' B' (40 + i) (by omega)
      rw [at_needle _ _ _ (by omega), if_pos hi] at e1 e2
      rw [at_needle _ _ _ (by omega), if_neg (by omega), show 40 + i - 40 = i by omega] at e3 e4
      exact ⟨by rw [← e1, ← e2, h], by rw [← e3, ← e4, h]⟩
    · rw [getD_nil (by omega), getD_nil (by omega), getD_nil (by omega), getD_nil (by omega)]
      exact ⟨rfl, rfl⟩
end Go.Proofs.Ytlpngkeegjickaa

namespace Go.Proofs.Ytlpngkeegjickaa
open Go.Ab
attribute [local irreducible] WeakR WeakE CallA YieldA

/-- Which needle the law finds among the first j. -/
def ixTo (n : Ndl) (j : Nat) : Int := if n.bad = false ∧ ix n < j then (ix n : Int) else -1
theorem ixTo_zero (n : Ndl) : ixTo n 0 = -1 := by unfold ixTo; rw [if_neg (by omega)]
theorem ixTo_succ {n : Ndl} (h0 : 0 ≤ n.bed) {j : Nat} (hj : j < 80) : ixTo n (j + 1) = if needleL j = n then (j : Int) else ixTo n j := by
  unfold ixTo
  cases hb : n.bad with
  | true =>
    rw [if_neg (fun e => by cases e.1), if_neg (fun e => by have := (needle_good j).bad; rw [e, hb] at this; cases this), if_neg (fun e => by cases e.1)]
  | false =>
    have hg : n.Good := ⟨hb, h0⟩
    by_cases he : needleL j = n
    · rw [if_pos he]
      have := (needle_eq hj hg).1 he
      rw [if_pos ⟨rfl, by omega⟩]
      omega
    · rw [if_neg he]
      have hne : ¬ j = ix n := fun e => he ((needle_eq hj hg).2 e)
      by_cases hl : ix n < j
      · rw [if_pos ⟨rfl, by omega⟩, if_pos ⟨rfl, hl⟩]
      · rw [if_neg (fun h => hl (by have := h.2; omega)), if_neg (fun h => hl h.2)]
theorem ixTo_all {n : Ndl} (h0 : 0 ≤ n.bed) : ixTo n 80 = if n.bad = true then -1 else (ix n : Int) := by
  unfold ixTo
  cases hb : n.bad with
  | true => simp
  | false =>
    have hg : n.Good := ⟨hb, h0⟩
    rw [if_pos ⟨rfl, ix_lt hg⟩, if_neg (by simp)]
theorem ixTo_rng (n : Ndl) (j : Nat) : -1 ≤ ixTo n j ∧ ixTo n j < (j : Int) ∨ ixTo n j = -1 := by
  unfold ixTo
  split
  · rename_i h; left; omega
  · exact .inr rfl

theorem differs_tab {T F B : List (List Id)} (h : tabOf F B = T) (hF : longN F = 0) (hB : longN B = 0) : differsL T F B = 0 := by
  unfold differsL
  rw [hF, hB]
  simp only [Nat.add_zero]
  rw [List.countP_eq_zero]
  intro i hi
  have hi := List.mem_range.1 hi
  unfold diffAt
  rw [← tabOf_get F B i hi, h]
  simp

/-- The error that the law wants. -/
def joinWant (T : List (List Id)) (u v : Ndl) : Int := if (u.bad || v.bad || decide (u.bed = v.bed)) = true then 1 else if (T.getD (ix u) []).length = 0 then 13 else if 4 < (T.getD (ix u) []).length + (T.getD (ix v) []).length then 9 else 0

structure JoinOK (T F B F' B' : List (List Id)) (u v : Ndl) (J : List Id) : Prop where
  gu : u.Good
  gv : v.Good
  ne : ¬ u.bed = v.bed
  jl : J.length ≤ 4
  jeq : J = if v.bed = 0 then T.getD (ix u) [] ++ T.getD (ix v) [] else T.getD (ix v) [] ++ T.getD (ix u) []
  df : differsL ((T.set (ix v) J).set (ix u) []) F' B' = 0
  cn : (namesL F' B').length = (namesL F B).length
  bk : joinE F' B' v u = 0
  sm : T.getD (ix v) [] = [] → sameL (joinF F' B' v u) (joinB F' B' v u) F B = true

theorem join_law {T : List (List Id)} {k : Nat} (hT : TabOK T k) (hk : k ≤ 1000) (u v : Ndl) (hu0 : 0 ≤ u.bed) (hv0 : 0 ≤ v.bed) :
    joinE (bedsF T) (bedsB T) u v = joinWant T u v ∧ (joinE (bedsF T) (bedsB T) u v = 0 → JoinOK T (bedsF T) (bedsB T) (joinF (bedsF T) (bedsB T) u v) (joinB (bedsF T) (bedsB T) u v) u v (joinedL (bedsF T) (bedsB T) u v)) := by
  have hc := check_beds hT hk
  have htab := tab_beds hT.len
  have hF : (bedsF T).length ≤ 40 := by rw [bedsF_len]; exact trF_le T
  have hB : (bedsB T).length ≤ 40 := by rw [bedsB_len]; exact trB_le T
  by_cases hb : (u.bad || v.bad || decide (u.bed = v.bed)) = true
  · refine ⟨?_, fun h => ?_⟩
    · unfold joinE joinWant; rw [if_pos hc, if_pos hb, if_pos hb]
    · unfold joinE at h; rw [if_pos hc, if_pos hb] at h; cases h
  · have hb' : u.bad = false ∧ v.bad = false ∧ ¬ u.bed = v.bed := by simpa [and_assoc] using hb
    obtain ⟨b1, b2, b3⟩ := hb'
    have gu : u.Good := ⟨b1, hu0⟩
    have gv : v.Good := ⟨b2, hv0⟩
    have au := at_ix (F := bedsF T) (B := bedsB T) gu
    have av := at_ix (F := bedsF T) (B := bedsB T) gv
    rw [htab] at au av
    have hjl : (joinedL (bedsF T) (bedsB T) u v).length = (T.getD (ix u) []).length + (T.getD (ix v) []).length := by
      unfold joinedL
      rw [au, av]
      split <;> rw [List.length_append] <;> omega
    have hE : joinE (bedsF T) (bedsB T) u v = joinWant T u v := by
      unfold joinE joinWant
      rw [if_pos hc, if_neg hb, if_neg hb, hjl, au]
      by_cases h : T.getD (ix u) [] = []
      · rw [if_pos h, if_pos (by rw [h]; rfl)]
      · rw [if_neg h, if_neg (fun e => h (List.eq_nil_of_length_eq_zero e))]
    refine ⟨hE, fun h0 => ?_⟩
    rw [hE] at h0
    unfold joinWant at h0
    rw [if_neg hb] at h0
    split at h0
    · cases h0
    · rename_i hne
      split at h0
      · cases h0
      · rename_i h4
        have hJ4 : (joinedL (bedsF T) (bedsB T) u v).length ≤ 4 := by omega
        have hixne : ix u ≠ ix v := fun e => b3 (by rw [← needle_ix gu, ← needle_ix gv, e])
        have hT' := tab_join (F := bedsF T) (B := bedsB T) gu gv
        have hOK2 := join_tab gu gv b3 (n := k) (by rw [htab]; exact hT) hJ4
        have hp := move_perm (T := T) (i := ix u) (k := ix v) (X := joinedL (bedsF T) (bedsB T) u v) (by rw [hT.len]; exact ix_lt gu) (by rw [hT.len]; exact ix_lt gv) hixne (by have := joined_perm (F := bedsF T) (B := bedsB T) gu gv; rwa [htab] at this)
        rw [htab] at hT'
        obtain ⟨hF', hB'⟩ := join_len gu gv hF hB
        have hlong := join_long (bedsF T) (bedsB T) u v
        generalize hJ : joinedL (bedsF T) (bedsB T) u v = J at *
        generalize joinF (bedsF T) (bedsB T) u v = F' at *
        generalize joinB (bedsF T) (bedsB T) u v = B' at *
        have hJe : J = if v.bed = 0 then T.getD (ix u) [] ++ T.getD (ix v) [] else T.getD (ix v) [] ++ T.getD (ix u) [] := by
          rw [← hJ]; unfold joinedL; rw [au, av]
        have hsw : (T.set (ix u) []).set (ix v) J = (T.set (ix v) J).set (ix u) [] := List.set_comm _ _ hixne
        have gtd : ∀ (z : Ndl), z.Good → atL F' B' z = ((T.set (ix u) []).set (ix v) J).getD (ix z) [] := fun z hz => by rw [at_ix hz, hT']
        have lu : ix u < T.length := by rw [hT.len]; exact ix_lt gu
        have lv : ix v < T.length := by rw [hT.len]; exact ix_lt gv
        have a1 : atL F' B' u = [] := by
          rw [gtd u gu, List.getD_eq_getElem?_getD, List.getElem?_set, if_neg (Ne.symm hixne), List.getElem?_set, if_pos rfl, if_pos lu]
          rfl
        have a2 : atL F' B' v = J := by
          rw [gtd v gv, List.getD_eq_getElem?_getD, List.getElem?_set, if_pos rfl, if_pos (by simpa using lv)]
          rfl
        have hJn : J ≠ [] := fun e => by
          have : J.length = 0 := by rw [e]; rfl
          omega
        have hJ2 : joinedL F' B' v u = J := by
          unfold joinedL
          rw [a1, a2]
          split <;> simp
        have hc2 := check_tab hF' hB' hOK2 hk
        refine ⟨gu, gv, b3, hJ4, hJe, ?_, ?_, ?_, fun hnil => ?_⟩
        · exact differs_tab (by rw [hT', hsw]) hlong.1 hlong.2
        · rw [names_tab hF' hB', names_tab hF hB, htab, hT']
          exact hp.length_eq
        · unfold joinE
          rw [if_pos hc2, b1, b2, decide_eq_false (Ne.symm b3), if_neg (by simp), if_neg (by rw [a2]; exact hJn), hJ2, if_neg (by omega)]
        · obtain ⟨hF3, hB3⟩ := join_len gv gu hF' hB'
          rw [same_tab hF3 hB3 hF hB, tab_join gv gu, hT', hJ2, htab]
          have hJu : J = T.getD (ix u) [] := by
            rw [hJe, hnil]
            split <;> simp
          refine List.ext_getElem (by simp) fun i h1 h2 => ?_
          simp only [List.getElem_set]
          by_cases e1 : ix u = i
          · subst e1
            rw [if_pos rfl, hJu, List.getD_eq_getElem?_getD, List.getElem?_eq_getElem lu]
            rfl
          · rw [if_neg e1]
            by_cases e2 : ix v = i
            · subst e2
              rw [if_pos rfl]
              have := hnil
              rw [List.getD_eq_getElem?_getD, List.getElem?_eq_getElem lv] at this
              exact this.symm
            · rw [if_neg e2, if_neg e2, if_neg e1]
end Go.Proofs.Ytlpngkeegjickaa

namespace Go.Proofs.Ytlpngkeegjickaa
open Go.Ab

/-! The plain law of Set. -/
theorem nd_eq' (p q : Ndl) : (decide (p.bed = q.bed) && (decide (p.at_ = q.at_) && true)) = decide (p = q) := by
  rw [Bool.and_true, ← Bool.decide_and]
  exact decide_eq_decide.2 (Ndl.ext' p q).symm
theorem le_nd' (p q : Ndl) : leavesEq [true, true] [.val (.int .u8 p.bed), .val (.int .i64 p.at_)] [.val (.int .u8 q.bed), .val (.int .i64 q.at_)] = some (decide (p = q)) := by
  have := le_id ⟨p.bed, p.at_⟩ ⟨q.bed, q.at_⟩
  rw [this]
  congr 1
  exact decide_eq_decide.2 (by rw [Ndl.ext']; exact Id.ext')
theorem IsTab.set' {ts : List AV} {T : List (List Id)} (h : IsTab ts T) (i : Nat) {x : AV} {X : List Id} (hx : IsL 2 x (X.map Id.av)) (hX : X.length ≤ 1000) : IsTab (ts.set i x) (T.set i X) := by
  refine ⟨by simp [h.len], by simp [h.tlen], fun j h1 h2 => ?_, fun l hl => ?_⟩
  · simp only [List.length_set] at h1 h2
    rw [List.getElem_set, List.getElem_set]
    by_cases hij : i = j
    · simp only [if_pos hij]; exact hx
    · simp only [if_neg hij]; exact h.el j h1 h2
  · rcases List.mem_or_eq_of_mem_set hl with hl | rfl
    · exact h.le l hl
    · exact hX
theorem set_getD' (T : List (List Id)) (i j : Nat) (X : List Id) (hi : i < T.length) : (T.set i X).getD j [] = if j = i then X else T.getD j [] := by
  rw [List.getD_eq_getElem?_getD, List.getElem?_set, List.getD_eq_getElem?_getD]
  by_cases h : i = j
  · rw [if_pos h, if_pos hi, if_pos h.symm]; rfl
  · rw [if_neg h, if_neg (Ne.symm h)]
theorem mem_flat {T : List (List Id)} {p : Id} : p ∈ T.flatten ↔ ∃ i, p ∈ T.getD i [] := by
  constructor
  · intro h
    obtain ⟨l, hl, hp⟩ := List.mem_flatten.1 h
    obtain ⟨i, hi, rfl⟩ := List.mem_iff_getElem.1 hl
    exact ⟨i, by rw [List.getD_eq_getElem?_getD, List.getElem?_eq_getElem hi]; exact hp⟩
  · rintro ⟨i, h⟩
    by_cases hi : i < T.length
    · rw [List.getD_eq_getElem?_getD, List.getElem?_eq_getElem hi] at h
      exact List.mem_flatten.2 ⟨_, List.getElem_mem hi, h⟩
    · rw [List.getD_eq_getElem?_getD, List.getElem?_eq_none (by omega)] at h
      cases h
theorem set_perm : ∀ (T : List (List Id)) (j : Nat) (Y : List Id), j < T.length → (T.set j Y).flatten.Perm (Y ++ (T.set j []).flatten) := by
  intro T
  induction T with
  | nil => intro j Y h; simp at h
  | cons l T ih =>
    intro j Y h
    cases j with
    | zero => simp
    | succ j =>
      simp only [List.set_cons_succ, List.flatten_cons]
      refine ((ih j Y (by simpa using h)).append_left l).trans ?_
      rw [← List.append_assoc, ← List.append_assoc]
      exact List.perm_append_comm.append_right _

def w1 (p : Id) (X : List Id) : Nat → Int
  | 0 => 0
  | k + 1 => if X[k]? = some p then 8 else w1 p X k
def w2 (w : Int) (p : Id) (T : List (List Id)) (a : Nat) : Nat → Int
  | 0 => w
  | k + 1 => if k ≠ a ∧ p ∈ T.getD k [] then 8 else w2 w p T a k
def w4 (T : List (List Id)) (a : Nat) (X : List Id) : Nat → Int
  | 0 => 0
  | i + 1 => if w4 T a X i = 0 then (match X[i]? with
    | some p => w2 (w1 p X i) p T a 80
    | none => 0) else w4 T a X i
theorem w1_zero (p : Id) (X : List Id) : ∀ k, (w1 p X k = 0 ∨ w1 p X k = 8) ∧ (w1 p X k = 0 ↔ ∀ j, j < k → X[j]? ≠ some p)
  | 0 => ⟨.inl rfl, fun _ j h => by omega, fun _ => rfl⟩
  | k + 1 => by
    obtain ⟨h1, h2⟩ := w1_zero p X k
    rw [w1]
    by_cases h : X[k]? = some p
    · rw [if_pos h]
      exact ⟨.inr rfl, fun e => absurd e (by decide), fun e => absurd h (e k (by omega))⟩
    · rw [if_neg h]
      refine ⟨h1, fun e j hj => ?_, fun e => h2.2 fun j hj => e j (by omega)⟩
      by_cases hjk : j = k
      · rw [hjk]; exact h
      · exact h2.1 e j (by omega)
theorem w2_zero (w : Int) (p : Id) (T : List (List Id)) (a : Nat) (hw : w = 0 ∨ w = 8) : ∀ k, (w2 w p T a k = 0 ∨ w2 w p T a k = 8) ∧ (w2 w p T a k = 0 ↔ w = 0 ∧ ∀ j, j < k → j ≠ a → p ∉ T.getD j [])
  | 0 => ⟨hw, fun h => ⟨h, fun j hj => by omega⟩, fun h => h.1⟩
  | k + 1 => by
    obtain ⟨h1, h2⟩ := w2_zero w p T a hw k
    rw [w2]
    by_cases h : k ≠ a ∧ p ∈ T.getD k []
    · rw [if_pos h]
      exact ⟨.inr rfl, fun e => absurd e (by decide), fun e => absurd h.2 (e.2 k (by omega) h.1)⟩
    · rw [if_neg h]
      refine ⟨h1, fun e => ⟨(h2.1 e).1, fun j hj hja => ?_⟩, fun e => h2.2 ⟨e.1, fun j hj => e.2 j (by omega)⟩⟩
      by_cases hjk : j = k
      · rw [hjk] at hja ⊢; exact fun hm => h ⟨hja, hm⟩
      · exact (h2.1 e).2 j (by omega) hja
def clashFree (T : List (List Id)) (a : Nat) (X : List Id) (i : Nat) : Prop := ∀ j p, j < i → X[j]? = some p → (∀ m, m < j → X[m]? ≠ some p) ∧ ∀ k, k < 80 → k ≠ a → p ∉ T.getD k []
theorem w4_zero (T : List (List Id)) (a : Nat) (X : List Id) : ∀ i, (w4 T a X i = 0 ∨ w4 T a X i = 8) ∧ (w4 T a X i = 0 ↔ clashFree T a X i)
  | 0 => ⟨.inl rfl, fun _ j p h => by omega, fun _ => rfl⟩
  | i + 1 => by
    obtain ⟨h1, h2⟩ := w4_zero T a X i
    rw [w4]
    by_cases h : w4 T a X i = 0
    · rw [if_pos h]
      have hc := h2.1 h
      cases hx : X[i]? with
      | none =>
        simp only
        refine ⟨.inl trivial, fun _ j p hj hp => ?_, fun _ => trivial⟩
        by_cases hji : j = i
        · rw [hji, hx] at hp; cases hp
        · exact hc j p (by omega) hp
      | some p =>
        simp only
        obtain ⟨a1, a2⟩ := w1_zero p X i
        obtain ⟨b1, b2⟩ := w2_zero _ p T a a1 80
        refine ⟨b1, fun e => ?_, fun e => ?_⟩
        · obtain ⟨e1, e2⟩ := b2.1 e
          intro j q hj hq
          by_cases hji : j = i
          · rw [hji, hx] at hq
            cases hq
            rw [hji]
            exact ⟨a2.1 e1, e2⟩
          · exact hc j q (by omega) hq
        · obtain ⟨e1, e2⟩ := e i p (by omega) hx
          exact b2.2 ⟨a2.2 e1, e2⟩
    · rw [if_neg h]
      exact ⟨h1, fun e => absurd e h, fun e => absurd (h2.2 fun j p hj => e j p (by omega)) h⟩
theorem w4_stop {T : List (List Id)} {a : Nat} {X : List Id} {i : Nat} (h : w4 T a X i ≠ 0) : ∀ d, w4 T a X (i + d) = w4 T a X i
  | 0 => rfl
  | d + 1 => by
    have ih := w4_stop h d
    rw [show i + (d + 1) = (i + d) + 1 by omega, w4, ih, if_neg h]

/-- No name is twice in the table that is set exactly if the law's loops find none. -/
theorem nodup_set {T : List (List Id)} (hT : T.length = 80) (hn : T.flatten.Nodup) {a : Nat} (ha : a < 80) (X : List Id) : (T.set a X).flatten.Nodup ↔ clashFree T a X X.length := by
  have hal : a < T.length := by omega
  have hTa : T.set a (T.getD a []) = T := by
    rw [List.getD_eq_getElem?_getD, List.getElem?_eq_getElem hal]
    exact List.set_getElem_self hal
  have hr : (T.set a []).flatten.Nodup := by
    have := set_perm T a (T.getD a []) hal
    rw [hTa] at this
    exact (List.nodup_append.1 (this.nodup_iff.1 hn)).2.1
  rw [(set_perm T a X hal).nodup_iff, List.nodup_append]
  constructor
  · rintro ⟨h1, _, h3⟩ j p hj hp
    obtain ⟨hj', rfl⟩ := List.getElem?_eq_some_iff.1 hp
    refine ⟨fun m hm e => ?_, fun k hk hka hm => ?_⟩
    · obtain ⟨hm', e⟩ := List.getElem?_eq_some_iff.1 e
      exact (List.pairwise_iff_getElem.1 h1) m j hm' hj' hm e
    · refine h3 _ (List.getElem_mem hj') _ (mem_flat.2 ⟨k, ?_⟩) rfl
      rw [set_getD' T a k [] hal, if_neg hka]
      exact hm
  · intro h
    refine ⟨List.pairwise_iff_getElem.2 fun m j hm hj hmj e => ?_, hr, fun p hp q hq e => ?_⟩
    · exact (h j _ hj (List.getElem?_eq_getElem hj)).1 m hmj (by rw [List.getElem?_eq_getElem hm, e])
    · subst e
      obtain ⟨j, hj, rfl⟩ := List.mem_iff_getElem.1 hp
      obtain ⟨k, hk⟩ := mem_flat.1 hq
      rw [set_getD' T a k [] hal] at hk
      by_cases hka : k = a
      · rw [if_pos hka] at hk; cases hk
      · rw [if_neg hka] at hk
        have hk80 : k < 80 := Nat.lt_of_not_le fun hh => by
          rw [List.getD_eq_getElem?_getD, List.getElem?_eq_none (by omega)] at hk; cases hk
        exact (h j _ hj (List.getElem?_eq_getElem hj)).2 k hk80 hka hk

def wN (n : Ndl) (X : List Id) (i : Nat) : Int := if (n.bad || badNames (X.take i)) = true then 1 else 0
theorem wN_succ {n : Ndl} {X : List Id} {i : Nat} (h : i < X.length) : wN n X (i + 1) = if named X[i] = true then wN n X i else 1 := by
  unfold wN badNames
  have : X.take (i + 1) = X.take i ++ [X[i]] := by rw [List.take_add_one, List.getElem?_eq_getElem h]; rfl
  rw [this, List.any_append]
  by_cases hn : named X[i] = true
  · rw [if_pos hn]; simp [hn]
  · rw [if_neg hn]
    have : named X[i] = false := by simpa using hn
    simp [this]
theorem wN_zero (n : Ndl) (X : List Id) : wN n X 0 = if n.bad = true then 1 else 0 := by unfold wN badNames; simp
theorem wN_all (n : Ndl) (X : List Id) : wN n X X.length = if (n.bad || badNames X) = true then 1 else 0 := by unfold wN; rw [List.take_length]
def setWant (T : List (List Id)) (n : Ndl) (X : List Id) : Int := if (n.bad || badNames X) = true then 1 else if 4 < X.length then 9 else w4 T (ix n) X X.length

structure SetOK (T F' B' : List (List Id)) (n : Ndl) (X : List Id) : Prop where
  gn : n.Good
  xl : X.length ≤ 4
  df : differsL (T.set (ix n) X) F' B' = 0
  at_ : atL F' B' n = X
  se : setE F' B' n X = 0
  sm : sameL (putLF F' n X) (putLB B' n X) F' B' = true

theorem check_tab' {F B : List (List Id)} (hF : F.length ≤ 40) (hB : B.length ≤ 40) (hle : ∀ l ∈ tabOf F B, l.length ≤ 4) (hnm : badNames (tabOf F B).flatten = false) (hnd : (tabOf F B).flatten.Nodup) : checkL F B = 0 := by
  unfold checkL
  rw [if_neg, if_neg, if_neg, if_neg]
  · rw [names_tab hF hB]
    simp [hnd]
  · rw [names_tab hF hB, hnm]
    simp
  · simp only [List.any_eq_true, not_exists, not_and, decide_eq_true_eq, Nat.not_lt]
    intro l hl
    unfold visL at hl
    rw [List.take_of_length_le hF, List.take_of_length_le hB] at hl
    have key : ∀ G : List (List Id), G.length ≤ 40 → l ∈ G → l ∈ (List.range 40).map (fun i => G.getD i []) := fun G hG hm => by
      obtain ⟨i, hi, rfl⟩ := List.mem_iff_getElem.1 hm
      refine List.mem_map.2 ⟨i, List.mem_range.2 (by omega), ?_⟩
      rw [List.getD_eq_getElem?_getD, List.getElem?_eq_getElem hi]
      rfl
    refine hle l ?_
    unfold tabOf
    rcases List.mem_append.1 hl with hm | hm
    · exact List.mem_append.2 (.inl (key F hF hm))
    · exact List.mem_append.2 (.inr (key B hB hm))
  · simp
    omega

theorem set_law {T : List (List Id)} {k : Nat} (hT : TabOK T k) (hk : k ≤ 1000) (n : Ndl) (X : List Id) (hn0 : 0 ≤ n.bed) :
    setE (bedsF T) (bedsB T) n X = setWant T n X ∧ (setWant T n X = 0 → SetOK T (putLF (bedsF T) n X) (putLB (bedsB T) n X) n X) := by
  have hc := check_beds hT hk
  have htab := tab_beds hT.len
  have hF : (bedsF T).length ≤ 40 := by rw [bedsF_len]; exact trF_le T
  have hB : (bedsB T).length ≤ 40 := by rw [bedsB_len]; exact trB_le T
  unfold setWant
  by_cases hb : (n.bad || badNames X) = true
  · rw [if_pos hb]
    refine ⟨?_, fun h => absurd h (by decide)⟩
    unfold setE; rw [if_pos hc, if_pos hb]
  · rw [if_neg hb]
    have hb' : n.bad = false ∧ badNames X = false := by simpa using hb
    have gn : n.Good := ⟨hb'.1, hn0⟩
    by_cases h4 : 4 < X.length
    · rw [if_pos h4]
      refine ⟨?_, fun h => absurd h (by decide)⟩
      unfold setE; rw [if_pos hc, if_neg hb, if_pos h4]
    · rw [if_neg h4]
      have ha := ix_lt gn
      have hal : ix n < T.length := by rw [hT.len]; exact ha
      have hnd := nodup_set hT.len hT.nd ha X
      obtain ⟨hw, hw0⟩ := w4_zero T (ix n) X X.length
      obtain ⟨hF', hB'⟩ := put_len (X := X) gn hF hB
      have hT' := tab_put (F := bedsF T) (B := bedsB T) (X := X) gn
      rw [htab] at hT'
      have hnm := names_tab hF' hB'
      rw [hT'] at hnm
      refine ⟨?_, fun h0 => ?_⟩
      · unfold setE
        rw [if_pos hc, if_neg hb, if_neg h4, hnm]
        by_cases hf : (T.set (ix n) X).flatten.Nodup
        · rw [if_pos hf, hw0.2 (hnd.1 hf)]
        · rw [if_neg hf]
          rcases hw with hw | hw
          · exact absurd (hnd.2 (hw0.1 hw)) hf
          · exact hw.symm
      · have hf := hnd.2 (hw0.1 h0)
        have hat : atL (putLF (bedsF T) n X) (putLB (bedsB T) n X) n = X := by
          rw [at_ix gn, hT', set_getD' T _ _ X hal, if_pos rfl]
        have hlong : longN (putLF (bedsF T) n X) = 0 ∧ longN (putLB (bedsB T) n X) = 0 := ⟨putF_long _ _ _, putB_long _ _ _⟩
        generalize putLF (bedsF T) n X = F' at *
        generalize putLB (bedsB T) n X = B' at *
        have hT2 := tab_put (F := F') (B := B') (X := X) gn
        rw [hT', List.set_set] at hT2
        obtain ⟨hF2, hB2⟩ := put_len (X := X) gn hF' hB'
        have hc2 : checkL F' B' = 0 := check_tab' hF' hB' (by
          rw [hT']
          intro l hl
          rcases List.mem_or_eq_of_mem_set hl with hl | rfl
          · exact hT.le l hl
          · omega) (by
          rw [hT']
          unfold badNames
          rw [List.any_eq_false]
          intro p hp
          obtain ⟨i, hi⟩ := mem_flat.1 hp
          rw [set_getD' T _ _ X hal] at hi
          by_cases hia : i = ix n
          · rw [if_pos hia] at hi
            exact (List.any_eq_false.1 hb'.2) p hi
          · rw [if_neg hia] at hi
            obtain ⟨j, hj, rfl⟩ := hT.mem p (mem_flat.2 ⟨i, hi⟩)
            simp [idn_named (show j < 1000 by omega)]) (by rw [hT']; exact hf)
        refine ⟨gn, by omega, differs_tab hT' hlong.1 hlong.2, hat, ?_, ?_⟩
        · unfold setE
          rw [if_pos hc2, if_neg hb, if_neg h4, names_tab hF2 hB2, hT2, if_pos hf]
        · rw [same_tab hF2 hB2 hF' hB', hT2, hT']
end Go.Proofs.Ytlpngkeegjickaa

namespace Go.Proofs.Ytlpngkeegjickaa
open Go.Ab
attribute [local irreducible] WeakR WeakE CallA YieldA

def envB (q4 q7 q8 q9 : Nat) (t : AV) (w v a : Int) : Env := ((((((((Env.upd (fun _ => .junk) 12 (.val (.int .i64 a))).upd 11 (.val (.int .i64 v))).upd 10 (.val (.int .i64 w))).upd 9 (.optr q9 2 0 0)).upd 8 (.optr q8 2 0 0)).upd 7 (.optr q7 80 0 0)).upd 4 (.optr q4 2 0 0)).upd 2 t)
def envC (q4 q7 q8 q9 : Nat) (t : AV) (w v a : Int) (k z : Nat) : Env := (((((((((Env.upd (fun _ => .junk) k (.val (.int .i64 z))).upd 12 (.val (.int .i64 a))).upd 11 (.val (.int .i64 v))).upd 10 (.val (.int .i64 w))).upd 9 (.optr q9 2 0 0)).upd 8 (.optr q8 2 0 0)).upd 7 (.optr q7 80 0 0)).upd 4 (.optr q4 2 0 0)).upd 2 t)
def envC2 (q4 q7 q8 q9 : Nat) (t : AV) (w v a : Int) (i k z : Nat) : Env := (((((((((((Env.upd (fun _ => .junk) k (.val (.int .i64 z))).upd 15 (.val (.int .i64 i))).upd 12 (.val (.int .i64 a))).upd 11 (.val (.int .i64 v))).upd 10 (.val (.int .i64 w))).upd 9 (.optr q9 2 0 0)).upd 8 (.optr q8 2 0 0)).upd 7 (.optr q7 80 0 0)).upd 4 (.optr q4 2 0 0)).upd 2 t))
def envC3 (q4 q7 q8 q9 : Nat) (t : AV) (w v a : Int) (i k z : Nat) : Env := ((((((((((((Env.upd (fun _ => .junk) 18 (.val (.int .i64 z))).upd 17 (.val (.int .i64 k))).upd 15 (.val (.int .i64 i))).upd 12 (.val (.int .i64 a))).upd 11 (.val (.int .i64 v))).upd 10 (.val (.int .i64 w))).upd 9 (.optr q9 2 0 0)).upd 8 (.optr q8 2 0 0)).upd 7 (.optr q7 80 0 0)).upd 4 (.optr q4 2 0 0)).upd 2 t))

/-- What Set returns, in any case. -/
theorem set_got {x s : AV} {F B : List (List Id)} {X : List Id} (h : IsBeds x F B) (n : Ndl) (hs : IsL 2 s (X.map Id.av)) (hX : X.length ≤ 1000) (h0 : 0 ≤ n.bed) :
    ∃ yf yb nF nB, PureA Try.prog 18 [x, n.av, s] (.tup [.agg [yf, yb], .val (.int .i64 (setE F B n X))]) ∧ yf.cells = [yf] ∧ yb.cells = [yb] ∧ yf.stor = true ∧ yb.stor = true ∧ lenA yf = some (.val (.int .i64 nF)) ∧ lenA yb = some (.val (.int .i64 nB)) ∧
      (setE F B n X = 0 → IsBeds (.agg [yf, yb]) (putLF F n X) (putLB B n X)) ∧ (setE F B n X ≠ 0 → nF = 0 ∧ nB = 0) := by
  obtain ⟨y, hj, hy, hy'⟩ := h.set n hs hX h0
  by_cases he : setE F B n X = 0
  · obtain ⟨f, b, rfl, k2, k3, k4, k5, k6, k7⟩ := (hy he).cells
    exact ⟨f, b, _, _, hj, k2, k3, k4, k5, k6, k7, fun _ => hy he, fun h => absurd he h⟩
  · have := hy' he
    subst this
    exact ⟨_, _, 0, 0, hj, rfl, rfl, rfl, rfl, rfl, rfl, fun h => absurd h he, fun _ => ⟨rfl, rfl⟩⟩

/-- What is in memory when the law begins to look. -/
structure MS (O H : Heap) (q4 q7 q8 q9 : Nat) (u : Ndl) (ts : List AV) (bf bb yf yb : AV) : Prop where
  s0 : O.sub H
  o7 : O q7 = none
  f4 : H q4 = some (.arr 26 2 [.agg [.val (.int .u8 u.bed), .val (.int .i64 u.at_)]])
  f7 : H q7 = some (.arr 31 80 [.agg ts])
  f8 : H q8 = some (.arr 35 2 [.agg [bf, bb]])
  f9 : H q9 = some (.arr 35 2 [.agg [yf, yb]])

set_option maxHeartbeats 8000000 in
theorem StacksSet_ok (s t : AV) (P : List Put) (u : Ndl) (X : List Id) (hs : IsL 2 s (P.map Put.av)) (hP : ∀ p ∈ P, p.ok) (hu0 : 0 ≤ u.bed) (ht : IsL 2 t (X.map Id.av)) :
    PureA Try.prog 4 [s, u.av, t] (.val (.bool true)) := by
  intro O
  have hof := of_ok s P hs hP
  have hTo := Of_tab_ok P
  have hTn := (ofN_ok P).2
  generalize ofL P = T at hof hTo
  generalize (ofN P).2 = kk at hTo hTn
  have tl := ht.len
  rw [List.length_map] at tl
  have tc := ht.cells
  have tst := ht.stor
  have d6 : decide ((6 : Int) < (X.length : Int)) = decide (6 < X.length) := decide_eq_decide.2 (by omega)
  rw [show u.av = .agg [.val (.int .u8 u.bed), .val (.int .i64 u.at_)] from rfl]
  refine k4.call mix ?_
  unfold c4
  by_cases h6 : 6 < X.length
  · have e6 : decide (6 < X.length) = true := decide_eq_true h6
    replace h6 := (show Aside _ from h6)
    replace hof := (show Aside _ from hof)
    replace hTo := (show Aside _ from hTo)
    replace hTn := (show Aside _ from hTn)
    replace ht := (show Aside _ from ht)
    (repeat' first
    | simp (contextual := true) (maxSteps := 4000000) only [fwc, fwe, fww, reduceIte, ↓reduceIte, Nat.reduceAdd, Nat.reduceLeDiff, Nat.reduceEqDiff, Nat.reduceLT, Nat.reduceSub, reduceCtorEq, Int.reduceEq, Int.reduceLT, Int.reduceLE, Int.reduceNeg, Int.reduceToNat, Int.reduceAdd, Int.reduceSub, Nat.reduceMul, part_cell, part_agg, *]
    | (refine seqK_now ?_)
    | (refine retK_now ?_)
    | (refine retK_now' ?_)
    | (intro q hq)
    | (refine cond_intro (fun hc => ?_) (fun hc => ?_)))
    refine lives_ok.use ?_
    (repeat' first
    | simp (contextual := true) (maxSteps := 4000000) only [fwc, fwe, fww, reduceIte, ↓reduceIte, Nat.reduceAdd, Nat.reduceLeDiff, Nat.reduceEqDiff, Nat.reduceLT, Nat.reduceSub, reduceCtorEq, Int.reduceEq, Int.reduceLT, Int.reduceLE, Int.reduceNeg, Int.reduceToNat, Int.reduceAdd, Int.reduceSub, Nat.reduceMul, part_cell, part_agg, *]
    | (refine seqK_now ?_)
    | (refine retK_now ?_)
    | (refine retK_now' ?_)
    | (intro q hq)
    | (refine cond_intro (fun hc => ?_) (fun hc => ?_)))
    refine WeakR.pure (sub_upd hq (Heap.sub_refl _)) ?_
    rfl
  have e6 : decide (6 < X.length) = false := decide_eq_false h6
  replace h6 : X.length ≤ 6 := by omega
  have hle : ∀ l ∈ T, l.length ≤ 1000 := fun l hl => by have := hTo.le l hl; omega
  have hbd := beds_ok T hTo.len hle
  have hBe := beds_is hle
  have hdf := hBe.differs (tabA_is hTo)
  rw [differs_beds] at hdf
  replace hdf : PureA Try.prog 12 [.agg (tabA T), .agg [bedA (bedsF T), bedA (bedsB T)]] (.val (.int .i64 0)) := hdf
  have hIT := tabA_is hTo
  obtain ⟨hE, hL⟩ := set_law hTo (by omega) u X hu0
  obtain ⟨yf, yb, nF, nB, hj, y1, y2, y3, y4, y5, y6, hyB, hyE⟩ := set_got hBe u ht (by omega) hu0
  rw [hE] at hj hyB hyE
  have c1 := (bedA_is (bedsF T)).2.isL.cells
  have c2 := (bedA_is (bedsB T)).2.isL.cells
  have s1 := (bedA_is (bedsF T)).2.isL.stor
  have s2 := (bedA_is (bedsB T)).2.isL.stor
  have htl : (tabA T).length = 80 := by simp [tabA, hTo.len]
  have htk : (tabA T).take 80 = tabA T := List.take_of_length_le (by omega)
  have hget := fun i (hi : i < T.length) => tabA_get T i hi
  generalize bedA (bedsF T) = bf at *
  generalize bedA (bedsB T) = bb at *
  generalize tabA T = ts at *
  replace hget := (show Aside _ from hget)
  replace hTo := (show Aside _ from hTo)
  replace hIT := (show Aside _ from hIT)
  replace hL := (show Aside _ from hL)
  replace hyB := (show Aside _ from hyB)
  replace hyE := (show Aside _ from hyE)
  replace hBe := (show Aside _ from hBe)
  replace hle := (show Aside _ from hle)
  replace ht := (show Aside _ from ht)
  replace h6 := (show Aside _ from h6)
  obtain ⟨w, hw⟩ : ∃ w, setWant T u X = w := ⟨_, rfl⟩
  rw [hw] at hj hyB hyE hL
  replace hw := (show Aside _ from hw)
  clear hE
  rw [show u.av = .agg [.val (.int .u8 u.bed), .val (.int .i64 u.at_)] from rfl] at hj
  replace hu0 := (show Aside _ from hu0)
  refine seq_go ?_
  (repeat' first
    | simp (contextual := true) (maxSteps := 4000000) only [fwc, fwe, fww, reduceIte, ↓reduceIte, Nat.reduceAdd, Nat.reduceLeDiff, Nat.reduceEqDiff, Nat.reduceLT, Nat.reduceSub, reduceCtorEq, Int.reduceEq, Int.reduceLT, Int.reduceLE, Int.reduceNeg, Int.reduceToNat, Int.reduceAdd, Int.reduceSub, Nat.reduceMul, part_cell, part_agg, *]
    | (refine retK_now ?_)
    | (refine retK_now' ?_)
    | (intro q hq)
    | (refine cond_intro (fun hc => ?_) (fun hc => ?_)))
  revert q
  intro q4 hq4
  refine seqK_now ?_
  refine seq_go ?_
  refine seq_go ?_
  (repeat' first
    | simp (contextual := true) (maxSteps := 4000000) only [fwc, fwe, fww, reduceIte, ↓reduceIte, Nat.reduceAdd, Nat.reduceLeDiff, Nat.reduceEqDiff, Nat.reduceLT, Nat.reduceSub, reduceCtorEq, Int.reduceEq, Int.reduceLT, Int.reduceLE, Int.reduceNeg, Int.reduceToNat, Int.reduceAdd, Int.reduceSub, Nat.reduceMul, part_cell, part_agg, *]
    | (refine retK_now ?_)
    | (refine retK_now' ?_)
    | (intro q hq)
    | (refine cond_intro (fun hc => ?_) (fun hc => ?_)))
  refine seqK_now ?_
  (repeat' first
    | simp (contextual := true) (maxSteps := 4000000) only [fwc, fwe, fww, reduceIte, ↓reduceIte, Nat.reduceAdd, Nat.reduceLeDiff, Nat.reduceEqDiff, Nat.reduceLT, Nat.reduceSub, reduceCtorEq, Int.reduceEq, Int.reduceLT, Int.reduceLE, Int.reduceNeg, Int.reduceToNat, Int.reduceAdd, Int.reduceSub, Nat.reduceMul, part_cell, part_agg, *]
    | (refine retK_now ?_)
    | (refine retK_now' ?_)
    | (intro q hq)
    | (refine cond_intro (fun hc => ?_) (fun hc => ?_)))
  refine seqK_now ?_
  refine seq_go ?_
  (repeat' first
    | simp (contextual := true) (maxSteps := 4000000) only [fwc, fwe, fww, reduceIte, ↓reduceIte, Nat.reduceAdd, Nat.reduceLeDiff, Nat.reduceEqDiff, Nat.reduceLT, Nat.reduceSub, reduceCtorEq, Int.reduceEq, Int.reduceLT, Int.reduceLE, Int.reduceNeg, Int.reduceToNat, Int.reduceAdd, Int.reduceSub, Nat.reduceMul, part_cell, part_agg, *]
    | (refine retK_now ?_)
    | (refine retK_now' ?_)
    | (intro q hq)
    | (refine cond_intro (fun hc => ?_) (fun hc => ?_)))
  refine hof.use ?_
  clear hof
  (repeat' first
    | simp (contextual := true) (maxSteps := 4000000) only [fwc, fwe, fww, reduceIte, ↓reduceIte, Nat.reduceAdd, Nat.reduceLeDiff, Nat.reduceEqDiff, Nat.reduceLT, Nat.reduceSub, reduceCtorEq, Int.reduceEq, Int.reduceLT, Int.reduceLE, Int.reduceNeg, Int.reduceToNat, Int.reduceAdd, Int.reduceSub, Nat.reduceMul, part_cell, part_agg, *]
    | (refine retK_now ?_)
    | (refine retK_now' ?_)
    | (intro q hq)
    | (refine cond_intro (fun hc => ?_) (fun hc => ?_)))
  revert q
  intro q7 hq7
  refine seqK_now ?_
  refine seq_go ?_
  (repeat' first
    | simp (contextual := true) (maxSteps := 4000000) only [fwc, fwe, fww, reduceIte, ↓reduceIte, Nat.reduceAdd, Nat.reduceLeDiff, Nat.reduceEqDiff, Nat.reduceLT, Nat.reduceSub, reduceCtorEq, Int.reduceEq, Int.reduceLT, Int.reduceLE, Int.reduceNeg, Int.reduceToNat, Int.reduceAdd, Int.reduceSub, Nat.reduceMul, part_cell, part_agg, *]
    | (refine retK_now ?_)
    | (refine retK_now' ?_)
    | (intro q hq)
    | (refine cond_intro (fun hc => ?_) (fun hc => ?_)))
  refine hbd.use ?_
  clear hbd
  (repeat' first
    | simp (contextual := true) (maxSteps := 4000000) only [fwc, fwe, fww, reduceIte, ↓reduceIte, Nat.reduceAdd, Nat.reduceLeDiff, Nat.reduceEqDiff, Nat.reduceLT, Nat.reduceSub, reduceCtorEq, Int.reduceEq, Int.reduceLT, Int.reduceLE, Int.reduceNeg, Int.reduceToNat, Int.reduceAdd, Int.reduceSub, Nat.reduceMul, part_cell, part_agg, *]
    | (refine retK_now ?_)
    | (refine retK_now' ?_)
    | (intro q hq)
    | (refine cond_intro (fun hc => ?_) (fun hc => ?_)))
  revert q
  intro q8 hq8
  refine seqK_now ?_
  refine seq_go ?_
  (repeat' first
    | simp (contextual := true) (maxSteps := 4000000) only [fwc, fwe, fww, reduceIte, ↓reduceIte, Nat.reduceAdd, Nat.reduceLeDiff, Nat.reduceEqDiff, Nat.reduceLT, Nat.reduceSub, reduceCtorEq, Int.reduceEq, Int.reduceLT, Int.reduceLE, Int.reduceNeg, Int.reduceToNat, Int.reduceAdd, Int.reduceSub, Nat.reduceMul, part_cell, part_agg, *]
    | (refine retK_now ?_)
    | (refine retK_now' ?_)
    | (intro q hq)
    | (refine cond_intro (fun hc => ?_) (fun hc => ?_)))
  refine hj.use ?_
  clear hj
  (repeat' first
    | simp (contextual := true) (maxSteps := 4000000) only [fwc, fwe, fww, reduceIte, ↓reduceIte, Nat.reduceAdd, Nat.reduceLeDiff, Nat.reduceEqDiff, Nat.reduceLT, Nat.reduceSub, reduceCtorEq, Int.reduceEq, Int.reduceLT, Int.reduceLE, Int.reduceNeg, Int.reduceToNat, Int.reduceAdd, Int.reduceSub, Nat.reduceMul, part_cell, part_agg, *]
    | (refine retK_now ?_)
    | (refine retK_now' ?_)
    | (intro q hq)
    | (refine cond_intro (fun hc => ?_) (fun hc => ?_)))
  revert q
  intro q9 hq9
  refine seqK_now ?_
  refine cmd_gen (fun H => MS O H q4 q7 q8 q9 u ts bf bb yf yb) ⟨sub_upd hq9.2.2.2.2.2.2 (sub_upd hq8.2.2.2.2 (sub_upd hq7.2.2 (sub_upd hq4 (Heap.sub_refl _)))), hq7.2.2, by simp only [Heap.upd_apply, *, if_true, if_false], by simp only [Heap.upd_apply, *, if_true, if_false], by simp only [Heap.upd_apply, *, if_true, if_false], by simp only [Heap.upd_apply, *, if_true, if_false]⟩ ?_
  clear hq4 hq7 hq8 hq9
  intro H hM
  obtain ⟨s0, o7, f4, f7, f8, f9⟩ := hM
  replace s0 := (show Aside _ from s0)
  replace o7 := (show Aside _ from o7)
  refine seq_go ?_
  (repeat' first
    | simp (contextual := true) (maxSteps := 4000000) only [fwc, fwe, fww, reduceIte, ↓reduceIte, Nat.reduceAdd, Nat.reduceLeDiff, Nat.reduceEqDiff, Nat.reduceLT, Nat.reduceSub, reduceCtorEq, Int.reduceEq, Int.reduceLT, Int.reduceLE, Int.reduceNeg, Int.reduceToNat, Int.reduceAdd, Int.reduceSub, Nat.reduceMul, part_cell, part_agg, *]
    | (refine retK_now ?_)
    | (refine retK_now' ?_)
    | (intro q hq)
    | (refine cond_intro (fun hc => ?_) (fun hc => ?_)))
  refine seqK_now ?_
  refine seq_go ?_
  (repeat' first
    | simp (contextual := true) (maxSteps := 4000000) only [fwc, fwe, fww, reduceIte, ↓reduceIte, Nat.reduceAdd, Nat.reduceLeDiff, Nat.reduceEqDiff, Nat.reduceLT, Nat.reduceSub, reduceCtorEq, Int.reduceEq, Int.reduceLT, Int.reduceLE, Int.reduceNeg, Int.reduceToNat, Int.reduceAdd, Int.reduceSub, Nat.reduceMul, part_cell, part_agg, *]
    | (refine retK_now ?_)
    | (refine retK_now' ?_)
    | (intro q hq)
    | (refine cond_intro (fun hc => ?_) (fun hc => ?_)))
  refine seqK_now ?_
  refine seq_post (fun e1 O1 => O1 = H ∧ e1 = envB q4 q7 q8 q9 t w 0 (ixTo u 80)) ?_ ?_
  rotate_left
  · intro F hF
    replace hF := (show Aside _ from hF)
    obtain ⟨I, hI⟩ := hideI (fun m e O' => ∃ j : Nat, j ≤ 80 ∧ m = 80 - j ∧ O' = H ∧ e = envC q4 q7 q8 q9 t w 0 (ixTo u j) 13 j)
    refine seq_go ?_
    (repeat' first
    | simp (contextual := true) (maxSteps := 4000000) only [fwc, fwe, fww, reduceIte, ↓reduceIte, Nat.reduceAdd, Nat.reduceLeDiff, Nat.reduceEqDiff, Nat.reduceLT, Nat.reduceSub, reduceCtorEq, Int.reduceEq, Int.reduceLT, Int.reduceLE, Int.reduceNeg, Int.reduceToNat, Int.reduceAdd, Int.reduceSub, Nat.reduceMul, part_cell, part_agg, *]
    | (refine retK_now ?_)
    | (refine retK_now' ?_)
    | (intro q hq)
    | (refine cond_intro (fun hc => ?_) (fun hc => ?_)))
    refine seqK_now ?_
    (repeat' first
    | simp (contextual := true) (maxSteps := 4000000) only [fwc, fwe, fww, reduceIte, ↓reduceIte, Nat.reduceAdd, Nat.reduceLeDiff, Nat.reduceEqDiff, Nat.reduceLT, Nat.reduceSub, reduceCtorEq, Int.reduceEq, Int.reduceLT, Int.reduceLE, Int.reduceNeg, Int.reduceToNat, Int.reduceAdd, Int.reduceSub, Nat.reduceMul, part_cell, part_agg, *]
    | (refine retK_now ?_)
    | (refine retK_now' ?_)
    | (intro q hq)
    | (refine cond_intro (fun hc => ?_) (fun hc => ?_)))
    refine cmd_loop I 80 (by
      rw [hI.out]
      exact ⟨0, by omega, rfl, rfl, by rw [ixTo_zero]; rfl⟩) ?_
    intro m e O' hh
    rw [hI.out] at hh
    obtain ⟨j, hj80, rfl, rfl, rfl⟩ := hh
    unfold envC
    have dj : decide ((j : Int) < 80) = decide (j < 80) := decide_eq_decide.2 (by omega)
    by_cases hjl : j < 80
    · have e0 : decide (j < 80) = true := decide_eq_true hjl
      have hNd := Needle_ok j (by omega)
      rw [show (needleL j).av = .agg [.val (.int .u8 (needleL j).bed), .val (.int .i64 (needleL j).at_)] from rfl] at hNd
      have hwu : IntKind.u8.wrap (j : Int) = (j : Int) := wrap_u8n (by omega)
      have hwj : j < 4611686018427387904 := by omega
      have l1 := le_nd' (needleL j) u
      have x1 := ixTo_succ hu0.out hjl
      generalize ixTo u j = a at *
      replace x1 := (show Aside _ from x1)
      obtain ⟨b1, hb1⟩ : ∃ x, decide (needleL j = u) = x := ⟨_, rfl⟩
      rw [hb1] at l1
      replace hb1 := (show Aside _ from hb1)
      generalize needleL j = nd at l1 hNd
      cases b1
      · (repeat' first
    | simp (contextual := true) (maxSteps := 4000000) only [fwc, fwe, fww, reduceIte, ↓reduceIte, Nat.reduceAdd, Nat.reduceLeDiff, Nat.reduceEqDiff, Nat.reduceLT, Nat.reduceSub, reduceCtorEq, Int.reduceEq, Int.reduceLT, Int.reduceLE, Int.reduceNeg, Int.reduceToNat, Int.reduceAdd, Int.reduceSub, Nat.reduceMul, ilt_nat, part_cell, part_agg, wrap_succ, *]
    | (refine seqK_now ?_)
    | (refine retK_now ?_)
    | (refine retK_now' ?_)
    | (intro q hq)
    | (refine cond_intro (fun hc => ?_) (fun hc => ?_)))
        refine callF_use hNd ?_
        (repeat' first
    | simp (contextual := true) (maxSteps := 4000000) only [fwc, fwe, fww, reduceIte, ↓reduceIte, Nat.reduceAdd, Nat.reduceLeDiff, Nat.reduceEqDiff, Nat.reduceLT, Nat.reduceSub, reduceCtorEq, Int.reduceEq, Int.reduceLT, Int.reduceLE, Int.reduceNeg, Int.reduceToNat, Int.reduceAdd, Int.reduceSub, Nat.reduceMul, ilt_nat, part_cell, part_agg, wrap_succ, *]
    | (refine seqK_now ?_)
    | (refine retK_now ?_)
    | (refine retK_now' ?_)
    | (intro q hq)
    | (refine cond_intro (fun hc => ?_) (fun hc => ?_)))
        refine loopK_now (80 - (j + 1)) (by omega) ?_
        rw [hI.out]
        refine ⟨j + 1, by omega, rfl, rfl, ?_⟩
        rw [x1.out, if_neg (of_decide_eq_false hb1.out)]
        rfl
      · (repeat' first
    | simp (contextual := true) (maxSteps := 4000000) only [fwc, fwe, fww, reduceIte, ↓reduceIte, Nat.reduceAdd, Nat.reduceLeDiff, Nat.reduceEqDiff, Nat.reduceLT, Nat.reduceSub, reduceCtorEq, Int.reduceEq, Int.reduceLT, Int.reduceLE, Int.reduceNeg, Int.reduceToNat, Int.reduceAdd, Int.reduceSub, Nat.reduceMul, ilt_nat, part_cell, part_agg, wrap_succ, *]
    | (refine seqK_now ?_)
    | (refine retK_now ?_)
    | (refine retK_now' ?_)
    | (intro q hq)
    | (refine cond_intro (fun hc => ?_) (fun hc => ?_)))
        refine callF_use hNd ?_
        (repeat' first
    | simp (contextual := true) (maxSteps := 4000000) only [fwc, fwe, fww, reduceIte, ↓reduceIte, Nat.reduceAdd, Nat.reduceLeDiff, Nat.reduceEqDiff, Nat.reduceLT, Nat.reduceSub, reduceCtorEq, Int.reduceEq, Int.reduceLT, Int.reduceLE, Int.reduceNeg, Int.reduceToNat, Int.reduceAdd, Int.reduceSub, Nat.reduceMul, ilt_nat, part_cell, part_agg, wrap_succ, *]
    | (refine seqK_now ?_)
    | (refine retK_now ?_)
    | (refine retK_now' ?_)
    | (intro q hq)
    | (refine cond_intro (fun hc => ?_) (fun hc => ?_)))
        refine loopK_now (80 - (j + 1)) (by omega) ?_
        rw [hI.out]
        refine ⟨j + 1, by omega, rfl, rfl, ?_⟩
        rw [x1.out, if_pos (of_decide_eq_true hb1.out)]
        rfl
    · have e0 : decide (j < 80) = false := decide_eq_false hjl
      have hj8 : j = 80 := by omega
      replace hjl := (show Aside _ from hjl)
      have x1 : ixTo u j = ixTo u 80 := by rw [hj8]
      rw [x1]
      replace hj8 := (show Aside _ from hj8)
      clear x1
      (repeat' first
    | simp (contextual := true) (maxSteps := 4000000) only [fwc, fwe, fww, reduceIte, ↓reduceIte, Nat.reduceAdd, Nat.reduceLeDiff, Nat.reduceEqDiff, Nat.reduceLT, Nat.reduceSub, reduceCtorEq, Int.reduceEq, Int.reduceLT, Int.reduceLE, Int.reduceNeg, Int.reduceToNat, Int.reduceAdd, Int.reduceSub, Nat.reduceMul, ilt_nat, part_cell, part_agg, wrap_succ, *]
    | (refine seqK_now ?_)
    | (refine retK_now ?_)
    | (refine retK_now' ?_)
    | (intro q hq)
    | (refine cond_intro (fun hc => ?_) (fun hc => ?_)))
      exact hF.out _ _ ⟨rfl, rfl⟩
  intro e1 O1 hQ
  obtain ⟨hO1, rfl⟩ := hQ
  rw [hO1]
  clear hO1 O1
  have xa := ixTo_all hu0.out
  rw [xa]
  clear xa
  unfold envB
  refine seq_post (fun e1 O1 => O1 = H ∧ e1 = envB q4 q7 q8 q9 t w (wN u X 0) (if u.bad = true then -1 else (ix u : Int))) ?_ ?_
  rotate_left
  · intro F hF
    replace hF := (show Aside _ from hF)
    cases hbu : u.bad with
    | true =>
      have hw1 : wN u X 0 = 1 := by rw [wN_zero, if_pos hbu]
      have d1 : decide ((-1 : Int) < 0) = true := by decide
      simp only [hbu, if_true] at hF ⊢
      replace hbu := (show Aside _ from hbu)
      replace hw1 := (show Aside _ from hw1)
      (repeat' first
    | simp (contextual := true) (maxSteps := 4000000) only [fwc, fwe, fww, reduceIte, ↓reduceIte, Nat.reduceAdd, Nat.reduceLeDiff, Nat.reduceEqDiff, Nat.reduceLT, Nat.reduceSub, reduceCtorEq, Int.reduceEq, Int.reduceLT, Int.reduceLE, Int.reduceNeg, Int.reduceToNat, Int.reduceAdd, Int.reduceSub, Nat.reduceMul, part_cell, part_agg, *]
    | (refine seqK_now ?_)
    | (refine retK_now ?_)
    | (refine retK_now' ?_)
    | (intro q hq)
    | (refine cond_intro (fun hc => ?_) (fun hc => ?_)))
      refine hF.out _ _ ⟨rfl, ?_⟩
      rw [hw1.out]
      rfl
    | false =>
      have hw1 : wN u X 0 = 0 := by rw [wN_zero, if_neg (by rw [hbu]; simp)]
      have d1 : decide (((ix u : Nat) : Int) < 0) = false := decide_eq_false (by omega)
      simp only [hbu, Bool.false_eq_true, if_false] at hF ⊢
      replace hbu := (show Aside _ from hbu)
      replace hw1 := (show Aside _ from hw1)
      (repeat' first
    | simp (contextual := true) (maxSteps := 4000000) only [fwc, fwe, fww, reduceIte, ↓reduceIte, Nat.reduceAdd, Nat.reduceLeDiff, Nat.reduceEqDiff, Nat.reduceLT, Nat.reduceSub, reduceCtorEq, Int.reduceEq, Int.reduceLT, Int.reduceLE, Int.reduceNeg, Int.reduceToNat, Int.reduceAdd, Int.reduceSub, Nat.reduceMul, part_cell, part_agg, *]
    | (refine seqK_now ?_)
    | (refine retK_now ?_)
    | (refine retK_now' ?_)
    | (intro q hq)
    | (refine cond_intro (fun hc => ?_) (fun hc => ?_)))
      refine hF.out _ _ ⟨rfl, ?_⟩
      rw [hw1.out]
      rfl
  intro e1 O1 hQ
  obtain ⟨hO1, rfl⟩ := hQ
  rw [hO1]
  clear hO1 O1
  obtain ⟨z, hz⟩ : ∃ z : Int, (if u.bad = true then -1 else (ix u : Int)) = z := ⟨_, rfl⟩
  rw [hz]
  replace hz := (show Aside _ from hz)
  unfold envB
  refine seq_post (fun e1 O1 => O1 = H ∧ e1 = envB q4 q7 q8 q9 t w (wN u X X.length) z) ?_ ?_
  rotate_left
  · intro F hF
    replace hF := (show Aside _ from hF)
    obtain ⟨I, hI⟩ := hideI (fun m e O' => ∃ i : Nat, i ≤ X.length ∧ m = X.length - i ∧ O' = H ∧ e = envC q4 q7 q8 q9 t w (wN u X i) z 14 i)
    obtain ⟨v0, hv0⟩ : ∃ v, wN u X 0 = v := ⟨_, rfl⟩
    rw [hv0]
    replace hv0 := (show Aside _ from hv0)
    refine seq_go ?_
    (repeat' first
    | simp (contextual := true) (maxSteps := 4000000) only [fwc, fwe, fww, reduceIte, ↓reduceIte, Nat.reduceAdd, Nat.reduceLeDiff, Nat.reduceEqDiff, Nat.reduceLT, Nat.reduceSub, reduceCtorEq, Int.reduceEq, Int.reduceLT, Int.reduceLE, Int.reduceNeg, Int.reduceToNat, Int.reduceAdd, Int.reduceSub, Nat.reduceMul, part_cell, part_agg, *]
    | (refine retK_now ?_)
    | (refine retK_now' ?_)
    | (intro q hq)
    | (refine cond_intro (fun hc => ?_) (fun hc => ?_)))
    refine seqK_now ?_
    (repeat' first
    | simp (contextual := true) (maxSteps := 4000000) only [fwc, fwe, fww, reduceIte, ↓reduceIte, Nat.reduceAdd, Nat.reduceLeDiff, Nat.reduceEqDiff, Nat.reduceLT, Nat.reduceSub, reduceCtorEq, Int.reduceEq, Int.reduceLT, Int.reduceLE, Int.reduceNeg, Int.reduceToNat, Int.reduceAdd, Int.reduceSub, Nat.reduceMul, part_cell, part_agg, *]
    | (refine retK_now ?_)
    | (refine retK_now' ?_)
    | (intro q hq)
    | (refine cond_intro (fun hc => ?_) (fun hc => ?_)))
    refine cmd_loop I X.length (by
      rw [hI.out]
      exact ⟨0, by omega, rfl, rfl, by rw [hv0.out]; rfl⟩) ?_
    intro m e O' hh
    rw [hI.out] at hh
    obtain ⟨i, hil, rfl, rfl, rfl⟩ := hh
    unfold envC
    by_cases hi : i < X.length
    · have e0 : decide (i < X.length) = true := decide_eq_true hi
      have hwi : i < 4611686018427387904 := by have := h6.out; omega
      have hia := IsL.ia ht.out (i := i) (by rw [List.length_map]; exact hi)
      rw [List.getElem_map] at hia
      have x1 := wN_succ (n := u) hi
      generalize wN u X i = v at *
      generalize X[i] = y at *
      replace x1 := (show Aside _ from x1)
      rw [show y.av = .agg [.val (.int .u8 y.y), .val (.int .i64 y.n)] from rfl] at hia
      by_cases k1 : y.y < 1
      · have g0 : decide (y.y < 1) = true := decide_eq_true k1
        have hnm : ¬ named y = true := by unfold named; simp only [Bool.and_eq_true, decide_eq_true_eq]; omega
        replace k1 := (show Aside _ from k1)
        replace hnm := (show Aside _ from hnm)
        (repeat' first
    | simp (contextual := true) (maxSteps := 4000000) only [fwc, fwe, fww, reduceIte, ↓reduceIte, Nat.reduceAdd, Nat.reduceLeDiff, Nat.reduceEqDiff, Nat.reduceLT, Nat.reduceSub, reduceCtorEq, Int.reduceEq, Int.reduceLT, Int.reduceLE, Int.reduceNeg, Int.reduceToNat, Int.reduceAdd, Int.reduceSub, Nat.reduceMul, ilt_nat, part_cell, part_agg, wrap_succ, *]
    | (refine seqK_now ?_)
    | (refine retK_now ?_)
    | (refine retK_now' ?_)
    | (intro q hq)
    | (refine cond_intro (fun hc => ?_) (fun hc => ?_)))
        refine loopK_now (X.length - (i + 1)) (by omega) ?_
        rw [hI.out]
        refine ⟨i + 1, by omega, rfl, rfl, ?_⟩
        rw [x1.out, if_neg hnm.out]
        rfl
      · have g0 : decide (y.y < 1) = false := decide_eq_false k1
        by_cases k2 : 6 < y.y
        · have g1 : decide (6 < y.y) = true := decide_eq_true k2
          have hnm : ¬ named y = true := by unfold named; simp only [Bool.and_eq_true, decide_eq_true_eq]; omega
          replace k1 := (show Aside _ from k1)
          replace k2 := (show Aside _ from k2)
          replace hnm := (show Aside _ from hnm)
          (repeat' first
    | simp (contextual := true) (maxSteps := 4000000) only [fwc, fwe, fww, reduceIte, ↓reduceIte, Nat.reduceAdd, Nat.reduceLeDiff, Nat.reduceEqDiff, Nat.reduceLT, Nat.reduceSub, reduceCtorEq, Int.reduceEq, Int.reduceLT, Int.reduceLE, Int.reduceNeg, Int.reduceToNat, Int.reduceAdd, Int.reduceSub, Nat.reduceMul, ilt_nat, part_cell, part_agg, wrap_succ, *]
    | (refine seqK_now ?_)
    | (refine retK_now ?_)
    | (refine retK_now' ?_)
    | (intro q hq)
    | (refine cond_intro (fun hc => ?_) (fun hc => ?_)))
          refine loopK_now (X.length - (i + 1)) (by omega) ?_
          rw [hI.out]
          refine ⟨i + 1, by omega, rfl, rfl, ?_⟩
          rw [x1.out, if_neg hnm.out]
          rfl
        · have g1 : decide (6 < y.y) = false := decide_eq_false k2
          by_cases k3 : y.n < 0
          · have g2 : decide (y.n < 0) = true := decide_eq_true k3
            have hnm : ¬ named y = true := by unfold named; simp only [Bool.and_eq_true, decide_eq_true_eq]; omega
            replace k1 := (show Aside _ from k1)
            replace k2 := (show Aside _ from k2)
            replace k3 := (show Aside _ from k3)
            replace hnm := (show Aside _ from hnm)
            (repeat' first
    | simp (contextual := true) (maxSteps := 4000000) only [fwc, fwe, fww, reduceIte, ↓reduceIte, Nat.reduceAdd, Nat.reduceLeDiff, Nat.reduceEqDiff, Nat.reduceLT, Nat.reduceSub, reduceCtorEq, Int.reduceEq, Int.reduceLT, Int.reduceLE, Int.reduceNeg, Int.reduceToNat, Int.reduceAdd, Int.reduceSub, Nat.reduceMul, ilt_nat, part_cell, part_agg, wrap_succ, *]
    | (refine seqK_now ?_)
    | (refine retK_now ?_)
    | (refine retK_now' ?_)
    | (intro q hq)
    | (refine cond_intro (fun hc => ?_) (fun hc => ?_)))
            refine loopK_now (X.length - (i + 1)) (by omega) ?_
            rw [hI.out]
            refine ⟨i + 1, by omega, rfl, rfl, ?_⟩
            rw [x1.out, if_neg hnm.out]
            rfl
          · have g2 : decide (y.n < 0) = false := decide_eq_false k3
            by_cases k4 : 2047 < y.n
            · have g3 : decide (2047 < y.n) = true := decide_eq_true k4
              have hnm : ¬ named y = true := by unfold named; simp only [Bool.and_eq_true, decide_eq_true_eq]; omega
              replace k1 := (show Aside _ from k1)
              replace k2 := (show Aside _ from k2)
              replace k3 := (show Aside _ from k3)
              replace k4 := (show Aside _ from k4)
              replace hnm := (show Aside _ from hnm)
              (repeat' first
    | simp (contextual := true) (maxSteps := 4000000) only [fwc, fwe, fww, reduceIte, ↓reduceIte, Nat.reduceAdd, Nat.reduceLeDiff, Nat.reduceEqDiff, Nat.reduceLT, Nat.reduceSub, reduceCtorEq, Int.reduceEq, Int.reduceLT, Int.reduceLE, Int.reduceNeg, Int.reduceToNat, Int.reduceAdd, Int.reduceSub, Nat.reduceMul, ilt_nat, part_cell, part_agg, wrap_succ, *]
    | (refine seqK_now ?_)
    | (refine retK_now ?_)
    | (refine retK_now' ?_)
    | (intro q hq)
    | (refine cond_intro (fun hc => ?_) (fun hc => ?_)))
              refine loopK_now (X.length - (i + 1)) (by omega) ?_
              rw [hI.out]
              refine ⟨i + 1, by omega, rfl, rfl, ?_⟩
              rw [x1.out, if_neg hnm.out]
              rfl
            · have g3 : decide (2047 < y.n) = false := decide_eq_false k4
              have hnm : named y = true := by unfold named; simp only [Bool.and_eq_true, decide_eq_true_eq]; omega
              replace k1 := (show Aside _ from k1)
              replace k2 := (show Aside _ from k2)
              replace k3 := (show Aside _ from k3)
              replace k4 := (show Aside _ from k4)
              replace hnm := (show Aside _ from hnm)
              (repeat' first
    | simp (contextual := true) (maxSteps := 4000000) only [fwc, fwe, fww, reduceIte, ↓reduceIte, Nat.reduceAdd, Nat.reduceLeDiff, Nat.reduceEqDiff, Nat.reduceLT, Nat.reduceSub, reduceCtorEq, Int.reduceEq, Int.reduceLT, Int.reduceLE, Int.reduceNeg, Int.reduceToNat, Int.reduceAdd, Int.reduceSub, Nat.reduceMul, ilt_nat, part_cell, part_agg, wrap_succ, *]
    | (refine seqK_now ?_)
    | (refine retK_now ?_)
    | (refine retK_now' ?_)
    | (intro q hq)
    | (refine cond_intro (fun hc => ?_) (fun hc => ?_)))
              refine loopK_now (X.length - (i + 1)) (by omega) ?_
              rw [hI.out]
              refine ⟨i + 1, by omega, rfl, rfl, ?_⟩
              rw [x1.out, if_pos hnm.out]
              rfl
    · have e0 : decide (i < X.length) = false := decide_eq_false hi
      have hie : i = X.length := by omega
      replace hi := (show Aside _ from hi)
      have x1 : wN u X i = wN u X X.length := by rw [hie]
      rw [x1]
      replace hie := (show Aside _ from hie)
      clear x1
      obtain ⟨v1, hv1⟩ : ∃ v, wN u X X.length = v := ⟨_, rfl⟩
      rw [hv1]
      replace hv1 := (show Aside _ from hv1)
      (repeat' first
    | simp (contextual := true) (maxSteps := 4000000) only [fwc, fwe, fww, reduceIte, ↓reduceIte, Nat.reduceAdd, Nat.reduceLeDiff, Nat.reduceEqDiff, Nat.reduceLT, Nat.reduceSub, reduceCtorEq, Int.reduceEq, Int.reduceLT, Int.reduceLE, Int.reduceNeg, Int.reduceToNat, Int.reduceAdd, Int.reduceSub, Nat.reduceMul, ilt_nat, part_cell, part_agg, wrap_succ, *]
    | (refine seqK_now ?_)
    | (refine retK_now ?_)
    | (refine retK_now' ?_)
    | (intro q hq)
    | (refine cond_intro (fun hc => ?_) (fun hc => ?_)))
      refine hF.out _ _ ⟨rfl, ?_⟩
      rw [hv1.out]
      rfl
  intro e1 O1 hQ
  obtain ⟨hO1, rfl⟩ := hQ
  rw [hO1]
  clear hO1 O1
  rw [wN_all]
  unfold envB
  refine seq_post (fun e1 O1 => O1 = H ∧ e1 = envB q4 q7 q8 q9 t w (if (u.bad || badNames X) = true then 1 else if 4 < X.length then 9 else 0) z) ?_ ?_
  rotate_left
  · intro F hF
    replace hF := (show Aside _ from hF)
    have d4 : decide ((4 : Int) < (X.length : Int)) = decide (4 < X.length) := decide_eq_decide.2 (by omega)
    have d00 : decide ((0 : Int) = 0) = true := by decide
    have d10 : decide ((1 : Int) = 0) = false := by decide
    by_cases hb : (u.bad || badNames X) = true
    · rw [if_pos hb] at hF ⊢
      replace hb := (show Aside _ from hb)
      (repeat' first
    | simp (contextual := true) (maxSteps := 4000000) only [fwc, fwe, fww, reduceIte, ↓reduceIte, Nat.reduceAdd, Nat.reduceLeDiff, Nat.reduceEqDiff, Nat.reduceLT, Nat.reduceSub, reduceCtorEq, Int.reduceEq, Int.reduceLT, Int.reduceLE, Int.reduceNeg, Int.reduceToNat, Int.reduceAdd, Int.reduceSub, Nat.reduceMul, part_cell, part_agg, *]
    | (refine seqK_now ?_)
    | (refine retK_now ?_)
    | (refine retK_now' ?_)
    | (intro q hq)
    | (refine cond_intro (fun hc => ?_) (fun hc => ?_)))
      exact hF.out _ _ ⟨rfl, rfl⟩
    · rw [if_neg hb] at hF ⊢
      replace hb := (show Aside _ from hb)
      by_cases h4 : 4 < X.length
      · have e4 : decide (4 < X.length) = true := decide_eq_true h4
        rw [if_pos h4] at hF
        replace h4 := (show Aside _ from h4)
        (repeat' first
    | simp (contextual := true) (maxSteps := 4000000) only [fwc, fwe, fww, reduceIte, ↓reduceIte, Nat.reduceAdd, Nat.reduceLeDiff, Nat.reduceEqDiff, Nat.reduceLT, Nat.reduceSub, reduceCtorEq, Int.reduceEq, Int.reduceLT, Int.reduceLE, Int.reduceNeg, Int.reduceToNat, Int.reduceAdd, Int.reduceSub, Nat.reduceMul, part_cell, part_agg, *]
    | (refine seqK_now ?_)
    | (refine retK_now ?_)
    | (refine retK_now' ?_)
    | (intro q hq)
    | (refine cond_intro (fun hc => ?_) (fun hc => ?_)))
        exact hF.out _ _ ⟨rfl, rfl⟩
      · have e4 : decide (4 < X.length) = false := decide_eq_false h4
        rw [if_neg h4] at hF
        replace h4 := (show Aside _ from h4)
        (repeat' first
    | simp (contextual := true) (maxSteps := 4000000) only [fwc, fwe, fww, reduceIte, ↓reduceIte, Nat.reduceAdd, Nat.reduceLeDiff, Nat.reduceEqDiff, Nat.reduceLT, Nat.reduceSub, reduceCtorEq, Int.reduceEq, Int.reduceLT, Int.reduceLE, Int.reduceNeg, Int.reduceToNat, Int.reduceAdd, Int.reduceSub, Nat.reduceMul, part_cell, part_agg, *]
    | (refine seqK_now ?_)
    | (refine retK_now ?_)
    | (refine retK_now' ?_)
    | (intro q hq)
    | (refine cond_intro (fun hc => ?_) (fun hc => ?_)))
        exact hF.out _ _ ⟨rfl, rfl⟩
  intro e1 O1 hQ
  obtain ⟨hO1, rfl⟩ := hQ
  rw [hO1]
  clear hO1 O1
  unfold envB
  refine seq_post (fun e1 O1 => O1 = H ∧ e1 = envB q4 q7 q8 q9 t w w z) ?_ ?_
  rotate_left
  · intro F hF
    replace hF := (show Aside _ from hF)
    have hw' := hw.out
    unfold setWant at hw'
    by_cases h0 : (if (u.bad || badNames X) = true then 1 else if 4 < X.length then 9 else 0 : Int) = 0
    rotate_left
    · have hw3 : (if (u.bad || badNames X) = true then 1 else if 4 < X.length then 9 else 0 : Int) = w := by
        rw [← hw']
        by_cases hb : (u.bad || badNames X) = true
        · rw [if_pos hb, if_pos hb]
        · rw [if_neg hb] at h0
          rw [if_neg hb, if_neg hb]
          by_cases h4 : 4 < X.length
          · rw [if_pos h4, if_pos h4]
          · rw [if_neg h4] at h0; exact absurd rfl h0
      rw [hw3] at h0 ⊢
      have dw : decide (w = 0) = false := decide_eq_false h0
      obtain ⟨b0, hb0⟩ : ∃ b, decide (0 < X.length) = b := ⟨_, rfl⟩
      have d0 : decide ((0 : Int) < (X.length : Int)) = b0 := by rw [← hb0]; exact decide_eq_decide.2 (by omega)
      replace h0 := (show Aside _ from h0)
      replace hw3 := (show Aside _ from hw3)
      replace hw' := (show Aside _ from hw')
      replace hb0 := (show Aside _ from hb0)
      obtain ⟨I, hI⟩ := hideI (fun m e O' => m = 0 ∧ O' = H ∧ e = envC q4 q7 q8 q9 t w w z 15 0)
      refine seq_go ?_
      (repeat' first
    | simp (contextual := true) (maxSteps := 4000000) only [fwc, fwe, fww, reduceIte, ↓reduceIte, Nat.reduceAdd, Nat.reduceLeDiff, Nat.reduceEqDiff, Nat.reduceLT, Nat.reduceSub, reduceCtorEq, Int.reduceEq, Int.reduceLT, Int.reduceLE, Int.reduceNeg, Int.reduceToNat, Int.reduceAdd, Int.reduceSub, Nat.reduceMul, part_cell, part_agg, *]
    | (refine retK_now ?_)
    | (refine retK_now' ?_)
    | (intro q hq)
    | (refine cond_intro (fun hc => ?_) (fun hc => ?_)))
      refine seqK_now ?_
      (repeat' first
    | simp (contextual := true) (maxSteps := 4000000) only [fwc, fwe, fww, reduceIte, ↓reduceIte, Nat.reduceAdd, Nat.reduceLeDiff, Nat.reduceEqDiff, Nat.reduceLT, Nat.reduceSub, reduceCtorEq, Int.reduceEq, Int.reduceLT, Int.reduceLE, Int.reduceNeg, Int.reduceToNat, Int.reduceAdd, Int.reduceSub, Nat.reduceMul, part_cell, part_agg, *]
    | (refine retK_now ?_)
    | (refine retK_now' ?_)
    | (intro q hq)
    | (refine cond_intro (fun hc => ?_) (fun hc => ?_)))
      refine cmd_loop I 0 (by
        rw [hI.out]
        exact ⟨rfl, rfl, rfl⟩) ?_
      intro m e O' hh
      rw [hI.out] at hh
      obtain ⟨rfl, hOH, rfl⟩ := hh
      rw [hOH]
      clear hOH O'
      unfold envC
      have z0 : ((0 : Nat) : Int) = 0 := rfl
      rw [z0]
      cases b0
      · (repeat' first
    | simp (contextual := true) (maxSteps := 4000000) only [fwc, fwe, fww, reduceIte, ↓reduceIte, Nat.reduceAdd, Nat.reduceLeDiff, Nat.reduceEqDiff, Nat.reduceLT, Nat.reduceSub, reduceCtorEq, Int.reduceEq, Int.reduceLT, Int.reduceLE, Int.reduceNeg, Int.reduceToNat, Int.reduceAdd, Int.reduceSub, Nat.reduceMul, part_cell, part_agg, *]
    | (refine seqK_now ?_)
    | (refine retK_now ?_)
    | (refine retK_now' ?_)
    | (intro q hq)
    | (refine cond_intro (fun hc => ?_) (fun hc => ?_)))
        exact hF.out _ _ ⟨rfl, rfl⟩
      · (repeat' first
    | simp (contextual := true) (maxSteps := 4000000) only [fwc, fwe, fww, reduceIte, ↓reduceIte, Nat.reduceAdd, Nat.reduceLeDiff, Nat.reduceEqDiff, Nat.reduceLT, Nat.reduceSub, reduceCtorEq, Int.reduceEq, Int.reduceLT, Int.reduceLE, Int.reduceNeg, Int.reduceToNat, Int.reduceAdd, Int.reduceSub, Nat.reduceMul, part_cell, part_agg, *]
    | (refine seqK_now ?_)
    | (refine retK_now ?_)
    | (refine retK_now' ?_)
    | (intro q hq)
    | (refine cond_intro (fun hc => ?_) (fun hc => ?_)))
        exact hF.out _ _ ⟨rfl, rfl⟩
    have hb : ¬ (u.bad || badNames X) = true := fun hb => by rw [if_pos hb] at h0; cases h0
    have h4 : ¬ 4 < X.length := fun h4 => by rw [if_neg hb, if_pos h4] at h0; cases h0
    rw [if_neg hb, if_neg h4] at hw'
    rw [h0]
    have hb' : u.bad = false ∧ badNames X = false := by simpa using hb
    have hub : u.bad = false := hb'.1
    have gu : u.Good := ⟨hub, hu0.out⟩
    have ha80 := ix_lt gu
    have hza : z = ((ix u : Nat) : Int) := by rw [← hz.out, if_neg (by rw [hub]; simp)]
    rw [hza] at hF ⊢
    generalize ix u = a at *
    clear h0 hb'
    replace hb := (show Aside _ from hb)
    replace h4 := (show Aside _ from h4)
    replace hub := (show Aside _ from hub)
    replace gu := (show Aside _ from gu)
    replace hza := (show Aside _ from hza)
    replace hw' := (show Aside _ from hw')
    replace ha80 := (show Aside _ from ha80)
    obtain ⟨I, hI⟩ := hideI (fun m e O' => ∃ i : Nat, i ≤ X.length ∧ m = X.length - i ∧ O' = H ∧ e = envC q4 q7 q8 q9 t w (w4 T a X i) a 15 i)
    refine seq_go ?_
    (repeat' first
    | simp (contextual := true) (maxSteps := 4000000) only [fwc, fwe, fww, reduceIte, ↓reduceIte, Nat.reduceAdd, Nat.reduceLeDiff, Nat.reduceEqDiff, Nat.reduceLT, Nat.reduceSub, reduceCtorEq, Int.reduceEq, Int.reduceLT, Int.reduceLE, Int.reduceNeg, Int.reduceToNat, Int.reduceAdd, Int.reduceSub, Nat.reduceMul, part_cell, part_agg, *]
    | (refine retK_now ?_)
    | (refine retK_now' ?_)
    | (intro q hq)
    | (refine cond_intro (fun hc => ?_) (fun hc => ?_)))
    refine seqK_now ?_
    (repeat' first
    | simp (contextual := true) (maxSteps := 4000000) only [fwc, fwe, fww, reduceIte, ↓reduceIte, Nat.reduceAdd, Nat.reduceLeDiff, Nat.reduceEqDiff, Nat.reduceLT, Nat.reduceSub, reduceCtorEq, Int.reduceEq, Int.reduceLT, Int.reduceLE, Int.reduceNeg, Int.reduceToNat, Int.reduceAdd, Int.reduceSub, Nat.reduceMul, part_cell, part_agg, *]
    | (refine retK_now ?_)
    | (refine retK_now' ?_)
    | (intro q hq)
    | (refine cond_intro (fun hc => ?_) (fun hc => ?_)))
    refine cmd_loop I X.length (by
      rw [hI.out]
      exact ⟨0, by omega, rfl, rfl, rfl⟩) ?_
    intro m e O' hh
    rw [hI.out] at hh
    obtain ⟨i, hil, rfl, hOH, rfl⟩ := hh
    rw [hOH]
    clear hOH O'
    unfold envC
    by_cases hi : i < X.length
    rotate_left
    · have e0 : decide (i < X.length) = false := decide_eq_false hi
      have hie : i = X.length := by omega
      replace hi := (show Aside _ from hi)
      have x1 : w4 T a X i = w := by rw [hie]; exact hw'.out
      rw [x1]
      replace hie := (show Aside _ from hie)
      clear x1
      obtain ⟨b1, hb1⟩ : ∃ b, decide (w = 0) = b := ⟨_, rfl⟩
      (repeat' first
    | simp (contextual := true) (maxSteps := 4000000) only [fwc, fwe, fww, reduceIte, ↓reduceIte, Nat.reduceAdd, Nat.reduceLeDiff, Nat.reduceEqDiff, Nat.reduceLT, Nat.reduceSub, reduceCtorEq, Int.reduceEq, Int.reduceLT, Int.reduceLE, Int.reduceNeg, Int.reduceToNat, Int.reduceAdd, Int.reduceSub, Nat.reduceMul, ilt_nat, part_cell, part_agg, wrap_succ, *]
    | (refine seqK_now ?_)
    | (refine retK_now ?_)
    | (refine retK_now' ?_)
    | (intro q hq)
    | (refine cond_intro (fun hc => ?_) (fun hc => ?_)))
      exact hF.out _ _ ⟨rfl, rfl⟩
    have e0 : decide (i < X.length) = true := decide_eq_true hi
    by_cases hv : w4 T a X i = 0
    rotate_left
    · have hst := w4_stop hv (X.length - i)
      rw [show i + (X.length - i) = X.length by omega, hw'.out] at hst
      rw [← hst] at hv ⊢
      have dv : decide (w = 0) = false := decide_eq_false hv
      replace hst := (show Aside _ from hst)
      replace hv := (show Aside _ from hv)
      replace hi := (show Aside _ from hi)
      (repeat' first
    | simp (contextual := true) (maxSteps := 4000000) only [fwc, fwe, fww, reduceIte, ↓reduceIte, Nat.reduceAdd, Nat.reduceLeDiff, Nat.reduceEqDiff, Nat.reduceLT, Nat.reduceSub, reduceCtorEq, Int.reduceEq, Int.reduceLT, Int.reduceLE, Int.reduceNeg, Int.reduceToNat, Int.reduceAdd, Int.reduceSub, Nat.reduceMul, ilt_nat, part_cell, part_agg, wrap_succ, *]
    | (refine seqK_now ?_)
    | (refine retK_now ?_)
    | (refine retK_now' ?_)
    | (intro q hq)
    | (refine cond_intro (fun hc => ?_) (fun hc => ?_)))
      exact hF.out _ _ ⟨rfl, rfl⟩
    have x4 : w4 T a X (i + 1) = w2 (w1 X[i] X i) X[i] T a 80 := by
      rw [w4, if_pos hv, List.getElem?_eq_getElem hi]
    rw [hv]
    have dv : decide ((0 : Int) = 0) = true := by decide
    have hwi : i < 4611686018427387904 := by have := h6.out; omega
    have hia := IsL.ia ht.out (i := i) (by rw [List.length_map]; exact hi)
    rw [List.getElem_map] at hia
    generalize X[i] = p at *
    rw [show p.av = .agg [.val (.int .u8 p.y), .val (.int .i64 p.n)] from rfl] at hia
    replace x4 := (show Aside _ from x4)
    replace hv := (show Aside _ from hv)
    replace hi := (show Aside _ from hi)
    refine seq_go ?_
    refine seq_go ?_
    (repeat' first
    | simp (contextual := true) (maxSteps := 4000000) only [fwc, fwe, fww, reduceIte, ↓reduceIte, Nat.reduceAdd, Nat.reduceLeDiff, Nat.reduceEqDiff, Nat.reduceLT, Nat.reduceSub, reduceCtorEq, Int.reduceEq, Int.reduceLT, Int.reduceLE, Int.reduceNeg, Int.reduceToNat, Int.reduceAdd, Int.reduceSub, Nat.reduceMul, ilt_nat, part_cell, part_agg, wrap_succ, *]
    | (refine retK_now ?_)
    | (refine retK_now' ?_)
    | (intro q hq)
    | (refine cond_intro (fun hc => ?_) (fun hc => ?_)))
    refine seqK_now ?_
    (repeat' first
    | simp (contextual := true) (maxSteps := 4000000) only [fwc, fwe, fww, reduceIte, ↓reduceIte, Nat.reduceAdd, Nat.reduceLeDiff, Nat.reduceEqDiff, Nat.reduceLT, Nat.reduceSub, reduceCtorEq, Int.reduceEq, Int.reduceLT, Int.reduceLE, Int.reduceNeg, Int.reduceToNat, Int.reduceAdd, Int.reduceSub, Nat.reduceMul, ilt_nat, part_cell, part_agg, wrap_succ, *]
    | (refine retK_now ?_)
    | (refine retK_now' ?_)
    | (intro q hq)
    | (refine cond_intro (fun hc => ?_) (fun hc => ?_)))
    refine seqK_now ?_
    refine seq_go ?_
    refine seq_post (fun e1 O1 => O1 = H ∧ e1 = envC q4 q7 q8 q9 t w (w1 p X i) a 15 i) ?_ ?_
    rotate_left
    · intro F' hF'
      replace hF' := (show Aside _ from hF')
      obtain ⟨J, hJ⟩ := hideI (fun m e O' => ∃ k : Nat, k ≤ i ∧ m = i - k ∧ O' = H ∧ e = envC2 q4 q7 q8 q9 t w (w1 p X k) a i 16 k)
      refine seq_go ?_
      (repeat' first
    | simp (contextual := true) (maxSteps := 4000000) only [fwc, fwe, fww, reduceIte, ↓reduceIte, Nat.reduceAdd, Nat.reduceLeDiff, Nat.reduceEqDiff, Nat.reduceLT, Nat.reduceSub, reduceCtorEq, Int.reduceEq, Int.reduceLT, Int.reduceLE, Int.reduceNeg, Int.reduceToNat, Int.reduceAdd, Int.reduceSub, Nat.reduceMul, part_cell, part_agg, *]
    | (refine retK_now ?_)
    | (refine retK_now' ?_)
    | (intro q hq)
    | (refine cond_intro (fun hc => ?_) (fun hc => ?_)))
      refine seqK_now ?_
      (repeat' first
    | simp (contextual := true) (maxSteps := 4000000) only [fwc, fwe, fww, reduceIte, ↓reduceIte, Nat.reduceAdd, Nat.reduceLeDiff, Nat.reduceEqDiff, Nat.reduceLT, Nat.reduceSub, reduceCtorEq, Int.reduceEq, Int.reduceLT, Int.reduceLE, Int.reduceNeg, Int.reduceToNat, Int.reduceAdd, Int.reduceSub, Nat.reduceMul, part_cell, part_agg, *]
    | (refine retK_now ?_)
    | (refine retK_now' ?_)
    | (intro q hq)
    | (refine cond_intro (fun hc => ?_) (fun hc => ?_)))
      refine cmd_loop J i (by
        rw [hJ.out]
        exact ⟨0, by omega, rfl, rfl, rfl⟩) ?_
      intro m e O' hh
      rw [hJ.out] at hh
      obtain ⟨k, hkl, rfl, hOH, rfl⟩ := hh
      rw [hOH]
      clear hOH O'
      unfold envC2
      by_cases hk : k < i
      · have e1 : decide (k < i) = true := decide_eq_true hk
        have hkX : k < X.length := by have := hi.out; omega
        have hwk : k < 4611686018427387904 := by omega
        have hka := IsL.ia ht.out (i := k) (by rw [List.length_map]; exact hkX)
        rw [List.getElem_map] at hka
        have x1 : w1 p X (k + 1) = if X[k] = p then 8 else w1 p X k := by rw [w1, List.getElem?_eq_getElem hkX]; simp
        generalize w1 p X k = v at *
        generalize X[k] = y at *
        rw [show y.av = .agg [.val (.int .u8 y.y), .val (.int .i64 y.n)] from rfl] at hka
        have hle := le_id y p
        replace x1 := (show Aside _ from x1)
        replace hkX := (show Aside _ from hkX)
        obtain ⟨b1, hb1⟩ : ∃ x, decide (y = p) = x := ⟨_, rfl⟩
        rw [hb1] at hle
        replace hb1 := (show Aside _ from hb1)
        cases b1
        · (repeat' first
    | simp (contextual := true) (maxSteps := 4000000) only [fwc, fwe, fww, reduceIte, ↓reduceIte, Nat.reduceAdd, Nat.reduceLeDiff, Nat.reduceEqDiff, Nat.reduceLT, Nat.reduceSub, reduceCtorEq, Int.reduceEq, Int.reduceLT, Int.reduceLE, Int.reduceNeg, Int.reduceToNat, Int.reduceAdd, Int.reduceSub, Nat.reduceMul, ilt_nat, part_cell, part_agg, wrap_succ, *]
    | (refine seqK_now ?_)
    | (refine retK_now ?_)
    | (refine retK_now' ?_)
    | (intro q hq)
    | (refine cond_intro (fun hc => ?_) (fun hc => ?_)))
          refine loopK_now (i - (k + 1)) (by omega) ?_
          rw [hJ.out]
          refine ⟨k + 1, by omega, rfl, rfl, ?_⟩
          rw [x1.out, if_neg (of_decide_eq_false hb1.out)]
          rfl
        · (repeat' first
    | simp (contextual := true) (maxSteps := 4000000) only [fwc, fwe, fww, reduceIte, ↓reduceIte, Nat.reduceAdd, Nat.reduceLeDiff, Nat.reduceEqDiff, Nat.reduceLT, Nat.reduceSub, reduceCtorEq, Int.reduceEq, Int.reduceLT, Int.reduceLE, Int.reduceNeg, Int.reduceToNat, Int.reduceAdd, Int.reduceSub, Nat.reduceMul, ilt_nat, part_cell, part_agg, wrap_succ, *]
    | (refine seqK_now ?_)
    | (refine retK_now ?_)
    | (refine retK_now' ?_)
    | (intro q hq)
    | (refine cond_intro (fun hc => ?_) (fun hc => ?_)))
          refine loopK_now (i - (k + 1)) (by omega) ?_
          rw [hJ.out]
          refine ⟨k + 1, by omega, rfl, rfl, ?_⟩
          rw [x1.out, if_pos (of_decide_eq_true hb1.out)]
          rfl
      · have e1 : decide (k < i) = false := decide_eq_false hk
        have hki : k = i := by omega
        replace hk := (show Aside _ from hk)
        have x1 : w1 p X k = w1 p X i := by rw [hki]
        rw [x1]
        clear x1
        replace hki := (show Aside _ from hki)
        generalize hv1 : w1 p X i = v1 at *
        replace hv1 := (show Aside _ from hv1)
        (repeat' first
    | simp (contextual := true) (maxSteps := 4000000) only [fwc, fwe, fww, reduceIte, ↓reduceIte, Nat.reduceAdd, Nat.reduceLeDiff, Nat.reduceEqDiff, Nat.reduceLT, Nat.reduceSub, reduceCtorEq, Int.reduceEq, Int.reduceLT, Int.reduceLE, Int.reduceNeg, Int.reduceToNat, Int.reduceAdd, Int.reduceSub, Nat.reduceMul, ilt_nat, part_cell, part_agg, wrap_succ, *]
    | (refine seqK_now ?_)
    | (refine retK_now ?_)
    | (refine retK_now' ?_)
    | (intro q hq)
    | (refine cond_intro (fun hc => ?_) (fun hc => ?_)))
        exact hF'.out _ _ ⟨rfl, rfl⟩
    intro e1 O1 hQ
    obtain ⟨hO1, rfl⟩ := hQ
    rw [hO1]
    clear hO1 O1
    unfold envC
    obtain ⟨v1, hv1⟩ : ∃ v, w1 p X i = v := ⟨_, rfl⟩
    rw [hv1]
    rw [hv1] at x4
    replace hv1 := (show Aside _ from hv1)
    obtain ⟨J, hJ⟩ := hideI (fun m e O' => ∃ k : Nat, k ≤ 80 ∧ m = 80 - k ∧ O' = H ∧ e = envC2 q4 q7 q8 q9 t w (w2 v1 p T a k) a i 17 k)
    refine seq_go ?_
    (repeat' first
    | simp (contextual := true) (maxSteps := 4000000) only [fwc, fwe, fww, reduceIte, ↓reduceIte, Nat.reduceAdd, Nat.reduceLeDiff, Nat.reduceEqDiff, Nat.reduceLT, Nat.reduceSub, reduceCtorEq, Int.reduceEq, Int.reduceLT, Int.reduceLE, Int.reduceNeg, Int.reduceToNat, Int.reduceAdd, Int.reduceSub, Nat.reduceMul, part_cell, part_agg, *]
    | (refine retK_now ?_)
    | (refine retK_now' ?_)
    | (intro q hq)
    | (refine cond_intro (fun hc => ?_) (fun hc => ?_)))
    refine seqK_now ?_
    (repeat' first
    | simp (contextual := true) (maxSteps := 4000000) only [fwc, fwe, fww, reduceIte, ↓reduceIte, Nat.reduceAdd, Nat.reduceLeDiff, Nat.reduceEqDiff, Nat.reduceLT, Nat.reduceSub, reduceCtorEq, Int.reduceEq, Int.reduceLT, Int.reduceLE, Int.reduceNeg, Int.reduceToNat, Int.reduceAdd, Int.reduceSub, Nat.reduceMul, part_cell, part_agg, *]
    | (refine retK_now ?_)
    | (refine retK_now' ?_)
    | (intro q hq)
    | (refine cond_intro (fun hc => ?_) (fun hc => ?_)))
    refine cmd_loop J 80 (by
      rw [hJ.out]
      exact ⟨0, by omega, rfl, rfl, rfl⟩) ?_
    intro m e O' hh
    rw [hJ.out] at hh
    obtain ⟨k, hkl, rfl, hOH, rfl⟩ := hh
    rw [hOH]
    clear hOH O'
    unfold envC2
    have dk : decide ((k : Int) < 80) = decide (k < 80) := decide_eq_decide.2 (by omega)
    by_cases hk : k < 80
    rotate_left
    · have e1 : decide (k < 80) = false := decide_eq_false hk
      have hki : k = 80 := by omega
      replace hk := (show Aside _ from hk)
      have x1 : w2 v1 p T a k = w2 v1 p T a 80 := by rw [hki]
      rw [x1]
      clear x1
      replace hki := (show Aside _ from hki)
      rw [← x4.out]
      obtain ⟨v2, hv2⟩ : ∃ v, w4 T a X (i + 1) = v := ⟨_, rfl⟩
      rw [hv2]
      replace hv2 := (show Aside _ from hv2)
      (repeat' first
    | simp (contextual := true) (maxSteps := 4000000) only [fwc, fwe, fww, reduceIte, ↓reduceIte, Nat.reduceAdd, Nat.reduceLeDiff, Nat.reduceEqDiff, Nat.reduceLT, Nat.reduceSub, reduceCtorEq, Int.reduceEq, Int.reduceLT, Int.reduceLE, Int.reduceNeg, Int.reduceToNat, Int.reduceAdd, Int.reduceSub, Nat.reduceMul, ilt_nat, part_cell, part_agg, wrap_succ, *]
    | (refine seqK_now ?_)
    | (refine retK_now ?_)
    | (refine retK_now' ?_)
    | (intro q hq)
    | (refine cond_intro (fun hc => ?_) (fun hc => ?_)))
      refine loopK_now (X.length - (i + 1)) (by have := hi.out; omega) ?_
      rw [hI.out]
      refine ⟨i + 1, by have := hi.out; omega, rfl, rfl, ?_⟩
      rw [hv2.out]
      rfl
    have e1 : decide (k < 80) = true := decide_eq_true hk
    have hkT : k < T.length := by rw [hTo.out.len]; exact hk
    have hgk := hget.out k hkT
    have dTk : T.getD k [] = T[k] := by rw [List.getD_eq_getElem?_getD, List.getElem?_eq_getElem hkT]; rfl
    have x2 : w2 v1 p T a (k + 1) = if k ≠ a ∧ p ∈ T[k] then 8 else w2 v1 p T a k := by rw [w2, dTk]
    have hl4 : T[k].length ≤ 4 := hTo.out.le _ (List.getElem_mem hkT)
    clear dTk
    generalize w2 v1 p T a k = v2 at *
    generalize T[k] = l at *
    have hx := frA_L 2 (l.map Id.av)
    have hxl := hx.len
    rw [List.length_map] at hxl
    have hxa := fun (k : Nat) (hk : k < l.length) => hx.ia (i := k) (by rw [List.length_map]; exact hk)
    have hxc := hx.cells
    have hxs := hx.stor
    generalize frA 2 (l.map Id.av) = x at *
    replace hx := (show Aside _ from hx)
    replace hxa := (show Aside _ from hxa)
    replace hl4 := (show Aside _ from hl4)
    have hix : indexPtrA 80 1 false (k : Int) (.optr q7 80 0 0) = some (.optr q7 80 0 k) := by rw [ixp_optr, if_pos (by omega)]; simp
    have hle80 : k + 1 ≤ 80 := by omega
    have htl2 : k + 1 ≤ ts.length := by rw [htl]; omega
    have hwk : k < 4611686018427387904 := by omega
    have dka : decide ((k : Int) = (a : Int)) = decide (k = a) := decide_eq_decide.2 (by omega)
    replace hk := (show Aside _ from hk)
    replace x2 := (show Aside _ from x2)
    by_cases hka : k = a
    · have e2 : decide (k = a) = true := decide_eq_true hka
      have x3 : w2 v1 p T a (k + 1) = v2 := by rw [x2.out, if_neg (fun h => h.1 hka)]
      replace hka := (show Aside _ from hka)
      replace x3 := (show Aside _ from x3)
      obtain ⟨b0, hb0⟩ : ∃ b, decide (0 < l.length) = b := ⟨_, rfl⟩
      have d0 : decide ((0 : Int) < (l.length : Int)) = b0 := by rw [← hb0]; exact decide_eq_decide.2 (by omega)
      replace hb0 := (show Aside _ from hb0)
      obtain ⟨M, hM⟩ := hideI (fun m e O' => m = 0 ∧ O' = H ∧ e = envC3 q4 q7 q8 q9 t w v2 a i k 0)
      (repeat' first
    | simp (contextual := true) (maxSteps := 4000000) only [fwc, fwe, fww, reduceIte, ↓reduceIte, Nat.reduceAdd, Nat.reduceLeDiff, Nat.reduceEqDiff, Nat.reduceLT, Nat.reduceSub, reduceCtorEq, Int.reduceEq, Int.reduceLT, Int.reduceLE, Int.reduceNeg, Int.reduceToNat, Int.reduceAdd, Int.reduceSub, Nat.reduceMul, ilt_nat, part_cell, part_agg, wrap_succ, *]
    | (refine seqK_now ?_)
    | (refine retK_now ?_)
    | (refine retK_now' ?_)
    | (intro q hq)
    | (refine cond_intro (fun hc => ?_) (fun hc => ?_)))
      refine cmd_loop M 0 (by
        rw [hM.out]
        exact ⟨rfl, rfl, rfl⟩) ?_
      intro m e O' hh
      rw [hM.out] at hh
      obtain ⟨rfl, hOH, rfl⟩ := hh
      rw [hOH]
      clear hOH O'
      unfold envC3
      have z0 : ((0 : Nat) : Int) = 0 := rfl
      rw [z0]
      cases b0
      · (repeat' first
    | simp (contextual := true) (maxSteps := 4000000) only [fwc, fwe, fww, reduceIte, ↓reduceIte, Nat.reduceAdd, Nat.reduceLeDiff, Nat.reduceEqDiff, Nat.reduceLT, Nat.reduceSub, reduceCtorEq, Int.reduceEq, Int.reduceLT, Int.reduceLE, Int.reduceNeg, Int.reduceToNat, Int.reduceAdd, Int.reduceSub, Nat.reduceMul, ilt_nat, part_cell, part_agg, wrap_succ, *]
    | (refine seqK_now ?_)
    | (refine retK_now ?_)
    | (refine retK_now' ?_)
    | (intro q hq)
    | (refine cond_intro (fun hc => ?_) (fun hc => ?_)))
        refine loopK_now (80 - (k + 1)) (by have := hk.out; omega) ?_
        rw [hJ.out]
        refine ⟨k + 1, by have := hk.out; omega, rfl, rfl, ?_⟩
        rw [x3.out]
        rfl
      · (repeat' first
    | simp (contextual := true) (maxSteps := 4000000) only [fwc, fwe, fww, reduceIte, ↓reduceIte, Nat.reduceAdd, Nat.reduceLeDiff, Nat.reduceEqDiff, Nat.reduceLT, Nat.reduceSub, reduceCtorEq, Int.reduceEq, Int.reduceLT, Int.reduceLE, Int.reduceNeg, Int.reduceToNat, Int.reduceAdd, Int.reduceSub, Nat.reduceMul, ilt_nat, part_cell, part_agg, wrap_succ, *]
    | (refine seqK_now ?_)
    | (refine retK_now ?_)
    | (refine retK_now' ?_)
    | (intro q hq)
    | (refine cond_intro (fun hc => ?_) (fun hc => ?_)))
        refine loopK_now (80 - (k + 1)) (by have := hk.out; omega) ?_
        rw [hJ.out]
        refine ⟨k + 1, by have := hk.out; omega, rfl, rfl, ?_⟩
        rw [x3.out]
        rfl
    have e2 : decide (k = a) = false := decide_eq_false hka
    have x3 : w2 v1 p T a (k + 1) = if p ∈ l then 8 else v2 := by
      rw [x2.out]
      by_cases hm : p ∈ l
      · rw [if_pos hm, if_pos ⟨hka, hm⟩]
      · rw [if_neg hm, if_neg (fun h => hm h.2)]
    replace hka := (show Aside _ from hka)
    replace x3 := (show Aside _ from x3)
    obtain ⟨M, hM⟩ := hideI (fun m e O' => ∃ j : Nat, j ≤ l.length ∧ m = l.length - j ∧ O' = H ∧ e = envC3 q4 q7 q8 q9 t w (if p ∈ l.take j then 8 else v2) a i k j)
    (repeat' first
    | simp (contextual := true) (maxSteps := 4000000) only [fwc, fwe, fww, reduceIte, ↓reduceIte, Nat.reduceAdd, Nat.reduceLeDiff, Nat.reduceEqDiff, Nat.reduceLT, Nat.reduceSub, reduceCtorEq, Int.reduceEq, Int.reduceLT, Int.reduceLE, Int.reduceNeg, Int.reduceToNat, Int.reduceAdd, Int.reduceSub, Nat.reduceMul, ilt_nat, part_cell, part_agg, wrap_succ, *]
    | (refine seqK_now ?_)
    | (refine retK_now ?_)
    | (refine retK_now' ?_)
    | (intro q hq)
    | (refine cond_intro (fun hc => ?_) (fun hc => ?_)))
    refine cmd_loop M l.length (by
      rw [hM.out]
      exact ⟨0, by omega, rfl, rfl, by simp; rfl⟩) ?_
    intro m e O' hh
    rw [hM.out] at hh
    obtain ⟨j, hjl, rfl, hOH, rfl⟩ := hh
    rw [hOH]
    clear hOH O'
    unfold envC3
    by_cases hj : j < l.length
    · have e3 : decide (j < l.length) = true := decide_eq_true hj
      have hja := hxa.out j hj
      rw [List.getElem_map] at hja
      have hwj : j < 4611686018427387904 := by have := hl4.out; omega
      have htk' : l.take (j + 1) = l.take j ++ [l[j]] := by rw [List.take_add_one, List.getElem?_eq_getElem hj]; rfl
      have hm : p ∈ l.take (j + 1) ↔ p ∈ l.take j ∨ p = l[j] := by rw [htk', List.mem_append, List.mem_singleton]
      clear htk'
      generalize l[j] = y at *
      rw [show y.av = .agg [.val (.int .u8 y.y), .val (.int .i64 y.n)] from rfl] at hja
      have hle := le_id y p
      obtain ⟨v3, hv3⟩ : ∃ v, (if p ∈ l.take j then 8 else v2) = v := ⟨_, rfl⟩
      rw [hv3]
      replace hv3 := (show Aside _ from hv3)
      replace hm := (show Aside _ from hm)
      replace hj := (show Aside _ from hj)
      by_cases hyp : y = p
      · have e4 : decide (y = p) = true := decide_eq_true hyp
        replace hyp := (show Aside _ from hyp)
        (repeat' first
    | simp (contextual := true) (maxSteps := 4000000) only [fwc, fwe, fww, reduceIte, ↓reduceIte, Nat.reduceAdd, Nat.reduceLeDiff, Nat.reduceEqDiff, Nat.reduceLT, Nat.reduceSub, reduceCtorEq, Int.reduceEq, Int.reduceLT, Int.reduceLE, Int.reduceNeg, Int.reduceToNat, Int.reduceAdd, Int.reduceSub, Nat.reduceMul, ilt_nat, part_cell, part_agg, wrap_succ, *]
    | (refine seqK_now ?_)
    | (refine retK_now ?_)
    | (refine retK_now' ?_)
    | (intro q hq)
    | (refine cond_intro (fun hc => ?_) (fun hc => ?_)))
        refine loopK_now (l.length - (j + 1)) (by have := hj.out; omega) ?_
        rw [hM.out]
        refine ⟨j + 1, by have := hj.out; omega, rfl, rfl, ?_⟩
        rw [if_pos (hm.out.2 (.inr hyp.out.symm))]
        rfl
      · have e4 : decide (y = p) = false := decide_eq_false hyp
        replace hyp := (show Aside _ from hyp)
        (repeat' first
    | simp (contextual := true) (maxSteps := 4000000) only [fwc, fwe, fww, reduceIte, ↓reduceIte, Nat.reduceAdd, Nat.reduceLeDiff, Nat.reduceEqDiff, Nat.reduceLT, Nat.reduceSub, reduceCtorEq, Int.reduceEq, Int.reduceLT, Int.reduceLE, Int.reduceNeg, Int.reduceToNat, Int.reduceAdd, Int.reduceSub, Nat.reduceMul, ilt_nat, part_cell, part_agg, wrap_succ, *]
    | (refine seqK_now ?_)
    | (refine retK_now ?_)
    | (refine retK_now' ?_)
    | (intro q hq)
    | (refine cond_intro (fun hc => ?_) (fun hc => ?_)))
        refine loopK_now (l.length - (j + 1)) (by have := hj.out; omega) ?_
        rw [hM.out]
        refine ⟨j + 1, by have := hj.out; omega, rfl, rfl, ?_⟩
        have : (p ∈ l.take (j + 1)) ↔ p ∈ l.take j := by
          rw [hm.out]
          exact ⟨fun h => h.elim id fun h => absurd h.symm hyp.out, .inl⟩
        simp only [this]
        rw [hv3.out]
        rfl
    · have e3 : decide (j < l.length) = false := decide_eq_false hj
      have hje : j = l.length := by omega
      have x5 : (if p ∈ l.take j then 8 else v2) = w2 v1 p T a (k + 1) := by rw [hje, List.take_length, x3.out]
      rw [x5]
      clear x5
      obtain ⟨v3, hv3⟩ : ∃ v, w2 v1 p T a (k + 1) = v := ⟨_, rfl⟩
      rw [hv3]
      replace hv3 := (show Aside _ from hv3)
      replace hj := (show Aside _ from hj)
      replace hje := (show Aside _ from hje)
      (repeat' first
    | simp (contextual := true) (maxSteps := 4000000) only [fwc, fwe, fww, reduceIte, ↓reduceIte, Nat.reduceAdd, Nat.reduceLeDiff, Nat.reduceEqDiff, Nat.reduceLT, Nat.reduceSub, reduceCtorEq, Int.reduceEq, Int.reduceLT, Int.reduceLE, Int.reduceNeg, Int.reduceToNat, Int.reduceAdd, Int.reduceSub, Nat.reduceMul, ilt_nat, part_cell, part_agg, wrap_succ, *]
    | (refine seqK_now ?_)
    | (refine retK_now ?_)
    | (refine retK_now' ?_)
    | (intro q hq)
    | (refine cond_intro (fun hc => ?_) (fun hc => ?_)))
      refine loopK_now (80 - (k + 1)) (by have := hk.out; omega) ?_
      rw [hJ.out]
      refine ⟨k + 1, by have := hk.out; omega, rfl, rfl, ?_⟩
      rw [hv3.out]
      rfl
  intro e1 O1 hQ
  obtain ⟨hO1, rfl⟩ := hQ
  rw [hO1]
  clear hO1 O1
  have dww : decide (w = w) = true := decide_eq_true rfl
  have d00 : decide ((0 : Int) = 0) = true := by decide
  unfold envB
  refine seq_go ?_
  refine seq_go ?_
  (repeat' first
    | simp (contextual := true) (maxSteps := 4000000) only [fwc, fwe, fww, reduceIte, ↓reduceIte, Nat.reduceAdd, Nat.reduceLeDiff, Nat.reduceEqDiff, Nat.reduceLT, Nat.reduceSub, reduceCtorEq, Int.reduceEq, Int.reduceLT, Int.reduceLE, Int.reduceNeg, Int.reduceToNat, Int.reduceAdd, Int.reduceSub, Nat.reduceMul, part_cell, part_agg, *]
    | (refine retK_now ?_)
    | (refine retK_now' ?_)
    | (intro q hq)
    | (refine cond_intro (fun hc => ?_) (fun hc => ?_)))
  refine hdf.use ?_
  (repeat' first
    | simp (contextual := true) (maxSteps := 4000000) only [fwc, fwe, fww, reduceIte, ↓reduceIte, Nat.reduceAdd, Nat.reduceLeDiff, Nat.reduceEqDiff, Nat.reduceLT, Nat.reduceSub, reduceCtorEq, Int.reduceEq, Int.reduceLT, Int.reduceLE, Int.reduceNeg, Int.reduceToNat, Int.reduceAdd, Int.reduceSub, Nat.reduceMul, part_cell, part_agg, *]
    | (refine retK_now ?_)
    | (refine retK_now' ?_)
    | (intro q hq)
    | (refine cond_intro (fun hc => ?_) (fun hc => ?_)))
  refine seqK_now ?_
  (repeat' first
    | simp (contextual := true) (maxSteps := 4000000) only [fwc, fwe, fww, reduceIte, ↓reduceIte, Nat.reduceAdd, Nat.reduceLeDiff, Nat.reduceEqDiff, Nat.reduceLT, Nat.reduceSub, reduceCtorEq, Int.reduceEq, Int.reduceLT, Int.reduceLE, Int.reduceNeg, Int.reduceToNat, Int.reduceAdd, Int.reduceSub, Nat.reduceMul, part_cell, part_agg, *]
    | (refine retK_now ?_)
    | (refine retK_now' ?_)
    | (intro q hq)
    | (refine cond_intro (fun hc => ?_) (fun hc => ?_)))
  refine seqK_now ?_
  by_cases hw0 : w = 0
  rotate_left
  · have dw : decide (w = 0) = false := decide_eq_false hw0
    obtain ⟨n1, n2⟩ := hyE.out hw0
    have n1' : decide (nF = 0) = true := decide_eq_true n1
    have n2' : decide (nB = 0) = true := decide_eq_true n2
    clear n1 n2
    replace hw0 := (show Aside _ from hw0)
    (repeat' first
    | simp (contextual := true) (maxSteps := 4000000) only [fwc, fwe, fww, reduceIte, ↓reduceIte, Nat.reduceAdd, Nat.reduceLeDiff, Nat.reduceEqDiff, Nat.reduceLT, Nat.reduceSub, reduceCtorEq, Int.reduceEq, Int.reduceLT, Int.reduceLE, Int.reduceNeg, Int.reduceToNat, Int.reduceAdd, Int.reduceSub, Nat.reduceMul, part_cell, part_agg, *]
    | (refine seqK_now ?_)
    | (refine retK_now ?_)
    | (refine retK_now' ?_)
    | (intro q hq)
    | (refine cond_intro (fun hc => ?_) (fun hc => ?_)))
    refine lives_ok.use ?_
    (repeat' first
    | simp (contextual := true) (maxSteps := 4000000) only [fwc, fwe, fww, reduceIte, ↓reduceIte, Nat.reduceAdd, Nat.reduceLeDiff, Nat.reduceEqDiff, Nat.reduceLT, Nat.reduceSub, reduceCtorEq, Int.reduceEq, Int.reduceLT, Int.reduceLE, Int.reduceNeg, Int.reduceToNat, Int.reduceAdd, Int.reduceSub, Nat.reduceMul, part_cell, part_agg, *]
    | (refine seqK_now ?_)
    | (refine retK_now ?_)
    | (refine retK_now' ?_)
    | (intro q hq)
    | (refine cond_intro (fun hc => ?_) (fun hc => ?_)))
    refine WeakR.pure s0.out ?_
    rfl
  have hSO := hL.out hw0
  have hYB := hyB.out hw0
  obtain ⟨gn, xl, df, hat, hse, hsm⟩ := hSO
  have dw : decide (w = 0) = true := decide_eq_true hw0
  have hzi : z = ((ix u : Nat) : Int) := by rw [← hz.out, if_neg (by rw [gn.1]; simp)]
  have ha80 := ix_lt gn
  rw [hzi]
  generalize ix u = a at *
  clear hL hyB hyE
  replace gn := (show Aside _ from gn)
  replace xl := (show Aside _ from xl)
  replace df := (show Aside _ from df)
  replace hat := (show Aside _ from hat)
  replace hse := (show Aside _ from hse)
  replace hsm := (show Aside _ from hsm)
  replace hYB := (show Aside _ from hYB)
  replace hzi := (show Aside _ from hzi)
  have i1 : indexPtrA 80 1 false ((a : Nat) : Int) (.optr q7 80 0 0) = some (.optr q7 80 0 a) := by rw [ixp_optr, if_pos (by omega)]; simp
  have k1 : a + 1 ≤ 80 := ha80
  have k3 : a + 1 ≤ ts.length := by rw [htl]; omega
  replace ha80 := (show Aside _ from ha80)
  replace hw0 := (show Aside _ from hw0)
  refine seq_go ?_
  refine seq_go ?_
  (repeat' first
    | simp (contextual := true) (maxSteps := 4000000) only [fwc, fwe, fww, reduceIte, ↓reduceIte, Nat.reduceAdd, Nat.reduceLeDiff, Nat.reduceEqDiff, Nat.reduceLT, Nat.reduceSub, reduceCtorEq, Int.reduceEq, Int.reduceLT, Int.reduceLE, Int.reduceNeg, Int.reduceToNat, Int.reduceAdd, Int.reduceSub, Nat.reduceMul, part_cell, part_agg, *]
    | (refine retK_now ?_)
    | (refine retK_now' ?_)
    | (intro q hq)
    | (refine cond_intro (fun hc => ?_) (fun hc => ?_)))
  refine seqK_now ?_
  (repeat' first
    | simp (contextual := true) (maxSteps := 4000000) only [fwc, fwe, fww, reduceIte, ↓reduceIte, Nat.reduceAdd, Nat.reduceLeDiff, Nat.reduceEqDiff, Nat.reduceLT, Nat.reduceSub, reduceCtorEq, Int.reduceEq, Int.reduceLT, Int.reduceLE, Int.reduceNeg, Int.reduceToNat, Int.reduceAdd, Int.reduceSub, Nat.reduceMul, part_cell, part_agg, *]
    | (refine retK_now ?_)
    | (refine retK_now' ?_)
    | (intro q hq)
    | (refine cond_intro (fun hc => ?_) (fun hc => ?_)))
  refine seqK_now ?_
  refine seq_go ?_
  (repeat' first
    | simp (contextual := true) (maxSteps := 4000000) only [fwc, fwe, fww, reduceIte, ↓reduceIte, Nat.reduceAdd, Nat.reduceLeDiff, Nat.reduceEqDiff, Nat.reduceLT, Nat.reduceSub, reduceCtorEq, Int.reduceEq, Int.reduceLT, Int.reduceLE, Int.reduceNeg, Int.reduceToNat, Int.reduceAdd, Int.reduceSub, Nat.reduceMul, part_cell, part_agg, *]
    | (refine retK_now ?_)
    | (refine retK_now' ?_)
    | (intro q hq)
    | (refine cond_intro (fun hc => ?_) (fun hc => ?_)))
  refine app_T (L := []) (show IsT 2 (.list 2 true []) [] from .list) (IsL.el ht.out H) (fits_of (by have := xl.out; simp <;> omega) (by have := xl.out; simp <;> omega)) fun r hr => ?_
  replace hr : IsL 2 r (X.map Id.av) := hr
  have hIT2 := hIT.out.set' a hr (by have := xl.out; omega)
  have r1 := hr.cells
  have r2 := hr.stor
  have hdf2 := hYB.out.differs hIT2
  rw [df.out] at hdf2
  replace hdf2 : PureA Try.prog 12 [.agg (ts.set a r), .agg [yf, yb]] (.val (.int .i64 0)) := hdf2
  obtain ⟨ra, hra, hrT⟩ := hYB.out.at_ u
  rw [hat.out] at hrT
  obtain ⟨zf, zb, nF2, nB2, hj2, z1, z2, z3, z4, _, _, hzB, _⟩ := set_got hYB.out u hrT.isL (by have := xl.out; omega) hu0.out
  have hZB := hzB hse.out
  rw [hse.out] at hj2
  have hsame := hZB.same hYB.out
  rw [hsm.out] at hsame
  rw [show u.av = .agg [.val (.int .u8 u.bed), .val (.int .i64 u.at_)] from rfl] at hj2 hra
  have ra1 := hrT.isL.cells
  have ra2 := hrT.isL.stor
  have hsp1 : ts.take a ++ [r] ++ ts.drop (a + 1) = ts.set a r := by rw [List.set_eq_take_append_cons_drop, if_pos (by omega)]; simp
  have k5 : (ts.set a r).length = 80 := by rw [List.length_set]; exact htl
  have k6 : (ts.set a r).take 80 = ts.set a r := List.take_of_length_le (by omega)
  have sub7 : O.sub (H.upd q7 (.arr 31 80 [.agg (ts.set a r)])) := sub_upd o7.out s0.out
  have n79 : ¬ q7 = q9 := fun e => by rw [e, f9] at f7; cases f7
  have n97 : ¬ q9 = q7 := fun e => n79 e.symm
  have n47 : ¬ q4 = q7 := fun e => by rw [e, f7] at f4; cases f4
  have n74 : ¬ q7 = q4 := fun e => n47 e.symm
  clear hzB hIT2 hIT
  replace hr := (show Aside _ from hr)
  replace hrT := (show Aside _ from hrT)
  replace hZB := (show Aside _ from hZB)
  replace sub7 := (show Aside _ from sub7)
  clear hYB hBe
  (repeat' first
    | simp (contextual := true) (maxSteps := 4000000) only [fwc, fwe, fww, reduceIte, ↓reduceIte, Nat.reduceAdd, Nat.reduceLeDiff, Nat.reduceEqDiff, Nat.reduceLT, Nat.reduceSub, reduceCtorEq, Int.reduceEq, Int.reduceLT, Int.reduceLE, Int.reduceNeg, Int.reduceToNat, Int.reduceAdd, Int.reduceSub, Nat.reduceMul, part_cell, part_agg, and_false, *]
    | (refine retK_now ?_)
    | (refine retK_now' ?_)
    | (intro q hq)
    | (refine cond_intro (fun hc => ?_) (fun hc => ?_)))
  refine seqK_now ?_
  refine seq_go ?_
  refine seq_go ?_
  (repeat' first
    | simp (contextual := true) (maxSteps := 4000000) only [fwc, fwe, fww, reduceIte, ↓reduceIte, Nat.reduceAdd, Nat.reduceLeDiff, Nat.reduceEqDiff, Nat.reduceLT, Nat.reduceSub, reduceCtorEq, Int.reduceEq, Int.reduceLT, Int.reduceLE, Int.reduceNeg, Int.reduceToNat, Int.reduceAdd, Int.reduceSub, Nat.reduceMul, part_cell, part_agg, and_false, *]
    | (refine retK_now ?_)
    | (refine retK_now' ?_)
    | (intro q hq)
    | (refine cond_intro (fun hc => ?_) (fun hc => ?_)))
  refine hdf2.use ?_
  (repeat' first
    | simp (contextual := true) (maxSteps := 4000000) only [fwc, fwe, fww, reduceIte, ↓reduceIte, Nat.reduceAdd, Nat.reduceLeDiff, Nat.reduceEqDiff, Nat.reduceLT, Nat.reduceSub, reduceCtorEq, Int.reduceEq, Int.reduceLT, Int.reduceLE, Int.reduceNeg, Int.reduceToNat, Int.reduceAdd, Int.reduceSub, Nat.reduceMul, part_cell, part_agg, and_false, *]
    | (refine retK_now ?_)
    | (refine retK_now' ?_)
    | (intro q hq)
    | (refine cond_intro (fun hc => ?_) (fun hc => ?_)))
  refine seqK_now ?_
  (repeat' first
    | simp (contextual := true) (maxSteps := 4000000) only [fwc, fwe, fww, reduceIte, ↓reduceIte, Nat.reduceAdd, Nat.reduceLeDiff, Nat.reduceEqDiff, Nat.reduceLT, Nat.reduceSub, reduceCtorEq, Int.reduceEq, Int.reduceLT, Int.reduceLE, Int.reduceNeg, Int.reduceToNat, Int.reduceAdd, Int.reduceSub, Nat.reduceMul, part_cell, part_agg, and_false, *]
    | (refine retK_now ?_)
    | (refine retK_now' ?_)
    | (intro q hq)
    | (refine cond_intro (fun hc => ?_) (fun hc => ?_)))
  refine seqK_now ?_
  refine seq_go ?_
  (repeat' first
    | simp (contextual := true) (maxSteps := 4000000) only [fwc, fwe, fww, reduceIte, ↓reduceIte, Nat.reduceAdd, Nat.reduceLeDiff, Nat.reduceEqDiff, Nat.reduceLT, Nat.reduceSub, reduceCtorEq, Int.reduceEq, Int.reduceLT, Int.reduceLE, Int.reduceNeg, Int.reduceToNat, Int.reduceAdd, Int.reduceSub, Nat.reduceMul, part_cell, part_agg, and_false, *]
    | (refine retK_now ?_)
    | (refine retK_now' ?_)
    | (intro q hq)
    | (refine cond_intro (fun hc => ?_) (fun hc => ?_)))
  refine callF_use hra ?_
  (repeat' first
    | simp (contextual := true) (maxSteps := 4000000) only [fwc, fwe, fww, reduceIte, ↓reduceIte, Nat.reduceAdd, Nat.reduceLeDiff, Nat.reduceEqDiff, Nat.reduceLT, Nat.reduceSub, reduceCtorEq, Int.reduceEq, Int.reduceLT, Int.reduceLE, Int.reduceNeg, Int.reduceToNat, Int.reduceAdd, Int.reduceSub, Nat.reduceMul, part_cell, part_agg, and_false, *]
    | (refine retK_now ?_)
    | (refine retK_now' ?_)
    | (intro q hq)
    | (refine cond_intro (fun hc => ?_) (fun hc => ?_)))
  refine callF_use hj2 ?_
  (repeat' first
    | simp (contextual := true) (maxSteps := 4000000) only [fwc, fwe, fww, reduceIte, ↓reduceIte, Nat.reduceAdd, Nat.reduceLeDiff, Nat.reduceEqDiff, Nat.reduceLT, Nat.reduceSub, reduceCtorEq, Int.reduceEq, Int.reduceLT, Int.reduceLE, Int.reduceNeg, Int.reduceToNat, Int.reduceAdd, Int.reduceSub, Nat.reduceMul, part_cell, part_agg, and_false, *]
    | (refine retK_now ?_)
    | (refine retK_now' ?_)
    | (intro q hq)
    | (refine cond_intro (fun hc => ?_) (fun hc => ?_)))
  revert q
  intro q19 hq19
  refine seqK_now ?_
  have n99 : ¬ q9 = q19 := ne_of f9 hq19.2.2
  have o19 := none_of_sub s0.out hq19.2.2
  have sub19 := sub_new sub7.out (q := q19) (v := .arr 35 2 [.agg [zf, zb]]) (by rw [Heap.upd_ne _ _ hq19.1]; exact hq19.2.2)
  replace sub19 := (show Aside _ from sub19)
  replace o19 := (show Aside _ from o19)
  (repeat' first
    | simp (contextual := true) (maxSteps := 4000000) only [fwc, fwe, fww, reduceIte, ↓reduceIte, Nat.reduceAdd, Nat.reduceLeDiff, Nat.reduceEqDiff, Nat.reduceLT, Nat.reduceSub, reduceCtorEq, Int.reduceEq, Int.reduceLT, Int.reduceLE, Int.reduceNeg, Int.reduceToNat, Int.reduceAdd, Int.reduceSub, Nat.reduceMul, part_cell, part_agg, and_false, *]
    | (refine seqK_now ?_)
    | (refine retK_now ?_)
    | (refine retK_now' ?_)
    | (intro q hq)
    | (refine cond_intro (fun hc => ?_) (fun hc => ?_)))
  refine hsame.use ?_
  (repeat' first
    | simp (contextual := true) (maxSteps := 4000000) only [fwc, fwe, fww, reduceIte, ↓reduceIte, Nat.reduceAdd, Nat.reduceLeDiff, Nat.reduceEqDiff, Nat.reduceLT, Nat.reduceSub, reduceCtorEq, Int.reduceEq, Int.reduceLT, Int.reduceLE, Int.reduceNeg, Int.reduceToNat, Int.reduceAdd, Int.reduceSub, Nat.reduceMul, part_cell, part_agg, and_false, *]
    | (refine seqK_now ?_)
    | (refine retK_now ?_)
    | (refine retK_now' ?_)
    | (intro q hq)
    | (refine cond_intro (fun hc => ?_) (fun hc => ?_)))
  refine lives_ok.use ?_
  (repeat' first
    | simp (contextual := true) (maxSteps := 4000000) only [fwc, fwe, fww, reduceIte, ↓reduceIte, Nat.reduceAdd, Nat.reduceLeDiff, Nat.reduceEqDiff, Nat.reduceLT, Nat.reduceSub, reduceCtorEq, Int.reduceEq, Int.reduceLT, Int.reduceLE, Int.reduceNeg, Int.reduceToNat, Int.reduceAdd, Int.reduceSub, Nat.reduceMul, part_cell, part_agg, and_false, *]
    | (refine seqK_now ?_)
    | (refine retK_now ?_)
    | (refine retK_now' ?_)
    | (intro q hq)
    | (refine cond_intro (fun hc => ?_) (fun hc => ?_)))
  refine WeakR.pure sub19.out ?_
  rfl
end Go.Proofs.Ytlpngkeegjickaa

namespace Go.Proofs.Ytlpngkeegjickaa
open Go.Ab Go.ChangeShapes Go.WideShapes Go.ChangeAt Go.RowKit

theorem own : ownKnob Try.prog.godebug = none := by kernel_rfl
theorem laid : laidOutB Try.prog = true := by kernel_rfl
theorem wf_u8 {n : Int} (h : (Lit.int .u8 n).wf = true) : 0 ≤ n ∧ n ≤ 255 := by
  simpa [Lit.wf, IntKind.min, IntKind.max, IntKind.signed, IntKind.bits] using h
theorem wf_i64 {n : Int} (h : (Lit.int .i64 n).wf = true) : -9223372036854775808 ≤ n ∧ n ≤ 9223372036854775807 := by
  simpa [Lit.wf, IntKind.min, IntKind.max, IntKind.signed, IntKind.bits] using h

def lay2 : Lay := .int .u8 (.int .u8 .nil)
theorem open_2 {a : AV} {es : List AV} (he : elemIs true a es) (h : LayOK lay2 es) : ∃ m n : Nat, m < 256 ∧ n < 256 ∧ a = .agg [.val (.int .u8 m), .val (.int .u8 n)] := by
  obtain ⟨m, vs', rfl, hm, n, vs', rfl, hn, rfl⟩ := h
  have h1 := wf_u8 hm
  have h2 := wf_u8 hn
  refine ⟨m.toNat, n.toNat, by omega, by omega, ?_⟩
  rw [show ((m.toNat : Nat) : Int) = m by omega, show ((n.toNat : Nat) : Int) = n by omega]
  exact he
def layB : Lay := .slice true (.int .u8 (.int .u8 .nil)) .nil
def layId : Lay := .int .u8 (.int .i64 .nil)
theorem open_B {s : AV} (h : LayOK layB [s]) : ∃ P : List Put, IsL 2 s (P.map Put.av) ∧ ∀ p ∈ P, p.ok := by
  obtain ⟨s', l, vs', e, h1, _, h3, h4⟩ := h
  simp only [List.cons.injEq] at e
  obtain ⟨rfl, _⟩ := e
  obtain ⟨X, rfl, hX⟩ := map_of_all (f := Put.av) (Q := Put.ok) (l := l) (fun x hx => by
    obtain ⟨es, rfl, y, vs', rfl, hw1, n, vs', rfl, hw2, rfl⟩ := h3 x hx
    have k1 := wf_u8 hw1
    have k2 := wf_u8 hw2
    refine ⟨⟨y.toNat, n.toNat⟩, ?_, by unfold Put.ok; simp only; omega⟩
    unfold Put.av
    rw [show ((y.toNat : Nat) : Int) = y by omega, show ((n.toNat : Nat) : Int) = n by omega])
  exact ⟨X, h1, hX⟩
theorem open_id {a : AV} {es : List AV} (he : elemIs true a es) (h : LayOK layId es) : ∃ m n : Int, (0 ≤ m ∧ m ≤ 255) ∧ (-9223372036854775808 ≤ n ∧ n ≤ 9223372036854775807) ∧ a = .agg [.val (.int .u8 m), .val (.int .i64 n)] := by
  obtain ⟨m, vs', rfl, hm, n, vs', rfl, hn, rfl⟩ := h
  exact ⟨m, n, wf_u8 hm, wf_i64 hn, he⟩
def layL : Lay := .slice true (.int .u8 (.int .i64 .nil)) .nil
theorem open_L {s : AV} (h : LayOK layL [s]) : ∃ X : List Id, IsL 2 s (X.map Id.av) := by
  obtain ⟨s', l, vs', e, h1, _, h3, h4⟩ := h
  simp only [List.cons.injEq] at e
  obtain ⟨rfl, _⟩ := e
  obtain ⟨X, rfl, _⟩ := map_of_all (f := Id.av) (Q := fun _ => True) (l := l) (fun x hx => by
    obtain ⟨es, rfl, y, vs', rfl, hw1, n, vs', rfl, hw2, rfl⟩ := h3 x hx
    exact ⟨⟨y, n⟩, rfl, trivial⟩)
  exact ⟨X, h1⟩
theorem StacksSet_args (vs : List AV) (h : ArgsOK [(false, layB), (true, layId), (false, layL)] vs) : PureA Try.prog 4 vs (.val (.bool true)) := by
  obtain ⟨a, vs', es, rfl, rfl, h1, b, vs', es', rfl, k2, h2, c, vs', es'', rfl, rfl, h3, rfl⟩ := h
  obtain ⟨P, hs, hP⟩ := open_B h1
  obtain ⟨m, n, hm, _, rfl⟩ := open_id k2 h2
  obtain ⟨X, ht⟩ := open_L h3
  exact StacksSet_ok a c P ⟨m, n⟩ X hs hP hm.1 ht
set_option maxRecDepth 100000 in
theorem StacksSet_lifted (os : Os) (started : os.Started) (H : Type) (enc : TypeId × Value → H) :
    ReturnsInHanded {} Try.checked os 4 .any (Rows.stacksSetSpec.pre6 enc Try.prog Try.f4 Rows.stacksSetRow.domain false) (Rows.stacksSetSpec.post enc Try.prog Try.f4 false true false false) := by
  refine returnsInHanded_of_change (C := Try.checked) own started (by kernel_rfl) Try.func4
    (ChangeSpec.witness6 (enc := enc) (C := Try.checked) false ⟨#[], #[.slice none 0 0, .agg #[.int .u8 0, .int .i64 0], .slice none 0 0], []⟩ 8 (by kernel_rfl) (by kernel_rfl) (by kernel_rfl) (by kernel_rfl)) ?_
  intro W base args ds gs before hval hW _ _
  exact law_calls (lays := [(false, layB), (true, layId), (false, layL)]) laid (of_decide_eq_true (by kernel_rfl)) (by kernel_rfl) (by kernel_rfl) rfl (fun ds hds => by
    match ds, hds with
    | [d1, d2, d3], _ => rfl) StacksSet_args W base args ds gs before hval hW

theorem StacksSet_holds : Rows.StacksSetSaid :=
  OpenClaim.holds_of_wide 4 Try.f4 rfl rfl rfl rfl rfl rfl rfl ⟨rfl, rfl, rfl, rfl, rfl⟩ rfl rfl rfl rfl rfl (by kernel_rfl) Try.func4 (by kernel_rfl)
    (of_decide_eq_true (by kernel_rfl)) (by unfold Func.isWrapper; first | (rw [if_pos (by decide +kernel)]; kernel_rfl) | (rw [if_neg (by decide +kernel)]; exact ⟨rfl, rfl⟩))
    (fun os started H enc _ => StacksSet_lifted os started H enc)

end Go.Proofs.Ytlpngkeegjickaa
