/- The law OrdersBack of the given program: for every input the call returns true, and its arguments read as before. Here: contracts of functions, and the law. -/
import Derived.Test.YtlpngkeegjickabLawOrdersBackP2
import Derived.Test.YtlpngkeegjickabFc
import Derived.Test.YtlpngkeegjickabRows
set_option linter.unusedSimpArgs false
set_option linter.unusedVariables false
namespace Go.Proofs.Ytlpngkeegjickab
open Go.Ab
attribute [local irreducible] WeakR WeakE CallA YieldA

/-! Step. -/
theorem ClipC_fz (s : AV) (L : List AV) (O0 O' : Heap) (h : OwN 45 5 O0 O' s L) (K : AV → Heap → Prop) (hk : K (tA 5 L) O0) : CallA Try.prog 26 [s] O' K := by
  refine k26.call mix ?_
  unfold c26
  rcases h with ⟨rfl, rfl, rfl⟩ | ⟨hne, id, c, elems, h0, rfl, rfl, h1, h2⟩
  · have e1 : sliceA 5 (.val (.slice none 0 0)) none (some (.val (.int .i64 0))) (some (.val (.int .i64 0))) = some (.val (.slice none 0 0)) := rfl
    (repeat' first
    | simp (contextual := true) (maxSteps := 4000000) only [fwc, fwe, fww, reduceIte, ↓reduceIte, Nat.reduceAdd, Nat.reduceLeDiff, Nat.reduceEqDiff, Nat.reduceLT, Nat.reduceSub, reduceCtorEq, Int.reduceEq, Int.reduceLT, Int.reduceLE, Int.reduceNeg, Int.reduceToNat, Int.reduceAdd, Int.reduceSub, Nat.reduceMul, *]
    | (refine seqK_now ?_)
    | (refine retK_now ?_)
    | (refine retK_now' ?_)
    | (intro q hq)
    | (refine cond_intro (fun hc => ?_) (fun hc => ?_)))
    exact WeakR.now hk
  · have e1 : sliceA 5 (.own id 5 0 L.length c) none (some (.val (.int .i64 L.length))) (some (.val (.int .i64 L.length))) = some (.own id 5 0 L.length (some L.length)) := by
      rw [slice_own_mx (a := 0) (b := L.length) (d := L.length) rfl (by simp [bound_int]) (by simp [bound_int]) (by omega) (by simp [leCap]) (by omega) (by simp [leCap])]
      simp
    have hz := Fz.own (id := id) (sz := 5) (elems := elems) 0 L.length (some L.length) true (by omega) (fun _ => rfl)
    rw [List.drop_zero, h1] at hz
    have hk2 : K (.list 5 true L) O0 := by rw [tA, if_neg hne] at hk; exact hk
    replace hz := (show Aside _ from hz)
    replace hne := (show Aside _ from hne)
    replace h1 := (show Aside _ from h1)
    (repeat' first
    | simp (contextual := true) (maxSteps := 4000000) only [fwc, fwe, fww, reduceIte, ↓reduceIte, Nat.reduceAdd, Nat.reduceLeDiff, Nat.reduceEqDiff, Nat.reduceLT, Nat.reduceSub, reduceCtorEq, Int.reduceEq, Int.reduceLT, Int.reduceLE, Int.reduceNeg, Int.reduceToNat, Int.reduceAdd, Int.reduceSub, Nat.reduceMul, *]
    | (refine seqK_now ?_)
    | (refine retK_now ?_)
    | (refine retK_now' ?_)
    | (intro q hq)
    | (refine cond_intro (fun hc => ?_) (fun hc => ?_)))
    refine WeakR.freeze (Heap.upd_same _ _ _) hz.out (WeakR.now ?_)
    rw [del_upd_new h0]
    exact hk2
structure Cr where
  a : Id
  b : Id
  s : Int
def Cr.av (p : Cr) : AV := .agg [.val (.int .u8 p.a.y), .val (.int .i64 p.a.n), .val (.int .u8 p.b.y), .val (.int .i64 p.b.n), .val (.int .i64 p.s)]
def crs (d : Int) (x y : Id) : Cr := if d = 1 then ⟨x, y, -1⟩ else ⟨y, x, 1⟩
def stepN (d : Int) (i : Nat) : Ndl := ⟨1, if d = 1 then 40 - (i : Int) else (i : Int) + 1⟩
def stepA (r d : Int) (i : Nat) : Int := spotL (stepN d i) r + 2 * shL d
def crossL (d : Int) (xs ys : List Id) : List Cr := xs.flatMap fun x => ys.map (crs d x)
def stepAt (F B : List (List Id)) (r d : Int) (i : Nat) : List Cr :=
  if atE (stepA r d i) r = 0 then crossL d (ordL (1 - d) (atL F B (stepN d i))) (ordL d (atL F B (atN (stepA r d i) r))) else []
def stepTo (F B : List (List Id)) (r d : Int) (n : Nat) : List Cr := (List.range n).flatMap (stepAt F B r d)
theorem stepTo_succ (F B : List (List Id)) (r d : Int) (n : Nat) : stepTo F B r d (n + 1) = stepTo F B r d n ++ stepAt F B r d n := by
  unfold stepTo
  rw [List.range_succ, List.flatMap_append]
  simp
theorem cross_len (d : Int) (xs ys : List Id) (hy : ys.length ≤ 4) : (crossL d xs ys).length ≤ 4 * xs.length := by
  unfold crossL
  induction xs with
  | nil => simp
  | cons x xs ih =>
    rw [List.flatMap_cons, List.length_append, List.length_map, List.length_cons]
    omega
theorem stepTo_len {F B : List (List Id)} (h : ∀ n, (atL F B n).length ≤ 4) (r d : Int) : ∀ n, (stepTo F B r d n).length ≤ 16 * n
  | 0 => by simp [stepTo]
  | n + 1 => by
    have h1 := stepTo_len h r d n
    have h2 : (stepAt F B r d n).length ≤ 16 := by
      unfold stepAt
      by_cases hc : atE (stepA r d n) r = 0
      · rw [if_pos hc]
        have := cross_len d (ordL (1 - d) (atL F B (stepN d n))) (ordL d (atL F B (atN (stepA r d n) r))) (by rw [ordL_len]; exact h _)
        rw [ordL_len] at this
        have := h (stepN d n)
        omega
      · rw [if_neg hc]; simp
    rw [stepTo_succ, List.length_append]
    omega
def env9h (q3 : Nat) (r d : Int) (s : AV) (i : Nat) : Env := ((((((Env.upd (fun _ => .junk) 28 (.val (.int .i64 i))).upd 10 (.val (.int .u8 (1 - d)))).upd 9 s).upd 3 (.optr q3 2 0 0)).upd 2 (.val (.int .u8 d))).upd 1 (.val (.int .i64 r)))
def env9q (q3 q12 : Nat) (r d : Int) (s : AV) (i : Nat) : Env := (((((((Env.upd (fun _ => .junk) 28 (.val (.int .i64 i))).upd 12 (.optr q12 2 0 0)).upd 10 (.val (.int .u8 (1 - d)))).upd 9 s).upd 3 (.optr q3 2 0 0)).upd 2 (.val (.int .u8 d))).upd 1 (.val (.int .i64 r)))
def env9k (q3 q13 : Nat) (r d : Int) (s ro : AV) (i n k : Nat) : Env := ((((((((((Env.upd (fun _ => .junk) 59 (.val (.int .i64 k))).upd 58 (.val (.int .i64 n))).upd 57 ro).upd 28 (.val (.int .i64 i))).upd 13 (.optr q13 2 0 0)).upd 10 (.val (.int .u8 (1 - d)))).upd 9 s).upd 3 (.optr q3 2 0 0)).upd 2 (.val (.int .u8 d))).upd 1 (.val (.int .i64 r)))
def env9l (q3 q13 q16 : Nat) (r d : Int) (s ro rp : AV) (i n k m j : Nat) : Env := ((((((((((((((Env.upd (fun _ => .junk) 69 (.val (.int .i64 j))).upd 68 (.val (.int .i64 m))).upd 67 rp).upd 59 (.val (.int .i64 k))).upd 58 (.val (.int .i64 n))).upd 57 ro).upd 28 (.val (.int .i64 i))).upd 16 (.optr q16 2 0 0)).upd 13 (.optr q13 2 0 0)).upd 10 (.val (.int .u8 (1 - d)))).upd 9 s).upd 3 (.optr q3 2 0 0)).upd 2 (.val (.int .u8 d))).upd 1 (.val (.int .i64 r)))

set_option maxHeartbeats 8000000 in
theorem Step_ok {x : AV} {F B : List (List Id)} (h : IsBeds x F B) (hc : checkL F B = 0) (hm4 : ∀ n, (atL F B n).length ≤ 4) (r d : Int) (hd : d = 0 ∨ d = 1) (hr : rackOK r = true) (hmv : moveE r d = 0) :
    PureA Try.prog 9 [x, .val (.int .i64 r), .val (.int .u8 d)] (.tup [tA 5 ((stepTo F B r d 40).map Cr.av), .val (.int .i64 0)]) := by
  have hmo := movable_ok h hc r d hd
  rw [hmv] at hmo
  have hat := fun n => h.at_ n
  obtain ⟨f, b, rfl, c1, c2, s1, s2, _, _⟩ := h.cells
  clear h
  have hsh := shift_ok d hd
  have d0 : decide ((0 : Int) = 0) = true := by decide
  have hwo : IntKind.u8.wrap (1 - d) = 1 - d := wrap_u8 (by omega) (by omega)
  replace hat := (show Aside _ from hat)
  replace hc := (show Aside _ from hc)
  replace hm4 := (show Aside _ from hm4)
  replace hmv := (show Aside _ from hmv)
  replace hd := (show Aside _ from hd)
  replace hr := (show Aside _ from hr)
  intro O
  refine k9.call mix ?_
  unfold c9
  refine seq_go ?_
  (repeat' first
    | simp (contextual := true) (maxSteps := 4000000) only [fwc, fwe, fww, reduceIte, ↓reduceIte, Nat.reduceAdd, Nat.reduceLeDiff, Nat.reduceEqDiff, Nat.reduceLT, Nat.reduceSub, reduceCtorEq, Int.reduceEq, Int.reduceLT, Int.reduceLE, Int.reduceNeg, Int.reduceToNat, Int.reduceAdd, Int.reduceSub, Nat.reduceMul, part_cell, part_agg, *]
    | (refine retK_now ?_)
    | (refine retK_now' ?_)
    | (intro q hq)
    | (refine cond_intro (fun hc => ?_) (fun hc => ?_)))
  revert q
  intro q3 hq3
  refine seqK_now ?_
  refine seq_go ?_
  refine seq_go ?_
  (repeat' first
    | simp (contextual := true) (maxSteps := 4000000) only [fwc, fwe, fww, reduceIte, ↓reduceIte, Nat.reduceAdd, Nat.reduceLeDiff, Nat.reduceEqDiff, Nat.reduceLT, Nat.reduceSub, reduceCtorEq, Int.reduceEq, Int.reduceLT, Int.reduceLE, Int.reduceNeg, Int.reduceToNat, Int.reduceAdd, Int.reduceSub, Nat.reduceMul, part_cell, part_agg, *]
    | (refine retK_now ?_)
    | (refine retK_now' ?_)
    | (intro q hq)
    | (refine cond_intro (fun hc => ?_) (fun hc => ?_)))
  refine hmo.use ?_
  clear hmo
  (repeat' first
    | simp (contextual := true) (maxSteps := 4000000) only [fwc, fwe, fww, reduceIte, ↓reduceIte, Nat.reduceAdd, Nat.reduceLeDiff, Nat.reduceEqDiff, Nat.reduceLT, Nat.reduceSub, reduceCtorEq, Int.reduceEq, Int.reduceLT, Int.reduceLE, Int.reduceNeg, Int.reduceToNat, Int.reduceAdd, Int.reduceSub, Nat.reduceMul, part_cell, part_agg, *]
    | (refine retK_now ?_)
    | (refine retK_now' ?_)
    | (intro q hq)
    | (refine cond_intro (fun hc => ?_) (fun hc => ?_)))
  refine seqK_now ?_
  refine seq_go ?_
  (repeat' first
    | simp (contextual := true) (maxSteps := 4000000) only [fwc, fwe, fww, reduceIte, ↓reduceIte, Nat.reduceAdd, Nat.reduceLeDiff, Nat.reduceEqDiff, Nat.reduceLT, Nat.reduceSub, reduceCtorEq, Int.reduceEq, Int.reduceLT, Int.reduceLE, Int.reduceNeg, Int.reduceToNat, Int.reduceAdd, Int.reduceSub, Nat.reduceMul, part_cell, part_agg, *]
    | (refine retK_now ?_)
    | (refine retK_now' ?_)
    | (intro q hq)
    | (refine cond_intro (fun hc => ?_) (fun hc => ?_)))
  refine seqK_now ?_
  (repeat' first
    | simp (contextual := true) (maxSteps := 4000000) only [fwc, fwe, fww, reduceIte, ↓reduceIte, Nat.reduceAdd, Nat.reduceLeDiff, Nat.reduceEqDiff, Nat.reduceLT, Nat.reduceSub, reduceCtorEq, Int.reduceEq, Int.reduceLT, Int.reduceLE, Int.reduceNeg, Int.reduceToNat, Int.reduceAdd, Int.reduceSub, Nat.reduceMul, part_cell, part_agg, *]
    | (refine retK_now ?_)
    | (refine retK_now' ?_)
    | (intro q hq)
    | (refine cond_intro (fun hc => ?_) (fun hc => ?_)))
  refine seqK_now ?_
  refine seq_go ?_
  (repeat' first
    | simp (contextual := true) (maxSteps := 4000000) only [fwc, fwe, fww, reduceIte, ↓reduceIte, Nat.reduceAdd, Nat.reduceLeDiff, Nat.reduceEqDiff, Nat.reduceLT, Nat.reduceSub, reduceCtorEq, Int.reduceEq, Int.reduceLT, Int.reduceLE, Int.reduceNeg, Int.reduceToNat, Int.reduceAdd, Int.reduceSub, Nat.reduceMul, part_cell, part_agg, *]
    | (refine retK_now ?_)
    | (refine retK_now' ?_)
    | (intro q hq)
    | (refine cond_intro (fun hc => ?_) (fun hc => ?_)))
  refine seqK_now ?_
  refine seq_go ?_
  (repeat' first
    | simp (contextual := true) (maxSteps := 4000000) only [fwc, fwe, fww, reduceIte, ↓reduceIte, Nat.reduceAdd, Nat.reduceLeDiff, Nat.reduceEqDiff, Nat.reduceLT, Nat.reduceSub, reduceCtorEq, Int.reduceEq, Int.reduceLT, Int.reduceLE, Int.reduceNeg, Int.reduceToNat, Int.reduceAdd, Int.reduceSub, Nat.reduceMul, part_cell, part_agg, *]
    | (refine retK_now ?_)
    | (refine retK_now' ?_)
    | (intro q hq)
    | (refine cond_intro (fun hc => ?_) (fun hc => ?_)))
  refine seqK_now ?_
  refine seq_go ?_
  refine seq_go ?_
  (repeat' first
    | simp (contextual := true) (maxSteps := 4000000) only [fwc, fwe, fww, reduceIte, ↓reduceIte, Nat.reduceAdd, Nat.reduceLeDiff, Nat.reduceEqDiff, Nat.reduceLT, Nat.reduceSub, reduceCtorEq, Int.reduceEq, Int.reduceLT, Int.reduceLE, Int.reduceNeg, Int.reduceToNat, Int.reduceAdd, Int.reduceSub, Nat.reduceMul, part_cell, part_agg, *]
    | (refine retK_now ?_)
    | (refine retK_now' ?_)
    | (intro q hq)
    | (refine cond_intro (fun hc => ?_) (fun hc => ?_)))
  refine seqK_now ?_
  obtain ⟨I, hI⟩ := hideI (fun m e O' => ∃ (i : Nat) (s : AV) (O0 : Heap), i ≤ 40 ∧ m = 40 - i ∧ O.sub O0 ∧ O0 q3 = some (.arr 26 2 [.agg [f, b]]) ∧ OwN 45 5 O0 O' s ((stepTo F B r d i).map Cr.av) ∧ e = env9h q3 r d s i)
  (repeat' first
    | simp (contextual := true) (maxSteps := 4000000) only [fwc, fwe, fww, reduceIte, ↓reduceIte, Nat.reduceAdd, Nat.reduceLeDiff, Nat.reduceEqDiff, Nat.reduceLT, Nat.reduceSub, reduceCtorEq, Int.reduceEq, Int.reduceLT, Int.reduceLE, Int.reduceNeg, Int.reduceToNat, Int.reduceAdd, Int.reduceSub, Nat.reduceMul, part_cell, part_agg, *]
    | (refine retK_now ?_)
    | (refine retK_now' ?_)
    | (intro q hq)
    | (refine cond_intro (fun hc => ?_) (fun hc => ?_)))
  refine cmd_loop I 40 (by
    rw [hI.out]
    exact ⟨0, _, _, by omega, rfl, sub_upd hq3 (Heap.sub_refl _), Heap.upd_same _ _ _, OwN.nil, rfl⟩) ?_
  clear hq3
  intro m e O' hh
  rw [hI.out] at hh
  obtain ⟨i, s, O0, hi40, rfl, hO0, h03, hs, rfl⟩ := hh
  unfold env9h
  have f3 := hs.at_ h03
  have sc := hs.cells
  have sst := hs.stor
  replace hO0 := (show Aside _ from hO0)
  replace h03 := (show Aside _ from h03)
  replace hs := (show Aside _ from hs)
  have dj : decide ((i : Int) < 40) = decide (i < 40) := decide_eq_decide.2 (by omega)
  by_cases hi : i < 40
  rotate_left
  · have e0 : decide (i < 40) = false := decide_eq_false hi
    have hie : i = 40 := by omega
    replace hi := (show Aside _ from hi)
    rw [hie] at hs
    replace hie := (show Aside _ from hie)
    (repeat' first
    | simp (contextual := true) (maxSteps := 4000000) only [fwc, fwe, fww, reduceIte, ↓reduceIte, Nat.reduceAdd, Nat.reduceLeDiff, Nat.reduceEqDiff, Nat.reduceLT, Nat.reduceSub, reduceCtorEq, Int.reduceEq, Int.reduceLT, Int.reduceLE, Int.reduceNeg, Int.reduceToNat, Int.reduceAdd, Int.reduceSub, Nat.reduceMul, part_cell, part_agg, *]
    | (refine seqK_now ?_)
    | (refine retK_now ?_)
    | (refine retK_now' ?_)
    | (intro q hq)
    | (refine cond_intro (fun hc => ?_) (fun hc => ?_)))
    refine ClipC_fz s _ O0 O' hs.out _ ?_
    (repeat' first
    | simp (contextual := true) (maxSteps := 4000000) only [fwc, fwe, fww, reduceIte, ↓reduceIte, Nat.reduceAdd, Nat.reduceLeDiff, Nat.reduceEqDiff, Nat.reduceLT, Nat.reduceSub, reduceCtorEq, Int.reduceEq, Int.reduceLT, Int.reduceLE, Int.reduceNeg, Int.reduceToNat, Int.reduceAdd, Int.reduceSub, Nat.reduceMul, part_cell, part_agg, *]
    | (refine seqK_now ?_)
    | (refine retK_now ?_)
    | (refine retK_now' ?_)
    | (intro q hq)
    | (refine cond_intro (fun hc => ?_) (fun hc => ?_)))
    refine WeakR.pure hO0.out ?_
    rfl
  have e0 : decide (i < 40) = true := decide_eq_true hi
  have hwi : i < 4611686018427387904 := by omega
  have hrr : -4 ≤ r ∧ r ≤ 4 := by have := hr.out; unfold rackOK at this; simpa using this
  have hnb : 1 ≤ (stepN d i).at_ ∧ (stepN d i).at_ ≤ 40 := by unfold stepN; simp only; split <;> omega
  have hgood : (stepN d i).bad = false := by unfold Ndl.bad; simp only [Bool.or_eq_false_iff, decide_eq_false_iff_not]; unfold stepN at hnb ⊢; simp only at hnb ⊢; omega
  have hSp := Spot_ok (stepN d i) r
  rw [if_neg (by rw [hgood, hr.out]; simp)] at hSp
  have hsuc := stepTo_succ F B r d i
  have hstA : stepAt F B r d i = if atE (stepA r d i) r = 0 then crossL d (ordL (1 - d) (atL F B (stepN d i))) (ordL d (atL F B (atN (stepA r d i) r))) else [] := rfl
  obtain ⟨ra, hra, hraT⟩ := hat.out (stepN d i)
  have hl4 := hm4.out (stepN d i)
  obtain ⟨ro, hro, hroL⟩ := inOrder_ok ra _ hraT.isL (by omega) (1 - d)
  have hNA := NAt_ok (stepA r d i) r
  have hstep : stepA r d i = spotL (stepN d i) r + 2 * shL d := rfl
  obtain ⟨rb, hrb, hrbT⟩ := hat.out (atN (stepA r d i) r)
  have hl4b := hm4.out (atN (stepA r d i) r)
  obtain ⟨rp, hrp, hrpL⟩ := inOrder_ok rb _ hrbT.isL (by omega) d
  generalize atN (stepA r d i) r = W at *
  generalize atE (stepA r d i) r = ee at *
  have hox : (ordL (1 - d) (atL F B (stepN d i))).length ≤ 4 := by rw [ordL_len]; exact hl4
  have hoy : (ordL d (atL F B W)).length ≤ 4 := by rw [ordL_len]; exact hl4b
  have hnm : (stepN d i).at_ = if d = 1 then 40 - (i : Int) else (i : Int) + 1 := rfl
  have hspb : -100 ≤ spotL (stepN d i) r ∧ spotL (stepN d i) r ≤ 1000 := by unfold spotL; rw [if_pos (show (stepN d i).bed = 1 from rfl)]; omega
  have hshb : shL d = 1 ∨ shL d = -1 := by unfold shL; split <;> simp
  rw [show (stepN d i).av = .agg [.val (.int .u8 1), .val (.int .i64 (stepN d i).at_)] from rfl] at hSp hra
  rw [show W.av = .agg [.val (.int .u8 W.bed), .val (.int .i64 W.at_)] from rfl] at hNA hrb
  generalize spotL (stepN d i) r = a at *
  generalize stepA r d i = a2 at *
  generalize (stepN d i).at_ = m at *
  generalize ordL (1 - d) (atL F B (stepN d i)) = XL at *
  generalize ordL d (atL F B W) = YL at *
  generalize shL d = sh at *
  have hw1 : IntKind.i64.wrap (2 * sh) = 2 * sh := by rw [wrap_i64 (by omega) (by omega)]
  have hw2 : IntKind.i64.wrap (a + 2 * sh) = a2 := by rw [wrap_i64 (by omega) (by omega)]; exact hstep.symm
  have hw3 : IntKind.i64.wrap ((i : Int) + 1) = ((i + 1 : Nat) : Int) := by rw [wrap_i64 (by omega) (by omega)]; omega
  have hw4 : IntKind.i64.wrap (40 - (i : Int)) = 40 - (i : Int) := by rw [wrap_i64 (by omega) (by omega)]
  have hwm : IntKind.i64.wrap m = m := by rw [wrap_i64 (by omega) (by omega)]
  have rc := hroL.cells
  have rs := hroL.stor
  have rl := hroL.len
  have rc2 := hrpL.cells
  have rs2 := hrpL.stor
  have rl2 := hrpL.len
  rw [List.length_map] at rl rl2
  have rac := hraT.isL.cells
  have ras := hraT.isL.stor
  have rbc := hrbT.isL.cells
  have rbs := hrbT.isL.stor
  replace hroL := (show Aside _ from hroL)
  replace hraT := (show Aside _ from hraT)
  replace hrpL := (show Aside _ from hrpL)
  replace hrbT := (show Aside _ from hrbT)
  replace hstA := (show Aside _ from hstA)
  replace hsuc := (show Aside _ from hsuc)
  replace hspb := (show Aside _ from hspb)
  replace hshb := (show Aside _ from hshb)
  replace hrr := (show Aside _ from hrr)
  replace hl4 := (show Aside _ from hl4)
  replace hl4b := (show Aside _ from hl4b)
  replace hgood := (show Aside _ from hgood)
  replace hox := (show Aside _ from hox)
  replace hoy := (show Aside _ from hoy)
  replace hnb := (show Aside _ from hnb)
  replace hnm := (show Aside _ from hnm)
  replace hstep := (show Aside _ from hstep)
  refine seq_go ?_
  (repeat' first
    | simp (contextual := true) (maxSteps := 4000000) only [fwc, fwe, fww, reduceIte, ↓reduceIte, Nat.reduceAdd, Nat.reduceLeDiff, Nat.reduceEqDiff, Nat.reduceLT, Nat.reduceSub, reduceCtorEq, Int.reduceEq, Int.reduceLT, Int.reduceLE, Int.reduceNeg, Int.reduceToNat, Int.reduceAdd, Int.reduceSub, Nat.reduceMul, ilt_nat, part_cell, part_agg, *]
    | (refine retK_now ?_)
    | (refine retK_now' ?_)
    | (intro q hq)
    | (refine cond_intro (fun hc => ?_) (fun hc => ?_)))
  refine seqK_now ?_
  refine seq_go ?_
  (repeat' first
    | simp (contextual := true) (maxSteps := 4000000) only [fwc, fwe, fww, reduceIte, ↓reduceIte, Nat.reduceAdd, Nat.reduceLeDiff, Nat.reduceEqDiff, Nat.reduceLT, Nat.reduceSub, reduceCtorEq, Int.reduceEq, Int.reduceLT, Int.reduceLE, Int.reduceNeg, Int.reduceToNat, Int.reduceAdd, Int.reduceSub, Nat.reduceMul, ilt_nat, part_cell, part_agg, *]
    | (refine retK_now ?_)
    | (refine retK_now' ?_)
    | (intro q hq)
    | (refine cond_intro (fun hc => ?_) (fun hc => ?_)))
  refine seqK_now ?_
  refine seq_go ?_
  refine seq_go ?_
  (repeat' first
    | simp (contextual := true) (maxSteps := 4000000) only [fwc, fwe, fww, reduceIte, ↓reduceIte, Nat.reduceAdd, Nat.reduceLeDiff, Nat.reduceEqDiff, Nat.reduceLT, Nat.reduceSub, reduceCtorEq, Int.reduceEq, Int.reduceLT, Int.reduceLE, Int.reduceNeg, Int.reduceToNat, Int.reduceAdd, Int.reduceSub, Nat.reduceMul, ilt_nat, part_cell, part_agg, *]
    | (refine retK_now ?_)
    | (refine retK_now' ?_)
    | (intro q hq)
    | (refine cond_intro (fun hc => ?_) (fun hc => ?_)))
  refine seqK_now ?_
  refine seq_go ?_
  (repeat' first
    | simp (contextual := true) (maxSteps := 4000000) only [fwc, fwe, fww, reduceIte, ↓reduceIte, Nat.reduceAdd, Nat.reduceLeDiff, Nat.reduceEqDiff, Nat.reduceLT, Nat.reduceSub, reduceCtorEq, Int.reduceEq, Int.reduceLT, Int.reduceLE, Int.reduceNeg, Int.reduceToNat, Int.reduceAdd, Int.reduceSub, Nat.reduceMul, ilt_nat, part_cell, part_agg, *]
    | (refine retK_now ?_)
    | (refine retK_now' ?_)
    | (intro q hq)
    | (refine cond_intro (fun hc => ?_) (fun hc => ?_)))
  revert q
  intro q12 hq12
  refine seqK_now ?_
  have o12 := own_none hs.out hq12
  have n312 := ne_of f3 hq12
  refine seq_post (fun e1 O1 => O1 = O'.upd q12 (.arr 41 2 [.agg [.val (.int .u8 1), .val (.int .i64 m)]]) ∧ e1 = env9q q3 q12 r d s i) ?_ ?_
  rotate_left
  · intro G hG
    replace hG := (show Aside _ from hG)
    by_cases hd1 : d = 1
    · have g1 : decide (d = 1) = true := decide_eq_true hd1
      have hmm : 40 - (i : Int) = m := by rw [hnm.out, if_pos hd1]
      replace hd1 := (show Aside _ from hd1)
      (repeat' first
    | simp (contextual := true) (maxSteps := 4000000) only [fwc, fwe, fww, reduceIte, ↓reduceIte, Nat.reduceAdd, Nat.reduceLeDiff, Nat.reduceEqDiff, Nat.reduceLT, Nat.reduceSub, reduceCtorEq, Int.reduceEq, Int.reduceLT, Int.reduceLE, Int.reduceNeg, Int.reduceToNat, Int.reduceAdd, Int.reduceSub, Nat.reduceMul, part_cell, part_agg, *]
    | (refine seqK_now ?_)
    | (refine retK_now ?_)
    | (refine retK_now' ?_)
    | (intro q hq)
    | (refine cond_intro (fun hc => ?_) (fun hc => ?_)))
      exact hG.out _ _ ⟨rfl, rfl⟩
    · have g1 : decide (d = 1) = false := decide_eq_false hd1
      have hmm : ((i + 1 : Nat) : Int) = m := by rw [hnm.out, if_neg hd1]; omega
      rw [hmm]
      replace hd1 := (show Aside _ from hd1)
      (repeat' first
    | simp (contextual := true) (maxSteps := 4000000) only [fwc, fwe, fww, reduceIte, ↓reduceIte, Nat.reduceAdd, Nat.reduceLeDiff, Nat.reduceEqDiff, Nat.reduceLT, Nat.reduceSub, reduceCtorEq, Int.reduceEq, Int.reduceLT, Int.reduceLE, Int.reduceNeg, Int.reduceToNat, Int.reduceAdd, Int.reduceSub, Nat.reduceMul, part_cell, part_agg, *]
    | (refine seqK_now ?_)
    | (refine retK_now ?_)
    | (refine retK_now' ?_)
    | (intro q hq)
    | (refine cond_intro (fun hc => ?_) (fun hc => ?_)))
      exact hG.out _ _ ⟨rfl, rfl⟩
  intro e1 O1 hQ
  obtain ⟨hO1, rfl⟩ := hQ
  rw [hO1]
  clear hO1 O1
  unfold env9q
  refine seq_go ?_
  (repeat' first
    | simp (contextual := true) (maxSteps := 4000000) only [fwc, fwe, fww, reduceIte, ↓reduceIte, Nat.reduceAdd, Nat.reduceLeDiff, Nat.reduceEqDiff, Nat.reduceLT, Nat.reduceSub, reduceCtorEq, Int.reduceEq, Int.reduceLT, Int.reduceLE, Int.reduceNeg, Int.reduceToNat, Int.reduceAdd, Int.reduceSub, Nat.reduceMul, ilt_nat, part_cell, part_agg, *]
    | (refine retK_now ?_)
    | (refine retK_now' ?_)
    | (intro q hq)
    | (refine cond_intro (fun hc => ?_) (fun hc => ?_)))
  refine hSp.use ?_
  (repeat' first
    | simp (contextual := true) (maxSteps := 4000000) only [fwc, fwe, fww, reduceIte, ↓reduceIte, Nat.reduceAdd, Nat.reduceLeDiff, Nat.reduceEqDiff, Nat.reduceLT, Nat.reduceSub, reduceCtorEq, Int.reduceEq, Int.reduceLT, Int.reduceLE, Int.reduceNeg, Int.reduceToNat, Int.reduceAdd, Int.reduceSub, Nat.reduceMul, ilt_nat, part_cell, part_agg, *]
    | (refine retK_now ?_)
    | (refine retK_now' ?_)
    | (intro q hq)
    | (refine cond_intro (fun hc => ?_) (fun hc => ?_)))
  refine hsh.use ?_
  (repeat' first
    | simp (contextual := true) (maxSteps := 4000000) only [fwc, fwe, fww, reduceIte, ↓reduceIte, Nat.reduceAdd, Nat.reduceLeDiff, Nat.reduceEqDiff, Nat.reduceLT, Nat.reduceSub, reduceCtorEq, Int.reduceEq, Int.reduceLT, Int.reduceLE, Int.reduceNeg, Int.reduceToNat, Int.reduceAdd, Int.reduceSub, Nat.reduceMul, ilt_nat, part_cell, part_agg, *]
    | (refine retK_now ?_)
    | (refine retK_now' ?_)
    | (intro q hq)
    | (refine cond_intro (fun hc => ?_) (fun hc => ?_)))
  refine hNA.use ?_
  (repeat' first
    | simp (contextual := true) (maxSteps := 4000000) only [fwc, fwe, fww, reduceIte, ↓reduceIte, Nat.reduceAdd, Nat.reduceLeDiff, Nat.reduceEqDiff, Nat.reduceLT, Nat.reduceSub, reduceCtorEq, Int.reduceEq, Int.reduceLT, Int.reduceLE, Int.reduceNeg, Int.reduceToNat, Int.reduceAdd, Int.reduceSub, Nat.reduceMul, ilt_nat, part_cell, part_agg, *]
    | (refine retK_now ?_)
    | (refine retK_now' ?_)
    | (intro q hq)
    | (refine cond_intro (fun hc => ?_) (fun hc => ?_)))
  revert q
  intro q13 hq13
  refine seqK_now ?_
  obtain ⟨n1312, n1213, o13⟩ := hq13
  have sub12 := sub_new hO0.out o12 (v := .arr 41 2 [.agg [.val (.int .u8 1), .val (.int .i64 m)]])
  have own12 := own_new hs.out (x := .arr 41 2 [.agg [.val (.int .u8 1), .val (.int .i64 m)]]) hq12
  have h12 : (O0.upd q12 (.arr 41 2 [.agg [.val (.int .u8 1), .val (.int .i64 m)]])) q3 = some (.arr 26 2 [.agg [f, b]]) := upd_keep o12 h03.out
  have o13' : (O'.upd q12 (.arr 41 2 [.agg [.val (.int .u8 1), .val (.int .i64 m)]])) q13 = none := by rw [Heap.upd_ne _ _ n1312]; exact o13
  have o013 := own_none own12 o13'
  have sub13 := sub_new sub12 o013 (v := .arr 41 2 [.agg [.val (.int .u8 W.bed), .val (.int .i64 W.at_)]])
  have own13 := own_new own12 (x := .arr 41 2 [.agg [.val (.int .u8 W.bed), .val (.int .i64 W.at_)]]) o13'
  have h13 := upd_keep (v := .arr 41 2 [.agg [.val (.int .u8 W.bed), .val (.int .i64 W.at_)]]) o013 h12
  have w13 : ((O0.upd q12 (.arr 41 2 [.agg [.val (.int .u8 1), .val (.int .i64 m)]])).upd q13 (.arr 41 2 [.agg [.val (.int .u8 W.bed), .val (.int .i64 W.at_)]])) q13 = some (.arr 41 2 [.agg [.val (.int .u8 W.bed), .val (.int .i64 W.at_)]]) := Heap.upd_same _ _ _
  have n313 := ne_of f3 o13
  replace sub12 := (show Aside _ from sub12)
  replace own12 := (show Aside _ from own12)
  replace h12 := (show Aside _ from h12)
  replace sub13 := (show Aside _ from sub13)
  replace own13 := (show Aside _ from own13)
  replace h13 := (show Aside _ from h13)
  replace w13 := (show Aside _ from w13)
  replace o013 := (show Aside _ from o013)
  replace o13' := (show Aside _ from o13')
  by_cases he : ee = 0
  rotate_left
  · have ge : decide (ee = 0) = false := decide_eq_false he
    have hnil : stepTo F B r d (i + 1) = stepTo F B r d i := by rw [hsuc.out, hstA.out, if_neg he, List.append_nil]
    replace he := (show Aside _ from he)
    replace hnil := (show Aside _ from hnil)
    (repeat' first
    | simp (contextual := true) (maxSteps := 4000000) only [fwc, fwe, fww, reduceIte, ↓reduceIte, Nat.reduceAdd, Nat.reduceLeDiff, Nat.reduceEqDiff, Nat.reduceLT, Nat.reduceSub, reduceCtorEq, Int.reduceEq, Int.reduceLT, Int.reduceLE, Int.reduceNeg, Int.reduceToNat, Int.reduceAdd, Int.reduceSub, Nat.reduceMul, ilt_nat, part_cell, part_agg, wrap_succ, *]
    | (refine seqK_now ?_)
    | (refine retK_now ?_)
    | (refine retK_now' ?_)
    | (intro q hq)
    | (refine cond_intro (fun hc => ?_) (fun hc => ?_)))
    refine loopK_now (40 - (i + 1)) (by omega) ?_
    rw [hI.out]
    exact ⟨i + 1, s, _, by omega, rfl, sub13.out, h13.out, by rw [hnil.out]; exact own13.out, rfl⟩
  have ge : decide (ee = 0) = true := decide_eq_true he
  have hcat : stepTo F B r d (i + 1) = stepTo F B r d i ++ crossL d XL YL := by rw [hsuc.out, hstA.out, if_pos he]
  replace he := (show Aside _ from he)
  replace hcat := (show Aside _ from hcat)
  refine seq_go ?_
  refine seq_go ?_
  (repeat' first
    | simp (contextual := true) (maxSteps := 4000000) only [fwc, fwe, fww, reduceIte, ↓reduceIte, Nat.reduceAdd, Nat.reduceLeDiff, Nat.reduceEqDiff, Nat.reduceLT, Nat.reduceSub, reduceCtorEq, Int.reduceEq, Int.reduceLT, Int.reduceLE, Int.reduceNeg, Int.reduceToNat, Int.reduceAdd, Int.reduceSub, Nat.reduceMul, ilt_nat, part_cell, part_agg, *]
    | (refine retK_now ?_)
    | (refine retK_now' ?_)
    | (intro q hq)
    | (refine cond_intro (fun hc => ?_) (fun hc => ?_)))
  refine seqK_now ?_
  (repeat' first
    | simp (contextual := true) (maxSteps := 4000000) only [fwc, fwe, fww, reduceIte, ↓reduceIte, Nat.reduceAdd, Nat.reduceLeDiff, Nat.reduceEqDiff, Nat.reduceLT, Nat.reduceSub, reduceCtorEq, Int.reduceEq, Int.reduceLT, Int.reduceLE, Int.reduceNeg, Int.reduceToNat, Int.reduceAdd, Int.reduceSub, Nat.reduceMul, ilt_nat, part_cell, part_agg, *]
    | (refine retK_now ?_)
    | (refine retK_now' ?_)
    | (intro q hq)
    | (refine cond_intro (fun hc => ?_) (fun hc => ?_)))
  refine seqK_now ?_
  refine seq_go ?_
  (repeat' first
    | simp (contextual := true) (maxSteps := 4000000) only [fwc, fwe, fww, reduceIte, ↓reduceIte, Nat.reduceAdd, Nat.reduceLeDiff, Nat.reduceEqDiff, Nat.reduceLT, Nat.reduceSub, reduceCtorEq, Int.reduceEq, Int.reduceLT, Int.reduceLE, Int.reduceNeg, Int.reduceToNat, Int.reduceAdd, Int.reduceSub, Nat.reduceMul, ilt_nat, part_cell, part_agg, *]
    | (refine retK_now ?_)
    | (refine retK_now' ?_)
    | (intro q hq)
    | (refine cond_intro (fun hc => ?_) (fun hc => ?_)))
  refine hra.use ?_
  (repeat' first
    | simp (contextual := true) (maxSteps := 4000000) only [fwc, fwe, fww, reduceIte, ↓reduceIte, Nat.reduceAdd, Nat.reduceLeDiff, Nat.reduceEqDiff, Nat.reduceLT, Nat.reduceSub, reduceCtorEq, Int.reduceEq, Int.reduceLT, Int.reduceLE, Int.reduceNeg, Int.reduceToNat, Int.reduceAdd, Int.reduceSub, Nat.reduceMul, ilt_nat, part_cell, part_agg, *]
    | (refine retK_now ?_)
    | (refine retK_now' ?_)
    | (intro q hq)
    | (refine cond_intro (fun hc => ?_) (fun hc => ?_)))
  refine hro.use ?_
  (repeat' first
    | simp (contextual := true) (maxSteps := 4000000) only [fwc, fwe, fww, reduceIte, ↓reduceIte, Nat.reduceAdd, Nat.reduceLeDiff, Nat.reduceEqDiff, Nat.reduceLT, Nat.reduceSub, reduceCtorEq, Int.reduceEq, Int.reduceLT, Int.reduceLE, Int.reduceNeg, Int.reduceToNat, Int.reduceAdd, Int.reduceSub, Nat.reduceMul, ilt_nat, part_cell, part_agg, *]
    | (refine retK_now ?_)
    | (refine retK_now' ?_)
    | (intro q hq)
    | (refine cond_intro (fun hc => ?_) (fun hc => ?_)))
  refine seqK_now ?_
  have hML := stepTo_len hm4.out r d i
  obtain ⟨J, hJ⟩ := hideI (fun m e O' => ∃ (k : Nat) (s : AV) (O1 : Heap), k ≤ XL.length ∧ m = XL.length - k ∧ O.sub O1 ∧ O1 q3 = some (.arr 26 2 [.agg [f, b]]) ∧ O1 q13 = some (.arr 41 2 [.agg [.val (.int .u8 W.bed), .val (.int .i64 W.at_)]]) ∧ OwN 45 5 O1 O' s ((stepTo F B r d i ++ crossL d (XL.take k) YL).map Cr.av) ∧ e = env9k q3 q13 r d s ro i XL.length k)
  (repeat' first
    | simp (contextual := true) (maxSteps := 4000000) only [fwc, fwe, fww, reduceIte, ↓reduceIte, Nat.reduceAdd, Nat.reduceLeDiff, Nat.reduceEqDiff, Nat.reduceLT, Nat.reduceSub, reduceCtorEq, Int.reduceEq, Int.reduceLT, Int.reduceLE, Int.reduceNeg, Int.reduceToNat, Int.reduceAdd, Int.reduceSub, Nat.reduceMul, ilt_nat, part_cell, part_agg, *]
    | (refine retK_now ?_)
    | (refine retK_now' ?_)
    | (intro q hq)
    | (refine cond_intro (fun hc => ?_) (fun hc => ?_)))
  refine cmd_loop J XL.length (by
    rw [hJ.out]
    exact ⟨0, s, _, by omega, rfl, sub13.out, h13.out, w13.out, by rw [List.take_zero]; rw [show crossL d [] YL = [] from rfl, List.append_nil]; exact own13.out, rfl⟩) ?_
  clear hs own12 own13 h12 h13 w13 sub12 sub13 hq12 o12 o013 o13' o13 n1312 n1213 n313 n312 f3 h03 hO0 sc sst
  intro m' e O2 hh
  rw [hJ.out] at hh
  obtain ⟨k, s2, O1, hk4, rfl, hO1, h1, hw13, hs2, rfl⟩ := hh
  unfold env9k
  have f3 := hs2.at_ h1
  have f13 := hs2.at_ hw13
  have sc := hs2.cells
  have sst := hs2.stor
  replace hO1 := (show Aside _ from hO1)
  replace h1 := (show Aside _ from h1)
  replace hw13 := (show Aside _ from hw13)
  replace hs2 := (show Aside _ from hs2)
  by_cases hk : k < XL.length
  rotate_left
  · have e1 : decide (k < XL.length) = false := decide_eq_false hk
    have hke : k = XL.length := by omega
    replace hk := (show Aside _ from hk)
    rw [hke, List.take_length] at hs2
    replace hke := (show Aside _ from hke)
    (repeat' first
    | simp (contextual := true) (maxSteps := 4000000) only [fwc, fwe, fww, reduceIte, ↓reduceIte, Nat.reduceAdd, Nat.reduceLeDiff, Nat.reduceEqDiff, Nat.reduceLT, Nat.reduceSub, reduceCtorEq, Int.reduceEq, Int.reduceLT, Int.reduceLE, Int.reduceNeg, Int.reduceToNat, Int.reduceAdd, Int.reduceSub, Nat.reduceMul, ilt_nat, part_cell, part_agg, wrap_succ, *]
    | (refine seqK_now ?_)
    | (refine retK_now ?_)
    | (refine retK_now' ?_)
    | (intro q hq)
    | (refine cond_intro (fun hc => ?_) (fun hc => ?_)))
    refine loopK_now (40 - (i + 1)) (by omega) ?_
    rw [hI.out]
    refine ⟨i + 1, s2, O1, by omega, rfl, hO1.out, h1.out, ?_, rfl⟩
    rw [hcat.out]
    exact hs2.out
  have e1 : decide (k < XL.length) = true := decide_eq_true hk
  have hwk : k < 4611686018427387904 := by have := hox.out; omega
  have hia := IsL.ia hroL.out (i := k) (by rw [List.length_map]; exact hk)
  rw [List.getElem_map] at hia
  have htk : crossL d (XL.take (k + 1)) YL = crossL d (XL.take k) YL ++ YL.map (crs d XL[k]) := by
    unfold crossL
    rw [List.take_add_one, List.getElem?_eq_getElem hk, List.flatMap_append]
    simp
  have htl : (crossL d (XL.take k) YL).length ≤ 16 := by
    have h1 := cross_len d (XL.take k) YL hoy.out
    have h2 := List.length_take_le k XL
    have := hox.out
    omega
  generalize XL[k] = y at *
  rw [show y.av = .agg [.val (.int .u8 y.y), .val (.int .i64 y.n)] from rfl] at hia
  have hnext : stepTo F B r d i ++ crossL d (XL.take (k + 1)) YL = (stepTo F B r d i ++ crossL d (XL.take k) YL) ++ YL.map (crs d y) := by rw [htk, List.append_assoc]
  have hbl : (stepTo F B r d i ++ crossL d (XL.take k) YL).length ≤ 700 := by rw [List.length_append]; omega
  obtain ⟨base, hbase⟩ : ∃ L, stepTo F B r d i ++ crossL d (XL.take k) YL = L := ⟨_, rfl⟩
  rw [hbase] at hnext hbl hs2
  clear htk htl hbase hML
  replace hk := (show Aside _ from hk)
  replace hnext := (show Aside _ from hnext)
  replace hbl := (show Aside _ from hbl)
  refine seq_go ?_
  (repeat' first
    | simp (contextual := true) (maxSteps := 4000000) only [fwc, fwe, fww, reduceIte, ↓reduceIte, Nat.reduceAdd, Nat.reduceLeDiff, Nat.reduceEqDiff, Nat.reduceLT, Nat.reduceSub, reduceCtorEq, Int.reduceEq, Int.reduceLT, Int.reduceLE, Int.reduceNeg, Int.reduceToNat, Int.reduceAdd, Int.reduceSub, Nat.reduceMul, ilt_nat, part_cell, part_agg, *]
    | (refine retK_now ?_)
    | (refine retK_now' ?_)
    | (intro q hq)
    | (refine cond_intro (fun hc => ?_) (fun hc => ?_)))
  refine seqK_now ?_
  refine seq_go ?_
  (repeat' first
    | simp (contextual := true) (maxSteps := 4000000) only [fwc, fwe, fww, reduceIte, ↓reduceIte, Nat.reduceAdd, Nat.reduceLeDiff, Nat.reduceEqDiff, Nat.reduceLT, Nat.reduceSub, reduceCtorEq, Int.reduceEq, Int.reduceLT, Int.reduceLE, Int.reduceNeg, Int.reduceToNat, Int.reduceAdd, Int.reduceSub, Nat.reduceMul, ilt_nat, part_cell, part_agg, *]
    | (refine retK_now ?_)
    | (refine retK_now' ?_)
    | (intro q hq)
    | (refine cond_intro (fun hc => ?_) (fun hc => ?_)))
  refine seqK_now ?_
  refine seq_go ?_
  refine seq_go ?_
  (repeat' first
    | simp (contextual := true) (maxSteps := 4000000) only [fwc, fwe, fww, reduceIte, ↓reduceIte, Nat.reduceAdd, Nat.reduceLeDiff, Nat.reduceEqDiff, Nat.reduceLT, Nat.reduceSub, reduceCtorEq, Int.reduceEq, Int.reduceLT, Int.reduceLE, Int.reduceNeg, Int.reduceToNat, Int.reduceAdd, Int.reduceSub, Nat.reduceMul, ilt_nat, part_cell, part_agg, *]
    | (refine retK_now ?_)
    | (refine retK_now' ?_)
    | (intro q hq)
    | (refine cond_intro (fun hc => ?_) (fun hc => ?_)))
  revert q
  intro q16 hq16
  refine seqK_now ?_
  have o16 := own_none hs2.out hq16
  have sub16 := sub_new hO1.out o16 (v := .arr 38 2 [.agg [.val (.int .u8 y.y), .val (.int .i64 y.n)]])
  have own16 := own_new hs2.out (x := .arr 38 2 [.agg [.val (.int .u8 y.y), .val (.int .i64 y.n)]]) hq16
  have h16 := upd_keep (v := .arr 38 2 [.agg [.val (.int .u8 y.y), .val (.int .i64 y.n)]]) o16 h1.out
  have w16 : (O1.upd q16 (.arr 38 2 [.agg [.val (.int .u8 y.y), .val (.int .i64 y.n)]])) q16 = some (.arr 38 2 [.agg [.val (.int .u8 y.y), .val (.int .i64 y.n)]]) := Heap.upd_same _ _ _
  have v16 := upd_keep (v := .arr 38 2 [.agg [.val (.int .u8 y.y), .val (.int .i64 y.n)]]) o16 hw13.out
  have n316 := ne_of f3 hq16
  have n1316 := ne_of f13 hq16
  replace sub16 := (show Aside _ from sub16)
  replace own16 := (show Aside _ from own16)
  replace h16 := (show Aside _ from h16)
  replace w16 := (show Aside _ from w16)
  replace v16 := (show Aside _ from v16)
  replace o16 := (show Aside _ from o16)
  refine seq_go ?_
  (repeat' first
    | simp (contextual := true) (maxSteps := 4000000) only [fwc, fwe, fww, reduceIte, ↓reduceIte, Nat.reduceAdd, Nat.reduceLeDiff, Nat.reduceEqDiff, Nat.reduceLT, Nat.reduceSub, reduceCtorEq, Int.reduceEq, Int.reduceLT, Int.reduceLE, Int.reduceNeg, Int.reduceToNat, Int.reduceAdd, Int.reduceSub, Nat.reduceMul, ilt_nat, part_cell, part_agg, *]
    | (refine retK_now ?_)
    | (refine retK_now' ?_)
    | (intro q hq)
    | (refine cond_intro (fun hc => ?_) (fun hc => ?_)))
  refine hrb.use ?_
  (repeat' first
    | simp (contextual := true) (maxSteps := 4000000) only [fwc, fwe, fww, reduceIte, ↓reduceIte, Nat.reduceAdd, Nat.reduceLeDiff, Nat.reduceEqDiff, Nat.reduceLT, Nat.reduceSub, reduceCtorEq, Int.reduceEq, Int.reduceLT, Int.reduceLE, Int.reduceNeg, Int.reduceToNat, Int.reduceAdd, Int.reduceSub, Nat.reduceMul, ilt_nat, part_cell, part_agg, *]
    | (refine retK_now ?_)
    | (refine retK_now' ?_)
    | (intro q hq)
    | (refine cond_intro (fun hc => ?_) (fun hc => ?_)))
  refine hrp.use ?_
  (repeat' first
    | simp (contextual := true) (maxSteps := 4000000) only [fwc, fwe, fww, reduceIte, ↓reduceIte, Nat.reduceAdd, Nat.reduceLeDiff, Nat.reduceEqDiff, Nat.reduceLT, Nat.reduceSub, reduceCtorEq, Int.reduceEq, Int.reduceLT, Int.reduceLE, Int.reduceNeg, Int.reduceToNat, Int.reduceAdd, Int.reduceSub, Nat.reduceMul, ilt_nat, part_cell, part_agg, *]
    | (refine retK_now ?_)
    | (refine retK_now' ?_)
    | (intro q hq)
    | (refine cond_intro (fun hc => ?_) (fun hc => ?_)))
  refine seqK_now ?_
  obtain ⟨M, hM⟩ := hideI (fun m e O' => ∃ (j : Nat) (s : AV) (O1 : Heap), j ≤ YL.length ∧ m = YL.length - j ∧ O.sub O1 ∧ O1 q3 = some (.arr 26 2 [.agg [f, b]]) ∧ O1 q13 = some (.arr 41 2 [.agg [.val (.int .u8 W.bed), .val (.int .i64 W.at_)]]) ∧ O1 q16 = some (.arr 38 2 [.agg [.val (.int .u8 y.y), .val (.int .i64 y.n)]]) ∧ OwN 45 5 O1 O' s ((base ++ (YL.take j).map (crs d y)).map Cr.av) ∧ e = env9l q3 q13 q16 r d s ro rp i XL.length k YL.length j)
  (repeat' first
    | simp (contextual := true) (maxSteps := 4000000) only [fwc, fwe, fww, reduceIte, ↓reduceIte, Nat.reduceAdd, Nat.reduceLeDiff, Nat.reduceEqDiff, Nat.reduceLT, Nat.reduceSub, reduceCtorEq, Int.reduceEq, Int.reduceLT, Int.reduceLE, Int.reduceNeg, Int.reduceToNat, Int.reduceAdd, Int.reduceSub, Nat.reduceMul, ilt_nat, part_cell, part_agg, *]
    | (refine retK_now ?_)
    | (refine retK_now' ?_)
    | (intro q hq)
    | (refine cond_intro (fun hc => ?_) (fun hc => ?_)))
  refine cmd_loop M YL.length (by
    rw [hM.out]
    exact ⟨0, s2, _, by omega, rfl, sub16.out, h16.out, v16.out, w16.out, by rw [List.take_zero, List.map_nil, List.append_nil]; exact own16.out, rfl⟩) ?_
  clear hs2 own16 h16 v16 w16 sub16 hq16 o16 n316 n1316 f3 f13 h1 hw13 hO1 sc sst
  intro m'' e O3 hh
  rw [hM.out] at hh
  obtain ⟨j, s3, O4, hj4, rfl, hO4, h4, hw4, hx4, hs3, rfl⟩ := hh
  unfold env9l
  have f3 := hs3.at_ h4
  have f13 := hs3.at_ hw4
  have f16 := hs3.at_ hx4
  have sc := hs3.cells
  have sst := hs3.stor
  replace hO4 := (show Aside _ from hO4)
  replace h4 := (show Aside _ from h4)
  replace hw4 := (show Aside _ from hw4)
  replace hx4 := (show Aside _ from hx4)
  replace hs3 := (show Aside _ from hs3)
  by_cases hj : j < YL.length
  rotate_left
  · have e2 : decide (j < YL.length) = false := decide_eq_false hj
    have hje : j = YL.length := by omega
    replace hj := (show Aside _ from hj)
    rw [hje, List.take_length] at hs3
    replace hje := (show Aside _ from hje)
    (repeat' first
    | simp (contextual := true) (maxSteps := 4000000) only [fwc, fwe, fww, reduceIte, ↓reduceIte, Nat.reduceAdd, Nat.reduceLeDiff, Nat.reduceEqDiff, Nat.reduceLT, Nat.reduceSub, reduceCtorEq, Int.reduceEq, Int.reduceLT, Int.reduceLE, Int.reduceNeg, Int.reduceToNat, Int.reduceAdd, Int.reduceSub, Nat.reduceMul, ilt_nat, part_cell, part_agg, wrap_succ, *]
    | (refine seqK_now ?_)
    | (refine retK_now ?_)
    | (refine retK_now' ?_)
    | (intro q hq)
    | (refine cond_intro (fun hc => ?_) (fun hc => ?_)))
    refine loopK_now (XL.length - (k + 1)) (by have := hk.out; omega) ?_
    rw [hJ.out]
    refine ⟨k + 1, s3, O4, by have := hk.out; omega, rfl, hO4.out, h4.out, hw4.out, ?_, rfl⟩
    rw [hnext.out]
    exact hs3.out
  have e2 : decide (j < YL.length) = true := decide_eq_true hj
  have hwj : j < 4611686018427387904 := by have := hoy.out; omega
  have hja := IsL.ia hrpL.out (i := j) (by rw [List.length_map]; exact hj)
  rw [List.getElem_map] at hja
  have hnj : base ++ (YL.take (j + 1)).map (crs d y) = (base ++ (YL.take j).map (crs d y)) ++ [crs d y YL[j]] := by
    rw [List.take_add_one, List.getElem?_eq_getElem hj, List.map_append, List.append_assoc]
    rfl
  have hjl : (base ++ (YL.take j).map (crs d y)).length ≤ 800 := by
    have h2 := List.length_take_le j YL
    have := hoy.out
    have := hbl.out
    rw [List.length_append, List.length_map]
    omega
  generalize YL[j] = z at *
  rw [show z.av = .agg [.val (.int .u8 z.y), .val (.int .i64 z.n)] from rfl] at hja
  replace hj := (show Aside _ from hj)
  replace hnj := (show Aside _ from hnj)
  replace hjl := (show Aside _ from hjl)
  refine seq_go ?_
  (repeat' first
    | simp (contextual := true) (maxSteps := 4000000) only [fwc, fwe, fww, reduceIte, ↓reduceIte, Nat.reduceAdd, Nat.reduceLeDiff, Nat.reduceEqDiff, Nat.reduceLT, Nat.reduceSub, reduceCtorEq, Int.reduceEq, Int.reduceLT, Int.reduceLE, Int.reduceNeg, Int.reduceToNat, Int.reduceAdd, Int.reduceSub, Nat.reduceMul, ilt_nat, part_cell, part_agg, *]
    | (refine retK_now ?_)
    | (refine retK_now' ?_)
    | (intro q hq)
    | (refine cond_intro (fun hc => ?_) (fun hc => ?_)))
  refine seqK_now ?_
  refine seq_go ?_
  (repeat' first
    | simp (contextual := true) (maxSteps := 4000000) only [fwc, fwe, fww, reduceIte, ↓reduceIte, Nat.reduceAdd, Nat.reduceLeDiff, Nat.reduceEqDiff, Nat.reduceLT, Nat.reduceSub, reduceCtorEq, Int.reduceEq, Int.reduceLT, Int.reduceLE, Int.reduceNeg, Int.reduceToNat, Int.reduceAdd, Int.reduceSub, Nat.reduceMul, ilt_nat, part_cell, part_agg, *]
    | (refine retK_now ?_)
    | (refine retK_now' ?_)
    | (intro q hq)
    | (refine cond_intro (fun hc => ?_) (fun hc => ?_)))
  refine seqK_now ?_
  refine seq_go ?_
  refine seq_go ?_
  (repeat' first
    | simp (contextual := true) (maxSteps := 4000000) only [fwc, fwe, fww, reduceIte, ↓reduceIte, Nat.reduceAdd, Nat.reduceLeDiff, Nat.reduceEqDiff, Nat.reduceLT, Nat.reduceSub, reduceCtorEq, Int.reduceEq, Int.reduceLT, Int.reduceLE, Int.reduceNeg, Int.reduceToNat, Int.reduceAdd, Int.reduceSub, Nat.reduceMul, ilt_nat, part_cell, part_agg, *]
    | (refine retK_now ?_)
    | (refine retK_now' ?_)
    | (intro q hq)
    | (refine cond_intro (fun hc => ?_) (fun hc => ?_)))
  revert q
  intro q18 hq18
  refine seqK_now ?_
  have o18 := own_none hs3.out hq18
  have sub18 := sub_new hO4.out o18 (v := .arr 38 2 [.agg [.val (.int .u8 z.y), .val (.int .i64 z.n)]])
  have own18 := own_new hs3.out (x := .arr 38 2 [.agg [.val (.int .u8 z.y), .val (.int .i64 z.n)]]) hq18
  have h18 := upd_keep (v := .arr 38 2 [.agg [.val (.int .u8 z.y), .val (.int .i64 z.n)]]) o18 h4.out
  have v18 := upd_keep (v := .arr 38 2 [.agg [.val (.int .u8 z.y), .val (.int .i64 z.n)]]) o18 hw4.out
  have w18 := upd_keep (v := .arr 38 2 [.agg [.val (.int .u8 z.y), .val (.int .i64 z.n)]]) o18 hx4.out
  have n318 := ne_of f3 hq18
  have n1318 := ne_of f13 hq18
  have n1618 := ne_of f16 hq18
  replace sub18 := (show Aside _ from sub18)
  replace own18 := (show Aside _ from own18)
  replace h18 := (show Aside _ from h18)
  replace w18 := (show Aside _ from w18)
  replace v18 := (show Aside _ from v18)
  replace o18 := (show Aside _ from o18)
  by_cases hd1 : d = 1
  · have g1 : decide (d = 1) = true := decide_eq_true hd1
    have hcr : crs d y z = ⟨y, z, -1⟩ := if_pos hd1
    replace hd1 := (show Aside _ from hd1)
    replace hcr := (show Aside _ from hcr)
    (repeat' first
    | simp (contextual := true) (maxSteps := 4000000) only [fwc, fwe, fww, reduceIte, ↓reduceIte, Nat.reduceAdd, Nat.reduceLeDiff, Nat.reduceEqDiff, Nat.reduceLT, Nat.reduceSub, reduceCtorEq, Int.reduceEq, Int.reduceLT, Int.reduceLE, Int.reduceNeg, Int.reduceToNat, Int.reduceAdd, Int.reduceSub, Nat.reduceMul, ilt_nat, part_cell, part_agg, *]
    | (refine retK_now ?_)
    | (refine retK_now' ?_)
    | (intro q hq)
    | (refine cond_intro (fun hc => ?_) (fun hc => ?_)))
    refine seqK_now ?_
    (repeat' first
    | simp (contextual := true) (maxSteps := 4000000) only [fwc, fwe, fww, reduceIte, ↓reduceIte, Nat.reduceAdd, Nat.reduceLeDiff, Nat.reduceEqDiff, Nat.reduceLT, Nat.reduceSub, reduceCtorEq, Int.reduceEq, Int.reduceLT, Int.reduceLE, Int.reduceNeg, Int.reduceToNat, Int.reduceAdd, Int.reduceSub, Nat.reduceMul, ilt_nat, part_cell, part_agg, *]
    | (refine retK_now ?_)
    | (refine retK_now' ?_)
    | (intro q hq)
    | (refine cond_intro (fun hc => ?_) (fun hc => ?_)))
    refine own_app (bytes := 40) own18.out (X := [Cr.av ⟨y, z, -1⟩]) (.inr ⟨true, rfl⟩) (fits_of (by have := hjl.out; simp only [List.length_append, List.length_map, List.length_cons, List.length_nil] at this ⊢; omega) (by omega)) fun s5 O5 h5 => ?_
    have sc5 := h5.cells
    have sst5 := h5.stor
    replace h5 := (show Aside _ from h5)
    (repeat' first
    | simp (contextual := true) (maxSteps := 4000000) only [fwc, fwe, fww, reduceIte, ↓reduceIte, Nat.reduceAdd, Nat.reduceLeDiff, Nat.reduceEqDiff, Nat.reduceLT, Nat.reduceSub, reduceCtorEq, Int.reduceEq, Int.reduceLT, Int.reduceLE, Int.reduceNeg, Int.reduceToNat, Int.reduceAdd, Int.reduceSub, Nat.reduceMul, ilt_nat, part_cell, part_agg, wrap_succ, *]
    | (refine seqK_now ?_)
    | (refine retK_now ?_)
    | (refine retK_now' ?_)
    | (intro q hq)
    | (refine cond_intro (fun hc => ?_) (fun hc => ?_)))
    refine loopK_now (YL.length - (j + 1)) (by have := hj.out; omega) ?_
    rw [hM.out]
    refine ⟨j + 1, s5, _, by have := hj.out; omega, rfl, sub18.out, h18.out, v18.out, w18.out, ?_, rfl⟩
    rw [hnj.out, hcr.out, List.map_append]
    exact h5.out
  · have g1 : decide (d = 1) = false := decide_eq_false hd1
    have hcr : crs d y z = ⟨z, y, 1⟩ := if_neg hd1
    replace hd1 := (show Aside _ from hd1)
    replace hcr := (show Aside _ from hcr)
    (repeat' first
    | simp (contextual := true) (maxSteps := 4000000) only [fwc, fwe, fww, reduceIte, ↓reduceIte, Nat.reduceAdd, Nat.reduceLeDiff, Nat.reduceEqDiff, Nat.reduceLT, Nat.reduceSub, reduceCtorEq, Int.reduceEq, Int.reduceLT, Int.reduceLE, Int.reduceNeg, Int.reduceToNat, Int.reduceAdd, Int.reduceSub, Nat.reduceMul, ilt_nat, part_cell, part_agg, *]
    | (refine retK_now ?_)
    | (refine retK_now' ?_)
    | (intro q hq)
    | (refine cond_intro (fun hc => ?_) (fun hc => ?_)))
    refine seqK_now ?_
    (repeat' first
    | simp (contextual := true) (maxSteps := 4000000) only [fwc, fwe, fww, reduceIte, ↓reduceIte, Nat.reduceAdd, Nat.reduceLeDiff, Nat.reduceEqDiff, Nat.reduceLT, Nat.reduceSub, reduceCtorEq, Int.reduceEq, Int.reduceLT, Int.reduceLE, Int.reduceNeg, Int.reduceToNat, Int.reduceAdd, Int.reduceSub, Nat.reduceMul, ilt_nat, part_cell, part_agg, *]
    | (refine retK_now ?_)
    | (refine retK_now' ?_)
    | (intro q hq)
    | (refine cond_intro (fun hc => ?_) (fun hc => ?_)))
    refine own_app (bytes := 40) own18.out (X := [Cr.av ⟨z, y, 1⟩]) (.inr ⟨true, rfl⟩) (fits_of (by have := hjl.out; simp only [List.length_append, List.length_map, List.length_cons, List.length_nil] at this ⊢; omega) (by omega)) fun s5 O5 h5 => ?_
    have sc5 := h5.cells
    have sst5 := h5.stor
    replace h5 := (show Aside _ from h5)
    (repeat' first
    | simp (contextual := true) (maxSteps := 4000000) only [fwc, fwe, fww, reduceIte, ↓reduceIte, Nat.reduceAdd, Nat.reduceLeDiff, Nat.reduceEqDiff, Nat.reduceLT, Nat.reduceSub, reduceCtorEq, Int.reduceEq, Int.reduceLT, Int.reduceLE, Int.reduceNeg, Int.reduceToNat, Int.reduceAdd, Int.reduceSub, Nat.reduceMul, ilt_nat, part_cell, part_agg, wrap_succ, *]
    | (refine seqK_now ?_)
    | (refine retK_now ?_)
    | (refine retK_now' ?_)
    | (intro q hq)
    | (refine cond_intro (fun hc => ?_) (fun hc => ?_)))
    refine loopK_now (YL.length - (j + 1)) (by have := hj.out; omega) ?_
    rw [hM.out]
    refine ⟨j + 1, s5, _, by have := hj.out; omega, rfl, sub18.out, h18.out, v18.out, w18.out, ?_, rfl⟩
    rw [hnj.out, hcr.out, List.map_append]
    exact h5.out
end Go.Proofs.Ytlpngkeegjickab

namespace Go.Proofs.Ytlpngkeegjickab
open Go.Ab

/-! The plain law of the step back. -/
theorem at_front {k r : Int} (hr : rackOK r = true) : (1 ≤ k ∧ k ≤ 40 → atE (4 * k + 2) r = 0 ∧ atN (4 * k + 2) r = ⟨0, k⟩) ∧ (¬ (1 ≤ k ∧ k ≤ 40) → atE (4 * k + 2) r ≠ 0) := by
  have hno : ∀ i, i < 80 → spotL (needleL i) r = 4 * k + 2 → i < 40 ∧ (i : Int) + 1 = k := fun i hi he => by
    by_cases h40 : i < 40
    · rw [spot_lo r h40] at he
      exact ⟨h40, by omega⟩
    · rw [spot_hi r (by omega) hi] at he
      omega
  constructor
  · intro hk
    have hi : k.toNat - 1 < 80 := by omega
    have hs : atSpot (4 * k + 2) r = some (k.toNat - 1) := at_some hi (fun j hj he => by
      have := hno j (by omega) he
      omega) (by rw [spot_lo r (by omega)]; omega)
    unfold atE atN
    rw [if_pos hr, if_pos hr, hs]
    refine ⟨rfl, ?_⟩
    have := needle_lo (i := k.toNat - 1) (by omega)
    rw [show 40 * 0 + (k.toNat - 1) = k.toNat - 1 by omega] at this
    simp only
    rw [this]
    congr 1
    omega
  · intro hk
    have hs : atSpot (4 * k + 2) r = none := at_none fun i hi he => hk (by have := hno i hi he; omega)
    unfold atE
    rw [if_pos hr, hs]
    decide
def sw (c : Cr) : Cr := ⟨c.b, c.a, -c.s⟩
theorem cross_sw (xs ys : List Id) : (crossL 1 xs ys).map sw = (crossL 0 xs.reverse ys.reverse).reverse := by
  unfold crossL
  rw [List.map_flatMap]
  induction xs with
  | nil => rfl
  | cons x xs ih =>
    rw [List.flatMap_cons, ih, List.reverse_cons, List.flatMap_append, List.reverse_append]
    congr 1
    simp only [List.flatMap_cons, List.flatMap_nil, List.append_nil, List.map_map, List.map_reverse, List.reverse_reverse]
    rfl
theorem step_sw (F B : List (List Id)) (r : Int) (hr : rackOK r = true) (hr1 : rackOK (r + 1) = true) (i : Nat) (hi : i < 40) : (stepAt F B r 1 i).map sw = (stepAt F B (r + 1) 0 (39 - i)).reverse := by
  have n1 : stepN 1 i = ⟨1, 40 - (i : Int)⟩ := rfl
  have n0 : stepN 0 (39 - i) = ⟨1, 40 - (i : Int)⟩ := by unfold stepN; rw [if_neg (by decide)]; congr 1; omega
  have a1 : stepA r 1 i = 4 * (40 - (i : Int) + r) + 2 := by unfold stepA spotL; rw [n1, if_pos rfl]; rfl
  have a0 : stepA (r + 1) 0 (39 - i) = 4 * (40 - (i : Int) + r) + 2 := by
    unfold stepA spotL; rw [n0, if_pos rfl]
    show 4 * (40 - (i : Int) + (r + 1)) + 2 * -1 = _
    omega
  unfold stepAt
  rw [a1, a0, n1, n0]
  obtain ⟨h1, h2⟩ := at_front (k := 40 - (i : Int) + r) hr
  obtain ⟨h3, h4⟩ := at_front (k := 40 - (i : Int) + r) hr1
  by_cases hk : 1 ≤ 40 - (i : Int) + r ∧ 40 - (i : Int) + r ≤ 40
  · obtain ⟨e1, w1⟩ := h1 hk
    obtain ⟨e2, w2⟩ := h3 hk
    rw [if_pos e1, if_pos e2, w1, w2, cross_sw]
    have o1 : ordL (1 - 1) (atL F B ⟨1, 40 - (i : Int)⟩) = (atL F B ⟨1, 40 - (i : Int)⟩).reverse := rfl
    have o2 : ordL (1 - 0) (atL F B ⟨1, 40 - (i : Int)⟩) = atL F B ⟨1, 40 - (i : Int)⟩ := rfl
    have o3 : ordL 1 (atL F B ⟨0, 40 - (i : Int) + r⟩) = atL F B ⟨0, 40 - (i : Int) + r⟩ := rfl
    have o4 : ordL 0 (atL F B ⟨0, 40 - (i : Int) + r⟩) = (atL F B ⟨0, 40 - (i : Int) + r⟩).reverse := rfl
    rw [o1, o2, o3, o4, List.reverse_reverse]
  · rw [if_neg (h2 hk), if_neg (h4 hk)]
    rfl
theorem flat_rev {α : Type} (f g : Nat → List α) : ∀ n m, (∀ i, i < n → f i = (g (m - i)).reverse) → n ≤ m + 1 → (List.range n).flatMap f = ((List.range' (m + 1 - n) n).flatMap g).reverse
  | 0, _, _, _ => rfl
  | n + 1, m, h, hm => by
    have e : ([n] : List Nat).flatMap f = f n := by simp
    rw [List.range_succ, List.flatMap_append, e, flat_rev f g n m (fun i hi => h i (by omega)) (by omega), List.range'_succ, List.flatMap_cons, List.reverse_append]
    rw [show m + 1 - (n + 1) + 1 = m + 1 - n by omega]
    congr 1
    rw [h n (by omega), show m - n = m + 1 - (n + 1) by omega]
/-- The step back has the same crossings, from the last to the first. -/
theorem step_back (F B : List (List Id)) (r : Int) (hr : rackOK r = true) (hr1 : rackOK (r + 1) = true) : (stepTo F B r 1 40).map sw = (stepTo F B (r + 1) 0 40).reverse := by
  unfold stepTo
  rw [List.map_flatMap, flat_rev (fun i => (stepAt F B r 1 i).map sw) (stepAt F B (r + 1) 0) 40 39 (fun i hi => step_sw F B r hr hr1 i hi) (by omega)]
  rw [List.range_eq_range']

def pb (p : Ps) : Ps := ⟨p.id, p.f, if p.d = 1 then 0 else 1⟩
theorem meet_one (F B : List (List Id)) (r pl : Int) (hpl : pl % 2 = 1) (i : Nat) : (meetAt F B r 1 pl i).map pb = (meetAt F B (r + 1) 0 pl i).reverse ∧ (meetAt F B r 1 pl i ≠ [] → (pl / 4 : Int) = (i : Int) + 1 + r) := by
  have s1 : spotL ⟨1, ((i + 1 : Nat) : Int)⟩ r = 4 * ((i : Int) + 1 + r) := by unfold spotL; rw [if_pos rfl]; simp only; omega
  have s0 : spotL ⟨1, ((i + 1 : Nat) : Int)⟩ (r + 1) = 4 * ((i : Int) + 1 + r) + 4 := by unfold spotL; rw [if_pos rfl]; simp only; omega
  have h1 : shL 1 = 1 := rfl
  have h0 : shL 0 = -1 := rfl
  unfold meetAt
  rw [s1, s0, h1, h0]
  obtain ⟨a, hgen⟩ : ∃ a, 4 * ((i : Int) + 1 + r) = a := ⟨_, rfl⟩
  rw [hgen]
  have ha : a % 4 = 0 ∧ a / 4 = (i : Int) + 1 + r := by omega
  rw [if_neg (show ¬ a + 4 * 1 < a by omega), if_pos (show a < a + 4 * 1 by omega), if_pos (show a + 4 + 4 * -1 < a + 4 by omega), if_neg (show ¬ a + 4 < a + 4 + 4 * -1 by omega)]
  by_cases hc : pl < a ∨ a + 4 < pl
  · rw [if_pos (by omega), if_pos (by omega)]
    exact ⟨rfl, fun h => absurd rfl h⟩
  · rw [if_neg (by omega), if_neg (by omega)]
    refine ⟨?_, fun _ => by omega⟩
    have o1 : ordL (1 - 1) (atL F B ⟨1, ((i + 1 : Nat) : Int)⟩) = (atL F B ⟨1, ((i + 1 : Nat) : Int)⟩).reverse := rfl
    have o2 : ordL (1 - 0) (atL F B ⟨1, ((i + 1 : Nat) : Int)⟩) = atL F B ⟨1, ((i + 1 : Nat) : Int)⟩ := rfl
    rw [o1, o2, List.map_map, List.map_reverse]
    rfl
theorem meet_back (F B : List (List Id)) (r pl : Int) (hpl : pl % 2 = 1) : ((meetTo F B r 1 pl 40).map pb).reverse = meetTo F B (r + 1) 0 pl 40 := by
  have key : ∀ n, ((meetTo F B r 1 pl n).map pb).reverse = meetTo F B (r + 1) 0 pl n ∧ (meetTo F B r 1 pl n ≠ [] → (pl / 4 : Int) < (n : Int) + 1 + r) := by
    intro n
    induction n with
    | zero => exact ⟨rfl, fun h => absurd rfl h⟩
    | succ n ih =>
      obtain ⟨ih1, ih2⟩ := ih
      obtain ⟨k1, k2⟩ := meet_one F B r pl hpl n
      rw [meetTo_succ, meetTo_succ, ← ih1]
      have k3 : meetAt F B (r + 1) 0 pl n = ((meetAt F B r 1 pl n).map pb).reverse := by rw [k1, List.reverse_reverse]
      rw [k3]
      by_cases h1 : meetTo F B r 1 pl n = []
      · rw [h1]
        refine ⟨by simp, fun h => ?_⟩
        have := k2 (by simpa using h)
        omega
      · have h2 : meetAt F B r 1 pl n = [] := Classical.byContradiction fun h => by
          have := k2 h
          have := ih2 h1
          omega
        rw [h2]
        refine ⟨by simp, fun _ => ?_⟩
        have := ih2 h1
        omega
  exact (key 40).1
end Go.Proofs.Ytlpngkeegjickab

namespace Go.Proofs.Ytlpngkeegjickab
open Go.Ab
attribute [local irreducible] WeakR WeakE CallA YieldA

theorem back_ok (p : Ps) : PureA Try.prog 39 [p.av] (pb p).av := by
  intro O
  rw [show p.av = .agg [.val (.int .u8 p.id.y), .val (.int .i64 p.id.n), .val (.bool p.f), .val (.int .u8 p.d)] from rfl]
  by_cases hd : p.d = 1
  · have e1 : decide (p.d = 1) = true := decide_eq_true hd
    have hb : (pb p).av = .agg [.val (.int .u8 p.id.y), .val (.int .i64 p.id.n), .val (.bool p.f), .val (.int .u8 0)] := by unfold pb Ps.av; simp only [if_pos hd]
    rw [hb]
    replace hd := (show Aside _ from hd)
    replace hb := (show Aside _ from hb)
    refine k39.call mix ?_
    unfold c39
    (repeat' first
    | simp (contextual := true) (maxSteps := 4000000) only [fwc, fwe, fww, reduceIte, ↓reduceIte, Nat.reduceAdd, Nat.reduceLeDiff, Nat.reduceEqDiff, Nat.reduceLT, Nat.reduceSub, reduceCtorEq, Int.reduceEq, Int.reduceLT, Int.reduceLE, Int.reduceNeg, Int.reduceToNat, Int.reduceAdd, Int.reduceSub, Nat.reduceMul, part_cell, part_agg, *]
    | (refine seqK_now ?_)
    | (refine retK_now ?_)
    | (refine retK_now' ?_)
    | (intro q hq)
    | (refine cond_intro (fun hc => ?_) (fun hc => ?_)))
    refine WeakR.pure (by repeat (first | exact Heap.sub_refl _ | refine sub_upd (by simp only [*]) ?_)) ?_
    rfl
  · have e1 : decide (p.d = 1) = false := decide_eq_false hd
    have hb : (pb p).av = .agg [.val (.int .u8 p.id.y), .val (.int .i64 p.id.n), .val (.bool p.f), .val (.int .u8 1)] := by unfold pb Ps.av; simp only [if_neg hd]
    rw [hb]
    replace hd := (show Aside _ from hd)
    replace hb := (show Aside _ from hb)
    refine k39.call mix ?_
    unfold c39
    (repeat' first
    | simp (contextual := true) (maxSteps := 4000000) only [fwc, fwe, fww, reduceIte, ↓reduceIte, Nat.reduceAdd, Nat.reduceLeDiff, Nat.reduceEqDiff, Nat.reduceLT, Nat.reduceSub, reduceCtorEq, Int.reduceEq, Int.reduceLT, Int.reduceLE, Int.reduceNeg, Int.reduceToNat, Int.reduceAdd, Int.reduceSub, Nat.reduceMul, part_cell, part_agg, *]
    | (refine seqK_now ?_)
    | (refine retK_now ?_)
    | (refine retK_now' ?_)
    | (intro q hq)
    | (refine cond_intro (fun hc => ?_) (fun hc => ?_)))
    refine WeakR.pure (by repeat (first | exact Heap.sub_refl _ | refine sub_upd (by simp only [*]) ?_)) ?_
    rfl

def zP : AV := .agg [.val (.int .u8 0), .val (.int .i64 0), .val (.bool false), .val (.int .u8 0)]
def elI (L : List Ps) (i : Nat) : List AV := List.replicate (L.length - i) zP ++ (((L.take i).map pb).reverse).map Ps.av
theorem elI_len (L : List Ps) (i : Nat) (h : i ≤ L.length) : (elI L i).length = L.length := by unfold elI; simp; omega
theorem elI_set (L : List Ps) (i : Nat) (h : i < L.length) : (elI L i).set (L.length - 1 - i) (pb L[i]).av = elI L (i + 1) := by
  unfold elI
  have e1 : L.length - i = (L.length - 1 - i) + 1 := by omega
  have e2 : L.length - (i + 1) = L.length - 1 - i := by omega
  have e3 : L.take (i + 1) = L.take i ++ [L[i]] := by rw [List.take_add_one, List.getElem?_eq_getElem h]; rfl
  rw [e2, e3, e1, List.replicate_succ', List.append_assoc, List.set_append_right _ _ (by simp)]
  simp only [List.map_append, List.map_cons, List.map_nil, List.reverse_append, List.reverse_cons, List.reverse_nil, List.nil_append, List.cons_append, List.length_replicate, Nat.sub_self, List.set_cons_zero]
theorem elI_get (L : List Ps) (i : Nat) (h : i < L.length) : (elI L i)[L.length - 1 - i]? = some zP := by
  unfold elI
  rw [List.getElem?_append_left (by simp; omega), List.getElem?_replicate, if_pos (by omega)]
theorem elI_end (L : List Ps) : elI L L.length = ((L.map pb).reverse).map Ps.av := by
  unfold elI
  rw [Nat.sub_self, List.replicate_zero, List.nil_append, List.take_length]
theorem sub_updid {O A : Heap} {id : Nat} {y : AObj} (h : O.sub (A.del id)) : O.sub ((A.upd id y).del id) := fun j o hj => by
  have := h j o hj
  rw [Heap.del_apply] at this ⊢
  by_cases hji : j = id
  · rw [if_pos hji] at this; cases this
  · rw [if_neg hji] at this ⊢
    rw [Heap.upd_ne _ _ hji]
    exact this
theorem none_del {O A : Heap} {id q : Nat} (h : O.sub (A.del id)) (hq : A q = none) : O q = none := by
  cases hx : O q with
  | none => rfl
  | some o =>
    have := h q o hx
    rw [Heap.del_apply] at this
    split at this
    · cases this
    · rw [hq] at this; cases this
def env14i (s : AV) (id n i : Nat) : Env := (((((Env.upd (fun _ => .junk) 11 (.val (.int .i64 i))).upd 10 (.val (.int .i64 n))).upd 9 s).upd 3 (.own id 4 0 n (some n))).upd 0 s)

set_option maxHeartbeats 4000000 in
theorem Inverse_ok (s : AV) (L : List Ps) (hs : IsL 4 s (L.map Ps.av)) (hl : L.length ≤ 1000) : PureA Try.prog 14 [s] (.list 4 true (((L.map pb).reverse).map Ps.av)) := by
  have sl := hs.len
  rw [List.length_map] at sl
  have sc := hs.cells
  have sst := hs.stor
  replace hs := (show Aside _ from hs)
  intro O
  refine k14.call mix ?_
  unfold c14
  refine seq_go ?_
  (repeat' first
    | simp (contextual := true) (maxSteps := 4000000) only [fwc, fwe, fww, reduceIte, ↓reduceIte, Nat.reduceAdd, Nat.reduceLeDiff, Nat.reduceEqDiff, Nat.reduceLT, Nat.reduceSub, reduceCtorEq, Int.reduceEq, Int.reduceLT, Int.reduceLE, Int.reduceNeg, Int.reduceToNat, Int.reduceAdd, Int.reduceSub, Nat.reduceMul, part_cell, part_agg, *]
    | (refine retK_now ?_)
    | (refine retK_now' ?_)
    | (intro q hq)
    | (refine cond_intro (fun hc => ?_) (fun hc => ?_)))
  refine seqK_now ?_
  refine seq_go ?_
  (repeat' first
    | simp (contextual := true) (maxSteps := 4000000) only [fwc, fwe, fww, reduceIte, ↓reduceIte, Nat.reduceAdd, Nat.reduceLeDiff, Nat.reduceEqDiff, Nat.reduceLT, Nat.reduceSub, reduceCtorEq, Int.reduceEq, Int.reduceLT, Int.reduceLE, Int.reduceNeg, Int.reduceToNat, Int.reduceAdd, Int.reduceSub, Nat.reduceMul, part_cell, part_agg, *]
    | (refine retK_now ?_)
    | (refine retK_now' ?_)
    | (intro q hq)
    | (refine cond_intro (fun hc => ?_) (fun hc => ?_)))
  refine make_own L.length L.length rfl rfl (Nat.le_refl _) (by omega) (by omega) fun id hid => ?_
  (repeat' first
    | simp (contextual := true) (maxSteps := 4000000) only [fwc, fwe, fww, reduceIte, ↓reduceIte, Nat.reduceAdd, Nat.reduceLeDiff, Nat.reduceEqDiff, Nat.reduceLT, Nat.reduceSub, reduceCtorEq, Int.reduceEq, Int.reduceLT, Int.reduceLE, Int.reduceNeg, Int.reduceToNat, Int.reduceAdd, Int.reduceSub, Nat.reduceMul, part_cell, part_agg, *]
    | (refine retK_now ?_)
    | (refine retK_now' ?_)
    | (intro q hq)
    | (refine cond_intro (fun hc => ?_) (fun hc => ?_)))
  refine seqK_now ?_
  refine seq_go ?_
  refine seq_go ?_
  (repeat' first
    | simp (contextual := true) (maxSteps := 4000000) only [fwc, fwe, fww, reduceIte, ↓reduceIte, Nat.reduceAdd, Nat.reduceLeDiff, Nat.reduceEqDiff, Nat.reduceLT, Nat.reduceSub, reduceCtorEq, Int.reduceEq, Int.reduceLT, Int.reduceLE, Int.reduceNeg, Int.reduceToNat, Int.reduceAdd, Int.reduceSub, Nat.reduceMul, part_cell, part_agg, *]
    | (refine retK_now ?_)
    | (refine retK_now' ?_)
    | (intro q hq)
    | (refine cond_intro (fun hc => ?_) (fun hc => ?_)))
  refine seqK_now ?_
  obtain ⟨I, hI⟩ := hideI (fun m e O' => ∃ (i : Nat), i ≤ L.length ∧ m = L.length - i ∧ O.sub (O'.del id) ∧ O' id = some (.arr 52 4 (elI L i)) ∧ e = env14i s id L.length i)
  (repeat' first
    | simp (contextual := true) (maxSteps := 4000000) only [fwc, fwe, fww, reduceIte, ↓reduceIte, Nat.reduceAdd, Nat.reduceLeDiff, Nat.reduceEqDiff, Nat.reduceLT, Nat.reduceSub, reduceCtorEq, Int.reduceEq, Int.reduceLT, Int.reduceLE, Int.reduceNeg, Int.reduceToNat, Int.reduceAdd, Int.reduceSub, Nat.reduceMul, part_cell, part_agg, *]
    | (refine retK_now ?_)
    | (refine retK_now' ?_)
    | (intro q hq)
    | (refine cond_intro (fun hc => ?_) (fun hc => ?_)))
  refine cmd_loop I L.length (by
    rw [hI.out]
    exact ⟨0, by omega, rfl, by rw [del_upd_new hid]; exact Heap.sub_refl _, by rw [Heap.upd_same]; unfold elI; simp [zP], rfl⟩) ?_
  replace hid := (show Aside _ from hid)
  intro m e O' hh
  rw [hI.out] at hh
  obtain ⟨i, hi1, rfl, hsub, hO, rfl⟩ := hh
  unfold env14i
  replace hsub := (show Aside _ from hsub)
  by_cases hi : i < L.length
  rotate_left
  · have e0 : decide (i < L.length) = false := decide_eq_false hi
    have hie : i = L.length := by omega
    rw [hie, elI_end] at hO
    replace hi := (show Aside _ from hi)
    replace hie := (show Aside _ from hie)
    have hz := Fz.own (id := id) (sz := 4) (elems := ((L.map pb).reverse).map Ps.av) 0 L.length (some L.length) true (by simp) (fun _ => rfl)
    rw [List.drop_zero, List.take_of_length_le (by simp)] at hz
    replace hz := (show Aside _ from hz)
    (repeat' first
    | simp (contextual := true) (maxSteps := 4000000) only [fwc, fwe, fww, reduceIte, ↓reduceIte, Nat.reduceAdd, Nat.reduceLeDiff, Nat.reduceEqDiff, Nat.reduceLT, Nat.reduceSub, reduceCtorEq, Int.reduceEq, Int.reduceLT, Int.reduceLE, Int.reduceNeg, Int.reduceToNat, Int.reduceAdd, Int.reduceSub, Nat.reduceMul, ilt_nat, part_cell, part_agg, *]
    | (refine seqK_now ?_)
    | (refine retK_now ?_)
    | (refine retK_now' ?_)
    | (intro q hq)
    | (refine cond_intro (fun hc => ?_) (fun hc => ?_)))
    refine WeakR.pureF id 4 52 _ hO hz.out hsub.out ?_
    rfl
  have e0 : decide (i < L.length) = true := decide_eq_true hi
  have hwi : i < 4611686018427387904 := by omega
  have hia := IsL.ia hs.out (i := i) (by rw [List.length_map]; exact hi)
  rw [List.getElem_map] at hia
  have hlen := elI_len L i hi1
  have hset := elI_set L i hi
  have hget := elI_get L i hi
  have hb := back_ok L[i]
  have hix : indexAddrA 4 ((L.length - 1 - i : Nat) : Int) (.own id 4 0 L.length (some L.length)) = some (.optr id 4 (L.length - 1 - i) 0) := by rw [ia_onat (by omega), Nat.zero_add]
  have hw1 : IntKind.i64.wrap ((L.length : Int) - 1) = (L.length : Int) - 1 := by rw [wrap_i64 (by omega) (by omega)]
  have hw2 : IntKind.i64.wrap ((L.length : Int) - 1 - (i : Int)) = ((L.length - 1 - i : Nat) : Int) := by rw [wrap_i64 (by omega) (by omega)]; omega
  generalize pb L[i] = bp at *
  generalize L[i] = p at *
  rw [show p.av = .agg [.val (.int .u8 p.id.y), .val (.int .i64 p.id.n), .val (.bool p.f), .val (.int .u8 p.d)] from rfl] at hia hb
  rw [show bp.av = .agg [.val (.int .u8 bp.id.y), .val (.int .i64 bp.id.n), .val (.bool bp.f), .val (.int .u8 bp.d)] from rfl] at hset hb
  rw [show zP = .agg [.val (.int .u8 0), .val (.int .i64 0), .val (.bool false), .val (.int .u8 0)] from rfl] at hget
  generalize hnx : elI L (i + 1) = Ei at *
  generalize elI L i = E at *
  generalize L.length - 1 - i = j at *
  replace hi := (show Aside _ from hi)
  replace hnx := (show Aside _ from hnx)
  refine seq_go ?_
  (repeat' first
    | simp (contextual := true) (maxSteps := 4000000) only [fwc, fwe, fww, reduceIte, ↓reduceIte, Nat.reduceAdd, Nat.reduceLeDiff, Nat.reduceEqDiff, Nat.reduceLT, Nat.reduceSub, reduceCtorEq, Int.reduceEq, Int.reduceLT, Int.reduceLE, Int.reduceNeg, Int.reduceToNat, Int.reduceAdd, Int.reduceSub, Nat.reduceMul, ilt_nat, part_cell, part_agg, *]
    | (refine retK_now ?_)
    | (refine retK_now' ?_)
    | (intro q hq)
    | (refine cond_intro (fun hc => ?_) (fun hc => ?_)))
  refine seqK_now ?_
  refine seq_go ?_
  (repeat' first
    | simp (contextual := true) (maxSteps := 4000000) only [fwc, fwe, fww, reduceIte, ↓reduceIte, Nat.reduceAdd, Nat.reduceLeDiff, Nat.reduceEqDiff, Nat.reduceLT, Nat.reduceSub, reduceCtorEq, Int.reduceEq, Int.reduceLT, Int.reduceLE, Int.reduceNeg, Int.reduceToNat, Int.reduceAdd, Int.reduceSub, Nat.reduceMul, ilt_nat, part_cell, part_agg, *]
    | (refine retK_now ?_)
    | (refine retK_now' ?_)
    | (intro q hq)
    | (refine cond_intro (fun hc => ?_) (fun hc => ?_)))
  refine seqK_now ?_
  refine seq_go ?_
  refine seq_go ?_
  (repeat' first
    | simp (contextual := true) (maxSteps := 4000000) only [fwc, fwe, fww, reduceIte, ↓reduceIte, Nat.reduceAdd, Nat.reduceLeDiff, Nat.reduceEqDiff, Nat.reduceLT, Nat.reduceSub, reduceCtorEq, Int.reduceEq, Int.reduceLT, Int.reduceLE, Int.reduceNeg, Int.reduceToNat, Int.reduceAdd, Int.reduceSub, Nat.reduceMul, ilt_nat, part_cell, part_agg, *]
    | (refine retK_now ?_)
    | (refine retK_now' ?_)
    | (intro q hq)
    | (refine cond_intro (fun hc => ?_) (fun hc => ?_)))
  revert q
  intro q5 hq5
  refine seqK_now ?_
  have n5 := ne_of hO hq5
  have o5 := none_del hsub.out hq5
  have sub5 := sub_updel (x := .arr 52 4 [.agg [.val (.int .u8 p.id.y), .val (.int .i64 p.id.n), .val (.bool p.f), .val (.int .u8 p.d)]]) o5 hsub.out
  replace sub5 := (show Aside _ from sub5)
  (repeat' first
    | simp (contextual := true) (maxSteps := 4000000) only [fwc, fwe, fww, reduceIte, ↓reduceIte, Nat.reduceAdd, Nat.reduceLeDiff, Nat.reduceEqDiff, Nat.reduceLT, Nat.reduceSub, reduceCtorEq, Int.reduceEq, Int.reduceLT, Int.reduceLE, Int.reduceNeg, Int.reduceToNat, Int.reduceAdd, Int.reduceSub, Nat.reduceMul, ilt_nat, part_cell, part_agg, *]
    | (refine retK_now ?_)
    | (refine retK_now' ?_)
    | (intro q hq)
    | (refine cond_intro (fun hc => ?_) (fun hc => ?_)))
  refine hb.use ?_
  (repeat' first
    | simp (contextual := true) (maxSteps := 4000000) only [fwc, fwe, fww, reduceIte, ↓reduceIte, Nat.reduceAdd, Nat.reduceLeDiff, Nat.reduceEqDiff, Nat.reduceLT, Nat.reduceSub, reduceCtorEq, Int.reduceEq, Int.reduceLT, Int.reduceLE, Int.reduceNeg, Int.reduceToNat, Int.reduceAdd, Int.reduceSub, Nat.reduceMul, ilt_nat, part_cell, part_agg, wrap_succ, *]
    | (refine seqK_now ?_)
    | (refine retK_now ?_)
    | (refine retK_now' ?_)
    | (intro q hq)
    | (refine cond_intro (fun hc => ?_) (fun hc => ?_)))
  refine loopK_now (L.length - (i + 1)) (by have := hi.out; omega) ?_
  rw [hI.out]
  refine ⟨i + 1, by have := hi.out; omega, rfl, sub_updid sub5.out, ?_, rfl⟩
  rw [hnx.out]
  exact Heap.upd_same _ _ _
end Go.Proofs.Ytlpngkeegjickab

namespace Go.Proofs.Ytlpngkeegjickab
open Go.Ab
attribute [local irreducible] WeakR WeakE CallA YieldA

theorem at_le4 {T : List (List Id)} {n : Nat} (h : TabOK T n) (u : Ndl) : (atL (bedsF T) (bedsB T) u).length ≤ 4 := by
  have key : ∀ i, (T.getD i []).length ≤ 4 := fun i => by
    rw [List.getD_eq_getElem?_getD]
    by_cases hi : i < T.length
    · rw [List.getElem?_eq_getElem hi]; exact h.le _ (List.getElem_mem hi)
    · rw [List.getElem?_eq_none (by omega)]; simp
  have keyF : ∀ i, ((bedsF T).getD i []).length ≤ 4 := fun i => by
    rw [List.getD_eq_getElem?_getD]
    by_cases hi : i < (bedsF T).length
    · rw [List.getElem?_eq_getElem hi]
      simp only [bedsF, List.getElem_map, Option.getD_some]
      exact key _
    · rw [List.getElem?_eq_none (by omega)]; simp
  have keyB : ∀ i, ((bedsB T).getD i []).length ≤ 4 := fun i => by
    rw [List.getD_eq_getElem?_getD]
    by_cases hi : i < (bedsB T).length
    · rw [List.getElem?_eq_getElem hi]
      simp only [bedsB, List.getElem_map, Option.getD_some]
      exact key _
    · rw [List.getElem?_eq_none (by omega)]; simp
  unfold atL
  split
  · simp
  · split
    · exact keyB _
    · exact keyF _
theorem step_s (F B : List (List Id)) (r d : Int) (n : Nat) : ∀ c ∈ stepTo F B r d n, c.s = 1 ∨ c.s = -1 := by
  intro c hc
  obtain ⟨i, _, hi⟩ := List.mem_flatMap.1 hc
  unfold stepAt at hi
  split at hi
  · obtain ⟨x, _, hx⟩ := List.mem_flatMap.1 hi
    obtain ⟨y, _, rfl⟩ := List.mem_map.1 hx
    unfold crs
    split
    · exact .inr rfl
    · exact .inl rfl
  · cases hi
def envK (q7 : Nat) (pc : Nat) (r : Int) (l m : AV) (i : Nat) : Env := ((((((Env.upd (fun _ => .junk) 13 (.val (.int .i64 i))).upd 11 m).upd 9 l).upd 8 (.val (.int .i64 r))).upd 7 (.optr q7 2 0 0)).upd 2 (.val (.int .u8 pc)))
def envM (p q : AV) (i : Nat) : Env := (((Env.upd (fun _ => .junk) 19 (.val (.int .i64 i))).upd 18 p).upd 17 q)

set_option maxHeartbeats 8000000 in
theorem OrdersBack_ok (s : AV) (P : List Put) (rk pc : Nat) (hs : IsL 2 s (P.map Put.av)) (hP : ∀ p ∈ P, p.ok) (h1 : rk < 256) (h2 : pc < 256) :
    PureA Try.prog 6 [s, .val (.int .u8 rk), .val (.int .u8 pc)] (.val (.bool true)) := by
  have hof := Of_ok s P hs hP
  have hTo := Of_tab_ok P
  have hTn := (ofN_ok P).2
  generalize ofL P = T at hof hTo
  have hle : ∀ l ∈ T, l.length ≤ 1000 := fun l hl => by have := hTo.le l hl; omega
  have hBe := beds_is hle
  have hck := check_beds hTo (by omega)
  have hm4 := at_le4 hTo
  obtain ⟨rr, hrr⟩ : ∃ z : Int, ((rk % 8 : Nat) : Int) - 4 = z := ⟨_, rfl⟩
  obtain ⟨pl, hpl⟩ : ∃ z : Int, -13 + 2 * ((pc % 97 : Nat) : Int) = z := ⟨_, rfl⟩
  have r0 : ((rk : Nat) : Int).tmod 8 = ((rk % 8 : Nat) : Int) := by rw [Int.tmod_eq_emod_of_nonneg (by omega)]; omega
  have r1 : ((pc : Nat) : Int).tmod 97 = ((pc % 97 : Nat) : Int) := by rw [Int.tmod_eq_emod_of_nonneg (by omega)]; omega
  have w0 : IntKind.i64.wrap ((rk % 8 : Nat) : Int) = ((rk % 8 : Nat) : Int) := by rw [wrap_i64 (by omega) (by omega)]
  have w0' : IntKind.i64.wrap ((pc % 97 : Nat) : Int) = ((pc % 97 : Nat) : Int) := by rw [wrap_i64 (by omega) (by omega)]
  have w1 : IntKind.i64.wrap (((rk % 8 : Nat) : Int) - 4) = rr := by rw [wrap_i64 (by omega) (by omega)]; exact hrr
  have w2 : IntKind.i64.wrap (rr + 1) = rr + 1 := by rw [wrap_i64 (by omega) (by omega)]
  have w3 : IntKind.i64.wrap (2 * ((pc % 97 : Nat) : Int)) = 2 * ((pc % 97 : Nat) : Int) := by rw [wrap_i64 (by omega) (by omega)]
  have w4 : IntKind.i64.wrap (-13 + 2 * ((pc % 97 : Nat) : Int)) = pl := by rw [wrap_i64 (by omega) (by omega)]; exact hpl
  have hodd : pl % 2 = 1 := by omega
  have hplb : -100000 ≤ pl ∧ pl ≤ 100000 := by omega
  have hd1 : decide (IntKind.i64.wrap (BitVec.ofInt IntKind.i64.bits pl &&& BitVec.ofInt IntKind.i64.bits 1).toNat = 0) = false := by
    have := wrap_and_one pl
    refine decide_eq_false fun h => ?_
    have h' : IntKind.i64.wrap ((BitVec.ofInt 64 pl &&& BitVec.ofInt 64 1).toNat) = 0 := h
    omega
  have k1 : rackOK rr = true := by unfold rackOK; simp only [Bool.and_eq_true, decide_eq_true_eq]; omega
  have k2 : rackOK (rr + 1) = true := by unfold rackOK; simp only [Bool.and_eq_true, decide_eq_true_eq]; omega
  have m1 : moveE rr 1 = 0 := by unfold moveE; rw [if_pos k1, show shL 1 = 1 from rfl, if_pos k2]
  have m2 : moveE (rr + 1) 0 = 0 := by unfold moveE; rw [if_pos k2, show shL 0 = -1 from rfl, show rr + 1 + -1 = rr by omega, if_pos k1]
  have hS1 := Step_ok hBe hck hm4 rr 1 (.inr rfl) k1 m1
  have hS0 := Step_ok hBe hck hm4 (rr + 1) 0 (.inl rfl) k2 m2
  have hM1 := Meets_ok hBe hck hm4 rr 1 pl (.inr rfl) k1 m1 hd1 hplb
  have hM0 := Meets_ok hBe hck hm4 (rr + 1) 0 pl (.inl rfl) k2 m2 hd1 hplb
  have hsw := step_back (bedsF T) (bedsB T) rr k1 k2
  have hmb := meet_back (bedsF T) (bedsB T) rr pl hodd
  have hsb := step_s (bedsF T) (bedsB T) rr 1 40
  have hcl := stepTo_len hm4 rr 1 40
  have hml := meetTo_len hm4 rr 1 pl 40
  have c1 := (bedA_is (bedsF T)).2.isL.cells
  have c2 := (bedA_is (bedsB T)).2.isL.cells
  have s1 := (bedA_is (bedsF T)).2.isL.stor
  have s2 := (bedA_is (bedsB T)).2.isL.stor
  generalize stepTo (bedsF T) (bedsB T) rr 1 40 = C at *
  generalize stepTo (bedsF T) (bedsB T) (rr + 1) 0 40 = D at *
  generalize meetTo (bedsF T) (bedsB T) rr 1 pl 40 = M1 at *
  generalize meetTo (bedsF T) (bedsB T) (rr + 1) 0 pl 40 = M0 at *
  generalize bedA (bedsF T) = bf at *
  generalize bedA (bedsB T) = bb at *
  have hCD : C.length = D.length := by have := congrArg List.length hsw; simpa using this
  have hMM : M1.length = M0.length := by have := congrArg List.length hmb; simpa using this
  have hcT := tA_T 5 (C.map Cr.av)
  have hdT := tA_T 5 (D.map Cr.av)
  have hpT := tA_T 4 (M1.map Ps.av)
  have hqT := tA_T 4 (M0.map Ps.av)
  have hInv := Inverse_ok _ M1 hpT.isL (by omega)
  rw [hmb] at hInv
  generalize tA 5 (C.map Cr.av) = c at *
  generalize tA 5 (D.map Cr.av) = dd at *
  generalize tA 4 (M1.map Ps.av) = p at *
  generalize tA 4 (M0.map Ps.av) = q' at *
  have cl := hcT.isL.len
  have dl := hdT.isL.len
  have pl' := hpT.isL.len
  have ql := hqT.isL.len
  rw [List.length_map] at cl dl pl' ql
  rw [← hCD] at dl
  rw [hMM] at pl'
  have cc := hcT.isL.cells
  have cs := hcT.isL.stor
  have dc := hdT.isL.cells
  have ds := hdT.isL.stor
  have pc1 := hpT.isL.cells
  have ps1 := hpT.isL.stor
  have qc1 := hqT.isL.cells
  have qs1 := hqT.isL.stor
  have d0 : decide ((0 : Int) = 0) = true := by decide
  have dcc : decide ((C.length : Int) = (C.length : Int)) = true := decide_eq_true rfl
  have dmm : decide ((M0.length : Int) = (M0.length : Int)) = true := decide_eq_true rfl
  replace hcT := (show Aside _ from hcT)
  replace hdT := (show Aside _ from hdT)
  replace hpT := (show Aside _ from hpT)
  replace hqT := (show Aside _ from hqT)
  replace hsw := (show Aside _ from hsw)
  replace hmb := (show Aside _ from hmb)
  replace hsb := (show Aside _ from hsb)
  replace hcl := (show Aside _ from hcl)
  replace hml := (show Aside _ from hml)
  replace hCD := (show Aside _ from hCD)
  replace hMM := (show Aside _ from hMM)
  replace hBe := (show Aside _ from hBe)
  replace hck := (show Aside _ from hck)
  replace hm4 := (show Aside _ from hm4)
  replace hTo := (show Aside _ from hTo)
  replace hle := (show Aside _ from hle)
  replace hrr := (show Aside _ from hrr)
  replace hpl := (show Aside _ from hpl)
  replace hodd := (show Aside _ from hodd)
  replace hplb := (show Aside _ from hplb)
  replace k1 := (show Aside _ from k1)
  replace k2 := (show Aside _ from k2)
  replace m1 := (show Aside _ from m1)
  replace m2 := (show Aside _ from m2)
  clear hd1
  replace hs := (show Aside _ from hs)
  replace hP := (show Aside _ from hP)
  intro O
  refine k6.call mix ?_
  unfold c6
  refine seq_go ?_
  (repeat' first
    | simp (contextual := true) (maxSteps := 4000000) only [fwc, fwe, fww, reduceIte, ↓reduceIte, Nat.reduceAdd, Nat.reduceLeDiff, Nat.reduceEqDiff, Nat.reduceLT, Nat.reduceSub, reduceCtorEq, Int.reduceEq, Int.reduceLT, Int.reduceLE, Int.reduceNeg, Int.reduceToNat, Int.reduceAdd, Int.reduceSub, Nat.reduceMul, part_cell, part_agg, *]
    | (refine retK_now ?_)
    | (refine retK_now' ?_)
    | (intro q hq)
    | (refine cond_intro (fun hc => ?_) (fun hc => ?_)))
  refine seqK_now ?_
  refine seq_go ?_
  (repeat' first
    | simp (contextual := true) (maxSteps := 4000000) only [fwc, fwe, fww, reduceIte, ↓reduceIte, Nat.reduceAdd, Nat.reduceLeDiff, Nat.reduceEqDiff, Nat.reduceLT, Nat.reduceSub, reduceCtorEq, Int.reduceEq, Int.reduceLT, Int.reduceLE, Int.reduceNeg, Int.reduceToNat, Int.reduceAdd, Int.reduceSub, Nat.reduceMul, part_cell, part_agg, *]
    | (refine retK_now ?_)
    | (refine retK_now' ?_)
    | (intro q hq)
    | (refine cond_intro (fun hc => ?_) (fun hc => ?_)))
  refine hof.use ?_
  (repeat' first
    | simp (contextual := true) (maxSteps := 4000000) only [fwc, fwe, fww, reduceIte, ↓reduceIte, Nat.reduceAdd, Nat.reduceLeDiff, Nat.reduceEqDiff, Nat.reduceLT, Nat.reduceSub, reduceCtorEq, Int.reduceEq, Int.reduceLT, Int.reduceLE, Int.reduceNeg, Int.reduceToNat, Int.reduceAdd, Int.reduceSub, Nat.reduceMul, part_cell, part_agg, *]
    | (refine retK_now ?_)
    | (refine retK_now' ?_)
    | (intro q hq)
    | (refine cond_intro (fun hc => ?_) (fun hc => ?_)))
  revert q
  intro q7 hq7
  refine seqK_now ?_
  refine seq_go ?_
  (repeat' first
    | simp (contextual := true) (maxSteps := 4000000) only [fwc, fwe, fww, reduceIte, ↓reduceIte, Nat.reduceAdd, Nat.reduceLeDiff, Nat.reduceEqDiff, Nat.reduceLT, Nat.reduceSub, reduceCtorEq, Int.reduceEq, Int.reduceLT, Int.reduceLE, Int.reduceNeg, Int.reduceToNat, Int.reduceAdd, Int.reduceSub, Nat.reduceMul, part_cell, part_agg, *]
    | (refine retK_now ?_)
    | (refine retK_now' ?_)
    | (intro q hq)
    | (refine cond_intro (fun hc => ?_) (fun hc => ?_)))
  refine seqK_now ?_
  refine seq_go ?_
  (repeat' first
    | simp (contextual := true) (maxSteps := 4000000) only [fwc, fwe, fww, reduceIte, ↓reduceIte, Nat.reduceAdd, Nat.reduceLeDiff, Nat.reduceEqDiff, Nat.reduceLT, Nat.reduceSub, reduceCtorEq, Int.reduceEq, Int.reduceLT, Int.reduceLE, Int.reduceNeg, Int.reduceToNat, Int.reduceAdd, Int.reduceSub, Nat.reduceMul, part_cell, part_agg, *]
    | (refine retK_now ?_)
    | (refine retK_now' ?_)
    | (intro q hq)
    | (refine cond_intro (fun hc => ?_) (fun hc => ?_)))
  refine hS1.use ?_
  (repeat' first
    | simp (contextual := true) (maxSteps := 4000000) only [fwc, fwe, fww, reduceIte, ↓reduceIte, Nat.reduceAdd, Nat.reduceLeDiff, Nat.reduceEqDiff, Nat.reduceLT, Nat.reduceSub, reduceCtorEq, Int.reduceEq, Int.reduceLT, Int.reduceLE, Int.reduceNeg, Int.reduceToNat, Int.reduceAdd, Int.reduceSub, Nat.reduceMul, part_cell, part_agg, *]
    | (refine retK_now ?_)
    | (refine retK_now' ?_)
    | (intro q hq)
    | (refine cond_intro (fun hc => ?_) (fun hc => ?_)))
  refine seqK_now ?_
  refine seq_go ?_
  (repeat' first
    | simp (contextual := true) (maxSteps := 4000000) only [fwc, fwe, fww, reduceIte, ↓reduceIte, Nat.reduceAdd, Nat.reduceLeDiff, Nat.reduceEqDiff, Nat.reduceLT, Nat.reduceSub, reduceCtorEq, Int.reduceEq, Int.reduceLT, Int.reduceLE, Int.reduceNeg, Int.reduceToNat, Int.reduceAdd, Int.reduceSub, Nat.reduceMul, part_cell, part_agg, *]
    | (refine retK_now ?_)
    | (refine retK_now' ?_)
    | (intro q hq)
    | (refine cond_intro (fun hc => ?_) (fun hc => ?_)))
  refine hS0.use ?_
  (repeat' first
    | simp (contextual := true) (maxSteps := 4000000) only [fwc, fwe, fww, reduceIte, ↓reduceIte, Nat.reduceAdd, Nat.reduceLeDiff, Nat.reduceEqDiff, Nat.reduceLT, Nat.reduceSub, reduceCtorEq, Int.reduceEq, Int.reduceLT, Int.reduceLE, Int.reduceNeg, Int.reduceToNat, Int.reduceAdd, Int.reduceSub, Nat.reduceMul, part_cell, part_agg, *]
    | (refine retK_now ?_)
    | (refine retK_now' ?_)
    | (intro q hq)
    | (refine cond_intro (fun hc => ?_) (fun hc => ?_)))
  refine seqK_now ?_
  refine seq_go ?_
  refine seq_go ?_
  (repeat' first
    | simp (contextual := true) (maxSteps := 4000000) only [fwc, fwe, fww, reduceIte, ↓reduceIte, Nat.reduceAdd, Nat.reduceLeDiff, Nat.reduceEqDiff, Nat.reduceLT, Nat.reduceSub, reduceCtorEq, Int.reduceEq, Int.reduceLT, Int.reduceLE, Int.reduceNeg, Int.reduceToNat, Int.reduceAdd, Int.reduceSub, Nat.reduceMul, part_cell, part_agg, *]
    | (refine retK_now ?_)
    | (refine retK_now' ?_)
    | (intro q hq)
    | (refine cond_intro (fun hc => ?_) (fun hc => ?_)))
  refine seqK_now ?_
  (repeat' first
    | simp (contextual := true) (maxSteps := 4000000) only [fwc, fwe, fww, reduceIte, ↓reduceIte, Nat.reduceAdd, Nat.reduceLeDiff, Nat.reduceEqDiff, Nat.reduceLT, Nat.reduceSub, reduceCtorEq, Int.reduceEq, Int.reduceLT, Int.reduceLE, Int.reduceNeg, Int.reduceToNat, Int.reduceAdd, Int.reduceSub, Nat.reduceMul, part_cell, part_agg, *]
    | (refine retK_now ?_)
    | (refine retK_now' ?_)
    | (intro q hq)
    | (refine cond_intro (fun hc => ?_) (fun hc => ?_)))
  refine seqK_now ?_
  refine seq_post (fun e1 O1 => O.sub O1 ∧ O1 q7 = some (.arr 26 2 [.agg [bf, bb]]) ∧ e1 = (((Env.upd (fun _ => .junk) 8 (.val (.int .i64 rr))).upd 7 (.optr q7 2 0 0)).upd 2 (.val (.int .u8 pc)))) ?_ ?_
  rotate_left
  · intro G hG
    replace hG := (show Aside _ from hG)
    obtain ⟨I, hI⟩ := hideI (fun m e O' => ∃ i : Nat, i ≤ C.length ∧ m = C.length - i ∧ O.sub O' ∧ O' q7 = some (.arr 26 2 [.agg [bf, bb]]) ∧ e = envK q7 pc rr c dd i)
    refine seq_go ?_
    (repeat' first
    | simp (contextual := true) (maxSteps := 4000000) only [fwc, fwe, fww, reduceIte, ↓reduceIte, Nat.reduceAdd, Nat.reduceLeDiff, Nat.reduceEqDiff, Nat.reduceLT, Nat.reduceSub, reduceCtorEq, Int.reduceEq, Int.reduceLT, Int.reduceLE, Int.reduceNeg, Int.reduceToNat, Int.reduceAdd, Int.reduceSub, Nat.reduceMul, part_cell, part_agg, *]
    | (refine retK_now ?_)
    | (refine retK_now' ?_)
    | (intro q hq)
    | (refine cond_intro (fun hc => ?_) (fun hc => ?_)))
    refine seqK_now ?_
    (repeat' first
    | simp (contextual := true) (maxSteps := 4000000) only [fwc, fwe, fww, reduceIte, ↓reduceIte, Nat.reduceAdd, Nat.reduceLeDiff, Nat.reduceEqDiff, Nat.reduceLT, Nat.reduceSub, reduceCtorEq, Int.reduceEq, Int.reduceLT, Int.reduceLE, Int.reduceNeg, Int.reduceToNat, Int.reduceAdd, Int.reduceSub, Nat.reduceMul, part_cell, part_agg, *]
    | (refine retK_now ?_)
    | (refine retK_now' ?_)
    | (intro q hq)
    | (refine cond_intro (fun hc => ?_) (fun hc => ?_)))
    refine cmd_loop I C.length (by
      rw [hI.out]
      exact ⟨0, by omega, rfl, sub_upd hq7 (Heap.sub_refl _), Heap.upd_same _ _ _, rfl⟩) ?_
    clear hq7
    intro m e O' hh
    rw [hI.out] at hh
    obtain ⟨i, hi1, rfl, hsub, f7, rfl⟩ := hh
    unfold envK
    replace hsub := (show Aside _ from hsub)
    by_cases hi : i < C.length
    rotate_left
    · have e0 : decide (i < C.length) = false := decide_eq_false hi
      replace hi := (show Aside _ from hi)
      (repeat' first
    | simp (contextual := true) (maxSteps := 4000000) only [fwc, fwe, fww, reduceIte, ↓reduceIte, Nat.reduceAdd, Nat.reduceLeDiff, Nat.reduceEqDiff, Nat.reduceLT, Nat.reduceSub, reduceCtorEq, Int.reduceEq, Int.reduceLT, Int.reduceLE, Int.reduceNeg, Int.reduceToNat, Int.reduceAdd, Int.reduceSub, Nat.reduceMul, ilt_nat, part_cell, part_agg, *]
    | (refine seqK_now ?_)
    | (refine retK_now ?_)
    | (refine retK_now' ?_)
    | (intro q hq)
    | (refine cond_intro (fun hc => ?_) (fun hc => ?_)))
      exact hG.out _ _ ⟨hsub.out, f7, rfl⟩
    have e0 : decide (i < C.length) = true := decide_eq_true hi
    have hwi : i < 4611686018427387904 := by have := hcl.out; omega
    have hiD : C.length - 1 - i < D.length := by rw [← hCD.out]; omega
    have hia := IsL.ia (IsT.isL hcT.out) (i := i) (by rw [List.length_map]; exact hi)
    have hib := IsL.ia (IsT.isL hdT.out) (i := C.length - 1 - i) (by rw [List.length_map]; exact hiD)
    rw [List.getElem_map] at hia hib
    have hDC : D[C.length - 1 - i] = sw C[i] := by
      have e := congrArg (fun l : List Cr => l[i]?) hsw.out
      simp only [List.getElem?_map, List.getElem?_eq_getElem hi, Option.map_some] at e
      rw [List.getElem?_reverse (by rw [← hCD.out]; exact hi), List.getElem?_eq_getElem (by rw [← hCD.out]; omega)] at e
      simp only [Option.some.injEq] at e
      rw [e]
      simp only [hCD.out]
    rw [hDC] at hib
    have hzs := hsb.out _ (List.getElem_mem hi)
    generalize C[i] = z at *
    rw [show z.av = .agg [.val (.int .u8 z.a.y), .val (.int .i64 z.a.n), .val (.int .u8 z.b.y), .val (.int .i64 z.b.n), .val (.int .i64 z.s)] from rfl] at hia
    rw [show (sw z).av = .agg [.val (.int .u8 z.b.y), .val (.int .i64 z.b.n), .val (.int .u8 z.a.y), .val (.int .i64 z.a.n), .val (.int .i64 (-z.s))] from rfl] at hib
    have l1 := le_id z.b z.b
    have l2 := le_id z.a z.a
    rw [show decide (z.b = z.b) = true from decide_eq_true rfl] at l1
    rw [show decide (z.a = z.a) = true from decide_eq_true rfl] at l2
    have wn : IntKind.i64.wrap (0 - z.s) = -z.s := by rw [wrap_i64 (by omega) (by omega)]; omega
    have dn : decide (-z.s = -z.s) = true := decide_eq_true rfl
    have x1 : IntKind.i64.wrap ((C.length : Int) - 1) = (C.length : Int) - 1 := by have := hcl.out; rw [wrap_i64 (by omega) (by omega)]
    have x2 : IntKind.i64.wrap ((C.length : Int) - 1 - (i : Int)) = ((C.length - 1 - i : Nat) : Int) := by have := hcl.out; rw [wrap_i64 (by omega) (by omega)]; omega
    generalize C.length - 1 - i = j at *
    replace hi := (show Aside _ from hi)
    replace hDC := (show Aside _ from hDC)
    replace hzs := (show Aside _ from hzs)
    replace hiD := (show Aside _ from hiD)
    refine seq_go ?_
    refine seq_go ?_
    (repeat' first
    | simp (contextual := true) (maxSteps := 4000000) only [fwc, fwe, fww, reduceIte, ↓reduceIte, Nat.reduceAdd, Nat.reduceLeDiff, Nat.reduceEqDiff, Nat.reduceLT, Nat.reduceSub, reduceCtorEq, Int.reduceEq, Int.reduceLT, Int.reduceLE, Int.reduceNeg, Int.reduceToNat, Int.reduceAdd, Int.reduceSub, Nat.reduceMul, ilt_nat, part_cell, part_agg, *]
    | (refine retK_now ?_)
    | (refine retK_now' ?_)
    | (intro q hq)
    | (refine cond_intro (fun hc => ?_) (fun hc => ?_)))
    refine seqK_now ?_
    (repeat' first
    | simp (contextual := true) (maxSteps := 4000000) only [fwc, fwe, fww, reduceIte, ↓reduceIte, Nat.reduceAdd, Nat.reduceLeDiff, Nat.reduceEqDiff, Nat.reduceLT, Nat.reduceSub, reduceCtorEq, Int.reduceEq, Int.reduceLT, Int.reduceLE, Int.reduceNeg, Int.reduceToNat, Int.reduceAdd, Int.reduceSub, Nat.reduceMul, ilt_nat, part_cell, part_agg, *]
    | (refine retK_now ?_)
    | (refine retK_now' ?_)
    | (intro q hq)
    | (refine cond_intro (fun hc => ?_) (fun hc => ?_)))
    refine seqK_now ?_
    refine seq_go ?_
    refine seq_go ?_
    (repeat' first
    | simp (contextual := true) (maxSteps := 4000000) only [fwc, fwe, fww, reduceIte, ↓reduceIte, Nat.reduceAdd, Nat.reduceLeDiff, Nat.reduceEqDiff, Nat.reduceLT, Nat.reduceSub, reduceCtorEq, Int.reduceEq, Int.reduceLT, Int.reduceLE, Int.reduceNeg, Int.reduceToNat, Int.reduceAdd, Int.reduceSub, Nat.reduceMul, ilt_nat, part_cell, part_agg, *]
    | (refine retK_now ?_)
    | (refine retK_now' ?_)
    | (intro q hq)
    | (refine cond_intro (fun hc => ?_) (fun hc => ?_)))
    revert q
    intro q14 hq14
    refine seqK_now ?_
    have sub14 := sub_new (show Heap.sub O O' from hsub.out) hq14 (v := .arr 45 5 [.agg [.val (.int .u8 z.b.y), .val (.int .i64 z.b.n), .val (.int .u8 z.a.y), .val (.int .i64 z.a.n), .val (.int .i64 (-z.s))]])
    have keep14 := upd_keep (v := .arr 45 5 [.agg [.val (.int .u8 z.b.y), .val (.int .i64 z.b.n), .val (.int .u8 z.a.y), .val (.int .i64 z.a.n), .val (.int .i64 (-z.s))]]) hq14 f7
    replace sub14 := (show Aside _ from sub14)
    replace keep14 := (show Aside _ from keep14)
    (repeat' first
    | simp (contextual := true) (maxSteps := 4000000) only [fwc, fwe, fww, reduceIte, ↓reduceIte, Nat.reduceAdd, Nat.reduceLeDiff, Nat.reduceEqDiff, Nat.reduceLT, Nat.reduceSub, reduceCtorEq, Int.reduceEq, Int.reduceLT, Int.reduceLE, Int.reduceNeg, Int.reduceToNat, Int.reduceAdd, Int.reduceSub, Nat.reduceMul, ilt_nat, part_cell, part_agg, wrap_succ, *]
    | (refine seqK_now ?_)
    | (refine retK_now ?_)
    | (refine retK_now' ?_)
    | (intro q hq)
    | (refine cond_intro (fun hc => ?_) (fun hc => ?_)))
    refine loopK_now (C.length - (i + 1)) (by have := hi.out; omega) ?_
    rw [hI.out]
    exact ⟨i + 1, by have := hi.out; omega, rfl, sub14.out, keep14.out, rfl⟩
  intro e1 O1 hQ
  obtain ⟨hsub, f7, rfl⟩ := hQ
  replace hsub := (show Aside _ from hsub)
  clear hq7
  refine seq_go ?_
  (repeat' first
    | simp (contextual := true) (maxSteps := 4000000) only [fwc, fwe, fww, reduceIte, ↓reduceIte, Nat.reduceAdd, Nat.reduceLeDiff, Nat.reduceEqDiff, Nat.reduceLT, Nat.reduceSub, reduceCtorEq, Int.reduceEq, Int.reduceLT, Int.reduceLE, Int.reduceNeg, Int.reduceToNat, Int.reduceAdd, Int.reduceSub, Nat.reduceMul, part_cell, part_agg, *]
    | (refine retK_now ?_)
    | (refine retK_now' ?_)
    | (intro q hq)
    | (refine cond_intro (fun hc => ?_) (fun hc => ?_)))
  refine seqK_now ?_
  refine seq_go ?_
  (repeat' first
    | simp (contextual := true) (maxSteps := 4000000) only [fwc, fwe, fww, reduceIte, ↓reduceIte, Nat.reduceAdd, Nat.reduceLeDiff, Nat.reduceEqDiff, Nat.reduceLT, Nat.reduceSub, reduceCtorEq, Int.reduceEq, Int.reduceLT, Int.reduceLE, Int.reduceNeg, Int.reduceToNat, Int.reduceAdd, Int.reduceSub, Nat.reduceMul, part_cell, part_agg, *]
    | (refine retK_now ?_)
    | (refine retK_now' ?_)
    | (intro q hq)
    | (refine cond_intro (fun hc => ?_) (fun hc => ?_)))
  refine hM1.use ?_
  (repeat' first
    | simp (contextual := true) (maxSteps := 4000000) only [fwc, fwe, fww, reduceIte, ↓reduceIte, Nat.reduceAdd, Nat.reduceLeDiff, Nat.reduceEqDiff, Nat.reduceLT, Nat.reduceSub, reduceCtorEq, Int.reduceEq, Int.reduceLT, Int.reduceLE, Int.reduceNeg, Int.reduceToNat, Int.reduceAdd, Int.reduceSub, Nat.reduceMul, part_cell, part_agg, *]
    | (refine retK_now ?_)
    | (refine retK_now' ?_)
    | (intro q hq)
    | (refine cond_intro (fun hc => ?_) (fun hc => ?_)))
  refine seqK_now ?_
  refine seq_go ?_
  (repeat' first
    | simp (contextual := true) (maxSteps := 4000000) only [fwc, fwe, fww, reduceIte, ↓reduceIte, Nat.reduceAdd, Nat.reduceLeDiff, Nat.reduceEqDiff, Nat.reduceLT, Nat.reduceSub, reduceCtorEq, Int.reduceEq, Int.reduceLT, Int.reduceLE, Int.reduceNeg, Int.reduceToNat, Int.reduceAdd, Int.reduceSub, Nat.reduceMul, part_cell, part_agg, *]
    | (refine retK_now ?_)
    | (refine retK_now' ?_)
    | (intro q hq)
    | (refine cond_intro (fun hc => ?_) (fun hc => ?_)))
  refine hM0.use ?_
  (repeat' first
    | simp (contextual := true) (maxSteps := 4000000) only [fwc, fwe, fww, reduceIte, ↓reduceIte, Nat.reduceAdd, Nat.reduceLeDiff, Nat.reduceEqDiff, Nat.reduceLT, Nat.reduceSub, reduceCtorEq, Int.reduceEq, Int.reduceLT, Int.reduceLE, Int.reduceNeg, Int.reduceToNat, Int.reduceAdd, Int.reduceSub, Nat.reduceMul, part_cell, part_agg, *]
    | (refine retK_now ?_)
    | (refine retK_now' ?_)
    | (intro q hq)
    | (refine cond_intro (fun hc => ?_) (fun hc => ?_)))
  refine seqK_now ?_
  refine seq_go ?_
  refine seq_go ?_
  (repeat' first
    | simp (contextual := true) (maxSteps := 4000000) only [fwc, fwe, fww, reduceIte, ↓reduceIte, Nat.reduceAdd, Nat.reduceLeDiff, Nat.reduceEqDiff, Nat.reduceLT, Nat.reduceSub, reduceCtorEq, Int.reduceEq, Int.reduceLT, Int.reduceLE, Int.reduceNeg, Int.reduceToNat, Int.reduceAdd, Int.reduceSub, Nat.reduceMul, part_cell, part_agg, *]
    | (refine retK_now ?_)
    | (refine retK_now' ?_)
    | (intro q hq)
    | (refine cond_intro (fun hc => ?_) (fun hc => ?_)))
  refine seqK_now ?_
  (repeat' first
    | simp (contextual := true) (maxSteps := 4000000) only [fwc, fwe, fww, reduceIte, ↓reduceIte, Nat.reduceAdd, Nat.reduceLeDiff, Nat.reduceEqDiff, Nat.reduceLT, Nat.reduceSub, reduceCtorEq, Int.reduceEq, Int.reduceLT, Int.reduceLE, Int.reduceNeg, Int.reduceToNat, Int.reduceAdd, Int.reduceSub, Nat.reduceMul, part_cell, part_agg, *]
    | (refine retK_now ?_)
    | (refine retK_now' ?_)
    | (intro q hq)
    | (refine cond_intro (fun hc => ?_) (fun hc => ?_)))
  refine seqK_now ?_
  refine seq_go ?_
  (repeat' first
    | simp (contextual := true) (maxSteps := 4000000) only [fwc, fwe, fww, reduceIte, ↓reduceIte, Nat.reduceAdd, Nat.reduceLeDiff, Nat.reduceEqDiff, Nat.reduceLT, Nat.reduceSub, reduceCtorEq, Int.reduceEq, Int.reduceLT, Int.reduceLE, Int.reduceNeg, Int.reduceToNat, Int.reduceAdd, Int.reduceSub, Nat.reduceMul, part_cell, part_agg, *]
    | (refine retK_now ?_)
    | (refine retK_now' ?_)
    | (intro q hq)
    | (refine cond_intro (fun hc => ?_) (fun hc => ?_)))
  refine hInv.use ?_
  (repeat' first
    | simp (contextual := true) (maxSteps := 4000000) only [fwc, fwe, fww, reduceIte, ↓reduceIte, Nat.reduceAdd, Nat.reduceLeDiff, Nat.reduceEqDiff, Nat.reduceLT, Nat.reduceSub, reduceCtorEq, Int.reduceEq, Int.reduceLT, Int.reduceLE, Int.reduceNeg, Int.reduceToNat, Int.reduceAdd, Int.reduceSub, Nat.reduceMul, part_cell, part_agg, *]
    | (refine retK_now ?_)
    | (refine retK_now' ?_)
    | (intro q hq)
    | (refine cond_intro (fun hc => ?_) (fun hc => ?_)))
  refine seqK_now ?_
  obtain ⟨J, hJ⟩ := hideI (fun m e O' => ∃ i : Nat, i ≤ M0.length ∧ m = M0.length - i ∧ O' = O1 ∧ e = envM (.list 4 true (M0.map Ps.av)) q' i)
  have hln : lenA (.list 4 true (M0.map Ps.av)) = some (.val (.int .i64 M0.length)) := by
    show some (AV.val (.int .i64 ((M0.map Ps.av).length : Nat))) = _
    rw [List.length_map]
  obtain ⟨inv, hinv⟩ : ∃ z, AV.list 4 true (M0.map Ps.av) = z := ⟨_, rfl⟩
  have iL : IsL 4 inv (M0.map Ps.av) := .inr ⟨true, hinv.symm⟩
  have ic := iL.cells
  have is := iL.stor
  rw [hinv] at hln hJ ⊢
  replace hinv := (show Aside _ from hinv)
  replace iL := (show Aside _ from iL)
  refine seq_go ?_
  refine seq_go ?_
  (repeat' first
    | simp (contextual := true) (maxSteps := 4000000) only [fwc, fwe, fww, reduceIte, ↓reduceIte, Nat.reduceAdd, Nat.reduceLeDiff, Nat.reduceEqDiff, Nat.reduceLT, Nat.reduceSub, reduceCtorEq, Int.reduceEq, Int.reduceLT, Int.reduceLE, Int.reduceNeg, Int.reduceToNat, Int.reduceAdd, Int.reduceSub, Nat.reduceMul, part_cell, part_agg, *]
    | (refine retK_now ?_)
    | (refine retK_now' ?_)
    | (intro q hq)
    | (refine cond_intro (fun hc => ?_) (fun hc => ?_)))
  refine seqK_now ?_
  (repeat' first
    | simp (contextual := true) (maxSteps := 4000000) only [fwc, fwe, fww, reduceIte, ↓reduceIte, Nat.reduceAdd, Nat.reduceLeDiff, Nat.reduceEqDiff, Nat.reduceLT, Nat.reduceSub, reduceCtorEq, Int.reduceEq, Int.reduceLT, Int.reduceLE, Int.reduceNeg, Int.reduceToNat, Int.reduceAdd, Int.reduceSub, Nat.reduceMul, part_cell, part_agg, *]
    | (refine retK_now ?_)
    | (refine retK_now' ?_)
    | (intro q hq)
    | (refine cond_intro (fun hc => ?_) (fun hc => ?_)))
  refine cmd_loop J M0.length (by
    rw [hJ.out]
    exact ⟨0, by omega, rfl, rfl, rfl⟩) ?_
  intro m e O' hh
  rw [hJ.out] at hh
  obtain ⟨i, hi1, rfl, hOH, rfl⟩ := hh
  rw [hOH]
  clear hOH O'
  unfold envM
  by_cases hi : i < M0.length
  rotate_left
  · have e0 : decide (i < M0.length) = false := decide_eq_false hi
    replace hi := (show Aside _ from hi)
    (repeat' first
    | simp (contextual := true) (maxSteps := 4000000) only [fwc, fwe, fww, reduceIte, ↓reduceIte, Nat.reduceAdd, Nat.reduceLeDiff, Nat.reduceEqDiff, Nat.reduceLT, Nat.reduceSub, reduceCtorEq, Int.reduceEq, Int.reduceLT, Int.reduceLE, Int.reduceNeg, Int.reduceToNat, Int.reduceAdd, Int.reduceSub, Nat.reduceMul, ilt_nat, part_cell, part_agg, *]
    | (refine seqK_now ?_)
    | (refine retK_now ?_)
    | (refine retK_now' ?_)
    | (intro q hq)
    | (refine cond_intro (fun hc => ?_) (fun hc => ?_)))
    refine lives4_ok.use ?_
    (repeat' first
    | simp (contextual := true) (maxSteps := 4000000) only [fwc, fwe, fww, reduceIte, ↓reduceIte, Nat.reduceAdd, Nat.reduceLeDiff, Nat.reduceEqDiff, Nat.reduceLT, Nat.reduceSub, reduceCtorEq, Int.reduceEq, Int.reduceLT, Int.reduceLE, Int.reduceNeg, Int.reduceToNat, Int.reduceAdd, Int.reduceSub, Nat.reduceMul, ilt_nat, part_cell, part_agg, *]
    | (refine seqK_now ?_)
    | (refine retK_now ?_)
    | (refine retK_now' ?_)
    | (intro q hq)
    | (refine cond_intro (fun hc => ?_) (fun hc => ?_)))
    refine WeakR.pure hsub.out ?_
    rfl
  have e0 : decide (i < M0.length) = true := decide_eq_true hi
  have hwi : i < 4611686018427387904 := by have := hml.out; have := hMM.out; omega
  have hia := IsL.ia iL.out (i := i) (by rw [List.length_map]; exact hi)
  have hib := IsL.ia (IsT.isL hqT.out) (i := i) (by rw [List.length_map]; exact hi)
  rw [List.getElem_map] at hia hib
  generalize M0[i] = z at *
  rw [show z.av = .agg [.val (.int .u8 z.id.y), .val (.int .i64 z.id.n), .val (.bool z.f), .val (.int .u8 z.d)] from rfl] at hia hib
  have l3 : leavesEq [true, true, false, true] [.val (.int .u8 z.id.y), .val (.int .i64 z.id.n), .val (.bool z.f), .val (.int .u8 z.d)] [.val (.int .u8 z.id.y), .val (.int .i64 z.id.n), .val (.bool z.f), .val (.int .u8 z.d)] = some true := by
    simp [leavesEq, leafEq, intEqA, boolEqA]
  replace hi := (show Aside _ from hi)
  (repeat' first
    | simp (contextual := true) (maxSteps := 4000000) only [fwc, fwe, fww, reduceIte, ↓reduceIte, Nat.reduceAdd, Nat.reduceLeDiff, Nat.reduceEqDiff, Nat.reduceLT, Nat.reduceSub, reduceCtorEq, Int.reduceEq, Int.reduceLT, Int.reduceLE, Int.reduceNeg, Int.reduceToNat, Int.reduceAdd, Int.reduceSub, Nat.reduceMul, ilt_nat, part_cell, part_agg, wrap_succ, *]
    | (refine seqK_now ?_)
    | (refine retK_now ?_)
    | (refine retK_now' ?_)
    | (intro q hq)
    | (refine cond_intro (fun hc => ?_) (fun hc => ?_)))
  refine loopK_now (M0.length - (i + 1)) (by have := hi.out; omega) ?_
  rw [hJ.out]
  exact ⟨i + 1, by have := hi.out; omega, rfl, rfl, rfl⟩
end Go.Proofs.Ytlpngkeegjickab

namespace Go.Proofs.Ytlpngkeegjickab
open Go.Ab Go.ChangeShapes Go.WideShapes Go.ChangeAt Go.RowKit

theorem wf_u8 {n : Int} (h : (Lit.int .u8 n).wf = true) : 0 ≤ n ∧ n ≤ 255 := by
  simpa [Lit.wf, IntKind.min, IntKind.max, IntKind.signed, IntKind.bits] using h
theorem wf_i64 {n : Int} (h : (Lit.int .i64 n).wf = true) : -9223372036854775808 ≤ n ∧ n ≤ 9223372036854775807 := by
  simpa [Lit.wf, IntKind.min, IntKind.max, IntKind.signed, IntKind.bits] using h

def lay2 : Lay := .int .u8 (.int .u8 .nil)
theorem open_2 {a : AV} {es : List AV} (he : elemIs true a es) (h : LayOK lay2 es) : ∃ m n : Nat, m < 256 ∧ n < 256 ∧ a = .agg [.val (.int .u8 m), .val (.int .u8 n)] := by
  obtain ⟨m, vs', rfl, hm, n, vs', rfl, hn, rfl⟩ := h
  have h1 := wf_u8 hm
  have h2 := wf_u8 hn
  refine ⟨m.toNat, n.toNat, by omega, by omega, ?_⟩
  rw [show ((m.toNat : Nat) : Int) = m by omega, show ((n.toNat : Nat) : Int) = n by omega]
  exact he
def layB : Lay := .slice true (.int .u8 (.int .u8 .nil)) .nil
theorem open_B {s : AV} (h : LayOK layB [s]) : ∃ P : List Put, IsL 2 s (P.map Put.av) ∧ ∀ p ∈ P, p.ok := by
  obtain ⟨s', l, vs', e, h1, _, h3, h4⟩ := h
  simp only [List.cons.injEq] at e
  obtain ⟨rfl, _⟩ := e
  obtain ⟨X, rfl, hX⟩ := map_of_all (f := Put.av) (Q := Put.ok) (l := l) (fun x hx => by
    obtain ⟨es, rfl, y, vs', rfl, hw1, n, vs', rfl, hw2, rfl⟩ := h3 x hx
    have k1 := wf_u8 hw1
    have k2 := wf_u8 hw2
    refine ⟨⟨y.toNat, n.toNat⟩, ?_, by unfold Put.ok; simp only; omega⟩
    unfold Put.av
    rw [show ((y.toNat : Nat) : Int) = y by omega, show ((n.toNat : Nat) : Int) = n by omega])
  exact ⟨X, h1, hX⟩
theorem open_id {a : AV} {es : List AV} (he : elemIs true a es) (h : LayOK layId es) : ∃ m n : Int, (0 ≤ m ∧ m ≤ 255) ∧ (-9223372036854775808 ≤ n ∧ n ≤ 9223372036854775807) ∧ a = .agg [.val (.int .u8 m), .val (.int .i64 n)] := by
  obtain ⟨m, vs', rfl, hm, n, vs', rfl, hn, rfl⟩ := h
  exact ⟨m, n, wf_u8 hm, wf_i64 hn, he⟩
theorem OrdersBack_args (vs : List AV) (h : ArgsOK [(false, layB), (false, .int .u8 .nil), (false, .int .u8 .nil)] vs) : PureA Try.prog 6 vs (.val (.bool true)) := by
  obtain ⟨a, vs', es, rfl, rfl, h1, b, vs', es', rfl, rfl, h2, c, vs', es'', rfl, rfl, h3, rfl⟩ := h
  obtain ⟨P, hs, hP⟩ := open_B h1
  obtain ⟨m, vs1, e1, hm, e1'⟩ := h2
  obtain ⟨n, vs2, e2, hn, e2'⟩ := h3
  simp only [List.cons.injEq] at e1 e2
  obtain ⟨rfl, rfl⟩ := e1
  obtain ⟨rfl, rfl⟩ := e2
  have h1 := wf_u8 hm
  have h2 := wf_u8 hn
  have := OrdersBack_ok a P m.toNat n.toNat hs hP (by omega) (by omega)
  rw [show ((m.toNat : Nat) : Int) = m by omega, show ((n.toNat : Nat) : Int) = n by omega] at this
  exact this
set_option maxRecDepth 100000 in
theorem OrdersBack_lifted (os : Os) (started : os.Started) (H : Type) (enc : TypeId × Value → H) :
    ReturnsInHanded {} Try.checked os 6 .any (Rows.ordersBackSpec.pre6 enc Try.prog Try.f6 Rows.ordersBackRow.domain false) (Rows.ordersBackSpec.post enc Try.prog Try.f6 false true false false) := by
  refine returnsInHanded_of_change (C := Try.checked) own started (by kernel_rfl) Try.func6
    (ChangeSpec.witness6 (enc := enc) (C := Try.checked) false ⟨#[], #[.slice none 0 0, .int .u8 0, .int .u8 0], []⟩ 8 (by kernel_rfl) (by kernel_rfl) (by kernel_rfl) (by kernel_rfl)) ?_
  intro W base args ds gs before hval hW _ _
  exact law_calls (lays := [(false, layB), (false, .int .u8 .nil), (false, .int .u8 .nil)]) laid (of_decide_eq_true (by kernel_rfl)) (by kernel_rfl) (by kernel_rfl) rfl (fun ds hds => by
    match ds, hds with
    | [d1, d2, d3], _ => rfl) OrdersBack_args W base args ds gs before hval hW

theorem OrdersBack_holds : Rows.OrdersBackSaid :=
  OpenClaim.holds_of_wide 6 Try.f6 rfl rfl rfl rfl rfl rfl rfl ⟨rfl, rfl, rfl, rfl, rfl⟩ rfl rfl rfl rfl rfl (by kernel_rfl) Try.func6 (by kernel_rfl)
    (of_decide_eq_true (by kernel_rfl)) (by unfold Func.isWrapper; first | (rw [if_pos (by decide +kernel)]; kernel_rfl) | (rw [if_neg (by decide +kernel)]; exact ⟨rfl, rfl⟩))
    (fun os started H enc _ => OrdersBack_lifted os started H enc)

end Go.Proofs.Ytlpngkeegjickab
