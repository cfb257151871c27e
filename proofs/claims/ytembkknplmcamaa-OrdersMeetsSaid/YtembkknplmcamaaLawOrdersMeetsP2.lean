/- The law OrdersMeets of the given program: for every input the call returns true, and its arguments read as before. Here: contracts of functions, and the law. -/
import Derived.Test.YtembkknplmcamaaLawOrdersMeetsP1
set_option linter.unusedSimpArgs false
set_option linter.unusedVariables false
namespace Go.Proofs.Ytembkknplmcamaa
open Go.Ab
attribute [local irreducible] WeakR WeakE CallA YieldA

/-! Meets. -/
theorem own_new {E : TypeId} {sz : Nat} {O0 O' : Heap} {s : AV} {L : List AV} (h : OwN E sz O0 O' s L) {q : Nat} {x : AObj} (hq : O' q = none) : OwN E sz (O0.upd q x) (O'.upd q x) s L := by
  rcases h with ⟨rfl, rfl, rfl⟩ | ⟨hne, id, c, elems, h0, rfl, rfl, h1, h2⟩
  · exact .inl ⟨rfl, rfl, rfl⟩
  · have hq' : ¬ id = q := fun e => by rw [← e, Heap.upd_same] at hq; cases hq
    refine .inr ⟨hne, id, c, elems, by rw [Heap.upd_ne _ _ hq']; exact h0, rfl, ?_, h1, h2⟩
    funext j
    simp only [Heap.upd_apply]
    by_cases hj : j = q
    · subst hj; rw [if_pos rfl, if_neg (Ne.symm hq'), if_pos rfl]
    · rw [if_neg hj, if_neg hj]
def tA (sz : Nat) (L : List AV) : AV := if L = [] then .val (.slice none 0 0) else .list sz true L
theorem tA_T (sz : Nat) (L : List AV) : IsT sz (tA sz L) L := by
  unfold tA
  split
  · rename_i h; exact .inl ⟨rfl, h⟩
  · exact .inr rfl
theorem ClipP_fz (s : AV) (L : List AV) (O0 O' : Heap) (h : OwN 54 4 O0 O' s L) (K : AV → Heap → Prop) (hk : K (tA 4 L) O0) : CallA Try.prog 31 [s] O' K := by
  refine k31.call mix ?_
  unfold c31
  rcases h with ⟨rfl, rfl, rfl⟩ | ⟨hne, id, c, elems, h0, rfl, rfl, h1, h2⟩
  · have e1 : sliceA 4 (.val (.slice none 0 0)) none (some (.val (.int .i64 0))) (some (.val (.int .i64 0))) = some (.val (.slice none 0 0)) := rfl
    (repeat' first
    | simp (contextual := true) (maxSteps := 4000000) only [fwc, fwe, fww, reduceIte, ↓reduceIte, Nat.reduceAdd, Nat.reduceLeDiff, Nat.reduceEqDiff, Nat.reduceLT, Nat.reduceSub, reduceCtorEq, Int.reduceEq, Int.reduceLT, Int.reduceLE, Int.reduceNeg, Int.reduceToNat, Int.reduceAdd, Int.reduceSub, Nat.reduceMul, *]
    | (refine seqK_now ?_)
    | (refine retK_now ?_)
    | (refine retK_now' ?_)
    | (intro q hq)
    | (refine cond_intro (fun hc => ?_) (fun hc => ?_)))
    exact WeakR.now hk
  · have e1 : sliceA 4 (.own id 4 0 L.length c) none (some (.val (.int .i64 L.length))) (some (.val (.int .i64 L.length))) = some (.own id 4 0 L.length (some L.length)) := by
      rw [slice_own_mx (a := 0) (b := L.length) (d := L.length) rfl (by simp [bound_int]) (by simp [bound_int]) (by omega) (by simp [leCap]) (by omega) (by simp [leCap])]
      simp
    have hz := Fz.own (id := id) (sz := 4) (elems := elems) 0 L.length (some L.length) true (by omega) (fun _ => rfl)
    rw [List.drop_zero, h1] at hz
    have hk2 : K (.list 4 true L) O0 := by rw [tA, if_neg hne] at hk; exact hk
    replace hz := (show Aside _ from hz)
    replace hne := (show Aside _ from hne)
    replace h1 := (show Aside _ from h1)
    (repeat' first
    | simp (contextual := true) (maxSteps := 4000000) only [fwc, fwe, fww, reduceIte, ↓reduceIte, Nat.reduceAdd, Nat.reduceLeDiff, Nat.reduceEqDiff, Nat.reduceLT, Nat.reduceSub, reduceCtorEq, Int.reduceEq, Int.reduceLT, Int.reduceLE, Int.reduceNeg, Int.reduceToNat, Int.reduceAdd, Int.reduceSub, Nat.reduceMul, *]
    | (refine seqK_now ?_)
    | (refine retK_now ?_)
    | (refine retK_now' ?_)
    | (intro q hq)
    | (refine cond_intro (fun hc => ?_) (fun hc => ?_)))
    refine WeakR.freeze (Heap.upd_same _ _ _) hz.out (WeakR.now ?_)
    rw [del_upd_new h0]
    exact hk2
theorem ordL_len (d : Int) (L : List Id) : (ordL d L).length = L.length := by
  unfold ordL
  split
  · exact List.length_reverse
  · rfl
theorem own_none {E : TypeId} {sz : Nat} {O0 O' : Heap} {s : AV} {L : List AV} (h : OwN E sz O0 O' s L) {q : Nat} (hq : O' q = none) : O0 q = none := none_of_sub h.sub hq
structure Ps where
  id : Id
  f : Bool
  d : Int
def Ps.av (p : Ps) : AV := .agg [.val (.int .u8 p.id.y), .val (.int .i64 p.id.n), .val (.bool p.f), .val (.int .u8 p.d)]
def meetAt (F B : List (List Id)) (r d pl : Int) (i : Nat) : List Ps :=
  if pl < (if spotL ⟨1, ((i + 1 : Nat) : Int)⟩ r + 4 * shL d < spotL ⟨1, ((i + 1 : Nat) : Int)⟩ r then spotL ⟨1, ((i + 1 : Nat) : Int)⟩ r + 4 * shL d else spotL ⟨1, ((i + 1 : Nat) : Int)⟩ r) ∨
    (if spotL ⟨1, ((i + 1 : Nat) : Int)⟩ r < spotL ⟨1, ((i + 1 : Nat) : Int)⟩ r + 4 * shL d then spotL ⟨1, ((i + 1 : Nat) : Int)⟩ r + 4 * shL d else spotL ⟨1, ((i + 1 : Nat) : Int)⟩ r) < pl then []
  else (ordL (1 - d) (atL F B ⟨1, ((i + 1 : Nat) : Int)⟩)).map fun p => ⟨p, true, 1 - d⟩
def meetTo (F B : List (List Id)) (r d pl : Int) (n : Nat) : List Ps := (List.range n).flatMap (meetAt F B r d pl)
theorem meetTo_succ (F B : List (List Id)) (r d pl : Int) (n : Nat) : meetTo F B r d pl (n + 1) = meetTo F B r d pl n ++ meetAt F B r d pl n := by
  unfold meetTo
  rw [List.range_succ, List.flatMap_append]
  simp

theorem meetAt_len {F B : List (List Id)} (h : ∀ n, (atL F B n).length ≤ 4) (r d pl : Int) (i : Nat) : (meetAt F B r d pl i).length ≤ 4 := by
  have key : ∀ (c : Prop) [Decidable c] (L : List Ps), L.length ≤ 4 → (if c then [] else L).length ≤ 4 := fun c _ L hL => by
    by_cases hc : c
    · rw [if_pos hc]; simp
    · rw [if_neg hc]; exact hL
  unfold meetAt
  exact key _ _ (by rw [List.length_map, ordL_len]; exact h _)
theorem meetTo_len {F B : List (List Id)} (h : ∀ n, (atL F B n).length ≤ 4) (r d pl : Int) : ∀ n, (meetTo F B r d pl n).length ≤ 4 * n
  | 0 => by simp [meetTo]
  | n + 1 => by
    have h1 := meetTo_len h r d pl n
    have h2 := meetAt_len h r d pl n
    rw [meetTo_succ, List.length_append]
    omega
def env12n (q4 : Nat) (r d pl : Int) (s ro : AV) (i n k : Nat) : Env := ((((((((((Env.upd (fun _ => .junk) 63 (.val (.int .i64 k))).upd 62 (.val (.int .i64 n))).upd 61 ro).upd 31 (.val (.int .i64 i))).upd 12 (.val (.int .u8 (1 - d)))).upd 11 s).upd 4 (.optr q4 2 0 0)).upd 3 (.val (.int .i64 pl))).upd 2 (.val (.int .u8 d))).upd 1 (.val (.int .i64 r)))
def env12m (q4 : Nat) (r d pl : Int) (s : AV) (i : Nat) : Env := (((((((Env.upd (fun _ => .junk) 31 (.val (.int .i64 i))).upd 12 (.val (.int .u8 (1 - d)))).upd 11 s).upd 4 (.optr q4 2 0 0)).upd 3 (.val (.int .i64 pl))).upd 2 (.val (.int .u8 d))).upd 1 (.val (.int .i64 r)))

set_option maxHeartbeats 8000000 in
theorem Meets_ok {x : AV} {F B : List (List Id)} (h : IsBeds x F B) (hc : checkL F B = 0) (hm4 : ∀ n, (atL F B n).length ≤ 4) (r d pl : Int) (hd : d = 0 ∨ d = 1) (hr : rackOK r = true) (hmv : moveE r d = 0) (hpl : decide (IntKind.i64.wrap (BitVec.ofInt IntKind.i64.bits pl &&& BitVec.ofInt IntKind.i64.bits 1).toNat = 0) = false) :
    PureA Try.prog 12 [x, .val (.int .i64 r), .val (.int .u8 d), .val (.int .i64 pl)] (.tup [tA 4 ((meetTo F B r d pl 40).map Ps.av), .val (.int .i64 0)]) := by
  have hmo := movable_ok h hc r d hd
  rw [hmv] at hmo
  have hat := fun n => h.at_ n
  obtain ⟨f, b, rfl, c1, c2, s1, s2, _, _⟩ := h.cells
  clear h
  have hsh := shift_ok d hd
  have d0 : decide ((0 : Int) = 0) = true := by decide
  have hwo : IntKind.u8.wrap (1 - d) = 1 - d := wrap_u8 (by omega) (by omega)
  replace hat := (show Aside _ from hat)
  replace hc := (show Aside _ from hc)
  replace hm4 := (show Aside _ from hm4)
  replace hmv := (show Aside _ from hmv)
  replace hd := (show Aside _ from hd)
  replace hr := (show Aside _ from hr)
  intro O
  refine k12.call mix ?_
  unfold c12
  refine seq_go ?_
  (repeat' first
    | simp (contextual := true) (maxSteps := 4000000) only [fwc, fwe, fww, reduceIte, ↓reduceIte, Nat.reduceAdd, Nat.reduceLeDiff, Nat.reduceEqDiff, Nat.reduceLT, Nat.reduceSub, reduceCtorEq, Int.reduceEq, Int.reduceLT, Int.reduceLE, Int.reduceNeg, Int.reduceToNat, Int.reduceAdd, Int.reduceSub, Nat.reduceMul, part_cell, part_agg, *]
    | (refine retK_now ?_)
    | (refine retK_now' ?_)
    | (intro q hq)
    | (refine cond_intro (fun hc => ?_) (fun hc => ?_)))
  revert q
  intro q4 hq4
  refine seqK_now ?_
  refine seq_go ?_
  refine seq_go ?_
  (repeat' first
    | simp (contextual := true) (maxSteps := 4000000) only [fwc, fwe, fww, reduceIte, ↓reduceIte, Nat.reduceAdd, Nat.reduceLeDiff, Nat.reduceEqDiff, Nat.reduceLT, Nat.reduceSub, reduceCtorEq, Int.reduceEq, Int.reduceLT, Int.reduceLE, Int.reduceNeg, Int.reduceToNat, Int.reduceAdd, Int.reduceSub, Nat.reduceMul, part_cell, part_agg, *]
    | (refine retK_now ?_)
    | (refine retK_now' ?_)
    | (intro q hq)
    | (refine cond_intro (fun hc => ?_) (fun hc => ?_)))
  refine hmo.use ?_
  clear hmo
  (repeat' first
    | simp (contextual := true) (maxSteps := 4000000) only [fwc, fwe, fww, reduceIte, ↓reduceIte, Nat.reduceAdd, Nat.reduceLeDiff, Nat.reduceEqDiff, Nat.reduceLT, Nat.reduceSub, reduceCtorEq, Int.reduceEq, Int.reduceLT, Int.reduceLE, Int.reduceNeg, Int.reduceToNat, Int.reduceAdd, Int.reduceSub, Nat.reduceMul, part_cell, part_agg, *]
    | (refine retK_now ?_)
    | (refine retK_now' ?_)
    | (intro q hq)
    | (refine cond_intro (fun hc => ?_) (fun hc => ?_)))
  refine seqK_now ?_
  refine seq_go ?_
  (repeat' first
    | simp (contextual := true) (maxSteps := 4000000) only [fwc, fwe, fww, reduceIte, ↓reduceIte, Nat.reduceAdd, Nat.reduceLeDiff, Nat.reduceEqDiff, Nat.reduceLT, Nat.reduceSub, reduceCtorEq, Int.reduceEq, Int.reduceLT, Int.reduceLE, Int.reduceNeg, Int.reduceToNat, Int.reduceAdd, Int.reduceSub, Nat.reduceMul, part_cell, part_agg, *]
    | (refine retK_now ?_)
    | (refine retK_now' ?_)
    | (intro q hq)
    | (refine cond_intro (fun hc => ?_) (fun hc => ?_)))
  refine seqK_now ?_
  (repeat' first
    | simp (contextual := true) (maxSteps := 4000000) only [fwc, fwe, fww, reduceIte, ↓reduceIte, Nat.reduceAdd, Nat.reduceLeDiff, Nat.reduceEqDiff, Nat.reduceLT, Nat.reduceSub, reduceCtorEq, Int.reduceEq, Int.reduceLT, Int.reduceLE, Int.reduceNeg, Int.reduceToNat, Int.reduceAdd, Int.reduceSub, Nat.reduceMul, part_cell, part_agg, *]
    | (refine retK_now ?_)
    | (refine retK_now' ?_)
    | (intro q hq)
    | (refine cond_intro (fun hc => ?_) (fun hc => ?_)))
  refine seqK_now ?_
  refine seq_go ?_
  refine seq_go ?_
  (repeat' first
    | simp (contextual := true) (maxSteps := 4000000) only [fwc, fwe, fww, reduceIte, ↓reduceIte, Nat.reduceAdd, Nat.reduceLeDiff, Nat.reduceEqDiff, Nat.reduceLT, Nat.reduceSub, reduceCtorEq, Int.reduceEq, Int.reduceLT, Int.reduceLE, Int.reduceNeg, Int.reduceToNat, Int.reduceAdd, Int.reduceSub, Nat.reduceMul, part_cell, part_agg, *]
    | (refine retK_now ?_)
    | (refine retK_now' ?_)
    | (intro q hq)
    | (refine cond_intro (fun hc => ?_) (fun hc => ?_)))
  refine seqK_now ?_
  (repeat' first
    | simp (contextual := true) (maxSteps := 4000000) only [fwc, fwe, fww, reduceIte, ↓reduceIte, Nat.reduceAdd, Nat.reduceLeDiff, Nat.reduceEqDiff, Nat.reduceLT, Nat.reduceSub, reduceCtorEq, Int.reduceEq, Int.reduceLT, Int.reduceLE, Int.reduceNeg, Int.reduceToNat, Int.reduceAdd, Int.reduceSub, Nat.reduceMul, part_cell, part_agg, *]
    | (refine retK_now ?_)
    | (refine retK_now' ?_)
    | (intro q hq)
    | (refine cond_intro (fun hc => ?_) (fun hc => ?_)))
  refine seqK_now ?_
  clear hpl
  refine seq_go ?_
  (repeat' first
    | simp (contextual := true) (maxSteps := 4000000) only [fwc, fwe, fww, reduceIte, ↓reduceIte, Nat.reduceAdd, Nat.reduceLeDiff, Nat.reduceEqDiff, Nat.reduceLT, Nat.reduceSub, reduceCtorEq, Int.reduceEq, Int.reduceLT, Int.reduceLE, Int.reduceNeg, Int.reduceToNat, Int.reduceAdd, Int.reduceSub, Nat.reduceMul, part_cell, part_agg, *]
    | (refine retK_now ?_)
    | (refine retK_now' ?_)
    | (intro q hq)
    | (refine cond_intro (fun hc => ?_) (fun hc => ?_)))
  refine seqK_now ?_
  refine seq_go ?_
  (repeat' first
    | simp (contextual := true) (maxSteps := 4000000) only [fwc, fwe, fww, reduceIte, ↓reduceIte, Nat.reduceAdd, Nat.reduceLeDiff, Nat.reduceEqDiff, Nat.reduceLT, Nat.reduceSub, reduceCtorEq, Int.reduceEq, Int.reduceLT, Int.reduceLE, Int.reduceNeg, Int.reduceToNat, Int.reduceAdd, Int.reduceSub, Nat.reduceMul, part_cell, part_agg, *]
    | (refine retK_now ?_)
    | (refine retK_now' ?_)
    | (intro q hq)
    | (refine cond_intro (fun hc => ?_) (fun hc => ?_)))
  refine seqK_now ?_
  refine seq_go ?_
  refine seq_go ?_
  (repeat' first
    | simp (contextual := true) (maxSteps := 4000000) only [fwc, fwe, fww, reduceIte, ↓reduceIte, Nat.reduceAdd, Nat.reduceLeDiff, Nat.reduceEqDiff, Nat.reduceLT, Nat.reduceSub, reduceCtorEq, Int.reduceEq, Int.reduceLT, Int.reduceLE, Int.reduceNeg, Int.reduceToNat, Int.reduceAdd, Int.reduceSub, Nat.reduceMul, part_cell, part_agg, *]
    | (refine retK_now ?_)
    | (refine retK_now' ?_)
    | (intro q hq)
    | (refine cond_intro (fun hc => ?_) (fun hc => ?_)))
  refine seqK_now ?_
  obtain ⟨I, hI⟩ := hideI (fun m e O' => ∃ (i : Nat) (s : AV) (O0 : Heap), i ≤ 40 ∧ m = 40 - i ∧ O.sub O0 ∧ O0 q4 = some (.arr 26 2 [.agg [f, b]]) ∧ OwN 54 4 O0 O' s ((meetTo F B r d pl i).map Ps.av) ∧ e = env12m q4 r d pl s i)
  (repeat' first
    | simp (contextual := true) (maxSteps := 4000000) only [fwc, fwe, fww, reduceIte, ↓reduceIte, Nat.reduceAdd, Nat.reduceLeDiff, Nat.reduceEqDiff, Nat.reduceLT, Nat.reduceSub, reduceCtorEq, Int.reduceEq, Int.reduceLT, Int.reduceLE, Int.reduceNeg, Int.reduceToNat, Int.reduceAdd, Int.reduceSub, Nat.reduceMul, part_cell, part_agg, *]
    | (refine retK_now ?_)
    | (refine retK_now' ?_)
    | (intro q hq)
    | (refine cond_intro (fun hc => ?_) (fun hc => ?_)))
  refine cmd_loop I 40 (by
    rw [hI.out]
    exact ⟨0, _, _, by omega, rfl, sub_upd hq4 (Heap.sub_refl _), Heap.upd_same _ _ _, OwN.nil, rfl⟩) ?_
  clear hq4
  intro m e O' hh
  rw [hI.out] at hh
  obtain ⟨i, s, O0, hi40, rfl, hO0, h04, hs, rfl⟩ := hh
  unfold env12m
  have f4 := hs.at_ h04
  have sc := hs.cells
  have sst := hs.stor
  replace hO0 := (show Aside _ from hO0)
  replace h04 := (show Aside _ from h04)
  replace hs := (show Aside _ from hs)
  have dj : decide ((i : Int) < 40) = decide (i < 40) := decide_eq_decide.2 (by omega)
  by_cases hi : i < 40
  rotate_left
  · have e0 : decide (i < 40) = false := decide_eq_false hi
    have hie : i = 40 := by omega
    replace hi := (show Aside _ from hi)
    rw [hie] at hs
    replace hie := (show Aside _ from hie)
    (repeat' first
    | simp (contextual := true) (maxSteps := 4000000) only [fwc, fwe, fww, reduceIte, ↓reduceIte, Nat.reduceAdd, Nat.reduceLeDiff, Nat.reduceEqDiff, Nat.reduceLT, Nat.reduceSub, reduceCtorEq, Int.reduceEq, Int.reduceLT, Int.reduceLE, Int.reduceNeg, Int.reduceToNat, Int.reduceAdd, Int.reduceSub, Nat.reduceMul, part_cell, part_agg, *]
    | (refine seqK_now ?_)
    | (refine retK_now ?_)
    | (refine retK_now' ?_)
    | (intro q hq)
    | (refine cond_intro (fun hc => ?_) (fun hc => ?_)))
    refine ClipP_fz s _ O0 O' hs.out _ ?_
    (repeat' first
    | simp (contextual := true) (maxSteps := 4000000) only [fwc, fwe, fww, reduceIte, ↓reduceIte, Nat.reduceAdd, Nat.reduceLeDiff, Nat.reduceEqDiff, Nat.reduceLT, Nat.reduceSub, reduceCtorEq, Int.reduceEq, Int.reduceLT, Int.reduceLE, Int.reduceNeg, Int.reduceToNat, Int.reduceAdd, Int.reduceSub, Nat.reduceMul, part_cell, part_agg, *]
    | (refine seqK_now ?_)
    | (refine retK_now ?_)
    | (refine retK_now' ?_)
    | (intro q hq)
    | (refine cond_intro (fun hc => ?_) (fun hc => ?_)))
    refine WeakR.pure hO0.out ?_
    rfl
  have e0 : decide (i < 40) = true := decide_eq_true hi
  have hwi : i < 4611686018427387904 := by omega
  have hgood : (⟨1, ((i + 1 : Nat) : Int)⟩ : Ndl).bad = false := by unfold Ndl.bad; simp only [Bool.or_eq_false_iff, decide_eq_false_iff_not]; omega
  have hSp := Spot_ok ⟨1, ((i + 1 : Nat) : Int)⟩ r
  rw [if_neg (by rw [hgood, hr.out]; simp)] at hSp
  rw [show (⟨1, ((i + 1 : Nat) : Int)⟩ : Ndl).av = .agg [.val (.int .u8 1), .val (.int .i64 ((i + 1 : Nat) : Int))] from rfl] at hSp
  have hsuc := meetTo_succ F B r d pl i
  obtain ⟨ra, hra, hraT⟩ := hat.out ⟨1, ((i + 1 : Nat) : Int)⟩
  rw [show (⟨1, ((i + 1 : Nat) : Int)⟩ : Ndl).av = .agg [.val (.int .u8 1), .val (.int .i64 ((i + 1 : Nat) : Int))] from rfl] at hra
  have hl4 := hm4.out ⟨1, ((i + 1 : Nat) : Int)⟩
  obtain ⟨ro, hro, hroL⟩ := inOrder_ok ra _ hraT.isL (by omega) (1 - d)
  have hma : meetAt F B r d pl i = if pl < (if spotL ⟨1, ((i + 1 : Nat) : Int)⟩ r + 4 * shL d < spotL ⟨1, ((i + 1 : Nat) : Int)⟩ r then spotL ⟨1, ((i + 1 : Nat) : Int)⟩ r + 4 * shL d else spotL ⟨1, ((i + 1 : Nat) : Int)⟩ r) ∨
    (if spotL ⟨1, ((i + 1 : Nat) : Int)⟩ r < spotL ⟨1, ((i + 1 : Nat) : Int)⟩ r + 4 * shL d then spotL ⟨1, ((i + 1 : Nat) : Int)⟩ r + 4 * shL d else spotL ⟨1, ((i + 1 : Nat) : Int)⟩ r) < pl then []
    else (ordL (1 - d) (atL F B ⟨1, ((i + 1 : Nat) : Int)⟩)).map fun p => ⟨p, true, 1 - d⟩ := rfl
  have hrr : -4 ≤ r ∧ r ≤ 4 := by have := hr.out; unfold rackOK at this; simpa using this
  have hspb : -100 ≤ spotL ⟨1, ((i + 1 : Nat) : Int)⟩ r ∧ spotL ⟨1, ((i + 1 : Nat) : Int)⟩ r ≤ 1000 := by unfold spotL; rw [if_pos rfl]; simp only; omega
  have hshb : shL d = 1 ∨ shL d = -1 := by unfold shL; split <;> simp
  have hol : (ordL (1 - d) (atL F B ⟨1, ((i + 1 : Nat) : Int)⟩)).length ≤ 4 := by rw [ordL_len]; exact hl4
  generalize ordL (1 - d) (atL F B ⟨1, ((i + 1 : Nat) : Int)⟩) = OL at *
  generalize spotL ⟨1, ((i + 1 : Nat) : Int)⟩ r = a at *
  generalize shL d = sh at *
  have hw1 : IntKind.i64.wrap (4 * sh) = 4 * sh := by rw [wrap_i64 (by omega) (by omega)]
  have hw2 : IntKind.i64.wrap (a + 4 * sh) = a + 4 * sh := by rw [wrap_i64 (by omega) (by omega)]
  have hw3 : IntKind.i64.wrap ((i : Int) + 1) = ((i + 1 : Nat) : Int) := by rw [wrap_i64 (by omega) (by omega)]; omega
  obtain ⟨a2, ha2⟩ : ∃ z, a + 4 * sh = z := ⟨_, rfl⟩
  rw [ha2] at hma
  replace hw2 : IntKind.i64.wrap (a + 4 * sh) = a2 := hw2.trans ha2
  replace ha2 := (show Aside _ from ha2)
  obtain ⟨lo, hlo⟩ : ∃ z, (if a2 < a then a2 else a) = z := ⟨_, rfl⟩
  obtain ⟨hh', hhi⟩ : ∃ z, (if a < a2 then a2 else a) = z := ⟨_, rfl⟩
  rw [hlo, hhi] at hma
  have rc := hroL.cells
  have rs := hroL.stor
  have rl := hroL.len
  rw [List.length_map] at rl
  have rac := hraT.isL.cells
  have ras := hraT.isL.stor
  replace hroL := (show Aside _ from hroL)
  replace hraT := (show Aside _ from hraT)
  replace hma := (show Aside _ from hma)
  replace hsuc := (show Aside _ from hsuc)
  replace hspb := (show Aside _ from hspb)
  replace hshb := (show Aside _ from hshb)
  replace hrr := (show Aside _ from hrr)
  replace hl4 := (show Aside _ from hl4)
  replace hgood := (show Aside _ from hgood)
  replace hol := (show Aside _ from hol)
  refine seq_go ?_
  (repeat' first
    | simp (contextual := true) (maxSteps := 4000000) only [fwc, fwe, fww, reduceIte, ↓reduceIte, Nat.reduceAdd, Nat.reduceLeDiff, Nat.reduceEqDiff, Nat.reduceLT, Nat.reduceSub, reduceCtorEq, Int.reduceEq, Int.reduceLT, Int.reduceLE, Int.reduceNeg, Int.reduceToNat, Int.reduceAdd, Int.reduceSub, Nat.reduceMul, ilt_nat, part_cell, part_agg, *]
    | (refine retK_now ?_)
    | (refine retK_now' ?_)
    | (intro q hq)
    | (refine cond_intro (fun hc => ?_) (fun hc => ?_)))
  refine seqK_now ?_
  refine seq_go ?_
  (repeat' first
    | simp (contextual := true) (maxSteps := 4000000) only [fwc, fwe, fww, reduceIte, ↓reduceIte, Nat.reduceAdd, Nat.reduceLeDiff, Nat.reduceEqDiff, Nat.reduceLT, Nat.reduceSub, reduceCtorEq, Int.reduceEq, Int.reduceLT, Int.reduceLE, Int.reduceNeg, Int.reduceToNat, Int.reduceAdd, Int.reduceSub, Nat.reduceMul, ilt_nat, part_cell, part_agg, *]
    | (refine retK_now ?_)
    | (refine retK_now' ?_)
    | (intro q hq)
    | (refine cond_intro (fun hc => ?_) (fun hc => ?_)))
  refine seqK_now ?_
  refine seq_go ?_
  refine seq_go ?_
  (repeat' first
    | simp (contextual := true) (maxSteps := 4000000) only [fwc, fwe, fww, reduceIte, ↓reduceIte, Nat.reduceAdd, Nat.reduceLeDiff, Nat.reduceEqDiff, Nat.reduceLT, Nat.reduceSub, reduceCtorEq, Int.reduceEq, Int.reduceLT, Int.reduceLE, Int.reduceNeg, Int.reduceToNat, Int.reduceAdd, Int.reduceSub, Nat.reduceMul, ilt_nat, part_cell, part_agg, *]
    | (refine retK_now ?_)
    | (refine retK_now' ?_)
    | (intro q hq)
    | (refine cond_intro (fun hc => ?_) (fun hc => ?_)))
  refine seqK_now ?_
  refine seq_go ?_
  (repeat' first
    | simp (contextual := true) (maxSteps := 4000000) only [fwc, fwe, fww, reduceIte, ↓reduceIte, Nat.reduceAdd, Nat.reduceLeDiff, Nat.reduceEqDiff, Nat.reduceLT, Nat.reduceSub, reduceCtorEq, Int.reduceEq, Int.reduceLT, Int.reduceLE, Int.reduceNeg, Int.reduceToNat, Int.reduceAdd, Int.reduceSub, Nat.reduceMul, ilt_nat, part_cell, part_agg, *]
    | (refine retK_now ?_)
    | (refine retK_now' ?_)
    | (intro q hq)
    | (refine cond_intro (fun hc => ?_) (fun hc => ?_)))
  revert q
  intro q14 hq14
  refine seqK_now ?_
  refine seq_go ?_
  (repeat' first
    | simp (contextual := true) (maxSteps := 4000000) only [fwc, fwe, fww, reduceIte, ↓reduceIte, Nat.reduceAdd, Nat.reduceLeDiff, Nat.reduceEqDiff, Nat.reduceLT, Nat.reduceSub, reduceCtorEq, Int.reduceEq, Int.reduceLT, Int.reduceLE, Int.reduceNeg, Int.reduceToNat, Int.reduceAdd, Int.reduceSub, Nat.reduceMul, ilt_nat, part_cell, part_agg, *]
    | (refine retK_now ?_)
    | (refine retK_now' ?_)
    | (intro q hq)
    | (refine cond_intro (fun hc => ?_) (fun hc => ?_)))
  refine hSp.use ?_
  (repeat' first
    | simp (contextual := true) (maxSteps := 4000000) only [fwc, fwe, fww, reduceIte, ↓reduceIte, Nat.reduceAdd, Nat.reduceLeDiff, Nat.reduceEqDiff, Nat.reduceLT, Nat.reduceSub, reduceCtorEq, Int.reduceEq, Int.reduceLT, Int.reduceLE, Int.reduceNeg, Int.reduceToNat, Int.reduceAdd, Int.reduceSub, Nat.reduceMul, ilt_nat, part_cell, part_agg, *]
    | (refine retK_now ?_)
    | (refine retK_now' ?_)
    | (intro q hq)
    | (refine cond_intro (fun hc => ?_) (fun hc => ?_)))
  refine seqK_now ?_
  refine seq_go ?_
  (repeat' first
    | simp (contextual := true) (maxSteps := 4000000) only [fwc, fwe, fww, reduceIte, ↓reduceIte, Nat.reduceAdd, Nat.reduceLeDiff, Nat.reduceEqDiff, Nat.reduceLT, Nat.reduceSub, reduceCtorEq, Int.reduceEq, Int.reduceLT, Int.reduceLE, Int.reduceNeg, Int.reduceToNat, Int.reduceAdd, Int.reduceSub, Nat.reduceMul, ilt_nat, part_cell, part_agg, *]
    | (refine retK_now ?_)
    | (refine retK_now' ?_)
    | (intro q hq)
    | (refine cond_intro (fun hc => ?_) (fun hc => ?_)))
  refine hsh.use ?_
  (repeat' first
    | simp (contextual := true) (maxSteps := 4000000) only [fwc, fwe, fww, reduceIte, ↓reduceIte, Nat.reduceAdd, Nat.reduceLeDiff, Nat.reduceEqDiff, Nat.reduceLT, Nat.reduceSub, reduceCtorEq, Int.reduceEq, Int.reduceLT, Int.reduceLE, Int.reduceNeg, Int.reduceToNat, Int.reduceAdd, Int.reduceSub, Nat.reduceMul, ilt_nat, part_cell, part_agg, mm_min, mm_max, *]
    | (refine retK_now ?_)
    | (refine retK_now' ?_)
    | (intro q hq)
    | (refine cond_intro (fun hc => ?_) (fun hc => ?_)))
  refine seqK_now ?_
  refine seq_go ?_
  have o14 := own_none hs.out hq14
  have hsub14 := sub_new hO0.out o14 (v := .arr 38 2 [.agg [.val (.int .u8 1), .val (.int .i64 ((i + 1 : Nat) : Int))]])
  have hs14 := own_new hs.out (x := .arr 38 2 [.agg [.val (.int .u8 1), .val (.int .i64 ((i + 1 : Nat) : Int))]]) hq14
  have h14 : (O0.upd q14 (.arr 38 2 [.agg [.val (.int .u8 1), .val (.int .i64 ((i + 1 : Nat) : Int))]])) q4 = some (.arr 26 2 [.agg [f, b]]) := upd_keep o14 h04.out
  have n414 := ne_of f4 hq14
  replace hsub14 := (show Aside _ from hsub14)
  replace hs14 := (show Aside _ from hs14)
  replace h14 := (show Aside _ from h14)
  replace o14 := (show Aside _ from o14)
  by_cases p1 : pl < lo
  · have g1 : decide (pl < lo) = true := decide_eq_true p1
    have hnil : meetTo F B r d pl (i + 1) = meetTo F B r d pl i := by rw [hsuc.out, hma.out, if_pos (.inl p1), List.append_nil]
    replace p1 := (show Aside _ from p1)
    replace hnil := (show Aside _ from hnil)
    (repeat' first
    | simp (contextual := true) (maxSteps := 4000000) only [fwc, fwe, fww, reduceIte, ↓reduceIte, Nat.reduceAdd, Nat.reduceLeDiff, Nat.reduceEqDiff, Nat.reduceLT, Nat.reduceSub, reduceCtorEq, Int.reduceEq, Int.reduceLT, Int.reduceLE, Int.reduceNeg, Int.reduceToNat, Int.reduceAdd, Int.reduceSub, Nat.reduceMul, ilt_nat, part_cell, part_agg, mm_min, mm_max, wrap_succ, *]
    | (refine seqK_now ?_)
    | (refine retK_now ?_)
    | (refine retK_now' ?_)
    | (intro q hq)
    | (refine cond_intro (fun hc => ?_) (fun hc => ?_)))
    refine loopK_now (40 - (i + 1)) (by omega) ?_
    rw [hI.out]
    exact ⟨i + 1, s, _, by omega, rfl, hsub14.out, h14.out, by rw [hnil.out]; exact hs14.out, rfl⟩
  have g1 : decide (pl < lo) = false := decide_eq_false p1
  by_cases p2 : hh' < pl
  · have g2 : decide (hh' < pl) = true := decide_eq_true p2
    have hnil : meetTo F B r d pl (i + 1) = meetTo F B r d pl i := by rw [hsuc.out, hma.out, if_pos (.inr p2), List.append_nil]
    replace p1 := (show Aside _ from p1)
    replace p2 := (show Aside _ from p2)
    replace hnil := (show Aside _ from hnil)
    (repeat' first
    | simp (contextual := true) (maxSteps := 4000000) only [fwc, fwe, fww, reduceIte, ↓reduceIte, Nat.reduceAdd, Nat.reduceLeDiff, Nat.reduceEqDiff, Nat.reduceLT, Nat.reduceSub, reduceCtorEq, Int.reduceEq, Int.reduceLT, Int.reduceLE, Int.reduceNeg, Int.reduceToNat, Int.reduceAdd, Int.reduceSub, Nat.reduceMul, ilt_nat, part_cell, part_agg, mm_min, mm_max, wrap_succ, *]
    | (refine seqK_now ?_)
    | (refine retK_now ?_)
    | (refine retK_now' ?_)
    | (intro q hq)
    | (refine cond_intro (fun hc => ?_) (fun hc => ?_)))
    refine loopK_now (40 - (i + 1)) (by omega) ?_
    rw [hI.out]
    exact ⟨i + 1, s, _, by omega, rfl, hsub14.out, h14.out, by rw [hnil.out]; exact hs14.out, rfl⟩
  have g2 : decide (hh' < pl) = false := decide_eq_false p2
  have hcat : meetTo F B r d pl (i + 1) = meetTo F B r d pl i ++ OL.map fun p => (⟨p, true, 1 - d⟩ : Ps) := by rw [hsuc.out, hma.out, if_neg (fun h => h.elim p1 p2)]
  replace p1 := (show Aside _ from p1)
  replace p2 := (show Aside _ from p2)
  replace hcat := (show Aside _ from hcat)
  (repeat' first
    | simp (contextual := true) (maxSteps := 4000000) only [fwc, fwe, fww, reduceIte, ↓reduceIte, Nat.reduceAdd, Nat.reduceLeDiff, Nat.reduceEqDiff, Nat.reduceLT, Nat.reduceSub, reduceCtorEq, Int.reduceEq, Int.reduceLT, Int.reduceLE, Int.reduceNeg, Int.reduceToNat, Int.reduceAdd, Int.reduceSub, Nat.reduceMul, ilt_nat, part_cell, part_agg, mm_min, mm_max, wrap_succ, *]
    | (refine retK_now ?_)
    | (refine retK_now' ?_)
    | (intro q hq)
    | (refine cond_intro (fun hc => ?_) (fun hc => ?_)))
  refine seqK_now ?_
  (repeat' first
    | simp (contextual := true) (maxSteps := 4000000) only [fwc, fwe, fww, reduceIte, ↓reduceIte, Nat.reduceAdd, Nat.reduceLeDiff, Nat.reduceEqDiff, Nat.reduceLT, Nat.reduceSub, reduceCtorEq, Int.reduceEq, Int.reduceLT, Int.reduceLE, Int.reduceNeg, Int.reduceToNat, Int.reduceAdd, Int.reduceSub, Nat.reduceMul, ilt_nat, part_cell, part_agg, mm_min, mm_max, wrap_succ, *]
    | (refine retK_now ?_)
    | (refine retK_now' ?_)
    | (intro q hq)
    | (refine cond_intro (fun hc => ?_) (fun hc => ?_)))
  refine seqK_now ?_
  refine seq_go ?_
  (repeat' first
    | simp (contextual := true) (maxSteps := 4000000) only [fwc, fwe, fww, reduceIte, ↓reduceIte, Nat.reduceAdd, Nat.reduceLeDiff, Nat.reduceEqDiff, Nat.reduceLT, Nat.reduceSub, reduceCtorEq, Int.reduceEq, Int.reduceLT, Int.reduceLE, Int.reduceNeg, Int.reduceToNat, Int.reduceAdd, Int.reduceSub, Nat.reduceMul, ilt_nat, part_cell, part_agg, *]
    | (refine retK_now ?_)
    | (refine retK_now' ?_)
    | (intro q hq)
    | (refine cond_intro (fun hc => ?_) (fun hc => ?_)))
  refine hra.use ?_
  (repeat' first
    | simp (contextual := true) (maxSteps := 4000000) only [fwc, fwe, fww, reduceIte, ↓reduceIte, Nat.reduceAdd, Nat.reduceLeDiff, Nat.reduceEqDiff, Nat.reduceLT, Nat.reduceSub, reduceCtorEq, Int.reduceEq, Int.reduceLT, Int.reduceLE, Int.reduceNeg, Int.reduceToNat, Int.reduceAdd, Int.reduceSub, Nat.reduceMul, ilt_nat, part_cell, part_agg, *]
    | (refine retK_now ?_)
    | (refine retK_now' ?_)
    | (intro q hq)
    | (refine cond_intro (fun hc => ?_) (fun hc => ?_)))
  refine hro.use ?_
  (repeat' first
    | simp (contextual := true) (maxSteps := 4000000) only [fwc, fwe, fww, reduceIte, ↓reduceIte, Nat.reduceAdd, Nat.reduceLeDiff, Nat.reduceEqDiff, Nat.reduceLT, Nat.reduceSub, reduceCtorEq, Int.reduceEq, Int.reduceLT, Int.reduceLE, Int.reduceNeg, Int.reduceToNat, Int.reduceAdd, Int.reduceSub, Nat.reduceMul, ilt_nat, part_cell, part_agg, *]
    | (refine retK_now ?_)
    | (refine retK_now' ?_)
    | (intro q hq)
    | (refine cond_intro (fun hc => ?_) (fun hc => ?_)))
  refine seqK_now ?_
  have hML := meetTo_len hm4.out r d pl i
  obtain ⟨J, hJ⟩ := hideI (fun m e O' => ∃ (k : Nat) (s : AV) (O1 : Heap), k ≤ OL.length ∧ m = OL.length - k ∧ O.sub O1 ∧ O1 q4 = some (.arr 26 2 [.agg [f, b]]) ∧ OwN 54 4 O1 O' s ((meetTo F B r d pl i).map Ps.av ++ (OL.take k).map fun p => Ps.av ⟨p, true, 1 - d⟩) ∧ e = env12n q4 r d pl s ro i OL.length k)
  (repeat' first
    | simp (contextual := true) (maxSteps := 4000000) only [fwc, fwe, fww, reduceIte, ↓reduceIte, Nat.reduceAdd, Nat.reduceLeDiff, Nat.reduceEqDiff, Nat.reduceLT, Nat.reduceSub, reduceCtorEq, Int.reduceEq, Int.reduceLT, Int.reduceLE, Int.reduceNeg, Int.reduceToNat, Int.reduceAdd, Int.reduceSub, Nat.reduceMul, ilt_nat, part_cell, part_agg, *]
    | (refine retK_now ?_)
    | (refine retK_now' ?_)
    | (intro q hq)
    | (refine cond_intro (fun hc => ?_) (fun hc => ?_)))
  refine cmd_loop J OL.length (by
    rw [hJ.out]
    exact ⟨0, s, _, by omega, rfl, hsub14.out, h14.out, by rw [List.take_zero, List.map_nil, List.append_nil]; exact hs14.out, rfl⟩) ?_
  clear hs hs14 h14 hsub14 hq14 o14 n414 f4 h04 hO0 sc sst
  intro m e O2 hh
  rw [hJ.out] at hh
  obtain ⟨k, s2, O1, hk4, rfl, hO1, h1, hs2, rfl⟩ := hh
  unfold env12n
  have f4 := hs2.at_ h1
  have sc := hs2.cells
  have sst := hs2.stor
  replace hO1 := (show Aside _ from hO1)
  replace h1 := (show Aside _ from h1)
  replace hs2 := (show Aside _ from hs2)
  by_cases hk : k < OL.length
  rotate_left
  · have e1 : decide (k < OL.length) = false := decide_eq_false hk
    have hke : k = OL.length := by omega
    replace hk := (show Aside _ from hk)
    rw [hke, List.take_length] at hs2
    replace hke := (show Aside _ from hke)
    (repeat' first
    | simp (contextual := true) (maxSteps := 4000000) only [fwc, fwe, fww, reduceIte, ↓reduceIte, Nat.reduceAdd, Nat.reduceLeDiff, Nat.reduceEqDiff, Nat.reduceLT, Nat.reduceSub, reduceCtorEq, Int.reduceEq, Int.reduceLT, Int.reduceLE, Int.reduceNeg, Int.reduceToNat, Int.reduceAdd, Int.reduceSub, Nat.reduceMul, ilt_nat, part_cell, part_agg, wrap_succ, *]
    | (refine seqK_now ?_)
    | (refine retK_now ?_)
    | (refine retK_now' ?_)
    | (intro q hq)
    | (refine cond_intro (fun hc => ?_) (fun hc => ?_)))
    refine loopK_now (40 - (i + 1)) (by omega) ?_
    rw [hI.out]
    refine ⟨i + 1, s2, O1, by omega, rfl, hO1.out, h1.out, ?_, rfl⟩
    rw [hcat.out, List.map_append, List.map_map]
    exact hs2.out
  have e1 : decide (k < OL.length) = true := decide_eq_true hk
  have hwk : k < 4611686018427387904 := by have := hol.out; omega
  have hia := IsL.ia hroL.out (i := k) (by rw [List.length_map]; exact hk)
  rw [List.getElem_map] at hia
  have htk : OL.take (k + 1) = OL.take k ++ [OL[k]] := by rw [List.take_add_one, List.getElem?_eq_getElem hk]; rfl
  have htl : (OL.take k).length ≤ k := List.length_take_le k OL
  generalize OL[k] = y at *
  rw [show y.av = .agg [.val (.int .u8 y.y), .val (.int .i64 y.n)] from rfl] at hia
  replace hk := (show Aside _ from hk)
  replace htk := (show Aside _ from htk)
  replace htl := (show Aside _ from htl)
  replace hML := (show Aside _ from hML)
  refine seq_go ?_
  (repeat' first
    | simp (contextual := true) (maxSteps := 4000000) only [fwc, fwe, fww, reduceIte, ↓reduceIte, Nat.reduceAdd, Nat.reduceLeDiff, Nat.reduceEqDiff, Nat.reduceLT, Nat.reduceSub, reduceCtorEq, Int.reduceEq, Int.reduceLT, Int.reduceLE, Int.reduceNeg, Int.reduceToNat, Int.reduceAdd, Int.reduceSub, Nat.reduceMul, ilt_nat, part_cell, part_agg, *]
    | (refine retK_now ?_)
    | (refine retK_now' ?_)
    | (intro q hq)
    | (refine cond_intro (fun hc => ?_) (fun hc => ?_)))
  refine seqK_now ?_
  refine seq_go ?_
  (repeat' first
    | simp (contextual := true) (maxSteps := 4000000) only [fwc, fwe, fww, reduceIte, ↓reduceIte, Nat.reduceAdd, Nat.reduceLeDiff, Nat.reduceEqDiff, Nat.reduceLT, Nat.reduceSub, reduceCtorEq, Int.reduceEq, Int.reduceLT, Int.reduceLE, Int.reduceNeg, Int.reduceToNat, Int.reduceAdd, Int.reduceSub, Nat.reduceMul, ilt_nat, part_cell, part_agg, *]
    | (refine retK_now ?_)
    | (refine retK_now' ?_)
    | (intro q hq)
    | (refine cond_intro (fun hc => ?_) (fun hc => ?_)))
  refine seqK_now ?_
  refine seq_go ?_
  refine seq_go ?_
  (repeat' first
    | simp (contextual := true) (maxSteps := 4000000) only [fwc, fwe, fww, reduceIte, ↓reduceIte, Nat.reduceAdd, Nat.reduceLeDiff, Nat.reduceEqDiff, Nat.reduceLT, Nat.reduceSub, reduceCtorEq, Int.reduceEq, Int.reduceLT, Int.reduceLE, Int.reduceNeg, Int.reduceToNat, Int.reduceAdd, Int.reduceSub, Nat.reduceMul, ilt_nat, part_cell, part_agg, *]
    | (refine retK_now ?_)
    | (refine retK_now' ?_)
    | (intro q hq)
    | (refine cond_intro (fun hc => ?_) (fun hc => ?_)))
  revert q
  intro q18 hq18
  refine seqK_now ?_
  have o18 := own_none hs2.out hq18
  have hsub18 := sub_new hO1.out o18 (v := .arr 35 2 [.agg [.val (.int .u8 y.y), .val (.int .i64 y.n)]])
  have hs18 := own_new hs2.out (x := .arr 35 2 [.agg [.val (.int .u8 y.y), .val (.int .i64 y.n)]]) hq18
  have h18 : (O1.upd q18 (.arr 35 2 [.agg [.val (.int .u8 y.y), .val (.int .i64 y.n)]])) q4 = some (.arr 26 2 [.agg [f, b]]) := upd_keep o18 h1.out
  replace hsub18 := (show Aside _ from hsub18)
  replace hs18 := (show Aside _ from hs18)
  replace h18 := (show Aside _ from h18)
  replace o18 := (show Aside _ from o18)
  (repeat' first
    | simp (contextual := true) (maxSteps := 4000000) only [fwc, fwe, fww, reduceIte, ↓reduceIte, Nat.reduceAdd, Nat.reduceLeDiff, Nat.reduceEqDiff, Nat.reduceLT, Nat.reduceSub, reduceCtorEq, Int.reduceEq, Int.reduceLT, Int.reduceLE, Int.reduceNeg, Int.reduceToNat, Int.reduceAdd, Int.reduceSub, Nat.reduceMul, ilt_nat, part_cell, part_agg, *]
    | (refine retK_now ?_)
    | (refine retK_now' ?_)
    | (intro q hq)
    | (refine cond_intro (fun hc => ?_) (fun hc => ?_)))
  refine own_app hs18.out (X := [Ps.av ⟨y, true, 1 - d⟩]) (.inr ⟨true, rfl⟩) (fits_of (by have := hML.out; have := htl.out; have := hol.out; have := hk.out; simp only [List.length_append, List.length_map, List.length_cons, List.length_nil]; omega) (by omega)) fun s3 O3 h3 => ?_
  have sc3 := h3.cells
  have sst3 := h3.stor
  replace h3 := (show Aside _ from h3)
  (repeat' first
    | simp (contextual := true) (maxSteps := 4000000) only [fwc, fwe, fww, reduceIte, ↓reduceIte, Nat.reduceAdd, Nat.reduceLeDiff, Nat.reduceEqDiff, Nat.reduceLT, Nat.reduceSub, reduceCtorEq, Int.reduceEq, Int.reduceLT, Int.reduceLE, Int.reduceNeg, Int.reduceToNat, Int.reduceAdd, Int.reduceSub, Nat.reduceMul, ilt_nat, part_cell, part_agg, wrap_succ, *]
    | (refine seqK_now ?_)
    | (refine retK_now ?_)
    | (refine retK_now' ?_)
    | (intro q hq)
    | (refine cond_intro (fun hc => ?_) (fun hc => ?_)))
  refine loopK_now (OL.length - (k + 1)) (by have := hk.out; omega) ?_
  rw [hJ.out]
  refine ⟨k + 1, s3, _, by have := hk.out; omega, rfl, hsub18.out, h18.out, ?_, rfl⟩
  rw [htk.out, List.map_append, ← List.append_assoc]
  exact h3.out
end Go.Proofs.Ytembkknplmcamaa

namespace Go.Proofs.Ytembkknplmcamaa
open Go.Ab
attribute [local irreducible] WeakR WeakE CallA YieldA

/-! Step. -/
theorem ClipC_fz (s : AV) (L : List AV) (O0 O' : Heap) (h : OwN 47 5 O0 O' s L) (K : AV → Heap → Prop) (hk : K (tA 5 L) O0) : CallA Try.prog 30 [s] O' K := by
  refine k30.call mix ?_
  unfold c30
  rcases h with ⟨rfl, rfl, rfl⟩ | ⟨hne, id, c, elems, h0, rfl, rfl, h1, h2⟩
  · have e1 : sliceA 5 (.val (.slice none 0 0)) none (some (.val (.int .i64 0))) (some (.val (.int .i64 0))) = some (.val (.slice none 0 0)) := rfl
    (repeat' first
    | simp (contextual := true) (maxSteps := 4000000) only [fwc, fwe, fww, reduceIte, ↓reduceIte, Nat.reduceAdd, Nat.reduceLeDiff, Nat.reduceEqDiff, Nat.reduceLT, Nat.reduceSub, reduceCtorEq, Int.reduceEq, Int.reduceLT, Int.reduceLE, Int.reduceNeg, Int.reduceToNat, Int.reduceAdd, Int.reduceSub, Nat.reduceMul, *]
    | (refine seqK_now ?_)
    | (refine retK_now ?_)
    | (refine retK_now' ?_)
    | (intro q hq)
    | (refine cond_intro (fun hc => ?_) (fun hc => ?_)))
    exact WeakR.now hk
  · have e1 : sliceA 5 (.own id 5 0 L.length c) none (some (.val (.int .i64 L.length))) (some (.val (.int .i64 L.length))) = some (.own id 5 0 L.length (some L.length)) := by
      rw [slice_own_mx (a := 0) (b := L.length) (d := L.length) rfl (by simp [bound_int]) (by simp [bound_int]) (by omega) (by simp [leCap]) (by omega) (by simp [leCap])]
      simp
    have hz := Fz.own (id := id) (sz := 5) (elems := elems) 0 L.length (some L.length) true (by omega) (fun _ => rfl)
    rw [List.drop_zero, h1] at hz
    have hk2 : K (.list 5 true L) O0 := by rw [tA, if_neg hne] at hk; exact hk
    replace hz := (show Aside _ from hz)
    replace hne := (show Aside _ from hne)
    replace h1 := (show Aside _ from h1)
    (repeat' first
    | simp (contextual := true) (maxSteps := 4000000) only [fwc, fwe, fww, reduceIte, ↓reduceIte, Nat.reduceAdd, Nat.reduceLeDiff, Nat.reduceEqDiff, Nat.reduceLT, Nat.reduceSub, reduceCtorEq, Int.reduceEq, Int.reduceLT, Int.reduceLE, Int.reduceNeg, Int.reduceToNat, Int.reduceAdd, Int.reduceSub, Nat.reduceMul, *]
    | (refine seqK_now ?_)
    | (refine retK_now ?_)
    | (refine retK_now' ?_)
    | (intro q hq)
    | (refine cond_intro (fun hc => ?_) (fun hc => ?_)))
    refine WeakR.freeze (Heap.upd_same _ _ _) hz.out (WeakR.now ?_)
    rw [del_upd_new h0]
    exact hk2
structure Cr where
  a : Id
  b : Id
  s : Int
def Cr.av (p : Cr) : AV := .agg [.val (.int .u8 p.a.y), .val (.int .i64 p.a.n), .val (.int .u8 p.b.y), .val (.int .i64 p.b.n), .val (.int .i64 p.s)]
def crs (d : Int) (x y : Id) : Cr := if d = 1 then ⟨x, y, -1⟩ else ⟨y, x, 1⟩
def stepN (d : Int) (i : Nat) : Ndl := ⟨1, if d = 1 then 40 - (i : Int) else (i : Int) + 1⟩
def stepA (r d : Int) (i : Nat) : Int := spotL (stepN d i) r + 2 * shL d
def crossL (d : Int) (xs ys : List Id) : List Cr := xs.flatMap fun x => ys.map (crs d x)
def stepAt (F B : List (List Id)) (r d : Int) (i : Nat) : List Cr :=
  if atE (stepA r d i) r = 0 then crossL d (ordL (1 - d) (atL F B (stepN d i))) (ordL d (atL F B (atN (stepA r d i) r))) else []
def stepTo (F B : List (List Id)) (r d : Int) (n : Nat) : List Cr := (List.range n).flatMap (stepAt F B r d)
theorem stepTo_succ (F B : List (List Id)) (r d : Int) (n : Nat) : stepTo F B r d (n + 1) = stepTo F B r d n ++ stepAt F B r d n := by
  unfold stepTo
  rw [List.range_succ, List.flatMap_append]
  simp
theorem cross_len (d : Int) (xs ys : List Id) (hy : ys.length ≤ 4) : (crossL d xs ys).length ≤ 4 * xs.length := by
  unfold crossL
  induction xs with
  | nil => simp
  | cons x xs ih =>
    rw [List.flatMap_cons, List.length_append, List.length_map, List.length_cons]
    omega
theorem stepTo_len {F B : List (List Id)} (h : ∀ n, (atL F B n).length ≤ 4) (r d : Int) : ∀ n, (stepTo F B r d n).length ≤ 16 * n
  | 0 => by simp [stepTo]
  | n + 1 => by
    have h1 := stepTo_len h r d n
    have h2 : (stepAt F B r d n).length ≤ 16 := by
      unfold stepAt
      by_cases hc : atE (stepA r d n) r = 0
      · rw [if_pos hc]
        have := cross_len d (ordL (1 - d) (atL F B (stepN d n))) (ordL d (atL F B (atN (stepA r d n) r))) (by rw [ordL_len]; exact h _)
        rw [ordL_len] at this
        have := h (stepN d n)
        omega
      · rw [if_neg hc]; simp
    rw [stepTo_succ, List.length_append]
    omega
def env9h (q3 : Nat) (r d : Int) (s : AV) (i : Nat) : Env := ((((((Env.upd (fun _ => .junk) 28 (.val (.int .i64 i))).upd 10 (.val (.int .u8 (1 - d)))).upd 9 s).upd 3 (.optr q3 2 0 0)).upd 2 (.val (.int .u8 d))).upd 1 (.val (.int .i64 r)))
def env9q (q3 q12 : Nat) (r d : Int) (s : AV) (i : Nat) : Env := (((((((Env.upd (fun _ => .junk) 28 (.val (.int .i64 i))).upd 12 (.optr q12 2 0 0)).upd 10 (.val (.int .u8 (1 - d)))).upd 9 s).upd 3 (.optr q3 2 0 0)).upd 2 (.val (.int .u8 d))).upd 1 (.val (.int .i64 r)))
def env9k (q3 q13 : Nat) (r d : Int) (s ro : AV) (i n k : Nat) : Env := ((((((((((Env.upd (fun _ => .junk) 59 (.val (.int .i64 k))).upd 58 (.val (.int .i64 n))).upd 57 ro).upd 28 (.val (.int .i64 i))).upd 13 (.optr q13 2 0 0)).upd 10 (.val (.int .u8 (1 - d)))).upd 9 s).upd 3 (.optr q3 2 0 0)).upd 2 (.val (.int .u8 d))).upd 1 (.val (.int .i64 r)))
def env9l (q3 q13 q16 : Nat) (r d : Int) (s ro rp : AV) (i n k m j : Nat) : Env := ((((((((((((((Env.upd (fun _ => .junk) 69 (.val (.int .i64 j))).upd 68 (.val (.int .i64 m))).upd 67 rp).upd 59 (.val (.int .i64 k))).upd 58 (.val (.int .i64 n))).upd 57 ro).upd 28 (.val (.int .i64 i))).upd 16 (.optr q16 2 0 0)).upd 13 (.optr q13 2 0 0)).upd 10 (.val (.int .u8 (1 - d)))).upd 9 s).upd 3 (.optr q3 2 0 0)).upd 2 (.val (.int .u8 d))).upd 1 (.val (.int .i64 r)))

set_option maxHeartbeats 8000000 in
theorem Step_ok {x : AV} {F B : List (List Id)} (h : IsBeds x F B) (hc : checkL F B = 0) (hm4 : ∀ n, (atL F B n).length ≤ 4) (r d : Int) (hd : d = 0 ∨ d = 1) (hr : rackOK r = true) (hmv : moveE r d = 0) :
    PureA Try.prog 11 [x, .val (.int .i64 r), .val (.int .u8 d)] (.tup [tA 5 ((stepTo F B r d 40).map Cr.av), .val (.int .i64 0)]) := by
  have hmo := movable_ok h hc r d hd
  rw [hmv] at hmo
  have hat := fun n => h.at_ n
  obtain ⟨f, b, rfl, c1, c2, s1, s2, _, _⟩ := h.cells
  clear h
  have hsh := shift_ok d hd
  have d0 : decide ((0 : Int) = 0) = true := by decide
  have hwo : IntKind.u8.wrap (1 - d) = 1 - d := wrap_u8 (by omega) (by omega)
  replace hat := (show Aside _ from hat)
  replace hc := (show Aside _ from hc)
  replace hm4 := (show Aside _ from hm4)
  replace hmv := (show Aside _ from hmv)
  replace hd := (show Aside _ from hd)
  replace hr := (show Aside _ from hr)
  intro O
  refine k11.call mix ?_
  unfold c11
  refine seq_go ?_
  (repeat' first
    | simp (contextual := true) (maxSteps := 4000000) only [fwc, fwe, fww, reduceIte, ↓reduceIte, Nat.reduceAdd, Nat.reduceLeDiff, Nat.reduceEqDiff, Nat.reduceLT, Nat.reduceSub, reduceCtorEq, Int.reduceEq, Int.reduceLT, Int.reduceLE, Int.reduceNeg, Int.reduceToNat, Int.reduceAdd, Int.reduceSub, Nat.reduceMul, part_cell, part_agg, *]
    | (refine retK_now ?_)
    | (refine retK_now' ?_)
    | (intro q hq)
    | (refine cond_intro (fun hc => ?_) (fun hc => ?_)))
  revert q
  intro q3 hq3
  refine seqK_now ?_
  refine seq_go ?_
  refine seq_go ?_
  (repeat' first
    | simp (contextual := true) (maxSteps := 4000000) only [fwc, fwe, fww, reduceIte, ↓reduceIte, Nat.reduceAdd, Nat.reduceLeDiff, Nat.reduceEqDiff, Nat.reduceLT, Nat.reduceSub, reduceCtorEq, Int.reduceEq, Int.reduceLT, Int.reduceLE, Int.reduceNeg, Int.reduceToNat, Int.reduceAdd, Int.reduceSub, Nat.reduceMul, part_cell, part_agg, *]
    | (refine retK_now ?_)
    | (refine retK_now' ?_)
    | (intro q hq)
    | (refine cond_intro (fun hc => ?_) (fun hc => ?_)))
  refine hmo.use ?_
  clear hmo
  (repeat' first
    | simp (contextual := true) (maxSteps := 4000000) only [fwc, fwe, fww, reduceIte, ↓reduceIte, Nat.reduceAdd, Nat.reduceLeDiff, Nat.reduceEqDiff, Nat.reduceLT, Nat.reduceSub, reduceCtorEq, Int.reduceEq, Int.reduceLT, Int.reduceLE, Int.reduceNeg, Int.reduceToNat, Int.reduceAdd, Int.reduceSub, Nat.reduceMul, part_cell, part_agg, *]
    | (refine retK_now ?_)
    | (refine retK_now' ?_)
    | (intro q hq)
    | (refine cond_intro (fun hc => ?_) (fun hc => ?_)))
  refine seqK_now ?_
  refine seq_go ?_
  (repeat' first
    | simp (contextual := true) (maxSteps := 4000000) only [fwc, fwe, fww, reduceIte, ↓reduceIte, Nat.reduceAdd, Nat.reduceLeDiff, Nat.reduceEqDiff, Nat.reduceLT, Nat.reduceSub, reduceCtorEq, Int.reduceEq, Int.reduceLT, Int.reduceLE, Int.reduceNeg, Int.reduceToNat, Int.reduceAdd, Int.reduceSub, Nat.reduceMul, part_cell, part_agg, *]
    | (refine retK_now ?_)
    | (refine retK_now' ?_)
    | (intro q hq)
    | (refine cond_intro (fun hc => ?_) (fun hc => ?_)))
  refine seqK_now ?_
  (repeat' first
    | simp (contextual := true) (maxSteps := 4000000) only [fwc, fwe, fww, reduceIte, ↓reduceIte, Nat.reduceAdd, Nat.reduceLeDiff, Nat.reduceEqDiff, Nat.reduceLT, Nat.reduceSub, reduceCtorEq, Int.reduceEq, Int.reduceLT, Int.reduceLE, Int.reduceNeg, Int.reduceToNat, Int.reduceAdd, Int.reduceSub, Nat.reduceMul, part_cell, part_agg, *]
    | (refine retK_now ?_)
    | (refine retK_now' ?_)
    | (intro q hq)
    | (refine cond_intro (fun hc => ?_) (fun hc => ?_)))
  refine seqK_now ?_
  refine seq_go ?_
  (repeat' first
    | simp (contextual := true) (maxSteps := 4000000) only [fwc, fwe, fww, reduceIte, ↓reduceIte, Nat.reduceAdd, Nat.reduceLeDiff, Nat.reduceEqDiff, Nat.reduceLT, Nat.reduceSub, reduceCtorEq, Int.reduceEq, Int.reduceLT, Int.reduceLE, Int.reduceNeg, Int.reduceToNat, Int.reduceAdd, Int.reduceSub, Nat.reduceMul, part_cell, part_agg, *]
    | (refine retK_now ?_)
    | (refine retK_now' ?_)
    | (intro q hq)
    | (refine cond_intro (fun hc => ?_) (fun hc => ?_)))
  refine seqK_now ?_
  refine seq_go ?_
  (repeat' first
    | simp (contextual := true) (maxSteps := 4000000) only [fwc, fwe, fww, reduceIte, ↓reduceIte, Nat.reduceAdd, Nat.reduceLeDiff, Nat.reduceEqDiff, Nat.reduceLT, Nat.reduceSub, reduceCtorEq, Int.reduceEq, Int.reduceLT, Int.reduceLE, Int.reduceNeg, Int.reduceToNat, Int.reduceAdd, Int.reduceSub, Nat.reduceMul, part_cell, part_agg, *]
    | (refine retK_now ?_)
    | (refine retK_now' ?_)
    | (intro q hq)
    | (refine cond_intro (fun hc => ?_) (fun hc => ?_)))
  refine seqK_now ?_
  refine seq_go ?_
  refine seq_go ?_
  (repeat' first
    | simp (contextual := true) (maxSteps := 4000000) only [fwc, fwe, fww, reduceIte, ↓reduceIte, Nat.reduceAdd, Nat.reduceLeDiff, Nat.reduceEqDiff, Nat.reduceLT, Nat.reduceSub, reduceCtorEq, Int.reduceEq, Int.reduceLT, Int.reduceLE, Int.reduceNeg, Int.reduceToNat, Int.reduceAdd, Int.reduceSub, Nat.reduceMul, part_cell, part_agg, *]
    | (refine retK_now ?_)
    | (refine retK_now' ?_)
    | (intro q hq)
    | (refine cond_intro (fun hc => ?_) (fun hc => ?_)))
  refine seqK_now ?_
  obtain ⟨I, hI⟩ := hideI (fun m e O' => ∃ (i : Nat) (s : AV) (O0 : Heap), i ≤ 40 ∧ m = 40 - i ∧ O.sub O0 ∧ O0 q3 = some (.arr 26 2 [.agg [f, b]]) ∧ OwN 47 5 O0 O' s ((stepTo F B r d i).map Cr.av) ∧ e = env9h q3 r d s i)
  (repeat' first
    | simp (contextual := true) (maxSteps := 4000000) only [fwc, fwe, fww, reduceIte, ↓reduceIte, Nat.reduceAdd, Nat.reduceLeDiff, Nat.reduceEqDiff, Nat.reduceLT, Nat.reduceSub, reduceCtorEq, Int.reduceEq, Int.reduceLT, Int.reduceLE, Int.reduceNeg, Int.reduceToNat, Int.reduceAdd, Int.reduceSub, Nat.reduceMul, part_cell, part_agg, *]
    | (refine retK_now ?_)
    | (refine retK_now' ?_)
    | (intro q hq)
    | (refine cond_intro (fun hc => ?_) (fun hc => ?_)))
  refine cmd_loop I 40 (by
    rw [hI.out]
    exact ⟨0, _, _, by omega, rfl, sub_upd hq3 (Heap.sub_refl _), Heap.upd_same _ _ _, OwN.nil, rfl⟩) ?_
  clear hq3
  intro m e O' hh
  rw [hI.out] at hh
  obtain ⟨i, s, O0, hi40, rfl, hO0, h03, hs, rfl⟩ := hh
  unfold env9h
  have f3 := hs.at_ h03
  have sc := hs.cells
  have sst := hs.stor
  replace hO0 := (show Aside _ from hO0)
  replace h03 := (show Aside _ from h03)
  replace hs := (show Aside _ from hs)
  have dj : decide ((i : Int) < 40) = decide (i < 40) := decide_eq_decide.2 (by omega)
  by_cases hi : i < 40
  rotate_left
  · have e0 : decide (i < 40) = false := decide_eq_false hi
    have hie : i = 40 := by omega
    replace hi := (show Aside _ from hi)
    rw [hie] at hs
    replace hie := (show Aside _ from hie)
    (repeat' first
    | simp (contextual := true) (maxSteps := 4000000) only [fwc, fwe, fww, reduceIte, ↓reduceIte, Nat.reduceAdd, Nat.reduceLeDiff, Nat.reduceEqDiff, Nat.reduceLT, Nat.reduceSub, reduceCtorEq, Int.reduceEq, Int.reduceLT, Int.reduceLE, Int.reduceNeg, Int.reduceToNat, Int.reduceAdd, Int.reduceSub, Nat.reduceMul, part_cell, part_agg, *]
    | (refine seqK_now ?_)
    | (refine retK_now ?_)
    | (refine retK_now' ?_)
    | (intro q hq)
    | (refine cond_intro (fun hc => ?_) (fun hc => ?_)))
    refine ClipC_fz s _ O0 O' hs.out _ ?_
    (repeat' first
    | simp (contextual := true) (maxSteps := 4000000) only [fwc, fwe, fww, reduceIte, ↓reduceIte, Nat.reduceAdd, Nat.reduceLeDiff, Nat.reduceEqDiff, Nat.reduceLT, Nat.reduceSub, reduceCtorEq, Int.reduceEq, Int.reduceLT, Int.reduceLE, Int.reduceNeg, Int.reduceToNat, Int.reduceAdd, Int.reduceSub, Nat.reduceMul, part_cell, part_agg, *]
    | (refine seqK_now ?_)
    | (refine retK_now ?_)
    | (refine retK_now' ?_)
    | (intro q hq)
    | (refine cond_intro (fun hc => ?_) (fun hc => ?_)))
    refine WeakR.pure hO0.out ?_
    rfl
  have e0 : decide (i < 40) = true := decide_eq_true hi
  have hwi : i < 4611686018427387904 := by omega
  have hrr : -4 ≤ r ∧ r ≤ 4 := by have := hr.out; unfold rackOK at this; simpa using this
  have hnb : 1 ≤ (stepN d i).at_ ∧ (stepN d i).at_ ≤ 40 := by unfold stepN; simp only; split <;> omega
  have hgood : (stepN d i).bad = false := by unfold Ndl.bad; simp only [Bool.or_eq_false_iff, decide_eq_false_iff_not]; unfold stepN at hnb ⊢; simp only at hnb ⊢; omega
  have hSp := Spot_ok (stepN d i) r
  rw [if_neg (by rw [hgood, hr.out]; simp)] at hSp
  have hsuc := stepTo_succ F B r d i
  have hstA : stepAt F B r d i = if atE (stepA r d i) r = 0 then crossL d (ordL (1 - d) (atL F B (stepN d i))) (ordL d (atL F B (atN (stepA r d i) r))) else [] := rfl
  obtain ⟨ra, hra, hraT⟩ := hat.out (stepN d i)
  have hl4 := hm4.out (stepN d i)
  obtain ⟨ro, hro, hroL⟩ := inOrder_ok ra _ hraT.isL (by omega) (1 - d)
  have hNA := NAt_ok (stepA r d i) r
  have hstep : stepA r d i = spotL (stepN d i) r + 2 * shL d := rfl
  obtain ⟨rb, hrb, hrbT⟩ := hat.out (atN (stepA r d i) r)
  have hl4b := hm4.out (atN (stepA r d i) r)
  obtain ⟨rp, hrp, hrpL⟩ := inOrder_ok rb _ hrbT.isL (by omega) d
  generalize atN (stepA r d i) r = W at *
  generalize atE (stepA r d i) r = ee at *
  have hox : (ordL (1 - d) (atL F B (stepN d i))).length ≤ 4 := by rw [ordL_len]; exact hl4
  have hoy : (ordL d (atL F B W)).length ≤ 4 := by rw [ordL_len]; exact hl4b
  have hnm : (stepN d i).at_ = if d = 1 then 40 - (i : Int) else (i : Int) + 1 := rfl
  have hspb : -100 ≤ spotL (stepN d i) r ∧ spotL (stepN d i) r ≤ 1000 := by unfold spotL; rw [if_pos (show (stepN d i).bed = 1 from rfl)]; omega
  have hshb : shL d = 1 ∨ shL d = -1 := by unfold shL; split <;> simp
  rw [show (stepN d i).av = .agg [.val (.int .u8 1), .val (.int .i64 (stepN d i).at_)] from rfl] at hSp hra
  rw [show W.av = .agg [.val (.int .u8 W.bed), .val (.int .i64 W.at_)] from rfl] at hNA hrb
  generalize spotL (stepN d i) r = a at *
  generalize stepA r d i = a2 at *
  generalize (stepN d i).at_ = m at *
  generalize ordL (1 - d) (atL F B (stepN d i)) = XL at *
  generalize ordL d (atL F B W) = YL at *
  generalize shL d = sh at *
  have hw1 : IntKind.i64.wrap (2 * sh) = 2 * sh := by rw [wrap_i64 (by omega) (by omega)]
  have hw2 : IntKind.i64.wrap (a + 2 * sh) = a2 := by rw [wrap_i64 (by omega) (by omega)]; exact hstep.symm
  have hw3 : IntKind.i64.wrap ((i : Int) + 1) = ((i + 1 : Nat) : Int) := by rw [wrap_i64 (by omega) (by omega)]; omega
  have hw4 : IntKind.i64.wrap (40 - (i : Int)) = 40 - (i : Int) := by rw [wrap_i64 (by omega) (by omega)]
  have hwm : IntKind.i64.wrap m = m := by rw [wrap_i64 (by omega) (by omega)]
  have rc := hroL.cells
  have rs := hroL.stor
  have rl := hroL.len
  have rc2 := hrpL.cells
  have rs2 := hrpL.stor
  have rl2 := hrpL.len
  rw [List.length_map] at rl rl2
  have rac := hraT.isL.cells
  have ras := hraT.isL.stor
  have rbc := hrbT.isL.cells
  have rbs := hrbT.isL.stor
  replace hroL := (show Aside _ from hroL)
  replace hraT := (show Aside _ from hraT)
  replace hrpL := (show Aside _ from hrpL)
  replace hrbT := (show Aside _ from hrbT)
  replace hstA := (show Aside _ from hstA)
  replace hsuc := (show Aside _ from hsuc)
  replace hspb := (show Aside _ from hspb)
  replace hshb := (show Aside _ from hshb)
  replace hrr := (show Aside _ from hrr)
  replace hl4 := (show Aside _ from hl4)
  replace hl4b := (show Aside _ from hl4b)
  replace hgood := (show Aside _ from hgood)
  replace hox := (show Aside _ from hox)
  replace hoy := (show Aside _ from hoy)
  replace hnb := (show Aside _ from hnb)
  replace hnm := (show Aside _ from hnm)
  replace hstep := (show Aside _ from hstep)
  refine seq_go ?_
  (repeat' first
    | simp (contextual := true) (maxSteps := 4000000) only [fwc, fwe, fww, reduceIte, ↓reduceIte, Nat.reduceAdd, Nat.reduceLeDiff, Nat.reduceEqDiff, Nat.reduceLT, Nat.reduceSub, reduceCtorEq, Int.reduceEq, Int.reduceLT, Int.reduceLE, Int.reduceNeg, Int.reduceToNat, Int.reduceAdd, Int.reduceSub, Nat.reduceMul, ilt_nat, part_cell, part_agg, *]
    | (refine retK_now ?_)
    | (refine retK_now' ?_)
    | (intro q hq)
    | (refine cond_intro (fun hc => ?_) (fun hc => ?_)))
  refine seqK_now ?_
  refine seq_go ?_
  (repeat' first
    | simp (contextual := true) (maxSteps := 4000000) only [fwc, fwe, fww, reduceIte, ↓reduceIte, Nat.reduceAdd, Nat.reduceLeDiff, Nat.reduceEqDiff, Nat.reduceLT, Nat.reduceSub, reduceCtorEq, Int.reduceEq, Int.reduceLT, Int.reduceLE, Int.reduceNeg, Int.reduceToNat, Int.reduceAdd, Int.reduceSub, Nat.reduceMul, ilt_nat, part_cell, part_agg, *]
    | (refine retK_now ?_)
    | (refine retK_now' ?_)
    | (intro q hq)
    | (refine cond_intro (fun hc => ?_) (fun hc => ?_)))
  refine seqK_now ?_
  refine seq_go ?_
  refine seq_go ?_
  (repeat' first
    | simp (contextual := true) (maxSteps := 4000000) only [fwc, fwe, fww, reduceIte, ↓reduceIte, Nat.reduceAdd, Nat.reduceLeDiff, Nat.reduceEqDiff, Nat.reduceLT, Nat.reduceSub, reduceCtorEq, Int.reduceEq, Int.reduceLT, Int.reduceLE, Int.reduceNeg, Int.reduceToNat, Int.reduceAdd, Int.reduceSub, Nat.reduceMul, ilt_nat, part_cell, part_agg, *]
    | (refine retK_now ?_)
    | (refine retK_now' ?_)
    | (intro q hq)
    | (refine cond_intro (fun hc => ?_) (fun hc => ?_)))
  refine seqK_now ?_
  refine seq_go ?_
  (repeat' first
    | simp (contextual := true) (maxSteps := 4000000) only [fwc, fwe, fww, reduceIte, ↓reduceIte, Nat.reduceAdd, Nat.reduceLeDiff, Nat.reduceEqDiff, Nat.reduceLT, Nat.reduceSub, reduceCtorEq, Int.reduceEq, Int.reduceLT, Int.reduceLE, Int.reduceNeg, Int.reduceToNat, Int.reduceAdd, Int.reduceSub, Nat.reduceMul, ilt_nat, part_cell, part_agg, *]
    | (refine retK_now ?_)
    | (refine retK_now' ?_)
    | (intro q hq)
    | (refine cond_intro (fun hc => ?_) (fun hc => ?_)))
  revert q
  intro q12 hq12
  refine seqK_now ?_
  have o12 := own_none hs.out hq12
  have n312 := ne_of f3 hq12
  refine seq_post (fun e1 O1 => O1 = O'.upd q12 (.arr 38 2 [.agg [.val (.int .u8 1), .val (.int .i64 m)]]) ∧ e1 = env9q q3 q12 r d s i) ?_ ?_
  rotate_left
  · intro G hG
    replace hG := (show Aside _ from hG)
    by_cases hd1 : d = 1
    · have g1 : decide (d = 1) = true := decide_eq_true hd1
      have hmm : 40 - (i : Int) = m := by rw [hnm.out, if_pos hd1]
      replace hd1 := (show Aside _ from hd1)
      (repeat' first
    | simp (contextual := true) (maxSteps := 4000000) only [fwc, fwe, fww, reduceIte, ↓reduceIte, Nat.reduceAdd, Nat.reduceLeDiff, Nat.reduceEqDiff, Nat.reduceLT, Nat.reduceSub, reduceCtorEq, Int.reduceEq, Int.reduceLT, Int.reduceLE, Int.reduceNeg, Int.reduceToNat, Int.reduceAdd, Int.reduceSub, Nat.reduceMul, part_cell, part_agg, *]
    | (refine seqK_now ?_)
    | (refine retK_now ?_)
    | (refine retK_now' ?_)
    | (intro q hq)
    | (refine cond_intro (fun hc => ?_) (fun hc => ?_)))
      exact hG.out _ _ ⟨rfl, rfl⟩
    · have g1 : decide (d = 1) = false := decide_eq_false hd1
      have hmm : ((i + 1 : Nat) : Int) = m := by rw [hnm.out, if_neg hd1]; omega
      rw [hmm]
      replace hd1 := (show Aside _ from hd1)
      (repeat' first
    | simp (contextual := true) (maxSteps := 4000000) only [fwc, fwe, fww, reduceIte, ↓reduceIte, Nat.reduceAdd, Nat.reduceLeDiff, Nat.reduceEqDiff, Nat.reduceLT, Nat.reduceSub, reduceCtorEq, Int.reduceEq, Int.reduceLT, Int.reduceLE, Int.reduceNeg, Int.reduceToNat, Int.reduceAdd, Int.reduceSub, Nat.reduceMul, part_cell, part_agg, *]
    | (refine seqK_now ?_)
    | (refine retK_now ?_)
    | (refine retK_now' ?_)
    | (intro q hq)
    | (refine cond_intro (fun hc => ?_) (fun hc => ?_)))
      exact hG.out _ _ ⟨rfl, rfl⟩
  intro e1 O1 hQ
  obtain ⟨hO1, rfl⟩ := hQ
  rw [hO1]
  clear hO1 O1
  unfold env9q
  refine seq_go ?_
  (repeat' first
    | simp (contextual := true) (maxSteps := 4000000) only [fwc, fwe, fww, reduceIte, ↓reduceIte, Nat.reduceAdd, Nat.reduceLeDiff, Nat.reduceEqDiff, Nat.reduceLT, Nat.reduceSub, reduceCtorEq, Int.reduceEq, Int.reduceLT, Int.reduceLE, Int.reduceNeg, Int.reduceToNat, Int.reduceAdd, Int.reduceSub, Nat.reduceMul, ilt_nat, part_cell, part_agg, *]
    | (refine retK_now ?_)
    | (refine retK_now' ?_)
    | (intro q hq)
    | (refine cond_intro (fun hc => ?_) (fun hc => ?_)))
  refine hSp.use ?_
  (repeat' first
    | simp (contextual := true) (maxSteps := 4000000) only [fwc, fwe, fww, reduceIte, ↓reduceIte, Nat.reduceAdd, Nat.reduceLeDiff, Nat.reduceEqDiff, Nat.reduceLT, Nat.reduceSub, reduceCtorEq, Int.reduceEq, Int.reduceLT, Int.reduceLE, Int.reduceNeg, Int.reduceToNat, Int.reduceAdd, Int.reduceSub, Nat.reduceMul, ilt_nat, part_cell, part_agg, *]
    | (refine retK_now ?_)
    | (refine retK_now' ?_)
    | (intro q hq)
    | (refine cond_intro (fun hc => ?_) (fun hc => ?_)))
  refine hsh.use ?_
  (repeat' first
    | simp (contextual := true) (maxSteps := 4000000) only [fwc, fwe, fww, reduceIte, ↓reduceIte, Nat.reduceAdd, Nat.reduceLeDiff, Nat.reduceEqDiff, Nat.reduceLT, Nat.reduceSub, reduceCtorEq, Int.reduceEq, Int.reduceLT, Int.reduceLE, Int.reduceNeg, Int.reduceToNat, Int.reduceAdd, Int.reduceSub, Nat.reduceMul, ilt_nat, part_cell, part_agg, *]
    | (refine retK_now ?_)
    | (refine retK_now' ?_)
    | (intro q hq)
    | (refine cond_intro (fun hc => ?_) (fun hc => ?_)))
  refine hNA.use ?_
  (repeat' first
    | simp (contextual := true) (maxSteps := 4000000) only [fwc, fwe, fww, reduceIte, ↓reduceIte, Nat.reduceAdd, Nat.reduceLeDiff, Nat.reduceEqDiff, Nat.reduceLT, Nat.reduceSub, reduceCtorEq, Int.reduceEq, Int.reduceLT, Int.reduceLE, Int.reduceNeg, Int.reduceToNat, Int.reduceAdd, Int.reduceSub, Nat.reduceMul, ilt_nat, part_cell, part_agg, *]
    | (refine retK_now ?_)
    | (refine retK_now' ?_)
    | (intro q hq)
    | (refine cond_intro (fun hc => ?_) (fun hc => ?_)))
  revert q
  intro q13 hq13
  refine seqK_now ?_
  obtain ⟨n1312, n1213, o13⟩ := hq13
  have sub12 := sub_new hO0.out o12 (v := .arr 38 2 [.agg [.val (.int .u8 1), .val (.int .i64 m)]])
  have own12 := own_new hs.out (x := .arr 38 2 [.agg [.val (.int .u8 1), .val (.int .i64 m)]]) hq12
  have h12 : (O0.upd q12 (.arr 38 2 [.agg [.val (.int .u8 1), .val (.int .i64 m)]])) q3 = some (.arr 26 2 [.agg [f, b]]) := upd_keep o12 h03.out
  have o13' : (O'.upd q12 (.arr 38 2 [.agg [.val (.int .u8 1), .val (.int .i64 m)]])) q13 = none := by rw [Heap.upd_ne _ _ n1312]; exact o13
  have o013 := own_none own12 o13'
  have sub13 := sub_new sub12 o013 (v := .arr 38 2 [.agg [.val (.int .u8 W.bed), .val (.int .i64 W.at_)]])
  have own13 := own_new own12 (x := .arr 38 2 [.agg [.val (.int .u8 W.bed), .val (.int .i64 W.at_)]]) o13'
  have h13 := upd_keep (v := .arr 38 2 [.agg [.val (.int .u8 W.bed), .val (.int .i64 W.at_)]]) o013 h12
  have w13 : ((O0.upd q12 (.arr 38 2 [.agg [.val (.int .u8 1), .val (.int .i64 m)]])).upd q13 (.arr 38 2 [.agg [.val (.int .u8 W.bed), .val (.int .i64 W.at_)]])) q13 = some (.arr 38 2 [.agg [.val (.int .u8 W.bed), .val (.int .i64 W.at_)]]) := Heap.upd_same _ _ _
  have n313 := ne_of f3 o13
  replace sub12 := (show Aside _ from sub12)
  replace own12 := (show Aside _ from own12)
  replace h12 := (show Aside _ from h12)
  replace sub13 := (show Aside _ from sub13)
  replace own13 := (show Aside _ from own13)
  replace h13 := (show Aside _ from h13)
  replace w13 := (show Aside _ from w13)
  replace o013 := (show Aside _ from o013)
  replace o13' := (show Aside _ from o13')
  by_cases he : ee = 0
  rotate_left
  · have ge : decide (ee = 0) = false := decide_eq_false he
    have hnil : stepTo F B r d (i + 1) = stepTo F B r d i := by rw [hsuc.out, hstA.out, if_neg he, List.append_nil]
    replace he := (show Aside _ from he)
    replace hnil := (show Aside _ from hnil)
    (repeat' first
    | simp (contextual := true) (maxSteps := 4000000) only [fwc, fwe, fww, reduceIte, ↓reduceIte, Nat.reduceAdd, Nat.reduceLeDiff, Nat.reduceEqDiff, Nat.reduceLT, Nat.reduceSub, reduceCtorEq, Int.reduceEq, Int.reduceLT, Int.reduceLE, Int.reduceNeg, Int.reduceToNat, Int.reduceAdd, Int.reduceSub, Nat.reduceMul, ilt_nat, part_cell, part_agg, wrap_succ, *]
    | (refine seqK_now ?_)
    | (refine retK_now ?_)
    | (refine retK_now' ?_)
    | (intro q hq)
    | (refine cond_intro (fun hc => ?_) (fun hc => ?_)))
    refine loopK_now (40 - (i + 1)) (by omega) ?_
    rw [hI.out]
    exact ⟨i + 1, s, _, by omega, rfl, sub13.out, h13.out, by rw [hnil.out]; exact own13.out, rfl⟩
  have ge : decide (ee = 0) = true := decide_eq_true he
  have hcat : stepTo F B r d (i + 1) = stepTo F B r d i ++ crossL d XL YL := by rw [hsuc.out, hstA.out, if_pos he]
  replace he := (show Aside _ from he)
  replace hcat := (show Aside _ from hcat)
  refine seq_go ?_
  refine seq_go ?_
  (repeat' first
    | simp (contextual := true) (maxSteps := 4000000) only [fwc, fwe, fww, reduceIte, ↓reduceIte, Nat.reduceAdd, Nat.reduceLeDiff, Nat.reduceEqDiff, Nat.reduceLT, Nat.reduceSub, reduceCtorEq, Int.reduceEq, Int.reduceLT, Int.reduceLE, Int.reduceNeg, Int.reduceToNat, Int.reduceAdd, Int.reduceSub, Nat.reduceMul, ilt_nat, part_cell, part_agg, *]
    | (refine retK_now ?_)
    | (refine retK_now' ?_)
    | (intro q hq)
    | (refine cond_intro (fun hc => ?_) (fun hc => ?_)))
  refine seqK_now ?_
  (repeat' first
    | simp (contextual := true) (maxSteps := 4000000) only [fwc, fwe, fww, reduceIte, ↓reduceIte, Nat.reduceAdd, Nat.reduceLeDiff, Nat.reduceEqDiff, Nat.reduceLT, Nat.reduceSub, reduceCtorEq, Int.reduceEq, Int.reduceLT, Int.reduceLE, Int.reduceNeg, Int.reduceToNat, Int.reduceAdd, Int.reduceSub, Nat.reduceMul, ilt_nat, part_cell, part_agg, *]
    | (refine retK_now ?_)
    | (refine retK_now' ?_)
    | (intro q hq)
    | (refine cond_intro (fun hc => ?_) (fun hc => ?_)))
  refine seqK_now ?_
  refine seq_go ?_
  (repeat' first
    | simp (contextual := true) (maxSteps := 4000000) only [fwc, fwe, fww, reduceIte, ↓reduceIte, Nat.reduceAdd, Nat.reduceLeDiff, Nat.reduceEqDiff, Nat.reduceLT, Nat.reduceSub, reduceCtorEq, Int.reduceEq, Int.reduceLT, Int.reduceLE, Int.reduceNeg, Int.reduceToNat, Int.reduceAdd, Int.reduceSub, Nat.reduceMul, ilt_nat, part_cell, part_agg, *]
    | (refine retK_now ?_)
    | (refine retK_now' ?_)
    | (intro q hq)
    | (refine cond_intro (fun hc => ?_) (fun hc => ?_)))
  refine hra.use ?_
  (repeat' first
    | simp (contextual := true) (maxSteps := 4000000) only [fwc, fwe, fww, reduceIte, ↓reduceIte, Nat.reduceAdd, Nat.reduceLeDiff, Nat.reduceEqDiff, Nat.reduceLT, Nat.reduceSub, reduceCtorEq, Int.reduceEq, Int.reduceLT, Int.reduceLE, Int.reduceNeg, Int.reduceToNat, Int.reduceAdd, Int.reduceSub, Nat.reduceMul, ilt_nat, part_cell, part_agg, *]
    | (refine retK_now ?_)
    | (refine retK_now' ?_)
    | (intro q hq)
    | (refine cond_intro (fun hc => ?_) (fun hc => ?_)))
  refine hro.use ?_
  (repeat' first
    | simp (contextual := true) (maxSteps := 4000000) only [fwc, fwe, fww, reduceIte, ↓reduceIte, Nat.reduceAdd, Nat.reduceLeDiff, Nat.reduceEqDiff, Nat.reduceLT, Nat.reduceSub, reduceCtorEq, Int.reduceEq, Int.reduceLT, Int.reduceLE, Int.reduceNeg, Int.reduceToNat, Int.reduceAdd, Int.reduceSub, Nat.reduceMul, ilt_nat, part_cell, part_agg, *]
    | (refine retK_now ?_)
    | (refine retK_now' ?_)
    | (intro q hq)
    | (refine cond_intro (fun hc => ?_) (fun hc => ?_)))
  refine seqK_now ?_
  have hML := stepTo_len hm4.out r d i
  obtain ⟨J, hJ⟩ := hideI (fun m e O' => ∃ (k : Nat) (s : AV) (O1 : Heap), k ≤ XL.length ∧ m = XL.length - k ∧ O.sub O1 ∧ O1 q3 = some (.arr 26 2 [.agg [f, b]]) ∧ O1 q13 = some (.arr 38 2 [.agg [.val (.int .u8 W.bed), .val (.int .i64 W.at_)]]) ∧ OwN 47 5 O1 O' s ((stepTo F B r d i ++ crossL d (XL.take k) YL).map Cr.av) ∧ e = env9k q3 q13 r d s ro i XL.length k)
  (repeat' first
    | simp (contextual := true) (maxSteps := 4000000) only [fwc, fwe, fww, reduceIte, ↓reduceIte, Nat.reduceAdd, Nat.reduceLeDiff, Nat.reduceEqDiff, Nat.reduceLT, Nat.reduceSub, reduceCtorEq, Int.reduceEq, Int.reduceLT, Int.reduceLE, Int.reduceNeg, Int.reduceToNat, Int.reduceAdd, Int.reduceSub, Nat.reduceMul, ilt_nat, part_cell, part_agg, *]
    | (refine retK_now ?_)
    | (refine retK_now' ?_)
    | (intro q hq)
    | (refine cond_intro (fun hc => ?_) (fun hc => ?_)))
  refine cmd_loop J XL.length (by
    rw [hJ.out]
    exact ⟨0, s, _, by omega, rfl, sub13.out, h13.out, w13.out, by rw [List.take_zero]; rw [show crossL d [] YL = [] from rfl, List.append_nil]; exact own13.out, rfl⟩) ?_
  clear hs own12 own13 h12 h13 w13 sub12 sub13 hq12 o12 o013 o13' o13 n1312 n1213 n313 n312 f3 h03 hO0 sc sst
  intro m' e O2 hh
  rw [hJ.out] at hh
  obtain ⟨k, s2, O1, hk4, rfl, hO1, h1, hw13, hs2, rfl⟩ := hh
  unfold env9k
  have f3 := hs2.at_ h1
  have f13 := hs2.at_ hw13
  have sc := hs2.cells
  have sst := hs2.stor
  replace hO1 := (show Aside _ from hO1)
  replace h1 := (show Aside _ from h1)
  replace hw13 := (show Aside _ from hw13)
  replace hs2 := (show Aside _ from hs2)
  by_cases hk : k < XL.length
  rotate_left
  · have e1 : decide (k < XL.length) = false := decide_eq_false hk
    have hke : k = XL.length := by omega
    replace hk := (show Aside _ from hk)
    rw [hke, List.take_length] at hs2
    replace hke := (show Aside _ from hke)
    (repeat' first
    | simp (contextual := true) (maxSteps := 4000000) only [fwc, fwe, fww, reduceIte, ↓reduceIte, Nat.reduceAdd, Nat.reduceLeDiff, Nat.reduceEqDiff, Nat.reduceLT, Nat.reduceSub, reduceCtorEq, Int.reduceEq, Int.reduceLT, Int.reduceLE, Int.reduceNeg, Int.reduceToNat, Int.reduceAdd, Int.reduceSub, Nat.reduceMul, ilt_nat, part_cell, part_agg, wrap_succ, *]
    | (refine seqK_now ?_)
    | (refine retK_now ?_)
    | (refine retK_now' ?_)
    | (intro q hq)
    | (refine cond_intro (fun hc => ?_) (fun hc => ?_)))
    refine loopK_now (40 - (i + 1)) (by omega) ?_
    rw [hI.out]
    refine ⟨i + 1, s2, O1, by omega, rfl, hO1.out, h1.out, ?_, rfl⟩
    rw [hcat.out]
    exact hs2.out
  have e1 : decide (k < XL.length) = true := decide_eq_true hk
  have hwk : k < 4611686018427387904 := by have := hox.out; omega
  have hia := IsL.ia hroL.out (i := k) (by rw [List.length_map]; exact hk)
  rw [List.getElem_map] at hia
  have htk : crossL d (XL.take (k + 1)) YL = crossL d (XL.take k) YL ++ YL.map (crs d XL[k]) := by
    unfold crossL
    rw [List.take_add_one, List.getElem?_eq_getElem hk, List.flatMap_append]
    simp
  have htl : (crossL d (XL.take k) YL).length ≤ 16 := by
    have h1 := cross_len d (XL.take k) YL hoy.out
    have h2 := List.length_take_le k XL
    have := hox.out
    omega
  generalize XL[k] = y at *
  rw [show y.av = .agg [.val (.int .u8 y.y), .val (.int .i64 y.n)] from rfl] at hia
  have hnext : stepTo F B r d i ++ crossL d (XL.take (k + 1)) YL = (stepTo F B r d i ++ crossL d (XL.take k) YL) ++ YL.map (crs d y) := by rw [htk, List.append_assoc]
  have hbl : (stepTo F B r d i ++ crossL d (XL.take k) YL).length ≤ 700 := by rw [List.length_append]; omega
  obtain ⟨base, hbase⟩ : ∃ L, stepTo F B r d i ++ crossL d (XL.take k) YL = L := ⟨_, rfl⟩
  rw [hbase] at hnext hbl hs2
  clear htk htl hbase hML
  replace hk := (show Aside _ from hk)
  replace hnext := (show Aside _ from hnext)
  replace hbl := (show Aside _ from hbl)
  refine seq_go ?_
  (repeat' first
    | simp (contextual := true) (maxSteps := 4000000) only [fwc, fwe, fww, reduceIte, ↓reduceIte, Nat.reduceAdd, Nat.reduceLeDiff, Nat.reduceEqDiff, Nat.reduceLT, Nat.reduceSub, reduceCtorEq, Int.reduceEq, Int.reduceLT, Int.reduceLE, Int.reduceNeg, Int.reduceToNat, Int.reduceAdd, Int.reduceSub, Nat.reduceMul, ilt_nat, part_cell, part_agg, *]
    | (refine retK_now ?_)
    | (refine retK_now' ?_)
    | (intro q hq)
    | (refine cond_intro (fun hc => ?_) (fun hc => ?_)))
  refine seqK_now ?_
  refine seq_go ?_
  (repeat' first
    | simp (contextual := true) (maxSteps := 4000000) only [fwc, fwe, fww, reduceIte, ↓reduceIte, Nat.reduceAdd, Nat.reduceLeDiff, Nat.reduceEqDiff, Nat.reduceLT, Nat.reduceSub, reduceCtorEq, Int.reduceEq, Int.reduceLT, Int.reduceLE, Int.reduceNeg, Int.reduceToNat, Int.reduceAdd, Int.reduceSub, Nat.reduceMul, ilt_nat, part_cell, part_agg, *]
    | (refine retK_now ?_)
    | (refine retK_now' ?_)
    | (intro q hq)
    | (refine cond_intro (fun hc => ?_) (fun hc => ?_)))
  refine seqK_now ?_
  refine seq_go ?_
  refine seq_go ?_
  (repeat' first
    | simp (contextual := true) (maxSteps := 4000000) only [fwc, fwe, fww, reduceIte, ↓reduceIte, Nat.reduceAdd, Nat.reduceLeDiff, Nat.reduceEqDiff, Nat.reduceLT, Nat.reduceSub, reduceCtorEq, Int.reduceEq, Int.reduceLT, Int.reduceLE, Int.reduceNeg, Int.reduceToNat, Int.reduceAdd, Int.reduceSub, Nat.reduceMul, ilt_nat, part_cell, part_agg, *]
    | (refine retK_now ?_)
    | (refine retK_now' ?_)
    | (intro q hq)
    | (refine cond_intro (fun hc => ?_) (fun hc => ?_)))
  revert q
  intro q16 hq16
  refine seqK_now ?_
  have o16 := own_none hs2.out hq16
  have sub16 := sub_new hO1.out o16 (v := .arr 35 2 [.agg [.val (.int .u8 y.y), .val (.int .i64 y.n)]])
  have own16 := own_new hs2.out (x := .arr 35 2 [.agg [.val (.int .u8 y.y), .val (.int .i64 y.n)]]) hq16
  have h16 := upd_keep (v := .arr 35 2 [.agg [.val (.int .u8 y.y), .val (.int .i64 y.n)]]) o16 h1.out
  have w16 : (O1.upd q16 (.arr 35 2 [.agg [.val (.int .u8 y.y), .val (.int .i64 y.n)]])) q16 = some (.arr 35 2 [.agg [.val (.int .u8 y.y), .val (.int .i64 y.n)]]) := Heap.upd_same _ _ _
  have v16 := upd_keep (v := .arr 35 2 [.agg [.val (.int .u8 y.y), .val (.int .i64 y.n)]]) o16 hw13.out
  have n316 := ne_of f3 hq16
  have n1316 := ne_of f13 hq16
  replace sub16 := (show Aside _ from sub16)
  replace own16 := (show Aside _ from own16)
  replace h16 := (show Aside _ from h16)
  replace w16 := (show Aside _ from w16)
  replace v16 := (show Aside _ from v16)
  replace o16 := (show Aside _ from o16)
  refine seq_go ?_
  (repeat' first
    | simp (contextual := true) (maxSteps := 4000000) only [fwc, fwe, fww, reduceIte, ↓reduceIte, Nat.reduceAdd, Nat.reduceLeDiff, Nat.reduceEqDiff, Nat.reduceLT, Nat.reduceSub, reduceCtorEq, Int.reduceEq, Int.reduceLT, Int.reduceLE, Int.reduceNeg, Int.reduceToNat, Int.reduceAdd, Int.reduceSub, Nat.reduceMul, ilt_nat, part_cell, part_agg, *]
    | (refine retK_now ?_)
    | (refine retK_now' ?_)
    | (intro q hq)
    | (refine cond_intro (fun hc => ?_) (fun hc => ?_)))
  refine hrb.use ?_
  (repeat' first
    | simp (contextual := true) (maxSteps := 4000000) only [fwc, fwe, fww, reduceIte, ↓reduceIte, Nat.reduceAdd, Nat.reduceLeDiff, Nat.reduceEqDiff, Nat.reduceLT, Nat.reduceSub, reduceCtorEq, Int.reduceEq, Int.reduceLT, Int.reduceLE, Int.reduceNeg, Int.reduceToNat, Int.reduceAdd, Int.reduceSub, Nat.reduceMul, ilt_nat, part_cell, part_agg, *]
    | (refine retK_now ?_)
    | (refine retK_now' ?_)
    | (intro q hq)
    | (refine cond_intro (fun hc => ?_) (fun hc => ?_)))
  refine hrp.use ?_
  (repeat' first
    | simp (contextual := true) (maxSteps := 4000000) only [fwc, fwe, fww, reduceIte, ↓reduceIte, Nat.reduceAdd, Nat.reduceLeDiff, Nat.reduceEqDiff, Nat.reduceLT, Nat.reduceSub, reduceCtorEq, Int.reduceEq, Int.reduceLT, Int.reduceLE, Int.reduceNeg, Int.reduceToNat, Int.reduceAdd, Int.reduceSub, Nat.reduceMul, ilt_nat, part_cell, part_agg, *]
    | (refine retK_now ?_)
    | (refine retK_now' ?_)
    | (intro q hq)
    | (refine cond_intro (fun hc => ?_) (fun hc => ?_)))
  refine seqK_now ?_
  obtain ⟨M, hM⟩ := hideI (fun m e O' => ∃ (j : Nat) (s : AV) (O1 : Heap), j ≤ YL.length ∧ m = YL.length - j ∧ O.sub O1 ∧ O1 q3 = some (.arr 26 2 [.agg [f, b]]) ∧ O1 q13 = some (.arr 38 2 [.agg [.val (.int .u8 W.bed), .val (.int .i64 W.at_)]]) ∧ O1 q16 = some (.arr 35 2 [.agg [.val (.int .u8 y.y), .val (.int .i64 y.n)]]) ∧ OwN 47 5 O1 O' s ((base ++ (YL.take j).map (crs d y)).map Cr.av) ∧ e = env9l q3 q13 q16 r d s ro rp i XL.length k YL.length j)
  (repeat' first
    | simp (contextual := true) (maxSteps := 4000000) only [fwc, fwe, fww, reduceIte, ↓reduceIte, Nat.reduceAdd, Nat.reduceLeDiff, Nat.reduceEqDiff, Nat.reduceLT, Nat.reduceSub, reduceCtorEq, Int.reduceEq, Int.reduceLT, Int.reduceLE, Int.reduceNeg, Int.reduceToNat, Int.reduceAdd, Int.reduceSub, Nat.reduceMul, ilt_nat, part_cell, part_agg, *]
    | (refine retK_now ?_)
    | (refine retK_now' ?_)
    | (intro q hq)
    | (refine cond_intro (fun hc => ?_) (fun hc => ?_)))
  refine cmd_loop M YL.length (by
    rw [hM.out]
    exact ⟨0, s2, _, by omega, rfl, sub16.out, h16.out, v16.out, w16.out, by rw [List.take_zero, List.map_nil, List.append_nil]; exact own16.out, rfl⟩) ?_
  clear hs2 own16 h16 v16 w16 sub16 hq16 o16 n316 n1316 f3 f13 h1 hw13 hO1 sc sst
  intro m'' e O3 hh
  rw [hM.out] at hh
  obtain ⟨j, s3, O4, hj4, rfl, hO4, h4, hw4, hx4, hs3, rfl⟩ := hh
  unfold env9l
  have f3 := hs3.at_ h4
  have f13 := hs3.at_ hw4
  have f16 := hs3.at_ hx4
  have sc := hs3.cells
  have sst := hs3.stor
  replace hO4 := (show Aside _ from hO4)
  replace h4 := (show Aside _ from h4)
  replace hw4 := (show Aside _ from hw4)
  replace hx4 := (show Aside _ from hx4)
  replace hs3 := (show Aside _ from hs3)
  by_cases hj : j < YL.length
  rotate_left
  · have e2 : decide (j < YL.length) = false := decide_eq_false hj
    have hje : j = YL.length := by omega
    replace hj := (show Aside _ from hj)
    rw [hje, List.take_length] at hs3
    replace hje := (show Aside _ from hje)
    (repeat' first
    | simp (contextual := true) (maxSteps := 4000000) only [fwc, fwe, fww, reduceIte, ↓reduceIte, Nat.reduceAdd, Nat.reduceLeDiff, Nat.reduceEqDiff, Nat.reduceLT, Nat.reduceSub, reduceCtorEq, Int.reduceEq, Int.reduceLT, Int.reduceLE, Int.reduceNeg, Int.reduceToNat, Int.reduceAdd, Int.reduceSub, Nat.reduceMul, ilt_nat, part_cell, part_agg, wrap_succ, *]
    | (refine seqK_now ?_)
    | (refine retK_now ?_)
    | (refine retK_now' ?_)
    | (intro q hq)
    | (refine cond_intro (fun hc => ?_) (fun hc => ?_)))
    refine loopK_now (XL.length - (k + 1)) (by have := hk.out; omega) ?_
    rw [hJ.out]
    refine ⟨k + 1, s3, O4, by have := hk.out; omega, rfl, hO4.out, h4.out, hw4.out, ?_, rfl⟩
    rw [hnext.out]
    exact hs3.out
  have e2 : decide (j < YL.length) = true := decide_eq_true hj
  have hwj : j < 4611686018427387904 := by have := hoy.out; omega
  have hja := IsL.ia hrpL.out (i := j) (by rw [List.length_map]; exact hj)
  rw [List.getElem_map] at hja
  have hnj : base ++ (YL.take (j + 1)).map (crs d y) = (base ++ (YL.take j).map (crs d y)) ++ [crs d y YL[j]] := by
    rw [List.take_add_one, List.getElem?_eq_getElem hj, List.map_append, List.append_assoc]
    rfl
  have hjl : (base ++ (YL.take j).map (crs d y)).length ≤ 800 := by
    have h2 := List.length_take_le j YL
    have := hoy.out
    have := hbl.out
    rw [List.length_append, List.length_map]
    omega
  generalize YL[j] = z at *
  rw [show z.av = .agg [.val (.int .u8 z.y), .val (.int .i64 z.n)] from rfl] at hja
  replace hj := (show Aside _ from hj)
  replace hnj := (show Aside _ from hnj)
  replace hjl := (show Aside _ from hjl)
  refine seq_go ?_
  (repeat' first
    | simp (contextual := true) (maxSteps := 4000000) only [fwc, fwe, fww, reduceIte, ↓reduceIte, Nat.reduceAdd, Nat.reduceLeDiff, Nat.reduceEqDiff, Nat.reduceLT, Nat.reduceSub, reduceCtorEq, Int.reduceEq, Int.reduceLT, Int.reduceLE, Int.reduceNeg, Int.reduceToNat, Int.reduceAdd, Int.reduceSub, Nat.reduceMul, ilt_nat, part_cell, part_agg, *]
    | (refine retK_now ?_)
    | (refine retK_now' ?_)
    | (intro q hq)
    | (refine cond_intro (fun hc => ?_) (fun hc => ?_)))
  refine seqK_now ?_
  refine seq_go ?_
  (repeat' first
    | simp (contextual := true) (maxSteps := 4000000) only [fwc, fwe, fww, reduceIte, ↓reduceIte, Nat.reduceAdd, Nat.reduceLeDiff, Nat.reduceEqDiff, Nat.reduceLT, Nat.reduceSub, reduceCtorEq, Int.reduceEq, Int.reduceLT, Int.reduceLE, Int.reduceNeg, Int.reduceToNat, Int.reduceAdd, Int.reduceSub, Nat.reduceMul, ilt_nat, part_cell, part_agg, *]
    | (refine retK_now ?_)
    | (refine retK_now' ?_)
    | (intro q hq)
    | (refine cond_intro (fun hc => ?_) (fun hc => ?_)))
  refine seqK_now ?_
  refine seq_go ?_
  refine seq_go ?_
  (repeat' first
    | simp (contextual := true) (maxSteps := 4000000) only [fwc, fwe, fww, reduceIte, ↓reduceIte, Nat.reduceAdd, Nat.reduceLeDiff, Nat.reduceEqDiff, Nat.reduceLT, Nat.reduceSub, reduceCtorEq, Int.reduceEq, Int.reduceLT, Int.reduceLE, Int.reduceNeg, Int.reduceToNat, Int.reduceAdd, Int.reduceSub, Nat.reduceMul, ilt_nat, part_cell, part_agg, *]
    | (refine retK_now ?_)
    | (refine retK_now' ?_)
    | (intro q hq)
    | (refine cond_intro (fun hc => ?_) (fun hc => ?_)))
  revert q
  intro q18 hq18
  refine seqK_now ?_
  have o18 := own_none hs3.out hq18
  have sub18 := sub_new hO4.out o18 (v := .arr 35 2 [.agg [.val (.int .u8 z.y), .val (.int .i64 z.n)]])
  have own18 := own_new hs3.out (x := .arr 35 2 [.agg [.val (.int .u8 z.y), .val (.int .i64 z.n)]]) hq18
  have h18 := upd_keep (v := .arr 35 2 [.agg [.val (.int .u8 z.y), .val (.int .i64 z.n)]]) o18 h4.out
  have v18 := upd_keep (v := .arr 35 2 [.agg [.val (.int .u8 z.y), .val (.int .i64 z.n)]]) o18 hw4.out
  have w18 := upd_keep (v := .arr 35 2 [.agg [.val (.int .u8 z.y), .val (.int .i64 z.n)]]) o18 hx4.out
  have n318 := ne_of f3 hq18
  have n1318 := ne_of f13 hq18
  have n1618 := ne_of f16 hq18
  replace sub18 := (show Aside _ from sub18)
  replace own18 := (show Aside _ from own18)
  replace h18 := (show Aside _ from h18)
  replace w18 := (show Aside _ from w18)
  replace v18 := (show Aside _ from v18)
  replace o18 := (show Aside _ from o18)
  by_cases hd1 : d = 1
  · have g1 : decide (d = 1) = true := decide_eq_true hd1
    have hcr : crs d y z = ⟨y, z, -1⟩ := if_pos hd1
    replace hd1 := (show Aside _ from hd1)
    replace hcr := (show Aside _ from hcr)
    (repeat' first
    | simp (contextual := true) (maxSteps := 4000000) only [fwc, fwe, fww, reduceIte, ↓reduceIte, Nat.reduceAdd, Nat.reduceLeDiff, Nat.reduceEqDiff, Nat.reduceLT, Nat.reduceSub, reduceCtorEq, Int.reduceEq, Int.reduceLT, Int.reduceLE, Int.reduceNeg, Int.reduceToNat, Int.reduceAdd, Int.reduceSub, Nat.reduceMul, ilt_nat, part_cell, part_agg, *]
    | (refine retK_now ?_)
    | (refine retK_now' ?_)
    | (intro q hq)
    | (refine cond_intro (fun hc => ?_) (fun hc => ?_)))
    refine seqK_now ?_
    (repeat' first
    | simp (contextual := true) (maxSteps := 4000000) only [fwc, fwe, fww, reduceIte, ↓reduceIte, Nat.reduceAdd, Nat.reduceLeDiff, Nat.reduceEqDiff, Nat.reduceLT, Nat.reduceSub, reduceCtorEq, Int.reduceEq, Int.reduceLT, Int.reduceLE, Int.reduceNeg, Int.reduceToNat, Int.reduceAdd, Int.reduceSub, Nat.reduceMul, ilt_nat, part_cell, part_agg, *]
    | (refine retK_now ?_)
    | (refine retK_now' ?_)
    | (intro q hq)
    | (refine cond_intro (fun hc => ?_) (fun hc => ?_)))
    refine own_app (bytes := 40) own18.out (X := [Cr.av ⟨y, z, -1⟩]) (.inr ⟨true, rfl⟩) (fits_of (by have := hjl.out; simp only [List.length_append, List.length_map, List.length_cons, List.length_nil] at this ⊢; omega) (by omega)) fun s5 O5 h5 => ?_
    have sc5 := h5.cells
    have sst5 := h5.stor
    replace h5 := (show Aside _ from h5)
    (repeat' first
    | simp (contextual := true) (maxSteps := 4000000) only [fwc, fwe, fww, reduceIte, ↓reduceIte, Nat.reduceAdd, Nat.reduceLeDiff, Nat.reduceEqDiff, Nat.reduceLT, Nat.reduceSub, reduceCtorEq, Int.reduceEq, Int.reduceLT, Int.reduceLE, Int.reduceNeg, Int.reduceToNat, Int.reduceAdd, Int.reduceSub, Nat.reduceMul, ilt_nat, part_cell, part_agg, wrap_succ, *]
    | (refine seqK_now ?_)
    | (refine retK_now ?_)
    | (refine retK_now' ?_)
    | (intro q hq)
    | (refine cond_intro (fun hc => ?_) (fun hc => ?_)))
    refine loopK_now (YL.length - (j + 1)) (by have := hj.out; omega) ?_
    rw [hM.out]
    refine ⟨j + 1, s5, _, by have := hj.out; omega, rfl, sub18.out, h18.out, v18.out, w18.out, ?_, rfl⟩
    rw [hnj.out, hcr.out, List.map_append]
    exact h5.out
  · have g1 : decide (d = 1) = false := decide_eq_false hd1
    have hcr : crs d y z = ⟨z, y, 1⟩ := if_neg hd1
    replace hd1 := (show Aside _ from hd1)
    replace hcr := (show Aside _ from hcr)
    (repeat' first
    | simp (contextual := true) (maxSteps := 4000000) only [fwc, fwe, fww, reduceIte, ↓reduceIte, Nat.reduceAdd, Nat.reduceLeDiff, Nat.reduceEqDiff, Nat.reduceLT, Nat.reduceSub, reduceCtorEq, Int.reduceEq, Int.reduceLT, Int.reduceLE, Int.reduceNeg, Int.reduceToNat, Int.reduceAdd, Int.reduceSub, Nat.reduceMul, ilt_nat, part_cell, part_agg, *]
    | (refine retK_now ?_)
    | (refine retK_now' ?_)
    | (intro q hq)
    | (refine cond_intro (fun hc => ?_) (fun hc => ?_)))
    refine seqK_now ?_
    (repeat' first
    | simp (contextual := true) (maxSteps := 4000000) only [fwc, fwe, fww, reduceIte, ↓reduceIte, Nat.reduceAdd, Nat.reduceLeDiff, Nat.reduceEqDiff, Nat.reduceLT, Nat.reduceSub, reduceCtorEq, Int.reduceEq, Int.reduceLT, Int.reduceLE, Int.reduceNeg, Int.reduceToNat, Int.reduceAdd, Int.reduceSub, Nat.reduceMul, ilt_nat, part_cell, part_agg, *]
    | (refine retK_now ?_)
    | (refine retK_now' ?_)
    | (intro q hq)
    | (refine cond_intro (fun hc => ?_) (fun hc => ?_)))
    refine own_app (bytes := 40) own18.out (X := [Cr.av ⟨z, y, 1⟩]) (.inr ⟨true, rfl⟩) (fits_of (by have := hjl.out; simp only [List.length_append, List.length_map, List.length_cons, List.length_nil] at this ⊢; omega) (by omega)) fun s5 O5 h5 => ?_
    have sc5 := h5.cells
    have sst5 := h5.stor
    replace h5 := (show Aside _ from h5)
    (repeat' first
    | simp (contextual := true) (maxSteps := 4000000) only [fwc, fwe, fww, reduceIte, ↓reduceIte, Nat.reduceAdd, Nat.reduceLeDiff, Nat.reduceEqDiff, Nat.reduceLT, Nat.reduceSub, reduceCtorEq, Int.reduceEq, Int.reduceLT, Int.reduceLE, Int.reduceNeg, Int.reduceToNat, Int.reduceAdd, Int.reduceSub, Nat.reduceMul, ilt_nat, part_cell, part_agg, wrap_succ, *]
    | (refine seqK_now ?_)
    | (refine retK_now ?_)
    | (refine retK_now' ?_)
    | (intro q hq)
    | (refine cond_intro (fun hc => ?_) (fun hc => ?_)))
    refine loopK_now (YL.length - (j + 1)) (by have := hj.out; omega) ?_
    rw [hM.out]
    refine ⟨j + 1, s5, _, by have := hj.out; omega, rfl, sub18.out, h18.out, v18.out, w18.out, ?_, rfl⟩
    rw [hnj.out, hcr.out, List.map_append]
    exact h5.out
end Go.Proofs.Ytembkknplmcamaa

namespace Go.Proofs.Ytembkknplmcamaa
open Go.Ab

/-! The plain law of the step back. -/
def sw (c : Cr) : Cr := ⟨c.b, c.a, -c.s⟩
def pb (p : Ps) : Ps := ⟨p.id, p.f, if p.d = 1 then 0 else 1⟩
end Go.Proofs.Ytembkknplmcamaa

namespace Go.Proofs.Ytembkknplmcamaa
open Go.Ab

/-! Lists of held loops: exchanges, rotations, the stable order. Plain lists, no program. -/
structure Hd where
  id : Id
  bed : Int
  at_ : Int
  spot : Int
def Hd.av (h : Hd) : AV := .agg [.val (.int .u8 h.id.y), .val (.int .i64 h.id.n), .val (.int .u8 h.bed), .val (.int .i64 h.at_), .val (.int .i64 h.spot)]
def hd0 : Hd := ⟨⟨0, 0⟩, 0, 0, 0⟩
def gt (L : List Hd) (i : Nat) : Hd := L.getD i hd0
theorem gt_get {L : List Hd} {i : Nat} (h : i < L.length) : gt L i = L[i] := by
  unfold gt
  rw [List.getD_eq_getElem?_getD, List.getElem?_eq_getElem h]
  rfl
theorem gt_ext {L L' : List Hd} (hl : L'.length = L.length) (h : ∀ i, i < L.length → gt L' i = gt L i) : L' = L := by
  refine List.ext_getElem hl fun i h1 h2 => ?_
  rw [← gt_get h1, ← gt_get h2]
  exact h i h2
def swp (L : List Hd) (i j : Nat) : List Hd := (L.set i (gt L j)).set j (gt L i)
theorem sw_len (L : List Hd) (i j : Nat) : (swp L i j).length = L.length := by simp [swp]
theorem gt_sw {L : List Hd} {i j : Nat} (hi : i < L.length) (hj : j < L.length) (k : Nat) : gt (swp L i j) k = if k = j then gt L i else if k = i then gt L j else gt L k := by
  unfold swp
  have e : ∀ (M : List Hd) (i : Nat) (x : Hd) (k : Nat), i < M.length → gt (M.set i x) k = if k = i then x else gt M k := fun M i x k h => by
    unfold gt
    rw [List.getD_eq_getElem?_getD, List.getElem?_set, List.getD_eq_getElem?_getD]
    by_cases hk : k = i
    · subst hk; rw [if_pos rfl, if_pos h, if_pos rfl]; rfl
    · rw [if_neg (fun h => hk h.symm), if_neg hk]
  rw [e _ _ _ _ (by simpa using hj), e _ _ _ _ hi]
def Flt (L L' : List Hd) : Prop := ∀ s : Int, L'.filter (fun x => decide (x.spot = s)) = L.filter (fun x => decide (x.spot = s))
theorem Flt.refl (L : List Hd) : Flt L L := fun _ => rfl
theorem Flt.trans {L M N : List Hd} (h : Flt L M) (k : Flt M N) : Flt L N := fun s => (k s).trans (h s)
theorem split2 {L : List Hd} {i : Nat} (h : i + 1 < L.length) : ∃ X Y, L = X ++ gt L i :: gt L (i + 1) :: Y ∧ X.length = i :=
  ⟨L.take i, L.drop (i + 2), by
    rw [gt_get (by omega), gt_get h, ← List.drop_eq_getElem_cons h, ← List.drop_eq_getElem_cons (by omega), List.take_append_drop], by simp; omega⟩
theorem sw_app (X Y : List Hd) (x y : Hd) : swp (X ++ x :: y :: Y) X.length (X.length + 1) = X ++ y :: x :: Y := by
  have h1 : gt (X ++ x :: y :: Y) X.length = x := by rw [gt_get (by simp)]; simp
  have h2 : gt (X ++ x :: y :: Y) (X.length + 1) = y := by rw [gt_get (by simp)]; simp
  unfold swp
  rw [h1, h2]
  simp [List.set_append]
theorem sw_flt {L : List Hd} {i : Nat} (h : i + 1 < L.length) (hne : (gt L i).spot ≠ (gt L (i + 1)).spot) : Flt L (swp L i (i + 1)) := by
  obtain ⟨X, Y, hL, hX⟩ := split2 h
  intro s
  generalize gt L i = x at *
  generalize gt L (i + 1) = y at *
  subst hX
  rw [hL, sw_app]
  simp only [List.filter_append, List.filter_cons]
  by_cases h1 : x.spot = s
  · have h2 : ¬ y.spot = s := fun h => hne (h1.trans h.symm)
    simp [h1, h2]
  · simp [h1]
theorem sw_comm {L : List Hd} {i j : Nat} (hi : i < L.length) (hj : j < L.length) : swp L i j = swp L j i := by
  refine gt_ext (by rw [sw_len, sw_len]) fun k _ => ?_
  rw [gt_sw hi hj, gt_sw hj hi]
  by_cases h1 : k = j
  · subst h1
    by_cases h2 : k = i
    · subst h2; simp
    · simp [h2]
  · by_cases h2 : k = i
    · subst h2; simp [h1]
    · simp [h1, h2]

/-- What a step on the part from a to b keeps. -/
structure Keeps (L L' : List Hd) (a b : Nat) : Prop where
  len : L'.length = L.length
  out : ∀ i, i < a ∨ b ≤ i → gt L' i = gt L i
  mem : ∀ i, a ≤ i → i < b → ∃ j, a ≤ j ∧ j < b ∧ gt L' i = gt L j
  flt : Flt L L'
theorem Keeps.refl (L : List Hd) (a b : Nat) : Keeps L L a b := ⟨rfl, fun _ _ => rfl, fun i h1 h2 => ⟨i, h1, h2, rfl⟩, Flt.refl L⟩
theorem Keeps.trans {L M N : List Hd} {a b : Nat} (h : Keeps L M a b) (k : Keeps M N a b) : Keeps L N a b :=
  ⟨k.len.trans h.len, fun i hi => (k.out i hi).trans (h.out i hi), fun i h1 h2 => by
    obtain ⟨j, j1, j2, e⟩ := k.mem i h1 h2
    obtain ⟨l, l1, l2, e2⟩ := h.mem j j1 j2
    exact ⟨l, l1, l2, e.trans e2⟩, h.flt.trans k.flt⟩
theorem Keeps.wide {L M : List Hd} {a b c d : Nat} (h : Keeps L M a b) (h1 : c ≤ a) (h2 : b ≤ d) : Keeps L M c d :=
  ⟨h.len, fun i hi => h.out i (by omega), fun i j1 j2 => by
    by_cases hc : a ≤ i ∧ i < b
    · obtain ⟨l, l1, l2, e⟩ := h.mem i hc.1 hc.2
      exact ⟨l, by omega, by omega, e⟩
    · exact ⟨i, j1, j2, h.out i (by omega)⟩, h.flt⟩
theorem sw_keeps {L : List Hd} {i : Nat} (h : i + 1 < L.length) (hne : (gt L i).spot ≠ (gt L (i + 1)).spot) : Keeps L (swp L i (i + 1)) i (i + 2) :=
  ⟨sw_len _ _ _, fun k hk => by rw [gt_sw (by omega) h, if_neg (by omega), if_neg (by omega)], fun k h1 h2 => by
    rw [gt_sw (by omega) h]
    by_cases e : k = i + 1
    · exact ⟨i, by omega, by omega, by rw [if_pos e]⟩
    · exact ⟨i + 1, by omega, by omega, by rw [if_neg e, if_pos (by omega)]⟩, sw_flt h hne⟩

def Srt (L : List Hd) (a b : Nat) : Prop := ∀ i j, a ≤ i → i ≤ j → j < b → (gt L i).spot ≤ (gt L j).spot
theorem Srt.part {L : List Hd} {a b c d : Nat} (h : Srt L a b) (h1 : a ≤ c) (h2 : d ≤ b) : Srt L c d := fun i j a1 a2 a3 => h i j (by omega) a2 (by omega)
theorem Srt.join {L : List Hd} {a m b : Nat} (h1 : Srt L a m) (h2 : Srt L m b) (h : ∀ i j, a ≤ i → i < m → m ≤ j → j < b → (gt L i).spot ≤ (gt L j).spot) : Srt L a b := fun i j a1 a2 a3 => by
  by_cases c1 : j < m
  · exact h1 i j a1 a2 c1
  · by_cases c2 : i < m
    · exact h i j a1 c2 (by omega) a3
    · exact h2 i j (by omega) a2 a3
theorem Srt.same {L M : List Hd} {a b : Nat} (h : Srt L a b) (e : ∀ i, a ≤ i → i < b → gt M i = gt L i) : Srt M a b := fun i j a1 a2 a3 => by
  rw [e i a1 (by omega), e j (by omega) a3]
  exact h i j a1 a2 a3

/-! Insertion. -/
def Ins (L : List Hd) (a j i : Nat) : Prop := ∀ p q, a ≤ p → p ≤ q → q ≤ i → q ≠ j → (gt L p).spot ≤ (gt L q).spot
theorem Ins.start {L : List Hd} {a i : Nat} (h : Srt L a i) : Ins L a i i := fun p q h1 h2 h3 h4 => h p q h1 h2 (by omega)
theorem Ins.stop {L : List Hd} {a j i : Nat} (h : Ins L a j i) (hj : a ≤ j) (hji : j ≤ i) (hs : j = a ∨ (gt L (j - 1)).spot ≤ (gt L j).spot) : Srt L a (i + 1) := fun p q h1 h2 h3 => by
  by_cases hq : q = j
  · subst hq
    by_cases hp : p = q
    · subst hp; exact Int.le_refl _
    · rcases hs with h0 | h0
      · omega
      · exact Int.le_trans (h p (q - 1) h1 (by omega) (by omega) (by omega)) h0
  · exact h p q h1 h2 (by omega) hq
theorem Ins.step {L : List Hd} {a j i : Nat} (h : Ins L a (j + 1) i) (hj : a ≤ j) (hji : j + 1 ≤ i) (hi : i < L.length) (hs : (gt L (j + 1)).spot < (gt L j).spot) : Ins (swp L j (j + 1)) a j i := fun p q h1 h2 h3 h4 => by
  rw [gt_sw (by omega) (by omega), gt_sw (by omega) (by omega)]
  by_cases q1 : q = j + 1
  · rw [if_pos q1]
    by_cases p1 : p = j + 1
    · rw [if_pos p1]; exact Int.le_refl _
    · rw [if_neg p1]
      by_cases p2 : p = j
      · rw [if_pos p2]; omega
      · rw [if_neg p2]; exact h p j h1 (by omega) (by omega) (by omega)
  · rw [if_neg q1, if_neg h4]
    by_cases p1 : p = j + 1
    · rw [if_pos p1]; exact h j q (by omega) (by omega) h3 q1
    · rw [if_neg p1]
      by_cases p2 : p = j
      · rw [if_pos p2]; exact h (j + 1) q (by omega) (by omega) h3 q1
      · rw [if_neg p2]; exact h p q h1 h2 h3 q1

/-! Exchange of two stretches; rotation. -/
structure SwR (L L' : List Hd) (a b n : Nat) : Prop where
  len : L'.length = L.length
  at_ : ∀ i, gt L' i = if a ≤ i ∧ i < a + n then gt L (i - a + b) else if b ≤ i ∧ i < b + n then gt L (i - b + a) else gt L i
theorem SwR.zero (L : List Hd) (a b : Nat) : SwR L L a b 0 := ⟨rfl, fun i => by rw [if_neg (by omega), if_neg (by omega)]⟩
theorem SwR.step {L M : List Hd} {a b n : Nat} (h : SwR L M a b n) (hab : a + n < b) (hb : b + n < L.length) : SwR L (swp M (a + n) (b + n)) a b (n + 1) :=
  ⟨by rw [sw_len]; exact h.len, fun i => by
    have hl := h.len
    rw [gt_sw (by omega) (by omega), h.at_ i, h.at_ (a + n), h.at_ (b + n)]
    repeat' split
    all_goals first
      | rfl
      | (exfalso; omega)
      | (congr 1; omega)⟩
structure RotP (L L' : List Hd) (a m b : Nat) : Prop where
  len : L'.length = L.length
  at_ : ∀ i, gt L' i = if a ≤ i ∧ i < a + (b - m) then gt L (i + (m - a)) else if a + (b - m) ≤ i ∧ i < b then gt L (i - (b - m)) else gt L i
theorem RotP.last {L L' : List Hd} {m i : Nat} (hi : i ≤ m) (h : SwR L L' (m - i) m i) : RotP L L' (m - i) m (m + i) :=
  ⟨h.len, fun k => by
    rw [h.at_]
    repeat' split
    all_goals first
      | rfl
      | (exfalso; omega)
      | (congr 1; omega)⟩
theorem RotP.left {L M L' : List Hd} {m i j : Nat} (hi : i ≤ m) (hji : j < i) (hj : 0 < j) (hs : SwR L M (m - i) m j) (h : RotP M L' (m - (i - j)) m (m + j)) : RotP L L' (m - i) m (m + j) :=
  ⟨h.len.trans hs.len, fun k => by
    rw [h.at_ k, hs.at_, hs.at_, hs.at_]
    repeat' split
    all_goals first
      | rfl
      | (exfalso; omega)
      | (congr 1; omega)⟩
theorem RotP.right {L M L' : List Hd} {m i j : Nat} (hi : i ≤ m) (hij : i < j) (h0 : 0 < i) (hs : SwR L M (m - i) (m + j - i) i) (h : RotP M L' (m - i) m (m + (j - i))) : RotP L L' (m - i) m (m + j) :=
  ⟨h.len.trans hs.len, fun k => by
    rw [h.at_ k, hs.at_, hs.at_, hs.at_]
    repeat' split
    all_goals first
      | rfl
      | (exfalso; omega)
      | (congr 1; omega)⟩
theorem rot_list {L L' : List Hd} {a m b : Nat} (h : RotP L L' a m b) (h1 : a ≤ m) (h2 : m ≤ b) (h3 : b ≤ L.length) : ∃ X U V Y, L = X ++ U ++ V ++ Y ∧ L' = X ++ V ++ U ++ Y ∧ (∀ x ∈ U, ∃ i, a ≤ i ∧ i < m ∧ x = gt L i) ∧ (∀ x ∈ V, ∃ i, m ≤ i ∧ i < b ∧ x = gt L i) := by
  have e : ∀ (M : List Hd) (n : Nat) (f : Nat → Hd), M.length = n → (∀ i, i < n → gt M i = f i) → M = (List.range n).map f := fun M n f h1 h2 => by
    refine List.ext_getElem (by simp [h1]) fun i a1 a2 => ?_
    rw [← gt_get a1, h2 i (by omega)]
    simp
  refine ⟨(List.range a).map (gt L), (List.range (m - a)).map (fun i => gt L (a + i)), (List.range (b - m)).map (fun i => gt L (m + i)), (List.range (L.length - b)).map (fun i => gt L (b + i)), ?_, ?_, ?_, ?_⟩
  · refine List.ext_getElem (by simp; omega) fun i a1 a2 => ?_
    rw [← gt_get a1]
    simp only [List.getElem_append, List.getElem_map, List.getElem_range, List.length_map, List.length_range, List.length_append]
    repeat' split
    all_goals first
      | rfl
      | (exfalso; omega)
      | (congr 1; omega)
  · refine List.ext_getElem (by simp [h.len]; omega) fun i a1 a2 => ?_
    rw [← gt_get a1, h.at_ i]
    have := h.len
    simp only [List.getElem_append, List.getElem_map, List.getElem_range, List.length_map, List.length_range, List.length_append]
    repeat' split
    all_goals first
      | rfl
      | (exfalso; omega)
      | (congr 1; omega)
  · intro x hx
    simp only [List.mem_map, List.mem_range] at hx
    obtain ⟨i, hi, rfl⟩ := hx
    exact ⟨a + i, by omega, by omega, rfl⟩
  · intro x hx
    simp only [List.mem_map, List.mem_range] at hx
    obtain ⟨i, hi, rfl⟩ := hx
    exact ⟨m + i, by omega, by omega, rfl⟩
theorem RotP.keeps {L L' : List Hd} {a m b : Nat} (h : RotP L L' a m b) (h1 : a ≤ m) (h2 : m ≤ b) (h3 : b ≤ L.length) (hlt : ∀ i j, a ≤ i → i < m → m ≤ j → j < b → (gt L j).spot < (gt L i).spot) : Keeps L L' a b where
  len := h.len
  out := fun i hi => by rw [h.at_ i, if_neg (by omega), if_neg (by omega)]
  mem := fun i g1 g2 => by
    rw [h.at_ i]
    by_cases c : a ≤ i ∧ i < a + (b - m)
    · rw [if_pos c]; exact ⟨_, by omega, by omega, rfl⟩
    · rw [if_neg c, if_pos (by omega)]; exact ⟨_, by omega, by omega, rfl⟩
  flt := fun s => by
    obtain ⟨X, U, V, Y, e1, e2, hU, hV⟩ := rot_list h h1 h2 h3
    have key : U.filter (fun x => decide (x.spot = s)) = [] ∨ V.filter (fun x => decide (x.spot = s)) = [] := by
      cases hu : U.filter (fun x => decide (x.spot = s)) with
      | nil => exact .inl rfl
      | cons u us =>
        refine .inr (List.filter_eq_nil_iff.2 fun v hv hs => ?_)
        have hm : u ∈ U.filter (fun x => decide (x.spot = s)) := by rw [hu]; exact List.mem_cons_self
        obtain ⟨hm1, hm2⟩ := List.mem_filter.1 hm
        obtain ⟨i, i1, i2, rfl⟩ := hU u hm1
        obtain ⟨j, j1, j2, rfl⟩ := hV v hv
        have := hlt i j i1 i2 j1 j2
        simp only [decide_eq_true_eq] at hs hm2
        omega
    rw [e1, e2]
    simp only [List.filter_append]
    rcases key with k | k <;> rw [k] <;> simp
end Go.Proofs.Ytembkknplmcamaa

namespace Go.Proofs.Ytembkknplmcamaa
open Go.Ab

/-! The merge of two sorted stretches, plain lists. -/
structure MovR (L M : List Hd) (a k : Nat) : Prop where
  len : M.length = L.length
  at_ : ∀ t, gt M t = if a ≤ t ∧ t < k then gt L (t + 1) else if t = k then gt L a else gt L t
  flt : Flt L M
theorem MovR.zero (L : List Hd) (a : Nat) : MovR L L a a := ⟨rfl, fun t => by
  rw [if_neg (by omega)]
  by_cases h : t = a
  · rw [if_pos h, h]
  · rw [if_neg h], Flt.refl L⟩
theorem MovR.step {L M : List Hd} {a k : Nat} (h : MovR L M a k) (hk : k + 1 < L.length) (ha : a ≤ k) (hlt : (gt L (k + 1)).spot < (gt L a).spot) : MovR L (swp M k (k + 1)) a (k + 1) :=
  ⟨by rw [sw_len]; exact h.len, fun t => by
    have hl := h.len
    rw [gt_sw (by omega) (by omega), h.at_ k, h.at_ (k + 1), h.at_ t]
    repeat' split
    all_goals first
      | rfl
      | (exfalso; omega)
      | (congr 1; omega), by
    have hl := h.len
    refine h.flt.trans (sw_flt (by omega) ?_)
    rw [h.at_ k, h.at_ (k + 1), if_neg (by omega), if_pos rfl, if_neg (by omega), if_neg (by omega)]
    omega⟩
theorem MovR.a1 {L M : List Hd} {a k : Nat} (h : MovR L M a k) {t : Nat} (h1 : a ≤ t) (h2 : t < k) : gt M t = gt L (t + 1) := by rw [h.at_ t, if_pos ⟨h1, h2⟩]
theorem MovR.a2 {L M : List Hd} {a k : Nat} (h : MovR L M a k) {t : Nat} (h1 : t = k) : gt M t = gt L a := by rw [h.at_ t, if_neg (by omega), if_pos h1]
theorem MovR.a3 {L M : List Hd} {a k : Nat} (h : MovR L M a k) {t : Nat} (h1 : t < a ∨ k < t) (h2 : a ≤ k) : gt M t = gt L t := by rw [h.at_ t, if_neg (by omega), if_neg (by omega)]
theorem MovR.done {L M : List Hd} {a i b : Nat} (h : MovR L M a (i - 1)) (hi : a + 1 ≤ i) (hib : i ≤ b) (hs : Srt L (a + 1) b) (h1 : ∀ k, a + 1 ≤ k → k < i → (gt L k).spot < (gt L a).spot) (h2 : ∀ k, i ≤ k → k < b → (gt L a).spot ≤ (gt L k).spot) : Srt M a b ∧ Keeps L M a b := by
  refine ⟨fun p q p1 p2 p3 => ?_, h.len, fun t ht => ?_, fun t t1 t2 => ?_, h.flt⟩
  · by_cases c1 : p < i - 1
    · rw [h.a1 p1 c1]
      by_cases d1 : q < i - 1
      · rw [h.a1 (by omega) d1]; exact hs _ _ (by omega) (by omega) (by omega)
      · have := h1 (p + 1) (by omega) (by omega)
        by_cases d2 : q = i - 1
        · rw [h.a2 d2]; omega
        · rw [h.a3 (by omega) (by omega)]
          have := h2 q (by omega) p3
          omega
    · by_cases c2 : p = i - 1
      · rw [h.a2 c2]
        by_cases d2 : q = i - 1
        · rw [h.a2 d2]; exact Int.le_refl _
        · rw [h.a3 (by omega) (by omega)]; exact h2 q (by omega) p3
      · rw [h.a3 (by omega) (by omega), h.a3 (by omega) (by omega)]
        exact hs p q (by omega) p2 p3
  · by_cases c : t = i - 1
    · omega
    · rw [h.a3 (by omega) (by omega)]
  · by_cases c1 : t < i - 1
    · rw [h.a1 t1 c1]; exact ⟨t + 1, by omega, by omega, rfl⟩
    · by_cases c2 : t = i - 1
      · rw [h.a2 c2]; exact ⟨a, by omega, by omega, rfl⟩
      · rw [h.a3 (by omega) (by omega)]; exact ⟨t, by omega, by omega, rfl⟩
structure MovL (L M : List Hd) (m k : Nat) : Prop where
  len : M.length = L.length
  at_ : ∀ t, gt M t = if t = k then gt L m else if k < t ∧ t ≤ m then gt L (t - 1) else gt L t
  flt : Flt L M
theorem MovL.zero (L : List Hd) (m : Nat) : MovL L L m m := ⟨rfl, fun t => by
  by_cases h : t = m
  · rw [if_pos h, h]
  · rw [if_neg h, if_neg (by omega)], Flt.refl L⟩
theorem MovL.step {L M : List Hd} {m k : Nat} (h : MovL L M m (k + 1)) (hk : m < L.length) (ha : k + 1 ≤ m) (hlt : (gt L m).spot < (gt L k).spot) : MovL L (swp M k (k + 1)) m k :=
  ⟨by rw [sw_len]; exact h.len, fun t => by
    have hl := h.len
    rw [gt_sw (by omega) (by omega), h.at_ k, h.at_ (k + 1), h.at_ t]
    repeat' split
    all_goals first
      | rfl
      | (exfalso; omega)
      | (congr 1; omega), by
    have hl := h.len
    refine h.flt.trans (sw_flt (by omega) ?_)
    rw [h.at_ k, h.at_ (k + 1), if_neg (by omega), if_neg (by omega), if_pos rfl]
    omega⟩
theorem MovL.a1 {L M : List Hd} {m k : Nat} (h : MovL L M m k) {t : Nat} (h1 : k < t) (h2 : t ≤ m) : gt M t = gt L (t - 1) := by rw [h.at_ t, if_neg (by omega), if_pos ⟨h1, h2⟩]
theorem MovL.a2 {L M : List Hd} {m k : Nat} (h : MovL L M m k) {t : Nat} (h1 : t = k) : gt M t = gt L m := by rw [h.at_ t, if_pos h1]
theorem MovL.a3 {L M : List Hd} {m k : Nat} (h : MovL L M m k) {t : Nat} (h1 : t < k ∨ m < t) (h2 : k ≤ m) : gt M t = gt L t := by rw [h.at_ t, if_neg (by omega), if_neg (by omega)]
theorem MovL.done {L M : List Hd} {a i m : Nat} (h : MovL L M m i) (hi : a ≤ i) (hib : i ≤ m) (hs : Srt L a m) (h1 : ∀ k, a ≤ k → k < i → (gt L k).spot ≤ (gt L m).spot) (h2 : ∀ k, i ≤ k → k < m → (gt L m).spot < (gt L k).spot) : Srt M a (m + 1) ∧ Keeps L M a (m + 1) := by
  refine ⟨fun p q p1 p2 p3 => ?_, h.len, fun t ht => ?_, fun t t1 t2 => ?_, h.flt⟩
  · by_cases c1 : p = i
    · rw [h.a2 c1]
      by_cases d1 : q = i
      · rw [h.a2 d1]; exact Int.le_refl _
      · rw [h.a1 (by omega) (by omega)]
        have := h2 (q - 1) (by omega) (by omega)
        omega
    · by_cases c2 : i < p
      · rw [h.a1 c2 (by omega), h.a1 (by omega) (by omega)]
        exact hs _ _ (by omega) (by omega) (by omega)
      · rw [h.a3 (by omega) hib]
        by_cases d1 : q = i
        · rw [h.a2 d1]; exact h1 p p1 (by omega)
        · by_cases d2 : i < q
          · rw [h.a1 d2 (by omega)]; exact hs _ _ p1 (by omega) (by omega)
          · rw [h.a3 (by omega) hib]; exact hs _ _ p1 p2 (by omega)
  · by_cases c : t = i
    · omega
    · rw [h.a3 (by omega) hib]
  · by_cases c1 : t = i
    · rw [h.a2 c1]; exact ⟨m, by omega, by omega, rfl⟩
    · by_cases c2 : i < t
      · rw [h.a1 c2 (by omega)]; exact ⟨t - 1, by omega, by omega, rfl⟩
      · rw [h.a3 (by omega) hib]; exact ⟨t, by omega, by omega, rfl⟩

def loM (a m b : Nat) : Nat := if (a + b) / 2 < m then (a + b) / 2 + m - b else a
def hiM (a m b : Nat) : Nat := if (a + b) / 2 < m then (a + b) / 2 else m
/-- Where the search of the merge stands. -/
structure Sea (L : List Hd) (a m b s r : Nat) : Prop where
  lo : loM a m b ≤ s
  mid : s ≤ r
  hi : r ≤ hiM a m b
  low : s = loM a m b ∨ (gt L (s - 1)).spot ≤ (gt L ((a + b) / 2 + m - s)).spot
  up : r = hiM a m b ∨ (gt L ((a + b) / 2 + m - 1 - r)).spot < (gt L r).spot
theorem Sea.start {L : List Hd} {a m b : Nat} (h1 : a < m) (h2 : m < b) : Sea L a m b (loM a m b) (hiM a m b) :=
  ⟨Nat.le_refl _, by unfold loM hiM; split <;> omega, Nat.le_refl _, .inl rfl, .inl rfl⟩
theorem Sea.less {L : List Hd} {a m b s r c : Nat} (h : Sea L a m b s r) (h1 : s ≤ c) (h2 : c < r) (hc : ¬ (gt L ((a + b) / 2 + m - 1 - c)).spot < (gt L c).spot) : Sea L a m b (c + 1) r :=
  ⟨by have := h.lo; omega, by omega, h.hi, .inr (by
    rw [show c + 1 - 1 = c by omega, show (a + b) / 2 + m - (c + 1) = (a + b) / 2 + m - 1 - c by omega]
    omega), h.up⟩
theorem Sea.more {L : List Hd} {a m b s r c : Nat} (h : Sea L a m b s r) (h1 : s ≤ c) (h2 : c < r) (hc : (gt L ((a + b) / 2 + m - 1 - c)).spot < (gt L c).spot) : Sea L a m b s c :=
  ⟨h.lo, h1, by have := h.hi; omega, h.low, .inr hc⟩
theorem Sea.bound {L : List Hd} {a m b s r : Nat} (h : Sea L a m b s r) (h1 : a < m) (h2 : m < b) : a ≤ s ∧ r ≤ m ∧ r ≤ (a + b) / 2 ∧ (a + b) / 2 + m - s ≤ b ∧ m ≤ (a + b) / 2 + m - r := by
  have x1 := h.lo
  have x2 := h.mid
  have x3 := h.hi
  unfold loM at x1
  unfold hiM at x3
  split at x1 <;> rename_i c
  · rw [if_pos c] at x3; omega
  · rw [if_neg c] at x3; omega
structure Cut (L M : List Hd) (a s m e b : Nat) : Prop where
  keep : Keeps L M a b
  s1 : Srt M a s
  s2 : Srt M s ((a + b) / 2)
  s3 : Srt M ((a + b) / 2) e
  s4 : Srt M e b
  mid : ∀ i j, a ≤ i → i < (a + b) / 2 → (a + b) / 2 ≤ j → j < b → (gt M i).spot ≤ (gt M j).spot
theorem Sea.cut {L M : List Hd} {a m b s : Nat} (h : Sea L a m b s s) (h1 : a < m) (h2 : m < b) (hb : b ≤ L.length) (hs1 : Srt L a m) (hs2 : Srt L m b) (hr : RotP L M s m ((a + b) / 2 + m - s)) : Cut L M a s m ((a + b) / 2 + m - s) b := by
  obtain ⟨b1, b2, b3, b4, b5⟩ := h.bound h1 h2
  have hlo := h.low
  have hup := h.up
  have e1 : s + ((a + b) / 2 + m - s - m) = (a + b) / 2 := by omega
  have at_ := hr.at_
  rw [e1] at at_
  have r1 : ∀ i, s ≤ i → i < (a + b) / 2 → gt M i = gt L (i + (m - s)) := fun i i1 i2 => by rw [at_ i, if_pos ⟨i1, i2⟩]
  have r2 : ∀ i, (a + b) / 2 ≤ i → i < (a + b) / 2 + m - s → gt M i = gt L (i - ((a + b) / 2 - s)) := fun i i1 i2 => by rw [at_ i, if_neg (by omega), if_pos ⟨i1, i2⟩]; congr 1; omega
  have r3 : ∀ i, i < s ∨ (a + b) / 2 + m - s ≤ i → gt M i = gt L i := fun i i1 => by rw [at_ i, if_neg (by omega), if_neg (by omega)]
  clear at_
  have hlt : ∀ i j, s ≤ i → i < m → m ≤ j → j < (a + b) / 2 + m - s → (gt L j).spot < (gt L i).spot := fun i j i1 i2 j1 j2 => by
    rcases hup with g | g
    · exfalso
      unfold hiM at g
      split at g <;> omega
    · have := hs2 j ((a + b) / 2 + m - 1 - s) j1 (by omega) (by omega)
      have := hs1 s i b1 i1 i2
      omega
  have hle : ∀ i j, a ≤ i → i < s → (a + b) / 2 + m - s ≤ j → j < b → (gt L i).spot ≤ (gt L j).spot := fun i j i1 i2 j1 j2 => by
    rcases hlo with g | g
    · exfalso
      unfold loM at g
      split at g <;> omega
    · have := hs1 i (s - 1) i1 (by omega) (by omega)
      have := hs2 ((a + b) / 2 + m - s) j (by omega) j1 j2
      omega
  refine ⟨(hr.keeps b2 (by omega) (by omega) hlt).wide b1 b4, ?_, ?_, ?_, ?_, ?_⟩
  · exact (hs1.part (c := a) (d := s) (by omega) b2).same fun i i1 i2 => r3 i (.inl i2)
  · intro i j i1 i2 i3
    rw [r1 i (by omega) (by omega), r1 j (by omega) (by omega)]
    exact hs2 _ _ (by omega) (by omega) (by omega)
  · intro i j i1 i2 i3
    rw [r2 i (by omega) (by omega), r2 j (by omega) (by omega)]
    exact hs1 _ _ (by omega) (by omega) (by omega)
  · exact (hs2.part (c := (a + b) / 2 + m - s) (d := b) (by omega) (by omega)).same fun i i1 i2 => r3 i (.inr i1)
  · intro i j i1 i2 j1 j2
    by_cases c1 : s ≤ i
    · rw [r1 i c1 i2]
      by_cases c2 : j < (a + b) / 2 + m - s
      · rw [r2 j j1 c2]
        have := hlt (j - ((a + b) / 2 - s)) (i + (m - s)) (by omega) (by omega) (by omega) (by omega)
        omega
      · rw [r3 j (by omega)]
        exact hs2 _ _ (by omega) (by omega) j2
    · rw [r3 i (by omega)]
      by_cases c2 : j < (a + b) / 2 + m - s
      · rw [r2 j j1 c2]
        exact hs1 _ _ i1 (by omega) (by omega)
      · rw [r3 j (by omega)]
        exact hle i j i1 (by omega) (by omega) j2
theorem Cut.done {L M N R : List Hd} {a s m e b : Nat} (h : Cut L M a s m e b) (hab : a < b) (h1 : Keeps M N a ((a + b) / 2)) (s1 : Srt N a ((a + b) / 2)) (h2 : Keeps N R ((a + b) / 2) b) (s2 : Srt R ((a + b) / 2) b) : Srt R a b ∧ Keeps L R a b := by
  refine ⟨Srt.join (m := (a + b) / 2) (s1.same fun i i1 i2 => h2.out i (.inl i2)) s2 fun i j i1 i2 j1 j2 => ?_, (h.keep.trans (h1.wide (by omega) (by omega))).trans (h2.wide (by omega) (by omega))⟩
  obtain ⟨k, k1, k2, e1⟩ := h1.mem i i1 i2
  obtain ⟨l, l1, l2, e2⟩ := h2.mem j j1 j2
  rw [h2.out i (.inl i2), e1, e2, h1.out l (.inr l1)]
  exact h.mid k l k1 k2 l1 l2

/-! Blocks. -/
def Blk (L : List Hd) (s lo hi n : Nat) : Prop := ∀ c, s ∣ c → lo ≤ c → c < hi → Srt L c (min (c + s) n)
theorem dvd_next {s c a : Nat} (h1 : s ∣ c) (h2 : s ∣ a) (h : c < a) : c + s ≤ a := by
  have h3 : s ∣ a - c := Nat.dvd_sub h2 h1
  have := Nat.le_of_dvd (by omega) h3
  omega
theorem Blk.first {L : List Hd} {s n : Nat} : Blk L s 0 0 n := fun c _ _ h => by omega
theorem Blk.all {L : List Hd} {s n : Nat} (h : Blk L s 0 n n) (hs : n ≤ s) : Srt L 0 n := by
  by_cases h0 : n = 0
  · intro i j _ _ h3; omega
  · have := h 0 (Nat.dvd_zero s) (Nat.le_refl _) (by omega)
    rwa [Nat.zero_add, Nat.min_eq_right hs] at this
theorem Blk.more {L M : List Hd} {s a n : Nat} (h : Blk L s 0 a n) (hd : s ∣ a) (hs0 : 0 < s) (hk : Keeps L M a (min (a + s) n)) (hs : Srt M a (min (a + s) n)) : Blk M s 0 (a + s) n := fun c c1 c2 c3 => by
  by_cases h1 : c < a
  · have := dvd_next c1 hd h1
    exact (h c c1 c2 h1).same fun i i1 i2 => hk.out i (.inl (by omega))
  · have : c = a := by
      rcases Nat.lt_or_ge a c with g | g
      · have := dvd_next hd c1 g; omega
      · omega
    subst this
    exact hs
theorem Blk.rest {L M : List Hd} {s a n : Nat} (h : Blk L s a n n) (hk : Keeps L M a (a + s + s)) : Blk M s (a + s + s) n n := fun c c1 c2 c3 => by
  exact (h c c1 (by omega) c3).same fun i i1 i2 => hk.out i (.inr (by omega))
end Go.Proofs.Ytembkknplmcamaa

namespace Go.Proofs.Ytembkknplmcamaa
open Go.Ab
attribute [local irreducible] WeakR WeakE CallA YieldA

/-! swapRange and rotate on an array of held loops. -/
/-- A call of a closure in a region that draws. -/
def callvF (P : Program) (x : AV) (args : List AV) (O : Heap) (F : AV → Prop) : Prop := match x with
  | .clo (.func f) a b => callF P f (a ++ args ++ b) O F
  | _ => False
theorem callvF_clo {P : Program} {f : FuncId} {a b args : List AV} {O : Heap} {F : AV → Prop} : callvF P (.clo (.func f) a b) args O F = callF P f (a ++ args ++ b) O F := rfl
theorem drawFun_callv {P : Program} {fx : Operand} {args : List Operand} {e : Env} {O : Heap} {F : AV → Prop} : (∃ V, drawFun P (.callv fx args) e O V ∧ F V) ↔ callvF P (e.opd fx) (args.map e.opd) O F := by
  constructor
  · rintro ⟨V, ⟨f, a, b, h1, h2⟩, h3⟩
    rw [h1]
    exact ⟨V, h2, h3⟩
  · intro h
    unfold callvF at h
    split at h
    · rename_i f a b hx
      obtain ⟨V, h1, h2⟩ := h
      exact ⟨V, ⟨f, a, b, hx, h1⟩, h2⟩
    · exact h.elim
theorem drawW_cv {P : Program} {d : Option Nat} {fx : Operand} {args : List Operand} {rest : List RIns} {K : Env → Prop} {e : Env} {O : Heap} :
    drawW P ((d, none, .callv fx args) :: rest) K e O = callvF P (e.opd fx) (args.map e.opd) O (drF P d rest K e O) := propext drawFun_callv
theorem drawW_gcv {P : Program} {d : Option Nat} {s : Nat} {want : Bool} {fx : Operand} {args : List Operand} {rest : List RIns} {K : Env → Prop} {e : Env} {O : Heap} :
    drawW P ((d, some (s, want), .callv fx args) :: rest) K e O = guardW (e s) want (callvF P (e.opd fx) (args.map e.opd) O (drF P d rest K e O)) (drF P d rest K e O (.val undef)) := by
  show guardW _ _ _ _ = _
  rw [propext (drawFun_callv (F := fun V => drawW P rest K (e.put d V) O))]
  rfl

def arE (L : List Hd) (R : List AV) : List AV := L.map Hd.av ++ R
def stH (O : Heap) (id : Nat) (L : List Hd) (R : List AV) : Heap := O.upd id (.arr 40 5 (arE L R))
def oS (id n : Nat) (c : Option Nat) : AV := .own id 5 0 n c
theorem arE_get {L : List Hd} {R : List AV} {k : Nat} (h : k < L.length) : (arE L R)[k]? = some (gt L k).av := by
  unfold arE
  rw [List.getElem?_append_left (by simpa using h), List.getElem?_map, List.getElem?_eq_getElem h, gt_get h]
  rfl
theorem arE_set {L : List Hd} {R : List AV} {k : Nat} {x : Hd} (h : k < L.length) : (arE L R).set k x.av = arE (L.set k x) R := by
  unfold arE
  rw [List.set_append_left _ _ (by simpa using h), List.map_set]
theorem arE_len (L : List Hd) (R : List AV) : (arE L R).length = L.length + R.length := by simp [arE]
theorem arE_sw {L : List Hd} {R : List AV} {i j : Nat} (hi : i < L.length) (hj : j < L.length) : ((arE L R).set i (gt L j).av).set j (gt L i).av = arE (swp L i j) R := by
  rw [arE_set hi, arE_set (by simpa using hj)]
  rfl

def env61 (s : AV) (a b k : Nat) (f : AV) (i : Nat) : Env := ((((Env.upd (fun _ => .junk) 10 (.val (.int .i64 i))).upd 3 (.val (.int .i64 k))).upd 2 (.val (.int .i64 b))).upd 1 (.val (.int .i64 a))).upd 0 s
theorem SwapR_ok (id n : Nat) (c : Option Nat) (R : List AV) (O : Heap) (fv : AV) (L : List Hd) (hn : L.length = n) (hn2 : n ≤ 100000) (a b k : Nat) (hab : a + k ≤ b) (hb : b + k ≤ n) (K : AV → Heap → Prop) (hk : ∀ M r, SwR L M a b k → K r (stH O id M R)) :
    CallA Try.prog 61 [oS id n c, .val (.int .i64 a), .val (.int .i64 b), .val (.int .i64 k), fv] (stH O id L R) K := by
  refine k61.call mix ?_
  unfold c61
  obtain ⟨I, hI⟩ := hideI (fun m e O' => ∃ (i : Nat) (M : List Hd), i ≤ k ∧ m = k - i ∧ SwR L M a b i ∧ O' = stH O id M R ∧ e = env61 (oS id n c) a b k fv i)
  replace hab := (show Aside _ from hab)
  replace hb := (show Aside _ from hb)
  replace hn := (show Aside _ from hn)
  replace hn2 := (show Aside _ from hn2)
  (repeat' first
    | simp (contextual := true) (maxSteps := 4000000) only [fwc, fwe, fww, reduceIte, ↓reduceIte, Nat.reduceAdd, Nat.reduceLeDiff, Nat.reduceEqDiff, Nat.reduceLT, Nat.reduceSub, reduceCtorEq, Int.reduceEq, Int.reduceLT, Int.reduceLE, Int.reduceNeg, Int.reduceToNat, Int.reduceAdd, Int.reduceSub, Nat.reduceMul, *]
    | (refine seqK_now ?_)
    | (refine retK_now ?_)
    | (refine retK_now' ?_)
    | (intro q hq)
    | (refine cond_intro (fun hc => ?_) (fun hc => ?_)))
  refine cmd_loop I k (by
    rw [hI.out]
    exact ⟨0, L, by omega, by omega, SwR.zero _ _ _, rfl, rfl⟩) ?_
  intro m e O' hh
  rw [hI.out] at hh
  obtain ⟨i, M, hik, rfl, hM, hOH, rfl⟩ := hh
  rw [hOH]
  clear hOH O'
  unfold env61
  replace hM := (show Aside _ from hM)
  by_cases hc : i < k
  rotate_left
  · have e0 : decide (i < k) = false := decide_eq_false hc
    have hki : i = k := by omega
    replace hc := (show Aside _ from hc)
    replace hki := (show Aside _ from hki)
    (repeat' first
    | simp (contextual := true) (maxSteps := 4000000) only [fwc, fwe, fww, reduceIte, ↓reduceIte, Nat.reduceAdd, Nat.reduceLeDiff, Nat.reduceEqDiff, Nat.reduceLT, Nat.reduceSub, reduceCtorEq, Int.reduceEq, Int.reduceLT, Int.reduceLE, Int.reduceNeg, Int.reduceToNat, Int.reduceAdd, Int.reduceSub, Nat.reduceMul, ilt_nat, *]
    | (refine seqK_now ?_)
    | (refine retK_now ?_)
    | (refine retK_now' ?_)
    | (intro q hq)
    | (refine cond_intro (fun hc => ?_) (fun hc => ?_)))
    exact WeakR.now (hk _ _ (by rw [← hki.out]; exact hM.out))
  have e0 : decide (i < k) = true := decide_eq_true hc
  have hl : M.length = n := hM.out.len.trans hn.out
  have h1 : a + i < n := by have := hab.out; have := hb.out; omega
  have h2 : b + i < n := by have := hb.out; omega
  have wa : IntKind.i64.wrap ((a : Int) + (i : Int)) = ((a + i : Nat) : Int) := by have := hn2.out; rw [wrap_i64 (by omega) (by omega)]; omega
  have wb : IntKind.i64.wrap ((b : Int) + (i : Int)) = ((b + i : Nat) : Int) := by have := hn2.out; rw [wrap_i64 (by omega) (by omega)]; omega
  have a1 : indexAddrA 5 ((a + i : Nat) : Int) (.own id 5 0 n c) = some (.optr id 5 (a + i) 0) := by rw [ia_onat h1, Nat.zero_add]
  have a2 : indexAddrA 5 ((b + i : Nat) : Int) (.own id 5 0 n c) = some (.optr id 5 (b + i) 0) := by rw [ia_onat h2, Nat.zero_add]
  have g1 : (arE M R)[a + i]? = some (gt M (a + i)).av := arE_get (by omega)
  have g2 : (arE M R)[b + i]? = some (gt M (b + i)).av := arE_get (by omega)
  have hst := arE_sw (L := M) (R := R) (i := a + i) (j := b + i) (by omega) (by omega)
  have hne : a + i ≠ b + i := by have := hab.out; omega
  have hl1 : a + i + 1 ≤ (arE M R).length := by rw [arE_len]; omega
  have hl2 : b + i + 1 ≤ (arE M R).length := by rw [arE_len]; omega
  have hwi : i < 4611686018427387904 := by have := hn2.out; omega
  generalize gt M (a + i) = x at *
  generalize gt M (b + i) = y at *
  unfold stH oS
  rw [show x.av = .agg [.val (.int .u8 x.id.y), .val (.int .i64 x.id.n), .val (.int .u8 x.bed), .val (.int .i64 x.at_), .val (.int .i64 x.spot)] from rfl] at g1 hst
  rw [show y.av = .agg [.val (.int .u8 y.id.y), .val (.int .i64 y.id.n), .val (.int .u8 y.bed), .val (.int .i64 y.at_), .val (.int .i64 y.spot)] from rfl] at g2 hst
  have hnx : SwR L (swp M (a + i) (b + i)) a b (i + 1) := hM.out.step (by have := hab.out; omega) (by have := hb.out; have := hn.out; omega)
  generalize arE M R = E at *
  generalize a + i = p at *
  generalize b + i = q at *
  have s1 : E.take p ++ [AV.agg [.val (.int .u8 y.id.y), .val (.int .i64 y.id.n), .val (.int .u8 y.bed), .val (.int .i64 y.at_), .val (.int .i64 y.spot)]] ++ E.drop (p + 1) = E.set p (.agg [.val (.int .u8 y.id.y), .val (.int .i64 y.id.n), .val (.int .u8 y.bed), .val (.int .i64 y.at_), .val (.int .i64 y.spot)]) := by rw [List.set_eq_take_append_cons_drop, if_pos (by omega)]; simp
  have g3 : (E.set p (AV.agg [.val (.int .u8 y.id.y), .val (.int .i64 y.id.n), .val (.int .u8 y.bed), .val (.int .i64 y.at_), .val (.int .i64 y.spot)]))[q]? = some (.agg [.val (.int .u8 y.id.y), .val (.int .i64 y.id.n), .val (.int .u8 y.bed), .val (.int .i64 y.at_), .val (.int .i64 y.spot)]) := by rw [List.getElem?_set, if_neg hne]; exact g2
  replace h1 := (show Aside _ from h1)
  replace h2 := (show Aside _ from h2)
  replace hc := (show Aside _ from hc)
  replace hne := (show Aside _ from hne)
  replace hl := (show Aside _ from hl)
  replace hnx := (show Aside _ from hnx)
  refine seq_go ?_
  refine seq_go ?_
  (repeat' first
    | simp (contextual := true) (maxSteps := 4000000) only [fwc, fwe, fww, reduceIte, ↓reduceIte, Nat.reduceAdd, Nat.reduceLeDiff, Nat.reduceEqDiff, Nat.reduceLT, Nat.reduceSub, reduceCtorEq, Int.reduceEq, Int.reduceLT, Int.reduceLE, Int.reduceNeg, Int.reduceToNat, Int.reduceAdd, Int.reduceSub, Nat.reduceMul, ilt_nat, part_cell, part_agg, *]
    | (refine retK_now ?_)
    | (refine retK_now' ?_)
    | (intro q hq)
    | (refine cond_intro (fun hc => ?_) (fun hc => ?_)))
  refine seqK_now ?_
  (repeat' first
    | simp (contextual := true) (maxSteps := 4000000) only [fwc, fwe, fww, reduceIte, ↓reduceIte, Nat.reduceAdd, Nat.reduceLeDiff, Nat.reduceEqDiff, Nat.reduceLT, Nat.reduceSub, reduceCtorEq, Int.reduceEq, Int.reduceLT, Int.reduceLE, Int.reduceNeg, Int.reduceToNat, Int.reduceAdd, Int.reduceSub, Nat.reduceMul, ilt_nat, part_cell, part_agg, *]
    | (refine retK_now ?_)
    | (refine retK_now' ?_)
    | (intro q hq)
    | (refine cond_intro (fun hc => ?_) (fun hc => ?_)))
  refine seqK_now ?_
  refine seq_go ?_
  (repeat' first
    | simp (contextual := true) (maxSteps := 4000000) only [fwc, fwe, fww, reduceIte, ↓reduceIte, Nat.reduceAdd, Nat.reduceLeDiff, Nat.reduceEqDiff, Nat.reduceLT, Nat.reduceSub, reduceCtorEq, Int.reduceEq, Int.reduceLT, Int.reduceLE, Int.reduceNeg, Int.reduceToNat, Int.reduceAdd, Int.reduceSub, Nat.reduceMul, ilt_nat, part_cell, part_agg, *]
    | (refine retK_now ?_)
    | (refine retK_now' ?_)
    | (intro q hq)
    | (refine cond_intro (fun hc => ?_) (fun hc => ?_)))
  refine seqK_now ?_
  (repeat' first
    | simp (contextual := true) (maxSteps := 4000000) only [fwc, fwe, fww, reduceIte, ↓reduceIte, Nat.reduceAdd, Nat.reduceLeDiff, Nat.reduceEqDiff, Nat.reduceLT, Nat.reduceSub, reduceCtorEq, Int.reduceEq, Int.reduceLT, Int.reduceLE, Int.reduceNeg, Int.reduceToNat, Int.reduceAdd, Int.reduceSub, Nat.reduceMul, ilt_nat, part_cell, part_agg, wrap_succ, *]
    | (refine seqK_now ?_)
    | (refine retK_now ?_)
    | (refine retK_now' ?_)
    | (intro q hq)
    | (refine cond_intro (fun hc => ?_) (fun hc => ?_)))
  refine loopK_now (k - (i + 1)) (by have := hc.out; omega) ?_
  rw [hI.out]
  exact ⟨i + 1, _, by have := hc.out; omega, rfl, hnx.out, rfl, rfl⟩
end Go.Proofs.Ytembkknplmcamaa

namespace Go.Proofs.Ytembkknplmcamaa
open Go.Ab
attribute [local irreducible] WeakR WeakE CallA YieldA

def env60 (s : AV) (m : Nat) (f : AV) (i j : Nat) : Env := ((((Env.upd (fun _ => .junk) 11 (.val (.int .i64 j))).upd 10 (.val (.int .i64 i))).upd 4 f).upd 2 (.val (.int .i64 m))).upd 0 s
theorem Rot_ok (id n : Nat) (c : Option Nat) (R : List AV) (O : Heap) (L : List Hd) (hn : L.length = n) (hn2 : n ≤ 100000) (a m b : Nat) (ham : a < m) (hmb : m < b) (hb : b ≤ n) (K : AV → Heap → Prop) (hk : ∀ M r, RotP L M a m b → K r (stH O id M R)) :
    CallA Try.prog 60 [oS id n c, .val (.int .i64 a), .val (.int .i64 m), .val (.int .i64 b), .clo (.func 38) [] []] (stH O id L R) K := by
  refine k60.call mix ?_
  unfold c60
  obtain ⟨I, hI⟩ := hideI (fun t e O' => ∃ (i j : Nat) (M : List Hd), 0 < i ∧ 0 < j ∧ i ≤ m ∧ m + j ≤ n ∧ t = i + j ∧ M.length = n ∧ (∀ M', RotP M M' (m - i) m (m + j) → RotP L M' a m b) ∧ O' = stH O id M R ∧ e = env60 (oS id n c) m (.clo (.func 38) [] []) i j)
  have w1 : IntKind.i64.wrap ((m : Int) - (a : Int)) = ((m - a : Nat) : Int) := by rw [wrap_i64 (by omega) (by omega)]; omega
  have w2 : IntKind.i64.wrap ((b : Int) - (m : Int)) = ((b - m : Nat) : Int) := by rw [wrap_i64 (by omega) (by omega)]; omega
  replace ham := (show Aside _ from ham)
  replace hmb := (show Aside _ from hmb)
  replace hb := (show Aside _ from hb)
  replace hn := (show Aside _ from hn)
  replace hn2 := (show Aside _ from hn2)
  refine seq_go ?_
  (repeat' first
    | simp (contextual := true) (maxSteps := 4000000) only [fwc, fwe, fww, reduceIte, ↓reduceIte, Nat.reduceAdd, Nat.reduceLeDiff, Nat.reduceEqDiff, Nat.reduceLT, Nat.reduceSub, reduceCtorEq, Int.reduceEq, Int.reduceLT, Int.reduceLE, Int.reduceNeg, Int.reduceToNat, Int.reduceAdd, Int.reduceSub, Nat.reduceMul, *]
    | (refine retK_now ?_)
    | (refine retK_now' ?_)
    | (intro q hq)
    | (refine cond_intro (fun hc => ?_) (fun hc => ?_)))
  refine seqK_now ?_
  refine seq_go ?_
  (repeat' first
    | simp (contextual := true) (maxSteps := 4000000) only [fwc, fwe, fww, reduceIte, ↓reduceIte, Nat.reduceAdd, Nat.reduceLeDiff, Nat.reduceEqDiff, Nat.reduceLT, Nat.reduceSub, reduceCtorEq, Int.reduceEq, Int.reduceLT, Int.reduceLE, Int.reduceNeg, Int.reduceToNat, Int.reduceAdd, Int.reduceSub, Nat.reduceMul, *]
    | (refine retK_now ?_)
    | (refine retK_now' ?_)
    | (intro q hq)
    | (refine cond_intro (fun hc => ?_) (fun hc => ?_)))
  refine seqK_now ?_
  refine seq_go ?_
  (repeat' first
    | simp (contextual := true) (maxSteps := 4000000) only [fwc, fwe, fww, reduceIte, ↓reduceIte, Nat.reduceAdd, Nat.reduceLeDiff, Nat.reduceEqDiff, Nat.reduceLT, Nat.reduceSub, reduceCtorEq, Int.reduceEq, Int.reduceLT, Int.reduceLE, Int.reduceNeg, Int.reduceToNat, Int.reduceAdd, Int.reduceSub, Nat.reduceMul, *]
    | (refine retK_now ?_)
    | (refine retK_now' ?_)
    | (intro q hq)
    | (refine cond_intro (fun hc => ?_) (fun hc => ?_)))
  refine cmd_loop I (m - a + (b - m)) (by
    have := ham.out
    have := hmb.out
    have := hb.out
    rw [hI.out]
    exact ⟨m - a, b - m, L, by omega, by omega, by omega, by omega, rfl, hn.out, fun M' h => by rw [show m - (m - a) = a by omega, show m + (b - m) = b by omega] at h; exact h, rfl, rfl⟩) ?_
  clear w1 w2
  intro t e O' hh
  rw [hI.out] at hh
  obtain ⟨i, j, M, i0, j0, him, hmj, rfl, hM, hrot, hOH, rfl⟩ := hh
  rw [hOH]
  clear hOH O'
  unfold env60
  have hn2' := hn2.out
  have wi : IntKind.i64.wrap ((m : Int) - (i : Int)) = ((m - i : Nat) : Int) := by rw [wrap_i64 (by omega) (by omega)]; omega
  have wj : IntKind.i64.wrap ((m : Int) + (j : Int)) = ((m + j : Nat) : Int) := by rw [wrap_i64 (by omega) (by omega)]; omega
  have dij : decide ((i : Int) = (j : Int)) = decide (i = j) := decide_eq_decide.2 (by omega)
  have dji : decide ((j : Int) < (i : Int)) = decide (j < i) := decide_eq_decide.2 (by omega)
  replace i0 := (show Aside _ from i0)
  replace j0 := (show Aside _ from j0)
  replace him := (show Aside _ from him)
  replace hmj := (show Aside _ from hmj)
  replace hM := (show Aside _ from hM)
  replace hrot := (show Aside _ from hrot)
  by_cases hij : i = j
  · have e0 : decide (i = j) = true := decide_eq_true hij
    replace hij := (show Aside _ from hij)
    (repeat' first
    | simp (contextual := true) (maxSteps := 4000000) only [fwc, fwe, fww, reduceIte, ↓reduceIte, Nat.reduceAdd, Nat.reduceLeDiff, Nat.reduceEqDiff, Nat.reduceLT, Nat.reduceSub, reduceCtorEq, Int.reduceEq, Int.reduceLT, Int.reduceLE, Int.reduceNeg, Int.reduceToNat, Int.reduceAdd, Int.reduceSub, Nat.reduceMul, *]
    | (refine seqK_now ?_)
    | (refine retK_now ?_)
    | (refine retK_now' ?_)
    | (intro q hq)
    | (refine cond_intro (fun hc => ?_) (fun hc => ?_)))
    refine SwapR_ok id n c R O _ M hM.out hn2' (m - i) m i (by have := him.out; omega) (by have := hij.out; have := hmj.out; omega) _ fun N r hN => ?_
    replace hN := (show Aside _ from hN)
    (repeat' first
    | simp (contextual := true) (maxSteps := 4000000) only [fwc, fwe, fww, reduceIte, ↓reduceIte, Nat.reduceAdd, Nat.reduceLeDiff, Nat.reduceEqDiff, Nat.reduceLT, Nat.reduceSub, reduceCtorEq, Int.reduceEq, Int.reduceLT, Int.reduceLE, Int.reduceNeg, Int.reduceToNat, Int.reduceAdd, Int.reduceSub, Nat.reduceMul, *]
    | (refine seqK_now ?_)
    | (refine retK_now ?_)
    | (refine retK_now' ?_)
    | (intro q hq)
    | (refine cond_intro (fun hc => ?_) (fun hc => ?_)))
    exact WeakR.now (hk _ _ (hrot.out _ (by have := hij.out; subst this; exact RotP.last him.out hN.out)))
  have e0 : decide (i = j) = false := decide_eq_false hij
  by_cases hlt : j < i
  · have e1 : decide (j < i) = true := decide_eq_true hlt
    have w3 : IntKind.i64.wrap ((i : Int) - (j : Int)) = ((i - j : Nat) : Int) := by have := him.out; have := hmj.out; rw [wrap_i64 (by omega) (by omega)]; omega
    replace hij := (show Aside _ from hij)
    replace hlt := (show Aside _ from hlt)
    (repeat' first
    | simp (contextual := true) (maxSteps := 4000000) only [fwc, fwe, fww, reduceIte, ↓reduceIte, Nat.reduceAdd, Nat.reduceLeDiff, Nat.reduceEqDiff, Nat.reduceLT, Nat.reduceSub, reduceCtorEq, Int.reduceEq, Int.reduceLT, Int.reduceLE, Int.reduceNeg, Int.reduceToNat, Int.reduceAdd, Int.reduceSub, Nat.reduceMul, *]
    | (refine seqK_now ?_)
    | (refine retK_now ?_)
    | (refine retK_now' ?_)
    | (intro q hq)
    | (refine cond_intro (fun hc => ?_) (fun hc => ?_)))
    refine SwapR_ok id n c R O _ M hM.out hn2' (m - i) m j (by have := him.out; have := hlt.out; omega) (by have := hmj.out; omega) _ fun N r hN => ?_
    replace hN := (show Aside _ from hN)
    (repeat' first
    | simp (contextual := true) (maxSteps := 4000000) only [fwc, fwe, fww, reduceIte, ↓reduceIte, Nat.reduceAdd, Nat.reduceLeDiff, Nat.reduceEqDiff, Nat.reduceLT, Nat.reduceSub, reduceCtorEq, Int.reduceEq, Int.reduceLT, Int.reduceLE, Int.reduceNeg, Int.reduceToNat, Int.reduceAdd, Int.reduceSub, Nat.reduceMul, *]
    | (refine seqK_now ?_)
    | (refine retK_now ?_)
    | (refine retK_now' ?_)
    | (intro q hq)
    | (refine cond_intro (fun hc => ?_) (fun hc => ?_)))
    refine loopK_now (i - j + j) (by have := j0.out; have := hlt.out; omega) ?_
    rw [hI.out]
    have := hlt.out
    have := j0.out
    have := him.out
    exact ⟨i - j, j, N, by omega, j0.out, by omega, hmj.out, rfl, hN.out.len.trans hM.out, fun M' h => hrot.out _ (RotP.left him.out hlt.out j0.out hN.out h), rfl, rfl⟩
  · have e1 : decide (j < i) = false := decide_eq_false hlt
    have hlt : i < j := by omega
    have w3 : IntKind.i64.wrap ((j : Int) - (i : Int)) = ((j - i : Nat) : Int) := by have := him.out; have := hmj.out; rw [wrap_i64 (by omega) (by omega)]; omega
    have w4 : IntKind.i64.wrap (((m + j : Nat) : Int) - (i : Int)) = ((m + j - i : Nat) : Int) := by have := him.out; have := hmj.out; rw [wrap_i64 (by omega) (by omega)]; omega
    replace hij := (show Aside _ from hij)
    replace hlt := (show Aside _ from hlt)
    (repeat' first
    | simp (contextual := true) (maxSteps := 4000000) only [fwc, fwe, fww, reduceIte, ↓reduceIte, Nat.reduceAdd, Nat.reduceLeDiff, Nat.reduceEqDiff, Nat.reduceLT, Nat.reduceSub, reduceCtorEq, Int.reduceEq, Int.reduceLT, Int.reduceLE, Int.reduceNeg, Int.reduceToNat, Int.reduceAdd, Int.reduceSub, Nat.reduceMul, *]
    | (refine seqK_now ?_)
    | (refine retK_now ?_)
    | (refine retK_now' ?_)
    | (intro q hq)
    | (refine cond_intro (fun hc => ?_) (fun hc => ?_)))
    refine SwapR_ok id n c R O _ M hM.out hn2' (m - i) (m + j - i) i (by have := him.out; have := hlt.out; omega) (by have := hmj.out; have := hlt.out; omega) _ fun N r hN => ?_
    replace hN := (show Aside _ from hN)
    (repeat' first
    | simp (contextual := true) (maxSteps := 4000000) only [fwc, fwe, fww, reduceIte, ↓reduceIte, Nat.reduceAdd, Nat.reduceLeDiff, Nat.reduceEqDiff, Nat.reduceLT, Nat.reduceSub, reduceCtorEq, Int.reduceEq, Int.reduceLT, Int.reduceLE, Int.reduceNeg, Int.reduceToNat, Int.reduceAdd, Int.reduceSub, Nat.reduceMul, *]
    | (refine seqK_now ?_)
    | (refine retK_now ?_)
    | (refine retK_now' ?_)
    | (intro q hq)
    | (refine cond_intro (fun hc => ?_) (fun hc => ?_)))
    have := hlt.out
    have := i0.out
    have := him.out
    have := hmj.out
    refine loopK_now (i + (j - i)) (by omega) ?_
    rw [hI.out]
    exact ⟨i, j - i, N, i0.out, by omega, him.out, by omega, rfl, hN.out.len.trans hM.out, fun M' h => hrot.out _ (RotP.right him.out hlt.out i0.out hN.out h), rfl, rfl⟩

def cmpL (x y : Int) : Int := if x < y then -1 else if y < x then 1 else 0
theorem cmpL_neg (x y : Int) : decide (cmpL x y < 0) = decide (x < y) := by
  unfold cmpL
  by_cases h : x < y
  · simp [h]
  · rw [if_neg h]
    by_cases h2 : y < x
    · simp [h, h2]
    · simp [h, h2]
theorem isNaN_ok (x : Int) : PureA Try.prog 55 [.val (.int .i64 x)] (.val (.bool false)) := by
  intro O
  refine k55.call mix ?_
  unfold c55
  have : decide (x = x) = true := decide_eq_true rfl
  (repeat' first
    | simp (contextual := true) (maxSteps := 4000000) only [fwc, fwe, fww, reduceIte, ↓reduceIte, Nat.reduceAdd, Nat.reduceLeDiff, Nat.reduceEqDiff, Nat.reduceLT, Nat.reduceSub, reduceCtorEq, Int.reduceEq, Int.reduceLT, Int.reduceLE, Int.reduceNeg, Int.reduceToNat, Int.reduceAdd, Int.reduceSub, Nat.reduceMul, *]
    | (refine seqK_now ?_)
    | (refine retK_now ?_)
    | (refine retK_now' ?_)
    | (intro q hq)
    | (refine cond_intro (fun hc => ?_) (fun hc => ?_)))
  refine WeakR.pure (by repeat (first | exact Heap.sub_refl _ | refine sub_upd (by simp only [*]) ?_)) ?_
  rfl
theorem Compare_ok (x y : Int) : PureA Try.prog 39 [.val (.int .i64 x), .val (.int .i64 y)] (.val (.int .i64 (cmpL x y))) := by
  intro O
  have h1 := isNaN_ok x
  have h2 := isNaN_ok y
  refine k39.call mix ?_
  unfold c39
  by_cases c1 : x < y
  · have e1 : decide (x < y) = true := decide_eq_true c1
    have hr : cmpL x y = -1 := if_pos c1
    rw [hr]
    replace c1 := (show Aside _ from c1)
    (repeat' first
    | simp (contextual := true) (maxSteps := 4000000) only [fwc, fwe, fww, reduceIte, ↓reduceIte, Nat.reduceAdd, Nat.reduceLeDiff, Nat.reduceEqDiff, Nat.reduceLT, Nat.reduceSub, reduceCtorEq, Int.reduceEq, Int.reduceLT, Int.reduceLE, Int.reduceNeg, Int.reduceToNat, Int.reduceAdd, Int.reduceSub, Nat.reduceMul, *]
    | (refine seqK_now ?_)
    | (refine retK_now ?_)
    | (refine retK_now' ?_)
    | (intro q hq)
    | (refine cond_intro (fun hc => ?_) (fun hc => ?_)))
    refine h1.use ?_
    (repeat' first
    | simp (contextual := true) (maxSteps := 4000000) only [fwc, fwe, fww, reduceIte, ↓reduceIte, Nat.reduceAdd, Nat.reduceLeDiff, Nat.reduceEqDiff, Nat.reduceLT, Nat.reduceSub, reduceCtorEq, Int.reduceEq, Int.reduceLT, Int.reduceLE, Int.reduceNeg, Int.reduceToNat, Int.reduceAdd, Int.reduceSub, Nat.reduceMul, *]
    | (refine seqK_now ?_)
    | (refine retK_now ?_)
    | (refine retK_now' ?_)
    | (intro q hq)
    | (refine cond_intro (fun hc => ?_) (fun hc => ?_)))
    refine h2.use ?_
    (repeat' first
    | simp (contextual := true) (maxSteps := 4000000) only [fwc, fwe, fww, reduceIte, ↓reduceIte, Nat.reduceAdd, Nat.reduceLeDiff, Nat.reduceEqDiff, Nat.reduceLT, Nat.reduceSub, reduceCtorEq, Int.reduceEq, Int.reduceLT, Int.reduceLE, Int.reduceNeg, Int.reduceToNat, Int.reduceAdd, Int.reduceSub, Nat.reduceMul, *]
    | (refine seqK_now ?_)
    | (refine retK_now ?_)
    | (refine retK_now' ?_)
    | (intro q hq)
    | (refine cond_intro (fun hc => ?_) (fun hc => ?_)))
    refine WeakR.pure (by repeat (first | exact Heap.sub_refl _ | refine sub_upd (by simp only [*]) ?_)) ?_
    rfl
  · have e1 : decide (x < y) = false := decide_eq_false c1
    by_cases c2 : y < x
    · have e2 : decide (y < x) = true := decide_eq_true c2
      have hr : cmpL x y = 1 := by unfold cmpL; rw [if_neg c1, if_pos c2]
      rw [hr]
      replace c1 := (show Aside _ from c1)
      replace c2 := (show Aside _ from c2)
      (repeat' first
    | simp (contextual := true) (maxSteps := 4000000) only [fwc, fwe, fww, reduceIte, ↓reduceIte, Nat.reduceAdd, Nat.reduceLeDiff, Nat.reduceEqDiff, Nat.reduceLT, Nat.reduceSub, reduceCtorEq, Int.reduceEq, Int.reduceLT, Int.reduceLE, Int.reduceNeg, Int.reduceToNat, Int.reduceAdd, Int.reduceSub, Nat.reduceMul, *]
    | (refine seqK_now ?_)
    | (refine retK_now ?_)
    | (refine retK_now' ?_)
    | (intro q hq)
    | (refine cond_intro (fun hc => ?_) (fun hc => ?_)))
      refine h1.use ?_
      (repeat' first
    | simp (contextual := true) (maxSteps := 4000000) only [fwc, fwe, fww, reduceIte, ↓reduceIte, Nat.reduceAdd, Nat.reduceLeDiff, Nat.reduceEqDiff, Nat.reduceLT, Nat.reduceSub, reduceCtorEq, Int.reduceEq, Int.reduceLT, Int.reduceLE, Int.reduceNeg, Int.reduceToNat, Int.reduceAdd, Int.reduceSub, Nat.reduceMul, *]
    | (refine seqK_now ?_)
    | (refine retK_now ?_)
    | (refine retK_now' ?_)
    | (intro q hq)
    | (refine cond_intro (fun hc => ?_) (fun hc => ?_)))
      refine h2.use ?_
      (repeat' first
    | simp (contextual := true) (maxSteps := 4000000) only [fwc, fwe, fww, reduceIte, ↓reduceIte, Nat.reduceAdd, Nat.reduceLeDiff, Nat.reduceEqDiff, Nat.reduceLT, Nat.reduceSub, reduceCtorEq, Int.reduceEq, Int.reduceLT, Int.reduceLE, Int.reduceNeg, Int.reduceToNat, Int.reduceAdd, Int.reduceSub, Nat.reduceMul, *]
    | (refine seqK_now ?_)
    | (refine retK_now ?_)
    | (refine retK_now' ?_)
    | (intro q hq)
    | (refine cond_intro (fun hc => ?_) (fun hc => ?_)))
      refine WeakR.pure (by repeat (first | exact Heap.sub_refl _ | refine sub_upd (by simp only [*]) ?_)) ?_
      rfl
    · have e2 : decide (y < x) = false := decide_eq_false c2
      have hr : cmpL x y = 0 := by unfold cmpL; rw [if_neg c1, if_neg c2]
      rw [hr]
      replace c1 := (show Aside _ from c1)
      replace c2 := (show Aside _ from c2)
      (repeat' first
    | simp (contextual := true) (maxSteps := 4000000) only [fwc, fwe, fww, reduceIte, ↓reduceIte, Nat.reduceAdd, Nat.reduceLeDiff, Nat.reduceEqDiff, Nat.reduceLT, Nat.reduceSub, reduceCtorEq, Int.reduceEq, Int.reduceLT, Int.reduceLE, Int.reduceNeg, Int.reduceToNat, Int.reduceAdd, Int.reduceSub, Nat.reduceMul, *]
    | (refine seqK_now ?_)
    | (refine retK_now ?_)
    | (refine retK_now' ?_)
    | (intro q hq)
    | (refine cond_intro (fun hc => ?_) (fun hc => ?_)))
      refine h1.use ?_
      (repeat' first
    | simp (contextual := true) (maxSteps := 4000000) only [fwc, fwe, fww, reduceIte, ↓reduceIte, Nat.reduceAdd, Nat.reduceLeDiff, Nat.reduceEqDiff, Nat.reduceLT, Nat.reduceSub, reduceCtorEq, Int.reduceEq, Int.reduceLT, Int.reduceLE, Int.reduceNeg, Int.reduceToNat, Int.reduceAdd, Int.reduceSub, Nat.reduceMul, *]
    | (refine seqK_now ?_)
    | (refine retK_now ?_)
    | (refine retK_now' ?_)
    | (intro q hq)
    | (refine cond_intro (fun hc => ?_) (fun hc => ?_)))
      refine h2.use ?_
      (repeat' first
    | simp (contextual := true) (maxSteps := 4000000) only [fwc, fwe, fww, reduceIte, ↓reduceIte, Nat.reduceAdd, Nat.reduceLeDiff, Nat.reduceEqDiff, Nat.reduceLT, Nat.reduceSub, reduceCtorEq, Int.reduceEq, Int.reduceLT, Int.reduceLE, Int.reduceNeg, Int.reduceToNat, Int.reduceAdd, Int.reduceSub, Nat.reduceMul, *]
    | (refine seqK_now ?_)
    | (refine retK_now ?_)
    | (refine retK_now' ?_)
    | (intro q hq)
    | (refine cond_intro (fun hc => ?_) (fun hc => ?_)))
      refine WeakR.pure (by repeat (first | exact Heap.sub_refl _ | refine sub_upd (by simp only [*]) ?_)) ?_
      rfl
theorem cmp_ok (x y : Hd) : PureA Try.prog 38 [x.av, y.av] (.val (.int .i64 (cmpL x.spot y.spot))) := by
  intro O
  have h := Compare_ok x.spot y.spot
  refine k38.call mix ?_
  unfold c38 Hd.av
  (repeat' first
    | simp (contextual := true) (maxSteps := 4000000) only [fwc, fwe, fww, reduceIte, ↓reduceIte, Nat.reduceAdd, Nat.reduceLeDiff, Nat.reduceEqDiff, Nat.reduceLT, Nat.reduceSub, reduceCtorEq, Int.reduceEq, Int.reduceLT, Int.reduceLE, Int.reduceNeg, Int.reduceToNat, Int.reduceAdd, Int.reduceSub, Nat.reduceMul, part_cell, part_agg, *]
    | (refine seqK_now ?_)
    | (refine retK_now ?_)
    | (refine retK_now' ?_)
    | (intro q hq)
    | (refine cond_intro (fun hc => ?_) (fun hc => ?_)))
  refine h.use ?_
  (repeat' first
    | simp (contextual := true) (maxSteps := 4000000) only [fwc, fwe, fww, reduceIte, ↓reduceIte, Nat.reduceAdd, Nat.reduceLeDiff, Nat.reduceEqDiff, Nat.reduceLT, Nat.reduceSub, reduceCtorEq, Int.reduceEq, Int.reduceLT, Int.reduceLE, Int.reduceNeg, Int.reduceToNat, Int.reduceAdd, Int.reduceSub, Nat.reduceMul, *]
    | (refine seqK_now ?_)
    | (refine retK_now ?_)
    | (refine retK_now' ?_)
    | (intro q hq)
    | (refine cond_intro (fun hc => ?_) (fun hc => ?_)))
  refine WeakR.pure (by repeat (first | exact Heap.sub_refl _ | refine sub_upd (by simp only [*]) ?_)) ?_
  rfl
end Go.Proofs.Ytembkknplmcamaa

namespace Go.Proofs.Ytembkknplmcamaa
open Go.Ab
attribute [local irreducible] WeakR WeakE CallA YieldA

/-! Insertion sort. -/
def env58 (s : AV) (a b : Nat) (f : AV) (i : Nat) : Env := ((((Env.upd (fun _ => .junk) 8 (.val (.int .i64 i))).upd 3 f).upd 2 (.val (.int .i64 b))).upd 1 (.val (.int .i64 a))).upd 0 s
def env58i (s : AV) (a b : Nat) (f : AV) (i j : Nat) : Env := (((((Env.upd (fun _ => .junk) 9 (.val (.int .i64 j))).upd 8 (.val (.int .i64 i))).upd 3 f).upd 2 (.val (.int .i64 b))).upd 1 (.val (.int .i64 a))).upd 0 s
theorem guardW_t (A B : Prop) : guardW (.val (.bool true)) true A B = A := guard_tt _ _
theorem guardW_f (A B : Prop) : guardW (.val (.bool false)) true A B = B := guard_ft _ _

set_option maxHeartbeats 2000000 in
theorem Insert_ok (id n : Nat) (c : Option Nat) (R : List AV) (O : Heap) (L : List Hd) (hn : L.length = n) (hn2 : n ≤ 100000) (a b : Nat) (hab : a ≤ n) (hb : b ≤ n) (K : AV → Heap → Prop) (hk : ∀ M r, Keeps L M a b → Srt M a b → K r (stH O id M R)) :
    CallA Try.prog 58 [oS id n c, .val (.int .i64 a), .val (.int .i64 b), .clo (.func 38) [] []] (stH O id L R) K := by
  refine k58.call mix ?_
  unfold c58
  obtain ⟨I, hI⟩ := hideI (fun t e O' => ∃ (i : Nat) (M : List Hd), a < i ∧ (i ≤ b ∨ i = a + 1) ∧ t = n + 1 - i ∧ Keeps L M a b ∧ Srt M a i ∧ O' = stH O id M R ∧ e = env58 (oS id n c) a b (.clo (.func 38) [] []) i)
  have wa : IntKind.i64.wrap ((a : Int) + 1) = ((a + 1 : Nat) : Int) := by rw [wrap_i64 (by omega) (by omega)]; omega
  replace hab := (show Aside _ from hab)
  replace hb := (show Aside _ from hb)
  replace hn := (show Aside _ from hn)
  replace hn2 := (show Aside _ from hn2)
  (repeat' first
    | simp (contextual := true) (maxSteps := 4000000) only [fwc, fwe, fww, reduceIte, ↓reduceIte, Nat.reduceAdd, Nat.reduceLeDiff, Nat.reduceEqDiff, Nat.reduceLT, Nat.reduceSub, reduceCtorEq, Int.reduceEq, Int.reduceLT, Int.reduceLE, Int.reduceNeg, Int.reduceToNat, Int.reduceAdd, Int.reduceSub, Nat.reduceMul, *]
    | (refine seqK_now ?_)
    | (refine retK_now ?_)
    | (refine retK_now' ?_)
    | (intro q hq)
    | (refine cond_intro (fun hc => ?_) (fun hc => ?_)))
  refine cmd_loop I (n + 1 - (a + 1)) (by
    have := hab.out
    have := hb.out
    rw [hI.out]
    exact ⟨a + 1, L, by omega, .inr rfl, rfl, Keeps.refl _ _ _, fun i j h1 h2 h3 => by rw [show i = j by omega]; exact Int.le_refl _, rfl, rfl⟩) ?_
  clear wa
  intro t e O' hh
  rw [hI.out] at hh
  obtain ⟨i, M, hai, hib, rfl, hM, hs, hOH, rfl⟩ := hh
  rw [hOH]
  clear hOH O'
  unfold env58
  have dij : decide ((i : Int) < (b : Int)) = decide (i < b) := decide_eq_decide.2 (by omega)
  by_cases hi : i < b
  rotate_left
  · have e0 : decide (i < b) = false := decide_eq_false hi
    have hle : b ≤ i := by omega
    replace hle := (show Aside _ from hle)
    replace hM := (show Aside _ from hM)
    replace hs := (show Aside _ from hs)
    replace hi := (show Aside _ from hi)
    replace hib := (show Aside _ from hib)
    replace hai := (show Aside _ from hai)
    (repeat' first
    | simp (contextual := true) (maxSteps := 4000000) only [fwc, fwe, fww, reduceIte, ↓reduceIte, Nat.reduceAdd, Nat.reduceLeDiff, Nat.reduceEqDiff, Nat.reduceLT, Nat.reduceSub, reduceCtorEq, Int.reduceEq, Int.reduceLT, Int.reduceLE, Int.reduceNeg, Int.reduceToNat, Int.reduceAdd, Int.reduceSub, Nat.reduceMul, *]
    | (refine seqK_now ?_)
    | (refine retK_now ?_)
    | (refine retK_now' ?_)
    | (intro q hq)
    | (refine cond_intro (fun hc => ?_) (fun hc => ?_)))
    exact WeakR.now (hk _ _ hM.out (Srt.part hs.out (Nat.le_refl _) hle.out))
  have e0 : decide (i < b) = true := decide_eq_true hi
  have hwi : i < 4611686018427387904 := by have := hn2.out; have := hb.out; omega
  obtain ⟨J, hJ⟩ := hideI (fun t e O' => ∃ (j : Nat) (N : List Hd), a ≤ j ∧ j ≤ i ∧ t = j ∧ Keeps L N a b ∧ Ins N a j i ∧ O' = stH O id N R ∧ e = env58i (oS id n c) a b (.clo (.func 38) [] []) i j)
  replace hM := (show Aside _ from hM)
  replace hs := (show Aside _ from hs)
  replace hi := (show Aside _ from hi)
  replace hib := (show Aside _ from hib)
  replace hai := (show Aside _ from hai)
  (repeat' first
    | simp (contextual := true) (maxSteps := 4000000) only [fwc, fwe, fww, reduceIte, ↓reduceIte, Nat.reduceAdd, Nat.reduceLeDiff, Nat.reduceEqDiff, Nat.reduceLT, Nat.reduceSub, reduceCtorEq, Int.reduceEq, Int.reduceLT, Int.reduceLE, Int.reduceNeg, Int.reduceToNat, Int.reduceAdd, Int.reduceSub, Nat.reduceMul, *]
    | (refine seqK_now ?_)
    | (refine retK_now ?_)
    | (refine retK_now' ?_)
    | (intro q hq)
    | (refine cond_intro (fun hc => ?_) (fun hc => ?_)))
  refine cmd_loop J i (by
    rw [hJ.out]
    exact ⟨i, M, by have := hai.out; omega, Nat.le_refl _, rfl, hM.out, Ins.start hs.out, rfl, rfl⟩) ?_
  clear hM hs M
  intro j e O' hh
  rw [hJ.out] at hh
  obtain ⟨_, N, haj, hji, rfl, hN, hins, hOH, rfl⟩ := hh
  rw [hOH]
  clear hOH O'
  unfold env58i
  have dja : decide ((a : Int) < (j : Int)) = decide (a < j) := decide_eq_decide.2 (by omega)
  by_cases hj : a < j
  rotate_left
  · have e1 : decide (a < j) = false := decide_eq_false hj
    have hje : j = a := by omega
    replace hN := (show Aside _ from hN)
    replace hins := (show Aside _ from hins)
    replace hj := (show Aside _ from hj)
    replace hje := (show Aside _ from hje)
    replace haj := (show Aside _ from haj)
    replace hji := (show Aside _ from hji)
    (repeat' first
    | simp (contextual := true) (maxSteps := 4000000) only [fwc, fwe, fww, reduceIte, ↓reduceIte, Nat.reduceAdd, Nat.reduceLeDiff, Nat.reduceEqDiff, Nat.reduceLT, Nat.reduceSub, reduceCtorEq, Int.reduceEq, Int.reduceLT, Int.reduceLE, Int.reduceNeg, Int.reduceToNat, Int.reduceAdd, Int.reduceSub, Nat.reduceMul, drawW_cv, drawW_gcv, guardW_t, guardW_f, wrap_succ, *]
    | (refine seqK_now ?_)
    | (refine retK_now ?_)
    | (refine retK_now' ?_)
    | (intro q hq)
    | (refine cond_intro (fun hc => ?_) (fun hc => ?_)))
    refine loopK_now (n + 1 - (i + 1)) (by have := hi.out; have := hb.out; omega) ?_
    rw [hI.out]
    exact ⟨i + 1, N, by have := hai.out; omega, .inl (by have := hi.out; omega), rfl, hN.out, Ins.stop hins.out haj.out hji.out (.inl hje.out), rfl, rfl⟩
  have e1 : decide (a < j) = true := decide_eq_true hj
  obtain ⟨k, rfl⟩ : ∃ k, j = k + 1 := ⟨j - 1, by omega⟩
  have hl : N.length = n := hN.len.trans hn.out
  have h1 : k + 1 < n := by have := hi.out; have := hb.out; omega
  have h2 : k < n := by omega
  have wk : IntKind.i64.wrap (((k + 1 : Nat) : Int) - 1) = (k : Int) := by have := hn2.out; rw [wrap_i64 (by omega) (by omega)]; omega
  have a1 : indexAddrA 5 ((k + 1 : Nat) : Int) (.own id 5 0 n c) = some (.optr id 5 (k + 1) 0) := by rw [ia_onat h1, Nat.zero_add]
  have a2 : indexAddrA 5 (k : Int) (.own id 5 0 n c) = some (.optr id 5 k 0) := by rw [ia_onat h2, Nat.zero_add]
  have g1 : (arE N R)[k + 1]? = some (gt N (k + 1)).av := arE_get (by omega)
  have g2 : (arE N R)[k]? = some (gt N k).av := arE_get (by omega)
  have hst := arE_sw (L := N) (R := R) (i := k + 1) (j := k) (by omega) (by omega)
  rw [sw_comm (by omega) (by omega)] at hst
  have hne : k + 1 ≠ k := by omega
  have hl1 : k + 1 + 1 ≤ (arE N R).length := by rw [arE_len]; omega
  have hl2 : k + 1 ≤ (arE N R).length := by rw [arE_len]; omega
  have hcmp := cmp_ok (gt N (k + 1)) (gt N k)
  have hneg := cmpL_neg (gt N (k + 1)).spot (gt N k).spot
  have hstop : ¬ (gt N (k + 1)).spot < (gt N k).spot → Srt N a (i + 1) := fun h => hins.stop haj hji (.inr (by show (gt N (k + 1 - 1)).spot ≤ _; rw [Nat.add_sub_cancel]; omega))
  have hgo : (gt N (k + 1)).spot < (gt N k).spot → Ins (swp N k (k + 1)) a k i ∧ Keeps L (swp N k (k + 1)) a b := fun h =>
    ⟨hins.step (by omega) hji (by have := hi.out; have := hb.out; omega) h, hN.trans ((sw_keeps (by omega) (by omega)).wide (by omega) (by have := hi.out; omega))⟩
  generalize gt N (k + 1) = x at *
  generalize gt N k = y at *
  unfold stH oS
  rw [show x.av = .agg [.val (.int .u8 x.id.y), .val (.int .i64 x.id.n), .val (.int .u8 x.bed), .val (.int .i64 x.at_), .val (.int .i64 x.spot)] from rfl] at g1 hst hcmp
  rw [show y.av = .agg [.val (.int .u8 y.id.y), .val (.int .i64 y.id.n), .val (.int .u8 y.bed), .val (.int .i64 y.at_), .val (.int .i64 y.spot)] from rfl] at g2 hst hcmp
  generalize hEd : arE N R = E at *
  have s1 : E.take (k + 1) ++ [AV.agg [.val (.int .u8 y.id.y), .val (.int .i64 y.id.n), .val (.int .u8 y.bed), .val (.int .i64 y.at_), .val (.int .i64 y.spot)]] ++ E.drop (k + 1 + 1) = E.set (k + 1) (.agg [.val (.int .u8 y.id.y), .val (.int .i64 y.id.n), .val (.int .u8 y.bed), .val (.int .i64 y.at_), .val (.int .i64 y.spot)]) := by rw [List.set_eq_take_append_cons_drop, if_pos (by omega)]; simp
  have g3 : (E.set (k + 1) (AV.agg [.val (.int .u8 y.id.y), .val (.int .i64 y.id.n), .val (.int .u8 y.bed), .val (.int .i64 y.at_), .val (.int .i64 y.spot)]))[k]? = some (.agg [.val (.int .u8 y.id.y), .val (.int .i64 y.id.n), .val (.int .u8 y.bed), .val (.int .i64 y.at_), .val (.int .i64 y.spot)]) := by rw [List.getElem?_set, if_neg hne]; exact g2
  obtain ⟨q, hq⟩ : ∃ q, k + 1 = q := ⟨_, rfl⟩
  rw [hq] at e1 wk a1 g1 hst hl1 s1 g3 hl2 ⊢
  replace hEd := (show Aside _ from hEd)
  replace hN := (show Aside _ from hN)
  replace hins := (show Aside _ from hins)
  replace hj := (show Aside _ from hj)
  replace haj := (show Aside _ from haj)
  replace hji := (show Aside _ from hji)
  replace hq := (show Aside _ from hq)
  replace hstop := (show Aside _ from hstop)
  replace hgo := (show Aside _ from hgo)
  replace h1 := (show Aside _ from h1)
  replace h2 := (show Aside _ from h2)
  replace hne := (show Aside _ from hne)
  replace hl := (show Aside _ from hl)
  rw [hq.out] at dja
  by_cases hlt : x.spot < y.spot
  · have e2 : decide (x.spot < y.spot) = true := decide_eq_true hlt
    obtain ⟨hg1, hg2⟩ := hgo.out hlt
    replace hlt := (show Aside _ from hlt)
    replace hg1 := (show Aside _ from hg1)
    replace hg2 := (show Aside _ from hg2)
    (repeat' first
    | simp (contextual := true) (maxSteps := 4000000) only [fwc, fwe, fww, reduceIte, ↓reduceIte, Nat.reduceAdd, Nat.reduceLeDiff, Nat.reduceEqDiff, Nat.reduceLT, Nat.reduceSub, reduceCtorEq, Int.reduceEq, Int.reduceLT, Int.reduceLE, Int.reduceNeg, Int.reduceToNat, Int.reduceAdd, Int.reduceSub, Nat.reduceMul, part_cell, part_agg, drawW_cv, drawW_gcv, guardW_t, guardW_f, callvF_clo, *]
    | (refine seqK_now ?_)
    | (refine retK_now ?_)
    | (refine retK_now' ?_)
    | (intro q hq)
    | (refine cond_intro (fun hc => ?_) (fun hc => ?_)))
    refine callF_use hcmp ?_
    (repeat' first
    | simp (contextual := true) (maxSteps := 4000000) only [fwc, fwe, fww, reduceIte, ↓reduceIte, Nat.reduceAdd, Nat.reduceLeDiff, Nat.reduceEqDiff, Nat.reduceLT, Nat.reduceSub, reduceCtorEq, Int.reduceEq, Int.reduceLT, Int.reduceLE, Int.reduceNeg, Int.reduceToNat, Int.reduceAdd, Int.reduceSub, Nat.reduceMul, part_cell, part_agg, drawW_cv, drawW_gcv, guardW_t, guardW_f, callvF_clo, *]
    | (refine seqK_now ?_)
    | (refine retK_now ?_)
    | (refine retK_now' ?_)
    | (intro q hq)
    | (refine cond_intro (fun hc => ?_) (fun hc => ?_)))
    refine loopK_now k (by have := hq.out; omega) ?_
    rw [hJ.out]
    exact ⟨k, _, by have := hj.out; have := hq.out; omega, by have := hji.out; have := hq.out; omega, rfl, hg2.out, hg1.out, by rw [← hq.out]; rfl, rfl⟩
  · have e2 : decide (x.spot < y.spot) = false := decide_eq_false hlt
    have hsr := hstop.out hlt
    replace hlt := (show Aside _ from hlt)
    replace hsr := (show Aside _ from hsr)
    (repeat' first
    | simp (contextual := true) (maxSteps := 4000000) only [fwc, fwe, fww, reduceIte, ↓reduceIte, Nat.reduceAdd, Nat.reduceLeDiff, Nat.reduceEqDiff, Nat.reduceLT, Nat.reduceSub, reduceCtorEq, Int.reduceEq, Int.reduceLT, Int.reduceLE, Int.reduceNeg, Int.reduceToNat, Int.reduceAdd, Int.reduceSub, Nat.reduceMul, part_cell, part_agg, drawW_cv, drawW_gcv, guardW_t, guardW_f, callvF_clo, *]
    | (refine seqK_now ?_)
    | (refine retK_now ?_)
    | (refine retK_now' ?_)
    | (intro q hq)
    | (refine cond_intro (fun hc => ?_) (fun hc => ?_)))
    refine callF_use hcmp ?_
    (repeat' first
    | simp (contextual := true) (maxSteps := 4000000) only [fwc, fwe, fww, reduceIte, ↓reduceIte, Nat.reduceAdd, Nat.reduceLeDiff, Nat.reduceEqDiff, Nat.reduceLT, Nat.reduceSub, reduceCtorEq, Int.reduceEq, Int.reduceLT, Int.reduceLE, Int.reduceNeg, Int.reduceToNat, Int.reduceAdd, Int.reduceSub, Nat.reduceMul, part_cell, part_agg, drawW_cv, drawW_gcv, guardW_t, guardW_f, callvF_clo, wrap_succ, *]
    | (refine seqK_now ?_)
    | (refine retK_now ?_)
    | (refine retK_now' ?_)
    | (intro q hq)
    | (refine cond_intro (fun hc => ?_) (fun hc => ?_)))
    refine loopK_now (n + 1 - (i + 1)) (by have := hi.out; have := hb.out; omega) ?_
    rw [hI.out]
    exact ⟨i + 1, N, by have := hai.out; omega, .inl (by have := hi.out; omega), rfl, hN.out, hsr.out, by rw [← hEd.out]; rfl, rfl⟩
end Go.Proofs.Ytembkknplmcamaa

namespace Go.Proofs.Ytembkknplmcamaa
open Go.Ab
attribute [local irreducible] WeakR WeakE CallA YieldA

/-! symMerge. -/
theorem fdivH (x : Nat) : Int.fdiv (x : Int) (2 ^ min 1 IntKind.u64.bits) = ((x / 2 : Nat) : Int) := by
  have e : min 1 IntKind.u64.bits = 1 := by decide
  rw [e]
  show Int.fdiv (x : Int) ((2 : Nat) : Int) = _
  rw [Int.fdiv_eq_ediv_of_nonneg _ (by omega)]
  rfl
theorem wrap_u64n {x : Nat} (h : x < 4611686018427387904) : IntKind.u64.wrap (x : Int) = (x : Int) := by
  unfold IntKind.wrap IntKind.signed
  show (x : Int) % (2 ^ 64) = x
  omega
def env59a (s : AV) (a i j : Nat) (f : AV) : Env := ((((Env.upd (fun _ => .junk) 11 (.val (.int .i64 j))).upd 10 (.val (.int .i64 i))).upd 4 f).upd 1 (.val (.int .i64 a))).upd 0 s
def env59b (s : AV) (i k : Nat) : Env := ((Env.upd (fun _ => .junk) 13 (.val (.int .i64 k))).upd 10 (.val (.int .i64 i))).upd 0 s
def env59c (s : AV) (m i j : Nat) (f : AV) : Env := ((((Env.upd (fun _ => .junk) 15 (.val (.int .i64 j))).upd 14 (.val (.int .i64 i))).upd 4 f).upd 2 (.val (.int .i64 m))).upd 0 s
def env59d (s : AV) (i k : Nat) : Env := ((Env.upd (fun _ => .junk) 17 (.val (.int .i64 k))).upd 14 (.val (.int .i64 i))).upd 0 s
def env59h (s : AV) (a m b : Nat) (f : AV) (mid nn st r : Nat) : Env := ((((((((Env.upd (fun _ => .junk) 21 (.val (.int .i64 r))).upd 20 (.val (.int .i64 st))).upd 19 (.val (.int .i64 nn))).upd 18 (.val (.int .i64 mid))).upd 4 f).upd 3 (.val (.int .i64 b))).upd 2 (.val (.int .i64 m))).upd 1 (.val (.int .i64 a))).upd 0 s
def env59e (s : AV) (a m b : Nat) (f : AV) (mid nn st r p : Nat) : Env := (((((((((Env.upd (fun _ => .junk) 22 (.val (.int .i64 p))).upd 21 (.val (.int .i64 r))).upd 20 (.val (.int .i64 st))).upd 19 (.val (.int .i64 nn))).upd 18 (.val (.int .i64 mid))).upd 4 f).upd 3 (.val (.int .i64 b))).upd 2 (.val (.int .i64 m))).upd 1 (.val (.int .i64 a))).upd 0 s
def env59f (s : AV) (a b : Nat) (f : AV) (mid st e : Nat) : Env := ((((((Env.upd (fun _ => .junk) 24 (.val (.int .i64 e))).upd 20 (.val (.int .i64 st))).upd 18 (.val (.int .i64 mid))).upd 4 f).upd 3 (.val (.int .i64 b))).upd 1 (.val (.int .i64 a))).upd 0 s
def env59g (s : AV) (b : Nat) (f : AV) (mid e : Nat) : Env := ((((Env.upd (fun _ => .junk) 24 (.val (.int .i64 e))).upd 18 (.val (.int .i64 mid))).upd 4 f).upd 3 (.val (.int .i64 b))).upd 0 s
theorem RotP.triv {L : List Hd} {s m e : Nat} (h : s = m ∨ m = e) (h1 : s ≤ m) (h2 : m ≤ e) : RotP L L s m e := ⟨rfl, fun i => by
  repeat' split
  all_goals first
    | rfl
    | (exfalso; omega)
    | (congr 1; omega)⟩
set_option maxHeartbeats 4000000 in
theorem Sym1_ok (id n : Nat) (c : Option Nat) (R : List AV) (O : Heap) (hn2 : n ≤ 100000) (L : List Hd) (hn : L.length = n) (a m b : Nat) (ham : a < m) (hmb : m < b) (hb : b ≤ n) (hs1 : Srt L a m) (hs2 : Srt L m b) (h1 : m = a + 1) (K : AV → Heap → Prop) (hk : ∀ M r, Keeps L M a b → Srt M a b → K r (stH O id M R)) :
    CallA Try.prog 59 [oS id n c, .val (.int .i64 a), .val (.int .i64 m), .val (.int .i64 b), .clo (.func 38) [] []] (stH O id L R) K := by
  refine k59.call mix ?_
  unfold c59
  obtain ⟨I, hI⟩ := hideI (fun t e O' => ∃ (i j : Nat), m ≤ i ∧ i ≤ j ∧ j ≤ b ∧ t = j - i ∧ (∀ k, m ≤ k → k < i → (gt L k).spot < (gt L a).spot) ∧ (∀ k, j ≤ k → k < b → (gt L a).spot ≤ (gt L k).spot) ∧ O' = stH O id L R ∧ e = env59a (oS id n c) a i j (.clo (.func 38) [] []))
  have wma : IntKind.i64.wrap ((m : Int) - (a : Int)) = 1 := by rw [wrap_i64 (by omega) (by omega)]; omega
  have d11 : decide ((1 : Int) = 1) = true := by decide
  replace ham := (show Aside _ from ham)
  replace hmb := (show Aside _ from hmb)
  replace hb := (show Aside _ from hb)
  replace hn := (show Aside _ from hn)
  replace hn2 := (show Aside _ from hn2)
  replace hs1 := (show Aside _ from hs1)
  replace hs2 := (show Aside _ from hs2)
  replace h1 := (show Aside _ from h1)
  (repeat' first
    | simp (contextual := true) (maxSteps := 4000000) only [fwc, fwe, fww, reduceIte, ↓reduceIte, Nat.reduceAdd, Nat.reduceLeDiff, Nat.reduceEqDiff, Nat.reduceLT, Nat.reduceSub, reduceCtorEq, Int.reduceEq, Int.reduceLT, Int.reduceLE, Int.reduceNeg, Int.reduceToNat, Int.reduceAdd, Int.reduceSub, Nat.reduceMul, *]
    | (refine seqK_now ?_)
    | (refine retK_now ?_)
    | (refine retK_now' ?_)
    | (intro q hq)
    | (refine cond_intro (fun hc => ?_) (fun hc => ?_)))
  refine cmd_loop I (b - m) (by
    have := hmb.out
    rw [hI.out]
    exact ⟨m, b, Nat.le_refl _, by omega, Nat.le_refl _, rfl, fun k _ _ => by omega, fun k _ _ => by omega, rfl, rfl⟩) ?_
  clear wma d11
  intro t e O' hh
  rw [hI.out] at hh
  obtain ⟨i, j, hmi, hij, hjb, rfl, hlo, hhi, hOH, rfl⟩ := hh
  rw [hOH]
  clear hOH O'
  unfold env59a
  have dij : decide ((i : Int) < (j : Int)) = decide (i < j) := decide_eq_decide.2 (by omega)
  have hn2q := hn2.out
  have hbq := hb.out
  by_cases hc : i < j
  · have e0 : decide (i < j) = true := decide_eq_true hc
    have wij : IntKind.i64.wrap ((i : Int) + (j : Int)) = ((i + j : Nat) : Int) := by rw [wrap_i64 (by omega) (by omega)]; omega
    have wu : IntKind.u64.wrap ((i + j : Nat) : Int) = ((i + j : Nat) : Int) := wrap_u64n (by omega)
    have wh : IntKind.i64.wrap (((i + j) / 2 : Nat) : Int) = (((i + j) / 2 : Nat) : Int) := by rw [wrap_i64 (by omega) (by omega)]
    have hd := fdivH (i + j)
    have hh1 : i ≤ (i + j) / 2 := by omega
    have hh2 : (i + j) / 2 < j := by omega
    generalize (i + j) / 2 = h at *
    generalize i + j = ij at *
    have hl := hn.out
    have a1 : indexAddrA 5 (h : Int) (.own id 5 0 n c) = some (.optr id 5 h 0) := by rw [ia_onat (by omega), Nat.zero_add]
    have a2 : indexAddrA 5 (a : Int) (.own id 5 0 n c) = some (.optr id 5 a 0) := by have := ham.out; have := hmb.out; rw [ia_onat (by omega), Nat.zero_add]
    have g1 : (arE L R)[h]? = some (gt L h).av := arE_get (by omega)
    have g2 : (arE L R)[a]? = some (gt L a).av := arE_get (by have := ham.out; have := hmb.out; omega)
    have hcmp := cmp_ok (gt L h) (gt L a)
    have hneg := cmpL_neg (gt L h).spot (gt L a).spot
    have hwh : h < 4611686018427387904 := by omega
    have hI1 : (gt L h).spot < (gt L a).spot → I (j - (h + 1)) (env59a (oS id n c) a (h + 1) j (.clo (.func 38) [] [])) (stH O id L R) := fun hx => by
      rw [hI.out]
      refine ⟨h + 1, j, by omega, by omega, hjb, rfl, fun k k1 k2 => ?_, hhi, rfl, rfl⟩
      have := Srt.part hs2.out (c := m) (d := b) (Nat.le_refl _) (Nat.le_refl _) k h k1 (by omega) (by omega)
      omega
    have hI2 : ¬ (gt L h).spot < (gt L a).spot → I (h - i) (env59a (oS id n c) a i h (.clo (.func 38) [] [])) (stH O id L R) := fun hx => by
      rw [hI.out]
      refine ⟨i, h, hmi, hh1, by omega, rfl, hlo, fun k k1 k2 => ?_, rfl, rfl⟩
      have := Srt.part hs2.out (c := m) (d := b) (Nat.le_refl _) (Nat.le_refl _) h k (by omega) k1 (by omega)
      omega
    generalize gt L h = x at *
    generalize gt L a = y at *
    unfold stH oS at *
    rw [show x.av = .agg [.val (.int .u8 x.id.y), .val (.int .i64 x.id.n), .val (.int .u8 x.bed), .val (.int .i64 x.at_), .val (.int .i64 x.spot)] from rfl] at g1 hcmp
    rw [show y.av = .agg [.val (.int .u8 y.id.y), .val (.int .i64 y.id.n), .val (.int .u8 y.bed), .val (.int .i64 y.at_), .val (.int .i64 y.spot)] from rfl] at g2 hcmp
    generalize arE L R = E at *
    replace hlo := (show Aside _ from hlo)
    replace hhi := (show Aside _ from hhi)
    replace hh1 := (show Aside _ from hh1)
    replace hh2 := (show Aside _ from hh2)
    replace hmi := (show Aside _ from hmi)
    replace hij := (show Aside _ from hij)
    replace hjb := (show Aside _ from hjb)
    replace hc := (show Aside _ from hc)
    replace hl := (show Aside _ from hl)
    replace hI1 := (show Aside _ from hI1)
    replace hI2 := (show Aside _ from hI2)
    replace hbq := (show Aside _ from hbq)
    replace hn2q := (show Aside _ from hn2q)
    by_cases hlt : x.spot < y.spot
    · have e2 : decide (x.spot < y.spot) = true := decide_eq_true hlt
      have hx := hI1.out hlt
      replace hx := (show Aside _ from hx)
      replace hlt := (show Aside _ from hlt)
      (repeat' first
    | simp (contextual := true) (maxSteps := 4000000) only [fwc, fwe, fww, reduceIte, ↓reduceIte, Nat.reduceAdd, Nat.reduceLeDiff, Nat.reduceEqDiff, Nat.reduceLT, Nat.reduceSub, reduceCtorEq, Int.reduceEq, Int.reduceLT, Int.reduceLE, Int.reduceNeg, Int.reduceToNat, Int.reduceAdd, Int.reduceSub, Nat.reduceMul, wrap_succ, part_cell, part_agg, drawW_cv, drawW_gcv, guardW_t, guardW_f, callvF_clo, fdivH, *]
    | (refine seqK_now ?_)
    | (refine retK_now ?_)
    | (refine retK_now' ?_)
    | (intro q hq)
    | (refine cond_intro (fun hc => ?_) (fun hc => ?_)))
      refine callF_use hcmp ?_
      (repeat' first
    | simp (contextual := true) (maxSteps := 4000000) only [fwc, fwe, fww, reduceIte, ↓reduceIte, Nat.reduceAdd, Nat.reduceLeDiff, Nat.reduceEqDiff, Nat.reduceLT, Nat.reduceSub, reduceCtorEq, Int.reduceEq, Int.reduceLT, Int.reduceLE, Int.reduceNeg, Int.reduceToNat, Int.reduceAdd, Int.reduceSub, Nat.reduceMul, wrap_succ, part_cell, part_agg, drawW_cv, drawW_gcv, guardW_t, guardW_f, callvF_clo, fdivH, *]
    | (refine seqK_now ?_)
    | (refine retK_now ?_)
    | (refine retK_now' ?_)
    | (intro q hq)
    | (refine cond_intro (fun hc => ?_) (fun hc => ?_)))
      refine loopK_now (j - (h + 1)) (by have := hh1.out; have := hh2.out; omega) ?_
      exact hx.out
    · have e2 : decide (x.spot < y.spot) = false := decide_eq_false hlt
      have hx := hI2.out hlt
      replace hx := (show Aside _ from hx)
      replace hlt := (show Aside _ from hlt)
      (repeat' first
    | simp (contextual := true) (maxSteps := 4000000) only [fwc, fwe, fww, reduceIte, ↓reduceIte, Nat.reduceAdd, Nat.reduceLeDiff, Nat.reduceEqDiff, Nat.reduceLT, Nat.reduceSub, reduceCtorEq, Int.reduceEq, Int.reduceLT, Int.reduceLE, Int.reduceNeg, Int.reduceToNat, Int.reduceAdd, Int.reduceSub, Nat.reduceMul, wrap_succ, part_cell, part_agg, drawW_cv, drawW_gcv, guardW_t, guardW_f, callvF_clo, fdivH, *]
    | (refine seqK_now ?_)
    | (refine retK_now ?_)
    | (refine retK_now' ?_)
    | (intro q hq)
    | (refine cond_intro (fun hc => ?_) (fun hc => ?_)))
      refine callF_use hcmp ?_
      (repeat' first
    | simp (contextual := true) (maxSteps := 4000000) only [fwc, fwe, fww, reduceIte, ↓reduceIte, Nat.reduceAdd, Nat.reduceLeDiff, Nat.reduceEqDiff, Nat.reduceLT, Nat.reduceSub, reduceCtorEq, Int.reduceEq, Int.reduceLT, Int.reduceLE, Int.reduceNeg, Int.reduceToNat, Int.reduceAdd, Int.reduceSub, Nat.reduceMul, wrap_succ, part_cell, part_agg, drawW_cv, drawW_gcv, guardW_t, guardW_f, callvF_clo, fdivH, *]
    | (refine seqK_now ?_)
    | (refine retK_now ?_)
    | (refine retK_now' ?_)
    | (intro q hq)
    | (refine cond_intro (fun hc => ?_) (fun hc => ?_)))
      refine loopK_now (h - i) (by have := hh1.out; have := hh2.out; omega) ?_
      exact hx.out
  have e0 : decide (i < j) = false := decide_eq_false hc
  obtain rfl : i = j := by omega
  obtain ⟨J, hJ⟩ := hideI (fun t e O' => ∃ (k : Nat) (M : List Hd), a ≤ k ∧ k ≤ i - 1 ∧ t = i - k ∧ MovR L M a k ∧ O' = stH O id M R ∧ e = env59b (oS id n c) i k)
  replace hlo := (show Aside _ from hlo)
  replace hhi := (show Aside _ from hhi)
  replace hmi := (show Aside _ from hmi)
  replace hij := (show Aside _ from hij)
  replace hjb := (show Aside _ from hjb)
  replace hc := (show Aside _ from hc)
  replace hbq := (show Aside _ from hbq)
  replace hn2q := (show Aside _ from hn2q)
  (repeat' first
    | simp (contextual := true) (maxSteps := 4000000) only [fwc, fwe, fww, reduceIte, ↓reduceIte, Nat.reduceAdd, Nat.reduceLeDiff, Nat.reduceEqDiff, Nat.reduceLT, Nat.reduceSub, reduceCtorEq, Int.reduceEq, Int.reduceLT, Int.reduceLE, Int.reduceNeg, Int.reduceToNat, Int.reduceAdd, Int.reduceSub, Nat.reduceMul, *]
    | (refine seqK_now ?_)
    | (refine retK_now ?_)
    | (refine retK_now' ?_)
    | (intro q hq)
    | (refine cond_intro (fun hc => ?_) (fun hc => ?_)))
  refine cmd_loop J (i - a) (by
    have := ham.out
    have := hmi.out
    rw [hJ.out]
    exact ⟨a, L, Nat.le_refl _, by omega, rfl, MovR.zero _ _, rfl, rfl⟩) ?_
  intro t e O' hh
  rw [hJ.out] at hh
  obtain ⟨k, M, hak, hki, rfl, hM, hOH, rfl⟩ := hh
  rw [hOH]
  clear hOH O'
  unfold env59b
  have hn2q := hn2.out
  have hbq := hb.out
  have hjbq := hjb.out
  have hmiq := hmi.out
  have hamq := ham.out
  have wi1 : IntKind.i64.wrap ((i : Int) - 1) = ((i - 1 : Nat) : Int) := by rw [wrap_i64 (by omega) (by omega)]; omega
  have dki : decide ((k : Int) < ((i - 1 : Nat) : Int)) = decide (k < i - 1) := decide_eq_decide.2 (by omega)
  by_cases hk1 : k < i - 1
  rotate_left
  · have e1 : decide (k < i - 1) = false := decide_eq_false hk1
    have hke : k = i - 1 := by omega
    rw [hke] at hM
    have hfin := MovR.done (b := b) hM (by omega) (by omega) (by have := hs2.out; rw [← h1.out]; exact this) (fun t t1 t2 => hlo.out t (by have := h1.out; omega) t2) (fun t t1 t2 => hhi.out t t1 t2)
    replace hM := (show Aside _ from hM)
    replace hke := (show Aside _ from hke)
    replace hk1 := (show Aside _ from hk1)
    replace hki := (show Aside _ from hki)
    replace hak := (show Aside _ from hak)
    replace hn2q := (show Aside _ from hn2q)
    replace hbq := (show Aside _ from hbq)
    replace hjbq := (show Aside _ from hjbq)
    replace hmiq := (show Aside _ from hmiq)
    replace hamq := (show Aside _ from hamq)
    replace hfin := (show Aside _ from hfin)
    (repeat' first
    | simp (contextual := true) (maxSteps := 4000000) only [fwc, fwe, fww, reduceIte, ↓reduceIte, Nat.reduceAdd, Nat.reduceLeDiff, Nat.reduceEqDiff, Nat.reduceLT, Nat.reduceSub, reduceCtorEq, Int.reduceEq, Int.reduceLT, Int.reduceLE, Int.reduceNeg, Int.reduceToNat, Int.reduceAdd, Int.reduceSub, Nat.reduceMul, *]
    | (refine seqK_now ?_)
    | (refine retK_now ?_)
    | (refine retK_now' ?_)
    | (intro q hq)
    | (refine cond_intro (fun hc => ?_) (fun hc => ?_)))
    exact WeakR.now (hk _ _ hfin.out.2 hfin.out.1)
  have e1 : decide (k < i - 1) = true := decide_eq_true hk1
  have hl : M.length = n := hM.len.trans hn.out
  have wk : IntKind.i64.wrap ((k : Int) + 1) = ((k + 1 : Nat) : Int) := by rw [wrap_i64 (by omega) (by omega)]; omega
  have a1 : indexAddrA 5 (k : Int) (.own id 5 0 n c) = some (.optr id 5 k 0) := by rw [ia_onat (by omega), Nat.zero_add]
  have a2 : indexAddrA 5 ((k + 1 : Nat) : Int) (.own id 5 0 n c) = some (.optr id 5 (k + 1) 0) := by rw [ia_onat (by omega), Nat.zero_add]
  have g1 : (arE M R)[k]? = some (gt M k).av := arE_get (by omega)
  have g2 : (arE M R)[k + 1]? = some (gt M (k + 1)).av := arE_get (by omega)
  have hst := arE_sw (L := M) (R := R) (i := k) (j := k + 1) (by omega) (by omega)
  have hl1 : k + 1 ≤ (arE M R).length := by rw [arE_len]; omega
  have hl2 : k + 1 + 1 ≤ (arE M R).length := by rw [arE_len]; omega
  have hx : J (i - (k + 1)) (env59b (oS id n c) i (k + 1)) (stH O id (swp M k (k + 1)) R) := by
    rw [hJ.out]
    exact ⟨k + 1, _, by omega, by omega, rfl, hM.step (by have := hn.out; omega) hak (hlo.out _ (by have := h1.out; omega) (by omega)), rfl, rfl⟩
  generalize gt M k = x at *
  generalize gt M (k + 1) = y at *
  unfold stH oS at *
  rw [show x.av = .agg [.val (.int .u8 x.id.y), .val (.int .i64 x.id.n), .val (.int .u8 x.bed), .val (.int .i64 x.at_), .val (.int .i64 x.spot)] from rfl] at g1 hst
  rw [show y.av = .agg [.val (.int .u8 y.id.y), .val (.int .i64 y.id.n), .val (.int .u8 y.bed), .val (.int .i64 y.at_), .val (.int .i64 y.spot)] from rfl] at g2 hst
  generalize arE M R = E at *
  have s1 : E.take k ++ [AV.agg [.val (.int .u8 y.id.y), .val (.int .i64 y.id.n), .val (.int .u8 y.bed), .val (.int .i64 y.at_), .val (.int .i64 y.spot)]] ++ E.drop (k + 1) = E.set k (.agg [.val (.int .u8 y.id.y), .val (.int .i64 y.id.n), .val (.int .u8 y.bed), .val (.int .i64 y.at_), .val (.int .i64 y.spot)]) := by rw [List.set_eq_take_append_cons_drop, if_pos (by omega)]; simp
  have g3 : (E.set k (AV.agg [.val (.int .u8 y.id.y), .val (.int .i64 y.id.n), .val (.int .u8 y.bed), .val (.int .i64 y.at_), .val (.int .i64 y.spot)]))[(k + 1)]? = some (.agg [.val (.int .u8 y.id.y), .val (.int .i64 y.id.n), .val (.int .u8 y.bed), .val (.int .i64 y.at_), .val (.int .i64 y.spot)]) := by rw [List.getElem?_set, if_neg (by omega)]; exact g2
  replace hM := (show Aside _ from hM)
  replace hk1 := (show Aside _ from hk1)
  replace hki := (show Aside _ from hki)
  replace hak := (show Aside _ from hak)
  replace hn2q := (show Aside _ from hn2q)
  replace hbq := (show Aside _ from hbq)
  replace hjbq := (show Aside _ from hjbq)
  replace hmiq := (show Aside _ from hmiq)
  replace hamq := (show Aside _ from hamq)
  replace hl := (show Aside _ from hl)
  replace hx := (show Aside _ from hx)
  obtain ⟨q, hq⟩ : ∃ q, k + 1 = q := ⟨_, rfl⟩
  have hl1q := hl1
  rw [hq] at wk a2 g2 hst hl1 hl2 s1 g3 hx
  replace hq := (show Aside _ from hq)
  (repeat' first
    | simp (contextual := true) (maxSteps := 4000000) only [fwc, fwe, fww, reduceIte, ↓reduceIte, Nat.reduceAdd, Nat.reduceLeDiff, Nat.reduceEqDiff, Nat.reduceLT, Nat.reduceSub, reduceCtorEq, Int.reduceEq, Int.reduceLT, Int.reduceLE, Int.reduceNeg, Int.reduceToNat, Int.reduceAdd, Int.reduceSub, Nat.reduceMul, part_cell, part_agg, *]
    | (refine seqK_now ?_)
    | (refine retK_now ?_)
    | (refine retK_now' ?_)
    | (intro q hq)
    | (refine cond_intro (fun hc => ?_) (fun hc => ?_)))
  refine loopK_now (i - q) (by have := hk1.out; have := hq.out; omega) ?_
  exact hx.out
set_option maxHeartbeats 4000000 in
theorem Sym2_ok (id n : Nat) (c : Option Nat) (R : List AV) (O : Heap) (hn2 : n ≤ 100000) (L : List Hd) (hn : L.length = n) (a m b : Nat) (ham : a < m) (hmb : m < b) (hb : b ≤ n) (hs1 : Srt L a m) (hs2 : Srt L m b) (h0 : a + 1 < m) (h1 : b = m + 1) (K : AV → Heap → Prop) (hk : ∀ M r, Keeps L M a b → Srt M a b → K r (stH O id M R)) :
    CallA Try.prog 59 [oS id n c, .val (.int .i64 a), .val (.int .i64 m), .val (.int .i64 b), .clo (.func 38) [] []] (stH O id L R) K := by
  refine k59.call mix ?_
  unfold c59
  obtain ⟨I, hI⟩ := hideI (fun t e O' => ∃ (i j : Nat), a ≤ i ∧ i ≤ j ∧ j ≤ m ∧ t = j - i ∧ (∀ k, a ≤ k → k < i → (gt L k).spot ≤ (gt L m).spot) ∧ (∀ k, j ≤ k → k < m → (gt L m).spot < (gt L k).spot) ∧ O' = stH O id L R ∧ e = env59c (oS id n c) m i j (.clo (.func 38) [] []))
  have wma : IntKind.i64.wrap ((m : Int) - (a : Int)) = ((m - a : Nat) : Int) := by rw [wrap_i64 (by omega) (by omega)]; omega
  have d10 : decide (((m - a : Nat) : Int) = 1) = false := decide_eq_false (by omega)
  have wbm : IntKind.i64.wrap ((b : Int) - (m : Int)) = 1 := by rw [wrap_i64 (by omega) (by omega)]; omega
  have d11 : decide ((1 : Int) = 1) = true := by decide
  replace ham := (show Aside _ from ham)
  replace hmb := (show Aside _ from hmb)
  replace hb := (show Aside _ from hb)
  replace hn := (show Aside _ from hn)
  replace hn2 := (show Aside _ from hn2)
  replace hs1 := (show Aside _ from hs1)
  replace hs2 := (show Aside _ from hs2)
  replace h0 := (show Aside _ from h0)
  replace h1 := (show Aside _ from h1)
  (repeat' first
    | simp (contextual := true) (maxSteps := 4000000) only [fwc, fwe, fww, reduceIte, ↓reduceIte, Nat.reduceAdd, Nat.reduceLeDiff, Nat.reduceEqDiff, Nat.reduceLT, Nat.reduceSub, reduceCtorEq, Int.reduceEq, Int.reduceLT, Int.reduceLE, Int.reduceNeg, Int.reduceToNat, Int.reduceAdd, Int.reduceSub, Nat.reduceMul, *]
    | (refine seqK_now ?_)
    | (refine retK_now ?_)
    | (refine retK_now' ?_)
    | (intro q hq)
    | (refine cond_intro (fun hc => ?_) (fun hc => ?_)))
  refine cmd_loop I (m - a) (by
    have := ham.out
    rw [hI.out]
    exact ⟨a, m, Nat.le_refl _, by omega, Nat.le_refl _, rfl, fun k _ _ => by omega, fun k _ _ => by omega, rfl, rfl⟩) ?_
  clear wma d10 wbm d11
  intro t e O' hh
  rw [hI.out] at hh
  obtain ⟨i, j, hmi, hij, hjb, rfl, hlo, hhi, hOH, rfl⟩ := hh
  rw [hOH]
  clear hOH O'
  unfold env59c
  have dij : decide ((i : Int) < (j : Int)) = decide (i < j) := decide_eq_decide.2 (by omega)
  have hn2q := hn2.out
  have hbq := hb.out
  have hmbq := hmb.out
  by_cases hc : i < j
  · have e0 : decide (i < j) = true := decide_eq_true hc
    have wij : IntKind.i64.wrap ((i : Int) + (j : Int)) = ((i + j : Nat) : Int) := by rw [wrap_i64 (by omega) (by omega)]; omega
    have wu : IntKind.u64.wrap ((i + j : Nat) : Int) = ((i + j : Nat) : Int) := wrap_u64n (by omega)
    have wh : IntKind.i64.wrap (((i + j) / 2 : Nat) : Int) = (((i + j) / 2 : Nat) : Int) := by rw [wrap_i64 (by omega) (by omega)]
    have hd := fdivH (i + j)
    have hh1 : i ≤ (i + j) / 2 := by omega
    have hh2 : (i + j) / 2 < j := by omega
    generalize (i + j) / 2 = h at *
    generalize i + j = ij at *
    have hl := hn.out
    have a1 : indexAddrA 5 (h : Int) (.own id 5 0 n c) = some (.optr id 5 h 0) := by rw [ia_onat (by omega), Nat.zero_add]
    have a2 : indexAddrA 5 (m : Int) (.own id 5 0 n c) = some (.optr id 5 m 0) := by rw [ia_onat (by omega), Nat.zero_add]
    have g1 : (arE L R)[h]? = some (gt L h).av := arE_get (by omega)
    have g2 : (arE L R)[m]? = some (gt L m).av := arE_get (by omega)
    have hcmp := cmp_ok (gt L m) (gt L h)
    have hneg := cmpL_neg (gt L m).spot (gt L h).spot
    have hwh : h < 4611686018427387904 := by omega
    have hI1 : ¬ (gt L m).spot < (gt L h).spot → I (j - (h + 1)) (env59c (oS id n c) m (h + 1) j (.clo (.func 38) [] [])) (stH O id L R) := fun hx => by
      rw [hI.out]
      refine ⟨h + 1, j, by omega, by omega, hjb, rfl, fun k k1 k2 => ?_, hhi, rfl, rfl⟩
      have := Srt.part hs1.out (c := a) (d := m) (Nat.le_refl _) (Nat.le_refl _) k h k1 (by omega) (by omega)
      omega
    have hI2 : (gt L m).spot < (gt L h).spot → I (h - i) (env59c (oS id n c) m i h (.clo (.func 38) [] [])) (stH O id L R) := fun hx => by
      rw [hI.out]
      refine ⟨i, h, hmi, hh1, by omega, rfl, hlo, fun k k1 k2 => ?_, rfl, rfl⟩
      have := Srt.part hs1.out (c := a) (d := m) (Nat.le_refl _) (Nat.le_refl _) h k (by omega) k1 (by omega)
      omega
    generalize gt L h = y at *
    generalize gt L m = x at *
    unfold stH oS at *
    rw [show y.av = .agg [.val (.int .u8 y.id.y), .val (.int .i64 y.id.n), .val (.int .u8 y.bed), .val (.int .i64 y.at_), .val (.int .i64 y.spot)] from rfl] at g1 hcmp
    rw [show x.av = .agg [.val (.int .u8 x.id.y), .val (.int .i64 x.id.n), .val (.int .u8 x.bed), .val (.int .i64 x.at_), .val (.int .i64 x.spot)] from rfl] at g2 hcmp
    generalize arE L R = E at *
    replace hlo := (show Aside _ from hlo)
    replace hhi := (show Aside _ from hhi)
    replace hh1 := (show Aside _ from hh1)
    replace hh2 := (show Aside _ from hh2)
    replace hmi := (show Aside _ from hmi)
    replace hij := (show Aside _ from hij)
    replace hjb := (show Aside _ from hjb)
    replace hc := (show Aside _ from hc)
    replace hl := (show Aside _ from hl)
    replace hI1 := (show Aside _ from hI1)
    replace hI2 := (show Aside _ from hI2)
    replace hbq := (show Aside _ from hbq)
    replace hn2q := (show Aside _ from hn2q)
    replace hmbq := (show Aside _ from hmbq)
    by_cases hlt : x.spot < y.spot
    · have e2 : decide (x.spot < y.spot) = true := decide_eq_true hlt
      have hx := hI2.out hlt
      replace hx := (show Aside _ from hx)
      replace hlt := (show Aside _ from hlt)
      (repeat' first
    | simp (contextual := true) (maxSteps := 4000000) only [fwc, fwe, fww, reduceIte, ↓reduceIte, Nat.reduceAdd, Nat.reduceLeDiff, Nat.reduceEqDiff, Nat.reduceLT, Nat.reduceSub, reduceCtorEq, Int.reduceEq, Int.reduceLT, Int.reduceLE, Int.reduceNeg, Int.reduceToNat, Int.reduceAdd, Int.reduceSub, Nat.reduceMul, wrap_succ, part_cell, part_agg, drawW_cv, drawW_gcv, guardW_t, guardW_f, callvF_clo, fdivH, *]
    | (refine seqK_now ?_)
    | (refine retK_now ?_)
    | (refine retK_now' ?_)
    | (intro q hq)
    | (refine cond_intro (fun hc => ?_) (fun hc => ?_)))
      refine callF_use hcmp ?_
      (repeat' first
    | simp (contextual := true) (maxSteps := 4000000) only [fwc, fwe, fww, reduceIte, ↓reduceIte, Nat.reduceAdd, Nat.reduceLeDiff, Nat.reduceEqDiff, Nat.reduceLT, Nat.reduceSub, reduceCtorEq, Int.reduceEq, Int.reduceLT, Int.reduceLE, Int.reduceNeg, Int.reduceToNat, Int.reduceAdd, Int.reduceSub, Nat.reduceMul, wrap_succ, part_cell, part_agg, drawW_cv, drawW_gcv, guardW_t, guardW_f, callvF_clo, fdivH, *]
    | (refine seqK_now ?_)
    | (refine retK_now ?_)
    | (refine retK_now' ?_)
    | (intro q hq)
    | (refine cond_intro (fun hc => ?_) (fun hc => ?_)))
      refine loopK_now (h - i) (by have := hh1.out; have := hh2.out; omega) ?_
      exact hx.out
    · have e2 : decide (x.spot < y.spot) = false := decide_eq_false hlt
      have hx := hI1.out hlt
      replace hx := (show Aside _ from hx)
      replace hlt := (show Aside _ from hlt)
      (repeat' first
    | simp (contextual := true) (maxSteps := 4000000) only [fwc, fwe, fww, reduceIte, ↓reduceIte, Nat.reduceAdd, Nat.reduceLeDiff, Nat.reduceEqDiff, Nat.reduceLT, Nat.reduceSub, reduceCtorEq, Int.reduceEq, Int.reduceLT, Int.reduceLE, Int.reduceNeg, Int.reduceToNat, Int.reduceAdd, Int.reduceSub, Nat.reduceMul, wrap_succ, part_cell, part_agg, drawW_cv, drawW_gcv, guardW_t, guardW_f, callvF_clo, fdivH, *]
    | (refine seqK_now ?_)
    | (refine retK_now ?_)
    | (refine retK_now' ?_)
    | (intro q hq)
    | (refine cond_intro (fun hc => ?_) (fun hc => ?_)))
      refine callF_use hcmp ?_
      (repeat' first
    | simp (contextual := true) (maxSteps := 4000000) only [fwc, fwe, fww, reduceIte, ↓reduceIte, Nat.reduceAdd, Nat.reduceLeDiff, Nat.reduceEqDiff, Nat.reduceLT, Nat.reduceSub, reduceCtorEq, Int.reduceEq, Int.reduceLT, Int.reduceLE, Int.reduceNeg, Int.reduceToNat, Int.reduceAdd, Int.reduceSub, Nat.reduceMul, wrap_succ, part_cell, part_agg, drawW_cv, drawW_gcv, guardW_t, guardW_f, callvF_clo, fdivH, *]
    | (refine seqK_now ?_)
    | (refine retK_now ?_)
    | (refine retK_now' ?_)
    | (intro q hq)
    | (refine cond_intro (fun hc => ?_) (fun hc => ?_)))
      refine loopK_now (j - (h + 1)) (by have := hh1.out; have := hh2.out; omega) ?_
      exact hx.out
  have e0 : decide (i < j) = false := decide_eq_false hc
  obtain rfl : i = j := by omega
  obtain ⟨J, hJ⟩ := hideI (fun t e O' => ∃ (M : List Hd), i ≤ t ∧ t ≤ m ∧ MovL L M m t ∧ O' = stH O id M R ∧ e = env59d (oS id n c) i t)
  replace hlo := (show Aside _ from hlo)
  replace hhi := (show Aside _ from hhi)
  replace hmi := (show Aside _ from hmi)
  replace hij := (show Aside _ from hij)
  replace hjb := (show Aside _ from hjb)
  replace hc := (show Aside _ from hc)
  replace hbq := (show Aside _ from hbq)
  replace hn2q := (show Aside _ from hn2q)
  replace hmbq := (show Aside _ from hmbq)
  (repeat' first
    | simp (contextual := true) (maxSteps := 4000000) only [fwc, fwe, fww, reduceIte, ↓reduceIte, Nat.reduceAdd, Nat.reduceLeDiff, Nat.reduceEqDiff, Nat.reduceLT, Nat.reduceSub, reduceCtorEq, Int.reduceEq, Int.reduceLT, Int.reduceLE, Int.reduceNeg, Int.reduceToNat, Int.reduceAdd, Int.reduceSub, Nat.reduceMul, *]
    | (refine seqK_now ?_)
    | (refine retK_now ?_)
    | (refine retK_now' ?_)
    | (intro q hq)
    | (refine cond_intro (fun hc => ?_) (fun hc => ?_)))
  refine cmd_loop J m (by
    rw [hJ.out]
    exact ⟨L, hjb.out, Nat.le_refl _, MovL.zero _ _, rfl, rfl⟩) ?_
  intro k e O' hh
  rw [hJ.out] at hh
  obtain ⟨M, hik, hkm, hM, hOH, rfl⟩ := hh
  rw [hOH]
  clear hOH O'
  unfold env59d
  have hn2q := hn2.out
  have hbq := hb.out
  have hmbq := hmb.out
  have hmiq := hmi.out
  have dki : decide ((i : Int) < (k : Int)) = decide (i < k) := decide_eq_decide.2 (by omega)
  by_cases hk1 : i < k
  rotate_left
  · have e1 : decide (i < k) = false := decide_eq_false hk1
    have hke : k = i := by omega
    rw [hke] at hM
    have hfin := MovL.done (a := a) hM (by omega) (by omega) hs1.out (fun t t1 t2 => hlo.out t t1 t2) (fun t t1 t2 => hhi.out t t1 t2)
    rw [← h1.out] at hfin
    replace hM := (show Aside _ from hM)
    replace hke := (show Aside _ from hke)
    replace hk1 := (show Aside _ from hk1)
    replace hkm := (show Aside _ from hkm)
    replace hik := (show Aside _ from hik)
    replace hn2q := (show Aside _ from hn2q)
    replace hbq := (show Aside _ from hbq)
    replace hmbq := (show Aside _ from hmbq)
    replace hmiq := (show Aside _ from hmiq)
    replace hfin := (show Aside _ from hfin)
    (repeat' first
    | simp (contextual := true) (maxSteps := 4000000) only [fwc, fwe, fww, reduceIte, ↓reduceIte, Nat.reduceAdd, Nat.reduceLeDiff, Nat.reduceEqDiff, Nat.reduceLT, Nat.reduceSub, reduceCtorEq, Int.reduceEq, Int.reduceLT, Int.reduceLE, Int.reduceNeg, Int.reduceToNat, Int.reduceAdd, Int.reduceSub, Nat.reduceMul, *]
    | (refine seqK_now ?_)
    | (refine retK_now ?_)
    | (refine retK_now' ?_)
    | (intro q hq)
    | (refine cond_intro (fun hc => ?_) (fun hc => ?_)))
    exact WeakR.now (hk _ _ hfin.out.2 hfin.out.1)
  obtain ⟨p, rfl⟩ : ∃ p, k = p + 1 := ⟨k - 1, by omega⟩
  have e1 : decide (i < p + 1) = true := decide_eq_true hk1
  have hl : M.length = n := hM.len.trans hn.out
  have wk : IntKind.i64.wrap (((p + 1 : Nat) : Int) - 1) = (p : Int) := by rw [wrap_i64 (by omega) (by omega)]; omega
  have a1 : indexAddrA 5 (p : Int) (.own id 5 0 n c) = some (.optr id 5 p 0) := by rw [ia_onat (by omega), Nat.zero_add]
  have a2 : indexAddrA 5 ((p + 1 : Nat) : Int) (.own id 5 0 n c) = some (.optr id 5 (p + 1) 0) := by rw [ia_onat (by omega), Nat.zero_add]
  have g1 : (arE M R)[p + 1]? = some (gt M (p + 1)).av := arE_get (by omega)
  have g2 : (arE M R)[p]? = some (gt M p).av := arE_get (by omega)
  have hst := arE_sw (L := M) (R := R) (i := p + 1) (j := p) (by omega) (by omega)
  rw [sw_comm (by omega) (by omega)] at hst
  have hl1 : p + 1 + 1 ≤ (arE M R).length := by rw [arE_len]; omega
  have hl2 : p + 1 ≤ (arE M R).length := by rw [arE_len]; omega
  have hx : J p (env59d (oS id n c) i p) (stH O id (swp M p (p + 1)) R) := by
    rw [hJ.out]
    exact ⟨_, by omega, by omega, hM.step (by have := hn.out; omega) hkm (hhi.out _ (by omega) (by omega)), rfl, rfl⟩
  generalize gt M (p + 1) = x at *
  generalize gt M p = y at *
  unfold stH oS at *
  rw [show x.av = .agg [.val (.int .u8 x.id.y), .val (.int .i64 x.id.n), .val (.int .u8 x.bed), .val (.int .i64 x.at_), .val (.int .i64 x.spot)] from rfl] at g1 hst
  rw [show y.av = .agg [.val (.int .u8 y.id.y), .val (.int .i64 y.id.n), .val (.int .u8 y.bed), .val (.int .i64 y.at_), .val (.int .i64 y.spot)] from rfl] at g2 hst
  generalize arE M R = E at *
  have s1 : E.take (p + 1) ++ [AV.agg [.val (.int .u8 y.id.y), .val (.int .i64 y.id.n), .val (.int .u8 y.bed), .val (.int .i64 y.at_), .val (.int .i64 y.spot)]] ++ E.drop ((p + 1) + 1) = E.set (p + 1) (.agg [.val (.int .u8 y.id.y), .val (.int .i64 y.id.n), .val (.int .u8 y.bed), .val (.int .i64 y.at_), .val (.int .i64 y.spot)]) := by rw [List.set_eq_take_append_cons_drop, if_pos (by omega)]; simp
  have g3 : (E.set (p + 1) (AV.agg [.val (.int .u8 y.id.y), .val (.int .i64 y.id.n), .val (.int .u8 y.bed), .val (.int .i64 y.at_), .val (.int .i64 y.spot)]))[p]? = some (.agg [.val (.int .u8 y.id.y), .val (.int .i64 y.id.n), .val (.int .u8 y.bed), .val (.int .i64 y.at_), .val (.int .i64 y.spot)]) := by rw [List.getElem?_set, if_neg (by omega)]; exact g2
  replace hM := (show Aside _ from hM)
  replace hk1 := (show Aside _ from hk1)
  replace hkm := (show Aside _ from hkm)
  replace hik := (show Aside _ from hik)
  replace hn2q := (show Aside _ from hn2q)
  replace hbq := (show Aside _ from hbq)
  replace hmbq := (show Aside _ from hmbq)
  replace hmiq := (show Aside _ from hmiq)
  replace hl := (show Aside _ from hl)
  replace hx := (show Aside _ from hx)
  obtain ⟨q, hq⟩ : ∃ q, p + 1 = q := ⟨_, rfl⟩
  rw [hq] at wk a2 g1 hst hl1 hl2 s1 g3 e1 dki hx ⊢
  replace hq := (show Aside _ from hq)
  (repeat' first
    | simp (contextual := true) (maxSteps := 4000000) only [fwc, fwe, fww, reduceIte, ↓reduceIte, Nat.reduceAdd, Nat.reduceLeDiff, Nat.reduceEqDiff, Nat.reduceLT, Nat.reduceSub, reduceCtorEq, Int.reduceEq, Int.reduceLT, Int.reduceLE, Int.reduceNeg, Int.reduceToNat, Int.reduceAdd, Int.reduceSub, Nat.reduceMul, part_cell, part_agg, *]
    | (refine seqK_now ?_)
    | (refine retK_now ?_)
    | (refine retK_now' ?_)
    | (intro q hq)
    | (refine cond_intro (fun hc => ?_) (fun hc => ?_)))
  refine loopK_now p (by have := hq.out; omega) ?_
  exact hx.out
end Go.Proofs.Ytembkknplmcamaa

namespace Go.Proofs.Ytembkknplmcamaa
open Go.Ab
attribute [local irreducible] WeakR WeakE CallA YieldA

/-! symMerge, the case that halves, and the whole. -/
theorem loM_hi {a m b : Nat} (h : (a + b) / 2 < m) : loM a m b = (a + b) / 2 + m - b := if_pos h
theorem loM_lo {a m b : Nat} (h : ¬ (a + b) / 2 < m) : loM a m b = a := if_neg h
theorem hiM_hi {a m b : Nat} (h : (a + b) / 2 < m) : hiM a m b = (a + b) / 2 := if_pos h
theorem hiM_lo {a m b : Nat} (h : ¬ (a + b) / 2 < m) : hiM a m b = m := if_neg h
set_option maxHeartbeats 8000000 in
theorem Sym3_ok (id n : Nat) (c : Option Nat) (R : List AV) (O : Heap) (hn2 : n ≤ 100000) (L : List Hd) (hn : L.length = n) (a m b : Nat) (ham : a < m) (hmb : m < b) (hb : b ≤ n) (hs1 : Srt L a m) (hs2 : Srt L m b) (h0 : a + 1 < m) (h1 : m + 1 < b)
    (ih : ∀ (L : List Hd) (a' m' b' : Nat), L.length = n → a' < m' → m' < b' → b' ≤ n → Srt L a' m' → Srt L m' b' → b' - a' < b - a → ∀ K : AV → Heap → Prop, (∀ M r, Keeps L M a' b' → Srt M a' b' → K r (stH O id M R)) → CallA Try.prog 59 [oS id n c, .val (.int .i64 a'), .val (.int .i64 m'), .val (.int .i64 b'), .clo (.func 38) [] []] (stH O id L R) K) (K : AV → Heap → Prop) (hk : ∀ M r, Keeps L M a b → Srt M a b → K r (stH O id M R)) :
    CallA Try.prog 59 [oS id n c, .val (.int .i64 a), .val (.int .i64 m), .val (.int .i64 b), .clo (.func 38) [] []] (stH O id L R) K := by
  have hsea := Sea.start (L := L) ham hmb
  have hcut : ∀ s M, Sea L a m b s s → RotP L M s m ((a + b) / 2 + m - s) → Cut L M a s m ((a + b) / 2 + m - s) b := fun s M h1 h2 => h1.cut ham hmb (by omega) hs1 hs2 h2
  have hbound : ∀ s r, Sea L a m b s r → a ≤ s ∧ r ≤ m ∧ r ≤ (a + b) / 2 ∧ (a + b) / 2 + m - s ≤ b ∧ m ≤ (a + b) / 2 + m - r := fun s r h => h.bound ham hmb
  have hloM : a ≤ loM a m b ∧ loM a m b ≤ m := ⟨(hbound _ _ hsea).1, Nat.le_trans hsea.mid (hbound _ _ hsea).2.1⟩
  have hhiM : hiM a m b ≤ m := (hbound _ _ hsea).2.1
  have wab : IntKind.i64.wrap ((a : Int) + (b : Int)) = ((a + b : Nat) : Int) := by rw [wrap_i64 (by omega) (by omega)]; omega
  have wu : IntKind.u64.wrap ((a + b : Nat) : Int) = ((a + b : Nat) : Int) := wrap_u64n (by omega)
  have wh : IntKind.i64.wrap (((a + b) / 2 : Nat) : Int) = (((a + b) / 2 : Nat) : Int) := by rw [wrap_i64 (by omega) (by omega)]
  have hd := fdivH (a + b)
  have wma : IntKind.i64.wrap ((m : Int) - (a : Int)) = ((m - a : Nat) : Int) := by rw [wrap_i64 (by omega) (by omega)]; omega
  have d10 : decide (((m - a : Nat) : Int) = 1) = false := decide_eq_false (by omega)
  have wbm : IntKind.i64.wrap ((b : Int) - (m : Int)) = ((b - m : Nat) : Int) := by rw [wrap_i64 (by omega) (by omega)]; omega
  have d11 : decide (((b - m : Nat) : Int) = 1) = false := decide_eq_false (by omega)
  have hL := fun h => loM_lo (a := a) (m := m) (b := b) h
  have hH := fun h => loM_hi (a := a) (m := m) (b := b) h
  have gL := fun h => hiM_lo (a := a) (m := m) (b := b) h
  have gH := fun h => hiM_hi (a := a) (m := m) (b := b) h
  have hge : (a + b) / 2 < m → b ≤ (a + b) / 2 + m := fun h => by omega
  have hm1 : a < (a + b) / 2 := by omega
  have hm2 : (a + b) / 2 < b := by omega
  have hdone : ∀ M N R' s e, Cut L M a s m e b → Keeps M N a ((a + b) / 2) → Srt N a ((a + b) / 2) → Keeps N R' ((a + b) / 2) b → Srt R' ((a + b) / 2) b → Srt R' a b ∧ Keeps L R' a b := fun M N R' s e hc k1 s1 k2 s2 => hc.done (by omega) k1 s1 k2 s2
  have hcs : ∀ M s, Cut L M a s m ((a + b) / 2 + m - s) b → M.length = n ∧ Srt M a s ∧ Srt M s ((a + b) / 2) ∧ Srt M ((a + b) / 2) ((a + b) / 2 + m - s) ∧ Srt M ((a + b) / 2 + m - s) b := fun M s hc => ⟨hc.keep.len.trans hn, hc.s1, hc.s2, hc.s3, hc.s4⟩
  have hless : ∀ s r c, Sea L a m b s r → s ≤ c → c < r → ¬ (gt L ((a + b) / 2 + m - 1 - c)).spot < (gt L c).spot → Sea L a m b (c + 1) r := fun s r c h h1 h2 h3 => h.less h1 h2 h3
  have hmore : ∀ s r c, Sea L a m b s r → s ≤ c → c < r → (gt L ((a + b) / 2 + m - 1 - c)).spot < (gt L c).spot → Sea L a m b s c := fun s r c h h1 h2 h3 => h.more h1 h2 h3
  have hmid : ∀ s r, Sea L a m b s r → s ≤ r := fun s r h => h.mid
  generalize loM a m b = lo0 at *
  generalize hiM a m b = hi0 at *
  generalize (a + b) / 2 = mid at *
  generalize a + b = ab at *
  obtain ⟨nn, hnn⟩ : ∃ nn, mid + m = nn := ⟨_, rfl⟩
  have wnn : IntKind.i64.wrap ((mid : Int) + (m : Int)) = (nn : Int) := by rw [wrap_i64 (by omega) (by omega)]; omega
  obtain ⟨p, hp⟩ : ∃ p, nn - 1 = p := ⟨_, rfl⟩
  have wp : IntKind.i64.wrap ((nn : Int) - 1) = (p : Int) := by rw [wrap_i64 (by omega) (by omega)]; omega
  have dmm : decide ((mid : Int) < (m : Int)) = decide (mid < m) := decide_eq_decide.2 (by omega)
  have wlo : mid < m → IntKind.i64.wrap ((nn : Int) - (b : Int)) = (lo0 : Int) := fun h => by have := hH h; have := hge h; rw [wrap_i64 (by omega) (by omega)]; omega
  refine k59.call mix ?_
  unfold c59
  replace ham := (show Aside _ from ham)
  replace hmb := (show Aside _ from hmb)
  replace hb := (show Aside _ from hb)
  replace hn := (show Aside _ from hn)
  replace hn2 := (show Aside _ from hn2)
  replace hs1 := (show Aside _ from hs1)
  replace hs2 := (show Aside _ from hs2)
  replace h0 := (show Aside _ from h0)
  replace h1 := (show Aside _ from h1)
  replace ih := (show Aside _ from ih)
  replace hsea := (show Aside _ from hsea)
  replace hcut := (show Aside _ from hcut)
  replace hbound := (show Aside _ from hbound)
  replace hloM := (show Aside _ from hloM)
  replace hhiM := (show Aside _ from hhiM)
  replace hL := (show Aside _ from hL)
  replace hH := (show Aside _ from hH)
  replace gL := (show Aside _ from gL)
  replace gH := (show Aside _ from gH)
  replace hm1 := (show Aside _ from hm1)
  replace hm2 := (show Aside _ from hm2)
  replace hdone := (show Aside _ from hdone)
  replace hcs := (show Aside _ from hcs)
  replace hless := (show Aside _ from hless)
  replace hmore := (show Aside _ from hmore)
  replace hmid := (show Aside _ from hmid)
  replace hnn := (show Aside _ from hnn)
  replace hp := (show Aside _ from hp)
  replace wlo := (show Aside _ from wlo)
  replace hge := (show Aside _ from hge)
  refine seq_go ?_
  refine seq_go ?_
  (repeat' first
    | simp (contextual := true) (maxSteps := 4000000) only [fwc, fwe, fww, reduceIte, ↓reduceIte, Nat.reduceAdd, Nat.reduceLeDiff, Nat.reduceEqDiff, Nat.reduceLT, Nat.reduceSub, reduceCtorEq, Int.reduceEq, Int.reduceLT, Int.reduceLE, Int.reduceNeg, Int.reduceToNat, Int.reduceAdd, Int.reduceSub, Nat.reduceMul, *]
    | (refine retK_now ?_)
    | (refine retK_now' ?_)
    | (intro q hq)
    | (refine cond_intro (fun hc => ?_) (fun hc => ?_)))
  refine seqK_now ?_
  (repeat' first
    | simp (contextual := true) (maxSteps := 4000000) only [fwc, fwe, fww, reduceIte, ↓reduceIte, Nat.reduceAdd, Nat.reduceLeDiff, Nat.reduceEqDiff, Nat.reduceLT, Nat.reduceSub, reduceCtorEq, Int.reduceEq, Int.reduceLT, Int.reduceLE, Int.reduceNeg, Int.reduceToNat, Int.reduceAdd, Int.reduceSub, Nat.reduceMul, *]
    | (refine retK_now ?_)
    | (refine retK_now' ?_)
    | (intro q hq)
    | (refine cond_intro (fun hc => ?_) (fun hc => ?_)))
  refine seqK_now ?_
  refine seq_go ?_
  refine seq_go ?_
  (repeat' first
    | simp (contextual := true) (maxSteps := 4000000) only [fwc, fwe, fww, reduceIte, ↓reduceIte, Nat.reduceAdd, Nat.reduceLeDiff, Nat.reduceEqDiff, Nat.reduceLT, Nat.reduceSub, reduceCtorEq, Int.reduceEq, Int.reduceLT, Int.reduceLE, Int.reduceNeg, Int.reduceToNat, Int.reduceAdd, Int.reduceSub, Nat.reduceMul, *]
    | (refine retK_now ?_)
    | (refine retK_now' ?_)
    | (intro q hq)
    | (refine cond_intro (fun hc => ?_) (fun hc => ?_)))
  refine seqK_now ?_
  (repeat' first
    | simp (contextual := true) (maxSteps := 4000000) only [fwc, fwe, fww, reduceIte, ↓reduceIte, Nat.reduceAdd, Nat.reduceLeDiff, Nat.reduceEqDiff, Nat.reduceLT, Nat.reduceSub, reduceCtorEq, Int.reduceEq, Int.reduceLT, Int.reduceLE, Int.reduceNeg, Int.reduceToNat, Int.reduceAdd, Int.reduceSub, Nat.reduceMul, *]
    | (refine retK_now ?_)
    | (refine retK_now' ?_)
    | (intro q hq)
    | (refine cond_intro (fun hc => ?_) (fun hc => ?_)))
  refine seqK_now ?_
  refine seq_go ?_
  (repeat' first
    | simp (contextual := true) (maxSteps := 4000000) only [fwc, fwe, fww, reduceIte, ↓reduceIte, Nat.reduceAdd, Nat.reduceLeDiff, Nat.reduceEqDiff, Nat.reduceLT, Nat.reduceSub, reduceCtorEq, Int.reduceEq, Int.reduceLT, Int.reduceLE, Int.reduceNeg, Int.reduceToNat, Int.reduceAdd, Int.reduceSub, Nat.reduceMul, *]
    | (refine retK_now ?_)
    | (refine retK_now' ?_)
    | (intro q hq)
    | (refine cond_intro (fun hc => ?_) (fun hc => ?_)))
  refine seqK_now ?_
  refine seq_go ?_
  (repeat' first
    | simp (contextual := true) (maxSteps := 4000000) only [fwc, fwe, fww, reduceIte, ↓reduceIte, Nat.reduceAdd, Nat.reduceLeDiff, Nat.reduceEqDiff, Nat.reduceLT, Nat.reduceSub, reduceCtorEq, Int.reduceEq, Int.reduceLT, Int.reduceLE, Int.reduceNeg, Int.reduceToNat, Int.reduceAdd, Int.reduceSub, Nat.reduceMul, *]
    | (refine retK_now ?_)
    | (refine retK_now' ?_)
    | (intro q hq)
    | (refine cond_intro (fun hc => ?_) (fun hc => ?_)))
  refine seqK_now ?_
  refine seq_go ?_
  (repeat' first
    | simp (contextual := true) (maxSteps := 4000000) only [fwc, fwe, fww, reduceIte, ↓reduceIte, Nat.reduceAdd, Nat.reduceLeDiff, Nat.reduceEqDiff, Nat.reduceLT, Nat.reduceSub, reduceCtorEq, Int.reduceEq, Int.reduceLT, Int.reduceLE, Int.reduceNeg, Int.reduceToNat, Int.reduceAdd, Int.reduceSub, Nat.reduceMul, *]
    | (refine retK_now ?_)
    | (refine retK_now' ?_)
    | (intro q hq)
    | (refine cond_intro (fun hc => ?_) (fun hc => ?_)))
  refine seqK_now ?_
  clear wab wu wh hd wma d10 wbm d11 wnn
  refine seq_post (fun e1 O1 => O1 = stH O id L R ∧ e1 = env59h (oS id n c) a m b (.clo (.func 38) [] []) mid nn lo0 hi0) ?_ ?_
  rotate_left
  · intro G hG
    replace hG := (show Aside _ from hG)
    by_cases hc : mid < m
    · have e0 : decide (mid < m) = true := decide_eq_true hc
      have wl := wlo.out hc
      have ge := gH.out hc
      replace hc := (show Aside _ from hc)
      replace ge := (show Aside _ from ge)
      (repeat' first
    | simp (contextual := true) (maxSteps := 4000000) only [fwc, fwe, fww, reduceIte, ↓reduceIte, Nat.reduceAdd, Nat.reduceLeDiff, Nat.reduceEqDiff, Nat.reduceLT, Nat.reduceSub, reduceCtorEq, Int.reduceEq, Int.reduceLT, Int.reduceLE, Int.reduceNeg, Int.reduceToNat, Int.reduceAdd, Int.reduceSub, Nat.reduceMul, *]
    | (refine seqK_now ?_)
    | (refine retK_now ?_)
    | (refine retK_now' ?_)
    | (intro q hq)
    | (refine cond_intro (fun hc => ?_) (fun hc => ?_)))
      exact hG.out _ _ ⟨rfl, by rw [ge.out]; rfl⟩
    · have e0 : decide (mid < m) = false := decide_eq_false hc
      have he := hL.out hc
      have ge := gL.out hc
      replace hc := (show Aside _ from hc)
      replace ge := (show Aside _ from ge)
      replace he := (show Aside _ from he)
      (repeat' first
    | simp (contextual := true) (maxSteps := 4000000) only [fwc, fwe, fww, reduceIte, ↓reduceIte, Nat.reduceAdd, Nat.reduceLeDiff, Nat.reduceEqDiff, Nat.reduceLT, Nat.reduceSub, reduceCtorEq, Int.reduceEq, Int.reduceLT, Int.reduceLE, Int.reduceNeg, Int.reduceToNat, Int.reduceAdd, Int.reduceSub, Nat.reduceMul, *]
    | (refine seqK_now ?_)
    | (refine retK_now ?_)
    | (refine retK_now' ?_)
    | (intro q hq)
    | (refine cond_intro (fun hc => ?_) (fun hc => ?_)))
      exact hG.out _ _ ⟨rfl, by rw [ge.out, he.out]; rfl⟩
  intro e1 O1 hQ
  obtain ⟨hO1, rfl⟩ := hQ
  rw [hO1]
  clear hO1 O1 dmm wlo hL hH gL gH
  unfold env59h
  obtain ⟨I, hI⟩ := hideI (fun t e O' => ∃ (s r : Nat), t = r - s ∧ Sea L a m b s r ∧ O' = stH O id L R ∧ e = env59e (oS id n c) a m b (.clo (.func 38) [] []) mid nn s r p)
  (repeat' first
    | simp (contextual := true) (maxSteps := 4000000) only [fwc, fwe, fww, reduceIte, ↓reduceIte, Nat.reduceAdd, Nat.reduceLeDiff, Nat.reduceEqDiff, Nat.reduceLT, Nat.reduceSub, reduceCtorEq, Int.reduceEq, Int.reduceLT, Int.reduceLE, Int.reduceNeg, Int.reduceToNat, Int.reduceAdd, Int.reduceSub, Nat.reduceMul, *]
    | (refine seqK_now ?_)
    | (refine retK_now ?_)
    | (refine retK_now' ?_)
    | (intro q hq)
    | (refine cond_intro (fun hc => ?_) (fun hc => ?_)))
  refine cmd_loop I (hi0 - lo0) (by
    rw [hI.out]
    exact ⟨lo0, hi0, rfl, hsea.out, rfl, rfl⟩) ?_
  clear wp hsea
  intro t e O' hh
  rw [hI.out] at hh
  obtain ⟨s, r, rfl, hsea, hOH, rfl⟩ := hh
  rw [hOH]
  clear hOH O'
  unfold env59e
  obtain ⟨q1, q2, q3, q4, q5⟩ := hbound.out s r hsea
  have q6 := hmid.out s r hsea
  have dsr : decide ((s : Int) < (r : Int)) = decide (s < r) := decide_eq_decide.2 (by omega)
  have hn2q := hn2.out
  have hbq := hb.out
  have hmbq := hmb.out
  have hnnq := hnn.out
  have hpq := hp.out
  have hm1q := hm1.out
  have hm2q := hm2.out
  by_cases hc : s < r
  · have e0 : decide (s < r) = true := decide_eq_true hc
    have wij : IntKind.i64.wrap ((s : Int) + (r : Int)) = ((s + r : Nat) : Int) := by rw [wrap_i64 (by omega) (by omega)]; omega
    have wu : IntKind.u64.wrap ((s + r : Nat) : Int) = ((s + r : Nat) : Int) := wrap_u64n (by omega)
    have wh : IntKind.i64.wrap (((s + r) / 2 : Nat) : Int) = (((s + r) / 2 : Nat) : Int) := by rw [wrap_i64 (by omega) (by omega)]
    have hd := fdivH (s + r)
    have hh1 : s ≤ (s + r) / 2 := by omega
    have hh2 : (s + r) / 2 < r := by omega
    generalize (s + r) / 2 = h at *
    generalize s + r = ij at *
    have hl := hn.out
    obtain ⟨u, hu⟩ : ∃ u, p - h = u := ⟨_, rfl⟩
    have wph : IntKind.i64.wrap ((p : Int) - (h : Int)) = (u : Int) := by rw [wrap_i64 (by omega) (by omega)]; omega
    have a1 : indexAddrA 5 (h : Int) (.own id 5 0 n c) = some (.optr id 5 h 0) := by rw [ia_onat (by omega), Nat.zero_add]
    have a2 : indexAddrA 5 (u : Int) (.own id 5 0 n c) = some (.optr id 5 u 0) := by rw [ia_onat (by omega), Nat.zero_add]
    have g1 : (arE L R)[h]? = some (gt L h).av := arE_get (by omega)
    have g2 : (arE L R)[u]? = some (gt L u).av := arE_get (by omega)
    have hcmp := cmp_ok (gt L u) (gt L h)
    have hneg := cmpL_neg (gt L u).spot (gt L h).spot
    have hwh : h < 4611686018427387904 := by omega
    have hue : mid + m - 1 - h = u := by omega
    have hI1 : ¬ (gt L u).spot < (gt L h).spot → I (r - (h + 1)) (env59e (oS id n c) a m b (.clo (.func 38) [] []) mid nn (h + 1) r p) (stH O id L R) := fun hx => by
      rw [hI.out]
      exact ⟨h + 1, r, rfl, hless.out s r h hsea hh1 hh2 (by rw [hue]; exact hx), rfl, rfl⟩
    have hI2 : (gt L u).spot < (gt L h).spot → I (h - s) (env59e (oS id n c) a m b (.clo (.func 38) [] []) mid nn s h p) (stH O id L R) := fun hx => by
      rw [hI.out]
      exact ⟨s, h, rfl, hmore.out s r h hsea hh1 hh2 (by rw [hue]; exact hx), rfl, rfl⟩
    generalize gt L h = y at *
    generalize gt L u = x at *
    unfold stH oS at *
    rw [show y.av = .agg [.val (.int .u8 y.id.y), .val (.int .i64 y.id.n), .val (.int .u8 y.bed), .val (.int .i64 y.at_), .val (.int .i64 y.spot)] from rfl] at g1 hcmp
    rw [show x.av = .agg [.val (.int .u8 x.id.y), .val (.int .i64 x.id.n), .val (.int .u8 x.bed), .val (.int .i64 x.at_), .val (.int .i64 x.spot)] from rfl] at g2 hcmp
    generalize arE L R = E at *
    replace hsea := (show Aside _ from hsea)
    replace hh1 := (show Aside _ from hh1)
    replace hh2 := (show Aside _ from hh2)
    replace hc := (show Aside _ from hc)
    replace hl := (show Aside _ from hl)
    replace hI1 := (show Aside _ from hI1)
    replace hI2 := (show Aside _ from hI2)
    replace hbq := (show Aside _ from hbq)
    replace hn2q := (show Aside _ from hn2q)
    replace hmbq := (show Aside _ from hmbq)
    replace hnnq := (show Aside _ from hnnq)
    replace hpq := (show Aside _ from hpq)
    replace hm1q := (show Aside _ from hm1q)
    replace hm2q := (show Aside _ from hm2q)
    replace hu := (show Aside _ from hu)
    replace hue := (show Aside _ from hue)
    replace q1 := (show Aside _ from q1)
    replace q2 := (show Aside _ from q2)
    replace q3 := (show Aside _ from q3)
    replace q4 := (show Aside _ from q4)
    replace q5 := (show Aside _ from q5)
    replace q6 := (show Aside _ from q6)
    by_cases hlt : x.spot < y.spot
    · have e2 : decide (x.spot < y.spot) = true := decide_eq_true hlt
      have hx := hI2.out hlt
      replace hx := (show Aside _ from hx)
      replace hlt := (show Aside _ from hlt)
      (repeat' first
    | simp (contextual := true) (maxSteps := 4000000) only [fwc, fwe, fww, reduceIte, ↓reduceIte, Nat.reduceAdd, Nat.reduceLeDiff, Nat.reduceEqDiff, Nat.reduceLT, Nat.reduceSub, reduceCtorEq, Int.reduceEq, Int.reduceLT, Int.reduceLE, Int.reduceNeg, Int.reduceToNat, Int.reduceAdd, Int.reduceSub, Nat.reduceMul, wrap_succ, part_cell, part_agg, drawW_cv, drawW_gcv, guardW_t, guardW_f, callvF_clo, fdivH, *]
    | (refine seqK_now ?_)
    | (refine retK_now ?_)
    | (refine retK_now' ?_)
    | (intro q hq)
    | (refine cond_intro (fun hc => ?_) (fun hc => ?_)))
      refine callF_use hcmp ?_
      (repeat' first
    | simp (contextual := true) (maxSteps := 4000000) only [fwc, fwe, fww, reduceIte, ↓reduceIte, Nat.reduceAdd, Nat.reduceLeDiff, Nat.reduceEqDiff, Nat.reduceLT, Nat.reduceSub, reduceCtorEq, Int.reduceEq, Int.reduceLT, Int.reduceLE, Int.reduceNeg, Int.reduceToNat, Int.reduceAdd, Int.reduceSub, Nat.reduceMul, wrap_succ, part_cell, part_agg, drawW_cv, drawW_gcv, guardW_t, guardW_f, callvF_clo, fdivH, *]
    | (refine seqK_now ?_)
    | (refine retK_now ?_)
    | (refine retK_now' ?_)
    | (intro q hq)
    | (refine cond_intro (fun hc => ?_) (fun hc => ?_)))
      refine loopK_now (h - s) (by have := hh1.out; have := hh2.out; omega) ?_
      exact hx.out
    · have e2 : decide (x.spot < y.spot) = false := decide_eq_false hlt
      have hx := hI1.out hlt
      replace hx := (show Aside _ from hx)
      replace hlt := (show Aside _ from hlt)
      (repeat' first
    | simp (contextual := true) (maxSteps := 4000000) only [fwc, fwe, fww, reduceIte, ↓reduceIte, Nat.reduceAdd, Nat.reduceLeDiff, Nat.reduceEqDiff, Nat.reduceLT, Nat.reduceSub, reduceCtorEq, Int.reduceEq, Int.reduceLT, Int.reduceLE, Int.reduceNeg, Int.reduceToNat, Int.reduceAdd, Int.reduceSub, Nat.reduceMul, wrap_succ, part_cell, part_agg, drawW_cv, drawW_gcv, guardW_t, guardW_f, callvF_clo, fdivH, *]
    | (refine seqK_now ?_)
    | (refine retK_now ?_)
    | (refine retK_now' ?_)
    | (intro q hq)
    | (refine cond_intro (fun hc => ?_) (fun hc => ?_)))
      refine callF_use hcmp ?_
      (repeat' first
    | simp (contextual := true) (maxSteps := 4000000) only [fwc, fwe, fww, reduceIte, ↓reduceIte, Nat.reduceAdd, Nat.reduceLeDiff, Nat.reduceEqDiff, Nat.reduceLT, Nat.reduceSub, reduceCtorEq, Int.reduceEq, Int.reduceLT, Int.reduceLE, Int.reduceNeg, Int.reduceToNat, Int.reduceAdd, Int.reduceSub, Nat.reduceMul, wrap_succ, part_cell, part_agg, drawW_cv, drawW_gcv, guardW_t, guardW_f, callvF_clo, fdivH, *]
    | (refine seqK_now ?_)
    | (refine retK_now ?_)
    | (refine retK_now' ?_)
    | (intro q hq)
    | (refine cond_intro (fun hc => ?_) (fun hc => ?_)))
      refine loopK_now (r - (h + 1)) (by have := hh1.out; have := hh2.out; omega) ?_
      exact hx.out
  have e0 : decide (s < r) = false := decide_eq_false hc
  obtain rfl : s = r := by omega
  obtain ⟨en, hen⟩ : ∃ en, nn - s = en := ⟨_, rfl⟩
  have wen : IntKind.i64.wrap ((nn : Int) - (s : Int)) = (en : Int) := by rw [wrap_i64 (by omega) (by omega)]; omega
  have hene : mid + m - s = en := by omega
  have hcut2 := fun M => hcut.out s M hsea
  have hcs2 := fun M => hcs.out M s
  rw [hene] at hcut2 hcs2 q4 q5
  have dsm : decide ((s : Int) < (m : Int)) = decide (s < m) := decide_eq_decide.2 (by omega)
  have dme : decide ((m : Int) < (en : Int)) = decide (m < en) := decide_eq_decide.2 (by omega)
  have das : decide ((a : Int) < (s : Int)) = decide (a < s) := decide_eq_decide.2 (by omega)
  have dsd : decide ((s : Int) < (mid : Int)) = decide (s < mid) := decide_eq_decide.2 (by omega)
  have dde : decide ((mid : Int) < (en : Int)) = decide (mid < en) := decide_eq_decide.2 (by omega)
  have deb : decide ((en : Int) < (b : Int)) = decide (en < b) := decide_eq_decide.2 (by omega)
  replace hsea := (show Aside _ from hsea)
  replace hc := (show Aside _ from hc)
  replace hbq := (show Aside _ from hbq)
  replace hn2q := (show Aside _ from hn2q)
  replace hmbq := (show Aside _ from hmbq)
  replace hnnq := (show Aside _ from hnnq)
  replace hpq := (show Aside _ from hpq)
  replace hm1q := (show Aside _ from hm1q)
  replace hm2q := (show Aside _ from hm2q)
  replace q1 := (show Aside _ from q1)
  replace q2 := (show Aside _ from q2)
  replace q3 := (show Aside _ from q3)
  replace q4 := (show Aside _ from q4)
  replace q5 := (show Aside _ from q5)
  replace q6 := (show Aside _ from q6)
  replace hen := (show Aside _ from hen)
  replace hene := (show Aside _ from hene)
  replace hcut2 := (show Aside _ from hcut2)
  replace hcs2 := (show Aside _ from hcs2)
  (repeat' first
    | simp (contextual := true) (maxSteps := 4000000) only [fwc, fwe, fww, reduceIte, ↓reduceIte, Nat.reduceAdd, Nat.reduceLeDiff, Nat.reduceEqDiff, Nat.reduceLT, Nat.reduceSub, reduceCtorEq, Int.reduceEq, Int.reduceLT, Int.reduceLE, Int.reduceNeg, Int.reduceToNat, Int.reduceAdd, Int.reduceSub, Nat.reduceMul, *]
    | (refine retK_now ?_)
    | (refine retK_now' ?_)
    | (intro q hq)
    | (refine cond_intro (fun hc => ?_) (fun hc => ?_)))
  refine seqK_now ?_
  (repeat' first
    | simp (contextual := true) (maxSteps := 4000000) only [fwc, fwe, fww, reduceIte, ↓reduceIte, Nat.reduceAdd, Nat.reduceLeDiff, Nat.reduceEqDiff, Nat.reduceLT, Nat.reduceSub, reduceCtorEq, Int.reduceEq, Int.reduceLT, Int.reduceLE, Int.reduceNeg, Int.reduceToNat, Int.reduceAdd, Int.reduceSub, Nat.reduceMul, *]
    | (refine retK_now ?_)
    | (refine retK_now' ?_)
    | (intro q hq)
    | (refine cond_intro (fun hc => ?_) (fun hc => ?_)))
  refine seqK_now ?_
  refine seq_go ?_
  (repeat' first
    | simp (contextual := true) (maxSteps := 4000000) only [fwc, fwe, fww, reduceIte, ↓reduceIte, Nat.reduceAdd, Nat.reduceLeDiff, Nat.reduceEqDiff, Nat.reduceLT, Nat.reduceSub, reduceCtorEq, Int.reduceEq, Int.reduceLT, Int.reduceLE, Int.reduceNeg, Int.reduceToNat, Int.reduceAdd, Int.reduceSub, Nat.reduceMul, *]
    | (refine retK_now ?_)
    | (refine retK_now' ?_)
    | (intro q hq)
    | (refine cond_intro (fun hc => ?_) (fun hc => ?_)))
  refine seqK_now ?_
  refine seq_post (fun e1 O1 => ∃ M, RotP L M s m en ∧ O1 = stH O id M R ∧ e1 = env59f (oS id n c) a b (.clo (.func 38) [] []) mid s en) ?_ ?_
  rotate_left
  · intro G hG
    replace hG := (show Aside _ from hG)
    by_cases c1 : s < m
    · have f1 : decide (s < m) = true := decide_eq_true c1
      by_cases c2 : m < en
      · have f2 : decide (m < en) = true := decide_eq_true c2
        replace c1 := (show Aside _ from c1)
        replace c2 := (show Aside _ from c2)
        (repeat' first
    | simp (contextual := true) (maxSteps := 4000000) only [fwc, fwe, fww, reduceIte, ↓reduceIte, Nat.reduceAdd, Nat.reduceLeDiff, Nat.reduceEqDiff, Nat.reduceLT, Nat.reduceSub, reduceCtorEq, Int.reduceEq, Int.reduceLT, Int.reduceLE, Int.reduceNeg, Int.reduceToNat, Int.reduceAdd, Int.reduceSub, Nat.reduceMul, *]
    | (refine seqK_now ?_)
    | (refine retK_now ?_)
    | (refine retK_now' ?_)
    | (intro q hq)
    | (refine cond_intro (fun hc => ?_) (fun hc => ?_)))
        refine Rot_ok id n c R O L hn.out hn2.out s m en c1.out c2.out (by have := q4.out; have := hb.out; omega) _ fun M r hM => ?_
        replace hM := (show Aside _ from hM)
        (repeat' first
    | simp (contextual := true) (maxSteps := 4000000) only [fwc, fwe, fww, reduceIte, ↓reduceIte, Nat.reduceAdd, Nat.reduceLeDiff, Nat.reduceEqDiff, Nat.reduceLT, Nat.reduceSub, reduceCtorEq, Int.reduceEq, Int.reduceLT, Int.reduceLE, Int.reduceNeg, Int.reduceToNat, Int.reduceAdd, Int.reduceSub, Nat.reduceMul, *]
    | (refine seqK_now ?_)
    | (refine retK_now ?_)
    | (refine retK_now' ?_)
    | (intro q hq)
    | (refine cond_intro (fun hc => ?_) (fun hc => ?_)))
        exact hG.out _ _ ⟨M, hM.out, rfl, rfl⟩
      · have f2 : decide (m < en) = false := decide_eq_false c2
        have c3 : m = en := by have := q5.out; omega
        replace c1 := (show Aside _ from c1)
        replace c2 := (show Aside _ from c2)
        replace c3 := (show Aside _ from c3)
        (repeat' first
    | simp (contextual := true) (maxSteps := 4000000) only [fwc, fwe, fww, reduceIte, ↓reduceIte, Nat.reduceAdd, Nat.reduceLeDiff, Nat.reduceEqDiff, Nat.reduceLT, Nat.reduceSub, reduceCtorEq, Int.reduceEq, Int.reduceLT, Int.reduceLE, Int.reduceNeg, Int.reduceToNat, Int.reduceAdd, Int.reduceSub, Nat.reduceMul, *]
    | (refine seqK_now ?_)
    | (refine retK_now ?_)
    | (refine retK_now' ?_)
    | (intro q hq)
    | (refine cond_intro (fun hc => ?_) (fun hc => ?_)))
        exact hG.out _ _ ⟨L, RotP.triv (.inr c3.out) q2.out q5.out, rfl, rfl⟩
    · have f1 : decide (s < m) = false := decide_eq_false c1
      have c3 : s = m := by have := q2.out; omega
      replace c1 := (show Aside _ from c1)
      replace c3 := (show Aside _ from c3)
      (repeat' first
    | simp (contextual := true) (maxSteps := 4000000) only [fwc, fwe, fww, reduceIte, ↓reduceIte, Nat.reduceAdd, Nat.reduceLeDiff, Nat.reduceEqDiff, Nat.reduceLT, Nat.reduceSub, reduceCtorEq, Int.reduceEq, Int.reduceLT, Int.reduceLE, Int.reduceNeg, Int.reduceToNat, Int.reduceAdd, Int.reduceSub, Nat.reduceMul, *]
    | (refine seqK_now ?_)
    | (refine retK_now ?_)
    | (refine retK_now' ?_)
    | (intro q hq)
    | (refine cond_intro (fun hc => ?_) (fun hc => ?_)))
      exact hG.out _ _ ⟨L, RotP.triv (.inl c3.out) q2.out q5.out, rfl, rfl⟩
  clear wen
  intro e1 O1 hQ
  obtain ⟨M, hrot, hO1, rfl⟩ := hQ
  rw [hO1]
  clear hO1 O1
  have hC := hcut2.out M hrot
  obtain ⟨Ml, M1, M2, M3, M4⟩ := hcs2.out M hC
  unfold env59f
  replace hrot := (show Aside _ from hrot)
  replace hC := (show Aside _ from hC)
  replace Ml := (show Aside _ from Ml)
  replace M1 := (show Aside _ from M1)
  replace M2 := (show Aside _ from M2)
  replace M3 := (show Aside _ from M3)
  replace M4 := (show Aside _ from M4)
  refine seq_post (fun e1 O1 => ∃ N, Keeps M N a mid ∧ Srt N a mid ∧ O1 = stH O id N R ∧ e1 = env59g (oS id n c) b (.clo (.func 38) [] []) mid en) ?_ ?_
  rotate_left
  · intro G hG
    replace hG := (show Aside _ from hG)
    by_cases c1 : a < s
    · have f1 : decide (a < s) = true := decide_eq_true c1
      by_cases c2 : s < mid
      · have f2 : decide (s < mid) = true := decide_eq_true c2
        replace c1 := (show Aside _ from c1)
        replace c2 := (show Aside _ from c2)
        (repeat' first
    | simp (contextual := true) (maxSteps := 4000000) only [fwc, fwe, fww, reduceIte, ↓reduceIte, Nat.reduceAdd, Nat.reduceLeDiff, Nat.reduceEqDiff, Nat.reduceLT, Nat.reduceSub, reduceCtorEq, Int.reduceEq, Int.reduceLT, Int.reduceLE, Int.reduceNeg, Int.reduceToNat, Int.reduceAdd, Int.reduceSub, Nat.reduceMul, *]
    | (refine seqK_now ?_)
    | (refine retK_now ?_)
    | (refine retK_now' ?_)
    | (intro q hq)
    | (refine cond_intro (fun hc => ?_) (fun hc => ?_)))
        refine ih.out M a s mid Ml.out c1.out c2.out (by have := hm2.out; have := hb.out; omega) M1.out M2.out (by have := hm2.out; have := hm1.out; omega) _ fun N r hN hs => ?_
        replace hN := (show Aside _ from hN)
        replace hs := (show Aside _ from hs)
        (repeat' first
    | simp (contextual := true) (maxSteps := 4000000) only [fwc, fwe, fww, reduceIte, ↓reduceIte, Nat.reduceAdd, Nat.reduceLeDiff, Nat.reduceEqDiff, Nat.reduceLT, Nat.reduceSub, reduceCtorEq, Int.reduceEq, Int.reduceLT, Int.reduceLE, Int.reduceNeg, Int.reduceToNat, Int.reduceAdd, Int.reduceSub, Nat.reduceMul, *]
    | (refine seqK_now ?_)
    | (refine retK_now ?_)
    | (refine retK_now' ?_)
    | (intro q hq)
    | (refine cond_intro (fun hc => ?_) (fun hc => ?_)))
        exact hG.out _ _ ⟨N, hN.out, hs.out, rfl, rfl⟩
      · have f2 : decide (s < mid) = false := decide_eq_false c2
        have c3 : s = mid := by have := q3.out; omega
        replace c1 := (show Aside _ from c1)
        replace c2 := (show Aside _ from c2)
        replace c3 := (show Aside _ from c3)
        (repeat' first
    | simp (contextual := true) (maxSteps := 4000000) only [fwc, fwe, fww, reduceIte, ↓reduceIte, Nat.reduceAdd, Nat.reduceLeDiff, Nat.reduceEqDiff, Nat.reduceLT, Nat.reduceSub, reduceCtorEq, Int.reduceEq, Int.reduceLT, Int.reduceLE, Int.reduceNeg, Int.reduceToNat, Int.reduceAdd, Int.reduceSub, Nat.reduceMul, *]
    | (refine seqK_now ?_)
    | (refine retK_now ?_)
    | (refine retK_now' ?_)
    | (intro q hq)
    | (refine cond_intro (fun hc => ?_) (fun hc => ?_)))
        exact hG.out _ _ ⟨M, Keeps.refl _ _ _, by rw [← c3.out]; exact M1.out, rfl, rfl⟩
    · have f1 : decide (a < s) = false := decide_eq_false c1
      have c3 : s = a := by have := q1.out; omega
      replace c1 := (show Aside _ from c1)
      replace c3 := (show Aside _ from c3)
      (repeat' first
    | simp (contextual := true) (maxSteps := 4000000) only [fwc, fwe, fww, reduceIte, ↓reduceIte, Nat.reduceAdd, Nat.reduceLeDiff, Nat.reduceEqDiff, Nat.reduceLT, Nat.reduceSub, reduceCtorEq, Int.reduceEq, Int.reduceLT, Int.reduceLE, Int.reduceNeg, Int.reduceToNat, Int.reduceAdd, Int.reduceSub, Nat.reduceMul, *]
    | (refine seqK_now ?_)
    | (refine retK_now ?_)
    | (refine retK_now' ?_)
    | (intro q hq)
    | (refine cond_intro (fun hc => ?_) (fun hc => ?_)))
      exact hG.out _ _ ⟨M, Keeps.refl _ _ _, by have := M2.out; rw [c3.out] at this; exact this, rfl, rfl⟩
  intro e1 O1 hQ
  obtain ⟨N, hN, hNs, hO1, rfl⟩ := hQ
  rw [hO1]
  clear hO1 O1
  have N3 : Srt N mid en := Srt.same M3.out fun i i1 i2 => hN.out i (.inr i1)
  have N4 : Srt N en b := Srt.same M4.out fun i i1 i2 => hN.out i (.inr (by
    have := hene.out
    have := q2.out
    omega))
  have Nl : N.length = n := hN.len.trans Ml.out
  unfold env59g
  replace hN := (show Aside _ from hN)
  replace hNs := (show Aside _ from hNs)
  replace N3 := (show Aside _ from N3)
  replace N4 := (show Aside _ from N4)
  replace Nl := (show Aside _ from Nl)
  by_cases c1 : mid < en
  · have f1 : decide (mid < en) = true := decide_eq_true c1
    by_cases c2 : en < b
    · have f2 : decide (en < b) = true := decide_eq_true c2
      replace c1 := (show Aside _ from c1)
      replace c2 := (show Aside _ from c2)
      (repeat' first
    | simp (contextual := true) (maxSteps := 4000000) only [fwc, fwe, fww, reduceIte, ↓reduceIte, Nat.reduceAdd, Nat.reduceLeDiff, Nat.reduceEqDiff, Nat.reduceLT, Nat.reduceSub, reduceCtorEq, Int.reduceEq, Int.reduceLT, Int.reduceLE, Int.reduceNeg, Int.reduceToNat, Int.reduceAdd, Int.reduceSub, Nat.reduceMul, *]
    | (refine seqK_now ?_)
    | (refine retK_now ?_)
    | (refine retK_now' ?_)
    | (intro q hq)
    | (refine cond_intro (fun hc => ?_) (fun hc => ?_)))
      refine ih.out N mid en b Nl.out c1.out c2.out hb.out N3.out N4.out (by have := hm2.out; have := hm1.out; omega) _ fun T r hT hs => ?_
      have hfin := hdone.out M N T s en hC.out hN.out hNs.out hT hs
      replace hT := (show Aside _ from hT)
      replace hs := (show Aside _ from hs)
      replace hfin := (show Aside _ from hfin)
      (repeat' first
    | simp (contextual := true) (maxSteps := 4000000) only [fwc, fwe, fww, reduceIte, ↓reduceIte, Nat.reduceAdd, Nat.reduceLeDiff, Nat.reduceEqDiff, Nat.reduceLT, Nat.reduceSub, reduceCtorEq, Int.reduceEq, Int.reduceLT, Int.reduceLE, Int.reduceNeg, Int.reduceToNat, Int.reduceAdd, Int.reduceSub, Nat.reduceMul, *]
    | (refine seqK_now ?_)
    | (refine retK_now ?_)
    | (refine retK_now' ?_)
    | (intro q hq)
    | (refine cond_intro (fun hc => ?_) (fun hc => ?_)))
      exact WeakR.now (hk _ _ hfin.out.2 hfin.out.1)
    · have f2 : decide (en < b) = false := decide_eq_false c2
      have c3 : en = b := by have := q4.out; omega
      have hfin := hdone.out M N N s en hC.out hN.out hNs.out (Keeps.refl _ _ _) (by have := N3.out; rw [c3] at this; exact this)
      replace c1 := (show Aside _ from c1)
      replace c2 := (show Aside _ from c2)
      replace c3 := (show Aside _ from c3)
      replace hfin := (show Aside _ from hfin)
      (repeat' first
    | simp (contextual := true) (maxSteps := 4000000) only [fwc, fwe, fww, reduceIte, ↓reduceIte, Nat.reduceAdd, Nat.reduceLeDiff, Nat.reduceEqDiff, Nat.reduceLT, Nat.reduceSub, reduceCtorEq, Int.reduceEq, Int.reduceLT, Int.reduceLE, Int.reduceNeg, Int.reduceToNat, Int.reduceAdd, Int.reduceSub, Nat.reduceMul, *]
    | (refine seqK_now ?_)
    | (refine retK_now ?_)
    | (refine retK_now' ?_)
    | (intro q hq)
    | (refine cond_intro (fun hc => ?_) (fun hc => ?_)))
      exact WeakR.now (hk _ _ hfin.out.2 hfin.out.1)
  · have f1 : decide (mid < en) = false := decide_eq_false c1
    have c3 : en = mid := by have := hene.out; have := q2.out; omega
    have hfin := hdone.out M N N s en hC.out hN.out hNs.out (Keeps.refl _ _ _) (by have := N4.out; rw [c3] at this; exact this)
    replace c1 := (show Aside _ from c1)
    replace c3 := (show Aside _ from c3)
    replace hfin := (show Aside _ from hfin)
    (repeat' first
    | simp (contextual := true) (maxSteps := 4000000) only [fwc, fwe, fww, reduceIte, ↓reduceIte, Nat.reduceAdd, Nat.reduceLeDiff, Nat.reduceEqDiff, Nat.reduceLT, Nat.reduceSub, reduceCtorEq, Int.reduceEq, Int.reduceLT, Int.reduceLE, Int.reduceNeg, Int.reduceToNat, Int.reduceAdd, Int.reduceSub, Nat.reduceMul, *]
    | (refine seqK_now ?_)
    | (refine retK_now ?_)
    | (refine retK_now' ?_)
    | (intro q hq)
    | (refine cond_intro (fun hc => ?_) (fun hc => ?_)))
    exact WeakR.now (hk _ _ hfin.out.2 hfin.out.1)

theorem Sym_ok (id n : Nat) (c : Option Nat) (R : List AV) (O : Heap) (hn2 : n ≤ 100000) : ∀ (d : Nat) (L : List Hd) (a m b : Nat), L.length = n → a < m → m < b → b ≤ n → Srt L a m → Srt L m b → b - a < d → ∀ K : AV → Heap → Prop, (∀ M r, Keeps L M a b → Srt M a b → K r (stH O id M R)) → CallA Try.prog 59 [oS id n c, .val (.int .i64 a), .val (.int .i64 m), .val (.int .i64 b), .clo (.func 38) [] []] (stH O id L R) K
  | 0, _, _, _, _, _, _, _, _, _, _, h, _, _ => by omega
  | d + 1, L, a, m, b, hn, ham, hmb, hb, hs1, hs2, hd, K, hk => by
    by_cases h1 : m = a + 1
    · exact Sym1_ok id n c R O hn2 L hn a m b ham hmb hb hs1 hs2 h1 K hk
    · by_cases h2 : b = m + 1
      · exact Sym2_ok id n c R O hn2 L hn a m b ham hmb hb hs1 hs2 (by omega) h2 K hk
      · exact Sym3_ok id n c R O hn2 L hn a m b ham hmb hb hs1 hs2 (by omega) (by omega) (fun L' a' m' b' g1 g2 g3 g4 g5 g6 g7 => Sym_ok id n c R O hn2 d L' a' m' b' g1 g2 g3 g4 g5 g6 (by omega)) K hk
end Go.Proofs.Ytembkknplmcamaa

namespace Go.Proofs.Ytembkknplmcamaa
open Go.Ab
attribute [local irreducible] WeakR WeakE CallA YieldA

/-! The stable sort. -/
def env54x (s : AV) (n : Nat) (f : AV) (bs : Int) (a b : Nat) : Env := (((((Env.upd (fun _ => .junk) 8 (.val (.int .i64 b))).upd 7 (.val (.int .i64 a))).upd 6 (.val (.int .i64 bs))).upd 2 f).upd 1 (.val (.int .i64 n))).upd 0 s
def env54y (s : AV) (n : Nat) (f : AV) (bs : Nat) : Env := (((Env.upd (fun _ => .junk) 6 (.val (.int .i64 bs))).upd 2 f).upd 1 (.val (.int .i64 n))).upd 0 s
theorem Blk.cut {L : List Hd} {s lo hi hj n : Nat} (h : Blk L s lo hi n) (hh : hj ≤ hi) : Blk L s lo hj n := fun c c1 c2 c3 => h c c1 c2 (by omega)
theorem blk_step {L M N : List Hd} {s a n : Nat} (hd : s ∣ a) (hs : 0 < s) (hK : Keeps L M 0 n) (hB : Blk M s 0 a n) {e : Nat} (he : e = min (a + s) n) (hae : a ≤ e) (hk : Keeps M N a e) (hS : Srt N a e) : Keeps L N 0 n ∧ Blk N s 0 (a + s) n := by
  subst he
  exact ⟨hK.trans (hk.wide (by omega) (by omega)), hB.more hd hs hk hS⟩
set_option maxHeartbeats 8000000 in
theorem Stable_ok (id n : Nat) (c : Option Nat) (R : List AV) (O : Heap) (hn2 : n ≤ 100000) (L : List Hd) (hn : L.length = n) (K : AV → Heap → Prop) (hk : ∀ M r, Keeps L M 0 n → Srt M 0 n → K r (stH O id M R)) :
    CallA Try.prog 54 [oS id n c, .val (.int .i64 n), .clo (.func 38) [] []] (stH O id L R) K := by
  refine k54.call mix ?_
  unfold c54
  obtain ⟨I, hI⟩ := hideI (fun t e O' => ∃ (a : Nat) (M : List Hd), 20 ∣ a ∧ a ≤ n ∧ t = n + 20 - a ∧ Keeps L M 0 n ∧ Blk M 20 0 a n ∧ O' = stH O id M R ∧ e = env54x (oS id n c) n (.clo (.func 38) [] []) 20 a (a + 20))
  replace hn := (show Aside _ from hn)
  replace hn2 := (show Aside _ from hn2)
  (repeat' first
    | simp (contextual := true) (maxSteps := 4000000) only [fwc, fwe, fww, reduceIte, ↓reduceIte, Nat.reduceAdd, Nat.reduceLeDiff, Nat.reduceEqDiff, Nat.reduceLT, Nat.reduceSub, reduceCtorEq, Int.reduceEq, Int.reduceLT, Int.reduceLE, Int.reduceNeg, Int.reduceToNat, Int.reduceAdd, Int.reduceSub, Nat.reduceMul, *]
    | (refine seqK_now ?_)
    | (refine retK_now ?_)
    | (refine retK_now' ?_)
    | (intro q hq)
    | (refine cond_intro (fun hc => ?_) (fun hc => ?_)))
  refine cmd_loop I (n + 20 - 0) (by
    rw [hI.out]
    exact ⟨0, L, Nat.dvd_zero _, Nat.zero_le _, rfl, Keeps.refl _ _ _, Blk.first, rfl, rfl⟩) ?_
  intro t e O' hh
  rw [hI.out] at hh
  obtain ⟨a, M, hda, han, rfl, hK, hB, hOH, rfl⟩ := hh
  rw [hOH]
  clear hOH O'
  unfold env54x
  have hn2q := hn2.out
  have hl : M.length = n := hK.len.trans hn.out
  have d1 : decide (((a + 20 : Nat) : Int) ≤ (n : Int)) = decide (a + 20 ≤ n) := decide_eq_decide.2 (by omega)
  have hst := fun (N : List Hd) (e : Nat) (he : e = min (a + 20) n) (h2 : a ≤ e) (hk : Keeps M N a e) (hS : Srt N a e) => blk_step hda (by omega) hK hB he h2 hk hS
  by_cases hc : a + 20 ≤ n
  · have e0 : decide (a + 20 ≤ n) = true := decide_eq_true hc
    have w20 : IntKind.i64.wrap (((a + 20 : Nat) : Int) + 20) = ((a + 20 + 20 : Nat) : Int) := by rw [wrap_i64 (by omega) (by omega)]; omega
    obtain ⟨q, hq⟩ : ∃ q, a + 20 = q := ⟨_, rfl⟩
    rw [hq] at e0 d1 w20 ⊢
    replace hda := (show Aside _ from hda)
    replace han := (show Aside _ from han)
    replace hK := (show Aside _ from hK)
    replace hB := (show Aside _ from hB)
    replace hl := (show Aside _ from hl)
    replace hst := (show Aside _ from hst)
    replace hn2q := (show Aside _ from hn2q)
    replace hc := (show Aside _ from hc)
    replace hq := (show Aside _ from hq)
    (repeat' first
    | simp (contextual := true) (maxSteps := 4000000) only [fwc, fwe, fww, reduceIte, ↓reduceIte, Nat.reduceAdd, Nat.reduceLeDiff, Nat.reduceEqDiff, Nat.reduceLT, Nat.reduceSub, reduceCtorEq, Int.reduceEq, Int.reduceLT, Int.reduceLE, Int.reduceNeg, Int.reduceToNat, Int.reduceAdd, Int.reduceSub, Nat.reduceMul, *]
    | (refine seqK_now ?_)
    | (refine retK_now ?_)
    | (refine retK_now' ?_)
    | (intro q hq)
    | (refine cond_intro (fun hc => ?_) (fun hc => ?_)))
    refine Insert_ok id n c R O M hl.out hn2.out a q han.out (by have := hc.out; have := hq.out; omega) _ fun N r hN hs => ?_
    replace hN := (show Aside _ from hN)
    replace hs := (show Aside _ from hs)
    (repeat' first
    | simp (contextual := true) (maxSteps := 4000000) only [fwc, fwe, fww, reduceIte, ↓reduceIte, Nat.reduceAdd, Nat.reduceLeDiff, Nat.reduceEqDiff, Nat.reduceLT, Nat.reduceSub, reduceCtorEq, Int.reduceEq, Int.reduceLT, Int.reduceLE, Int.reduceNeg, Int.reduceToNat, Int.reduceAdd, Int.reduceSub, Nat.reduceMul, *]
    | (refine seqK_now ?_)
    | (refine retK_now ?_)
    | (refine retK_now' ?_)
    | (intro q hq)
    | (refine cond_intro (fun hc => ?_) (fun hc => ?_)))
    have := hq.out
    have hcq := hc.out
    refine loopK_now (n + 20 - q) (by omega) ?_
    rw [hI.out]
    have hx := hst.out N q (by omega) (by omega) hN.out hs.out
    rw [this] at hx
    exact ⟨q, N, by rw [← this]; exact (Nat.dvd_add hda.out (Nat.dvd_refl 20)), by omega, rfl, hx.1, hx.2, rfl, rfl⟩
  have e0 : decide (a + 20 ≤ n) = false := decide_eq_false hc
  have hcn : n < a + 20 := by omega
  replace hda := (show Aside _ from hda)
  replace han := (show Aside _ from han)
  replace hK := (show Aside _ from hK)
  replace hB := (show Aside _ from hB)
  replace hl := (show Aside _ from hl)
  replace hst := (show Aside _ from hst)
  replace hn2q := (show Aside _ from hn2q)
  replace hc := (show Aside _ from hc)
  replace hcn := (show Aside _ from hcn)
  (repeat' first
    | simp (contextual := true) (maxSteps := 4000000) only [fwc, fwe, fww, reduceIte, ↓reduceIte, Nat.reduceAdd, Nat.reduceLeDiff, Nat.reduceEqDiff, Nat.reduceLT, Nat.reduceSub, reduceCtorEq, Int.reduceEq, Int.reduceLT, Int.reduceLE, Int.reduceNeg, Int.reduceToNat, Int.reduceAdd, Int.reduceSub, Nat.reduceMul, *]
    | (refine seqK_now ?_)
    | (refine retK_now ?_)
    | (refine retK_now' ?_)
    | (intro q hq)
    | (refine cond_intro (fun hc => ?_) (fun hc => ?_)))
  refine Insert_ok id n c R O M hl.out hn2.out a n han.out (Nat.le_refl _) _ fun N r hN hs => ?_
  have hx := hst.out N n (by have := hcn.out; omega) han.out hN hs
  have hx2 := hx.2.cut (hj := n) (by have := hcn.out; omega)
  have hx1 := hx.1
  clear hst hI I hK hB hl hda han hc hcn e0 d1 hx
  obtain ⟨J, hJ⟩ := hideI (fun t e O' => ∃ (bs : Nat) (M : List Hd), 0 < bs ∧ bs ≤ 2 * n + 20 ∧ t = n - bs ∧ Keeps L M 0 n ∧ Blk M bs 0 n n ∧ O' = stH O id M R ∧ e = env54y (oS id n c) n (.clo (.func 38) [] []) bs)
  replace hN := (show Aside _ from hN)
  replace hs := (show Aside _ from hs)
  replace hx1 := (show Aside _ from hx1)
  replace hx2 := (show Aside _ from hx2)
  (repeat' first
    | simp (contextual := true) (maxSteps := 4000000) only [fwc, fwe, fww, reduceIte, ↓reduceIte, Nat.reduceAdd, Nat.reduceLeDiff, Nat.reduceEqDiff, Nat.reduceLT, Nat.reduceSub, reduceCtorEq, Int.reduceEq, Int.reduceLT, Int.reduceLE, Int.reduceNeg, Int.reduceToNat, Int.reduceAdd, Int.reduceSub, Nat.reduceMul, *]
    | (refine seqK_now ?_)
    | (refine retK_now ?_)
    | (refine retK_now' ?_)
    | (intro q hq)
    | (refine cond_intro (fun hc => ?_) (fun hc => ?_)))
  refine cmd_loop J (n - 20) (by
    rw [hJ.out]
    exact ⟨20, N, by omega, by omega, rfl, hx1.out, hx2.out, rfl, rfl⟩) ?_
  clear hx1 hx2 hN hs N
  intro t e O' hh
  rw [hJ.out] at hh
  obtain ⟨bs, M, hb0, hbn, rfl, hK, hB, hOH, rfl⟩ := hh
  rw [hOH]
  clear hOH O'
  unfold env54y
  have hn2q := hn2.out
  have d1 : decide ((bs : Int) < (n : Int)) = decide (bs < n) := decide_eq_decide.2 (by omega)
  by_cases hc : bs < n
  rotate_left
  · have e0 : decide (bs < n) = false := decide_eq_false hc
    have hfin := hB.all (by omega)
    replace hb0 := (show Aside _ from hb0)
    replace hbn := (show Aside _ from hbn)
    replace hK := (show Aside _ from hK)
    replace hB := (show Aside _ from hB)
    replace hn2q := (show Aside _ from hn2q)
    replace hc := (show Aside _ from hc)
    replace hfin := (show Aside _ from hfin)
    (repeat' first
    | simp (contextual := true) (maxSteps := 4000000) only [fwc, fwe, fww, reduceIte, ↓reduceIte, Nat.reduceAdd, Nat.reduceLeDiff, Nat.reduceEqDiff, Nat.reduceLT, Nat.reduceSub, reduceCtorEq, Int.reduceEq, Int.reduceLT, Int.reduceLE, Int.reduceNeg, Int.reduceToNat, Int.reduceAdd, Int.reduceSub, Nat.reduceMul, *]
    | (refine seqK_now ?_)
    | (refine retK_now ?_)
    | (refine retK_now' ?_)
    | (intro q hq)
    | (refine cond_intro (fun hc => ?_) (fun hc => ?_)))
    exact WeakR.now (hk _ _ hK.out hfin.out)
  have e0 : decide (bs < n) = true := decide_eq_true hc
  have w2 : IntKind.i64.wrap (2 * (bs : Int)) = ((2 * bs : Nat) : Int) := by rw [wrap_i64 (by omega) (by omega)]; omega
  have w3 : IntKind.i64.wrap ((bs : Int) * 2) = ((2 * bs : Nat) : Int) := by rw [wrap_i64 (by omega) (by omega)]; omega
  obtain ⟨T, hT⟩ := hideI (fun t e O' => ∃ (a : Nat) (N : List Hd), 2 * bs ∣ a ∧ a ≤ n ∧ t = n + 2 * bs - a ∧ Keeps L N 0 n ∧ Blk N (2 * bs) 0 a n ∧ Blk N bs a n n ∧ O' = stH O id N R ∧ e = env54x (oS id n c) n (.clo (.func 38) [] []) bs a (a + 2 * bs))
  replace hb0 := (show Aside _ from hb0)
  replace hbn := (show Aside _ from hbn)
  replace hK := (show Aside _ from hK)
  replace hB := (show Aside _ from hB)
  replace hn2q := (show Aside _ from hn2q)
  replace hc := (show Aside _ from hc)
  (repeat' first
    | simp (contextual := true) (maxSteps := 4000000) only [fwc, fwe, fww, reduceIte, ↓reduceIte, Nat.reduceAdd, Nat.reduceLeDiff, Nat.reduceEqDiff, Nat.reduceLT, Nat.reduceSub, reduceCtorEq, Int.reduceEq, Int.reduceLT, Int.reduceLE, Int.reduceNeg, Int.reduceToNat, Int.reduceAdd, Int.reduceSub, Nat.reduceMul, *]
    | (refine seqK_now ?_)
    | (refine retK_now ?_)
    | (refine retK_now' ?_)
    | (intro q hq)
    | (refine cond_intro (fun hc => ?_) (fun hc => ?_)))
  refine cmd_loop T (n + 2 * bs - 0) (by
    rw [hT.out]
    exact ⟨0, M, Nat.dvd_zero _, Nat.zero_le _, rfl, hK.out, Blk.first, hB.out, rfl, by rw [Nat.zero_add]; rfl⟩) ?_
  clear hK hB M e0 d1
  intro t e O' hh
  rw [hT.out] at hh
  obtain ⟨a, M, hda, han, rfl, hK, hB, hB2, hOH, rfl⟩ := hh
  rw [hOH]
  clear hOH O'
  unfold env54x
  have hn2q := hn2.out
  have hb0q := hb0.out
  have hcq := hc.out
  have hl : M.length = n := hK.len.trans hn.out
  have hda1 : bs ∣ a := Nat.dvd_trans (Nat.dvd_mul_left bs 2) hda
  have d1 : decide (((a + 2 * bs : Nat) : Int) ≤ (n : Int)) = decide (a + 2 * bs ≤ n) := decide_eq_decide.2 (by omega)
  have wab : IntKind.i64.wrap ((a : Int) + (bs : Int)) = ((a + bs : Nat) : Int) := by rw [wrap_i64 (by omega) (by omega)]; omega
  have hst := fun (N : List Hd) (e : Nat) (he : e = min (a + 2 * bs) n) (h2 : a ≤ e) (hk : Keeps M N a e) (hS : Srt N a e) => blk_step hda (by omega) hK hB he h2 hk hS
  have hs1 : ∀ e, a < n → e = min (a + bs) n → Srt M a e := fun e h he => by rw [he]; exact hB2 a hda1 (Nat.le_refl _) h
  have hs2 : ∀ e, a + bs < n → e = min (a + bs + bs) n → Srt M (a + bs) e := fun e h he => by rw [he]; exact hB2 (a + bs) (Nat.dvd_add hda1 (Nat.dvd_refl bs)) (by omega) h
  have hrest : ∀ N, Keeps M N a (a + 2 * bs) → Blk N bs (a + 2 * bs) n n := fun N hN => by
    have e : a + 2 * bs = a + bs + bs := by omega
    rw [e] at hN ⊢
    exact hB2.rest hN
  have hdn : 2 * bs ∣ a + 2 * bs := Nat.dvd_add hda (Nat.dvd_refl _)
  by_cases hc2 : a + 2 * bs ≤ n
  · have e1 : decide (a + 2 * bs ≤ n) = true := decide_eq_true hc2
    have w20 : IntKind.i64.wrap (((a + 2 * bs : Nat) : Int) + ((2 * bs : Nat) : Int)) = ((a + 2 * bs + 2 * bs : Nat) : Int) := by rw [wrap_i64 (by omega) (by omega)]; omega
    obtain ⟨q, hq⟩ : ∃ q, a + 2 * bs = q := ⟨_, rfl⟩
    rw [hq] at e1 d1 w20 hdn hrest ⊢
    replace hda := (show Aside _ from hda)
    replace han := (show Aside _ from han)
    replace hK := (show Aside _ from hK)
    replace hB := (show Aside _ from hB)
    replace hB2 := (show Aside _ from hB2)
    replace hl := (show Aside _ from hl)
    replace hst := (show Aside _ from hst)
    replace hn2q := (show Aside _ from hn2q)
    replace hc2 := (show Aside _ from hc2)
    replace hq := (show Aside _ from hq)
    replace hb0q := (show Aside _ from hb0q)
    replace hcq := (show Aside _ from hcq)
    replace hda1 := (show Aside _ from hda1)
    replace hs1 := (show Aside _ from hs1)
    replace hs2 := (show Aside _ from hs2)
    replace hrest := (show Aside _ from hrest)
    replace hdn := (show Aside _ from hdn)
    (repeat' first
    | simp (contextual := true) (maxSteps := 4000000) only [fwc, fwe, fww, reduceIte, ↓reduceIte, Nat.reduceAdd, Nat.reduceLeDiff, Nat.reduceEqDiff, Nat.reduceLT, Nat.reduceSub, reduceCtorEq, Int.reduceEq, Int.reduceLT, Int.reduceLE, Int.reduceNeg, Int.reduceToNat, Int.reduceAdd, Int.reduceSub, Nat.reduceMul, *]
    | (refine seqK_now ?_)
    | (refine retK_now ?_)
    | (refine retK_now' ?_)
    | (intro q hq)
    | (refine cond_intro (fun hc => ?_) (fun hc => ?_)))
    have hqq := hq.out
    have hcc := hc2.out
    have hbb := hb0.out
    refine Sym_ok id n c R O hn2.out (q - a + 1) M a (a + bs) q hl.out (by omega) (by omega) (by omega) (hs1.out _ (by omega) (by omega)) (hs2.out _ (by omega) (by omega)) (by omega) _ fun N r hN hs => ?_
    clear hqq hcc hbb
    replace hN := (show Aside _ from hN)
    replace hs := (show Aside _ from hs)
    (repeat' first
    | simp (contextual := true) (maxSteps := 4000000) only [fwc, fwe, fww, reduceIte, ↓reduceIte, Nat.reduceAdd, Nat.reduceLeDiff, Nat.reduceEqDiff, Nat.reduceLT, Nat.reduceSub, reduceCtorEq, Int.reduceEq, Int.reduceLT, Int.reduceLE, Int.reduceNeg, Int.reduceToNat, Int.reduceAdd, Int.reduceSub, Nat.reduceMul, *]
    | (refine seqK_now ?_)
    | (refine retK_now ?_)
    | (refine retK_now' ?_)
    | (intro q hq)
    | (refine cond_intro (fun hc => ?_) (fun hc => ?_)))
    have hqq := hq.out
    have hcc := hc2.out
    have hbb := hb0.out
    refine loopK_now (n + 2 * bs - q) (by omega) ?_
    rw [hT.out]
    have hx := hst.out N q (by omega) (by omega) hN.out hs.out
    rw [hqq] at hx
    exact ⟨q, N, hdn.out, by omega, rfl, hx.1, hx.2, hrest.out N hN.out, rfl, rfl⟩
  have e1 : decide (a + 2 * bs ≤ n) = false := decide_eq_false hc2
  have hcn : n < a + 2 * bs := by omega
  have dm : decide (((a + bs : Nat) : Int) < (n : Int)) = decide (a + bs < n) := decide_eq_decide.2 (by omega)
  have hend : ∀ N, Keeps M N a n → Srt N a n → J (n - 2 * bs) (env54y (oS id n c) n (.clo (.func 38) [] []) (2 * bs)) (stH O id N R) := fun N hN hs => by
    have hx := hst N n (by omega) han hN hs
    rw [hJ.out]
    exact ⟨2 * bs, N, by omega, by omega, rfl, hx.1, hx.2.cut (by omega), rfl, rfl⟩
  replace hda := (show Aside _ from hda)
  replace han := (show Aside _ from han)
  replace hK := (show Aside _ from hK)
  replace hB := (show Aside _ from hB)
  replace hB2 := (show Aside _ from hB2)
  replace hl := (show Aside _ from hl)
  replace hst := (show Aside _ from hst)
  replace hn2q := (show Aside _ from hn2q)
  replace hc2 := (show Aside _ from hc2)
  replace hb0q := (show Aside _ from hb0q)
  replace hcq := (show Aside _ from hcq)
  replace hda1 := (show Aside _ from hda1)
  replace hs1 := (show Aside _ from hs1)
  replace hs2 := (show Aside _ from hs2)
  replace hrest := (show Aside _ from hrest)
  replace hdn := (show Aside _ from hdn)
  replace hcn := (show Aside _ from hcn)
  replace hend := (show Aside _ from hend)
  by_cases hc3 : a + bs < n
  · have e2 : decide (a + bs < n) = true := decide_eq_true hc3
    replace hc3 := (show Aside _ from hc3)
    (repeat' first
    | simp (contextual := true) (maxSteps := 4000000) only [fwc, fwe, fww, reduceIte, ↓reduceIte, Nat.reduceAdd, Nat.reduceLeDiff, Nat.reduceEqDiff, Nat.reduceLT, Nat.reduceSub, reduceCtorEq, Int.reduceEq, Int.reduceLT, Int.reduceLE, Int.reduceNeg, Int.reduceToNat, Int.reduceAdd, Int.reduceSub, Nat.reduceMul, *]
    | (refine seqK_now ?_)
    | (refine retK_now ?_)
    | (refine retK_now' ?_)
    | (intro q hq)
    | (refine cond_intro (fun hc => ?_) (fun hc => ?_)))
    have hcc := hc3.out
    have hbb := hb0.out
    have hc5 := hcn.out
    refine Sym_ok id n c R O hn2.out (n - a + 1) M a (a + bs) n hl.out (by omega) (by omega) (by omega) (hs1.out _ (by omega) (by omega)) (hs2.out _ (by omega) (by omega)) (by omega) _ fun N r hN hs => ?_
    clear hcc hbb hc5
    have hx := hend.out N hN hs
    replace hN := (show Aside _ from hN)
    replace hs := (show Aside _ from hs)
    replace hx := (show Aside _ from hx)
    (repeat' first
    | simp (contextual := true) (maxSteps := 4000000) only [fwc, fwe, fww, reduceIte, ↓reduceIte, Nat.reduceAdd, Nat.reduceLeDiff, Nat.reduceEqDiff, Nat.reduceLT, Nat.reduceSub, reduceCtorEq, Int.reduceEq, Int.reduceLT, Int.reduceLE, Int.reduceNeg, Int.reduceToNat, Int.reduceAdd, Int.reduceSub, Nat.reduceMul, *]
    | (refine seqK_now ?_)
    | (refine retK_now ?_)
    | (refine retK_now' ?_)
    | (intro q hq)
    | (refine cond_intro (fun hc => ?_) (fun hc => ?_)))
    refine loopK_now (n - 2 * bs) (by have := hb0.out; have := hc.out; omega) ?_
    exact hx.out
  · have e2 : decide (a + bs < n) = false := decide_eq_false hc3
    have hx := hend.out M (Keeps.refl _ _ _) (by
      have hhan := han.out
      by_cases h : a < n
      · exact hs1.out n h (by omega)
      · intro i j h1 h2 h3; omega)
    replace hc3 := (show Aside _ from hc3)
    replace hx := (show Aside _ from hx)
    (repeat' first
    | simp (contextual := true) (maxSteps := 4000000) only [fwc, fwe, fww, reduceIte, ↓reduceIte, Nat.reduceAdd, Nat.reduceLeDiff, Nat.reduceEqDiff, Nat.reduceLT, Nat.reduceSub, reduceCtorEq, Int.reduceEq, Int.reduceLT, Int.reduceLE, Int.reduceNeg, Int.reduceToNat, Int.reduceAdd, Int.reduceSub, Nat.reduceMul, *]
    | (refine seqK_now ?_)
    | (refine retK_now ?_)
    | (refine retK_now' ?_)
    | (intro q hq)
    | (refine cond_intro (fun hc => ?_) (fun hc => ?_)))
    refine loopK_now (n - 2 * bs) (by have := hb0.out; have := hc.out; omega) ?_
    exact hx.out

theorem Sort_ok (id n : Nat) (c : Option Nat) (R : List AV) (O : Heap) (hn2 : n ≤ 100000) (L : List Hd) (hn : L.length = n) (K : AV → Heap → Prop) (hk : ∀ M r, Keeps L M 0 n → Srt M 0 n → K r (stH O id M R)) :
    CallA Try.prog 37 [oS id n c, .clo (.func 38) [] []] (stH O id L R) K := by
  refine k37.call mix ?_
  unfold c37 oS
  (repeat' first
    | simp (contextual := true) (maxSteps := 4000000) only [fwc, fwe, fww, reduceIte, ↓reduceIte, Nat.reduceAdd, Nat.reduceLeDiff, Nat.reduceEqDiff, Nat.reduceLT, Nat.reduceSub, reduceCtorEq, Int.reduceEq, Int.reduceLT, Int.reduceLE, Int.reduceNeg, Int.reduceToNat, Int.reduceAdd, Int.reduceSub, Nat.reduceMul, *]
    | (refine seqK_now ?_)
    | (refine retK_now ?_)
    | (refine retK_now' ?_)
    | (intro q hq)
    | (refine cond_intro (fun hc => ?_) (fun hc => ?_)))
  refine Stable_ok id n c R O hn2 L hn _ fun M r h1 h2 => ?_
  replace h1 := (show Aside _ from h1)
  replace h2 := (show Aside _ from h2)
  (repeat' first
    | simp (contextual := true) (maxSteps := 4000000) only [fwc, fwe, fww, reduceIte, ↓reduceIte, Nat.reduceAdd, Nat.reduceLeDiff, Nat.reduceEqDiff, Nat.reduceLT, Nat.reduceSub, reduceCtorEq, Int.reduceEq, Int.reduceLT, Int.reduceLE, Int.reduceNeg, Int.reduceToNat, Int.reduceAdd, Int.reduceSub, Nat.reduceMul, *]
    | (refine seqK_now ?_)
    | (refine retK_now ?_)
    | (refine retK_now' ?_)
    | (intro q hq)
    | (refine cond_intro (fun hc => ?_) (fun hc => ?_)))
  exact WeakR.now (hk _ _ h1.out h2.out)
end Go.Proofs.Ytembkknplmcamaa

namespace Go.Proofs.Ytembkknplmcamaa
open Go.Ab
attribute [local irreducible] WeakR WeakE CallA YieldA

/-! The sort of a slice that may be nil; what a stable sort gives. -/
theorem Insert_nil : PureA Try.prog 58 [.val (.slice none 0 0), .val (.int .i64 0), .val (.int .i64 0), .clo (.func 38) [] []] (.tup []) := by
  intro O
  refine k58.call mix ?_
  unfold c58
  have w1 : IntKind.i64.wrap (0 + 1) = 1 := by decide
  have w2 : IntKind.i64.wrap 1 = 1 := by decide
  have d0 : decide ((1 : Int) < 0) = false := by decide
  obtain ⟨I, hI⟩ := hideI (fun t e O' => t = 0 ∧ O' = O ∧ e = ((((Env.upd (fun _ => .junk) 8 (.val (.int .i64 1))).upd 3 (.clo (.func 38) [] [])).upd 2 (.val (.int .i64 0))).upd 1 (.val (.int .i64 0))).upd 0 (.val (.slice none 0 0)))
  (repeat' first
    | simp (contextual := true) (maxSteps := 4000000) only [fwc, fwe, fww, reduceIte, ↓reduceIte, Nat.reduceAdd, Nat.reduceLeDiff, Nat.reduceEqDiff, Nat.reduceLT, Nat.reduceSub, reduceCtorEq, Int.reduceEq, Int.reduceLT, Int.reduceLE, Int.reduceNeg, Int.reduceToNat, Int.reduceAdd, Int.reduceSub, Nat.reduceMul, *]
    | (refine seqK_now ?_)
    | (refine retK_now ?_)
    | (refine retK_now' ?_)
    | (intro q hq)
    | (refine cond_intro (fun hc => ?_) (fun hc => ?_)))
  refine cmd_loop I 0 (by rw [hI.out]; exact ⟨rfl, rfl, rfl⟩) ?_
  intro t e O' hh
  rw [hI.out] at hh
  obtain ⟨rfl, hOH, rfl⟩ := hh
  rw [hOH]
  clear hOH O'
  (repeat' first
    | simp (contextual := true) (maxSteps := 4000000) only [fwc, fwe, fww, reduceIte, ↓reduceIte, Nat.reduceAdd, Nat.reduceLeDiff, Nat.reduceEqDiff, Nat.reduceLT, Nat.reduceSub, reduceCtorEq, Int.reduceEq, Int.reduceLT, Int.reduceLE, Int.reduceNeg, Int.reduceToNat, Int.reduceAdd, Int.reduceSub, Nat.reduceMul, *]
    | (refine seqK_now ?_)
    | (refine retK_now ?_)
    | (refine retK_now' ?_)
    | (intro q hq)
    | (refine cond_intro (fun hc => ?_) (fun hc => ?_)))
  refine WeakR.pure (by repeat (first | exact Heap.sub_refl _ | refine sub_upd (by simp only [*]) ?_)) ?_
  rfl
theorem Stable_nil : PureA Try.prog 54 [.val (.slice none 0 0), .val (.int .i64 0), .clo (.func 38) [] []] (.tup []) := by
  intro O
  have hi := Insert_nil
  refine k54.call mix ?_
  unfold c54
  have d0 : decide ((20 : Int) ≤ 0) = false := by decide
  have d1 : decide ((20 : Int) < 0) = false := by decide
  obtain ⟨I, hI⟩ := hideI (fun t e O' => t = 0 ∧ O' = O ∧ e = (((((Env.upd (fun _ => .junk) 8 (.val (.int .i64 20))).upd 7 (.val (.int .i64 0))).upd 6 (.val (.int .i64 20))).upd 2 (.clo (.func 38) [] [])).upd 1 (.val (.int .i64 0))).upd 0 (.val (.slice none 0 0)))
  (repeat' first
    | simp (contextual := true) (maxSteps := 4000000) only [fwc, fwe, fww, reduceIte, ↓reduceIte, Nat.reduceAdd, Nat.reduceLeDiff, Nat.reduceEqDiff, Nat.reduceLT, Nat.reduceSub, reduceCtorEq, Int.reduceEq, Int.reduceLT, Int.reduceLE, Int.reduceNeg, Int.reduceToNat, Int.reduceAdd, Int.reduceSub, Nat.reduceMul, *]
    | (refine seqK_now ?_)
    | (refine retK_now ?_)
    | (refine retK_now' ?_)
    | (intro q hq)
    | (refine cond_intro (fun hc => ?_) (fun hc => ?_)))
  refine cmd_loop I 0 (by rw [hI.out]; exact ⟨rfl, rfl, rfl⟩) ?_
  intro t e O' hh
  rw [hI.out] at hh
  obtain ⟨rfl, hOH, rfl⟩ := hh
  rw [hOH]
  clear hOH O'
  (repeat' first
    | simp (contextual := true) (maxSteps := 4000000) only [fwc, fwe, fww, reduceIte, ↓reduceIte, Nat.reduceAdd, Nat.reduceLeDiff, Nat.reduceEqDiff, Nat.reduceLT, Nat.reduceSub, reduceCtorEq, Int.reduceEq, Int.reduceLT, Int.reduceLE, Int.reduceNeg, Int.reduceToNat, Int.reduceAdd, Int.reduceSub, Nat.reduceMul, *]
    | (refine seqK_now ?_)
    | (refine retK_now ?_)
    | (refine retK_now' ?_)
    | (intro q hq)
    | (refine cond_intro (fun hc => ?_) (fun hc => ?_)))
  refine hi.use ?_
  obtain ⟨J, hJ⟩ := hideI (fun t e O' => t = 0 ∧ O' = O ∧ e = (((Env.upd (fun _ => .junk) 6 (.val (.int .i64 20))).upd 2 (.clo (.func 38) [] [])).upd 1 (.val (.int .i64 0))).upd 0 (.val (.slice none 0 0)))
  (repeat' first
    | simp (contextual := true) (maxSteps := 4000000) only [fwc, fwe, fww, reduceIte, ↓reduceIte, Nat.reduceAdd, Nat.reduceLeDiff, Nat.reduceEqDiff, Nat.reduceLT, Nat.reduceSub, reduceCtorEq, Int.reduceEq, Int.reduceLT, Int.reduceLE, Int.reduceNeg, Int.reduceToNat, Int.reduceAdd, Int.reduceSub, Nat.reduceMul, *]
    | (refine seqK_now ?_)
    | (refine retK_now ?_)
    | (refine retK_now' ?_)
    | (intro q hq)
    | (refine cond_intro (fun hc => ?_) (fun hc => ?_)))
  refine cmd_loop J 0 (by rw [hJ.out]; exact ⟨rfl, rfl, rfl⟩) ?_
  intro t e O' hh
  rw [hJ.out] at hh
  obtain ⟨rfl, hOH, rfl⟩ := hh
  rw [hOH]
  clear hOH O'
  (repeat' first
    | simp (contextual := true) (maxSteps := 4000000) only [fwc, fwe, fww, reduceIte, ↓reduceIte, Nat.reduceAdd, Nat.reduceLeDiff, Nat.reduceEqDiff, Nat.reduceLT, Nat.reduceSub, reduceCtorEq, Int.reduceEq, Int.reduceLT, Int.reduceLE, Int.reduceNeg, Int.reduceToNat, Int.reduceAdd, Int.reduceSub, Nat.reduceMul, *]
    | (refine seqK_now ?_)
    | (refine retK_now ?_)
    | (refine retK_now' ?_)
    | (intro q hq)
    | (refine cond_intro (fun hc => ?_) (fun hc => ?_)))
  refine WeakR.pure (by repeat (first | exact Heap.sub_refl _ | refine sub_upd (by simp only [*]) ?_)) ?_
  rfl
theorem Sort_nil : PureA Try.prog 37 [.val (.slice none 0 0), .clo (.func 38) [] []] (.tup []) := by
  intro O
  have hi := Stable_nil
  refine k37.call mix ?_
  unfold c37
  (repeat' first
    | simp (contextual := true) (maxSteps := 4000000) only [fwc, fwe, fww, reduceIte, ↓reduceIte, Nat.reduceAdd, Nat.reduceLeDiff, Nat.reduceEqDiff, Nat.reduceLT, Nat.reduceSub, reduceCtorEq, Int.reduceEq, Int.reduceLT, Int.reduceLE, Int.reduceNeg, Int.reduceToNat, Int.reduceAdd, Int.reduceSub, Nat.reduceMul, *]
    | (refine seqK_now ?_)
    | (refine retK_now ?_)
    | (refine retK_now' ?_)
    | (intro q hq)
    | (refine cond_intro (fun hc => ?_) (fun hc => ?_)))
  refine hi.use ?_
  (repeat' first
    | simp (contextual := true) (maxSteps := 4000000) only [fwc, fwe, fww, reduceIte, ↓reduceIte, Nat.reduceAdd, Nat.reduceLeDiff, Nat.reduceEqDiff, Nat.reduceLT, Nat.reduceSub, reduceCtorEq, Int.reduceEq, Int.reduceLT, Int.reduceLE, Int.reduceNeg, Int.reduceToNat, Int.reduceAdd, Int.reduceSub, Nat.reduceMul, *]
    | (refine seqK_now ?_)
    | (refine retK_now ?_)
    | (refine retK_now' ?_)
    | (intro q hq)
    | (refine cond_intro (fun hc => ?_) (fun hc => ?_)))
  refine WeakR.pure (by repeat (first | exact Heap.sub_refl _ | refine sub_upd (by simp only [*]) ?_)) ?_
  rfl

/-- The lists by their spots, from -12 to 176. -/
def bySpot (L : List Hd) : List Hd := (List.range 95).flatMap fun i : Nat => L.filter fun x => decide (x.spot = -12 + 2 * (i : Int))
theorem gt_cons (x : Hd) (M : List Hd) (i : Nat) : gt (x :: M) (i + 1) = gt M i := by simp [gt]
theorem srt_tail {x : Hd} {M : List Hd} (h : Srt (x :: M) 0 (M.length + 1)) : Srt M 0 M.length ∧ ∀ y ∈ M, x.spot ≤ y.spot := by
  constructor
  · intro i j h1 h2 h3
    have := h (i + 1) (j + 1) (by omega) (by omega) (by omega)
    rwa [gt_cons, gt_cons] at this
  · intro y hy
    obtain ⟨i, hi, rfl⟩ := List.mem_iff_getElem.1 hy
    have := h 0 (i + 1) (by omega) (by omega) (by omega)
    rw [gt_cons, gt_get hi] at this
    exact this
theorem srt_split (k : Int) : ∀ (M : List Hd), Srt M 0 M.length → (∀ x ∈ M, k ≤ x.spot) → M = M.filter (fun x => decide (x.spot = k)) ++ M.filter (fun x => !decide (x.spot = k))
  | [], _, _ => rfl
  | x :: M, hs, hk => by
    obtain ⟨h1, h2⟩ := srt_tail hs
    have ih := srt_split k M h1 (fun y hy => hk y (List.mem_cons_of_mem _ hy))
    by_cases hx : x.spot = k
    · simp only [List.filter_cons, hx, decide_true, if_true, Bool.not_true, Bool.false_eq_true, if_false, List.cons_append]
      rw [← ih]
    · have hxk := hk x List.mem_cons_self
      have e1 : M.filter (fun x => decide (x.spot = k)) = [] := List.filter_eq_nil_iff.2 fun y hy e => by
        have := h2 y hy
        simp only [decide_eq_true_eq] at e
        omega
      have e2 : M.filter (fun x => !decide (x.spot = k)) = M := List.filter_eq_self.2 fun y hy => by
        have := h2 y hy
        simp only [Bool.not_eq_true', decide_eq_false_iff_not]
        omega
      simp only [List.filter_cons, hx, decide_false, Bool.false_eq_true, if_false, Bool.not_false, if_true, e1, e2, List.nil_append]
theorem srt_filter {M : List Hd} (h : Srt M 0 M.length) (p : Hd → Bool) : Srt (M.filter p) 0 (M.filter p).length := by
  induction M with
  | nil => exact h
  | cons x M ih =>
    obtain ⟨h1, h2⟩ := srt_tail h
    have ih := ih h1
    rw [List.filter_cons]
    split
    · intro i j a1 a2 a3
      rw [List.length_cons] at a3
      cases i with
      | zero =>
        cases j with
        | zero => exact Int.le_refl _
        | succ j =>
          have hj : j < (M.filter p).length := by omega
          rw [gt_cons, gt_get hj]
          exact h2 _ (List.mem_filter.1 (List.getElem_mem hj)).1
      | succ i =>
        cases j with
        | zero => omega
        | succ j => rw [gt_cons, gt_cons]; exact ih i j (by omega) (by omega) (by omega)
    · exact ih
theorem srt_by : ∀ (n : Nat) (lo : Int) (M : List Hd), Srt M 0 M.length → (∀ x ∈ M, ∃ i : Nat, i < n ∧ x.spot = lo + 2 * (i : Int)) → M = (List.range n).flatMap fun i : Nat => M.filter fun x => decide (x.spot = lo + 2 * (i : Int))
  | 0, lo, M, hs, hk => by
    cases M with
    | nil => rfl
    | cons x M => obtain ⟨i, hi, _⟩ := hk x List.mem_cons_self; omega
  | n + 1, lo, M, hs, hk => by
    have h1 := srt_split lo M hs (fun x hx => by obtain ⟨i, hi, e⟩ := hk x hx; omega)
    have ih := srt_by n (lo + 2) (M.filter fun x => !decide (x.spot = lo)) (srt_filter hs _) (fun x hx => by
      obtain ⟨m1, m2⟩ := List.mem_filter.1 hx
      obtain ⟨i, hi, e⟩ := hk x m1
      simp only [Bool.not_eq_true', decide_eq_false_iff_not] at m2
      exact ⟨i - 1, by omega, by omega⟩)
    rw [List.range_succ_eq_map, List.flatMap_cons, List.flatMap_map]
    conv => lhs; rw [h1]
    have e0 : ∀ (A B C D : List Hd), A = C → B = D → A ++ B = C ++ D := fun A B C D h1 h2 => by rw [h1, h2]
    refine e0 _ _ _ _ (by simp) ?_
    conv => lhs; rw [ih]
    refine congrArg (fun f => List.flatMap f (List.range n)) (funext fun i => ?_)
    rw [List.filter_filter]
    refine List.filter_congr fun x _ => ?_
    rw [show lo + 2 * ((Nat.succ i : Nat) : Int) = lo + 2 + 2 * (i : Int) by omega]
    by_cases e : x.spot = lo + 2 + 2 * (i : Int)
    · have : ¬ x.spot = lo := by omega
      simp [e]
      omega
    · simp [e]
theorem sort_eq {L M : List Hd} (hl : M.length = L.length) (hs : Srt M 0 L.length) (hf : Flt L M) (hk : ∀ x ∈ L, ∃ i : Nat, i < 95 ∧ x.spot = -12 + 2 * (i : Int)) : M = bySpot L := by
  have hm : ∀ x ∈ M, ∃ i : Nat, i < 95 ∧ x.spot = -12 + 2 * (i : Int) := fun x hx => by
    have h1 : x ∈ M.filter (fun y => decide (y.spot = x.spot)) := List.mem_filter.2 ⟨hx, by simp⟩
    rw [hf] at h1
    exact hk x (List.mem_filter.1 h1).1
  rw [← hl] at hs
  rw [srt_by 95 (-12) M hs hm]
  unfold bySpot
  exact congrArg (fun f => List.flatMap f (List.range 95)) (funext fun i => hf _)

theorem SortN_ok (O0 O' : Heap) (s : AV) (L : List Hd) (h : OwN 40 5 O0 O' s (L.map Hd.av)) (hl : L.length ≤ 100000) (hk : ∀ x ∈ L, ∃ i : Nat, i < 95 ∧ x.spot = -12 + 2 * (i : Int)) (K : AV → Heap → Prop) (hK : ∀ O2 r, OwN 40 5 O0 O2 s ((bySpot L).map Hd.av) → K r O2) :
    CallA Try.prog 37 [s, .clo (.func 38) [] []] O' K := by
  rcases h with ⟨rfl, h0, rfl⟩ | ⟨hne, id, c, elems, h0, rfl, rfl, h1, h2⟩
  · have hL : L = [] := List.map_eq_nil_iff.1 h0
    subst hL
    exact Sort_nil.use (hK _ _ (.inl ⟨rfl, by decide, rfl⟩))
  · rw [List.length_map] at h1 h2 hK ⊢
    have he : elems = arE L (elems.drop L.length) := by
      unfold arE
      rw [← h1, List.take_append_drop]
    rw [he]
    refine Sort_ok id L.length c (elems.drop L.length) O0 hl L rfl _ fun M r hM hs => ?_
    have hlen := hM.len
    have := sort_eq hM.len hs hM.flt hk
    subst this
    refine hK _ _ (.inr ⟨?_, id, c, arE (bySpot L) (elems.drop L.length), h0, by rw [List.length_map, hlen], rfl, ?_, ?_⟩)
    · intro e
      rw [List.map_eq_nil_iff] at e
      rw [e] at hlen
      exact hne (by rw [List.length_eq_zero_iff.1 hlen.symm]; rfl)
    · unfold arE
      rw [List.take_left' rfl]
    · rw [arE_len, List.length_map]
      omega
end Go.Proofs.Ytembkknplmcamaa
