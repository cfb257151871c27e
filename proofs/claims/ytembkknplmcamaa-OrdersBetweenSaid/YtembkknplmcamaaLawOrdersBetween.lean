/- The law OrdersBetween of the given program: for every input the call returns true, and its arguments read as before. Here: contracts of functions, and the law. -/
import Derived.Test.YtembkknplmcamaaLawOrdersBetweenP1
import Derived.Test.YtembkknplmcamaaFc
import Derived.Test.YtembkknplmcamaaRows
set_option linter.unusedSimpArgs false
set_option linter.unusedVariables false
namespace Go.Proofs.Ytembkknplmcamaa
open Go.Ab
attribute [local irreducible] WeakR WeakE CallA YieldA

/-! Insertion sort. -/
def env58 (s : AV) (a b : Nat) (f : AV) (i : Nat) : Env := ((((Env.upd (fun _ => .junk) 8 (.val (.int .i64 i))).upd 3 f).upd 2 (.val (.int .i64 b))).upd 1 (.val (.int .i64 a))).upd 0 s
def env58i (s : AV) (a b : Nat) (f : AV) (i j : Nat) : Env := (((((Env.upd (fun _ => .junk) 9 (.val (.int .i64 j))).upd 8 (.val (.int .i64 i))).upd 3 f).upd 2 (.val (.int .i64 b))).upd 1 (.val (.int .i64 a))).upd 0 s
theorem guardW_t (A B : Prop) : guardW (.val (.bool true)) true A B = A := guard_tt _ _
theorem guardW_f (A B : Prop) : guardW (.val (.bool false)) true A B = B := guard_ft _ _

set_option maxHeartbeats 2000000 in
theorem Insert_ok (id n : Nat) (c : Option Nat) (R : List AV) (O : Heap) (L : List Hd) (hn : L.length = n) (hn2 : n ≤ 100000) (a b : Nat) (hab : a ≤ n) (hb : b ≤ n) (K : AV → Heap → Prop) (hk : ∀ M r, Keeps L M a b → Srt M a b → K r (stH O id M R)) :
    CallA Try.prog 58 [oS id n c, .val (.int .i64 a), .val (.int .i64 b), .clo (.func 38) [] []] (stH O id L R) K := by
  refine k58.call mix ?_
  unfold c58
  obtain ⟨I, hI⟩ := hideI (fun t e O' => ∃ (i : Nat) (M : List Hd), a < i ∧ (i ≤ b ∨ i = a + 1) ∧ t = n + 1 - i ∧ Keeps L M a b ∧ Srt M a i ∧ O' = stH O id M R ∧ e = env58 (oS id n c) a b (.clo (.func 38) [] []) i)
  have wa : IntKind.i64.wrap ((a : Int) + 1) = ((a + 1 : Nat) : Int) := by rw [wrap_i64 (by omega) (by omega)]; omega
  replace hab := (show Aside _ from hab)
  replace hb := (show Aside _ from hb)
  replace hn := (show Aside _ from hn)
  replace hn2 := (show Aside _ from hn2)
  (repeat' first
    | simp (contextual := true) (maxSteps := 4000000) only [fwc, fwe, fww, reduceIte, ↓reduceIte, Nat.reduceAdd, Nat.reduceLeDiff, Nat.reduceEqDiff, Nat.reduceLT, Nat.reduceSub, reduceCtorEq, Int.reduceEq, Int.reduceLT, Int.reduceLE, Int.reduceNeg, Int.reduceToNat, Int.reduceAdd, Int.reduceSub, Nat.reduceMul, *]
    | (refine seqK_now ?_)
    | (refine retK_now ?_)
    | (refine retK_now' ?_)
    | (intro q hq)
    | (refine cond_intro (fun hc => ?_) (fun hc => ?_)))
  refine cmd_loop I (n + 1 - (a + 1)) (by
    have := hab.out
    have := hb.out
    rw [hI.out]
    exact ⟨a + 1, L, by omega, .inr rfl, rfl, Keeps.refl _ _ _, fun i j h1 h2 h3 => by rw [show i = j by omega]; exact Int.le_refl _, rfl, rfl⟩) ?_
  clear wa
  intro t e O' hh
  rw [hI.out] at hh
  obtain ⟨i, M, hai, hib, rfl, hM, hs, hOH, rfl⟩ := hh
  rw [hOH]
  clear hOH O'
  unfold env58
  have dij : decide ((i : Int) < (b : Int)) = decide (i < b) := decide_eq_decide.2 (by omega)
  by_cases hi : i < b
  rotate_left
  · have e0 : decide (i < b) = false := decide_eq_false hi
    have hle : b ≤ i := by omega
    replace hle := (show Aside _ from hle)
    replace hM := (show Aside _ from hM)
    replace hs := (show Aside _ from hs)
    replace hi := (show Aside _ from hi)
    replace hib := (show Aside _ from hib)
    replace hai := (show Aside _ from hai)
    (repeat' first
    | simp (contextual := true) (maxSteps := 4000000) only [fwc, fwe, fww, reduceIte, ↓reduceIte, Nat.reduceAdd, Nat.reduceLeDiff, Nat.reduceEqDiff, Nat.reduceLT, Nat.reduceSub, reduceCtorEq, Int.reduceEq, Int.reduceLT, Int.reduceLE, Int.reduceNeg, Int.reduceToNat, Int.reduceAdd, Int.reduceSub, Nat.reduceMul, *]
    | (refine seqK_now ?_)
    | (refine retK_now ?_)
    | (refine retK_now' ?_)
    | (intro q hq)
    | (refine cond_intro (fun hc => ?_) (fun hc => ?_)))
    exact WeakR.now (hk _ _ hM.out (Srt.part hs.out (Nat.le_refl _) hle.out))
  have e0 : decide (i < b) = true := decide_eq_true hi
  have hwi : i < 4611686018427387904 := by have := hn2.out; have := hb.out; omega
  obtain ⟨J, hJ⟩ := hideI (fun t e O' => ∃ (j : Nat) (N : List Hd), a ≤ j ∧ j ≤ i ∧ t = j ∧ Keeps L N a b ∧ Ins N a j i ∧ O' = stH O id N R ∧ e = env58i (oS id n c) a b (.clo (.func 38) [] []) i j)
  replace hM := (show Aside _ from hM)
  replace hs := (show Aside _ from hs)
  replace hi := (show Aside _ from hi)
  replace hib := (show Aside _ from hib)
  replace hai := (show Aside _ from hai)
  (repeat' first
    | simp (contextual := true) (maxSteps := 4000000) only [fwc, fwe, fww, reduceIte, ↓reduceIte, Nat.reduceAdd, Nat.reduceLeDiff, Nat.reduceEqDiff, Nat.reduceLT, Nat.reduceSub, reduceCtorEq, Int.reduceEq, Int.reduceLT, Int.reduceLE, Int.reduceNeg, Int.reduceToNat, Int.reduceAdd, Int.reduceSub, Nat.reduceMul, *]
    | (refine seqK_now ?_)
    | (refine retK_now ?_)
    | (refine retK_now' ?_)
    | (intro q hq)
    | (refine cond_intro (fun hc => ?_) (fun hc => ?_)))
  refine cmd_loop J i (by
    rw [hJ.out]
    exact ⟨i, M, by have := hai.out; omega, Nat.le_refl _, rfl, hM.out, Ins.start hs.out, rfl, rfl⟩) ?_
  clear hM hs M
  intro j e O' hh
  rw [hJ.out] at hh
  obtain ⟨_, N, haj, hji, rfl, hN, hins, hOH, rfl⟩ := hh
  rw [hOH]
  clear hOH O'
  unfold env58i
  have dja : decide ((a : Int) < (j : Int)) = decide (a < j) := decide_eq_decide.2 (by omega)
  by_cases hj : a < j
  rotate_left
  · have e1 : decide (a < j) = false := decide_eq_false hj
    have hje : j = a := by omega
    replace hN := (show Aside _ from hN)
    replace hins := (show Aside _ from hins)
    replace hj := (show Aside _ from hj)
    replace hje := (show Aside _ from hje)
    replace haj := (show Aside _ from haj)
    replace hji := (show Aside _ from hji)
    (repeat' first
    | simp (contextual := true) (maxSteps := 4000000) only [fwc, fwe, fww, reduceIte, ↓reduceIte, Nat.reduceAdd, Nat.reduceLeDiff, Nat.reduceEqDiff, Nat.reduceLT, Nat.reduceSub, reduceCtorEq, Int.reduceEq, Int.reduceLT, Int.reduceLE, Int.reduceNeg, Int.reduceToNat, Int.reduceAdd, Int.reduceSub, Nat.reduceMul, drawW_cv, drawW_gcv, guardW_t, guardW_f, wrap_succ, *]
    | (refine seqK_now ?_)
    | (refine retK_now ?_)
    | (refine retK_now' ?_)
    | (intro q hq)
    | (refine cond_intro (fun hc => ?_) (fun hc => ?_)))
    refine loopK_now (n + 1 - (i + 1)) (by have := hi.out; have := hb.out; omega) ?_
    rw [hI.out]
    exact ⟨i + 1, N, by have := hai.out; omega, .inl (by have := hi.out; omega), rfl, hN.out, Ins.stop hins.out haj.out hji.out (.inl hje.out), rfl, rfl⟩
  have e1 : decide (a < j) = true := decide_eq_true hj
  obtain ⟨k, rfl⟩ : ∃ k, j = k + 1 := ⟨j - 1, by omega⟩
  have hl : N.length = n := hN.len.trans hn.out
  have h1 : k + 1 < n := by have := hi.out; have := hb.out; omega
  have h2 : k < n := by omega
  have wk : IntKind.i64.wrap (((k + 1 : Nat) : Int) - 1) = (k : Int) := by have := hn2.out; rw [wrap_i64 (by omega) (by omega)]; omega
  have a1 : indexAddrA 5 ((k + 1 : Nat) : Int) (.own id 5 0 n c) = some (.optr id 5 (k + 1) 0) := by rw [ia_onat h1, Nat.zero_add]
  have a2 : indexAddrA 5 (k : Int) (.own id 5 0 n c) = some (.optr id 5 k 0) := by rw [ia_onat h2, Nat.zero_add]
  have g1 : (arE N R)[k + 1]? = some (gt N (k + 1)).av := arE_get (by omega)
  have g2 : (arE N R)[k]? = some (gt N k).av := arE_get (by omega)
  have hst := arE_sw (L := N) (R := R) (i := k + 1) (j := k) (by omega) (by omega)
  rw [sw_comm (by omega) (by omega)] at hst
  have hne : k + 1 ≠ k := by omega
  have hl1 : k + 1 + 1 ≤ (arE N R).length := by rw [arE_len]; omega
  have hl2 : k + 1 ≤ (arE N R).length := by rw [arE_len]; omega
  have hcmp := cmp_ok (gt N (k + 1)) (gt N k)
  have hneg := cmpL_neg (gt N (k + 1)).spot (gt N k).spot
  have hstop : ¬ (gt N (k + 1)).spot < (gt N k).spot → Srt N a (i + 1) := fun h => hins.stop haj hji (.inr (by show (gt N (k + 1 - 1)).spot ≤ _; rw [Nat.add_sub_cancel]; omega))
  have hgo : (gt N (k + 1)).spot < (gt N k).spot → Ins (swp N k (k + 1)) a k i ∧ Keeps L (swp N k (k + 1)) a b := fun h =>
    ⟨hins.step (by omega) hji (by have := hi.out; have := hb.out; omega) h, hN.trans ((sw_keeps (by omega) (by omega)).wide (by omega) (by have := hi.out; omega))⟩
  generalize gt N (k + 1) = x at *
  generalize gt N k = y at *
  unfold stH oS
  rw [show x.av = .agg [.val (.int .u8 x.id.y), .val (.int .i64 x.id.n), .val (.int .u8 x.bed), .val (.int .i64 x.at_), .val (.int .i64 x.spot)] from rfl] at g1 hst hcmp
  rw [show y.av = .agg [.val (.int .u8 y.id.y), .val (.int .i64 y.id.n), .val (.int .u8 y.bed), .val (.int .i64 y.at_), .val (.int .i64 y.spot)] from rfl] at g2 hst hcmp
  generalize hEd : arE N R = E at *
  have s1 : E.take (k + 1) ++ [AV.agg [.val (.int .u8 y.id.y), .val (.int .i64 y.id.n), .val (.int .u8 y.bed), .val (.int .i64 y.at_), .val (.int .i64 y.spot)]] ++ E.drop (k + 1 + 1) = E.set (k + 1) (.agg [.val (.int .u8 y.id.y), .val (.int .i64 y.id.n), .val (.int .u8 y.bed), .val (.int .i64 y.at_), .val (.int .i64 y.spot)]) := by rw [List.set_eq_take_append_cons_drop, if_pos (by omega)]; simp
  have g3 : (E.set (k + 1) (AV.agg [.val (.int .u8 y.id.y), .val (.int .i64 y.id.n), .val (.int .u8 y.bed), .val (.int .i64 y.at_), .val (.int .i64 y.spot)]))[k]? = some (.agg [.val (.int .u8 y.id.y), .val (.int .i64 y.id.n), .val (.int .u8 y.bed), .val (.int .i64 y.at_), .val (.int .i64 y.spot)]) := by rw [List.getElem?_set, if_neg hne]; exact g2
  obtain ⟨q, hq⟩ : ∃ q, k + 1 = q := ⟨_, rfl⟩
  rw [hq] at e1 wk a1 g1 hst hl1 s1 g3 hl2 ⊢
  replace hEd := (show Aside _ from hEd)
  replace hN := (show Aside _ from hN)
  replace hins := (show Aside _ from hins)
  replace hj := (show Aside _ from hj)
  replace haj := (show Aside _ from haj)
  replace hji := (show Aside _ from hji)
  replace hq := (show Aside _ from hq)
  replace hstop := (show Aside _ from hstop)
  replace hgo := (show Aside _ from hgo)
  replace h1 := (show Aside _ from h1)
  replace h2 := (show Aside _ from h2)
  replace hne := (show Aside _ from hne)
  replace hl := (show Aside _ from hl)
  rw [hq.out] at dja
  by_cases hlt : x.spot < y.spot
  · have e2 : decide (x.spot < y.spot) = true := decide_eq_true hlt
    obtain ⟨hg1, hg2⟩ := hgo.out hlt
    replace hlt := (show Aside _ from hlt)
    replace hg1 := (show Aside _ from hg1)
    replace hg2 := (show Aside _ from hg2)
    (repeat' first
    | simp (contextual := true) (maxSteps := 4000000) only [fwc, fwe, fww, reduceIte, ↓reduceIte, Nat.reduceAdd, Nat.reduceLeDiff, Nat.reduceEqDiff, Nat.reduceLT, Nat.reduceSub, reduceCtorEq, Int.reduceEq, Int.reduceLT, Int.reduceLE, Int.reduceNeg, Int.reduceToNat, Int.reduceAdd, Int.reduceSub, Nat.reduceMul, part_cell, part_agg, drawW_cv, drawW_gcv, guardW_t, guardW_f, callvF_clo, *]
    | (refine seqK_now ?_)
    | (refine retK_now ?_)
    | (refine retK_now' ?_)
    | (intro q hq)
    | (refine cond_intro (fun hc => ?_) (fun hc => ?_)))
    refine callF_use hcmp ?_
    (repeat' first
    | simp (contextual := true) (maxSteps := 4000000) only [fwc, fwe, fww, reduceIte, ↓reduceIte, Nat.reduceAdd, Nat.reduceLeDiff, Nat.reduceEqDiff, Nat.reduceLT, Nat.reduceSub, reduceCtorEq, Int.reduceEq, Int.reduceLT, Int.reduceLE, Int.reduceNeg, Int.reduceToNat, Int.reduceAdd, Int.reduceSub, Nat.reduceMul, part_cell, part_agg, drawW_cv, drawW_gcv, guardW_t, guardW_f, callvF_clo, *]
    | (refine seqK_now ?_)
    | (refine retK_now ?_)
    | (refine retK_now' ?_)
    | (intro q hq)
    | (refine cond_intro (fun hc => ?_) (fun hc => ?_)))
    refine loopK_now k (by have := hq.out; omega) ?_
    rw [hJ.out]
    exact ⟨k, _, by have := hj.out; have := hq.out; omega, by have := hji.out; have := hq.out; omega, rfl, hg2.out, hg1.out, by rw [← hq.out]; rfl, rfl⟩
  · have e2 : decide (x.spot < y.spot) = false := decide_eq_false hlt
    have hsr := hstop.out hlt
    replace hlt := (show Aside _ from hlt)
    replace hsr := (show Aside _ from hsr)
    (repeat' first
    | simp (contextual := true) (maxSteps := 4000000) only [fwc, fwe, fww, reduceIte, ↓reduceIte, Nat.reduceAdd, Nat.reduceLeDiff, Nat.reduceEqDiff, Nat.reduceLT, Nat.reduceSub, reduceCtorEq, Int.reduceEq, Int.reduceLT, Int.reduceLE, Int.reduceNeg, Int.reduceToNat, Int.reduceAdd, Int.reduceSub, Nat.reduceMul, part_cell, part_agg, drawW_cv, drawW_gcv, guardW_t, guardW_f, callvF_clo, *]
    | (refine seqK_now ?_)
    | (refine retK_now ?_)
    | (refine retK_now' ?_)
    | (intro q hq)
    | (refine cond_intro (fun hc => ?_) (fun hc => ?_)))
    refine callF_use hcmp ?_
    (repeat' first
    | simp (contextual := true) (maxSteps := 4000000) only [fwc, fwe, fww, reduceIte, ↓reduceIte, Nat.reduceAdd, Nat.reduceLeDiff, Nat.reduceEqDiff, Nat.reduceLT, Nat.reduceSub, reduceCtorEq, Int.reduceEq, Int.reduceLT, Int.reduceLE, Int.reduceNeg, Int.reduceToNat, Int.reduceAdd, Int.reduceSub, Nat.reduceMul, part_cell, part_agg, drawW_cv, drawW_gcv, guardW_t, guardW_f, callvF_clo, wrap_succ, *]
    | (refine seqK_now ?_)
    | (refine retK_now ?_)
    | (refine retK_now' ?_)
    | (intro q hq)
    | (refine cond_intro (fun hc => ?_) (fun hc => ?_)))
    refine loopK_now (n + 1 - (i + 1)) (by have := hi.out; have := hb.out; omega) ?_
    rw [hI.out]
    exact ⟨i + 1, N, by have := hai.out; omega, .inl (by have := hi.out; omega), rfl, hN.out, hsr.out, by rw [← hEd.out]; rfl, rfl⟩
end Go.Proofs.Ytembkknplmcamaa

namespace Go.Proofs.Ytembkknplmcamaa
open Go.Ab
attribute [local irreducible] WeakR WeakE CallA YieldA

/-! symMerge. -/
theorem fdivH (x : Nat) : Int.fdiv (x : Int) (2 ^ min 1 IntKind.u64.bits) = ((x / 2 : Nat) : Int) := by
  have e : min 1 IntKind.u64.bits = 1 := by decide
  rw [e]
  show Int.fdiv (x : Int) ((2 : Nat) : Int) = _
  rw [Int.fdiv_eq_ediv_of_nonneg _ (by omega)]
  rfl
theorem wrap_u64n {x : Nat} (h : x < 4611686018427387904) : IntKind.u64.wrap (x : Int) = (x : Int) := by
  unfold IntKind.wrap IntKind.signed
  show (x : Int) % (2 ^ 64) = x
  omega
def env59a (s : AV) (a i j : Nat) (f : AV) : Env := ((((Env.upd (fun _ => .junk) 11 (.val (.int .i64 j))).upd 10 (.val (.int .i64 i))).upd 4 f).upd 1 (.val (.int .i64 a))).upd 0 s
def env59b (s : AV) (i k : Nat) : Env := ((Env.upd (fun _ => .junk) 13 (.val (.int .i64 k))).upd 10 (.val (.int .i64 i))).upd 0 s
def env59c (s : AV) (m i j : Nat) (f : AV) : Env := ((((Env.upd (fun _ => .junk) 15 (.val (.int .i64 j))).upd 14 (.val (.int .i64 i))).upd 4 f).upd 2 (.val (.int .i64 m))).upd 0 s
def env59d (s : AV) (i k : Nat) : Env := ((Env.upd (fun _ => .junk) 17 (.val (.int .i64 k))).upd 14 (.val (.int .i64 i))).upd 0 s
def env59h (s : AV) (a m b : Nat) (f : AV) (mid nn st r : Nat) : Env := ((((((((Env.upd (fun _ => .junk) 21 (.val (.int .i64 r))).upd 20 (.val (.int .i64 st))).upd 19 (.val (.int .i64 nn))).upd 18 (.val (.int .i64 mid))).upd 4 f).upd 3 (.val (.int .i64 b))).upd 2 (.val (.int .i64 m))).upd 1 (.val (.int .i64 a))).upd 0 s
def env59e (s : AV) (a m b : Nat) (f : AV) (mid nn st r p : Nat) : Env := (((((((((Env.upd (fun _ => .junk) 22 (.val (.int .i64 p))).upd 21 (.val (.int .i64 r))).upd 20 (.val (.int .i64 st))).upd 19 (.val (.int .i64 nn))).upd 18 (.val (.int .i64 mid))).upd 4 f).upd 3 (.val (.int .i64 b))).upd 2 (.val (.int .i64 m))).upd 1 (.val (.int .i64 a))).upd 0 s
def env59f (s : AV) (a b : Nat) (f : AV) (mid st e : Nat) : Env := ((((((Env.upd (fun _ => .junk) 24 (.val (.int .i64 e))).upd 20 (.val (.int .i64 st))).upd 18 (.val (.int .i64 mid))).upd 4 f).upd 3 (.val (.int .i64 b))).upd 1 (.val (.int .i64 a))).upd 0 s
def env59g (s : AV) (b : Nat) (f : AV) (mid e : Nat) : Env := ((((Env.upd (fun _ => .junk) 24 (.val (.int .i64 e))).upd 18 (.val (.int .i64 mid))).upd 4 f).upd 3 (.val (.int .i64 b))).upd 0 s
theorem RotP.triv {L : List Hd} {s m e : Nat} (h : s = m ∨ m = e) (h1 : s ≤ m) (h2 : m ≤ e) : RotP L L s m e := ⟨rfl, fun i => by
  repeat' split
  all_goals first
    | rfl
    | (exfalso; omega)
    | (congr 1; omega)⟩
set_option maxHeartbeats 4000000 in
theorem Sym1_ok (id n : Nat) (c : Option Nat) (R : List AV) (O : Heap) (hn2 : n ≤ 100000) (L : List Hd) (hn : L.length = n) (a m b : Nat) (ham : a < m) (hmb : m < b) (hb : b ≤ n) (hs1 : Srt L a m) (hs2 : Srt L m b) (h1 : m = a + 1) (K : AV → Heap → Prop) (hk : ∀ M r, Keeps L M a b → Srt M a b → K r (stH O id M R)) :
    CallA Try.prog 59 [oS id n c, .val (.int .i64 a), .val (.int .i64 m), .val (.int .i64 b), .clo (.func 38) [] []] (stH O id L R) K := by
  refine k59.call mix ?_
  unfold c59
  obtain ⟨I, hI⟩ := hideI (fun t e O' => ∃ (i j : Nat), m ≤ i ∧ i ≤ j ∧ j ≤ b ∧ t = j - i ∧ (∀ k, m ≤ k → k < i → (gt L k).spot < (gt L a).spot) ∧ (∀ k, j ≤ k → k < b → (gt L a).spot ≤ (gt L k).spot) ∧ O' = stH O id L R ∧ e = env59a (oS id n c) a i j (.clo (.func 38) [] []))
  have wma : IntKind.i64.wrap ((m : Int) - (a : Int)) = 1 := by rw [wrap_i64 (by omega) (by omega)]; omega
  have d11 : decide ((1 : Int) = 1) = true := by decide
  replace ham := (show Aside _ from ham)
  replace hmb := (show Aside _ from hmb)
  replace hb := (show Aside _ from hb)
  replace hn := (show Aside _ from hn)
  replace hn2 := (show Aside _ from hn2)
  replace hs1 := (show Aside _ from hs1)
  replace hs2 := (show Aside _ from hs2)
  replace h1 := (show Aside _ from h1)
  (repeat' first
    | simp (contextual := true) (maxSteps := 4000000) only [fwc, fwe, fww, reduceIte, ↓reduceIte, Nat.reduceAdd, Nat.reduceLeDiff, Nat.reduceEqDiff, Nat.reduceLT, Nat.reduceSub, reduceCtorEq, Int.reduceEq, Int.reduceLT, Int.reduceLE, Int.reduceNeg, Int.reduceToNat, Int.reduceAdd, Int.reduceSub, Nat.reduceMul, *]
    | (refine seqK_now ?_)
    | (refine retK_now ?_)
    | (refine retK_now' ?_)
    | (intro q hq)
    | (refine cond_intro (fun hc => ?_) (fun hc => ?_)))
  refine cmd_loop I (b - m) (by
    have := hmb.out
    rw [hI.out]
    exact ⟨m, b, Nat.le_refl _, by omega, Nat.le_refl _, rfl, fun k _ _ => by omega, fun k _ _ => by omega, rfl, rfl⟩) ?_
  clear wma d11
  intro t e O' hh
  rw [hI.out] at hh
  obtain ⟨i, j, hmi, hij, hjb, rfl, hlo, hhi, hOH, rfl⟩ := hh
  rw [hOH]
  clear hOH O'
  unfold env59a
  have dij : decide ((i : Int) < (j : Int)) = decide (i < j) := decide_eq_decide.2 (by omega)
  have hn2q := hn2.out
  have hbq := hb.out
  by_cases hc : i < j
  · have e0 : decide (i < j) = true := decide_eq_true hc
    have wij : IntKind.i64.wrap ((i : Int) + (j : Int)) = ((i + j : Nat) : Int) := by rw [wrap_i64 (by omega) (by omega)]; omega
    have wu : IntKind.u64.wrap ((i + j : Nat) : Int) = ((i + j : Nat) : Int) := wrap_u64n (by omega)
    have wh : IntKind.i64.wrap (((i + j) / 2 : Nat) : Int) = (((i + j) / 2 : Nat) : Int) := by rw [wrap_i64 (by omega) (by omega)]
    have hd := fdivH (i + j)
    have hh1 : i ≤ (i + j) / 2 := by omega
    have hh2 : (i + j) / 2 < j := by omega
    generalize (i + j) / 2 = h at *
    generalize i + j = ij at *
    have hl := hn.out
    have a1 : indexAddrA 5 (h : Int) (.own id 5 0 n c) = some (.optr id 5 h 0) := by rw [ia_onat (by omega), Nat.zero_add]
    have a2 : indexAddrA 5 (a : Int) (.own id 5 0 n c) = some (.optr id 5 a 0) := by have := ham.out; have := hmb.out; rw [ia_onat (by omega), Nat.zero_add]
    have g1 : (arE L R)[h]? = some (gt L h).av := arE_get (by omega)
    have g2 : (arE L R)[a]? = some (gt L a).av := arE_get (by have := ham.out; have := hmb.out; omega)
    have hcmp := cmp_ok (gt L h) (gt L a)
    have hneg := cmpL_neg (gt L h).spot (gt L a).spot
    have hwh : h < 4611686018427387904 := by omega
    have hI1 : (gt L h).spot < (gt L a).spot → I (j - (h + 1)) (env59a (oS id n c) a (h + 1) j (.clo (.func 38) [] [])) (stH O id L R) := fun hx => by
      rw [hI.out]
      refine ⟨h + 1, j, by omega, by omega, hjb, rfl, fun k k1 k2 => ?_, hhi, rfl, rfl⟩
      have := Srt.part hs2.out (c := m) (d := b) (Nat.le_refl _) (Nat.le_refl _) k h k1 (by omega) (by omega)
      omega
    have hI2 : ¬ (gt L h).spot < (gt L a).spot → I (h - i) (env59a (oS id n c) a i h (.clo (.func 38) [] [])) (stH O id L R) := fun hx => by
      rw [hI.out]
      refine ⟨i, h, hmi, hh1, by omega, rfl, hlo, fun k k1 k2 => ?_, rfl, rfl⟩
      have := Srt.part hs2.out (c := m) (d := b) (Nat.le_refl _) (Nat.le_refl _) h k (by omega) k1 (by omega)
      omega
    generalize gt L h = x at *
    generalize gt L a = y at *
    unfold stH oS at *
    rw [show x.av = .agg [.val (.int .u8 x.id.y), .val (.int .i64 x.id.n), .val (.int .u8 x.bed), .val (.int .i64 x.at_), .val (.int .i64 x.spot)] from rfl] at g1 hcmp
    rw [show y.av = .agg [.val (.int .u8 y.id.y), .val (.int .i64 y.id.n), .val (.int .u8 y.bed), .val (.int .i64 y.at_), .val (.int .i64 y.spot)] from rfl] at g2 hcmp
    generalize arE L R = E at *
    replace hlo := (show Aside _ from hlo)
    replace hhi := (show Aside _ from hhi)
    replace hh1 := (show Aside _ from hh1)
    replace hh2 := (show Aside _ from hh2)
    replace hmi := (show Aside _ from hmi)
    replace hij := (show Aside _ from hij)
    replace hjb := (show Aside _ from hjb)
    replace hc := (show Aside _ from hc)
    replace hl := (show Aside _ from hl)
    replace hI1 := (show Aside _ from hI1)
    replace hI2 := (show Aside _ from hI2)
    replace hbq := (show Aside _ from hbq)
    replace hn2q := (show Aside _ from hn2q)
    by_cases hlt : x.spot < y.spot
    · have e2 : decide (x.spot < y.spot) = true := decide_eq_true hlt
      have hx := hI1.out hlt
      replace hx := (show Aside _ from hx)
      replace hlt := (show Aside _ from hlt)
      (repeat' first
    | simp (contextual := true) (maxSteps := 4000000) only [fwc, fwe, fww, reduceIte, ↓reduceIte, Nat.reduceAdd, Nat.reduceLeDiff, Nat.reduceEqDiff, Nat.reduceLT, Nat.reduceSub, reduceCtorEq, Int.reduceEq, Int.reduceLT, Int.reduceLE, Int.reduceNeg, Int.reduceToNat, Int.reduceAdd, Int.reduceSub, Nat.reduceMul, wrap_succ, part_cell, part_agg, drawW_cv, drawW_gcv, guardW_t, guardW_f, callvF_clo, fdivH, *]
    | (refine seqK_now ?_)
    | (refine retK_now ?_)
    | (refine retK_now' ?_)
    | (intro q hq)
    | (refine cond_intro (fun hc => ?_) (fun hc => ?_)))
      refine callF_use hcmp ?_
      (repeat' first
    | simp (contextual := true) (maxSteps := 4000000) only [fwc, fwe, fww, reduceIte, ↓reduceIte, Nat.reduceAdd, Nat.reduceLeDiff, Nat.reduceEqDiff, Nat.reduceLT, Nat.reduceSub, reduceCtorEq, Int.reduceEq, Int.reduceLT, Int.reduceLE, Int.reduceNeg, Int.reduceToNat, Int.reduceAdd, Int.reduceSub, Nat.reduceMul, wrap_succ, part_cell, part_agg, drawW_cv, drawW_gcv, guardW_t, guardW_f, callvF_clo, fdivH, *]
    | (refine seqK_now ?_)
    | (refine retK_now ?_)
    | (refine retK_now' ?_)
    | (intro q hq)
    | (refine cond_intro (fun hc => ?_) (fun hc => ?_)))
      refine loopK_now (j - (h + 1)) (by have := hh1.out; have := hh2.out; omega) ?_
      exact hx.out
    · have e2 : decide (x.spot < y.spot) = false := decide_eq_false hlt
      have hx := hI2.out hlt
      replace hx := (show Aside _ from hx)
      replace hlt := (show Aside _ from hlt)
      (repeat' first
    | simp (contextual := true) (maxSteps := 4000000) only [fwc, fwe, fww, reduceIte, ↓reduceIte, Nat.reduceAdd, Nat.reduceLeDiff, Nat.reduceEqDiff, Nat.reduceLT, Nat.reduceSub, reduceCtorEq, Int.reduceEq, Int.reduceLT, Int.reduceLE, Int.reduceNeg, Int.reduceToNat, Int.reduceAdd, Int.reduceSub, Nat.reduceMul, wrap_succ, part_cell, part_agg, drawW_cv, drawW_gcv, guardW_t, guardW_f, callvF_clo, fdivH, *]
    | (refine seqK_now ?_)
    | (refine retK_now ?_)
    | (refine retK_now' ?_)
    | (intro q hq)
    | (refine cond_intro (fun hc => ?_) (fun hc => ?_)))
      refine callF_use hcmp ?_
      (repeat' first
    | simp (contextual := true) (maxSteps := 4000000) only [fwc, fwe, fww, reduceIte, ↓reduceIte, Nat.reduceAdd, Nat.reduceLeDiff, Nat.reduceEqDiff, Nat.reduceLT, Nat.reduceSub, reduceCtorEq, Int.reduceEq, Int.reduceLT, Int.reduceLE, Int.reduceNeg, Int.reduceToNat, Int.reduceAdd, Int.reduceSub, Nat.reduceMul, wrap_succ, part_cell, part_agg, drawW_cv, drawW_gcv, guardW_t, guardW_f, callvF_clo, fdivH, *]
    | (refine seqK_now ?_)
    | (refine retK_now ?_)
    | (refine retK_now' ?_)
    | (intro q hq)
    | (refine cond_intro (fun hc => ?_) (fun hc => ?_)))
      refine loopK_now (h - i) (by have := hh1.out; have := hh2.out; omega) ?_
      exact hx.out
  have e0 : decide (i < j) = false := decide_eq_false hc
  obtain rfl : i = j := by omega
  obtain ⟨J, hJ⟩ := hideI (fun t e O' => ∃ (k : Nat) (M : List Hd), a ≤ k ∧ k ≤ i - 1 ∧ t = i - k ∧ MovR L M a k ∧ O' = stH O id M R ∧ e = env59b (oS id n c) i k)
  replace hlo := (show Aside _ from hlo)
  replace hhi := (show Aside _ from hhi)
  replace hmi := (show Aside _ from hmi)
  replace hij := (show Aside _ from hij)
  replace hjb := (show Aside _ from hjb)
  replace hc := (show Aside _ from hc)
  replace hbq := (show Aside _ from hbq)
  replace hn2q := (show Aside _ from hn2q)
  (repeat' first
    | simp (contextual := true) (maxSteps := 4000000) only [fwc, fwe, fww, reduceIte, ↓reduceIte, Nat.reduceAdd, Nat.reduceLeDiff, Nat.reduceEqDiff, Nat.reduceLT, Nat.reduceSub, reduceCtorEq, Int.reduceEq, Int.reduceLT, Int.reduceLE, Int.reduceNeg, Int.reduceToNat, Int.reduceAdd, Int.reduceSub, Nat.reduceMul, *]
    | (refine seqK_now ?_)
    | (refine retK_now ?_)
    | (refine retK_now' ?_)
    | (intro q hq)
    | (refine cond_intro (fun hc => ?_) (fun hc => ?_)))
  refine cmd_loop J (i - a) (by
    have := ham.out
    have := hmi.out
    rw [hJ.out]
    exact ⟨a, L, Nat.le_refl _, by omega, rfl, MovR.zero _ _, rfl, rfl⟩) ?_
  intro t e O' hh
  rw [hJ.out] at hh
  obtain ⟨k, M, hak, hki, rfl, hM, hOH, rfl⟩ := hh
  rw [hOH]
  clear hOH O'
  unfold env59b
  have hn2q := hn2.out
  have hbq := hb.out
  have hjbq := hjb.out
  have hmiq := hmi.out
  have hamq := ham.out
  have wi1 : IntKind.i64.wrap ((i : Int) - 1) = ((i - 1 : Nat) : Int) := by rw [wrap_i64 (by omega) (by omega)]; omega
  have dki : decide ((k : Int) < ((i - 1 : Nat) : Int)) = decide (k < i - 1) := decide_eq_decide.2 (by omega)
  by_cases hk1 : k < i - 1
  rotate_left
  · have e1 : decide (k < i - 1) = false := decide_eq_false hk1
    have hke : k = i - 1 := by omega
    rw [hke] at hM
    have hfin := MovR.done (b := b) hM (by omega) (by omega) (by have := hs2.out; rw [← h1.out]; exact this) (fun t t1 t2 => hlo.out t (by have := h1.out; omega) t2) (fun t t1 t2 => hhi.out t t1 t2)
    replace hM := (show Aside _ from hM)
    replace hke := (show Aside _ from hke)
    replace hk1 := (show Aside _ from hk1)
    replace hki := (show Aside _ from hki)
    replace hak := (show Aside _ from hak)
    replace hn2q := (show Aside _ from hn2q)
    replace hbq := (show Aside _ from hbq)
    replace hjbq := (show Aside _ from hjbq)
    replace hmiq := (show Aside _ from hmiq)
    replace hamq := (show Aside _ from hamq)
    replace hfin := (show Aside _ from hfin)
    (repeat' first
    | simp (contextual := true) (maxSteps := 4000000) only [fwc, fwe, fww, reduceIte, ↓reduceIte, Nat.reduceAdd, Nat.reduceLeDiff, Nat.reduceEqDiff, Nat.reduceLT, Nat.reduceSub, reduceCtorEq, Int.reduceEq, Int.reduceLT, Int.reduceLE, Int.reduceNeg, Int.reduceToNat, Int.reduceAdd, Int.reduceSub, Nat.reduceMul, *]
    | (refine seqK_now ?_)
    | (refine retK_now ?_)
    | (refine retK_now' ?_)
    | (intro q hq)
    | (refine cond_intro (fun hc => ?_) (fun hc => ?_)))
    exact WeakR.now (hk _ _ hfin.out.2 hfin.out.1)
  have e1 : decide (k < i - 1) = true := decide_eq_true hk1
  have hl : M.length = n := hM.len.trans hn.out
  have wk : IntKind.i64.wrap ((k : Int) + 1) = ((k + 1 : Nat) : Int) := by rw [wrap_i64 (by omega) (by omega)]; omega
  have a1 : indexAddrA 5 (k : Int) (.own id 5 0 n c) = some (.optr id 5 k 0) := by rw [ia_onat (by omega), Nat.zero_add]
  have a2 : indexAddrA 5 ((k + 1 : Nat) : Int) (.own id 5 0 n c) = some (.optr id 5 (k + 1) 0) := by rw [ia_onat (by omega), Nat.zero_add]
  have g1 : (arE M R)[k]? = some (gt M k).av := arE_get (by omega)
  have g2 : (arE M R)[k + 1]? = some (gt M (k + 1)).av := arE_get (by omega)
  have hst := arE_sw (L := M) (R := R) (i := k) (j := k + 1) (by omega) (by omega)
  have hl1 : k + 1 ≤ (arE M R).length := by rw [arE_len]; omega
  have hl2 : k + 1 + 1 ≤ (arE M R).length := by rw [arE_len]; omega
  have hx : J (i - (k + 1)) (env59b (oS id n c) i (k + 1)) (stH O id (swp M k (k + 1)) R) := by
    rw [hJ.out]
    exact ⟨k + 1, _, by omega, by omega, rfl, hM.step (by have := hn.out; omega) hak (hlo.out _ (by have := h1.out; omega) (by omega)), rfl, rfl⟩
  generalize gt M k = x at *
  generalize gt M (k + 1) = y at *
  unfold stH oS at *
  rw [show x.av = .agg [.val (.int .u8 x.id.y), .val (.int .i64 x.id.n), .val (.int .u8 x.bed), .val (.int .i64 x.at_), .val (.int .i64 x.spot)] from rfl] at g1 hst
  rw [show y.av = .agg [.val (.int .u8 y.id.y), .val (.int .i64 y.id.n), .val (.int .u8 y.bed), .val (.int .i64 y.at_), .val (.int .i64 y.spot)] from rfl] at g2 hst
  generalize arE M R = E at *
  have s1 : E.take k ++ [AV.agg [.val (.int .u8 y.id.y), .val (.int .i64 y.id.n), .val (.int .u8 y.bed), .val (.int .i64 y.at_), .val (.int .i64 y.spot)]] ++ E.drop (k + 1) = E.set k (.agg [.val (.int .u8 y.id.y), .val (.int .i64 y.id.n), .val (.int .u8 y.bed), .val (.int .i64 y.at_), .val (.int .i64 y.spot)]) := by rw [List.set_eq_take_append_cons_drop, if_pos (by omega)]; simp
  have g3 : (E.set k (AV.agg [.val (.int .u8 y.id.y), .val (.int .i64 y.id.n), .val (.int .u8 y.bed), .val (.int .i64 y.at_), .val (.int .i64 y.spot)]))[(k + 1)]? = some (.agg [.val (.int .u8 y.id.y), .val (.int .i64 y.id.n), .val (.int .u8 y.bed), .val (.int .i64 y.at_), .val (.int .i64 y.spot)]) := by rw [List.getElem?_set, if_neg (by omega)]; exact g2
  replace hM := (show Aside _ from hM)
  replace hk1 := (show Aside _ from hk1)
  replace hki := (show Aside _ from hki)
  replace hak := (show Aside _ from hak)
  replace hn2q := (show Aside _ from hn2q)
  replace hbq := (show Aside _ from hbq)
  replace hjbq := (show Aside _ from hjbq)
  replace hmiq := (show Aside _ from hmiq)
  replace hamq := (show Aside _ from hamq)
  replace hl := (show Aside _ from hl)
  replace hx := (show Aside _ from hx)
  obtain ⟨q, hq⟩ : ∃ q, k + 1 = q := ⟨_, rfl⟩
  have hl1q := hl1
  rw [hq] at wk a2 g2 hst hl1 hl2 s1 g3 hx
  replace hq := (show Aside _ from hq)
  (repeat' first
    | simp (contextual := true) (maxSteps := 4000000) only [fwc, fwe, fww, reduceIte, ↓reduceIte, Nat.reduceAdd, Nat.reduceLeDiff, Nat.reduceEqDiff, Nat.reduceLT, Nat.reduceSub, reduceCtorEq, Int.reduceEq, Int.reduceLT, Int.reduceLE, Int.reduceNeg, Int.reduceToNat, Int.reduceAdd, Int.reduceSub, Nat.reduceMul, part_cell, part_agg, *]
    | (refine seqK_now ?_)
    | (refine retK_now ?_)
    | (refine retK_now' ?_)
    | (intro q hq)
    | (refine cond_intro (fun hc => ?_) (fun hc => ?_)))
  refine loopK_now (i - q) (by have := hk1.out; have := hq.out; omega) ?_
  exact hx.out
set_option maxHeartbeats 4000000 in
theorem Sym2_ok (id n : Nat) (c : Option Nat) (R : List AV) (O : Heap) (hn2 : n ≤ 100000) (L : List Hd) (hn : L.length = n) (a m b : Nat) (ham : a < m) (hmb : m < b) (hb : b ≤ n) (hs1 : Srt L a m) (hs2 : Srt L m b) (h0 : a + 1 < m) (h1 : b = m + 1) (K : AV → Heap → Prop) (hk : ∀ M r, Keeps L M a b → Srt M a b → K r (stH O id M R)) :
    CallA Try.prog 59 [oS id n c, .val (.int .i64 a), .val (.int .i64 m), .val (.int .i64 b), .clo (.func 38) [] []] (stH O id L R) K := by
  refine k59.call mix ?_
  unfold c59
  obtain ⟨I, hI⟩ := hideI (fun t e O' => ∃ (i j : Nat), a ≤ i ∧ i ≤ j ∧ j ≤ m ∧ t = j - i ∧ (∀ k, a ≤ k → k < i → (gt L k).spot ≤ (gt L m).spot) ∧ (∀ k, j ≤ k → k < m → (gt L m).spot < (gt L k).spot) ∧ O' = stH O id L R ∧ e = env59c (oS id n c) m i j (.clo (.func 38) [] []))
  have wma : IntKind.i64.wrap ((m : Int) - (a : Int)) = ((m - a : Nat) : Int) := by rw [wrap_i64 (by omega) (by omega)]; omega
  have d10 : decide (((m - a : Nat) : Int) = 1) = false := decide_eq_false (by omega)
  have wbm : IntKind.i64.wrap ((b : Int) - (m : Int)) = 1 := by rw [wrap_i64 (by omega) (by omega)]; omega
  have d11 : decide ((1 : Int) = 1) = true := by decide
  replace ham := (show Aside _ from ham)
  replace hmb := (show Aside _ from hmb)
  replace hb := (show Aside _ from hb)
  replace hn := (show Aside _ from hn)
  replace hn2 := (show Aside _ from hn2)
  replace hs1 := (show Aside _ from hs1)
  replace hs2 := (show Aside _ from hs2)
  replace h0 := (show Aside _ from h0)
  replace h1 := (show Aside _ from h1)
  (repeat' first
    | simp (contextual := true) (maxSteps := 4000000) only [fwc, fwe, fww, reduceIte, ↓reduceIte, Nat.reduceAdd, Nat.reduceLeDiff, Nat.reduceEqDiff, Nat.reduceLT, Nat.reduceSub, reduceCtorEq, Int.reduceEq, Int.reduceLT, Int.reduceLE, Int.reduceNeg, Int.reduceToNat, Int.reduceAdd, Int.reduceSub, Nat.reduceMul, *]
    | (refine seqK_now ?_)
    | (refine retK_now ?_)
    | (refine retK_now' ?_)
    | (intro q hq)
    | (refine cond_intro (fun hc => ?_) (fun hc => ?_)))
  refine cmd_loop I (m - a) (by
    have := ham.out
    rw [hI.out]
    exact ⟨a, m, Nat.le_refl _, by omega, Nat.le_refl _, rfl, fun k _ _ => by omega, fun k _ _ => by omega, rfl, rfl⟩) ?_
  clear wma d10 wbm d11
  intro t e O' hh
  rw [hI.out] at hh
  obtain ⟨i, j, hmi, hij, hjb, rfl, hlo, hhi, hOH, rfl⟩ := hh
  rw [hOH]
  clear hOH O'
  unfold env59c
  have dij : decide ((i : Int) < (j : Int)) = decide (i < j) := decide_eq_decide.2 (by omega)
  have hn2q := hn2.out
  have hbq := hb.out
  have hmbq := hmb.out
  by_cases hc : i < j
  · have e0 : decide (i < j) = true := decide_eq_true hc
    have wij : IntKind.i64.wrap ((i : Int) + (j : Int)) = ((i + j : Nat) : Int) := by rw [wrap_i64 (by omega) (by omega)]; omega
    have wu : IntKind.u64.wrap ((i + j : Nat) : Int) = ((i + j : Nat) : Int) := wrap_u64n (by omega)
    have wh : IntKind.i64.wrap (((i + j) / 2 : Nat) : Int) = (((i + j) / 2 : Nat) : Int) := by rw [wrap_i64 (by omega) (by omega)]
    have hd := fdivH (i + j)
    have hh1 : i ≤ (i + j) / 2 := by omega
    have hh2 : (i + j) / 2 < j := by omega
    generalize (i + j) / 2 = h at *
    generalize i + j = ij at *
    have hl := hn.out
    have a1 : indexAddrA 5 (h : Int) (.own id 5 0 n c) = some (.optr id 5 h 0) := by rw [ia_onat (by omega), Nat.zero_add]
    have a2 : indexAddrA 5 (m : Int) (.own id 5 0 n c) = some (.optr id 5 m 0) := by rw [ia_onat (by omega), Nat.zero_add]
    have g1 : (arE L R)[h]? = some (gt L h).av := arE_get (by omega)
    have g2 : (arE L R)[m]? = some (gt L m).av := arE_get (by omega)
    have hcmp := cmp_ok (gt L m) (gt L h)
    have hneg := cmpL_neg (gt L m).spot (gt L h).spot
    have hwh : h < 4611686018427387904 := by omega
    have hI1 : ¬ (gt L m).spot < (gt L h).spot → I (j - (h + 1)) (env59c (oS id n c) m (h + 1) j (.clo (.func 38) [] [])) (stH O id L R) := fun hx => by
      rw [hI.out]
      refine ⟨h + 1, j, by omega, by omega, hjb, rfl, fun k k1 k2 => ?_, hhi, rfl, rfl⟩
      have := Srt.part hs1.out (c := a) (d := m) (Nat.le_refl _) (Nat.le_refl _) k h k1 (by omega) (by omega)
      omega
    have hI2 : (gt L m).spot < (gt L h).spot → I (h - i) (env59c (oS id n c) m i h (.clo (.func 38) [] [])) (stH O id L R) := fun hx => by
      rw [hI.out]
      refine ⟨i, h, hmi, hh1, by omega, rfl, hlo, fun k k1 k2 => ?_, rfl, rfl⟩
      have := Srt.part hs1.out (c := a) (d := m) (Nat.le_refl _) (Nat.le_refl _) h k (by omega) k1 (by omega)
      omega
    generalize gt L h = y at *
    generalize gt L m = x at *
    unfold stH oS at *
    rw [show y.av = .agg [.val (.int .u8 y.id.y), .val (.int .i64 y.id.n), .val (.int .u8 y.bed), .val (.int .i64 y.at_), .val (.int .i64 y.spot)] from rfl] at g1 hcmp
    rw [show x.av = .agg [.val (.int .u8 x.id.y), .val (.int .i64 x.id.n), .val (.int .u8 x.bed), .val (.int .i64 x.at_), .val (.int .i64 x.spot)] from rfl] at g2 hcmp
    generalize arE L R = E at *
    replace hlo := (show Aside _ from hlo)
    replace hhi := (show Aside _ from hhi)
    replace hh1 := (show Aside _ from hh1)
    replace hh2 := (show Aside _ from hh2)
    replace hmi := (show Aside _ from hmi)
    replace hij := (show Aside _ from hij)
    replace hjb := (show Aside _ from hjb)
    replace hc := (show Aside _ from hc)
    replace hl := (show Aside _ from hl)
    replace hI1 := (show Aside _ from hI1)
    replace hI2 := (show Aside _ from hI2)
    replace hbq := (show Aside _ from hbq)
    replace hn2q := (show Aside _ from hn2q)
    replace hmbq := (show Aside _ from hmbq)
    by_cases hlt : x.spot < y.spot
    · have e2 : decide (x.spot < y.spot) = true := decide_eq_true hlt
      have hx := hI2.out hlt
      replace hx := (show Aside _ from hx)
      replace hlt := (show Aside _ from hlt)
      (repeat' first
    | simp (contextual := true) (maxSteps := 4000000) only [fwc, fwe, fww, reduceIte, ↓reduceIte, Nat.reduceAdd, Nat.reduceLeDiff, Nat.reduceEqDiff, Nat.reduceLT, Nat.reduceSub, reduceCtorEq, Int.reduceEq, Int.reduceLT, Int.reduceLE, Int.reduceNeg, Int.reduceToNat, Int.reduceAdd, Int.reduceSub, Nat.reduceMul, wrap_succ, part_cell, part_agg, drawW_cv, drawW_gcv, guardW_t, guardW_f, callvF_clo, fdivH, *]
    | (refine seqK_now ?_)
    | (refine retK_now ?_)
    | (refine retK_now' ?_)
    | (intro q hq)
    | (refine cond_intro (fun hc => ?_) (fun hc => ?_)))
      refine callF_use hcmp ?_
      (repeat' first
    | simp (contextual := true) (maxSteps := 4000000) only [fwc, fwe, fww, reduceIte, ↓reduceIte, Nat.reduceAdd, Nat.reduceLeDiff, Nat.reduceEqDiff, Nat.reduceLT, Nat.reduceSub, reduceCtorEq, Int.reduceEq, Int.reduceLT, Int.reduceLE, Int.reduceNeg, Int.reduceToNat, Int.reduceAdd, Int.reduceSub, Nat.reduceMul, wrap_succ, part_cell, part_agg, drawW_cv, drawW_gcv, guardW_t, guardW_f, callvF_clo, fdivH, *]
    | (refine seqK_now ?_)
    | (refine retK_now ?_)
    | (refine retK_now' ?_)
    | (intro q hq)
    | (refine cond_intro (fun hc => ?_) (fun hc => ?_)))
      refine loopK_now (h - i) (by have := hh1.out; have := hh2.out; omega) ?_
      exact hx.out
    · have e2 : decide (x.spot < y.spot) = false := decide_eq_false hlt
      have hx := hI1.out hlt
      replace hx := (show Aside _ from hx)
      replace hlt := (show Aside _ from hlt)
      (repeat' first
    | simp (contextual := true) (maxSteps := 4000000) only [fwc, fwe, fww, reduceIte, ↓reduceIte, Nat.reduceAdd, Nat.reduceLeDiff, Nat.reduceEqDiff, Nat.reduceLT, Nat.reduceSub, reduceCtorEq, Int.reduceEq, Int.reduceLT, Int.reduceLE, Int.reduceNeg, Int.reduceToNat, Int.reduceAdd, Int.reduceSub, Nat.reduceMul, wrap_succ, part_cell, part_agg, drawW_cv, drawW_gcv, guardW_t, guardW_f, callvF_clo, fdivH, *]
    | (refine seqK_now ?_)
    | (refine retK_now ?_)
    | (refine retK_now' ?_)
    | (intro q hq)
    | (refine cond_intro (fun hc => ?_) (fun hc => ?_)))
      refine callF_use hcmp ?_
      (repeat' first
    | simp (contextual := true) (maxSteps := 4000000) only [fwc, fwe, fww, reduceIte, ↓reduceIte, Nat.reduceAdd, Nat.reduceLeDiff, Nat.reduceEqDiff, Nat.reduceLT, Nat.reduceSub, reduceCtorEq, Int.reduceEq, Int.reduceLT, Int.reduceLE, Int.reduceNeg, Int.reduceToNat, Int.reduceAdd, Int.reduceSub, Nat.reduceMul, wrap_succ, part_cell, part_agg, drawW_cv, drawW_gcv, guardW_t, guardW_f, callvF_clo, fdivH, *]
    | (refine seqK_now ?_)
    | (refine retK_now ?_)
    | (refine retK_now' ?_)
    | (intro q hq)
    | (refine cond_intro (fun hc => ?_) (fun hc => ?_)))
      refine loopK_now (j - (h + 1)) (by have := hh1.out; have := hh2.out; omega) ?_
      exact hx.out
  have e0 : decide (i < j) = false := decide_eq_false hc
  obtain rfl : i = j := by omega
  obtain ⟨J, hJ⟩ := hideI (fun t e O' => ∃ (M : List Hd), i ≤ t ∧ t ≤ m ∧ MovL L M m t ∧ O' = stH O id M R ∧ e = env59d (oS id n c) i t)
  replace hlo := (show Aside _ from hlo)
  replace hhi := (show Aside _ from hhi)
  replace hmi := (show Aside _ from hmi)
  replace hij := (show Aside _ from hij)
  replace hjb := (show Aside _ from hjb)
  replace hc := (show Aside _ from hc)
  replace hbq := (show Aside _ from hbq)
  replace hn2q := (show Aside _ from hn2q)
  replace hmbq := (show Aside _ from hmbq)
  (repeat' first
    | simp (contextual := true) (maxSteps := 4000000) only [fwc, fwe, fww, reduceIte, ↓reduceIte, Nat.reduceAdd, Nat.reduceLeDiff, Nat.reduceEqDiff, Nat.reduceLT, Nat.reduceSub, reduceCtorEq, Int.reduceEq, Int.reduceLT, Int.reduceLE, Int.reduceNeg, Int.reduceToNat, Int.reduceAdd, Int.reduceSub, Nat.reduceMul, *]
    | (refine seqK_now ?_)
    | (refine retK_now ?_)
    | (refine retK_now' ?_)
    | (intro q hq)
    | (refine cond_intro (fun hc => ?_) (fun hc => ?_)))
  refine cmd_loop J m (by
    rw [hJ.out]
    exact ⟨L, hjb.out, Nat.le_refl _, MovL.zero _ _, rfl, rfl⟩) ?_
  intro k e O' hh
  rw [hJ.out] at hh
  obtain ⟨M, hik, hkm, hM, hOH, rfl⟩ := hh
  rw [hOH]
  clear hOH O'
  unfold env59d
  have hn2q := hn2.out
  have hbq := hb.out
  have hmbq := hmb.out
  have hmiq := hmi.out
  have dki : decide ((i : Int) < (k : Int)) = decide (i < k) := decide_eq_decide.2 (by omega)
  by_cases hk1 : i < k
  rotate_left
  · have e1 : decide (i < k) = false := decide_eq_false hk1
    have hke : k = i := by omega
    rw [hke] at hM
    have hfin := MovL.done (a := a) hM (by omega) (by omega) hs1.out (fun t t1 t2 => hlo.out t t1 t2) (fun t t1 t2 => hhi.out t t1 t2)
    rw [← h1.out] at hfin
    replace hM := (show Aside _ from hM)
    replace hke := (show Aside _ from hke)
    replace hk1 := (show Aside _ from hk1)
    replace hkm := (show Aside _ from hkm)
    replace hik := (show Aside _ from hik)
    replace hn2q := (show Aside _ from hn2q)
    replace hbq := (show Aside _ from hbq)
    replace hmbq := (show Aside _ from hmbq)
    replace hmiq := (show Aside _ from hmiq)
    replace hfin := (show Aside _ from hfin)
    (repeat' first
    | simp (contextual := true) (maxSteps := 4000000) only [fwc, fwe, fww, reduceIte, ↓reduceIte, Nat.reduceAdd, Nat.reduceLeDiff, Nat.reduceEqDiff, Nat.reduceLT, Nat.reduceSub, reduceCtorEq, Int.reduceEq, Int.reduceLT, Int.reduceLE, Int.reduceNeg, Int.reduceToNat, Int.reduceAdd, Int.reduceSub, Nat.reduceMul, *]
    | (refine seqK_now ?_)
    | (refine retK_now ?_)
    | (refine retK_now' ?_)
    | (intro q hq)
    | (refine cond_intro (fun hc => ?_) (fun hc => ?_)))
    exact WeakR.now (hk _ _ hfin.out.2 hfin.out.1)
  obtain ⟨p, rfl⟩ : ∃ p, k = p + 1 := ⟨k - 1, by omega⟩
  have e1 : decide (i < p + 1) = true := decide_eq_true hk1
  have hl : M.length = n := hM.len.trans hn.out
  have wk : IntKind.i64.wrap (((p + 1 : Nat) : Int) - 1) = (p : Int) := by rw [wrap_i64 (by omega) (by omega)]; omega
  have a1 : indexAddrA 5 (p : Int) (.own id 5 0 n c) = some (.optr id 5 p 0) := by rw [ia_onat (by omega), Nat.zero_add]
  have a2 : indexAddrA 5 ((p + 1 : Nat) : Int) (.own id 5 0 n c) = some (.optr id 5 (p + 1) 0) := by rw [ia_onat (by omega), Nat.zero_add]
  have g1 : (arE M R)[p + 1]? = some (gt M (p + 1)).av := arE_get (by omega)
  have g2 : (arE M R)[p]? = some (gt M p).av := arE_get (by omega)
  have hst := arE_sw (L := M) (R := R) (i := p + 1) (j := p) (by omega) (by omega)
  rw [sw_comm (by omega) (by omega)] at hst
  have hl1 : p + 1 + 1 ≤ (arE M R).length := by rw [arE_len]; omega
  have hl2 : p + 1 ≤ (arE M R).length := by rw [arE_len]; omega
  have hx : J p (env59d (oS id n c) i p) (stH O id (swp M p (p + 1)) R) := by
    rw [hJ.out]
    exact ⟨_, by omega, by omega, hM.step (by have := hn.out; omega) hkm (hhi.out _ (by omega) (by omega)), rfl, rfl⟩
  generalize gt M (p + 1) = x at *
  generalize gt M p = y at *
  unfold stH oS at *
  rw [show x.av = .agg [.val (.int .u8 x.id.y), .val (.int .i64 x.id.n), .val (.int .u8 x.bed), .val (.int .i64 x.at_), .val (.int .i64 x.spot)] from rfl] at g1 hst
  rw [show y.av = .agg [.val (.int .u8 y.id.y), .val (.int .i64 y.id.n), .val (.int .u8 y.bed), .val (.int .i64 y.at_), .val (.int .i64 y.spot)] from rfl] at g2 hst
  generalize arE M R = E at *
  have s1 : E.take (p + 1) ++ [AV.agg [.val (.int .u8 y.id.y), .val (.int .i64 y.id.n), .val (.int .u8 y.bed), .val (.int .i64 y.at_), .val (.int .i64 y.spot)]] ++ E.drop ((p + 1) + 1) = E.set (p + 1) (.agg [.val (.int .u8 y.id.y), .val (.int .i64 y.id.n), .val (.int .u8 y.bed), .val (.int .i64 y.at_), .val (.int .i64 y.spot)]) := by rw [List.set_eq_take_append_cons_drop, if_pos (by omega)]; simp
  have g3 : (E.set (p + 1) (AV.agg [.val (.int .u8 y.id.y), .val (.int .i64 y.id.n), .val (.int .u8 y.bed), .val (.int .i64 y.at_), .val (.int .i64 y.spot)]))[p]? = some (.agg [.val (.int .u8 y.id.y), .val (.int .i64 y.id.n), .val (.int .u8 y.bed), .val (.int .i64 y.at_), .val (.int .i64 y.spot)]) := by rw [List.getElem?_set, if_neg (by omega)]; exact g2
  replace hM := (show Aside _ from hM)
  replace hk1 := (show Aside _ from hk1)
  replace hkm := (show Aside _ from hkm)
  replace hik := (show Aside _ from hik)
  replace hn2q := (show Aside _ from hn2q)
  replace hbq := (show Aside _ from hbq)
  replace hmbq := (show Aside _ from hmbq)
  replace hmiq := (show Aside _ from hmiq)
  replace hl := (show Aside _ from hl)
  replace hx := (show Aside _ from hx)
  obtain ⟨q, hq⟩ : ∃ q, p + 1 = q := ⟨_, rfl⟩
  rw [hq] at wk a2 g1 hst hl1 hl2 s1 g3 e1 dki hx ⊢
  replace hq := (show Aside _ from hq)
  (repeat' first
    | simp (contextual := true) (maxSteps := 4000000) only [fwc, fwe, fww, reduceIte, ↓reduceIte, Nat.reduceAdd, Nat.reduceLeDiff, Nat.reduceEqDiff, Nat.reduceLT, Nat.reduceSub, reduceCtorEq, Int.reduceEq, Int.reduceLT, Int.reduceLE, Int.reduceNeg, Int.reduceToNat, Int.reduceAdd, Int.reduceSub, Nat.reduceMul, part_cell, part_agg, *]
    | (refine seqK_now ?_)
    | (refine retK_now ?_)
    | (refine retK_now' ?_)
    | (intro q hq)
    | (refine cond_intro (fun hc => ?_) (fun hc => ?_)))
  refine loopK_now p (by have := hq.out; omega) ?_
  exact hx.out
end Go.Proofs.Ytembkknplmcamaa

namespace Go.Proofs.Ytembkknplmcamaa
open Go.Ab
attribute [local irreducible] WeakR WeakE CallA YieldA

/-! symMerge, the case that halves, and the whole. -/
theorem loM_hi {a m b : Nat} (h : (a + b) / 2 < m) : loM a m b = (a + b) / 2 + m - b := if_pos h
theorem loM_lo {a m b : Nat} (h : ¬ (a + b) / 2 < m) : loM a m b = a := if_neg h
theorem hiM_hi {a m b : Nat} (h : (a + b) / 2 < m) : hiM a m b = (a + b) / 2 := if_pos h
theorem hiM_lo {a m b : Nat} (h : ¬ (a + b) / 2 < m) : hiM a m b = m := if_neg h
set_option maxHeartbeats 8000000 in
theorem Sym3_ok (id n : Nat) (c : Option Nat) (R : List AV) (O : Heap) (hn2 : n ≤ 100000) (L : List Hd) (hn : L.length = n) (a m b : Nat) (ham : a < m) (hmb : m < b) (hb : b ≤ n) (hs1 : Srt L a m) (hs2 : Srt L m b) (h0 : a + 1 < m) (h1 : m + 1 < b)
    (ih : ∀ (L : List Hd) (a' m' b' : Nat), L.length = n → a' < m' → m' < b' → b' ≤ n → Srt L a' m' → Srt L m' b' → b' - a' < b - a → ∀ K : AV → Heap → Prop, (∀ M r, Keeps L M a' b' → Srt M a' b' → K r (stH O id M R)) → CallA Try.prog 59 [oS id n c, .val (.int .i64 a'), .val (.int .i64 m'), .val (.int .i64 b'), .clo (.func 38) [] []] (stH O id L R) K) (K : AV → Heap → Prop) (hk : ∀ M r, Keeps L M a b → Srt M a b → K r (stH O id M R)) :
    CallA Try.prog 59 [oS id n c, .val (.int .i64 a), .val (.int .i64 m), .val (.int .i64 b), .clo (.func 38) [] []] (stH O id L R) K := by
  have hsea := Sea.start (L := L) ham hmb
  have hcut : ∀ s M, Sea L a m b s s → RotP L M s m ((a + b) / 2 + m - s) → Cut L M a s m ((a + b) / 2 + m - s) b := fun s M h1 h2 => h1.cut ham hmb (by omega) hs1 hs2 h2
  have hbound : ∀ s r, Sea L a m b s r → a ≤ s ∧ r ≤ m ∧ r ≤ (a + b) / 2 ∧ (a + b) / 2 + m - s ≤ b ∧ m ≤ (a + b) / 2 + m - r := fun s r h => h.bound ham hmb
  have hloM : a ≤ loM a m b ∧ loM a m b ≤ m := ⟨(hbound _ _ hsea).1, Nat.le_trans hsea.mid (hbound _ _ hsea).2.1⟩
  have hhiM : hiM a m b ≤ m := (hbound _ _ hsea).2.1
  have wab : IntKind.i64.wrap ((a : Int) + (b : Int)) = ((a + b : Nat) : Int) := by rw [wrap_i64 (by omega) (by omega)]; omega
  have wu : IntKind.u64.wrap ((a + b : Nat) : Int) = ((a + b : Nat) : Int) := wrap_u64n (by omega)
  have wh : IntKind.i64.wrap (((a + b) / 2 : Nat) : Int) = (((a + b) / 2 : Nat) : Int) := by rw [wrap_i64 (by omega) (by omega)]
  have hd := fdivH (a + b)
  have wma : IntKind.i64.wrap ((m : Int) - (a : Int)) = ((m - a : Nat) : Int) := by rw [wrap_i64 (by omega) (by omega)]; omega
  have d10 : decide (((m - a : Nat) : Int) = 1) = false := decide_eq_false (by omega)
  have wbm : IntKind.i64.wrap ((b : Int) - (m : Int)) = ((b - m : Nat) : Int) := by rw [wrap_i64 (by omega) (by omega)]; omega
  have d11 : decide (((b - m : Nat) : Int) = 1) = false := decide_eq_false (by omega)
  have hL := fun h => loM_lo (a := a) (m := m) (b := b) h
  have hH := fun h => loM_hi (a := a) (m := m) (b := b) h
  have gL := fun h => hiM_lo (a := a) (m := m) (b := b) h
  have gH := fun h => hiM_hi (a := a) (m := m) (b := b) h
  have hge : (a + b) / 2 < m → b ≤ (a + b) / 2 + m := fun h => by omega
  have hm1 : a < (a + b) / 2 := by omega
  have hm2 : (a + b) / 2 < b := by omega
  have hdone : ∀ M N R' s e, Cut L M a s m e b → Keeps M N a ((a + b) / 2) → Srt N a ((a + b) / 2) → Keeps N R' ((a + b) / 2) b → Srt R' ((a + b) / 2) b → Srt R' a b ∧ Keeps L R' a b := fun M N R' s e hc k1 s1 k2 s2 => hc.done (by omega) k1 s1 k2 s2
  have hcs : ∀ M s, Cut L M a s m ((a + b) / 2 + m - s) b → M.length = n ∧ Srt M a s ∧ Srt M s ((a + b) / 2) ∧ Srt M ((a + b) / 2) ((a + b) / 2 + m - s) ∧ Srt M ((a + b) / 2 + m - s) b := fun M s hc => ⟨hc.keep.len.trans hn, hc.s1, hc.s2, hc.s3, hc.s4⟩
  have hless : ∀ s r c, Sea L a m b s r → s ≤ c → c < r → ¬ (gt L ((a + b) / 2 + m - 1 - c)).spot < (gt L c).spot → Sea L a m b (c + 1) r := fun s r c h h1 h2 h3 => h.less h1 h2 h3
  have hmore : ∀ s r c, Sea L a m b s r → s ≤ c → c < r → (gt L ((a + b) / 2 + m - 1 - c)).spot < (gt L c).spot → Sea L a m b s c := fun s r c h h1 h2 h3 => h.more h1 h2 h3
  have hmid : ∀ s r, Sea L a m b s r → s ≤ r := fun s r h => h.mid
  generalize loM a m b = lo0 at *
  generalize hiM a m b = hi0 at *
  generalize (a + b) / 2 = mid at *
  generalize a + b = ab at *
  obtain ⟨nn, hnn⟩ : ∃ nn, mid + m = nn := ⟨_, rfl⟩
  have wnn : IntKind.i64.wrap ((mid : Int) + (m : Int)) = (nn : Int) := by rw [wrap_i64 (by omega) (by omega)]; omega
  obtain ⟨p, hp⟩ : ∃ p, nn - 1 = p := ⟨_, rfl⟩
  have wp : IntKind.i64.wrap ((nn : Int) - 1) = (p : Int) := by rw [wrap_i64 (by omega) (by omega)]; omega
  have dmm : decide ((mid : Int) < (m : Int)) = decide (mid < m) := decide_eq_decide.2 (by omega)
  have wlo : mid < m → IntKind.i64.wrap ((nn : Int) - (b : Int)) = (lo0 : Int) := fun h => by have := hH h; have := hge h; rw [wrap_i64 (by omega) (by omega)]; omega
  refine k59.call mix ?_
  unfold c59
  replace ham := (show Aside _ from ham)
  replace hmb := (show Aside _ from hmb)
  replace hb := (show Aside _ from hb)
  replace hn := (show Aside _ from hn)
  replace hn2 := (show Aside _ from hn2)
  replace hs1 := (show Aside _ from hs1)
  replace hs2 := (show Aside _ from hs2)
  replace h0 := (show Aside _ from h0)
  replace h1 := (show Aside _ from h1)
  replace ih := (show Aside _ from ih)
  replace hsea := (show Aside _ from hsea)
  replace hcut := (show Aside _ from hcut)
  replace hbound := (show Aside _ from hbound)
  replace hloM := (show Aside _ from hloM)
  replace hhiM := (show Aside _ from hhiM)
  replace hL := (show Aside _ from hL)
  replace hH := (show Aside _ from hH)
  replace gL := (show Aside _ from gL)
  replace gH := (show Aside _ from gH)
  replace hm1 := (show Aside _ from hm1)
  replace hm2 := (show Aside _ from hm2)
  replace hdone := (show Aside _ from hdone)
  replace hcs := (show Aside _ from hcs)
  replace hless := (show Aside _ from hless)
  replace hmore := (show Aside _ from hmore)
  replace hmid := (show Aside _ from hmid)
  replace hnn := (show Aside _ from hnn)
  replace hp := (show Aside _ from hp)
  replace wlo := (show Aside _ from wlo)
  replace hge := (show Aside _ from hge)
  refine seq_go ?_
  refine seq_go ?_
  (repeat' first
    | simp (contextual := true) (maxSteps := 4000000) only [fwc, fwe, fww, reduceIte, ↓reduceIte, Nat.reduceAdd, Nat.reduceLeDiff, Nat.reduceEqDiff, Nat.reduceLT, Nat.reduceSub, reduceCtorEq, Int.reduceEq, Int.reduceLT, Int.reduceLE, Int.reduceNeg, Int.reduceToNat, Int.reduceAdd, Int.reduceSub, Nat.reduceMul, *]
    | (refine retK_now ?_)
    | (refine retK_now' ?_)
    | (intro q hq)
    | (refine cond_intro (fun hc => ?_) (fun hc => ?_)))
  refine seqK_now ?_
  (repeat' first
    | simp (contextual := true) (maxSteps := 4000000) only [fwc, fwe, fww, reduceIte, ↓reduceIte, Nat.reduceAdd, Nat.reduceLeDiff, Nat.reduceEqDiff, Nat.reduceLT, Nat.reduceSub, reduceCtorEq, Int.reduceEq, Int.reduceLT, Int.reduceLE, Int.reduceNeg, Int.reduceToNat, Int.reduceAdd, Int.reduceSub, Nat.reduceMul, *]
    | (refine retK_now ?_)
    | (refine retK_now' ?_)
    | (intro q hq)
    | (refine cond_intro (fun hc => ?_) (fun hc => ?_)))
  refine seqK_now ?_
  refine seq_go ?_
  refine seq_go ?_
  (repeat' first
    | simp (contextual := true) (maxSteps := 4000000) only [fwc, fwe, fww, reduceIte, ↓reduceIte, Nat.reduceAdd, Nat.reduceLeDiff, Nat.reduceEqDiff, Nat.reduceLT, Nat.reduceSub, reduceCtorEq, Int.reduceEq, Int.reduceLT, Int.reduceLE, Int.reduceNeg, Int.reduceToNat, Int.reduceAdd, Int.reduceSub, Nat.reduceMul, *]
    | (refine retK_now ?_)
    | (refine retK_now' ?_)
    | (intro q hq)
    | (refine cond_intro (fun hc => ?_) (fun hc => ?_)))
  refine seqK_now ?_
  (repeat' first
    | simp (contextual := true) (maxSteps := 4000000) only [fwc, fwe, fww, reduceIte, ↓reduceIte, Nat.reduceAdd, Nat.reduceLeDiff, Nat.reduceEqDiff, Nat.reduceLT, Nat.reduceSub, reduceCtorEq, Int.reduceEq, Int.reduceLT, Int.reduceLE, Int.reduceNeg, Int.reduceToNat, Int.reduceAdd, Int.reduceSub, Nat.reduceMul, *]
    | (refine retK_now ?_)
    | (refine retK_now' ?_)
    | (intro q hq)
    | (refine cond_intro (fun hc => ?_) (fun hc => ?_)))
  refine seqK_now ?_
  refine seq_go ?_
  (repeat' first
    | simp (contextual := true) (maxSteps := 4000000) only [fwc, fwe, fww, reduceIte, ↓reduceIte, Nat.reduceAdd, Nat.reduceLeDiff, Nat.reduceEqDiff, Nat.reduceLT, Nat.reduceSub, reduceCtorEq, Int.reduceEq, Int.reduceLT, Int.reduceLE, Int.reduceNeg, Int.reduceToNat, Int.reduceAdd, Int.reduceSub, Nat.reduceMul, *]
    | (refine retK_now ?_)
    | (refine retK_now' ?_)
    | (intro q hq)
    | (refine cond_intro (fun hc => ?_) (fun hc => ?_)))
  refine seqK_now ?_
  refine seq_go ?_
  (repeat' first
    | simp (contextual := true) (maxSteps := 4000000) only [fwc, fwe, fww, reduceIte, ↓reduceIte, Nat.reduceAdd, Nat.reduceLeDiff, Nat.reduceEqDiff, Nat.reduceLT, Nat.reduceSub, reduceCtorEq, Int.reduceEq, Int.reduceLT, Int.reduceLE, Int.reduceNeg, Int.reduceToNat, Int.reduceAdd, Int.reduceSub, Nat.reduceMul, *]
    | (refine retK_now ?_)
    | (refine retK_now' ?_)
    | (intro q hq)
    | (refine cond_intro (fun hc => ?_) (fun hc => ?_)))
  refine seqK_now ?_
  refine seq_go ?_
  (repeat' first
    | simp (contextual := true) (maxSteps := 4000000) only [fwc, fwe, fww, reduceIte, ↓reduceIte, Nat.reduceAdd, Nat.reduceLeDiff, Nat.reduceEqDiff, Nat.reduceLT, Nat.reduceSub, reduceCtorEq, Int.reduceEq, Int.reduceLT, Int.reduceLE, Int.reduceNeg, Int.reduceToNat, Int.reduceAdd, Int.reduceSub, Nat.reduceMul, *]
    | (refine retK_now ?_)
    | (refine retK_now' ?_)
    | (intro q hq)
    | (refine cond_intro (fun hc => ?_) (fun hc => ?_)))
  refine seqK_now ?_
  clear wab wu wh hd wma d10 wbm d11 wnn
  refine seq_post (fun e1 O1 => O1 = stH O id L R ∧ e1 = env59h (oS id n c) a m b (.clo (.func 38) [] []) mid nn lo0 hi0) ?_ ?_
  rotate_left
  · intro G hG
    replace hG := (show Aside _ from hG)
    by_cases hc : mid < m
    · have e0 : decide (mid < m) = true := decide_eq_true hc
      have wl := wlo.out hc
      have ge := gH.out hc
      replace hc := (show Aside _ from hc)
      replace ge := (show Aside _ from ge)
      (repeat' first
    | simp (contextual := true) (maxSteps := 4000000) only [fwc, fwe, fww, reduceIte, ↓reduceIte, Nat.reduceAdd, Nat.reduceLeDiff, Nat.reduceEqDiff, Nat.reduceLT, Nat.reduceSub, reduceCtorEq, Int.reduceEq, Int.reduceLT, Int.reduceLE, Int.reduceNeg, Int.reduceToNat, Int.reduceAdd, Int.reduceSub, Nat.reduceMul, *]
    | (refine seqK_now ?_)
    | (refine retK_now ?_)
    | (refine retK_now' ?_)
    | (intro q hq)
    | (refine cond_intro (fun hc => ?_) (fun hc => ?_)))
      exact hG.out _ _ ⟨rfl, by rw [ge.out]; rfl⟩
    · have e0 : decide (mid < m) = false := decide_eq_false hc
      have he := hL.out hc
      have ge := gL.out hc
      replace hc := (show Aside _ from hc)
      replace ge := (show Aside _ from ge)
      replace he := (show Aside _ from he)
      (repeat' first
    | simp (contextual := true) (maxSteps := 4000000) only [fwc, fwe, fww, reduceIte, ↓reduceIte, Nat.reduceAdd, Nat.reduceLeDiff, Nat.reduceEqDiff, Nat.reduceLT, Nat.reduceSub, reduceCtorEq, Int.reduceEq, Int.reduceLT, Int.reduceLE, Int.reduceNeg, Int.reduceToNat, Int.reduceAdd, Int.reduceSub, Nat.reduceMul, *]
    | (refine seqK_now ?_)
    | (refine retK_now ?_)
    | (refine retK_now' ?_)
    | (intro q hq)
    | (refine cond_intro (fun hc => ?_) (fun hc => ?_)))
      exact hG.out _ _ ⟨rfl, by rw [ge.out, he.out]; rfl⟩
  intro e1 O1 hQ
  obtain ⟨hO1, rfl⟩ := hQ
  rw [hO1]
  clear hO1 O1 dmm wlo hL hH gL gH
  unfold env59h
  obtain ⟨I, hI⟩ := hideI (fun t e O' => ∃ (s r : Nat), t = r - s ∧ Sea L a m b s r ∧ O' = stH O id L R ∧ e = env59e (oS id n c) a m b (.clo (.func 38) [] []) mid nn s r p)
  (repeat' first
    | simp (contextual := true) (maxSteps := 4000000) only [fwc, fwe, fww, reduceIte, ↓reduceIte, Nat.reduceAdd, Nat.reduceLeDiff, Nat.reduceEqDiff, Nat.reduceLT, Nat.reduceSub, reduceCtorEq, Int.reduceEq, Int.reduceLT, Int.reduceLE, Int.reduceNeg, Int.reduceToNat, Int.reduceAdd, Int.reduceSub, Nat.reduceMul, *]
    | (refine seqK_now ?_)
    | (refine retK_now ?_)
    | (refine retK_now' ?_)
    | (intro q hq)
    | (refine cond_intro (fun hc => ?_) (fun hc => ?_)))
  refine cmd_loop I (hi0 - lo0) (by
    rw [hI.out]
    exact ⟨lo0, hi0, rfl, hsea.out, rfl, rfl⟩) ?_
  clear wp hsea
  intro t e O' hh
  rw [hI.out] at hh
  obtain ⟨s, r, rfl, hsea, hOH, rfl⟩ := hh
  rw [hOH]
  clear hOH O'
  unfold env59e
  obtain ⟨q1, q2, q3, q4, q5⟩ := hbound.out s r hsea
  have q6 := hmid.out s r hsea
  have dsr : decide ((s : Int) < (r : Int)) = decide (s < r) := decide_eq_decide.2 (by omega)
  have hn2q := hn2.out
  have hbq := hb.out
  have hmbq := hmb.out
  have hnnq := hnn.out
  have hpq := hp.out
  have hm1q := hm1.out
  have hm2q := hm2.out
  by_cases hc : s < r
  · have e0 : decide (s < r) = true := decide_eq_true hc
    have wij : IntKind.i64.wrap ((s : Int) + (r : Int)) = ((s + r : Nat) : Int) := by rw [wrap_i64 (by omega) (by omega)]; omega
    have wu : IntKind.u64.wrap ((s + r : Nat) : Int) = ((s + r : Nat) : Int) := wrap_u64n (by omega)
    have wh : IntKind.i64.wrap (((s + r) / 2 : Nat) : Int) = (((s + r) / 2 : Nat) : Int) := by rw [wrap_i64 (by omega) (by omega)]
    have hd := fdivH (s + r)
    have hh1 : s ≤ (s + r) / 2 := by omega
    have hh2 : (s + r) / 2 < r := by omega
    generalize (s + r) / 2 = h at *
    generalize s + r = ij at *
    have hl := hn.out
    obtain ⟨u, hu⟩ : ∃ u, p - h = u := ⟨_, rfl⟩
    have wph : IntKind.i64.wrap ((p : Int) - (h : Int)) = (u : Int) := by rw [wrap_i64 (by omega) (by omega)]; omega
    have a1 : indexAddrA 5 (h : Int) (.own id 5 0 n c) = some (.optr id 5 h 0) := by rw [ia_onat (by omega), Nat.zero_add]
    have a2 : indexAddrA 5 (u : Int) (.own id 5 0 n c) = some (.optr id 5 u 0) := by rw [ia_onat (by omega), Nat.zero_add]
    have g1 : (arE L R)[h]? = some (gt L h).av := arE_get (by omega)
    have g2 : (arE L R)[u]? = some (gt L u).av := arE_get (by omega)
    have hcmp := cmp_ok (gt L u) (gt L h)
    have hneg := cmpL_neg (gt L u).spot (gt L h).spot
    have hwh : h < 4611686018427387904 := by omega
    have hue : mid + m - 1 - h = u := by omega
    have hI1 : ¬ (gt L u).spot < (gt L h).spot → I (r - (h + 1)) (env59e (oS id n c) a m b (.clo (.func 38) [] []) mid nn (h + 1) r p) (stH O id L R) := fun hx => by
      rw [hI.out]
      exact ⟨h + 1, r, rfl, hless.out s r h hsea hh1 hh2 (by rw [hue]; exact hx), rfl, rfl⟩
    have hI2 : (gt L u).spot < (gt L h).spot → I (h - s) (env59e (oS id n c) a m b (.clo (.func 38) [] []) mid nn s h p) (stH O id L R) := fun hx => by
      rw [hI.out]
      exact ⟨s, h, rfl, hmore.out s r h hsea hh1 hh2 (by rw [hue]; exact hx), rfl, rfl⟩
    generalize gt L h = y at *
    generalize gt L u = x at *
    unfold stH oS at *
    rw [show y.av = .agg [.val (.int .u8 y.id.y), .val (.int .i64 y.id.n), .val (.int .u8 y.bed), .val (.int .i64 y.at_), .val (.int .i64 y.spot)] from rfl] at g1 hcmp
    rw [show x.av = .agg [.val (.int .u8 x.id.y), .val (.int .i64 x.id.n), .val (.int .u8 x.bed), .val (.int .i64 x.at_), .val (.int .i64 x.spot)] from rfl] at g2 hcmp
    generalize arE L R = E at *
    replace hsea := (show Aside _ from hsea)
    replace hh1 := (show Aside _ from hh1)
    replace hh2 := (show Aside _ from hh2)
    replace hc := (show Aside _ from hc)
    replace hl := (show Aside _ from hl)
    replace hI1 := (show Aside _ from hI1)
    replace hI2 := (show Aside _ from hI2)
    replace hbq := (show Aside _ from hbq)
    replace hn2q := (show Aside _ from hn2q)
    replace hmbq := (show Aside _ from hmbq)
    replace hnnq := (show Aside _ from hnnq)
    replace hpq := (show Aside _ from hpq)
    replace hm1q := (show Aside _ from hm1q)
    replace hm2q := (show Aside _ from hm2q)
    replace hu := (show Aside _ from hu)
    replace hue := (show Aside _ from hue)
    replace q1 := (show Aside _ from q1)
    replace q2 := (show Aside _ from q2)
    replace q3 := (show Aside _ from q3)
    replace q4 := (show Aside _ from q4)
    replace q5 := (show Aside _ from q5)
    replace q6 := (show Aside _ from q6)
    by_cases hlt : x.spot < y.spot
    · have e2 : decide (x.spot < y.spot) = true := decide_eq_true hlt
      have hx := hI2.out hlt
      replace hx := (show Aside _ from hx)
      replace hlt := (show Aside _ from hlt)
      (repeat' first
    | simp (contextual := true) (maxSteps := 4000000) only [fwc, fwe, fww, reduceIte, ↓reduceIte, Nat.reduceAdd, Nat.reduceLeDiff, Nat.reduceEqDiff, Nat.reduceLT, Nat.reduceSub, reduceCtorEq, Int.reduceEq, Int.reduceLT, Int.reduceLE, Int.reduceNeg, Int.reduceToNat, Int.reduceAdd, Int.reduceSub, Nat.reduceMul, wrap_succ, part_cell, part_agg, drawW_cv, drawW_gcv, guardW_t, guardW_f, callvF_clo, fdivH, *]
    | (refine seqK_now ?_)
    | (refine retK_now ?_)
    | (refine retK_now' ?_)
    | (intro q hq)
    | (refine cond_intro (fun hc => ?_) (fun hc => ?_)))
      refine callF_use hcmp ?_
      (repeat' first
    | simp (contextual := true) (maxSteps := 4000000) only [fwc, fwe, fww, reduceIte, ↓reduceIte, Nat.reduceAdd, Nat.reduceLeDiff, Nat.reduceEqDiff, Nat.reduceLT, Nat.reduceSub, reduceCtorEq, Int.reduceEq, Int.reduceLT, Int.reduceLE, Int.reduceNeg, Int.reduceToNat, Int.reduceAdd, Int.reduceSub, Nat.reduceMul, wrap_succ, part_cell, part_agg, drawW_cv, drawW_gcv, guardW_t, guardW_f, callvF_clo, fdivH, *]
    | (refine seqK_now ?_)
    | (refine retK_now ?_)
    | (refine retK_now' ?_)
    | (intro q hq)
    | (refine cond_intro (fun hc => ?_) (fun hc => ?_)))
      refine loopK_now (h - s) (by have := hh1.out; have := hh2.out; omega) ?_
      exact hx.out
    · have e2 : decide (x.spot < y.spot) = false := decide_eq_false hlt
      have hx := hI1.out hlt
      replace hx := (show Aside _ from hx)
      replace hlt := (show Aside _ from hlt)
      (repeat' first
    | simp (contextual := true) (maxSteps := 4000000) only [fwc, fwe, fww, reduceIte, ↓reduceIte, Nat.reduceAdd, Nat.reduceLeDiff, Nat.reduceEqDiff, Nat.reduceLT, Nat.reduceSub, reduceCtorEq, Int.reduceEq, Int.reduceLT, Int.reduceLE, Int.reduceNeg, Int.reduceToNat, Int.reduceAdd, Int.reduceSub, Nat.reduceMul, wrap_succ, part_cell, part_agg, drawW_cv, drawW_gcv, guardW_t, guardW_f, callvF_clo, fdivH, *]
    | (refine seqK_now ?_)
    | (refine retK_now ?_)
    | (refine retK_now' ?_)
    | (intro q hq)
    | (refine cond_intro (fun hc => ?_) (fun hc => ?_)))
      refine callF_use hcmp ?_
      (repeat' first
    | simp (contextual := true) (maxSteps := 4000000) only [fwc, fwe, fww, reduceIte, ↓reduceIte, Nat.reduceAdd, Nat.reduceLeDiff, Nat.reduceEqDiff, Nat.reduceLT, Nat.reduceSub, reduceCtorEq, Int.reduceEq, Int.reduceLT, Int.reduceLE, Int.reduceNeg, Int.reduceToNat, Int.reduceAdd, Int.reduceSub, Nat.reduceMul, wrap_succ, part_cell, part_agg, drawW_cv, drawW_gcv, guardW_t, guardW_f, callvF_clo, fdivH, *]
    | (refine seqK_now ?_)
    | (refine retK_now ?_)
    | (refine retK_now' ?_)
    | (intro q hq)
    | (refine cond_intro (fun hc => ?_) (fun hc => ?_)))
      refine loopK_now (r - (h + 1)) (by have := hh1.out; have := hh2.out; omega) ?_
      exact hx.out
  have e0 : decide (s < r) = false := decide_eq_false hc
  obtain rfl : s = r := by omega
  obtain ⟨en, hen⟩ : ∃ en, nn - s = en := ⟨_, rfl⟩
  have wen : IntKind.i64.wrap ((nn : Int) - (s : Int)) = (en : Int) := by rw [wrap_i64 (by omega) (by omega)]; omega
  have hene : mid + m - s = en := by omega
  have hcut2 := fun M => hcut.out s M hsea
  have hcs2 := fun M => hcs.out M s
  rw [hene] at hcut2 hcs2 q4 q5
  have dsm : decide ((s : Int) < (m : Int)) = decide (s < m) := decide_eq_decide.2 (by omega)
  have dme : decide ((m : Int) < (en : Int)) = decide (m < en) := decide_eq_decide.2 (by omega)
  have das : decide ((a : Int) < (s : Int)) = decide (a < s) := decide_eq_decide.2 (by omega)
  have dsd : decide ((s : Int) < (mid : Int)) = decide (s < mid) := decide_eq_decide.2 (by omega)
  have dde : decide ((mid : Int) < (en : Int)) = decide (mid < en) := decide_eq_decide.2 (by omega)
  have deb : decide ((en : Int) < (b : Int)) = decide (en < b) := decide_eq_decide.2 (by omega)
  replace hsea := (show Aside _ from hsea)
  replace hc := (show Aside _ from hc)
  replace hbq := (show Aside _ from hbq)
  replace hn2q := (show Aside _ from hn2q)
  replace hmbq := (show Aside _ from hmbq)
  replace hnnq := (show Aside _ from hnnq)
  replace hpq := (show Aside _ from hpq)
  replace hm1q := (show Aside _ from hm1q)
  replace hm2q := (show Aside _ from hm2q)
  replace q1 := (show Aside _ from q1)
  replace q2 := (show Aside _ from q2)
  replace q3 := (show Aside _ from q3)
  replace q4 := (show Aside _ from q4)
  replace q5 := (show Aside _ from q5)
  replace q6 := (show Aside _ from q6)
  replace hen := (show Aside _ from hen)
  replace hene := (show Aside _ from hene)
  replace hcut2 := (show Aside _ from hcut2)
  replace hcs2 := (show Aside _ from hcs2)
  (repeat' first
    | simp (contextual := true) (maxSteps := 4000000) only [fwc, fwe, fww, reduceIte, ↓reduceIte, Nat.reduceAdd, Nat.reduceLeDiff, Nat.reduceEqDiff, Nat.reduceLT, Nat.reduceSub, reduceCtorEq, Int.reduceEq, Int.reduceLT, Int.reduceLE, Int.reduceNeg, Int.reduceToNat, Int.reduceAdd, Int.reduceSub, Nat.reduceMul, *]
    | (refine retK_now ?_)
    | (refine retK_now' ?_)
    | (intro q hq)
    | (refine cond_intro (fun hc => ?_) (fun hc => ?_)))
  refine seqK_now ?_
  (repeat' first
    | simp (contextual := true) (maxSteps := 4000000) only [fwc, fwe, fww, reduceIte, ↓reduceIte, Nat.reduceAdd, Nat.reduceLeDiff, Nat.reduceEqDiff, Nat.reduceLT, Nat.reduceSub, reduceCtorEq, Int.reduceEq, Int.reduceLT, Int.reduceLE, Int.reduceNeg, Int.reduceToNat, Int.reduceAdd, Int.reduceSub, Nat.reduceMul, *]
    | (refine retK_now ?_)
    | (refine retK_now' ?_)
    | (intro q hq)
    | (refine cond_intro (fun hc => ?_) (fun hc => ?_)))
  refine seqK_now ?_
  refine seq_go ?_
  (repeat' first
    | simp (contextual := true) (maxSteps := 4000000) only [fwc, fwe, fww, reduceIte, ↓reduceIte, Nat.reduceAdd, Nat.reduceLeDiff, Nat.reduceEqDiff, Nat.reduceLT, Nat.reduceSub, reduceCtorEq, Int.reduceEq, Int.reduceLT, Int.reduceLE, Int.reduceNeg, Int.reduceToNat, Int.reduceAdd, Int.reduceSub, Nat.reduceMul, *]
    | (refine retK_now ?_)
    | (refine retK_now' ?_)
    | (intro q hq)
    | (refine cond_intro (fun hc => ?_) (fun hc => ?_)))
  refine seqK_now ?_
  refine seq_post (fun e1 O1 => ∃ M, RotP L M s m en ∧ O1 = stH O id M R ∧ e1 = env59f (oS id n c) a b (.clo (.func 38) [] []) mid s en) ?_ ?_
  rotate_left
  · intro G hG
    replace hG := (show Aside _ from hG)
    by_cases c1 : s < m
    · have f1 : decide (s < m) = true := decide_eq_true c1
      by_cases c2 : m < en
      · have f2 : decide (m < en) = true := decide_eq_true c2
        replace c1 := (show Aside _ from c1)
        replace c2 := (show Aside _ from c2)
        (repeat' first
    | simp (contextual := true) (maxSteps := 4000000) only [fwc, fwe, fww, reduceIte, ↓reduceIte, Nat.reduceAdd, Nat.reduceLeDiff, Nat.reduceEqDiff, Nat.reduceLT, Nat.reduceSub, reduceCtorEq, Int.reduceEq, Int.reduceLT, Int.reduceLE, Int.reduceNeg, Int.reduceToNat, Int.reduceAdd, Int.reduceSub, Nat.reduceMul, *]
    | (refine seqK_now ?_)
    | (refine retK_now ?_)
    | (refine retK_now' ?_)
    | (intro q hq)
    | (refine cond_intro (fun hc => ?_) (fun hc => ?_)))
        refine Rot_ok id n c R O L hn.out hn2.out s m en c1.out c2.out (by have := q4.out; have := hb.out; omega) _ fun M r hM => ?_
        replace hM := (show Aside _ from hM)
        (repeat' first
    | simp (contextual := true) (maxSteps := 4000000) only [fwc, fwe, fww, reduceIte, ↓reduceIte, Nat.reduceAdd, Nat.reduceLeDiff, Nat.reduceEqDiff, Nat.reduceLT, Nat.reduceSub, reduceCtorEq, Int.reduceEq, Int.reduceLT, Int.reduceLE, Int.reduceNeg, Int.reduceToNat, Int.reduceAdd, Int.reduceSub, Nat.reduceMul, *]
    | (refine seqK_now ?_)
    | (refine retK_now ?_)
    | (refine retK_now' ?_)
    | (intro q hq)
    | (refine cond_intro (fun hc => ?_) (fun hc => ?_)))
        exact hG.out _ _ ⟨M, hM.out, rfl, rfl⟩
      · have f2 : decide (m < en) = false := decide_eq_false c2
        have c3 : m = en := by have := q5.out; omega
        replace c1 := (show Aside _ from c1)
        replace c2 := (show Aside _ from c2)
        replace c3 := (show Aside _ from c3)
        (repeat' first
    | simp (contextual := true) (maxSteps := 4000000) only [fwc, fwe, fww, reduceIte, ↓reduceIte, Nat.reduceAdd, Nat.reduceLeDiff, Nat.reduceEqDiff, Nat.reduceLT, Nat.reduceSub, reduceCtorEq, Int.reduceEq, Int.reduceLT, Int.reduceLE, Int.reduceNeg, Int.reduceToNat, Int.reduceAdd, Int.reduceSub, Nat.reduceMul, *]
    | (refine seqK_now ?_)
    | (refine retK_now ?_)
    | (refine retK_now' ?_)
    | (intro q hq)
    | (refine cond_intro (fun hc => ?_) (fun hc => ?_)))
        exact hG.out _ _ ⟨L, RotP.triv (.inr c3.out) q2.out q5.out, rfl, rfl⟩
    · have f1 : decide (s < m) = false := decide_eq_false c1
      have c3 : s = m := by have := q2.out; omega
      replace c1 := (show Aside _ from c1)
      replace c3 := (show Aside _ from c3)
      (repeat' first
    | simp (contextual := true) (maxSteps := 4000000) only [fwc, fwe, fww, reduceIte, ↓reduceIte, Nat.reduceAdd, Nat.reduceLeDiff, Nat.reduceEqDiff, Nat.reduceLT, Nat.reduceSub, reduceCtorEq, Int.reduceEq, Int.reduceLT, Int.reduceLE, Int.reduceNeg, Int.reduceToNat, Int.reduceAdd, Int.reduceSub, Nat.reduceMul, *]
    | (refine seqK_now ?_)
    | (refine retK_now ?_)
    | (refine retK_now' ?_)
    | (intro q hq)
    | (refine cond_intro (fun hc => ?_) (fun hc => ?_)))
      exact hG.out _ _ ⟨L, RotP.triv (.inl c3.out) q2.out q5.out, rfl, rfl⟩
  clear wen
  intro e1 O1 hQ
  obtain ⟨M, hrot, hO1, rfl⟩ := hQ
  rw [hO1]
  clear hO1 O1
  have hC := hcut2.out M hrot
  obtain ⟨Ml, M1, M2, M3, M4⟩ := hcs2.out M hC
  unfold env59f
  replace hrot := (show Aside _ from hrot)
  replace hC := (show Aside _ from hC)
  replace Ml := (show Aside _ from Ml)
  replace M1 := (show Aside _ from M1)
  replace M2 := (show Aside _ from M2)
  replace M3 := (show Aside _ from M3)
  replace M4 := (show Aside _ from M4)
  refine seq_post (fun e1 O1 => ∃ N, Keeps M N a mid ∧ Srt N a mid ∧ O1 = stH O id N R ∧ e1 = env59g (oS id n c) b (.clo (.func 38) [] []) mid en) ?_ ?_
  rotate_left
  · intro G hG
    replace hG := (show Aside _ from hG)
    by_cases c1 : a < s
    · have f1 : decide (a < s) = true := decide_eq_true c1
      by_cases c2 : s < mid
      · have f2 : decide (s < mid) = true := decide_eq_true c2
        replace c1 := (show Aside _ from c1)
        replace c2 := (show Aside _ from c2)
        (repeat' first
    | simp (contextual := true) (maxSteps := 4000000) only [fwc, fwe, fww, reduceIte, ↓reduceIte, Nat.reduceAdd, Nat.reduceLeDiff, Nat.reduceEqDiff, Nat.reduceLT, Nat.reduceSub, reduceCtorEq, Int.reduceEq, Int.reduceLT, Int.reduceLE, Int.reduceNeg, Int.reduceToNat, Int.reduceAdd, Int.reduceSub, Nat.reduceMul, *]
    | (refine seqK_now ?_)
    | (refine retK_now ?_)
    | (refine retK_now' ?_)
    | (intro q hq)
    | (refine cond_intro (fun hc => ?_) (fun hc => ?_)))
        refine ih.out M a s mid Ml.out c1.out c2.out (by have := hm2.out; have := hb.out; omega) M1.out M2.out (by have := hm2.out; have := hm1.out; omega) _ fun N r hN hs => ?_
        replace hN := (show Aside _ from hN)
        replace hs := (show Aside _ from hs)
        (repeat' first
    | simp (contextual := true) (maxSteps := 4000000) only [fwc, fwe, fww, reduceIte, ↓reduceIte, Nat.reduceAdd, Nat.reduceLeDiff, Nat.reduceEqDiff, Nat.reduceLT, Nat.reduceSub, reduceCtorEq, Int.reduceEq, Int.reduceLT, Int.reduceLE, Int.reduceNeg, Int.reduceToNat, Int.reduceAdd, Int.reduceSub, Nat.reduceMul, *]
    | (refine seqK_now ?_)
    | (refine retK_now ?_)
    | (refine retK_now' ?_)
    | (intro q hq)
    | (refine cond_intro (fun hc => ?_) (fun hc => ?_)))
        exact hG.out _ _ ⟨N, hN.out, hs.out, rfl, rfl⟩
      · have f2 : decide (s < mid) = false := decide_eq_false c2
        have c3 : s = mid := by have := q3.out; omega
        replace c1 := (show Aside _ from c1)
        replace c2 := (show Aside _ from c2)
        replace c3 := (show Aside _ from c3)
        (repeat' first
    | simp (contextual := true) (maxSteps := 4000000) only [fwc, fwe, fww, reduceIte, ↓reduceIte, Nat.reduceAdd, Nat.reduceLeDiff, Nat.reduceEqDiff, Nat.reduceLT, Nat.reduceSub, reduceCtorEq, Int.reduceEq, Int.reduceLT, Int.reduceLE, Int.reduceNeg, Int.reduceToNat, Int.reduceAdd, Int.reduceSub, Nat.reduceMul, *]
    | (refine seqK_now ?_)
    | (refine retK_now ?_)
    | (refine retK_now' ?_)
    | (intro q hq)
    | (refine cond_intro (fun hc => ?_) (fun hc => ?_)))
        exact hG.out _ _ ⟨M, Keeps.refl _ _ _, by rw [← c3.out]; exact M1.out, rfl, rfl⟩
    · have f1 : decide (a < s) = false := decide_eq_false c1
      have c3 : s = a := by have := q1.out; omega
      replace c1 := (show Aside _ from c1)
      replace c3 := (show Aside _ from c3)
      (repeat' first
    | simp (contextual := true) (maxSteps := 4000000) only [fwc, fwe, fww, reduceIte, ↓reduceIte, Nat.reduceAdd, Nat.reduceLeDiff, Nat.reduceEqDiff, Nat.reduceLT, Nat.reduceSub, reduceCtorEq, Int.reduceEq, Int.reduceLT, Int.reduceLE, Int.reduceNeg, Int.reduceToNat, Int.reduceAdd, Int.reduceSub, Nat.reduceMul, *]
    | (refine seqK_now ?_)
    | (refine retK_now ?_)
    | (refine retK_now' ?_)
    | (intro q hq)
    | (refine cond_intro (fun hc => ?_) (fun hc => ?_)))
      exact hG.out _ _ ⟨M, Keeps.refl _ _ _, by have := M2.out; rw [c3.out] at this; exact this, rfl, rfl⟩
  intro e1 O1 hQ
  obtain ⟨N, hN, hNs, hO1, rfl⟩ := hQ
  rw [hO1]
  clear hO1 O1
  have N3 : Srt N mid en := Srt.same M3.out fun i i1 i2 => hN.out i (.inr i1)
  have N4 : Srt N en b := Srt.same M4.out fun i i1 i2 => hN.out i (.inr (by
    have := hene.out
    have := q2.out
    omega))
  have Nl : N.length = n := hN.len.trans Ml.out
  unfold env59g
  replace hN := (show Aside _ from hN)
  replace hNs := (show Aside _ from hNs)
  replace N3 := (show Aside _ from N3)
  replace N4 := (show Aside _ from N4)
  replace Nl := (show Aside _ from Nl)
  by_cases c1 : mid < en
  · have f1 : decide (mid < en) = true := decide_eq_true c1
    by_cases c2 : en < b
    · have f2 : decide (en < b) = true := decide_eq_true c2
      replace c1 := (show Aside _ from c1)
      replace c2 := (show Aside _ from c2)
      (repeat' first
    | simp (contextual := true) (maxSteps := 4000000) only [fwc, fwe, fww, reduceIte, ↓reduceIte, Nat.reduceAdd, Nat.reduceLeDiff, Nat.reduceEqDiff, Nat.reduceLT, Nat.reduceSub, reduceCtorEq, Int.reduceEq, Int.reduceLT, Int.reduceLE, Int.reduceNeg, Int.reduceToNat, Int.reduceAdd, Int.reduceSub, Nat.reduceMul, *]
    | (refine seqK_now ?_)
    | (refine retK_now ?_)
    | (refine retK_now' ?_)
    | (intro q hq)
    | (refine cond_intro (fun hc => ?_) (fun hc => ?_)))
      refine ih.out N mid en b Nl.out c1.out c2.out hb.out N3.out N4.out (by have := hm2.out; have := hm1.out; omega) _ fun T r hT hs => ?_
      have hfin := hdone.out M N T s en hC.out hN.out hNs.out hT hs
      replace hT := (show Aside _ from hT)
      replace hs := (show Aside _ from hs)
      replace hfin := (show Aside _ from hfin)
      (repeat' first
    | simp (contextual := true) (maxSteps := 4000000) only [fwc, fwe, fww, reduceIte, ↓reduceIte, Nat.reduceAdd, Nat.reduceLeDiff, Nat.reduceEqDiff, Nat.reduceLT, Nat.reduceSub, reduceCtorEq, Int.reduceEq, Int.reduceLT, Int.reduceLE, Int.reduceNeg, Int.reduceToNat, Int.reduceAdd, Int.reduceSub, Nat.reduceMul, *]
    | (refine seqK_now ?_)
    | (refine retK_now ?_)
    | (refine retK_now' ?_)
    | (intro q hq)
    | (refine cond_intro (fun hc => ?_) (fun hc => ?_)))
      exact WeakR.now (hk _ _ hfin.out.2 hfin.out.1)
    · have f2 : decide (en < b) = false := decide_eq_false c2
      have c3 : en = b := by have := q4.out; omega
      have hfin := hdone.out M N N s en hC.out hN.out hNs.out (Keeps.refl _ _ _) (by have := N3.out; rw [c3] at this; exact this)
      replace c1 := (show Aside _ from c1)
      replace c2 := (show Aside _ from c2)
      replace c3 := (show Aside _ from c3)
      replace hfin := (show Aside _ from hfin)
      (repeat' first
    | simp (contextual := true) (maxSteps := 4000000) only [fwc, fwe, fww, reduceIte, ↓reduceIte, Nat.reduceAdd, Nat.reduceLeDiff, Nat.reduceEqDiff, Nat.reduceLT, Nat.reduceSub, reduceCtorEq, Int.reduceEq, Int.reduceLT, Int.reduceLE, Int.reduceNeg, Int.reduceToNat, Int.reduceAdd, Int.reduceSub, Nat.reduceMul, *]
    | (refine seqK_now ?_)
    | (refine retK_now ?_)
    | (refine retK_now' ?_)
    | (intro q hq)
    | (refine cond_intro (fun hc => ?_) (fun hc => ?_)))
      exact WeakR.now (hk _ _ hfin.out.2 hfin.out.1)
  · have f1 : decide (mid < en) = false := decide_eq_false c1
    have c3 : en = mid := by have := hene.out; have := q2.out; omega
    have hfin := hdone.out M N N s en hC.out hN.out hNs.out (Keeps.refl _ _ _) (by have := N4.out; rw [c3] at this; exact this)
    replace c1 := (show Aside _ from c1)
    replace c3 := (show Aside _ from c3)
    replace hfin := (show Aside _ from hfin)
    (repeat' first
    | simp (contextual := true) (maxSteps := 4000000) only [fwc, fwe, fww, reduceIte, ↓reduceIte, Nat.reduceAdd, Nat.reduceLeDiff, Nat.reduceEqDiff, Nat.reduceLT, Nat.reduceSub, reduceCtorEq, Int.reduceEq, Int.reduceLT, Int.reduceLE, Int.reduceNeg, Int.reduceToNat, Int.reduceAdd, Int.reduceSub, Nat.reduceMul, *]
    | (refine seqK_now ?_)
    | (refine retK_now ?_)
    | (refine retK_now' ?_)
    | (intro q hq)
    | (refine cond_intro (fun hc => ?_) (fun hc => ?_)))
    exact WeakR.now (hk _ _ hfin.out.2 hfin.out.1)

theorem Sym_ok (id n : Nat) (c : Option Nat) (R : List AV) (O : Heap) (hn2 : n ≤ 100000) : ∀ (d : Nat) (L : List Hd) (a m b : Nat), L.length = n → a < m → m < b → b ≤ n → Srt L a m → Srt L m b → b - a < d → ∀ K : AV → Heap → Prop, (∀ M r, Keeps L M a b → Srt M a b → K r (stH O id M R)) → CallA Try.prog 59 [oS id n c, .val (.int .i64 a), .val (.int .i64 m), .val (.int .i64 b), .clo (.func 38) [] []] (stH O id L R) K
  | 0, _, _, _, _, _, _, _, _, _, _, h, _, _ => by omega
  | d + 1, L, a, m, b, hn, ham, hmb, hb, hs1, hs2, hd, K, hk => by
    by_cases h1 : m = a + 1
    · exact Sym1_ok id n c R O hn2 L hn a m b ham hmb hb hs1 hs2 h1 K hk
    · by_cases h2 : b = m + 1
      · exact Sym2_ok id n c R O hn2 L hn a m b ham hmb hb hs1 hs2 (by omega) h2 K hk
      · exact Sym3_ok id n c R O hn2 L hn a m b ham hmb hb hs1 hs2 (by omega) (by omega) (fun L' a' m' b' g1 g2 g3 g4 g5 g6 g7 => Sym_ok id n c R O hn2 d L' a' m' b' g1 g2 g3 g4 g5 g6 (by omega)) K hk
end Go.Proofs.Ytembkknplmcamaa

namespace Go.Proofs.Ytembkknplmcamaa
open Go.Ab
attribute [local irreducible] WeakR WeakE CallA YieldA

/-! The stable sort. -/
def env54x (s : AV) (n : Nat) (f : AV) (bs : Int) (a b : Nat) : Env := (((((Env.upd (fun _ => .junk) 8 (.val (.int .i64 b))).upd 7 (.val (.int .i64 a))).upd 6 (.val (.int .i64 bs))).upd 2 f).upd 1 (.val (.int .i64 n))).upd 0 s
def env54y (s : AV) (n : Nat) (f : AV) (bs : Nat) : Env := (((Env.upd (fun _ => .junk) 6 (.val (.int .i64 bs))).upd 2 f).upd 1 (.val (.int .i64 n))).upd 0 s
theorem Blk.cut {L : List Hd} {s lo hi hj n : Nat} (h : Blk L s lo hi n) (hh : hj ≤ hi) : Blk L s lo hj n := fun c c1 c2 c3 => h c c1 c2 (by omega)
theorem blk_step {L M N : List Hd} {s a n : Nat} (hd : s ∣ a) (hs : 0 < s) (hK : Keeps L M 0 n) (hB : Blk M s 0 a n) {e : Nat} (he : e = min (a + s) n) (hae : a ≤ e) (hk : Keeps M N a e) (hS : Srt N a e) : Keeps L N 0 n ∧ Blk N s 0 (a + s) n := by
  subst he
  exact ⟨hK.trans (hk.wide (by omega) (by omega)), hB.more hd hs hk hS⟩
set_option maxHeartbeats 8000000 in
theorem Stable_ok (id n : Nat) (c : Option Nat) (R : List AV) (O : Heap) (hn2 : n ≤ 100000) (L : List Hd) (hn : L.length = n) (K : AV → Heap → Prop) (hk : ∀ M r, Keeps L M 0 n → Srt M 0 n → K r (stH O id M R)) :
    CallA Try.prog 54 [oS id n c, .val (.int .i64 n), .clo (.func 38) [] []] (stH O id L R) K := by
  refine k54.call mix ?_
  unfold c54
  obtain ⟨I, hI⟩ := hideI (fun t e O' => ∃ (a : Nat) (M : List Hd), 20 ∣ a ∧ a ≤ n ∧ t = n + 20 - a ∧ Keeps L M 0 n ∧ Blk M 20 0 a n ∧ O' = stH O id M R ∧ e = env54x (oS id n c) n (.clo (.func 38) [] []) 20 a (a + 20))
  replace hn := (show Aside _ from hn)
  replace hn2 := (show Aside _ from hn2)
  (repeat' first
    | simp (contextual := true) (maxSteps := 4000000) only [fwc, fwe, fww, reduceIte, ↓reduceIte, Nat.reduceAdd, Nat.reduceLeDiff, Nat.reduceEqDiff, Nat.reduceLT, Nat.reduceSub, reduceCtorEq, Int.reduceEq, Int.reduceLT, Int.reduceLE, Int.reduceNeg, Int.reduceToNat, Int.reduceAdd, Int.reduceSub, Nat.reduceMul, *]
    | (refine seqK_now ?_)
    | (refine retK_now ?_)
    | (refine retK_now' ?_)
    | (intro q hq)
    | (refine cond_intro (fun hc => ?_) (fun hc => ?_)))
  refine cmd_loop I (n + 20 - 0) (by
    rw [hI.out]
    exact ⟨0, L, Nat.dvd_zero _, Nat.zero_le _, rfl, Keeps.refl _ _ _, Blk.first, rfl, rfl⟩) ?_
  intro t e O' hh
  rw [hI.out] at hh
  obtain ⟨a, M, hda, han, rfl, hK, hB, hOH, rfl⟩ := hh
  rw [hOH]
  clear hOH O'
  unfold env54x
  have hn2q := hn2.out
  have hl : M.length = n := hK.len.trans hn.out
  have d1 : decide (((a + 20 : Nat) : Int) ≤ (n : Int)) = decide (a + 20 ≤ n) := decide_eq_decide.2 (by omega)
  have hst := fun (N : List Hd) (e : Nat) (he : e = min (a + 20) n) (h2 : a ≤ e) (hk : Keeps M N a e) (hS : Srt N a e) => blk_step hda (by omega) hK hB he h2 hk hS
  by_cases hc : a + 20 ≤ n
  · have e0 : decide (a + 20 ≤ n) = true := decide_eq_true hc
    have w20 : IntKind.i64.wrap (((a + 20 : Nat) : Int) + 20) = ((a + 20 + 20 : Nat) : Int) := by rw [wrap_i64 (by omega) (by omega)]; omega
    obtain ⟨q, hq⟩ : ∃ q, a + 20 = q := ⟨_, rfl⟩
    rw [hq] at e0 d1 w20 ⊢
    replace hda := (show Aside _ from hda)
    replace han := (show Aside _ from han)
    replace hK := (show Aside _ from hK)
    replace hB := (show Aside _ from hB)
    replace hl := (show Aside _ from hl)
    replace hst := (show Aside _ from hst)
    replace hn2q := (show Aside _ from hn2q)
    replace hc := (show Aside _ from hc)
    replace hq := (show Aside _ from hq)
    (repeat' first
    | simp (contextual := true) (maxSteps := 4000000) only [fwc, fwe, fww, reduceIte, ↓reduceIte, Nat.reduceAdd, Nat.reduceLeDiff, Nat.reduceEqDiff, Nat.reduceLT, Nat.reduceSub, reduceCtorEq, Int.reduceEq, Int.reduceLT, Int.reduceLE, Int.reduceNeg, Int.reduceToNat, Int.reduceAdd, Int.reduceSub, Nat.reduceMul, *]
    | (refine seqK_now ?_)
    | (refine retK_now ?_)
    | (refine retK_now' ?_)
    | (intro q hq)
    | (refine cond_intro (fun hc => ?_) (fun hc => ?_)))
    refine Insert_ok id n c R O M hl.out hn2.out a q han.out (by have := hc.out; have := hq.out; omega) _ fun N r hN hs => ?_
    replace hN := (show Aside _ from hN)
    replace hs := (show Aside _ from hs)
    (repeat' first
    | simp (contextual := true) (maxSteps := 4000000) only [fwc, fwe, fww, reduceIte, ↓reduceIte, Nat.reduceAdd, Nat.reduceLeDiff, Nat.reduceEqDiff, Nat.reduceLT, Nat.reduceSub, reduceCtorEq, Int.reduceEq, Int.reduceLT, Int.reduceLE, Int.reduceNeg, Int.reduceToNat, Int.reduceAdd, Int.reduceSub, Nat.reduceMul, *]
    | (refine seqK_now ?_)
    | (refine retK_now ?_)
    | (refine retK_now' ?_)
    | (intro q hq)
    | (refine cond_intro (fun hc => ?_) (fun hc => ?_)))
    have := hq.out
    have hcq := hc.out
    refine loopK_now (n + 20 - q) (by omega) ?_
    rw [hI.out]
    have hx := hst.out N q (by omega) (by omega) hN.out hs.out
    rw [this] at hx
    exact ⟨q, N, by rw [← this]; exact (Nat.dvd_add hda.out (Nat.dvd_refl 20)), by omega, rfl, hx.1, hx.2, rfl, rfl⟩
  have e0 : decide (a + 20 ≤ n) = false := decide_eq_false hc
  have hcn : n < a + 20 := by omega
  replace hda := (show Aside _ from hda)
  replace han := (show Aside _ from han)
  replace hK := (show Aside _ from hK)
  replace hB := (show Aside _ from hB)
  replace hl := (show Aside _ from hl)
  replace hst := (show Aside _ from hst)
  replace hn2q := (show Aside _ from hn2q)
  replace hc := (show Aside _ from hc)
  replace hcn := (show Aside _ from hcn)
  (repeat' first
    | simp (contextual := true) (maxSteps := 4000000) only [fwc, fwe, fww, reduceIte, ↓reduceIte, Nat.reduceAdd, Nat.reduceLeDiff, Nat.reduceEqDiff, Nat.reduceLT, Nat.reduceSub, reduceCtorEq, Int.reduceEq, Int.reduceLT, Int.reduceLE, Int.reduceNeg, Int.reduceToNat, Int.reduceAdd, Int.reduceSub, Nat.reduceMul, *]
    | (refine seqK_now ?_)
    | (refine retK_now ?_)
    | (refine retK_now' ?_)
    | (intro q hq)
    | (refine cond_intro (fun hc => ?_) (fun hc => ?_)))
  refine Insert_ok id n c R O M hl.out hn2.out a n han.out (Nat.le_refl _) _ fun N r hN hs => ?_
  have hx := hst.out N n (by have := hcn.out; omega) han.out hN hs
  have hx2 := hx.2.cut (hj := n) (by have := hcn.out; omega)
  have hx1 := hx.1
  clear hst hI I hK hB hl hda han hc hcn e0 d1 hx
  obtain ⟨J, hJ⟩ := hideI (fun t e O' => ∃ (bs : Nat) (M : List Hd), 0 < bs ∧ bs ≤ 2 * n + 20 ∧ t = n - bs ∧ Keeps L M 0 n ∧ Blk M bs 0 n n ∧ O' = stH O id M R ∧ e = env54y (oS id n c) n (.clo (.func 38) [] []) bs)
  replace hN := (show Aside _ from hN)
  replace hs := (show Aside _ from hs)
  replace hx1 := (show Aside _ from hx1)
  replace hx2 := (show Aside _ from hx2)
  (repeat' first
    | simp (contextual := true) (maxSteps := 4000000) only [fwc, fwe, fww, reduceIte, ↓reduceIte, Nat.reduceAdd, Nat.reduceLeDiff, Nat.reduceEqDiff, Nat.reduceLT, Nat.reduceSub, reduceCtorEq, Int.reduceEq, Int.reduceLT, Int.reduceLE, Int.reduceNeg, Int.reduceToNat, Int.reduceAdd, Int.reduceSub, Nat.reduceMul, *]
    | (refine seqK_now ?_)
    | (refine retK_now ?_)
    | (refine retK_now' ?_)
    | (intro q hq)
    | (refine cond_intro (fun hc => ?_) (fun hc => ?_)))
  refine cmd_loop J (n - 20) (by
    rw [hJ.out]
    exact ⟨20, N, by omega, by omega, rfl, hx1.out, hx2.out, rfl, rfl⟩) ?_
  clear hx1 hx2 hN hs N
  intro t e O' hh
  rw [hJ.out] at hh
  obtain ⟨bs, M, hb0, hbn, rfl, hK, hB, hOH, rfl⟩ := hh
  rw [hOH]
  clear hOH O'
  unfold env54y
  have hn2q := hn2.out
  have d1 : decide ((bs : Int) < (n : Int)) = decide (bs < n) := decide_eq_decide.2 (by omega)
  by_cases hc : bs < n
  rotate_left
  · have e0 : decide (bs < n) = false := decide_eq_false hc
    have hfin := hB.all (by omega)
    replace hb0 := (show Aside _ from hb0)
    replace hbn := (show Aside _ from hbn)
    replace hK := (show Aside _ from hK)
    replace hB := (show Aside _ from hB)
    replace hn2q := (show Aside _ from hn2q)
    replace hc := (show Aside _ from hc)
    replace hfin := (show Aside _ from hfin)
    (repeat' first
    | simp (contextual := true) (maxSteps := 4000000) only [fwc, fwe, fww, reduceIte, ↓reduceIte, Nat.reduceAdd, Nat.reduceLeDiff, Nat.reduceEqDiff, Nat.reduceLT, Nat.reduceSub, reduceCtorEq, Int.reduceEq, Int.reduceLT, Int.reduceLE, Int.reduceNeg, Int.reduceToNat, Int.reduceAdd, Int.reduceSub, Nat.reduceMul, *]
    | (refine seqK_now ?_)
    | (refine retK_now ?_)
    | (refine retK_now' ?_)
    | (intro q hq)
    | (refine cond_intro (fun hc => ?_) (fun hc => ?_)))
    exact WeakR.now (hk _ _ hK.out hfin.out)
  have e0 : decide (bs < n) = true := decide_eq_true hc
  have w2 : IntKind.i64.wrap (2 * (bs : Int)) = ((2 * bs : Nat) : Int) := by rw [wrap_i64 (by omega) (by omega)]; omega
  have w3 : IntKind.i64.wrap ((bs : Int) * 2) = ((2 * bs : Nat) : Int) := by rw [wrap_i64 (by omega) (by omega)]; omega
  obtain ⟨T, hT⟩ := hideI (fun t e O' => ∃ (a : Nat) (N : List Hd), 2 * bs ∣ a ∧ a ≤ n ∧ t = n + 2 * bs - a ∧ Keeps L N 0 n ∧ Blk N (2 * bs) 0 a n ∧ Blk N bs a n n ∧ O' = stH O id N R ∧ e = env54x (oS id n c) n (.clo (.func 38) [] []) bs a (a + 2 * bs))
  replace hb0 := (show Aside _ from hb0)
  replace hbn := (show Aside _ from hbn)
  replace hK := (show Aside _ from hK)
  replace hB := (show Aside _ from hB)
  replace hn2q := (show Aside _ from hn2q)
  replace hc := (show Aside _ from hc)
  (repeat' first
    | simp (contextual := true) (maxSteps := 4000000) only [fwc, fwe, fww, reduceIte, ↓reduceIte, Nat.reduceAdd, Nat.reduceLeDiff, Nat.reduceEqDiff, Nat.reduceLT, Nat.reduceSub, reduceCtorEq, Int.reduceEq, Int.reduceLT, Int.reduceLE, Int.reduceNeg, Int.reduceToNat, Int.reduceAdd, Int.reduceSub, Nat.reduceMul, *]
    | (refine seqK_now ?_)
    | (refine retK_now ?_)
    | (refine retK_now' ?_)
    | (intro q hq)
    | (refine cond_intro (fun hc => ?_) (fun hc => ?_)))
  refine cmd_loop T (n + 2 * bs - 0) (by
    rw [hT.out]
    exact ⟨0, M, Nat.dvd_zero _, Nat.zero_le _, rfl, hK.out, Blk.first, hB.out, rfl, by rw [Nat.zero_add]; rfl⟩) ?_
  clear hK hB M e0 d1
  intro t e O' hh
  rw [hT.out] at hh
  obtain ⟨a, M, hda, han, rfl, hK, hB, hB2, hOH, rfl⟩ := hh
  rw [hOH]
  clear hOH O'
  unfold env54x
  have hn2q := hn2.out
  have hb0q := hb0.out
  have hcq := hc.out
  have hl : M.length = n := hK.len.trans hn.out
  have hda1 : bs ∣ a := Nat.dvd_trans (Nat.dvd_mul_left bs 2) hda
  have d1 : decide (((a + 2 * bs : Nat) : Int) ≤ (n : Int)) = decide (a + 2 * bs ≤ n) := decide_eq_decide.2 (by omega)
  have wab : IntKind.i64.wrap ((a : Int) + (bs : Int)) = ((a + bs : Nat) : Int) := by rw [wrap_i64 (by omega) (by omega)]; omega
  have hst := fun (N : List Hd) (e : Nat) (he : e = min (a + 2 * bs) n) (h2 : a ≤ e) (hk : Keeps M N a e) (hS : Srt N a e) => blk_step hda (by omega) hK hB he h2 hk hS
  have hs1 : ∀ e, a < n → e = min (a + bs) n → Srt M a e := fun e h he => by rw [he]; exact hB2 a hda1 (Nat.le_refl _) h
  have hs2 : ∀ e, a + bs < n → e = min (a + bs + bs) n → Srt M (a + bs) e := fun e h he => by rw [he]; exact hB2 (a + bs) (Nat.dvd_add hda1 (Nat.dvd_refl bs)) (by omega) h
  have hrest : ∀ N, Keeps M N a (a + 2 * bs) → Blk N bs (a + 2 * bs) n n := fun N hN => by
    have e : a + 2 * bs = a + bs + bs := by omega
    rw [e] at hN ⊢
    exact hB2.rest hN
  have hdn : 2 * bs ∣ a + 2 * bs := Nat.dvd_add hda (Nat.dvd_refl _)
  by_cases hc2 : a + 2 * bs ≤ n
  · have e1 : decide (a + 2 * bs ≤ n) = true := decide_eq_true hc2
    have w20 : IntKind.i64.wrap (((a + 2 * bs : Nat) : Int) + ((2 * bs : Nat) : Int)) = ((a + 2 * bs + 2 * bs : Nat) : Int) := by rw [wrap_i64 (by omega) (by omega)]; omega
    obtain ⟨q, hq⟩ : ∃ q, a + 2 * bs = q := ⟨_, rfl⟩
    rw [hq] at e1 d1 w20 hdn hrest ⊢
    replace hda := (show Aside _ from hda)
    replace han := (show Aside _ from han)
    replace hK := (show Aside _ from hK)
    replace hB := (show Aside _ from hB)
    replace hB2 := (show Aside _ from hB2)
    replace hl := (show Aside _ from hl)
    replace hst := (show Aside _ from hst)
    replace hn2q := (show Aside _ from hn2q)
    replace hc2 := (show Aside _ from hc2)
    replace hq := (show Aside _ from hq)
    replace hb0q := (show Aside _ from hb0q)
    replace hcq := (show Aside _ from hcq)
    replace hda1 := (show Aside _ from hda1)
    replace hs1 := (show Aside _ from hs1)
    replace hs2 := (show Aside _ from hs2)
    replace hrest := (show Aside _ from hrest)
    replace hdn := (show Aside _ from hdn)
    (repeat' first
    | simp (contextual := true) (maxSteps := 4000000) only [fwc, fwe, fww, reduceIte, ↓reduceIte, Nat.reduceAdd, Nat.reduceLeDiff, Nat.reduceEqDiff, Nat.reduceLT, Nat.reduceSub, reduceCtorEq, Int.reduceEq, Int.reduceLT, Int.reduceLE, Int.reduceNeg, Int.reduceToNat, Int.reduceAdd, Int.reduceSub, Nat.reduceMul, *]
    | (refine seqK_now ?_)
    | (refine retK_now ?_)
    | (refine retK_now' ?_)
    | (intro q hq)
    | (refine cond_intro (fun hc => ?_) (fun hc => ?_)))
    have hqq := hq.out
    have hcc := hc2.out
    have hbb := hb0.out
    refine Sym_ok id n c R O hn2.out (q - a + 1) M a (a + bs) q hl.out (by omega) (by omega) (by omega) (hs1.out _ (by omega) (by omega)) (hs2.out _ (by omega) (by omega)) (by omega) _ fun N r hN hs => ?_
    clear hqq hcc hbb
    replace hN := (show Aside _ from hN)
    replace hs := (show Aside _ from hs)
    (repeat' first
    | simp (contextual := true) (maxSteps := 4000000) only [fwc, fwe, fww, reduceIte, ↓reduceIte, Nat.reduceAdd, Nat.reduceLeDiff, Nat.reduceEqDiff, Nat.reduceLT, Nat.reduceSub, reduceCtorEq, Int.reduceEq, Int.reduceLT, Int.reduceLE, Int.reduceNeg, Int.reduceToNat, Int.reduceAdd, Int.reduceSub, Nat.reduceMul, *]
    | (refine seqK_now ?_)
    | (refine retK_now ?_)
    | (refine retK_now' ?_)
    | (intro q hq)
    | (refine cond_intro (fun hc => ?_) (fun hc => ?_)))
    have hqq := hq.out
    have hcc := hc2.out
    have hbb := hb0.out
    refine loopK_now (n + 2 * bs - q) (by omega) ?_
    rw [hT.out]
    have hx := hst.out N q (by omega) (by omega) hN.out hs.out
    rw [hqq] at hx
    exact ⟨q, N, hdn.out, by omega, rfl, hx.1, hx.2, hrest.out N hN.out, rfl, rfl⟩
  have e1 : decide (a + 2 * bs ≤ n) = false := decide_eq_false hc2
  have hcn : n < a + 2 * bs := by omega
  have dm : decide (((a + bs : Nat) : Int) < (n : Int)) = decide (a + bs < n) := decide_eq_decide.2 (by omega)
  have hend : ∀ N, Keeps M N a n → Srt N a n → J (n - 2 * bs) (env54y (oS id n c) n (.clo (.func 38) [] []) (2 * bs)) (stH O id N R) := fun N hN hs => by
    have hx := hst N n (by omega) han hN hs
    rw [hJ.out]
    exact ⟨2 * bs, N, by omega, by omega, rfl, hx.1, hx.2.cut (by omega), rfl, rfl⟩
  replace hda := (show Aside _ from hda)
  replace han := (show Aside _ from han)
  replace hK := (show Aside _ from hK)
  replace hB := (show Aside _ from hB)
  replace hB2 := (show Aside _ from hB2)
  replace hl := (show Aside _ from hl)
  replace hst := (show Aside _ from hst)
  replace hn2q := (show Aside _ from hn2q)
  replace hc2 := (show Aside _ from hc2)
  replace hb0q := (show Aside _ from hb0q)
  replace hcq := (show Aside _ from hcq)
  replace hda1 := (show Aside _ from hda1)
  replace hs1 := (show Aside _ from hs1)
  replace hs2 := (show Aside _ from hs2)
  replace hrest := (show Aside _ from hrest)
  replace hdn := (show Aside _ from hdn)
  replace hcn := (show Aside _ from hcn)
  replace hend := (show Aside _ from hend)
  by_cases hc3 : a + bs < n
  · have e2 : decide (a + bs < n) = true := decide_eq_true hc3
    replace hc3 := (show Aside _ from hc3)
    (repeat' first
    | simp (contextual := true) (maxSteps := 4000000) only [fwc, fwe, fww, reduceIte, ↓reduceIte, Nat.reduceAdd, Nat.reduceLeDiff, Nat.reduceEqDiff, Nat.reduceLT, Nat.reduceSub, reduceCtorEq, Int.reduceEq, Int.reduceLT, Int.reduceLE, Int.reduceNeg, Int.reduceToNat, Int.reduceAdd, Int.reduceSub, Nat.reduceMul, *]
    | (refine seqK_now ?_)
    | (refine retK_now ?_)
    | (refine retK_now' ?_)
    | (intro q hq)
    | (refine cond_intro (fun hc => ?_) (fun hc => ?_)))
    have hcc := hc3.out
    have hbb := hb0.out
    have hc5 := hcn.out
    refine Sym_ok id n c R O hn2.out (n - a + 1) M a (a + bs) n hl.out (by omega) (by omega) (by omega) (hs1.out _ (by omega) (by omega)) (hs2.out _ (by omega) (by omega)) (by omega) _ fun N r hN hs => ?_
    clear hcc hbb hc5
    have hx := hend.out N hN hs
    replace hN := (show Aside _ from hN)
    replace hs := (show Aside _ from hs)
    replace hx := (show Aside _ from hx)
    (repeat' first
    | simp (contextual := true) (maxSteps := 4000000) only [fwc, fwe, fww, reduceIte, ↓reduceIte, Nat.reduceAdd, Nat.reduceLeDiff, Nat.reduceEqDiff, Nat.reduceLT, Nat.reduceSub, reduceCtorEq, Int.reduceEq, Int.reduceLT, Int.reduceLE, Int.reduceNeg, Int.reduceToNat, Int.reduceAdd, Int.reduceSub, Nat.reduceMul, *]
    | (refine seqK_now ?_)
    | (refine retK_now ?_)
    | (refine retK_now' ?_)
    | (intro q hq)
    | (refine cond_intro (fun hc => ?_) (fun hc => ?_)))
    refine loopK_now (n - 2 * bs) (by have := hb0.out; have := hc.out; omega) ?_
    exact hx.out
  · have e2 : decide (a + bs < n) = false := decide_eq_false hc3
    have hx := hend.out M (Keeps.refl _ _ _) (by
      have hhan := han.out
      by_cases h : a < n
      · exact hs1.out n h (by omega)
      · intro i j h1 h2 h3; omega)
    replace hc3 := (show Aside _ from hc3)
    replace hx := (show Aside _ from hx)
    (repeat' first
    | simp (contextual := true) (maxSteps := 4000000) only [fwc, fwe, fww, reduceIte, ↓reduceIte, Nat.reduceAdd, Nat.reduceLeDiff, Nat.reduceEqDiff, Nat.reduceLT, Nat.reduceSub, reduceCtorEq, Int.reduceEq, Int.reduceLT, Int.reduceLE, Int.reduceNeg, Int.reduceToNat, Int.reduceAdd, Int.reduceSub, Nat.reduceMul, *]
    | (refine seqK_now ?_)
    | (refine retK_now ?_)
    | (refine retK_now' ?_)
    | (intro q hq)
    | (refine cond_intro (fun hc => ?_) (fun hc => ?_)))
    refine loopK_now (n - 2 * bs) (by have := hb0.out; have := hc.out; omega) ?_
    exact hx.out

theorem Sort_ok (id n : Nat) (c : Option Nat) (R : List AV) (O : Heap) (hn2 : n ≤ 100000) (L : List Hd) (hn : L.length = n) (K : AV → Heap → Prop) (hk : ∀ M r, Keeps L M 0 n → Srt M 0 n → K r (stH O id M R)) :
    CallA Try.prog 37 [oS id n c, .clo (.func 38) [] []] (stH O id L R) K := by
  refine k37.call mix ?_
  unfold c37 oS
  (repeat' first
    | simp (contextual := true) (maxSteps := 4000000) only [fwc, fwe, fww, reduceIte, ↓reduceIte, Nat.reduceAdd, Nat.reduceLeDiff, Nat.reduceEqDiff, Nat.reduceLT, Nat.reduceSub, reduceCtorEq, Int.reduceEq, Int.reduceLT, Int.reduceLE, Int.reduceNeg, Int.reduceToNat, Int.reduceAdd, Int.reduceSub, Nat.reduceMul, *]
    | (refine seqK_now ?_)
    | (refine retK_now ?_)
    | (refine retK_now' ?_)
    | (intro q hq)
    | (refine cond_intro (fun hc => ?_) (fun hc => ?_)))
  refine Stable_ok id n c R O hn2 L hn _ fun M r h1 h2 => ?_
  replace h1 := (show Aside _ from h1)
  replace h2 := (show Aside _ from h2)
  (repeat' first
    | simp (contextual := true) (maxSteps := 4000000) only [fwc, fwe, fww, reduceIte, ↓reduceIte, Nat.reduceAdd, Nat.reduceLeDiff, Nat.reduceEqDiff, Nat.reduceLT, Nat.reduceSub, reduceCtorEq, Int.reduceEq, Int.reduceLT, Int.reduceLE, Int.reduceNeg, Int.reduceToNat, Int.reduceAdd, Int.reduceSub, Nat.reduceMul, *]
    | (refine seqK_now ?_)
    | (refine retK_now ?_)
    | (refine retK_now' ?_)
    | (intro q hq)
    | (refine cond_intro (fun hc => ?_) (fun hc => ?_)))
  exact WeakR.now (hk _ _ h1.out h2.out)
end Go.Proofs.Ytembkknplmcamaa

namespace Go.Proofs.Ytembkknplmcamaa
open Go.Ab
attribute [local irreducible] WeakR WeakE CallA YieldA

/-! The sort of a slice that may be nil; what a stable sort gives. -/
theorem Insert_nil : PureA Try.prog 58 [.val (.slice none 0 0), .val (.int .i64 0), .val (.int .i64 0), .clo (.func 38) [] []] (.tup []) := by
  intro O
  refine k58.call mix ?_
  unfold c58
  have w1 : IntKind.i64.wrap (0 + 1) = 1 := by decide
  have w2 : IntKind.i64.wrap 1 = 1 := by decide
  have d0 : decide ((1 : Int) < 0) = false := by decide
  obtain ⟨I, hI⟩ := hideI (fun t e O' => t = 0 ∧ O' = O ∧ e = ((((Env.upd (fun _ => .junk) 8 (.val (.int .i64 1))).upd 3 (.clo (.func 38) [] [])).upd 2 (.val (.int .i64 0))).upd 1 (.val (.int .i64 0))).upd 0 (.val (.slice none 0 0)))
  (repeat' first
    | simp (contextual := true) (maxSteps := 4000000) only [fwc, fwe, fww, reduceIte, ↓reduceIte, Nat.reduceAdd, Nat.reduceLeDiff, Nat.reduceEqDiff, Nat.reduceLT, Nat.reduceSub, reduceCtorEq, Int.reduceEq, Int.reduceLT, Int.reduceLE, Int.reduceNeg, Int.reduceToNat, Int.reduceAdd, Int.reduceSub, Nat.reduceMul, *]
    | (refine seqK_now ?_)
    | (refine retK_now ?_)
    | (refine retK_now' ?_)
    | (intro q hq)
    | (refine cond_intro (fun hc => ?_) (fun hc => ?_)))
  refine cmd_loop I 0 (by rw [hI.out]; exact ⟨rfl, rfl, rfl⟩) ?_
  intro t e O' hh
  rw [hI.out] at hh
  obtain ⟨rfl, hOH, rfl⟩ := hh
  rw [hOH]
  clear hOH O'
  (repeat' first
    | simp (contextual := true) (maxSteps := 4000000) only [fwc, fwe, fww, reduceIte, ↓reduceIte, Nat.reduceAdd, Nat.reduceLeDiff, Nat.reduceEqDiff, Nat.reduceLT, Nat.reduceSub, reduceCtorEq, Int.reduceEq, Int.reduceLT, Int.reduceLE, Int.reduceNeg, Int.reduceToNat, Int.reduceAdd, Int.reduceSub, Nat.reduceMul, *]
    | (refine seqK_now ?_)
    | (refine retK_now ?_)
    | (refine retK_now' ?_)
    | (intro q hq)
    | (refine cond_intro (fun hc => ?_) (fun hc => ?_)))
  refine WeakR.pure (by repeat (first | exact Heap.sub_refl _ | refine sub_upd (by simp only [*]) ?_)) ?_
  rfl
theorem Stable_nil : PureA Try.prog 54 [.val (.slice none 0 0), .val (.int .i64 0), .clo (.func 38) [] []] (.tup []) := by
  intro O
  have hi := Insert_nil
  refine k54.call mix ?_
  unfold c54
  have d0 : decide ((20 : Int) ≤ 0) = false := by decide
  have d1 : decide ((20 : Int) < 0) = false := by decide
  obtain ⟨I, hI⟩ := hideI (fun t e O' => t = 0 ∧ O' = O ∧ e = (((((Env.upd (fun _ => .junk) 8 (.val (.int .i64 20))).upd 7 (.val (.int .i64 0))).upd 6 (.val (.int .i64 20))).upd 2 (.clo (.func 38) [] [])).upd 1 (.val (.int .i64 0))).upd 0 (.val (.slice none 0 0)))
  (repeat' first
    | simp (contextual := true) (maxSteps := 4000000) only [fwc, fwe, fww, reduceIte, ↓reduceIte, Nat.reduceAdd, Nat.reduceLeDiff, Nat.reduceEqDiff, Nat.reduceLT, Nat.reduceSub, reduceCtorEq, Int.reduceEq, Int.reduceLT, Int.reduceLE, Int.reduceNeg, Int.reduceToNat, Int.reduceAdd, Int.reduceSub, Nat.reduceMul, *]
    | (refine seqK_now ?_)
    | (refine retK_now ?_)
    | (refine retK_now' ?_)
    | (intro q hq)
    | (refine cond_intro (fun hc => ?_) (fun hc => ?_)))
  refine cmd_loop I 0 (by rw [hI.out]; exact ⟨rfl, rfl, rfl⟩) ?_
  intro t e O' hh
  rw [hI.out] at hh
  obtain ⟨rfl, hOH, rfl⟩ := hh
  rw [hOH]
  clear hOH O'
  (repeat' first
    | simp (contextual := true) (maxSteps := 4000000) only [fwc, fwe, fww, reduceIte, ↓reduceIte, Nat.reduceAdd, Nat.reduceLeDiff, Nat.reduceEqDiff, Nat.reduceLT, Nat.reduceSub, reduceCtorEq, Int.reduceEq, Int.reduceLT, Int.reduceLE, Int.reduceNeg, Int.reduceToNat, Int.reduceAdd, Int.reduceSub, Nat.reduceMul, *]
    | (refine seqK_now ?_)
    | (refine retK_now ?_)
    | (refine retK_now' ?_)
    | (intro q hq)
    | (refine cond_intro (fun hc => ?_) (fun hc => ?_)))
  refine hi.use ?_
  obtain ⟨J, hJ⟩ := hideI (fun t e O' => t = 0 ∧ O' = O ∧ e = (((Env.upd (fun _ => .junk) 6 (.val (.int .i64 20))).upd 2 (.clo (.func 38) [] [])).upd 1 (.val (.int .i64 0))).upd 0 (.val (.slice none 0 0)))
  (repeat' first
    | simp (contextual := true) (maxSteps := 4000000) only [fwc, fwe, fww, reduceIte, ↓reduceIte, Nat.reduceAdd, Nat.reduceLeDiff, Nat.reduceEqDiff, Nat.reduceLT, Nat.reduceSub, reduceCtorEq, Int.reduceEq, Int.reduceLT, Int.reduceLE, Int.reduceNeg, Int.reduceToNat, Int.reduceAdd, Int.reduceSub, Nat.reduceMul, *]
    | (refine seqK_now ?_)
    | (refine retK_now ?_)
    | (refine retK_now' ?_)
    | (intro q hq)
    | (refine cond_intro (fun hc => ?_) (fun hc => ?_)))
  refine cmd_loop J 0 (by rw [hJ.out]; exact ⟨rfl, rfl, rfl⟩) ?_
  intro t e O' hh
  rw [hJ.out] at hh
  obtain ⟨rfl, hOH, rfl⟩ := hh
  rw [hOH]
  clear hOH O'
  (repeat' first
    | simp (contextual := true) (maxSteps := 4000000) only [fwc, fwe, fww, reduceIte, ↓reduceIte, Nat.reduceAdd, Nat.reduceLeDiff, Nat.reduceEqDiff, Nat.reduceLT, Nat.reduceSub, reduceCtorEq, Int.reduceEq, Int.reduceLT, Int.reduceLE, Int.reduceNeg, Int.reduceToNat, Int.reduceAdd, Int.reduceSub, Nat.reduceMul, *]
    | (refine seqK_now ?_)
    | (refine retK_now ?_)
    | (refine retK_now' ?_)
    | (intro q hq)
    | (refine cond_intro (fun hc => ?_) (fun hc => ?_)))
  refine WeakR.pure (by repeat (first | exact Heap.sub_refl _ | refine sub_upd (by simp only [*]) ?_)) ?_
  rfl
theorem Sort_nil : PureA Try.prog 37 [.val (.slice none 0 0), .clo (.func 38) [] []] (.tup []) := by
  intro O
  have hi := Stable_nil
  refine k37.call mix ?_
  unfold c37
  (repeat' first
    | simp (contextual := true) (maxSteps := 4000000) only [fwc, fwe, fww, reduceIte, ↓reduceIte, Nat.reduceAdd, Nat.reduceLeDiff, Nat.reduceEqDiff, Nat.reduceLT, Nat.reduceSub, reduceCtorEq, Int.reduceEq, Int.reduceLT, Int.reduceLE, Int.reduceNeg, Int.reduceToNat, Int.reduceAdd, Int.reduceSub, Nat.reduceMul, *]
    | (refine seqK_now ?_)
    | (refine retK_now ?_)
    | (refine retK_now' ?_)
    | (intro q hq)
    | (refine cond_intro (fun hc => ?_) (fun hc => ?_)))
  refine hi.use ?_
  (repeat' first
    | simp (contextual := true) (maxSteps := 4000000) only [fwc, fwe, fww, reduceIte, ↓reduceIte, Nat.reduceAdd, Nat.reduceLeDiff, Nat.reduceEqDiff, Nat.reduceLT, Nat.reduceSub, reduceCtorEq, Int.reduceEq, Int.reduceLT, Int.reduceLE, Int.reduceNeg, Int.reduceToNat, Int.reduceAdd, Int.reduceSub, Nat.reduceMul, *]
    | (refine seqK_now ?_)
    | (refine retK_now ?_)
    | (refine retK_now' ?_)
    | (intro q hq)
    | (refine cond_intro (fun hc => ?_) (fun hc => ?_)))
  refine WeakR.pure (by repeat (first | exact Heap.sub_refl _ | refine sub_upd (by simp only [*]) ?_)) ?_
  rfl

/-- The lists by their spots, from -12 to 176. -/
def bySpot (L : List Hd) : List Hd := (List.range 95).flatMap fun i : Nat => L.filter fun x => decide (x.spot = -12 + 2 * (i : Int))
theorem gt_cons (x : Hd) (M : List Hd) (i : Nat) : gt (x :: M) (i + 1) = gt M i := by simp [gt]
theorem srt_tail {x : Hd} {M : List Hd} (h : Srt (x :: M) 0 (M.length + 1)) : Srt M 0 M.length ∧ ∀ y ∈ M, x.spot ≤ y.spot := by
  constructor
  · intro i j h1 h2 h3
    have := h (i + 1) (j + 1) (by omega) (by omega) (by omega)
    rwa [gt_cons, gt_cons] at this
  · intro y hy
    obtain ⟨i, hi, rfl⟩ := List.mem_iff_getElem.1 hy
    have := h 0 (i + 1) (by omega) (by omega) (by omega)
    rw [gt_cons, gt_get hi] at this
    exact this
theorem srt_split (k : Int) : ∀ (M : List Hd), Srt M 0 M.length → (∀ x ∈ M, k ≤ x.spot) → M = M.filter (fun x => decide (x.spot = k)) ++ M.filter (fun x => !decide (x.spot = k))
  | [], _, _ => rfl
  | x :: M, hs, hk => by
    obtain ⟨h1, h2⟩ := srt_tail hs
    have ih := srt_split k M h1 (fun y hy => hk y (List.mem_cons_of_mem _ hy))
    by_cases hx : x.spot = k
    · simp only [List.filter_cons, hx, decide_true, if_true, Bool.not_true, Bool.false_eq_true, if_false, List.cons_append]
      rw [← ih]
    · have hxk := hk x List.mem_cons_self
      have e1 : M.filter (fun x => decide (x.spot = k)) = [] := List.filter_eq_nil_iff.2 fun y hy e => by
        have := h2 y hy
        simp only [decide_eq_true_eq] at e
        omega
      have e2 : M.filter (fun x => !decide (x.spot = k)) = M := List.filter_eq_self.2 fun y hy => by
        have := h2 y hy
        simp only [Bool.not_eq_true', decide_eq_false_iff_not]
        omega
      simp only [List.filter_cons, hx, decide_false, Bool.false_eq_true, if_false, Bool.not_false, if_true, e1, e2, List.nil_append]
theorem srt_filter {M : List Hd} (h : Srt M 0 M.length) (p : Hd → Bool) : Srt (M.filter p) 0 (M.filter p).length := by
  induction M with
  | nil => exact h
  | cons x M ih =>
    obtain ⟨h1, h2⟩ := srt_tail h
    have ih := ih h1
    rw [List.filter_cons]
    split
    · intro i j a1 a2 a3
      rw [List.length_cons] at a3
      cases i with
      | zero =>
        cases j with
        | zero => exact Int.le_refl _
        | succ j =>
          have hj : j < (M.filter p).length := by omega
          rw [gt_cons, gt_get hj]
          exact h2 _ (List.mem_filter.1 (List.getElem_mem hj)).1
      | succ i =>
        cases j with
        | zero => omega
        | succ j => rw [gt_cons, gt_cons]; exact ih i j (by omega) (by omega) (by omega)
    · exact ih
theorem srt_by : ∀ (n : Nat) (lo : Int) (M : List Hd), Srt M 0 M.length → (∀ x ∈ M, ∃ i : Nat, i < n ∧ x.spot = lo + 2 * (i : Int)) → M = (List.range n).flatMap fun i : Nat => M.filter fun x => decide (x.spot = lo + 2 * (i : Int))
  | 0, lo, M, hs, hk => by
    cases M with
    | nil => rfl
    | cons x M => obtain ⟨i, hi, _⟩ := hk x List.mem_cons_self; omega
  | n + 1, lo, M, hs, hk => by
    have h1 := srt_split lo M hs (fun x hx => by obtain ⟨i, hi, e⟩ := hk x hx; omega)
    have ih := srt_by n (lo + 2) (M.filter fun x => !decide (x.spot = lo)) (srt_filter hs _) (fun x hx => by
      obtain ⟨m1, m2⟩ := List.mem_filter.1 hx
      obtain ⟨i, hi, e⟩ := hk x m1
      simp only [Bool.not_eq_true', decide_eq_false_iff_not] at m2
      exact ⟨i - 1, by omega, by omega⟩)
    rw [List.range_succ_eq_map, List.flatMap_cons, List.flatMap_map]
    conv => lhs; rw [h1]
    have e0 : ∀ (A B C D : List Hd), A = C → B = D → A ++ B = C ++ D := fun A B C D h1 h2 => by rw [h1, h2]
    refine e0 _ _ _ _ (by simp) ?_
    conv => lhs; rw [ih]
    refine congrArg (fun f => List.flatMap f (List.range n)) (funext fun i => ?_)
    rw [List.filter_filter]
    refine List.filter_congr fun x _ => ?_
    rw [show lo + 2 * ((Nat.succ i : Nat) : Int) = lo + 2 + 2 * (i : Int) by omega]
    by_cases e : x.spot = lo + 2 + 2 * (i : Int)
    · have : ¬ x.spot = lo := by omega
      simp [e]
      omega
    · simp [e]
theorem sort_eq {L M : List Hd} (hl : M.length = L.length) (hs : Srt M 0 L.length) (hf : Flt L M) (hk : ∀ x ∈ L, ∃ i : Nat, i < 95 ∧ x.spot = -12 + 2 * (i : Int)) : M = bySpot L := by
  have hm : ∀ x ∈ M, ∃ i : Nat, i < 95 ∧ x.spot = -12 + 2 * (i : Int) := fun x hx => by
    have h1 : x ∈ M.filter (fun y => decide (y.spot = x.spot)) := List.mem_filter.2 ⟨hx, by simp⟩
    rw [hf] at h1
    exact hk x (List.mem_filter.1 h1).1
  rw [← hl] at hs
  rw [srt_by 95 (-12) M hs hm]
  unfold bySpot
  exact congrArg (fun f => List.flatMap f (List.range 95)) (funext fun i => hf _)

theorem SortN_ok (O0 O' : Heap) (s : AV) (L : List Hd) (h : OwN 40 5 O0 O' s (L.map Hd.av)) (hl : L.length ≤ 100000) (hk : ∀ x ∈ L, ∃ i : Nat, i < 95 ∧ x.spot = -12 + 2 * (i : Int)) (K : AV → Heap → Prop) (hK : ∀ O2 r, OwN 40 5 O0 O2 s ((bySpot L).map Hd.av) → K r O2) :
    CallA Try.prog 37 [s, .clo (.func 38) [] []] O' K := by
  rcases h with ⟨rfl, h0, rfl⟩ | ⟨hne, id, c, elems, h0, rfl, rfl, h1, h2⟩
  · have hL : L = [] := List.map_eq_nil_iff.1 h0
    subst hL
    exact Sort_nil.use (hK _ _ (.inl ⟨rfl, by decide, rfl⟩))
  · rw [List.length_map] at h1 h2 hK ⊢
    have he : elems = arE L (elems.drop L.length) := by
      unfold arE
      rw [← h1, List.take_append_drop]
    rw [he]
    refine Sort_ok id L.length c (elems.drop L.length) O0 hl L rfl _ fun M r hM hs => ?_
    have hlen := hM.len
    have := sort_eq hM.len hs hM.flt hk
    subst this
    refine hK _ _ (.inr ⟨?_, id, c, arE (bySpot L) (elems.drop L.length), h0, by rw [List.length_map, hlen], rfl, ?_, ?_⟩)
    · intro e
      rw [List.map_eq_nil_iff] at e
      rw [e] at hlen
      exact hne (by rw [List.length_eq_zero_iff.1 hlen.symm]; rfl)
    · unfold arE
      rw [List.take_left' rfl]
    · rw [arE_len, List.length_map]
      omega
end Go.Proofs.Ytembkknplmcamaa

namespace Go.Proofs.Ytembkknplmcamaa
open Go.Ab
attribute [local irreducible] WeakR WeakE CallA YieldA

/-! orders.list. -/
def held1 (bd r : Int) (i : Nat) (l : List Id) : List Hd := l.map fun p => (⟨p, bd, ((i + 1 : Nat) : Int), spotL ⟨bd, ((i + 1 : Nat) : Int)⟩ r⟩ : Hd)
def heldN (bd r : Int) (G : List (List Id)) (n : Nat) : List Hd := (List.range n).flatMap fun i => held1 bd r i (G.getD i [])
theorem heldN_succ (bd r : Int) (G : List (List Id)) (n : Nat) : heldN bd r G (n + 1) = heldN bd r G n ++ held1 bd r n (G.getD n []) := by
  unfold heldN
  rw [List.range_succ, List.flatMap_append]
  simp
theorem heldN_len {G : List (List Id)} (h : ∀ i, (G.getD i []).length ≤ 4) (bd r : Int) : ∀ n, (heldN bd r G n).length ≤ 4 * n
  | 0 => by simp [heldN]
  | n + 1 => by
    have h1 := heldN_len h bd r n
    have h2 := h n
    rw [heldN_succ, List.length_append, held1, List.length_map]
    omega
def heldT (F B : List (List Id)) (r : Int) (t : Nat) : List Hd := if t = 0 then [] else if t = 1 then heldN 0 r F F.length else heldN 0 r F F.length ++ heldN 1 r B B.length
theorem held_spot {bd r : Int} {G : List (List Id)} (hG : G.length ≤ 40) (hb : bd = 0 ∨ bd = 1) (hr : rackOK r = true) : ∀ x ∈ heldN bd r G G.length, ∃ i : Nat, i < 95 ∧ x.spot = -12 + 2 * (i : Int) := fun x hx => by
  have hrr : -4 ≤ r ∧ r ≤ 4 := by unfold rackOK at hr; simpa using hr
  unfold heldN held1 at hx
  simp only [List.mem_flatMap, List.mem_range, List.mem_map] at hx
  obtain ⟨i, hi, p, _, rfl⟩ := hx
  show ∃ j : Nat, j < 95 ∧ spotL ⟨bd, ((i + 1 : Nat) : Int)⟩ r = -12 + 2 * (j : Int)
  unfold spotL
  rcases hb with rfl | rfl
  · rw [if_neg (by simp)]
    exact ⟨(2 * (i + 1) + 7), by omega, by simp only; omega⟩
  · rw [if_pos rfl]
    refine ⟨(2 * ((i : Int) + 1 + r) + 6).toNat, ?_, ?_⟩
    · omega
    · simp only; omega
theorem heldT_spot {F B : List (List Id)} (hF : F.length ≤ 40) (hB : B.length ≤ 40) {r : Int} (hr : rackOK r = true) : ∀ x ∈ heldT F B r 2, ∃ i : Nat, i < 95 ∧ x.spot = -12 + 2 * (i : Int) := fun x hx => by
  unfold heldT at hx
  rw [if_neg (by omega), if_neg (by omega)] at hx
  rcases List.mem_append.1 hx with h | h
  · exact held_spot hF (.inl rfl) hr x h
  · exact held_spot hB (.inr rfl) hr x h
/-- A slice of one's own without spare room. -/
def OwC (O0 O' : Heap) (s : AV) (L : List AV) : Prop := (s = .val (.slice none 0 0) ∧ L = [] ∧ O' = O0) ∨ (L ≠ [] ∧ ∃ id elems, O0 id = none ∧ s = .own id 5 0 L.length (some L.length) ∧ O' = O0.upd id (.arr 40 5 elems) ∧ elems.take L.length = L ∧ L.length ≤ elems.length)
theorem OwC.cells {O0 O' : Heap} {s : AV} {L : List AV} (h : OwC O0 O' s L) : s.cells = [s] := by
  rcases h with ⟨rfl, _, _⟩ | ⟨_, id, elems, _, rfl, _⟩ <;> rfl
theorem OwC.stor {O0 O' : Heap} {s : AV} {L : List AV} (h : OwC O0 O' s L) : s.stor = true := by
  rcases h with ⟨rfl, _, _⟩ | ⟨_, id, elems, _, rfl, _⟩ <;> rfl
theorem OwC.pure {O O0 O' : Heap} {s : AV} {L : List AV} (hs : O.sub O0) (h : OwC O0 O' s L) : WeakR (fun r' O' => r' = tA 5 L ∧ O' = O) s O' := by
  rcases h with ⟨rfl, rfl, rfl⟩ | ⟨hne, id, elems, h0, rfl, rfl, h1, h2⟩
  · exact WeakR.pure hs rfl
  · have hz := Fz.own (id := id) (sz := 5) (elems := elems) 0 L.length (some L.length) true (by omega) (fun _ => rfl)
    rw [List.drop_zero, h1] at hz
    refine WeakR.pureF id 5 40 elems (Heap.upd_same _ _ _) hz (by rw [del_upd_new h0]; exact hs) ?_
    rw [tA, if_neg hne]
theorem ClipH_own (s : AV) (L : List AV) (O0 O' : Heap) (h : OwN 40 5 O0 O' s L) (K : AV → Heap → Prop) (hk : ∀ s', OwC O0 O' s' L → K s' O') : CallA Try.prog 40 [s] O' K := by
  refine k40.call mix ?_
  unfold c40
  rcases h with ⟨rfl, rfl, rfl⟩ | ⟨hne, id, c, elems, h0, rfl, rfl, h1, h2⟩
  · have e1 : sliceA 5 (.val (.slice none 0 0)) none (some (.val (.int .i64 0))) (some (.val (.int .i64 0))) = some (.val (.slice none 0 0)) := rfl
    have hk2 := (show Aside _ from hk _ (.inl ⟨rfl, rfl, rfl⟩))
    (repeat' first
    | simp (contextual := true) (maxSteps := 4000000) only [fwc, fwe, fww, reduceIte, ↓reduceIte, Nat.reduceAdd, Nat.reduceLeDiff, Nat.reduceEqDiff, Nat.reduceLT, Nat.reduceSub, reduceCtorEq, Int.reduceEq, Int.reduceLT, Int.reduceLE, Int.reduceNeg, Int.reduceToNat, Int.reduceAdd, Int.reduceSub, Nat.reduceMul, *]
    | (refine seqK_now ?_)
    | (refine retK_now ?_)
    | (refine retK_now' ?_)
    | (intro q hq)
    | (refine cond_intro (fun hc => ?_) (fun hc => ?_)))
    exact WeakR.now hk2.out
  · have e1 : sliceA 5 (.own id 5 0 L.length c) none (some (.val (.int .i64 L.length))) (some (.val (.int .i64 L.length))) = some (.own id 5 0 L.length (some L.length)) := by
      rw [slice_own_mx (a := 0) (b := L.length) (d := L.length) rfl (by simp [bound_int]) (by simp [bound_int]) (by omega) (by simp [leCap]) (by omega) (by simp [leCap])]
      simp
    have hk2 := (show Aside _ from hk _ (.inr ⟨hne, id, elems, h0, rfl, rfl, h1, h2⟩))
    replace hne := (show Aside _ from hne)
    replace h1 := (show Aside _ from h1)
    (repeat' first
    | simp (contextual := true) (maxSteps := 4000000) only [fwc, fwe, fww, reduceIte, ↓reduceIte, Nat.reduceAdd, Nat.reduceLeDiff, Nat.reduceEqDiff, Nat.reduceLT, Nat.reduceSub, reduceCtorEq, Int.reduceEq, Int.reduceLT, Int.reduceLE, Int.reduceNeg, Int.reduceToNat, Int.reduceAdd, Int.reduceSub, Nat.reduceMul, *]
    | (refine seqK_now ?_)
    | (refine retK_now ?_)
    | (refine retK_now' ?_)
    | (intro q hq)
    | (refine cond_intro (fun hc => ?_) (fun hc => ?_)))
    exact WeakR.now hk2.out
def e19a (r : Int) (s l : AV) (t : Nat) : Env := ((((Env.upd (fun _ => .junk) 19 (.val (.int .i64 t))).upd 18 (.val (.int .i64 2))).upd 17 l).upd 5 s).upd 1 (.val (.int .i64 r))
def e19b (r : Int) (s l : AV) (t : Nat) (X : AV) (n i : Nat) : Env := ((((((((Env.upd (fun _ => .junk) 26 (.val (.int .i64 i))).upd 25 (.val (.int .i64 n))).upd 24 X).upd 19 (.val (.int .i64 t))).upd 18 (.val (.int .i64 2))).upd 17 l).upd 6 (.val (.int .i64 t))).upd 5 s).upd 1 (.val (.int .i64 r))
def e19c (r : Int) (s l : AV) (t : Nat) (X : AV) (n i q : Nat) (Y : AV) (m k : Nat) : Env := ((((((((((((Env.upd (fun _ => .junk) 38 (.val (.int .i64 k))).upd 37 (.val (.int .i64 m))).upd 36 Y).upd 26 (.val (.int .i64 i))).upd 25 (.val (.int .i64 n))).upd 24 X).upd 19 (.val (.int .i64 t))).upd 18 (.val (.int .i64 2))).upd 17 l).upd 10 (.optr q 2 0 0)).upd 6 (.val (.int .i64 t))).upd 5 s).upd 1 (.val (.int .i64 r))

set_option maxHeartbeats 8000000 in
theorem list_gen {x : AV} {F B : List (List Id)} (h : IsBeds x F B) (hF : F.length ≤ 40) (hB : B.length ≤ 40) (h4F : ∀ i, (F.getD i []).length ≤ 4) (h4B : ∀ i, (B.getD i []).length ≤ 4) (r : Int) (hr : rackOK r = true) (O : Heap) (K : AV → Heap → Prop)
    (hK : ∀ s O0 O2, O.sub O0 → OwC O0 O2 s ((bySpot (heldT F B r 2)).map Hd.av) → WeakR K s O2) :
    CallA Try.prog 19 [x, .val (.int .i64 r)] O K := by
  have hspot := heldT_spot hF hB hr
  obtain ⟨f, b, es, fs, rfl, hIf, hIb, _, _⟩ := h.ex
  have c1 := hIf.1.cells
  have c2 := hIb.1.cells
  have s1 := hIf.1.stor
  have s2 := hIb.1.stor
  have hrr : -4 ≤ r ∧ r ≤ 4 := by unfold rackOK at hr; simpa using hr
  have hpick : ∀ t, t < 2 → ∃ X es G, [f, b][t]? = some X ∧ IsB X es G ∧ heldT F B r (t + 1) = heldT F B r t ++ heldN (t : Int) r G G.length ∧ G.length ≤ 40 ∧ (∀ i, (G.getD i []).length ≤ 4) ∧ (heldT F B r t).length ≤ 160 := fun t ht => by
    match t, ht with
    | 0, _ => exact ⟨f, es, F, rfl, hIf, rfl, hF, h4F, by simp [heldT]⟩
    | 1, _ =>
      have := heldN_len h4F 0 r F.length
      exact ⟨b, fs, B, rfl, hIb, rfl, hB, h4B, by show (heldN 0 r F F.length).length ≤ 160; omega⟩
  have hlen2 : (heldT F B r 2).length ≤ 320 := by
    have h1 := heldN_len h4F 0 r F.length
    have h2 := heldN_len h4B 1 r B.length
    show (heldN 0 r F F.length ++ heldN 1 r B B.length).length ≤ 320
    rw [List.length_append]
    omega
  clear h
  replace hspot := (show Aside _ from hspot)
  replace hIf := (show Aside _ from hIf)
  replace hIb := (show Aside _ from hIb)
  replace hrr := (show Aside _ from hrr)
  replace hpick := (show Aside _ from hpick)
  replace hlen2 := (show Aside _ from hlen2)
  replace hF := (show Aside _ from hF)
  replace hB := (show Aside _ from hB)
  replace h4F := (show Aside _ from h4F)
  replace h4B := (show Aside _ from h4B)
  replace hr := (show Aside _ from hr)
  replace hK := (show Aside _ from hK)
  refine k19.call mix ?_
  unfold c19
  refine seq_go ?_
  (repeat' first
    | simp (contextual := true) (maxSteps := 4000000) only [fwc, fwe, fww, reduceIte, ↓reduceIte, Nat.reduceAdd, Nat.reduceLeDiff, Nat.reduceEqDiff, Nat.reduceLT, Nat.reduceSub, reduceCtorEq, Int.reduceEq, Int.reduceLT, Int.reduceLE, Int.reduceNeg, Int.reduceToNat, Int.reduceAdd, Int.reduceSub, Nat.reduceMul, part_cell, part_agg, *]
    | (refine retK_now ?_)
    | (refine retK_now' ?_)
    | (intro q hq)
    | (refine cond_intro (fun hc => ?_) (fun hc => ?_)))
  refine seqK_now ?_
  refine seq_go ?_
  (repeat' first
    | simp (contextual := true) (maxSteps := 4000000) only [fwc, fwe, fww, reduceIte, ↓reduceIte, Nat.reduceAdd, Nat.reduceLeDiff, Nat.reduceEqDiff, Nat.reduceLT, Nat.reduceSub, reduceCtorEq, Int.reduceEq, Int.reduceLT, Int.reduceLE, Int.reduceNeg, Int.reduceToNat, Int.reduceAdd, Int.reduceSub, Nat.reduceMul, part_cell, part_agg, *]
    | (refine retK_now ?_)
    | (refine retK_now' ?_)
    | (intro q hq)
    | (refine cond_intro (fun hc => ?_) (fun hc => ?_)))
  refine seqK_now ?_
  refine seq_go ?_
  refine seq_go ?_
  (repeat' first
    | simp (contextual := true) (maxSteps := 4000000) only [fwc, fwe, fww, reduceIte, ↓reduceIte, Nat.reduceAdd, Nat.reduceLeDiff, Nat.reduceEqDiff, Nat.reduceLT, Nat.reduceSub, reduceCtorEq, Int.reduceEq, Int.reduceLT, Int.reduceLE, Int.reduceNeg, Int.reduceToNat, Int.reduceAdd, Int.reduceSub, Nat.reduceMul, part_cell, part_agg, *]
    | (refine retK_now ?_)
    | (refine retK_now' ?_)
    | (intro q hq)
    | (refine cond_intro (fun hc => ?_) (fun hc => ?_)))
  revert q
  intro q2 hq2
  refine seqK_now ?_
  obtain ⟨I, hI⟩ := hideI (fun m e O' => ∃ (t : Nat) (s : AV) (O0 : Heap), t ≤ 2 ∧ m = 2 - t ∧ O.sub O0 ∧ OwN 40 5 O0 O' s ((heldT F B r t).map Hd.av) ∧ e = e19a r s (.list 1 true [f, b]) t)
  (repeat' first
    | simp (contextual := true) (maxSteps := 4000000) only [fwc, fwe, fww, reduceIte, ↓reduceIte, Nat.reduceAdd, Nat.reduceLeDiff, Nat.reduceEqDiff, Nat.reduceLT, Nat.reduceSub, reduceCtorEq, Int.reduceEq, Int.reduceLT, Int.reduceLE, Int.reduceNeg, Int.reduceToNat, Int.reduceAdd, Int.reduceSub, Nat.reduceMul, part_cell, part_agg, *]
    | (refine retK_now ?_)
    | (refine retK_now' ?_)
    | (intro q hq)
    | (refine cond_intro (fun hc => ?_) (fun hc => ?_)))
  refine cmd_loop I 2 (by
    rw [hI.out]
    exact ⟨0, _, _, by omega, rfl, sub_upd hq2 (Heap.sub_refl _), OwN.nil, rfl⟩) ?_
  clear hq2
  intro m e O' hh
  rw [hI.out] at hh
  obtain ⟨t, s, O0, ht2, rfl, hO0, hs, rfl⟩ := hh
  unfold e19a
  have sc := hs.cells
  have sst := hs.stor
  replace hO0 := (show Aside _ from hO0)
  replace hs := (show Aside _ from hs)
  have dt : decide ((t : Int) < 2) = decide (t < 2) := decide_eq_decide.2 (by omega)
  by_cases ht : t < 2
  rotate_left
  · have e0 : decide (t < 2) = false := decide_eq_false ht
    have hte : t = 2 := by omega
    rw [hte] at hs
    replace ht := (show Aside _ from ht)
    replace hte := (show Aside _ from hte)
    (repeat' first
    | simp (contextual := true) (maxSteps := 4000000) only [fwc, fwe, fww, reduceIte, ↓reduceIte, Nat.reduceAdd, Nat.reduceLeDiff, Nat.reduceEqDiff, Nat.reduceLT, Nat.reduceSub, reduceCtorEq, Int.reduceEq, Int.reduceLT, Int.reduceLE, Int.reduceNeg, Int.reduceToNat, Int.reduceAdd, Int.reduceSub, Nat.reduceMul, *]
    | (refine seqK_now ?_)
    | (refine retK_now ?_)
    | (refine retK_now' ?_)
    | (intro q hq)
    | (refine cond_intro (fun hc => ?_) (fun hc => ?_)))
    refine SortN_ok O0 O' s _ hs.out (by have := hlen2.out; omega) hspot.out _ fun O2 r2 h2 => ?_
    have sc2 := h2.cells
    replace h2 := (show Aside _ from h2)
    (repeat' first
    | simp (contextual := true) (maxSteps := 4000000) only [fwc, fwe, fww, reduceIte, ↓reduceIte, Nat.reduceAdd, Nat.reduceLeDiff, Nat.reduceEqDiff, Nat.reduceLT, Nat.reduceSub, reduceCtorEq, Int.reduceEq, Int.reduceLT, Int.reduceLE, Int.reduceNeg, Int.reduceToNat, Int.reduceAdd, Int.reduceSub, Nat.reduceMul, *]
    | (refine seqK_now ?_)
    | (refine retK_now ?_)
    | (refine retK_now' ?_)
    | (intro q hq)
    | (refine cond_intro (fun hc => ?_) (fun hc => ?_)))
    refine ClipH_own s _ O0 O2 h2.out _ fun s7 h7 => ?_
    have sc7 := h7.cells
    have ss7 := h7.stor
    replace h7 := (show Aside _ from h7)
    (repeat' first
    | simp (contextual := true) (maxSteps := 4000000) only [fwc, fwe, fww, reduceIte, ↓reduceIte, Nat.reduceAdd, Nat.reduceLeDiff, Nat.reduceEqDiff, Nat.reduceLT, Nat.reduceSub, reduceCtorEq, Int.reduceEq, Int.reduceLT, Int.reduceLE, Int.reduceNeg, Int.reduceToNat, Int.reduceAdd, Int.reduceSub, Nat.reduceMul, *]
    | (refine seqK_now ?_)
    | (refine retK_now ?_)
    | (refine retK_now' ?_)
    | (intro q hq)
    | (refine cond_intro (fun hc => ?_) (fun hc => ?_)))
    exact hK.out _ _ _ hO0.out h7.out
  have e0 : decide (t < 2) = true := decide_eq_true ht
  obtain ⟨X, gs, G, hX, hIs, hnext, hG40, hG4, hbl⟩ := hpick.out t ht
  have hia0 := IsL.ia (show IsL 1 (.list 1 true [f, b]) [f, b] from .inr ⟨true, rfl⟩) (i := t) (by simpa using ht)
  rw [show [f, b][t] = X from by
    rw [List.getElem?_eq_getElem (by simpa using ht)] at hX
    exact Option.some.inj hX] at hia0
  have xc := hIs.1.cells
  have xs := hIs.1.stor
  have xl := hIs.1.len
  rw [hIs.2.1] at xl
  have wt : IntKind.i64.wrap ((t : Int) + 1) = ((t + 1 : Nat) : Int) := by rw [wrap_i64 (by omega) (by omega)]; omega
  have hut : IntKind.u8.wrap (t : Int) = (t : Int) := wrap_u8 (by omega) (by omega)
  replace ht := (show Aside _ from ht)
  replace hIs := (show Aside _ from hIs)
  replace hX := (show Aside _ from hX)
  replace hnext := (show Aside _ from hnext)
  replace hG40 := (show Aside _ from hG40)
  replace hG4 := (show Aside _ from hG4)
  replace hbl := (show Aside _ from hbl)
  (repeat' first
    | simp (contextual := true) (maxSteps := 4000000) only [fwc, fwe, fww, reduceIte, ↓reduceIte, Nat.reduceAdd, Nat.reduceLeDiff, Nat.reduceEqDiff, Nat.reduceLT, Nat.reduceSub, reduceCtorEq, Int.reduceEq, Int.reduceLT, Int.reduceLE, Int.reduceNeg, Int.reduceToNat, Int.reduceAdd, Int.reduceSub, Nat.reduceMul, *]
    | (refine retK_now ?_)
    | (refine retK_now' ?_)
    | (intro q hq)
    | (refine cond_intro (fun hc => ?_) (fun hc => ?_)))
  refine seqK_now ?_
  (repeat' first
    | simp (contextual := true) (maxSteps := 4000000) only [fwc, fwe, fww, reduceIte, ↓reduceIte, Nat.reduceAdd, Nat.reduceLeDiff, Nat.reduceEqDiff, Nat.reduceLT, Nat.reduceSub, reduceCtorEq, Int.reduceEq, Int.reduceLT, Int.reduceLE, Int.reduceNeg, Int.reduceToNat, Int.reduceAdd, Int.reduceSub, Nat.reduceMul, *]
    | (refine retK_now ?_)
    | (refine retK_now' ?_)
    | (intro q hq)
    | (refine cond_intro (fun hc => ?_) (fun hc => ?_)))
  refine seqK_now ?_
  (repeat' first
    | simp (contextual := true) (maxSteps := 4000000) only [fwc, fwe, fww, reduceIte, ↓reduceIte, Nat.reduceAdd, Nat.reduceLeDiff, Nat.reduceEqDiff, Nat.reduceLT, Nat.reduceSub, reduceCtorEq, Int.reduceEq, Int.reduceLT, Int.reduceLE, Int.reduceNeg, Int.reduceToNat, Int.reduceAdd, Int.reduceSub, Nat.reduceMul, part_cell, *]
    | (refine retK_now ?_)
    | (refine retK_now' ?_)
    | (intro q hq)
    | (refine cond_intro (fun hc => ?_) (fun hc => ?_)))
  refine seqK_now ?_
  (repeat' first
    | simp (contextual := true) (maxSteps := 4000000) only [fwc, fwe, fww, reduceIte, ↓reduceIte, Nat.reduceAdd, Nat.reduceLeDiff, Nat.reduceEqDiff, Nat.reduceLT, Nat.reduceSub, reduceCtorEq, Int.reduceEq, Int.reduceLT, Int.reduceLE, Int.reduceNeg, Int.reduceToNat, Int.reduceAdd, Int.reduceSub, Nat.reduceMul, part_cell, *]
    | (refine retK_now ?_)
    | (refine retK_now' ?_)
    | (intro q hq)
    | (refine cond_intro (fun hc => ?_) (fun hc => ?_)))
  refine seqK_now ?_
  obtain ⟨J, hJ⟩ := hideI (fun m e O' => ∃ (i : Nat) (s : AV) (O0 : Heap), i ≤ G.length ∧ m = G.length - i ∧ O.sub O0 ∧ OwN 40 5 O0 O' s ((heldT F B r t ++ heldN (t : Int) r G i).map Hd.av) ∧ e = e19b r s (.list 1 true [f, b]) t X G.length i)
  (repeat' first
    | simp (contextual := true) (maxSteps := 4000000) only [fwc, fwe, fww, reduceIte, ↓reduceIte, Nat.reduceAdd, Nat.reduceLeDiff, Nat.reduceEqDiff, Nat.reduceLT, Nat.reduceSub, reduceCtorEq, Int.reduceEq, Int.reduceLT, Int.reduceLE, Int.reduceNeg, Int.reduceToNat, Int.reduceAdd, Int.reduceSub, Nat.reduceMul, *]
    | (refine retK_now ?_)
    | (refine retK_now' ?_)
    | (intro q hq)
    | (refine cond_intro (fun hc => ?_) (fun hc => ?_)))
  refine cmd_loop J G.length (by
    rw [hJ.out]
    exact ⟨0, s, O0, Nat.zero_le _, rfl, hO0.out, by rw [show heldN (t : Int) r G 0 = [] from rfl, List.append_nil]; exact hs.out, rfl⟩) ?_
  clear hs hO0 sc sst O0 s
  intro m e O1 hh
  rw [hJ.out] at hh
  obtain ⟨i, s, O0, hiG, rfl, hO0, hs, rfl⟩ := hh
  unfold e19b
  have sc := hs.cells
  have sst := hs.stor
  replace hO0 := (show Aside _ from hO0)
  replace hs := (show Aside _ from hs)
  by_cases hi : i < G.length
  rotate_left
  · have e1 : decide (i < G.length) = false := decide_eq_false hi
    have hie : i = G.length := by omega
    rw [hie, ← hnext.out] at hs
    replace hi := (show Aside _ from hi)
    replace hie := (show Aside _ from hie)
    replace hiG := (show Aside _ from hiG)
    (repeat' first
    | simp (contextual := true) (maxSteps := 4000000) only [fwc, fwe, fww, reduceIte, ↓reduceIte, Nat.reduceAdd, Nat.reduceLeDiff, Nat.reduceEqDiff, Nat.reduceLT, Nat.reduceSub, reduceCtorEq, Int.reduceEq, Int.reduceLT, Int.reduceLE, Int.reduceNeg, Int.reduceToNat, Int.reduceAdd, Int.reduceSub, Nat.reduceMul, ilt_nat, *]
    | (refine seqK_now ?_)
    | (refine retK_now ?_)
    | (refine retK_now' ?_)
    | (intro q hq)
    | (refine cond_intro (fun hc => ?_) (fun hc => ?_)))
    refine loopK_now (2 - (t + 1)) (by have := ht.out; omega) ?_
    rw [hI.out]
    exact ⟨t + 1, s, O0, by have := ht.out; omega, rfl, hO0.out, hs.out, rfl⟩
  have e1 : decide (i < G.length) = true := decide_eq_true hi
  have hwi : i < 4611686018427387904 := by have := hG40.out; omega
  have hgi : i < gs.length := by rw [hIs.out.2.1]; exact hi
  have hib := hIs.out.2.2 i hgi hi
  have hia1 := IsL.ia hIs.out.1 (i := i) hgi
  have hgd : G.getD i [] = G[i] := by rw [List.getD_eq_getElem?_getD, List.getElem?_eq_getElem hi]; rfl
  have hl4 := hG4.out i
  rw [hgd] at hl4
  have hNl := heldN_len hG4.out (t : Int) r i
  have hsuc := heldN_succ (t : Int) r G i
  rw [hgd] at hsuc
  generalize gs[i] = Y at *
  generalize G[i] = W at *
  have yc := hib.cells
  have ys := hib.stor
  have yl := hib.len
  rw [List.length_map] at yl
  have hgood : (⟨(t : Int), ((i + 1 : Nat) : Int)⟩ : Ndl).bad = false := by
    unfold Ndl.bad
    simp only [Bool.or_eq_false_iff, decide_eq_false_iff_not]
    have := ht.out
    have := hG40.out
    omega
  have hSp := Spot_ok ⟨(t : Int), ((i + 1 : Nat) : Int)⟩ r
  rw [if_neg (by rw [hgood, hr.out]; simp)] at hSp
  rw [show (⟨(t : Int), ((i + 1 : Nat) : Int)⟩ : Ndl).av = .agg [.val (.int .u8 (t : Int)), .val (.int .i64 ((i + 1 : Nat) : Int))] from rfl] at hSp
  have hbase : (heldT F B r t ++ heldN (t : Int) r G i).length ≤ 320 := by rw [List.length_append]; have := hbl.out; have := hG40.out; omega
  obtain ⟨base, hbase2⟩ : ∃ L, heldT F B r t ++ heldN (t : Int) r G i = L := ⟨_, rfl⟩
  have hnx : heldT F B r t ++ heldN (t : Int) r G (i + 1) = base ++ held1 (t : Int) r i W := by rw [hsuc, ← List.append_assoc, hbase2]
  rw [hbase2] at hs hbase
  clear hsuc hgd
  replace hi := (show Aside _ from hi)
  replace hiG := (show Aside _ from hiG)
  replace hib := (show Aside _ from hib)
  replace hgood := (show Aside _ from hgood)
  replace hl4 := (show Aside _ from hl4)
  replace hNl := (show Aside _ from hNl)
  replace hbase := (show Aside _ from hbase)
  replace hbase2 := (show Aside _ from hbase2)
  replace hnx := (show Aside _ from hnx)
  (repeat' first
    | simp (contextual := true) (maxSteps := 4000000) only [fwc, fwe, fww, reduceIte, ↓reduceIte, Nat.reduceAdd, Nat.reduceLeDiff, Nat.reduceEqDiff, Nat.reduceLT, Nat.reduceSub, reduceCtorEq, Int.reduceEq, Int.reduceLT, Int.reduceLE, Int.reduceNeg, Int.reduceToNat, Int.reduceAdd, Int.reduceSub, Nat.reduceMul, ilt_nat, *]
    | (refine retK_now ?_)
    | (refine retK_now' ?_)
    | (intro q hq)
    | (refine cond_intro (fun hc => ?_) (fun hc => ?_)))
  refine seqK_now ?_
  (repeat' first
    | simp (contextual := true) (maxSteps := 4000000) only [fwc, fwe, fww, reduceIte, ↓reduceIte, Nat.reduceAdd, Nat.reduceLeDiff, Nat.reduceEqDiff, Nat.reduceLT, Nat.reduceSub, reduceCtorEq, Int.reduceEq, Int.reduceLT, Int.reduceLE, Int.reduceNeg, Int.reduceToNat, Int.reduceAdd, Int.reduceSub, Nat.reduceMul, ilt_nat, *]
    | (refine retK_now ?_)
    | (refine retK_now' ?_)
    | (intro q hq)
    | (refine cond_intro (fun hc => ?_) (fun hc => ?_)))
  refine seqK_now ?_
  (repeat' first
    | simp (contextual := true) (maxSteps := 4000000) only [fwc, fwe, fww, reduceIte, ↓reduceIte, Nat.reduceAdd, Nat.reduceLeDiff, Nat.reduceEqDiff, Nat.reduceLT, Nat.reduceSub, reduceCtorEq, Int.reduceEq, Int.reduceLT, Int.reduceLE, Int.reduceNeg, Int.reduceToNat, Int.reduceAdd, Int.reduceSub, Nat.reduceMul, part_cell, ilt_nat, *]
    | (refine retK_now ?_)
    | (refine retK_now' ?_)
    | (intro q hq)
    | (refine cond_intro (fun hc => ?_) (fun hc => ?_)))
  refine seqK_now ?_
  (repeat' first
    | simp (contextual := true) (maxSteps := 4000000) only [fwc, fwe, fww, reduceIte, ↓reduceIte, Nat.reduceAdd, Nat.reduceLeDiff, Nat.reduceEqDiff, Nat.reduceLT, Nat.reduceSub, reduceCtorEq, Int.reduceEq, Int.reduceLT, Int.reduceLE, Int.reduceNeg, Int.reduceToNat, Int.reduceAdd, Int.reduceSub, Nat.reduceMul, part_cell, part_agg, ilt_nat, wrap_succ, *]
    | (refine retK_now ?_)
    | (refine retK_now' ?_)
    | (intro q hq)
    | (refine cond_intro (fun hc => ?_) (fun hc => ?_)))
  revert q
  intro q10 hq10
  refine seqK_now ?_
  have o10 := own_none hs.out hq10
  have sub10 := sub_new hO0.out o10 (v := .arr 38 2 [.agg [.val (.int .u8 (t : Int)), .val (.int .i64 ((i + 1 : Nat) : Int))]])
  have own10 := own_new hs.out (x := .arr 38 2 [.agg [.val (.int .u8 (t : Int)), .val (.int .i64 ((i + 1 : Nat) : Int))]]) hq10
  have w10 : (O0.upd q10 (.arr 38 2 [.agg [.val (.int .u8 (t : Int)), .val (.int .i64 ((i + 1 : Nat) : Int))]])) q10 = some (.arr 38 2 [.agg [.val (.int .u8 (t : Int)), .val (.int .i64 ((i + 1 : Nat) : Int))]]) := Heap.upd_same _ _ _
  replace sub10 := (show Aside _ from sub10)
  replace own10 := (show Aside _ from own10)
  replace w10 := (show Aside _ from w10)
  replace o10 := (show Aside _ from o10)
  (repeat' first
    | simp (contextual := true) (maxSteps := 4000000) only [fwc, fwe, fww, reduceIte, ↓reduceIte, Nat.reduceAdd, Nat.reduceLeDiff, Nat.reduceEqDiff, Nat.reduceLT, Nat.reduceSub, reduceCtorEq, Int.reduceEq, Int.reduceLT, Int.reduceLE, Int.reduceNeg, Int.reduceToNat, Int.reduceAdd, Int.reduceSub, Nat.reduceMul, part_cell, part_agg, ilt_nat, wrap_succ, *]
    | (refine retK_now ?_)
    | (refine retK_now' ?_)
    | (intro q hq)
    | (refine cond_intro (fun hc => ?_) (fun hc => ?_)))
  refine seqK_now ?_
  obtain ⟨T, hT⟩ := hideI (fun m e O' => ∃ (k : Nat) (s : AV) (O2 : Heap), k ≤ W.length ∧ m = W.length - k ∧ O.sub O2 ∧ O2 q10 = some (.arr 38 2 [.agg [.val (.int .u8 (t : Int)), .val (.int .i64 ((i + 1 : Nat) : Int))]]) ∧ OwN 40 5 O2 O' s ((base ++ held1 (t : Int) r i (W.take k)).map Hd.av) ∧ e = e19c r s (.list 1 true [f, b]) t X G.length i q10 Y W.length k)
  (repeat' first
    | simp (contextual := true) (maxSteps := 4000000) only [fwc, fwe, fww, reduceIte, ↓reduceIte, Nat.reduceAdd, Nat.reduceLeDiff, Nat.reduceEqDiff, Nat.reduceLT, Nat.reduceSub, reduceCtorEq, Int.reduceEq, Int.reduceLT, Int.reduceLE, Int.reduceNeg, Int.reduceToNat, Int.reduceAdd, Int.reduceSub, Nat.reduceMul, *]
    | (refine retK_now ?_)
    | (refine retK_now' ?_)
    | (intro q hq)
    | (refine cond_intro (fun hc => ?_) (fun hc => ?_)))
  refine cmd_loop T W.length (by
    rw [hT.out]
    exact ⟨0, s, _, Nat.zero_le _, rfl, sub10.out, w10.out, by rw [List.take_zero]; rw [show held1 (t : Int) r i [] = [] from rfl, List.append_nil]; exact own10.out, rfl⟩) ?_
  clear hs own10 w10 sub10 hq10 o10 hO0 sc sst
  intro m e O2 hh
  rw [hT.out] at hh
  obtain ⟨k, s3, O4, hk4, rfl, hO4, hw4, hs3, rfl⟩ := hh
  unfold e19c
  have f10 := hs3.at_ hw4
  have sc := hs3.cells
  have sst := hs3.stor
  replace hO4 := (show Aside _ from hO4)
  replace hw4 := (show Aside _ from hw4)
  replace hs3 := (show Aside _ from hs3)
  by_cases hk : k < W.length
  rotate_left
  · have e2 : decide (k < W.length) = false := decide_eq_false hk
    have hke : k = W.length := by omega
    replace hk := (show Aside _ from hk)
    rw [hke, List.take_length] at hs3
    replace hke := (show Aside _ from hke)
    replace hk4 := (show Aside _ from hk4)
    (repeat' first
    | simp (contextual := true) (maxSteps := 4000000) only [fwc, fwe, fww, reduceIte, ↓reduceIte, Nat.reduceAdd, Nat.reduceLeDiff, Nat.reduceEqDiff, Nat.reduceLT, Nat.reduceSub, reduceCtorEq, Int.reduceEq, Int.reduceLT, Int.reduceLE, Int.reduceNeg, Int.reduceToNat, Int.reduceAdd, Int.reduceSub, Nat.reduceMul, ilt_nat, part_cell, part_agg, wrap_succ, *]
    | (refine seqK_now ?_)
    | (refine retK_now ?_)
    | (refine retK_now' ?_)
    | (intro q hq)
    | (refine cond_intro (fun hc => ?_) (fun hc => ?_)))
    refine loopK_now (G.length - (i + 1)) (by have := hi.out; omega) ?_
    rw [hJ.out]
    refine ⟨i + 1, s3, O4, by have := hi.out; omega, rfl, hO4.out, ?_, rfl⟩
    rw [hnx.out]
    exact hs3.out
  have e2 : decide (k < W.length) = true := decide_eq_true hk
  have hwk : k < 4611686018427387904 := by have := hl4.out; omega
  have hia2 := IsL.ia hib.out (i := k) (by rw [List.length_map]; exact hk)
  rw [List.getElem_map] at hia2
  have htk : held1 (t : Int) r i (W.take (k + 1)) = held1 (t : Int) r i (W.take k) ++ [⟨W[k], (t : Int), ((i + 1 : Nat) : Int), spotL ⟨(t : Int), ((i + 1 : Nat) : Int)⟩ r⟩] := by
    unfold held1
    rw [List.take_add_one, List.getElem?_eq_getElem hk, List.map_append]
    rfl
  have htl : (held1 (t : Int) r i (W.take k)).length ≤ 4 := by
    have := List.length_take_le k W
    have := hl4.out
    unfold held1
    rw [List.length_map]
    omega
  generalize W[k] = y at *
  rw [show y.av = .agg [.val (.int .u8 y.y), .val (.int .i64 y.n)] from rfl] at hia2
  replace hk := (show Aside _ from hk)
  replace hk4 := (show Aside _ from hk4)
  replace htk := (show Aside _ from htk)
  replace htl := (show Aside _ from htl)
  (repeat' first
    | simp (contextual := true) (maxSteps := 4000000) only [fwc, fwe, fww, reduceIte, ↓reduceIte, Nat.reduceAdd, Nat.reduceLeDiff, Nat.reduceEqDiff, Nat.reduceLT, Nat.reduceSub, reduceCtorEq, Int.reduceEq, Int.reduceLT, Int.reduceLE, Int.reduceNeg, Int.reduceToNat, Int.reduceAdd, Int.reduceSub, Nat.reduceMul, ilt_nat, part_cell, part_agg, *]
    | (refine retK_now ?_)
    | (refine retK_now' ?_)
    | (intro q hq)
    | (refine cond_intro (fun hc => ?_) (fun hc => ?_)))
  refine seqK_now ?_
  (repeat' first
    | simp (contextual := true) (maxSteps := 4000000) only [fwc, fwe, fww, reduceIte, ↓reduceIte, Nat.reduceAdd, Nat.reduceLeDiff, Nat.reduceEqDiff, Nat.reduceLT, Nat.reduceSub, reduceCtorEq, Int.reduceEq, Int.reduceLT, Int.reduceLE, Int.reduceNeg, Int.reduceToNat, Int.reduceAdd, Int.reduceSub, Nat.reduceMul, ilt_nat, part_cell, part_agg, *]
    | (refine retK_now ?_)
    | (refine retK_now' ?_)
    | (intro q hq)
    | (refine cond_intro (fun hc => ?_) (fun hc => ?_)))
  refine seqK_now ?_
  (repeat' first
    | simp (contextual := true) (maxSteps := 4000000) only [fwc, fwe, fww, reduceIte, ↓reduceIte, Nat.reduceAdd, Nat.reduceLeDiff, Nat.reduceEqDiff, Nat.reduceLT, Nat.reduceSub, reduceCtorEq, Int.reduceEq, Int.reduceLT, Int.reduceLE, Int.reduceNeg, Int.reduceToNat, Int.reduceAdd, Int.reduceSub, Nat.reduceMul, ilt_nat, part_cell, part_agg, *]
    | (refine retK_now ?_)
    | (refine retK_now' ?_)
    | (intro q hq)
    | (refine cond_intro (fun hc => ?_) (fun hc => ?_)))
  revert q
  intro q12 hq12
  refine seqK_now ?_
  have o12 := own_none hs3.out hq12
  have sub12 := sub_new hO4.out o12 (v := .arr 35 2 [.agg [.val (.int .u8 y.y), .val (.int .i64 y.n)]])
  have own12 := own_new hs3.out (x := .arr 35 2 [.agg [.val (.int .u8 y.y), .val (.int .i64 y.n)]]) hq12
  have v12 := upd_keep (v := .arr 35 2 [.agg [.val (.int .u8 y.y), .val (.int .i64 y.n)]]) o12 hw4.out
  have n1012 := ne_of f10 hq12
  replace sub12 := (show Aside _ from sub12)
  replace own12 := (show Aside _ from own12)
  replace v12 := (show Aside _ from v12)
  replace o12 := (show Aside _ from o12)
  (repeat' first
    | simp (contextual := true) (maxSteps := 4000000) only [fwc, fwe, fww, reduceIte, ↓reduceIte, Nat.reduceAdd, Nat.reduceLeDiff, Nat.reduceEqDiff, Nat.reduceLT, Nat.reduceSub, reduceCtorEq, Int.reduceEq, Int.reduceLT, Int.reduceLE, Int.reduceNeg, Int.reduceToNat, Int.reduceAdd, Int.reduceSub, Nat.reduceMul, ilt_nat, part_cell, part_agg, *]
    | (refine retK_now ?_)
    | (refine retK_now' ?_)
    | (intro q hq)
    | (refine cond_intro (fun hc => ?_) (fun hc => ?_)))
  refine callF_use hSp ?_
  (repeat' first
    | simp (contextual := true) (maxSteps := 4000000) only [fwc, fwe, fww, reduceIte, ↓reduceIte, Nat.reduceAdd, Nat.reduceLeDiff, Nat.reduceEqDiff, Nat.reduceLT, Nat.reduceSub, reduceCtorEq, Int.reduceEq, Int.reduceLT, Int.reduceLE, Int.reduceNeg, Int.reduceToNat, Int.reduceAdd, Int.reduceSub, Nat.reduceMul, ilt_nat, part_cell, part_agg, *]
    | (refine retK_now ?_)
    | (refine retK_now' ?_)
    | (intro q hq)
    | (refine cond_intro (fun hc => ?_) (fun hc => ?_)))
  refine own_app (bytes := 40) own12.out (X := [Hd.av ⟨y, (t : Int), ((i + 1 : Nat) : Int), spotL ⟨(t : Int), ((i + 1 : Nat) : Int)⟩ r⟩]) (.inr ⟨true, rfl⟩) (fits_of (by have := hbase.out; have := htl.out; simp only [List.length_append, List.length_map, List.length_cons, List.length_nil] at this ⊢; omega) (by omega)) fun s5 O5 h5 => ?_
  have sc5 := h5.cells
  have sst5 := h5.stor
  replace h5 := (show Aside _ from h5)
  (repeat' first
    | simp (contextual := true) (maxSteps := 4000000) only [fwc, fwe, fww, reduceIte, ↓reduceIte, Nat.reduceAdd, Nat.reduceLeDiff, Nat.reduceEqDiff, Nat.reduceLT, Nat.reduceSub, reduceCtorEq, Int.reduceEq, Int.reduceLT, Int.reduceLE, Int.reduceNeg, Int.reduceToNat, Int.reduceAdd, Int.reduceSub, Nat.reduceMul, ilt_nat, part_cell, part_agg, wrap_succ, *]
    | (refine seqK_now ?_)
    | (refine retK_now ?_)
    | (refine retK_now' ?_)
    | (intro q hq)
    | (refine cond_intro (fun hc => ?_) (fun hc => ?_)))
  refine loopK_now (W.length - (k + 1)) (by have := hk.out; omega) ?_
  rw [hT.out]
  refine ⟨k + 1, s5, _, by have := hk.out; omega, rfl, sub12.out, v12.out, ?_, rfl⟩
  rw [htk.out, ← List.append_assoc, List.map_append]
  exact h5.out

theorem list_ok {x : AV} {F B : List (List Id)} (h : IsBeds x F B) (hF : F.length ≤ 40) (hB : B.length ≤ 40) (h4F : ∀ i, (F.getD i []).length ≤ 4) (h4B : ∀ i, (B.getD i []).length ≤ 4) (r : Int) (hr : rackOK r = true) :
    PureA Try.prog 19 [x, .val (.int .i64 r)] (tA 5 ((bySpot (heldT F B r 2)).map Hd.av)) := fun O =>
  list_gen h hF hB h4F h4B r hr O _ fun s O0 O2 h1 h2 => OwC.pure h1 h2
theorem List_ok {x : AV} {F B : List (List Id)} (h : IsBeds x F B) (hc : checkL F B = 0) (hF : F.length ≤ 40) (hB : B.length ≤ 40) (h4F : ∀ i, (F.getD i []).length ≤ 4) (h4B : ∀ i, (B.getD i []).length ≤ 4) (r : Int) :
    PureA Try.prog 8 [x, .val (.int .i64 r)] (if rackOK r = true then .tup [tA 5 ((bySpot (heldT F B r 2)).map Hd.av), .val (.int .i64 0)] else .tup [.val (.slice none 0 0), .val (.int .i64 11)]) := by
  have hu := usual_ok h hc r
  have hl := fun hr => list_ok h hF hB h4F h4B r hr
  obtain ⟨f, b, rfl, c1, c2, s1, s2, _, _⟩ := h.cells
  clear h
  have d0 : decide ((0 : Int) = 0) = true := by decide
  have d1 : decide ((11 : Int) = 0) = false := by decide
  replace hc := (show Aside _ from hc)
  replace hF := (show Aside _ from hF)
  replace hB := (show Aside _ from hB)
  replace h4F := (show Aside _ from h4F)
  replace h4B := (show Aside _ from h4B)
  intro O
  refine k8.call mix ?_
  unfold c8
  by_cases hr : rackOK r = true
  · have hl := hl hr
    rw [if_pos hr] at hu
    rw [if_pos hr]
    have tc := (tA_T 5 ((bySpot (heldT F B r 2)).map Hd.av)).isL.cells
    have ts := (tA_T 5 ((bySpot (heldT F B r 2)).map Hd.av)).isL.stor
    generalize tA 5 ((bySpot (heldT F B r 2)).map Hd.av) = R at *
    replace hr := (show Aside _ from hr)
    (repeat' first
    | simp (contextual := true) (maxSteps := 4000000) only [fwc, fwe, fww, reduceIte, ↓reduceIte, Nat.reduceAdd, Nat.reduceLeDiff, Nat.reduceEqDiff, Nat.reduceLT, Nat.reduceSub, reduceCtorEq, Int.reduceEq, Int.reduceLT, Int.reduceLE, Int.reduceNeg, Int.reduceToNat, Int.reduceAdd, Int.reduceSub, Nat.reduceMul, part_cell, part_agg, *]
    | (refine seqK_now ?_)
    | (refine retK_now ?_)
    | (refine retK_now' ?_)
    | (intro q hq)
    | (refine cond_intro (fun hc => ?_) (fun hc => ?_)))
    refine hu.use ?_
    (repeat' first
    | simp (contextual := true) (maxSteps := 4000000) only [fwc, fwe, fww, reduceIte, ↓reduceIte, Nat.reduceAdd, Nat.reduceLeDiff, Nat.reduceEqDiff, Nat.reduceLT, Nat.reduceSub, reduceCtorEq, Int.reduceEq, Int.reduceLT, Int.reduceLE, Int.reduceNeg, Int.reduceToNat, Int.reduceAdd, Int.reduceSub, Nat.reduceMul, part_cell, part_agg, *]
    | (refine seqK_now ?_)
    | (refine retK_now ?_)
    | (refine retK_now' ?_)
    | (intro q hq)
    | (refine cond_intro (fun hc => ?_) (fun hc => ?_)))
    refine hl.use ?_
    (repeat' first
    | simp (contextual := true) (maxSteps := 4000000) only [fwc, fwe, fww, reduceIte, ↓reduceIte, Nat.reduceAdd, Nat.reduceLeDiff, Nat.reduceEqDiff, Nat.reduceLT, Nat.reduceSub, reduceCtorEq, Int.reduceEq, Int.reduceLT, Int.reduceLE, Int.reduceNeg, Int.reduceToNat, Int.reduceAdd, Int.reduceSub, Nat.reduceMul, part_cell, part_agg, *]
    | (refine seqK_now ?_)
    | (refine retK_now ?_)
    | (refine retK_now' ?_)
    | (intro q hq)
    | (refine cond_intro (fun hc => ?_) (fun hc => ?_)))
    refine WeakR.pure (sub_upd hq (Heap.sub_refl _)) ?_
    rfl
  · rw [if_neg hr] at hu
    rw [if_neg hr]
    clear hl
    replace hr := (show Aside _ from hr)
    (repeat' first
    | simp (contextual := true) (maxSteps := 4000000) only [fwc, fwe, fww, reduceIte, ↓reduceIte, Nat.reduceAdd, Nat.reduceLeDiff, Nat.reduceEqDiff, Nat.reduceLT, Nat.reduceSub, reduceCtorEq, Int.reduceEq, Int.reduceLT, Int.reduceLE, Int.reduceNeg, Int.reduceToNat, Int.reduceAdd, Int.reduceSub, Nat.reduceMul, part_cell, part_agg, *]
    | (refine seqK_now ?_)
    | (refine retK_now ?_)
    | (refine retK_now' ?_)
    | (intro q hq)
    | (refine cond_intro (fun hc => ?_) (fun hc => ?_)))
    refine hu.use ?_
    (repeat' first
    | simp (contextual := true) (maxSteps := 4000000) only [fwc, fwe, fww, reduceIte, ↓reduceIte, Nat.reduceAdd, Nat.reduceLeDiff, Nat.reduceEqDiff, Nat.reduceLT, Nat.reduceSub, reduceCtorEq, Int.reduceEq, Int.reduceLT, Int.reduceLE, Int.reduceNeg, Int.reduceToNat, Int.reduceAdd, Int.reduceSub, Nat.reduceMul, part_cell, part_agg, *]
    | (refine seqK_now ?_)
    | (refine retK_now ?_)
    | (refine retK_now' ?_)
    | (intro q hq)
    | (refine cond_intro (fun hc => ?_) (fun hc => ?_)))
    refine WeakR.pure (sub_upd hq (Heap.sub_refl _)) ?_
    rfl
end Go.Proofs.Ytembkknplmcamaa

namespace Go.Proofs.Ytembkknplmcamaa
open Go.Ab
attribute [local irreducible] WeakR WeakE CallA YieldA

/-! listed, and that the stable sort is what it gives. -/
def lis1 (F B : List (List Id)) (r sp : Int) (i : Nat) : List Hd := if spotL (needleL i) r = sp then (atL F B (needleL i)).map fun p => (⟨p, (needleL i).bed, (needleL i).at_, sp⟩ : Hd) else []
def lisN (F B : List (List Id)) (r sp : Int) (n : Nat) : List Hd := (List.range n).flatMap (lis1 F B r sp)
def lisA (F B : List (List Id)) (r : Int) (n : Nat) : List Hd := (List.range n).flatMap fun a : Nat => lisN F B r (-12 + 2 * (a : Int)) 80
theorem lisN_succ (F B : List (List Id)) (r sp : Int) (n : Nat) : lisN F B r sp (n + 1) = lisN F B r sp n ++ lis1 F B r sp n := by
  unfold lisN
  rw [List.range_succ, List.flatMap_append]
  simp
theorem lisA_succ (F B : List (List Id)) (r : Int) (n : Nat) : lisA F B r (n + 1) = lisA F B r n ++ lisN F B r (-12 + 2 * (n : Int)) 80 := by
  unfold lisA
  rw [List.range_succ, List.flatMap_append]
  simp
theorem lis1_len {F B : List (List Id)} (h : ∀ n, (atL F B n).length ≤ 4) (r sp : Int) (i : Nat) : (lis1 F B r sp i).length ≤ 4 := by
  unfold lis1
  split
  · rw [List.length_map]; exact h _
  · simp
theorem lisN_len {F B : List (List Id)} (h : ∀ n, (atL F B n).length ≤ 4) (r sp : Int) : ∀ n, (lisN F B r sp n).length ≤ 4 * n
  | 0 => by simp [lisN]
  | n + 1 => by
    have h1 := lisN_len h r sp n
    have h2 := lis1_len h r sp n
    rw [lisN_succ, List.length_append]
    omega
theorem lisA_len {F B : List (List Id)} (h : ∀ n, (atL F B n).length ≤ 4) (r : Int) : ∀ n, (lisA F B r n).length ≤ 320 * n
  | 0 => by simp [lisA]
  | n + 1 => by
    have h1 := lisA_len h r n
    have h2 := lisN_len h r (-12 + 2 * (n : Int)) 80
    rw [lisA_succ, List.length_append]
    omega
theorem heldN_more {bd r : Int} {G : List (List Id)} {n : Nat} (h : G.length ≤ n) : heldN bd r G n = heldN bd r G G.length := by
  induction n with
  | zero => rw [show G.length = 0 by omega]
  | succ n ih =>
    by_cases he : G.length = n + 1
    · rw [he]
    · have hg : G.getD n [] = [] := by rw [List.getD_eq_getElem?_getD, List.getElem?_eq_none (by omega)]; rfl
      rw [heldN_succ, ih (by omega), hg]
      simp [held1]
theorem held1_flt (bd r s : Int) (i : Nat) (l : List Id) : (held1 bd r i l).filter (fun x => decide (x.spot = s)) = if spotL ⟨bd, ((i + 1 : Nat) : Int)⟩ r = s then l.map (fun p => (⟨p, bd, ((i + 1 : Nat) : Int), s⟩ : Hd)) else [] := by
  unfold held1
  rw [List.filter_map]
  split
  · rename_i h
    rw [show (List.filter ((fun x : Hd => decide (x.spot = s)) ∘ fun p => (⟨p, bd, ((i + 1 : Nat) : Int), spotL ⟨bd, ((i + 1 : Nat) : Int)⟩ r⟩ : Hd)) l) = l from List.filter_eq_self.2 fun p _ => decide_eq_true h, h]
  · rename_i h
    rw [show (List.filter ((fun x : Hd => decide (x.spot = s)) ∘ fun p => (⟨p, bd, ((i + 1 : Nat) : Int), spotL ⟨bd, ((i + 1 : Nat) : Int)⟩ r⟩ : Hd)) l) = [] from List.filter_eq_nil_iff.2 fun p _ => by show ¬ decide (spotL ⟨bd, ((i + 1 : Nat) : Int)⟩ r = s) = true; rw [decide_eq_true_eq]; exact h]
    rfl
theorem fm_congr {α β : Type} {l : List α} {f g : α → List β} (h : ∀ a ∈ l, f a = g a) : l.flatMap f = l.flatMap g := by
  induction l with
  | nil => rfl
  | cons a l ih => rw [List.flatMap_cons, List.flatMap_cons, h a List.mem_cons_self, ih fun b hb => h b (List.mem_cons_of_mem _ hb)]
theorem heldN_flt (bd r s : Int) (G : List (List Id)) (n : Nat) : (heldN bd r G n).filter (fun x => decide (x.spot = s)) = (List.range n).flatMap fun i => if spotL ⟨bd, ((i + 1 : Nat) : Int)⟩ r = s then (G.getD i []).map (fun p => (⟨p, bd, ((i + 1 : Nat) : Int), s⟩ : Hd)) else [] := by
  unfold heldN
  rw [List.filter_flatMap]
  exact fm_congr fun i _ => held1_flt bd r s i _
theorem needle_lo' {i : Nat} (hi : i < 40) : needleL i = ⟨0, ((i + 1 : Nat) : Int)⟩ := by
  unfold needleL
  congr 1 <;> omega
theorem needle_hi' {i : Nat} (hi : i < 40) : needleL (40 + i) = ⟨1, ((i + 1 : Nat) : Int)⟩ := by
  unfold needleL
  congr 1 <;> omega
theorem held_lis {F B : List (List Id)} (hF : F.length ≤ 40) (hB : B.length ≤ 40) (r s : Int) : (heldT F B r 2).filter (fun x => decide (x.spot = s)) = lisN F B r s 80 := by
  show ((heldN 0 r F F.length ++ heldN 1 r B B.length).filter _) = _
  rw [← heldN_more (n := 40) hF, ← heldN_more (n := 40) hB, List.filter_append, heldN_flt, heldN_flt]
  unfold lisN
  rw [show (80 : Nat) = 40 + 40 from rfl, List.range_add, List.flatMap_append, List.flatMap_map]
  have e0 : ∀ (A B C D : List Hd), A = C → B = D → A ++ B = C ++ D := fun A B C D h1 h2 => by rw [h1, h2]
  refine e0 _ _ _ _ (fm_congr fun i hi => ?_) (fm_congr fun i hi => ?_)
  · have hi' := List.mem_range.1 hi
    have ha := at_needle F B i (by omega)
    rw [if_pos hi'] at ha
    unfold lis1
    rw [ha, needle_lo' hi']
  · have hi' := List.mem_range.1 hi
    have ha := at_needle F B (40 + i) (by omega)
    rw [if_neg (by omega), show 40 + i - 40 = i by omega] at ha
    unfold lis1
    rw [ha, needle_hi' hi']
theorem list_listed {F B : List (List Id)} (hF : F.length ≤ 40) (hB : B.length ≤ 40) (r : Int) : bySpot (heldT F B r 2) = lisA F B r 95 := by
  unfold bySpot lisA
  exact fm_congr fun a _ => held_lis hF hB r _
theorem tab_le4 {T : List (List Id)} {n : Nat} (h : TabOK T n) : (∀ i, ((bedsF T).getD i []).length ≤ 4) ∧ (∀ i, ((bedsB T).getD i []).length ≤ 4) := by
  have key : ∀ i, (T.getD i []).length ≤ 4 := fun i => by
    rw [List.getD_eq_getElem?_getD]
    by_cases hi : i < T.length
    · rw [List.getElem?_eq_getElem hi]; exact h.le _ (List.getElem_mem hi)
    · rw [List.getElem?_eq_none (by omega)]; simp
  constructor
  · intro i
    rw [List.getD_eq_getElem?_getD]
    by_cases hi : i < (bedsF T).length
    · rw [List.getElem?_eq_getElem hi]
      simp only [bedsF, List.getElem_map, Option.getD_some]
      exact key _
    · rw [List.getElem?_eq_none (by omega)]; simp
  · intro i
    rw [List.getD_eq_getElem?_getD]
    by_cases hi : i < (bedsB T).length
    · rw [List.getElem?_eq_getElem hi]
      simp only [bedsB, List.getElem_map, Option.getD_some]
      exact key _
    · rw [List.getElem?_eq_none (by omega)]; simp
theorem at_le4' {T : List (List Id)} {n : Nat} (h : TabOK T n) (u : Ndl) : (atL (bedsF T) (bedsB T) u).length ≤ 4 := by
  unfold atL
  split
  · simp
  · split
    · exact (tab_le4 h).2 _
    · exact (tab_le4 h).1 _
theorem beds_40 (T : List (List Id)) : (bedsF T).length ≤ 40 ∧ (bedsB T).length ≤ 40 := by
  constructor
  · simp only [bedsF, List.length_map, List.length_range]; exact trF_le T
  · simp only [bedsB, List.length_map, List.length_range]; exact trB_le T
end Go.Proofs.Ytembkknplmcamaa

namespace Go.Proofs.Ytembkknplmcamaa
open Go.Ab
attribute [local irreducible] WeakR WeakE CallA YieldA

/-! Reverse of passes of one's own; Between. -/
def zPs : Ps := ⟨⟨0, 0⟩, false, 0⟩
def rvP (L : List Ps) (k : Nat) : List Ps := (List.range L.length).map fun j => if j < k ∨ L.length ≤ j + k then L.getD (L.length - 1 - j) zPs else L.getD j zPs
theorem rvP_len (L : List Ps) (k : Nat) : (rvP L k).length = L.length := by simp [rvP]
theorem rvP_at (L : List Ps) (k i : Nat) (h : i < (rvP L k).length) : (rvP L k)[i] = if i < k ∨ L.length ≤ i + k then L.getD (L.length - 1 - i) zPs else L.getD i zPs := by
  simp only [rvP, List.getElem_map, List.getElem_range]
theorem rvP_zero (L : List Ps) : rvP L 0 = L := by
  refine List.ext_getElem (rvP_len _ _) fun i h1 h2 => ?_
  rw [rvP_at, if_neg (by omega), List.getD_eq_getElem?_getD, List.getElem?_eq_getElem h2]
  rfl
theorem rvP_end (L : List Ps) (k : Nat) (h : ¬ k < L.length - 1 - k) : rvP L k = L.reverse := by
  refine List.ext_getElem (by simp [rvP_len]) fun i h1 h2 => ?_
  rw [rvP_len] at h1
  rw [rvP_at, List.getElem_reverse]
  by_cases hc : i < k ∨ L.length ≤ i + k
  · rw [if_pos hc, List.getD_eq_getElem?_getD, List.getElem?_eq_getElem (by omega)]
    rfl
  · rw [if_neg hc, List.getD_eq_getElem?_getD, List.getElem?_eq_getElem h1]
    simp only [Option.getD_some]
    congr 1
    omega
theorem rvP_step (L : List Ps) (k : Nat) (h : k < L.length - 1 - k) (h1 : k < L.length) (h2 : L.length - 1 - k < L.length) : (((rvP L k).map Ps.av).set k (L[L.length - 1 - k]).av).set (L.length - 1 - k) (L[k]).av = (rvP L (k + 1)).map Ps.av := by
  refine List.ext_getElem (by simp [rvP_len]) fun i g1 g2 => ?_
  have hi : i < L.length := by simpa [rvP_len] using g2
  rw [List.getElem_set, List.getElem_set, List.getElem_map, List.getElem_map, rvP_at, rvP_at]
  by_cases c1 : L.length - 1 - k = i
  · rw [if_pos c1, if_pos (by omega), List.getD_eq_getElem?_getD, List.getElem?_eq_getElem (by omega)]
    simp only [Option.getD_some]
    congr 2
    omega
  · rw [if_neg c1]
    by_cases c2 : k = i
    · rw [if_pos c2, if_pos (by omega), List.getD_eq_getElem?_getD, List.getElem?_eq_getElem (by omega)]
      simp only [Option.getD_some]
      congr 2
      omega
    · rw [if_neg c2]
      congr 1
      by_cases c3 : i < k ∨ L.length ≤ i + k
      · rw [if_pos c3, if_pos (by omega)]
      · rw [if_neg c3, if_neg (by omega)]
theorem rvP_get (L : List Ps) (k j : Nat) (h : j < L.length) (h1 : ¬ (j < k ∨ L.length ≤ j + k)) (R : List AV) : ((rvP L k).map Ps.av ++ R)[j]? = some (L[j]).av := by
  rw [List.getElem?_append_left (by simp [rvP_len]; omega), List.getElem?_map, List.getElem?_eq_getElem (by rw [rvP_len]; exact h), rvP_at, if_neg h1, List.getD_eq_getElem?_getD, List.getElem?_eq_getElem h]
  rfl
theorem rvP_set (L : List Ps) (k : Nat) (h : k < L.length - 1 - k) (h1 : k < L.length) (h2 : L.length - 1 - k < L.length) (R : List AV) : (((rvP L k).map Ps.av ++ R).set k (L[L.length - 1 - k]).av).set (L.length - 1 - k) (L[k]).av = (rvP L (k + 1)).map Ps.av ++ R := by
  rw [List.set_append_left _ _ (by simp [rvP_len]; omega), List.set_append_left _ _ (by simp [rvP_len]; omega), rvP_step L k h h1 h2]
def env32 (s : AV) (k m : Nat) : Env := ((Env.upd (fun _ => .junk) 3 (.val (.int .i64 m))).upd 2 (.val (.int .i64 k))).upd 0 s

theorem ReverseP_ok (s : AV) (L : List Ps) (O0 O1 : Heap) (h : OwN 54 4 O0 O1 s (L.map Ps.av)) (hl : L.length ≤ 1048576) (K : AV → Heap → Prop) (hk : ∀ r O2, OwN 54 4 O0 O2 s (L.reverse.map Ps.av) → K r O2) : CallA Try.prog 32 [s] O1 K := by
  refine k32.call mix ?_
  unfold c32
  rcases h with ⟨rfl, hL, rfl⟩ | ⟨hL, id, c, elems, hid, rfl, rfl, q1, q2⟩
  · have hL' : L = [] := List.map_eq_nil_iff.1 hL
    subst hL'
    obtain ⟨I, hI⟩ := hideI (fun m e O' => m = 0 ∧ O' = O1 ∧ e = ((Env.upd (fun _ => .junk) 3 (.val (.int .i64 (-1)))).upd 2 (.val (.int .i64 0))).upd 0 (.val (.slice none 0 0)))
    have w0 : IntKind.i64.wrap (0 - 1) = -1 := by decide
    have w1 : IntKind.i64.wrap (-1) = -1 := by decide
    have d0 : decide ((0 : Int) < -1) = false := by decide
    (repeat' first
    | simp (contextual := true) (maxSteps := 4000000) only [fwc, fwe, fww, reduceIte, ↓reduceIte, Nat.reduceAdd, Nat.reduceLeDiff, Nat.reduceEqDiff, Nat.reduceLT, Nat.reduceSub, reduceCtorEq, Int.reduceEq, Int.reduceLT, Int.reduceLE, Int.reduceNeg, Int.reduceToNat, Int.reduceAdd, Int.reduceSub, Nat.reduceMul, *]
    | (refine seqK_now ?_)
    | (refine retK_now ?_)
    | (refine retK_now' ?_)
    | (intro q hq)
    | (refine cond_intro (fun hc => ?_) (fun hc => ?_)))
    refine cmd_loop I 0 (by rw [hI.out]; exact ⟨rfl, rfl, rfl⟩) ?_
    intro m e O' hh
    rw [hI.out] at hh
    obtain ⟨rfl, hOH, rfl⟩ := hh
    rw [hOH]
    clear hOH O'
    (repeat' first
    | simp (contextual := true) (maxSteps := 4000000) only [fwc, fwe, fww, reduceIte, ↓reduceIte, Nat.reduceAdd, Nat.reduceLeDiff, Nat.reduceEqDiff, Nat.reduceLT, Nat.reduceSub, reduceCtorEq, Int.reduceEq, Int.reduceLT, Int.reduceLE, Int.reduceNeg, Int.reduceToNat, Int.reduceAdd, Int.reduceSub, Nat.reduceMul, *]
    | (refine seqK_now ?_)
    | (refine retK_now ?_)
    | (refine retK_now' ?_)
    | (intro q hq)
    | (refine cond_intro (fun hc => ?_) (fun hc => ?_)))
    exact WeakR.now (hk _ _ (.inl ⟨rfl, rfl, rfl⟩))
  · have hn : 0 < L.length := List.length_pos_iff.2 fun e => hL (by rw [e]; rfl)
    rw [List.length_map] at q1 q2 ⊢
    rw [List.length_map] at hk
    have hel : elems = (rvP L 0).map Ps.av ++ elems.drop L.length := by
      rw [rvP_zero, ← q1, List.take_append_drop]
    rw [hel]
    generalize elems.drop L.length = R at *
    clear hel q1 q2 elems
    have hw1 : IntKind.i64.wrap ((L.length : Int) - 1) = ((L.length - 1 - 0 : Nat) : Int) := by rw [wrap_i64 (by omega) (by omega)]; omega
    obtain ⟨I, hI⟩ := hideI (fun m e O' => ∃ k : Nat, 2 * k ≤ L.length ∧ m = L.length - k ∧ O' = O0.upd id (.arr 54 4 ((rvP L k).map Ps.av ++ R)) ∧ e = env32 (.own id 4 0 L.length c) k (L.length - 1 - k))
    replace hL := (show Aside _ from hL)
    (repeat' first
    | simp (contextual := true) (maxSteps := 4000000) only [fwc, fwe, fww, reduceIte, ↓reduceIte, Nat.reduceAdd, Nat.reduceLeDiff, Nat.reduceEqDiff, Nat.reduceLT, Nat.reduceSub, reduceCtorEq, Int.reduceEq, Int.reduceLT, Int.reduceLE, Int.reduceNeg, Int.reduceToNat, Int.reduceAdd, Int.reduceSub, Nat.reduceMul, *]
    | (refine seqK_now ?_)
    | (refine retK_now ?_)
    | (refine retK_now' ?_)
    | (intro q hq)
    | (refine cond_intro (fun hc => ?_) (fun hc => ?_)))
    refine cmd_loop I L.length (by
      rw [hI.out]
      exact ⟨0, by omega, by omega, rfl, rfl⟩) ?_
    intro m e O' hh
    rw [hI.out] at hh
    obtain ⟨k, hk2, rfl, hOH, rfl⟩ := hh
    rw [hOH]
    clear hOH O'
    unfold env32
    by_cases hc : k < L.length - 1 - k
    · have e0 : decide (k < L.length - 1 - k) = true := decide_eq_true hc
      have h1 : k < L.length := by omega
      have h2 : L.length - 1 - k < L.length := by omega
      have a1 : indexAddrA 4 (k : Int) (.own id 4 0 L.length c) = some (.optr id 4 k 0) := by rw [ia_onat h1, Nat.zero_add]
      have a2 : indexAddrA 4 ((L.length - 1 - k : Nat) : Int) (.own id 4 0 L.length c) = some (.optr id 4 (L.length - 1 - k) 0) := by rw [ia_onat h2, Nat.zero_add]
      have len : L.length ≤ ((rvP L k).map Ps.av ++ R).length := by rw [List.length_append, List.length_map, rvP_len]; omega
      have g1 := rvP_get L k k h1 (by omega) R
      have g2 := rvP_get L k (L.length - 1 - k) h2 (by omega) R
      have hst := rvP_set L k hc h1 h2 R
      have w2 : IntKind.i64.wrap (((L.length - 1 - k : Nat) : Int) - 1) = ((L.length - 1 - (k + 1) : Nat) : Int) := by rw [wrap_i64 (by omega) (by omega)]; omega
      have hwk : k < 4611686018427387904 := by omega
      generalize L[L.length - 1 - k] = y at *
      generalize L[k] = x at *
      rw [show x.av = .agg [.val (.int .u8 x.id.y), .val (.int .i64 x.id.n), .val (.bool x.f), .val (.int .u8 x.d)] from rfl] at g1 hst
      rw [show y.av = .agg [.val (.int .u8 y.id.y), .val (.int .i64 y.id.n), .val (.bool y.f), .val (.int .u8 y.d)] from rfl] at g2 hst
      have hx : I (L.length - (k + 1)) (env32 (.own id 4 0 L.length c) (k + 1) (L.length - 1 - (k + 1))) (O0.upd id (.arr 54 4 ((rvP L (k + 1)).map Ps.av ++ R))) := by
        rw [hI.out]
        exact ⟨k + 1, by omega, rfl, rfl, rfl⟩
      rw [← hst] at hx
      generalize (rvP L k).map Ps.av ++ R = E at *
      have s1 : E.take k ++ [AV.agg [.val (.int .u8 y.id.y), .val (.int .i64 y.id.n), .val (.bool y.f), .val (.int .u8 y.d)]] ++ E.drop (k + 1) = E.set k (.agg [.val (.int .u8 y.id.y), .val (.int .i64 y.id.n), .val (.bool y.f), .val (.int .u8 y.d)]) := by rw [List.set_eq_take_append_cons_drop, if_pos (by omega)]; simp
      have hsub : L.length - 1 - (k + 1) = L.length - 1 - k - 1 := by omega
      rw [hsub] at w2 hx
      generalize hm : L.length - 1 - k = m at *
      replace hsub := (show Aside _ from hsub)
      replace hm := (show Aside _ from hm)
      replace hc := (show Aside _ from hc)
      replace hst := (show Aside _ from hst)
      replace hx := (show Aside _ from hx)
      have lk : k + 1 ≤ E.length := by omega
      have lm : m + 1 ≤ E.length := by omega
      have g3 : (E.set k (AV.agg [.val (.int .u8 y.id.y), .val (.int .i64 y.id.n), .val (.bool y.f), .val (.int .u8 y.d)]))[m]? = some (.agg [.val (.int .u8 y.id.y), .val (.int .i64 y.id.n), .val (.bool y.f), .val (.int .u8 y.d)]) := by rw [List.getElem?_set, if_neg (by have := hc.out; omega)]; exact g2
      replace h1 := (show Aside _ from h1)
      replace h2 := (show Aside _ from h2)
      (repeat' first
    | simp (contextual := true) (maxSteps := 4000000) only [fwc, fwe, fww, reduceIte, ↓reduceIte, Nat.reduceAdd, Nat.reduceLeDiff, Nat.reduceEqDiff, Nat.reduceLT, Nat.reduceSub, reduceCtorEq, Int.reduceEq, Int.reduceLT, Int.reduceLE, Int.reduceNeg, Int.reduceToNat, Int.reduceAdd, Int.reduceSub, Nat.reduceMul, ilt_nat, part_cell, part_agg, wrap_succ, *]
    | (refine seqK_now ?_)
    | (refine retK_now ?_)
    | (refine retK_now' ?_)
    | (intro q hq)
    | (refine cond_intro (fun hc => ?_) (fun hc => ?_)))
      refine loopK_now (L.length - (k + 1)) (by have := h1.out; omega) ?_
      exact hx.out
    · have e0 : decide (k < L.length - 1 - k) = false := decide_eq_false hc
      have hre := rvP_end L k hc
      rw [hre]
      replace hc := (show Aside _ from hc)
      (repeat' first
    | simp (contextual := true) (maxSteps := 4000000) only [fwc, fwe, fww, reduceIte, ↓reduceIte, Nat.reduceAdd, Nat.reduceLeDiff, Nat.reduceEqDiff, Nat.reduceLT, Nat.reduceSub, reduceCtorEq, Int.reduceEq, Int.reduceLT, Int.reduceLE, Int.reduceNeg, Int.reduceToNat, Int.reduceAdd, Int.reduceSub, Nat.reduceMul, ilt_nat, part_cell, part_agg, *]
    | (refine seqK_now ?_)
    | (refine retK_now ?_)
    | (refine retK_now' ?_)
    | (intro q hq)
    | (refine cond_intro (fun hc => ?_) (fun hc => ?_)))
      refine WeakR.now (hk _ _ (.inr ⟨fun e => hL.out (by rw [List.map_eq_nil_iff] at e ⊢; simpa using e), id, c, L.reverse.map Ps.av ++ R, hid, by simp, rfl, ?_, by simp⟩))
      rw [show (L.reverse.map Ps.av).length = L.length by simp, List.take_left' (by simp)]

/-- What a carrier passes, from one place to another. -/
def btO (L : List Hd) (f t : Int) : List Ps := L.flatMap fun x => if (if f < t then f else t) < x.spot ∧ x.spot < (if f < t then t else f) then [(⟨x.id, decide (x.bed = 1), if f < t then 1 else 0⟩ : Ps)] else []
def btL (L : List Hd) (f t : Int) : List Ps := if f < t then btO L f t else (btO L f t).reverse
theorem btO_len (f t : Int) : ∀ L : List Hd, (btO L f t).length ≤ L.length
  | [] => by simp [btO]
  | x :: L => by
    have h := btO_len f t L
    have one : ∀ (c : Prop) [Decidable c] (p : Ps), (if c then [p] else []).length ≤ 1 := fun c _ p => by split <;> simp
    have h1 := one ((if f < t then f else t) < x.spot ∧ x.spot < (if f < t then t else f)) ⟨x.id, decide (x.bed = 1), if f < t then 1 else 0⟩
    unfold btO at h ⊢
    rw [List.flatMap_cons, List.length_append, List.length_cons]
    omega
theorem btL_len (L : List Hd) (f t : Int) : (btL L f t).length ≤ L.length := by
  unfold btL
  have := btO_len f t L
  split
  · exact this
  · simpa using this
def e13 (f t : Int) (s : AV) (d : Int) (l : AV) (n i : Nat) : Env := ((((((Env.upd (fun _ => .junk) 16 (.val (.int .i64 i))).upd 15 (.val (.int .i64 n))).upd 14 l).upd 8 (.val (.int .u8 d))).upd 7 s).upd 2 (.val (.int .i64 t))).upd 1 (.val (.int .i64 f))

set_option maxHeartbeats 4000000 in
theorem Between_ok (l : AV) (L : List Hd) (f t : Int) (hs : IsL 5 l (L.map Hd.av)) (hl : L.length ≤ 100000) :
    PureA Try.prog 13 [l, .val (.int .i64 f), .val (.int .i64 t)] (tA 4 ((btL L f t).map Ps.av)) := by
  have ll := hs.len
  have lc := hs.cells
  have ls := hs.stor
  rw [List.length_map] at ll
  obtain ⟨d, hd⟩ : ∃ d : Int, (if f < t then 1 else 0) = d := ⟨_, rfl⟩
  obtain ⟨lo, hlo⟩ : ∃ z : Int, (if f < t then f else t) = z := ⟨_, rfl⟩
  obtain ⟨up, hhi⟩ : ∃ z : Int, (if f < t then t else f) = z := ⟨_, rfl⟩
  have hmn : (if t < f then t else f) = lo := by rw [← hlo]; repeat' split <;> omega
  have hcons : ∀ i (h : i < L.length), btO (L.take (i + 1)) f t = btO (L.take i) f t ++ (if lo < (gt L i).spot ∧ (gt L i).spot < up then [(⟨(gt L i).id, decide ((gt L i).bed = 1), d⟩ : Ps)] else []) := fun i h => by
    unfold btO
    rw [List.take_succ_eq_append_getElem h, List.flatMap_append, ← gt_get h]
    simp only [hd, hlo, hhi, List.flatMap_cons, List.flatMap_nil, List.append_nil]
  have hend : btL L f t = if f < t then btO L f t else (btO L f t).reverse := rfl
  have hol := fun i => btO_len f t (L.take i)
  generalize hbt : btL L f t = BT at *
  replace hbt := (show Aside _ from hbt)
  replace hs := (show Aside _ from hs)
  replace hl := (show Aside _ from hl)
  replace hcons := (show Aside _ from hcons)
  replace hend := (show Aside _ from hend)
  replace hol := (show Aside _ from hol)
  replace hlo := (show Aside _ from hlo)
  intro O
  refine k13.call mix ?_
  unfold c13
  (repeat' first
    | simp (contextual := true) (maxSteps := 4000000) only [fwc, fwe, fww, reduceIte, ↓reduceIte, Nat.reduceAdd, Nat.reduceLeDiff, Nat.reduceEqDiff, Nat.reduceLT, Nat.reduceSub, reduceCtorEq, Int.reduceEq, Int.reduceLT, Int.reduceLE, Int.reduceNeg, Int.reduceToNat, Int.reduceAdd, Int.reduceSub, Nat.reduceMul, *]
    | (refine retK_now ?_)
    | (refine retK_now' ?_)
    | (intro q hq)
    | (refine cond_intro (fun hc => ?_) (fun hc => ?_)))
  refine seqK_now ?_
  (repeat' first
    | simp (contextual := true) (maxSteps := 4000000) only [fwc, fwe, fww, reduceIte, ↓reduceIte, Nat.reduceAdd, Nat.reduceLeDiff, Nat.reduceEqDiff, Nat.reduceLT, Nat.reduceSub, reduceCtorEq, Int.reduceEq, Int.reduceLT, Int.reduceLE, Int.reduceNeg, Int.reduceToNat, Int.reduceAdd, Int.reduceSub, Nat.reduceMul, *]
    | (refine retK_now ?_)
    | (refine retK_now' ?_)
    | (intro q hq)
    | (refine cond_intro (fun hc => ?_) (fun hc => ?_)))
  refine seqK_now ?_
  (repeat' first
    | simp (contextual := true) (maxSteps := 4000000) only [fwc, fwe, fww, reduceIte, ↓reduceIte, Nat.reduceAdd, Nat.reduceLeDiff, Nat.reduceEqDiff, Nat.reduceLT, Nat.reduceSub, reduceCtorEq, Int.reduceEq, Int.reduceLT, Int.reduceLE, Int.reduceNeg, Int.reduceToNat, Int.reduceAdd, Int.reduceSub, Nat.reduceMul, *]
    | (refine retK_now ?_)
    | (refine retK_now' ?_)
    | (intro q hq)
    | (refine cond_intro (fun hc => ?_) (fun hc => ?_)))
  refine seqK_now ?_
  refine seq_post (fun e1 O1 => O1 = O ∧ e1 = (((((Env.upd (fun _ => .junk) 8 (.val (.int .u8 d))).upd 7 (.val (.slice none 0 0))).upd 2 (.val (.int .i64 t))).upd 1 (.val (.int .i64 f))).upd 0 l)) ?_ ?_
  rotate_left
  · intro G hG
    replace hG := (show Aside _ from hG)
    by_cases hft : f < t
    · have e1 : decide (f < t) = true := decide_eq_true hft
      rw [if_pos hft] at hd
      replace hft := (show Aside _ from hft)
      replace hd := (show Aside _ from hd)
      (repeat' first
    | simp (contextual := true) (maxSteps := 4000000) only [fwc, fwe, fww, reduceIte, ↓reduceIte, Nat.reduceAdd, Nat.reduceLeDiff, Nat.reduceEqDiff, Nat.reduceLT, Nat.reduceSub, reduceCtorEq, Int.reduceEq, Int.reduceLT, Int.reduceLE, Int.reduceNeg, Int.reduceToNat, Int.reduceAdd, Int.reduceSub, Nat.reduceMul, *]
    | (refine seqK_now ?_)
    | (refine retK_now ?_)
    | (refine retK_now' ?_)
    | (intro q hq)
    | (refine cond_intro (fun hc => ?_) (fun hc => ?_)))
      exact hG.out _ _ ⟨rfl, by rw [← hd.out]⟩
    · have e1 : decide (f < t) = false := decide_eq_false hft
      rw [if_neg hft] at hd
      replace hft := (show Aside _ from hft)
      replace hd := (show Aside _ from hd)
      (repeat' first
    | simp (contextual := true) (maxSteps := 4000000) only [fwc, fwe, fww, reduceIte, ↓reduceIte, Nat.reduceAdd, Nat.reduceLeDiff, Nat.reduceEqDiff, Nat.reduceLT, Nat.reduceSub, reduceCtorEq, Int.reduceEq, Int.reduceLT, Int.reduceLE, Int.reduceNeg, Int.reduceToNat, Int.reduceAdd, Int.reduceSub, Nat.reduceMul, *]
    | (refine seqK_now ?_)
    | (refine retK_now ?_)
    | (refine retK_now' ?_)
    | (intro q hq)
    | (refine cond_intro (fun hc => ?_) (fun hc => ?_)))
      exact hG.out _ _ ⟨rfl, by rw [← hd.out]⟩
  intro e1 O1 hQ
  obtain ⟨hO1, rfl⟩ := hQ
  rw [hO1]
  clear hO1 O1
  replace hd := (show Aside _ from hd)
  (repeat' first
    | simp (contextual := true) (maxSteps := 4000000) only [fwc, fwe, fww, reduceIte, ↓reduceIte, Nat.reduceAdd, Nat.reduceLeDiff, Nat.reduceEqDiff, Nat.reduceLT, Nat.reduceSub, reduceCtorEq, Int.reduceEq, Int.reduceLT, Int.reduceLE, Int.reduceNeg, Int.reduceToNat, Int.reduceAdd, Int.reduceSub, Nat.reduceMul, *]
    | (refine retK_now ?_)
    | (refine retK_now' ?_)
    | (intro q hq)
    | (refine cond_intro (fun hc => ?_) (fun hc => ?_)))
  refine seqK_now ?_
  obtain ⟨I, hI⟩ := hideI (fun m e O' => ∃ (i : Nat) (s : AV) (O0 : Heap), i ≤ L.length ∧ m = L.length - i ∧ O.sub O0 ∧ OwN 54 4 O0 O' s ((btO (L.take i) f t).map Ps.av) ∧ e = e13 f t s d l L.length i)
  (repeat' first
    | simp (contextual := true) (maxSteps := 4000000) only [fwc, fwe, fww, reduceIte, ↓reduceIte, Nat.reduceAdd, Nat.reduceLeDiff, Nat.reduceEqDiff, Nat.reduceLT, Nat.reduceSub, reduceCtorEq, Int.reduceEq, Int.reduceLT, Int.reduceLE, Int.reduceNeg, Int.reduceToNat, Int.reduceAdd, Int.reduceSub, Nat.reduceMul, *]
    | (refine retK_now ?_)
    | (refine retK_now' ?_)
    | (intro q hq)
    | (refine cond_intro (fun hc => ?_) (fun hc => ?_)))
  refine cmd_loop I L.length (by
    rw [hI.out]
    exact ⟨0, _, _, Nat.zero_le _, rfl, Heap.sub_refl _, OwN.nil, rfl⟩) ?_
  intro m e O' hh
  rw [hI.out] at hh
  obtain ⟨i, s, O0, hi1, rfl, hO0, hs0, rfl⟩ := hh
  unfold e13
  have sc := hs0.cells
  have sst := hs0.stor
  replace hO0 := (show Aside _ from hO0)
  replace hs0 := (show Aside _ from hs0)
  by_cases hi : i < L.length
  rotate_left
  · have e0 : decide (i < L.length) = false := decide_eq_false hi
    rw [List.take_of_length_le (by omega)] at hs0
    have hbl := hol.out L.length
    rw [List.take_length] at hbl
    replace hi := (show Aside _ from hi)
    replace hi1 := (show Aside _ from hi1)
    replace hbl := (show Aside _ from hbl)
    by_cases hft : f < t
    · have hd1 : d = 1 := by rw [← hd.out, if_pos hft]
      have dd : decide (d = 0) = false := decide_eq_false (by omega)
      rw [if_pos hft] at hend
      replace hft := (show Aside _ from hft)
      replace hd1 := (show Aside _ from hd1)
      (repeat' first
    | simp (contextual := true) (maxSteps := 4000000) only [fwc, fwe, fww, reduceIte, ↓reduceIte, Nat.reduceAdd, Nat.reduceLeDiff, Nat.reduceEqDiff, Nat.reduceLT, Nat.reduceSub, reduceCtorEq, Int.reduceEq, Int.reduceLT, Int.reduceLE, Int.reduceNeg, Int.reduceToNat, Int.reduceAdd, Int.reduceSub, Nat.reduceMul, ilt_nat, *]
    | (refine seqK_now ?_)
    | (refine retK_now ?_)
    | (refine retK_now' ?_)
    | (intro q hq)
    | (refine cond_intro (fun hc => ?_) (fun hc => ?_)))
      refine ClipP_fz s _ O0 O' hs0.out _ ?_
      (repeat' first
    | simp (contextual := true) (maxSteps := 4000000) only [fwc, fwe, fww, reduceIte, ↓reduceIte, Nat.reduceAdd, Nat.reduceLeDiff, Nat.reduceEqDiff, Nat.reduceLT, Nat.reduceSub, reduceCtorEq, Int.reduceEq, Int.reduceLT, Int.reduceLE, Int.reduceNeg, Int.reduceToNat, Int.reduceAdd, Int.reduceSub, Nat.reduceMul, *]
    | (refine seqK_now ?_)
    | (refine retK_now ?_)
    | (refine retK_now' ?_)
    | (intro q hq)
    | (refine cond_intro (fun hc => ?_) (fun hc => ?_)))
      refine WeakR.pure hO0.out ?_
      rw [hend.out]
    · have hd1 : d = 0 := by rw [← hd.out, if_neg hft]
      have dd : decide (d = 0) = true := decide_eq_true hd1
      rw [if_neg hft] at hend
      replace hft := (show Aside _ from hft)
      replace hd1 := (show Aside _ from hd1)
      (repeat' first
    | simp (contextual := true) (maxSteps := 4000000) only [fwc, fwe, fww, reduceIte, ↓reduceIte, Nat.reduceAdd, Nat.reduceLeDiff, Nat.reduceEqDiff, Nat.reduceLT, Nat.reduceSub, reduceCtorEq, Int.reduceEq, Int.reduceLT, Int.reduceLE, Int.reduceNeg, Int.reduceToNat, Int.reduceAdd, Int.reduceSub, Nat.reduceMul, ilt_nat, *]
    | (refine seqK_now ?_)
    | (refine retK_now ?_)
    | (refine retK_now' ?_)
    | (intro q hq)
    | (refine cond_intro (fun hc => ?_) (fun hc => ?_)))
      refine ReverseP_ok s _ O0 O' hs0.out (by have := hbl.out; have := hl.out; omega) _ fun r2 O2 h2 => ?_
      replace h2 := (show Aside _ from h2)
      (repeat' first
    | simp (contextual := true) (maxSteps := 4000000) only [fwc, fwe, fww, reduceIte, ↓reduceIte, Nat.reduceAdd, Nat.reduceLeDiff, Nat.reduceEqDiff, Nat.reduceLT, Nat.reduceSub, reduceCtorEq, Int.reduceEq, Int.reduceLT, Int.reduceLE, Int.reduceNeg, Int.reduceToNat, Int.reduceAdd, Int.reduceSub, Nat.reduceMul, *]
    | (refine seqK_now ?_)
    | (refine retK_now ?_)
    | (refine retK_now' ?_)
    | (intro q hq)
    | (refine cond_intro (fun hc => ?_) (fun hc => ?_)))
      refine ClipP_fz s _ O0 O2 h2.out _ ?_
      (repeat' first
    | simp (contextual := true) (maxSteps := 4000000) only [fwc, fwe, fww, reduceIte, ↓reduceIte, Nat.reduceAdd, Nat.reduceLeDiff, Nat.reduceEqDiff, Nat.reduceLT, Nat.reduceSub, reduceCtorEq, Int.reduceEq, Int.reduceLT, Int.reduceLE, Int.reduceNeg, Int.reduceToNat, Int.reduceAdd, Int.reduceSub, Nat.reduceMul, *]
    | (refine seqK_now ?_)
    | (refine retK_now ?_)
    | (refine retK_now' ?_)
    | (intro q hq)
    | (refine cond_intro (fun hc => ?_) (fun hc => ?_)))
      refine WeakR.pure hO0.out ?_
      rw [hend.out]
  have e0 : decide (i < L.length) = true := decide_eq_true hi
  have hwi : i < 4611686018427387904 := by have := hl.out; omega
  have hia := IsL.ia hs.out (i := i) (by rw [List.length_map]; exact hi)
  rw [List.getElem_map, ← gt_get hi] at hia
  have hnx := hcons.out i hi
  have hbl : (btO (L.take i) f t).length ≤ 100000 := by
    have h1 := hol.out i
    have h2 := List.length_take_le i L
    have h3 := hl.out
    omega
  generalize gt L i = x at *
  rw [show x.av = .agg [.val (.int .u8 x.id.y), .val (.int .i64 x.id.n), .val (.int .u8 x.bed), .val (.int .i64 x.at_), .val (.int .i64 x.spot)] from rfl] at hia
  generalize btO (L.take i) f t = base at *
  replace hi1 := (show Aside _ from hi1)
  replace hbl := (show Aside _ from hbl)
  replace hi := (show Aside _ from hi)
  (repeat' first
    | simp (contextual := true) (maxSteps := 4000000) only [fwc, fwe, fww, reduceIte, ↓reduceIte, Nat.reduceAdd, Nat.reduceLeDiff, Nat.reduceEqDiff, Nat.reduceLT, Nat.reduceSub, reduceCtorEq, Int.reduceEq, Int.reduceLT, Int.reduceLE, Int.reduceNeg, Int.reduceToNat, Int.reduceAdd, Int.reduceSub, Nat.reduceMul, ilt_nat, part_cell, part_agg, *]
    | (refine retK_now ?_)
    | (refine retK_now' ?_)
    | (intro q hq)
    | (refine cond_intro (fun hc => ?_) (fun hc => ?_)))
  refine seqK_now ?_
  (repeat' first
    | simp (contextual := true) (maxSteps := 4000000) only [fwc, fwe, fww, reduceIte, ↓reduceIte, Nat.reduceAdd, Nat.reduceLeDiff, Nat.reduceEqDiff, Nat.reduceLT, Nat.reduceSub, reduceCtorEq, Int.reduceEq, Int.reduceLT, Int.reduceLE, Int.reduceNeg, Int.reduceToNat, Int.reduceAdd, Int.reduceSub, Nat.reduceMul, ilt_nat, part_cell, part_agg, *]
    | (refine retK_now ?_)
    | (refine retK_now' ?_)
    | (intro q hq)
    | (refine cond_intro (fun hc => ?_) (fun hc => ?_)))
  refine seqK_now ?_
  (repeat' first
    | simp (contextual := true) (maxSteps := 4000000) only [fwc, fwe, fww, reduceIte, ↓reduceIte, Nat.reduceAdd, Nat.reduceLeDiff, Nat.reduceEqDiff, Nat.reduceLT, Nat.reduceSub, reduceCtorEq, Int.reduceEq, Int.reduceLT, Int.reduceLE, Int.reduceNeg, Int.reduceToNat, Int.reduceAdd, Int.reduceSub, Nat.reduceMul, ilt_nat, part_cell, part_agg, *]
    | (refine retK_now ?_)
    | (refine retK_now' ?_)
    | (intro q hq)
    | (refine cond_intro (fun hc => ?_) (fun hc => ?_)))
  revert q
  intro q10 hq10
  refine seqK_now ?_
  have o10 := own_none hs0.out hq10
  have sub10 := sub_new hO0.out o10 (v := .arr 40 5 [.agg [.val (.int .u8 x.id.y), .val (.int .i64 x.id.n), .val (.int .u8 x.bed), .val (.int .i64 x.at_), .val (.int .i64 x.spot)]])
  have own10 := own_new hs0.out (x := .arr 40 5 [.agg [.val (.int .u8 x.id.y), .val (.int .i64 x.id.n), .val (.int .u8 x.bed), .val (.int .i64 x.at_), .val (.int .i64 x.spot)]]) hq10
  replace sub10 := (show Aside _ from sub10)
  replace own10 := (show Aside _ from own10)
  replace o10 := (show Aside _ from o10)
  by_cases c1 : lo < x.spot
  · have e1 : decide (lo < x.spot) = true := decide_eq_true c1
    by_cases c2 : x.spot < up
    · have e2 : decide (x.spot < up) = true := decide_eq_true c2
      rw [if_pos ⟨c1, c2⟩] at hnx
      replace c1 := (show Aside _ from c1)
      replace c2 := (show Aside _ from c2)
      replace hnx := (show Aside _ from hnx)
      (repeat' first
    | simp (contextual := true) (maxSteps := 4000000) only [fwc, fwe, fww, reduceIte, ↓reduceIte, Nat.reduceAdd, Nat.reduceLeDiff, Nat.reduceEqDiff, Nat.reduceLT, Nat.reduceSub, reduceCtorEq, Int.reduceEq, Int.reduceLT, Int.reduceLE, Int.reduceNeg, Int.reduceToNat, Int.reduceAdd, Int.reduceSub, Nat.reduceMul, ilt_nat, part_cell, part_agg, mm_min, mm_max, wrap_succ, *]
    | (refine seqK_now ?_)
    | (refine retK_now ?_)
    | (refine retK_now' ?_)
    | (intro q hq)
    | (refine cond_intro (fun hc => ?_) (fun hc => ?_)))
      refine own_app (bytes := 24) own10.out (X := [Ps.av ⟨x.id, decide (x.bed = 1), d⟩]) (.inr ⟨true, rfl⟩) (fits_of (by have := hbl.out; simp only [List.length_append, List.length_map, List.length_cons, List.length_nil] at this ⊢; omega) (by omega)) fun s5 O5 h5 => ?_
      have sc5 := h5.cells
      have sst5 := h5.stor
      replace h5 := (show Aside _ from h5)
      (repeat' first
    | simp (contextual := true) (maxSteps := 4000000) only [fwc, fwe, fww, reduceIte, ↓reduceIte, Nat.reduceAdd, Nat.reduceLeDiff, Nat.reduceEqDiff, Nat.reduceLT, Nat.reduceSub, reduceCtorEq, Int.reduceEq, Int.reduceLT, Int.reduceLE, Int.reduceNeg, Int.reduceToNat, Int.reduceAdd, Int.reduceSub, Nat.reduceMul, ilt_nat, part_cell, part_agg, wrap_succ, *]
    | (refine seqK_now ?_)
    | (refine retK_now ?_)
    | (refine retK_now' ?_)
    | (intro q hq)
    | (refine cond_intro (fun hc => ?_) (fun hc => ?_)))
      refine loopK_now (L.length - (i + 1)) (by have := hi.out; omega) ?_
      rw [hI.out]
      refine ⟨i + 1, s5, _, by have := hi.out; omega, rfl, sub10.out, ?_, rfl⟩
      rw [hnx.out, List.map_append]
      exact h5.out
    · have e2 : decide (x.spot < up) = false := decide_eq_false c2
      rw [if_neg (fun h => c2 h.2), List.append_nil] at hnx
      replace c1 := (show Aside _ from c1)
      replace c2 := (show Aside _ from c2)
      replace hnx := (show Aside _ from hnx)
      (repeat' first
    | simp (contextual := true) (maxSteps := 4000000) only [fwc, fwe, fww, reduceIte, ↓reduceIte, Nat.reduceAdd, Nat.reduceLeDiff, Nat.reduceEqDiff, Nat.reduceLT, Nat.reduceSub, reduceCtorEq, Int.reduceEq, Int.reduceLT, Int.reduceLE, Int.reduceNeg, Int.reduceToNat, Int.reduceAdd, Int.reduceSub, Nat.reduceMul, ilt_nat, part_cell, part_agg, mm_min, mm_max, wrap_succ, *]
    | (refine seqK_now ?_)
    | (refine retK_now ?_)
    | (refine retK_now' ?_)
    | (intro q hq)
    | (refine cond_intro (fun hc => ?_) (fun hc => ?_)))
      refine loopK_now (L.length - (i + 1)) (by have := hi.out; omega) ?_
      rw [hI.out]
      exact ⟨i + 1, s, _, by have := hi.out; omega, rfl, sub10.out, by rw [hnx.out]; exact own10.out, rfl⟩
  · have e1 : decide (lo < x.spot) = false := decide_eq_false c1
    rw [if_neg (fun h => c1 h.1), List.append_nil] at hnx
    replace c1 := (show Aside _ from c1)
    replace hnx := (show Aside _ from hnx)
    (repeat' first
    | simp (contextual := true) (maxSteps := 4000000) only [fwc, fwe, fww, reduceIte, ↓reduceIte, Nat.reduceAdd, Nat.reduceLeDiff, Nat.reduceEqDiff, Nat.reduceLT, Nat.reduceSub, reduceCtorEq, Int.reduceEq, Int.reduceLT, Int.reduceLE, Int.reduceNeg, Int.reduceToNat, Int.reduceAdd, Int.reduceSub, Nat.reduceMul, ilt_nat, part_cell, part_agg, mm_min, mm_max, wrap_succ, *]
    | (refine seqK_now ?_)
    | (refine retK_now ?_)
    | (refine retK_now' ?_)
    | (intro q hq)
    | (refine cond_intro (fun hc => ?_) (fun hc => ?_)))
    refine loopK_now (L.length - (i + 1)) (by have := hi.out; omega) ?_
    rw [hI.out]
    exact ⟨i + 1, s, _, by have := hi.out; omega, rfl, sub10.out, by rw [hnx.out]; exact own10.out, rfl⟩
end Go.Proofs.Ytembkknplmcamaa

namespace Go.Proofs.Ytembkknplmcamaa
open Go.Ab
attribute [local irreducible] WeakR WeakE CallA YieldA

/-! Reduce of passes. -/
theorem Ps.ext' (p q : Ps) : p = q ↔ p.id = q.id ∧ p.f = q.f ∧ p.d = q.d := by
  cases p
  cases q
  simp
instance : DecidableEq Ps := fun p q => decidable_of_iff _ (Ps.ext' p q).symm
def redS (S : List Ps) (p : Ps) : List Ps := if S.getLast? = some (pb p) ∧ p.d ≤ 1 then S.dropLast else S ++ [p]
def redL (L : List Ps) : List Ps := L.foldl redS []
def stkP (L : List Ps) (i : Nat) : List Ps := (L.take i).foldl redS []
theorem stkP_succ {L : List Ps} {i : Nat} (h : i < L.length) : stkP L (i + 1) = redS (stkP L i) L[i] := by
  unfold stkP
  rw [List.take_succ_eq_append_getElem h, List.foldl_append]
  rfl
theorem redS_len (S : List Ps) (p : Ps) : (redS S p).length ≤ S.length + 1 := by
  unfold redS
  split <;> simp
  omega
theorem stkP_len {L : List Ps} : ∀ i, (stkP L i).length ≤ i
  | 0 => by simp [stkP]
  | i + 1 => by
    rcases Nat.lt_or_ge i L.length with h | h
    · rw [stkP_succ h]
      have := redS_len (stkP L i) L[i]
      have := stkP_len (L := L) i
      omega
    · have : stkP L (i + 1) = stkP L i := by unfold stkP; rw [List.take_of_length_le (by omega), List.take_of_length_le h]
      rw [this]
      have := stkP_len (L := L) i
      omega
theorem ps_eq (p q : Ps) : leavesEq [true, true, false, true] [.val (.int .u8 p.id.y), .val (.int .i64 p.id.n), .val (.bool p.f), .val (.int .u8 p.d)] [.val (.int .u8 q.id.y), .val (.int .i64 q.id.n), .val (.bool q.f), .val (.int .u8 q.d)] = some (decide (p = q)) := by
  have h : decide (p = q) = (decide (p.id.y = q.id.y) && (decide (p.id.n = q.id.n) && (decide (p.f = q.f) && decide (p.d = q.d)))) := by
    rw [Bool.eq_iff_iff]
    simp only [decide_eq_true_eq, Bool.and_eq_true]
    obtain ⟨⟨a, b⟩, c, d⟩ := p
    obtain ⟨⟨a', b'⟩, c', d'⟩ := q
    simp [and_assoc]
  rw [h]
  simp only [leavesEq, leafEq, intEqA, boolEqA]
  simp only [if_true, Option.some.injEq, Bool.and_true]
  rw [Bool.eq_iff_iff]
  simp
theorem CloneP_list (t : Bool) (l : List AV) (hl : l.length ≤ 1048576) : PureA Try.prog 34 [.list 4 t l] (.list 4 false l) := by
  intro O
  refine k34.call mix ?_
  unfold c34
  (repeat' first
    | simp (contextual := true) (maxSteps := 4000000) only [fwc, fwe, fww, reduceIte, ↓reduceIte, Nat.reduceAdd, Nat.reduceLeDiff, Nat.reduceEqDiff, Nat.reduceLT, Nat.reduceSub, reduceCtorEq, Int.reduceEq, Int.reduceLT, Int.reduceLE, Int.reduceNeg, Int.reduceToNat, Int.reduceAdd, Int.reduceSub, Nat.reduceMul, *]
    | (refine seqK_now ?_)
    | (refine retK_now ?_)
    | (refine retK_now' ?_)
    | (intro q hq)
    | (refine cond_intro (fun hc => ?_) (fun hc => ?_)))
  refine app_list (L := []) (el_list _ _ _ _) (fits_of (by simp <;> omega) (by omega)) ?_
  (repeat' first
    | simp (contextual := true) (maxSteps := 4000000) only [fwc, fwe, fww, reduceIte, ↓reduceIte, Nat.reduceAdd, Nat.reduceLeDiff, Nat.reduceEqDiff, Nat.reduceLT, Nat.reduceSub, reduceCtorEq, Int.reduceEq, Int.reduceLT, Int.reduceLE, Int.reduceNeg, Int.reduceToNat, Int.reduceAdd, Int.reduceSub, Nat.reduceMul, *]
    | (refine seqK_now ?_)
    | (refine retK_now ?_)
    | (refine retK_now' ?_)
    | (intro q hq)
    | (refine cond_intro (fun hc => ?_) (fun hc => ?_)))
  refine WeakR.pure (by repeat (first | exact Heap.sub_refl _ | refine sub_upd (by simp only [*]) ?_)) ?_
  rfl
theorem ClipP_list (t : Bool) (l : List AV) : PureA Try.prog 31 [.list 4 t l] (.list 4 true l) := by
  intro O
  refine k31.call mix ?_
  unfold c31
  (repeat' first
    | simp (contextual := true) (maxSteps := 4000000) only [fwc, fwe, fww, reduceIte, ↓reduceIte, Nat.reduceAdd, Nat.reduceLeDiff, Nat.reduceEqDiff, Nat.reduceLT, Nat.reduceSub, reduceCtorEq, Int.reduceEq, Int.reduceLT, Int.reduceLE, Int.reduceNeg, Int.reduceToNat, Int.reduceAdd, Int.reduceSub, Nat.reduceMul, *]
    | (refine seqK_now ?_)
    | (refine retK_now ?_)
    | (refine retK_now' ?_)
    | (intro q hq)
    | (refine cond_intro (fun hc => ?_) (fun hc => ?_)))
  rw [slice_list_mx (a := 0) (b := l.length) (c := l.length) (by simp [bound_none]) (by simp [bound_int]) (by simp [bound_int]) (by omega) (by omega) (by omega)]
  (repeat' first
    | simp (contextual := true) (maxSteps := 4000000) only [fwc, fwe, fww, reduceIte, ↓reduceIte, Nat.reduceAdd, Nat.reduceLeDiff, Nat.reduceEqDiff, Nat.reduceLT, Nat.reduceSub, reduceCtorEq, Int.reduceEq, Int.reduceLT, Int.reduceLE, Int.reduceNeg, Int.reduceToNat, Int.reduceAdd, Int.reduceSub, Nat.reduceMul, *]
    | (refine seqK_now ?_)
    | (refine retK_now ?_)
    | (refine retK_now' ?_)
    | (intro q hq)
    | (refine cond_intro (fun hc => ?_) (fun hc => ?_)))
  refine WeakR.pure (by repeat (first | exact Heap.sub_refl _ | refine sub_upd (by simp only [*]) ?_)) ?_
  simp
def PG (p : Ps) : AV := .agg [.val (.int .u8 p.id.y), .val (.int .i64 p.id.n), .val (.bool p.f), .val (.int .u8 p.d)]
def env15 (l : AV) (id s n i : Nat) : Env := (((Env.upd (fun _ => .junk) 12 (.val (.int .i64 i))).upd 11 (.val (.int .i64 n))).upd 10 l).upd 3 (.own id 4 0 s (some n))

set_option maxHeartbeats 4000000 in
theorem ReduceP_ok (l : AV) (L : List Ps) (hs : IsL 4 l (L.map Ps.av)) (hl : L.length ≤ 1048576) :
    PureA Try.prog 15 [l] (.list 4 true ((redL L).map Ps.av)) := by
  intro O
  have hlA := hs.len
  rw [List.length_map] at hlA
  refine k15.call mix ?_
  unfold c15
  (repeat' first
    | simp (contextual := true) (maxSteps := 4000000) only [fwc, fwe, fww, reduceIte, ↓reduceIte, Nat.reduceAdd, Nat.reduceLeDiff, Nat.reduceEqDiff, Nat.reduceLT, Nat.reduceSub, reduceCtorEq, Int.reduceEq, Int.reduceLT, Int.reduceLE, Int.reduceNeg, Int.reduceToNat, Int.reduceAdd, Int.reduceSub, Nat.reduceMul, *]
    | (refine seqK_now ?_)
    | (refine retK_now ?_)
    | (refine retK_now' ?_)
    | (intro q hq)
    | (refine cond_intro (fun hc => ?_) (fun hc => ?_)))
  refine make_own 0 L.length rfl rfl (by omega) (by omega) (by omega) ?_
  intro id hid
  (repeat' first
    | simp (contextual := true) (maxSteps := 4000000) only [fwc, fwe, fww, reduceIte, ↓reduceIte, Nat.reduceAdd, Nat.reduceLeDiff, Nat.reduceEqDiff, Nat.reduceLT, Nat.reduceSub, reduceCtorEq, Int.reduceEq, Int.reduceLT, Int.reduceLE, Int.reduceNeg, Int.reduceToNat, Int.reduceAdd, Int.reduceSub, Nat.reduceMul, *]
    | (refine seqK_now ?_)
    | (refine retK_now ?_)
    | (refine retK_now' ?_)
    | (intro q hq)
    | (refine cond_intro (fun hc => ?_) (fun hc => ?_)))
  obtain ⟨I, hI⟩ := hideI (fun m e O' => ∃ (i : Nat) (E : List AV), i ≤ L.length ∧ m = L.length - i ∧ E.length = L.length ∧ E.take (stkP L i).length = (stkP L i).map Ps.av ∧ O' = O.upd id (.arr 54 4 E) ∧ e = env15 l id (stkP L i).length L.length i)
  refine cmd_loop I L.length (by rw [hI.out]; exact ⟨0, _, by omega, rfl, by simp, by simp [stkP], rfl, rfl⟩) ?_
  intro m e O' hh
  rw [hI.out] at hh
  obtain ⟨i, E, h1, rfl, h2, h3, hOH, rfl⟩ := hh
  rw [hOH]
  clear hOH O'
  unfold env15
  have hsl := stkP_len (L := L) i
  by_cases hi : i < L.length
  rotate_left
  · have e0 : decide (i < L.length) = false := decide_eq_false hi
    have : i = L.length := by omega
    subst this
    have hr : stkP L L.length = redL L := by unfold stkP redL; rw [List.take_length]
    rw [hr] at h3 hsl
    rw [hr]
    replace h1 := (show Aside _ from h1)
    replace h2 := (show Aside _ from h2)
    replace h3 := (show Aside _ from h3)
    replace hsl := (show Aside _ from hsl)
    replace hi := (show Aside _ from hi)
    replace hl := (show Aside _ from hl)
    (repeat' first
    | simp (contextual := true) (maxSteps := 4000000) only [fwc, fwe, fww, reduceIte, ↓reduceIte, Nat.reduceAdd, Nat.reduceLeDiff, Nat.reduceEqDiff, Nat.reduceLT, Nat.reduceSub, reduceCtorEq, Int.reduceEq, Int.reduceLT, Int.reduceLE, Int.reduceNeg, Int.reduceToNat, Int.reduceAdd, Int.reduceSub, Nat.reduceMul, ilt_nat, *]
    | (refine seqK_now ?_)
    | (refine retK_now ?_)
    | (refine retK_now' ?_)
    | (intro q hq)
    | (refine cond_intro (fun hc => ?_) (fun hc => ?_)))
    refine CallA.freeze1 (x' := .list 4 false ((E.drop 0).take (redL L).length)) id 4 54 E (Heap.upd_same _ _ _) (.own 0 _ _ false (by have := hsl.out; have := h2.out; omega) (fun h => by cases h)) ?_
    rw [del_upd_new hid, List.drop_zero, h3.out]
    refine (CloneP_list _ _ (by have := hsl.out; have := hl.out; rw [List.length_map]; omega)).use ?_
    (repeat' first
    | simp (contextual := true) (maxSteps := 4000000) only [fwc, fwe, fww, reduceIte, ↓reduceIte, Nat.reduceAdd, Nat.reduceLeDiff, Nat.reduceEqDiff, Nat.reduceLT, Nat.reduceSub, reduceCtorEq, Int.reduceEq, Int.reduceLT, Int.reduceLE, Int.reduceNeg, Int.reduceToNat, Int.reduceAdd, Int.reduceSub, Nat.reduceMul, *]
    | (refine seqK_now ?_)
    | (refine retK_now ?_)
    | (refine retK_now' ?_)
    | (intro q hq)
    | (refine cond_intro (fun hc => ?_) (fun hc => ?_)))
    refine (ClipP_list _ _).use ?_
    (repeat' first
    | simp (contextual := true) (maxSteps := 4000000) only [fwc, fwe, fww, reduceIte, ↓reduceIte, Nat.reduceAdd, Nat.reduceLeDiff, Nat.reduceEqDiff, Nat.reduceLT, Nat.reduceSub, reduceCtorEq, Int.reduceEq, Int.reduceLT, Int.reduceLE, Int.reduceNeg, Int.reduceToNat, Int.reduceAdd, Int.reduceSub, Nat.reduceMul, *]
    | (refine seqK_now ?_)
    | (refine retK_now ?_)
    | (refine retK_now' ?_)
    | (intro q hq)
    | (refine cond_intro (fun hc => ?_) (fun hc => ?_)))
    refine WeakR.pure (by repeat (first | exact Heap.sub_refl _ | refine sub_upd (by simp only [*]) ?_)) ?_
    rfl
  have e0 : decide (i < L.length) = true := decide_eq_true hi
  have hia := hs.ia (i := i) (by rw [List.length_map]; exact hi)
  rw [List.getElem_map] at hia
  have hw : i < 4611686018427387904 := by omega
  have hst := stkP_succ hi
  have hbk := back_ok L[i]
  generalize hp : L[i] = p at *
  rw [show p.av = .agg [.val (.int .u8 p.id.y), .val (.int .i64 p.id.n), .val (.bool p.f), .val (.int .u8 p.d)] from rfl] at hia hbk
  rw [show (pb p).av = .agg [.val (.int .u8 (pb p).id.y), .val (.int .i64 (pb p).id.n), .val (.bool (pb p).f), .val (.int .u8 (pb p).d)] from rfl] at hbk
  replace hi := (show Aside _ from hi)
  replace hp := (show Aside _ from hp)
  replace h1 := (show Aside _ from h1)
  replace hl := (show Aside _ from hl)
  have hEl := (show Aside _ from h2)
  rcases List.eq_nil_or_concat (stkP L i) with hS | ⟨S, x, hS⟩
  · replace h3 := (show Aside _ from h3)
    have hw0 : IntKind.i64.wrap (((0 : Nat) : Int) - 1) = -1 := by rw [wrap_i64 (by omega) (by omega)]; rfl
    have hstk : stkP L (i + 1) = [p] := by rw [hst, hS]; simp [redS]
    rw [hS, List.length_nil]
    replace hst := (show Aside _ from hst)
    replace hS := (show Aside _ from hS)
    replace hstk := (show Aside _ from hstk)
    replace hsl := (show Aside _ from hsl)
    replace h2 := (show Aside _ from h2)
    (repeat' first
    | simp (contextual := true) (maxSteps := 4000000) only [fwc, fwe, fww, reduceIte, ↓reduceIte, Nat.reduceAdd, Nat.reduceLeDiff, Nat.reduceEqDiff, Nat.reduceLT, Nat.reduceSub, reduceCtorEq, Int.reduceEq, Int.reduceLT, Int.reduceLE, Int.reduceNeg, Int.reduceToNat, Int.reduceAdd, Int.reduceSub, Nat.reduceMul, ilt_nat, part_cell, part_agg, wrap_succ, *]
    | (refine seqK_now ?_)
    | (refine retK_now ?_)
    | (refine retK_now' ?_)
    | (intro q hq)
    | (refine cond_intro (fun hc => ?_) (fun hc => ?_)))
    refine app_in (elems := E) (X := [p.av]) (el_list _ _ _ _) (by simp only [Heap.upd_apply, hq, if_true, if_false]) (by omega) (fits_of (by simp) (by omega)) (by have := hi.out; simp; omega) ?_
    (repeat' first
    | simp (contextual := true) (maxSteps := 4000000) only [fwc, fwe, fww, reduceIte, ↓reduceIte, Nat.reduceAdd, Nat.reduceLeDiff, Nat.reduceEqDiff, Nat.reduceLT, Nat.reduceSub, reduceCtorEq, Int.reduceEq, Int.reduceLT, Int.reduceLE, Int.reduceNeg, Int.reduceToNat, Int.reduceAdd, Int.reduceSub, Nat.reduceMul, ilt_nat, part_cell, part_agg, wrap_succ, *]
    | (refine seqK_now ?_)
    | (refine retK_now ?_)
    | (refine retK_now' ?_)
    | (intro q hq)
    | (refine cond_intro (fun hc => ?_) (fun hc => ?_)))
    refine loopK_drop (O.upd id _) (sub_both (sub_upd (by simp only [*]) (sub_upd hid (Heap.sub_refl _)))) (L.length - (i + 1)) (by have := hi.out; omega) ?_
    rw [hI.out]
    refine ⟨i + 1, _, by have := hi.out; omega, rfl, ?_, ?_, rfl, ?_⟩
    · have := hi.out; have := hEl.out; simp; omega
    · rw [hstk.out]; simp
    · rw [hstk.out]
      rfl
  · have hS : stkP L i = S ++ [x] := by simpa using hS
    have hlen : (stkP L i).length = S.length + 1 := by rw [hS]; simp
    have hE : E[S.length]? = some x.av := by
      have h4 : ((stkP L i).map Ps.av)[S.length]? = some x.av := by rw [hS]; simp
      rw [← h3, List.getElem?_take, if_pos (by omega)] at h4
      exact h4
    rw [show x.av = .agg [.val (.int .u8 x.id.y), .val (.int .i64 x.id.n), .val (.bool x.f), .val (.int .u8 x.d)] from rfl] at hE
    have hiq := hi.out
    have hlq := hl.out
    have hw0 : IntKind.i64.wrap (((S.length + 1 : Nat) : Int) - 1) = ((S.length : Nat) : Int) := by rw [wrap_i64 (by omega) (by omega)]; omega
    have hk0 : decide ((0 : Int) ≤ ((S.length : Nat) : Int)) = true := decide_eq_true (by omega)
    have hax : indexAddrA 4 ((S.length : Nat) : Int) (.own id 4 0 (S.length + 1) (some L.length)) = some (.optr id 4 S.length 0) := by rw [ia_onat (by omega), Nat.zero_add]
    have hsl2 : sliceA 4 (.own id 4 0 (S.length + 1) (some L.length)) none (some (.val (.int .i64 ((S.length : Nat) : Int)))) (some (.val (.int .i64 ((L.length : Nat) : Int)))) = some (.own id 4 0 S.length (some L.length)) := by
      rw [slice_own_mx (a := 0) (b := S.length) (d := L.length) rfl (by simp [bound_int]) (by simp [bound_int]) (by omega) (by simp [leCap]) (by omega) (by simp [leCap])]
      simp
    have hps := ps_eq x (pb p)
    have hgl : (S ++ [x]).getLast? = some x := by simp
    have hE1 : S.length + 1 ≤ E.length := by omega
    rw [hlen]
    rw [hlen] at h3 hsl
    replace h3 := (show Aside _ from h3)
    replace hlen := (show Aside _ from hlen)
    replace hsl := (show Aside _ from hsl)
    replace h2 := (show Aside _ from h2)
    replace hiq := (show Aside _ from hiq)
    replace hlq := (show Aside _ from hlq)
    replace hgl := (show Aside _ from hgl)
    by_cases hx : x = pb p ∧ p.d ≤ 1
    · have hstk : stkP L (i + 1) = S := by rw [hst, hS, redS, hgl.out, if_pos ⟨by rw [hx.1], hx.2⟩]; simp
      rw [decide_eq_true hx.1] at hps
      have hd1 : decide (p.d ≤ 1) = true := decide_eq_true hx.2
      replace hx := (show Aside _ from hx)
      replace hst := (show Aside _ from hst)
      replace hS := (show Aside _ from hS)
      replace hstk := (show Aside _ from hstk)
      (repeat' first
    | simp (contextual := true) (maxSteps := 4000000) only [fwc, fwe, fww, reduceIte, ↓reduceIte, Nat.reduceAdd, Nat.reduceLeDiff, Nat.reduceEqDiff, Nat.reduceLT, Nat.reduceSub, reduceCtorEq, Int.reduceEq, Int.reduceLT, Int.reduceLE, Int.reduceNeg, Int.reduceToNat, Int.reduceAdd, Int.reduceSub, Nat.reduceMul, ilt_nat, part_cell, part_agg, wrap_succ, *]
    | (refine seqK_now ?_)
    | (refine retK_now ?_)
    | (refine retK_now' ?_)
    | (intro q hq)
    | (refine cond_intro (fun hc => ?_) (fun hc => ?_)))
      refine callF_use hbk ?_
      (repeat' first
    | simp (contextual := true) (maxSteps := 4000000) only [fwc, fwe, fww, reduceIte, ↓reduceIte, Nat.reduceAdd, Nat.reduceLeDiff, Nat.reduceEqDiff, Nat.reduceLT, Nat.reduceSub, reduceCtorEq, Int.reduceEq, Int.reduceLT, Int.reduceLE, Int.reduceNeg, Int.reduceToNat, Int.reduceAdd, Int.reduceSub, Nat.reduceMul, ilt_nat, part_cell, part_agg, wrap_succ, *]
    | (refine seqK_now ?_)
    | (refine retK_now ?_)
    | (refine retK_now' ?_)
    | (intro q hq)
    | (refine cond_intro (fun hc => ?_) (fun hc => ?_)))
      refine loopK_drop (O.upd id (.arr 54 4 E)) (sub_upd (by rw [Heap.upd_ne _ _ hq.1]; exact hq.2.2) (Heap.sub_refl _)) (L.length - (i + 1)) (by have := hi.out; omega) ?_
      rw [hI.out]
      refine ⟨i + 1, E, by have := hi.out; omega, rfl, h2.out, ?_, rfl, ?_⟩
      · have h4 := h3.out
        rw [hS.out] at h4
        rw [hstk.out]
        have := congrArg (List.take S.length) h4
        rw [List.take_take] at this
        simpa using this
      · rw [hstk.out]
        rfl
    · have hstk : stkP L (i + 1) = S ++ [x, p] := by
        rw [hst, hS, redS, hgl.out, if_neg (fun h => hx ⟨Option.some.inj h.1, h.2⟩)]
        simp
      have hEE : E.length = L.length := hEl.out
      have hfin : ∀ O2 : Heap, (O.upd id (.arr 54 4 (E.take (S.length + 1) ++ [p.av] ++ E.drop (S.length + 1 + 1)))).sub O2 → True := fun _ _ => trivial
      have hX : ((E.take (S.length + 1) ++ [p.av] ++ E.drop (S.length + 1 + 1))).take (S.length + 1 + 1) = (S ++ [x, p]).map Ps.av := by
        rw [h3.out, hS, List.take_left' (by simp)]
        simp
      replace hst := (show Aside _ from hst)
      replace hS := (show Aside _ from hS)
      replace hstk := (show Aside _ from hstk)
      replace hEE := (show Aside _ from hEE)
      replace hX := (show Aside _ from hX)
      clear hfin
      have hgo : ∀ b : Bool, True := fun _ => trivial
      clear hgo
      by_cases hx1 : x = pb p
      · rw [decide_eq_true hx1] at hps
        have hd1 : decide (p.d ≤ 1) = false := decide_eq_false fun h => hx ⟨hx1, h⟩
        replace hx := (show Aside _ from hx)
        replace hx1 := (show Aside _ from hx1)
        (repeat' first
    | simp (contextual := true) (maxSteps := 4000000) only [fwc, fwe, fww, reduceIte, ↓reduceIte, Nat.reduceAdd, Nat.reduceLeDiff, Nat.reduceEqDiff, Nat.reduceLT, Nat.reduceSub, reduceCtorEq, Int.reduceEq, Int.reduceLT, Int.reduceLE, Int.reduceNeg, Int.reduceToNat, Int.reduceAdd, Int.reduceSub, Nat.reduceMul, ilt_nat, part_cell, part_agg, wrap_succ, *]
    | (refine seqK_now ?_)
    | (refine retK_now ?_)
    | (refine retK_now' ?_)
    | (intro q hq)
    | (refine cond_intro (fun hc => ?_) (fun hc => ?_)))
        refine callF_use hbk ?_
        (repeat' first
    | simp (contextual := true) (maxSteps := 4000000) only [fwc, fwe, fww, reduceIte, ↓reduceIte, Nat.reduceAdd, Nat.reduceLeDiff, Nat.reduceEqDiff, Nat.reduceLT, Nat.reduceSub, reduceCtorEq, Int.reduceEq, Int.reduceLT, Int.reduceLE, Int.reduceNeg, Int.reduceToNat, Int.reduceAdd, Int.reduceSub, Nat.reduceMul, ilt_nat, part_cell, part_agg, wrap_succ, *]
    | (refine seqK_now ?_)
    | (refine retK_now ?_)
    | (refine retK_now' ?_)
    | (intro q hq)
    | (refine cond_intro (fun hc => ?_) (fun hc => ?_)))
        refine app_in (elems := E) (X := [p.av]) (el_list _ _ _ _) (by simp only [Heap.upd_apply, hq, if_true, if_false]) hE1 (fits_of (by have := hiq.out; have := hlq.out; have := hsl.out; simp; omega) (by omega)) (by have := hiq.out; have := hsl.out; simp; omega) ?_
        (repeat' first
    | simp (contextual := true) (maxSteps := 4000000) only [fwc, fwe, fww, reduceIte, ↓reduceIte, Nat.reduceAdd, Nat.reduceLeDiff, Nat.reduceEqDiff, Nat.reduceLT, Nat.reduceSub, reduceCtorEq, Int.reduceEq, Int.reduceLT, Int.reduceLE, Int.reduceNeg, Int.reduceToNat, Int.reduceAdd, Int.reduceSub, Nat.reduceMul, ilt_nat, part_cell, part_agg, wrap_succ, *]
    | (refine seqK_now ?_)
    | (refine retK_now ?_)
    | (refine retK_now' ?_)
    | (intro q hq)
    | (refine cond_intro (fun hc => ?_) (fun hc => ?_)))
        refine loopK_drop (O.upd id _) (sub_both (sub_upd (by simp only [*]) (sub_upd hid (Heap.sub_refl _)))) (L.length - (i + 1)) (by have := hi.out; omega) ?_
        rw [hI.out]
        refine ⟨i + 1, _, by have := hi.out; omega, rfl, ?_, ?_, rfl, ?_⟩
        · have := hiq.out; have := hEE.out; have := hsl.out; simp; omega
        · rw [hstk.out, show (S ++ [x, p]).length = S.length + 1 + 1 by simp]
          exact hX.out
        · rw [hstk.out, show (S ++ [x, p]).length = S.length + 1 + 1 by simp]
          rfl
      · rw [decide_eq_false hx1] at hps
        replace hx := (show Aside _ from hx)
        replace hx1 := (show Aside _ from hx1)
        (repeat' first
    | simp (contextual := true) (maxSteps := 4000000) only [fwc, fwe, fww, reduceIte, ↓reduceIte, Nat.reduceAdd, Nat.reduceLeDiff, Nat.reduceEqDiff, Nat.reduceLT, Nat.reduceSub, reduceCtorEq, Int.reduceEq, Int.reduceLT, Int.reduceLE, Int.reduceNeg, Int.reduceToNat, Int.reduceAdd, Int.reduceSub, Nat.reduceMul, ilt_nat, part_cell, part_agg, wrap_succ, *]
    | (refine seqK_now ?_)
    | (refine retK_now ?_)
    | (refine retK_now' ?_)
    | (intro q hq)
    | (refine cond_intro (fun hc => ?_) (fun hc => ?_)))
        refine callF_use hbk ?_
        (repeat' first
    | simp (contextual := true) (maxSteps := 4000000) only [fwc, fwe, fww, reduceIte, ↓reduceIte, Nat.reduceAdd, Nat.reduceLeDiff, Nat.reduceEqDiff, Nat.reduceLT, Nat.reduceSub, reduceCtorEq, Int.reduceEq, Int.reduceLT, Int.reduceLE, Int.reduceNeg, Int.reduceToNat, Int.reduceAdd, Int.reduceSub, Nat.reduceMul, ilt_nat, part_cell, part_agg, wrap_succ, *]
    | (refine seqK_now ?_)
    | (refine retK_now ?_)
    | (refine retK_now' ?_)
    | (intro q hq)
    | (refine cond_intro (fun hc => ?_) (fun hc => ?_)))
        refine app_in (elems := E) (X := [p.av]) (el_list _ _ _ _) (by simp only [Heap.upd_apply, hq, if_true, if_false]) hE1 (fits_of (by have := hiq.out; have := hlq.out; have := hsl.out; simp; omega) (by omega)) (by have := hiq.out; have := hsl.out; simp; omega) ?_
        (repeat' first
    | simp (contextual := true) (maxSteps := 4000000) only [fwc, fwe, fww, reduceIte, ↓reduceIte, Nat.reduceAdd, Nat.reduceLeDiff, Nat.reduceEqDiff, Nat.reduceLT, Nat.reduceSub, reduceCtorEq, Int.reduceEq, Int.reduceLT, Int.reduceLE, Int.reduceNeg, Int.reduceToNat, Int.reduceAdd, Int.reduceSub, Nat.reduceMul, ilt_nat, part_cell, part_agg, wrap_succ, *]
    | (refine seqK_now ?_)
    | (refine retK_now ?_)
    | (refine retK_now' ?_)
    | (intro q hq)
    | (refine cond_intro (fun hc => ?_) (fun hc => ?_)))
        refine loopK_drop (O.upd id _) (sub_both (sub_upd (by simp only [*]) (sub_upd hid (Heap.sub_refl _)))) (L.length - (i + 1)) (by have := hi.out; omega) ?_
        rw [hI.out]
        refine ⟨i + 1, _, by have := hi.out; omega, rfl, ?_, ?_, rfl, ?_⟩
        · have := hiq.out; have := hEE.out; have := hsl.out; simp; omega
        · rw [hstk.out, show (S ++ [x, p]).length = S.length + 1 + 1 by simp]
          exact hX.out
        · rw [hstk.out, show (S ++ [x, p]).length = S.length + 1 + 1 by simp]
          rfl
end Go.Proofs.Ytembkknplmcamaa

namespace Go.Proofs.Ytembkknplmcamaa
open Go.Ab
attribute [local irreducible] WeakR WeakE CallA YieldA

/-! passed: passes as a text. -/
section
variable {P : Program} {e : Env} {O : Heap} {K : AV → Heap → Prop}
theorem ci_str (op : BinOp) (x y : Operand) : CiSem P (.str op x y) e O K = optK (strA op (e.opd x) (e.opd y)) K O := optK_ex _ K O
theorem ci_bstr (x : Operand) : CiSem P (.bstr x) e O K = optK (bstrA O (e.opd x)) K O := optK_ex _ K O
theorem pi_str (op : BinOp) (x y : Operand) : pureI (.str op x y) e O = strA op (e.opd x) (e.opd y) := rfl
theorem pi_bstr (x : Operand) : pureI (.bstr x) e O = bstrA O (e.opd x) := rfl
theorem pu_str (op : BinOp) (x y : Operand) : pureCI (.str op x y) = true := rfl
theorem pu_bstr (x : Operand) : pureCI (.bstr x) = true := rfl
end
theorem fws : type_of% @ci_str ∧ type_of% @ci_bstr ∧ type_of% @pi_str ∧ type_of% @pi_bstr ∧ type_of% @pu_str ∧ type_of% @pu_bstr :=
  ⟨@ci_str, @ci_bstr, @pi_str, @pi_bstr, @pu_str, @pu_bstr⟩
def sA (b : List UInt8) : AV := .val (.string ⟨⟨b⟩⟩)
theorem sA_add {a b : List UInt8} (h : a.length + b.length ≤ 4611686018427387904) : strA .add (sA a) (sA b) = some (sA (a ++ b)) := by
  show (if a.length + b.length ≤ 4611686018427387904 then some (sA (a ++ b)) else none) = _
  rw [if_pos h]
theorem sA_neq (a : List UInt8) : strA .neq (sA a) (sA a) = some (.val (.bool false)) := by
  show some (AV.val (.bool (!(a == a)))) = _
  simp
theorem sA_cells (b : List UInt8) : (sA b).cells = [sA b] := rfl
theorem sA_stor (b : List UInt8) : (sA b).stor = true := rfl
def by8 (n : Int) : UInt8 := UInt8.ofNat n.toNat
theorem sA_three (a b c : Int) (O : Heap) : bstrA O (.list 1 true [.val (.int .u8 a), .val (.int .u8 b), .val (.int .u8 c)]) = some (sA [by8 a, by8 b, by8 c]) := by
  unfold bstrA
  rw [el_list]
  rfl
theorem fwt : type_of% @sA_cells ∧ type_of% @sA_stor ∧ type_of% @sA_three := ⟨@sA_cells, @sA_stor, @sA_three⟩
def pas1 (p : Ps) : List UInt8 := [by8 (IntKind.u8.wrap (48 + p.id.y)), by8 46, by8 (IntKind.u8.wrap (48 + IntKind.u8.wrap (p.id.n.tmod 10)))]
def pasF (p : Ps) : List UInt8 := if p.f = true then [43] else []
def pasD (p : Ps) : List UInt8 := if p.d = 0 then [60, 32] else [62, 32]
def pasL (L : List Ps) : List UInt8 := L.flatMap fun p => pas1 p ++ (pasF p ++ pasD p)
theorem pas_len (p : Ps) : (pas1 p).length = 3 ∧ (pasF p).length ≤ 1 ∧ (pasD p).length = 2 := by
  refine ⟨rfl, ?_, ?_⟩
  · unfold pasF; split <;> simp
  · unfold pasD; split <;> rfl
theorem pasL_len : ∀ L : List Ps, (pasL L).length ≤ 6 * L.length
  | [] => by simp [pasL]
  | p :: L => by
    have h := pasL_len L
    obtain ⟨h1, h2, h3⟩ := pas_len p
    unfold pasL at h ⊢
    rw [List.flatMap_cons, List.length_append, List.length_append, List.length_append, List.length_cons]
    omega
def e14 (l : AV) (b : List UInt8) (i : Nat) : Env := ((Env.upd (fun _ => .junk) 4 (.val (.int .i64 i))).upd 3 (sA b)).upd 0 l

set_option maxHeartbeats 4000000 in
theorem passed_ok (l : AV) (L : List Ps) (hs : IsL 4 l (L.map Ps.av)) (hl : L.length ≤ 100000) (hd : ∀ p ∈ L, p.d = 0 ∨ p.d = 1) :
    PureA Try.prog 14 [l] (sA (pasL L)) := by
  intro O
  have hlA := hs.len
  have hc := hs.cells
  have hst := hs.stor
  rw [List.length_map] at hlA
  have z0 : AV.val (.string ⟨#[]⟩) = sA [] := rfl
  have z1 : AV.val (.string ⟨#[43]⟩) = sA [43] := rfl
  have z2 : AV.val (.string ⟨#[60, 32]⟩) = sA [60, 32] := rfl
  have z3 : AV.val (.string ⟨#[62, 32]⟩) = sA [62, 32] := rfl
  refine k14.call mix ?_
  unfold c14
  obtain ⟨I, hI⟩ := hideI (fun m e O' => ∃ i : Nat, i ≤ L.length ∧ m = L.length - i ∧ O' = O ∧ e = e14 l (pasL (L.take i)) i)
  replace hs := (show Aside _ from hs)
  replace hl := (show Aside _ from hl)
  replace hd := (show Aside _ from hd)
  (repeat' first
    | simp (contextual := true) (maxSteps := 4000000) only [fwc, fwe, fww, reduceIte, ↓reduceIte, Nat.reduceAdd, Nat.reduceLeDiff, Nat.reduceEqDiff, Nat.reduceLT, Nat.reduceSub, reduceCtorEq, Int.reduceEq, Int.reduceLT, Int.reduceLE, Int.reduceNeg, Int.reduceToNat, Int.reduceAdd, Int.reduceSub, Nat.reduceMul, fws, fwt, *]
    | (refine seqK_now ?_)
    | (refine retK_now ?_)
    | (refine retK_now' ?_)
    | (intro q hq)
    | (refine cond_intro (fun hc => ?_) (fun hc => ?_)))
  refine cmd_loop I L.length (by rw [hI.out]; exact ⟨0, Nat.zero_le _, rfl, rfl, rfl⟩) ?_
  intro m e O' hh
  rw [hI.out] at hh
  obtain ⟨i, hi1, rfl, hOH, rfl⟩ := hh
  rw [hOH]
  clear hOH O'
  unfold e14
  by_cases hi : i < L.length
  rotate_left
  · have e0 : decide (i < L.length) = false := decide_eq_false hi
    rw [List.take_of_length_le (by omega)]
    have y1 := sA_cells (pasL L)
    have y2 := sA_stor (pasL L)
    generalize sA (pasL L) = R at *
    replace hi := (show Aside _ from hi)
    replace hi1 := (show Aside _ from hi1)
    (repeat' first
    | simp (contextual := true) (maxSteps := 4000000) only [fwc, fwe, fww, reduceIte, ↓reduceIte, Nat.reduceAdd, Nat.reduceLeDiff, Nat.reduceEqDiff, Nat.reduceLT, Nat.reduceSub, reduceCtorEq, Int.reduceEq, Int.reduceLT, Int.reduceLE, Int.reduceNeg, Int.reduceToNat, Int.reduceAdd, Int.reduceSub, Nat.reduceMul, ilt_nat, *]
    | (refine seqK_now ?_)
    | (refine retK_now ?_)
    | (refine retK_now' ?_)
    | (intro q hq)
    | (refine cond_intro (fun hc => ?_) (fun hc => ?_)))
    refine WeakR.pure (by repeat (first | exact Heap.sub_refl _ | refine sub_upd (by simp only [*]) ?_)) ?_
    rfl
  have e0 : decide (i < L.length) = true := decide_eq_true hi
  have hwi : i < 4611686018427387904 := by have := hl.out; omega
  have hia := IsL.ia hs.out (i := i) (by rw [List.length_map]; exact hi)
  rw [List.getElem_map] at hia
  have hdp := hd.out _ (List.getElem_mem hi)
  have htk : pasL (L.take (i + 1)) = pasL (L.take i) ++ (pas1 L[i] ++ (pasF L[i] ++ pasD L[i])) := by
    unfold pasL
    rw [List.take_succ_eq_append_getElem hi, List.flatMap_append]
    simp
  have hbl : (pasL (L.take i)).length ≤ 600000 := by
    have h1 := pasL_len (L.take i)
    have h2 := List.length_take_le i L
    have h3 := hl.out
    omega
  have hx : I (L.length - (i + 1)) (e14 l (pasL (L.take i) ++ (pas1 L[i] ++ (pasF L[i] ++ pasD L[i]))) (i + 1)) O := by
    rw [hI.out]
    exact ⟨i + 1, by omega, rfl, rfl, by rw [htk]⟩
  generalize pasL (L.take i) = b at *
  generalize L[i] = p at *
  rw [show p.av = .agg [.val (.int .u8 p.id.y), .val (.int .i64 p.id.n), .val (.bool p.f), .val (.int .u8 p.d)] from rfl] at hia
  have hp1 : pas1 p = [by8 (IntKind.u8.wrap (48 + p.id.y)), by8 46, by8 (IntKind.u8.wrap (48 + IntKind.u8.wrap (p.id.n.tmod 10)))] := rfl
  have a1 : strA .add (sA b) (sA [by8 (IntKind.u8.wrap (48 + p.id.y)), by8 46, by8 (IntKind.u8.wrap (48 + IntKind.u8.wrap (p.id.n.tmod 10)))]) = some (sA (b ++ pas1 p)) := sA_add (by rw [← hp1, (pas_len p).1]; omega)
  have hl1 : (b ++ pas1 p).length ≤ 600003 := by rw [List.length_append, (pas_len p).1]; omega
  rw [← List.append_assoc] at hx
  clear htk
  generalize b ++ pas1 p = b1 at *
  replace hi := (show Aside _ from hi)
  replace hi1 := (show Aside _ from hi1)
  replace hbl := (show Aside _ from hbl)
  replace hl1 := (show Aside _ from hl1)
  replace hp1 := (show Aside _ from hp1)
  replace hx := (show Aside _ from hx)
  cases hf : p.f with
  | false =>
    have hpF : pasF p = [] := by unfold pasF; rw [hf]; rfl
    rw [hpF, List.nil_append] at hx
    rcases hdp with h0 | h0
    · have hpD : pasD p = [60, 32] := if_pos h0
      have a3 : strA .add (sA b1) (sA [60, 32]) = some (sA (b1 ++ [60, 32])) := sA_add (by have := hl1.out; simp; omega)
      have i0 : indexAddrA 1 0 (.list 1 true [sA [60, 32], sA [62, 32]]) = some (.ref (sA [60, 32])) := rfl
      rw [hpD] at hx
      rw [h0, hf] at hia
      replace hpD := (show Aside _ from hpD)
      replace hpF := (show Aside _ from hpF)
      replace h0 := (show Aside _ from h0)
      replace hf := (show Aside _ from hf)
      (repeat' first
    | simp (contextual := true) (maxSteps := 4000000) only [fwc, fwe, fww, reduceIte, ↓reduceIte, Nat.reduceAdd, Nat.reduceLeDiff, Nat.reduceEqDiff, Nat.reduceLT, Nat.reduceSub, reduceCtorEq, Int.reduceEq, Int.reduceLT, Int.reduceLE, Int.reduceNeg, Int.reduceToNat, Int.reduceAdd, Int.reduceSub, Nat.reduceMul, ilt_nat, part_cell, part_agg, wrap_succ, fws, fwt, *]
    | (refine seqK_now ?_)
    | (refine retK_now ?_)
    | (refine retK_now' ?_)
    | (intro q hq)
    | (refine cond_intro (fun hc => ?_) (fun hc => ?_)))
      refine loopK_now (L.length - (i + 1)) (by have := hi.out; omega) ?_
      exact hx.out
    · have hpD : pasD p = [62, 32] := if_neg (by rw [h0]; decide)
      have a3 : strA .add (sA b1) (sA [62, 32]) = some (sA (b1 ++ [62, 32])) := sA_add (by have := hl1.out; simp; omega)
      have i0 : indexAddrA 1 1 (.list 1 true [sA [60, 32], sA [62, 32]]) = some (.ref (sA [62, 32])) := rfl
      rw [hpD] at hx
      rw [h0, hf] at hia
      replace hpD := (show Aside _ from hpD)
      replace hpF := (show Aside _ from hpF)
      replace h0 := (show Aside _ from h0)
      replace hf := (show Aside _ from hf)
      (repeat' first
    | simp (contextual := true) (maxSteps := 4000000) only [fwc, fwe, fww, reduceIte, ↓reduceIte, Nat.reduceAdd, Nat.reduceLeDiff, Nat.reduceEqDiff, Nat.reduceLT, Nat.reduceSub, reduceCtorEq, Int.reduceEq, Int.reduceLT, Int.reduceLE, Int.reduceNeg, Int.reduceToNat, Int.reduceAdd, Int.reduceSub, Nat.reduceMul, ilt_nat, part_cell, part_agg, wrap_succ, fws, fwt, *]
    | (refine seqK_now ?_)
    | (refine retK_now ?_)
    | (refine retK_now' ?_)
    | (intro q hq)
    | (refine cond_intro (fun hc => ?_) (fun hc => ?_)))
      refine loopK_now (L.length - (i + 1)) (by have := hi.out; omega) ?_
      exact hx.out
  | true =>
    have hpF : pasF p = [43] := by unfold pasF; rw [hf]; rfl
    rw [hpF] at hx
    rcases hdp with h0 | h0
    · have hpD : pasD p = [60, 32] := if_pos h0
      have a2 : strA .add (sA b1) (sA [43]) = some (sA (b1 ++ [43])) := sA_add (by have := hl1.out; simp; omega)
      have a3 : strA .add (sA (b1 ++ [43])) (sA [60, 32]) = some (sA ((b1 ++ [43]) ++ [60, 32])) := sA_add (by have := hl1.out; simp; omega)
      have i0 : indexAddrA 1 0 (.list 1 true [sA [60, 32], sA [62, 32]]) = some (.ref (sA [60, 32])) := rfl
      rw [hpD] at hx
      rw [h0, hf] at hia
      rw [← List.append_assoc] at hx
      generalize b1 ++ [43] = b2 at *
      replace hpD := (show Aside _ from hpD)
      replace hpF := (show Aside _ from hpF)
      replace h0 := (show Aside _ from h0)
      replace hf := (show Aside _ from hf)
      (repeat' first
    | simp (contextual := true) (maxSteps := 4000000) only [fwc, fwe, fww, reduceIte, ↓reduceIte, Nat.reduceAdd, Nat.reduceLeDiff, Nat.reduceEqDiff, Nat.reduceLT, Nat.reduceSub, reduceCtorEq, Int.reduceEq, Int.reduceLT, Int.reduceLE, Int.reduceNeg, Int.reduceToNat, Int.reduceAdd, Int.reduceSub, Nat.reduceMul, ilt_nat, part_cell, part_agg, wrap_succ, fws, fwt, *]
    | (refine seqK_now ?_)
    | (refine retK_now ?_)
    | (refine retK_now' ?_)
    | (intro q hq)
    | (refine cond_intro (fun hc => ?_) (fun hc => ?_)))
      refine loopK_now (L.length - (i + 1)) (by have := hi.out; omega) ?_
      exact hx.out
    · have hpD : pasD p = [62, 32] := if_neg (by rw [h0]; decide)
      have a2 : strA .add (sA b1) (sA [43]) = some (sA (b1 ++ [43])) := sA_add (by have := hl1.out; simp; omega)
      have a3 : strA .add (sA (b1 ++ [43])) (sA [62, 32]) = some (sA ((b1 ++ [43]) ++ [62, 32])) := sA_add (by have := hl1.out; simp; omega)
      have i0 : indexAddrA 1 1 (.list 1 true [sA [60, 32], sA [62, 32]]) = some (.ref (sA [62, 32])) := rfl
      rw [hpD] at hx
      rw [h0, hf] at hia
      rw [← List.append_assoc] at hx
      generalize b1 ++ [43] = b2 at *
      replace hpD := (show Aside _ from hpD)
      replace hpF := (show Aside _ from hpF)
      replace h0 := (show Aside _ from h0)
      replace hf := (show Aside _ from hf)
      (repeat' first
    | simp (contextual := true) (maxSteps := 4000000) only [fwc, fwe, fww, reduceIte, ↓reduceIte, Nat.reduceAdd, Nat.reduceLeDiff, Nat.reduceEqDiff, Nat.reduceLT, Nat.reduceSub, reduceCtorEq, Int.reduceEq, Int.reduceLT, Int.reduceLE, Int.reduceNeg, Int.reduceToNat, Int.reduceAdd, Int.reduceSub, Nat.reduceMul, ilt_nat, part_cell, part_agg, wrap_succ, fws, fwt, *]
    | (refine seqK_now ?_)
    | (refine retK_now ?_)
    | (refine retK_now' ?_)
    | (intro q hq)
    | (refine cond_intro (fun hc => ?_) (fun hc => ?_)))
      refine loopK_now (L.length - (i + 1)) (by have := hi.out; omega) ?_
      exact hx.out

/-! Reduce takes away what is passed there and back. -/
theorem red_same {d : Int} (hd : d = 0 ∨ d = 1) : ∀ (L S : List Ps), (∀ p ∈ S, p.d = d) → (∀ p ∈ L, p.d = d) → L.foldl redS S = S ++ L
  | [], S, _, _ => by simp
  | p :: L, S, hS, hL => by
    have hp := hL p List.mem_cons_self
    have hstep : redS S p = S ++ [p] := by
      unfold redS
      rw [if_neg]
      rintro ⟨h1, _⟩
      have hm : pb p ∈ S := List.mem_of_getLast? h1
      have := hS _ hm
      unfold pb at this
      simp only at this
      rw [hp] at this
      rcases hd with rfl | rfl <;> simp at this
    rw [List.foldl_cons, hstep, red_same hd L (S ++ [p]) (fun q hq => by
      rcases List.mem_append.1 hq with h | h
      · exact hS q h
      · rw [List.mem_singleton.1 h]; exact hp) (fun q hq => hL q (List.mem_cons_of_mem _ hq)), List.append_assoc]
    rfl
theorem pb_pb {p : Ps} (h : p.d = 0 ∨ p.d = 1) : pb (pb p) = p := by
  obtain ⟨i, f, d⟩ := p
  unfold pb
  rcases h with h | h <;> (simp only at h; subst h; rfl)
theorem red_back : ∀ (L : List Ps), (∀ p ∈ L, p.d = 0 ∨ p.d = 1) → ∀ S, (L.map pb).foldl redS (S ++ L.reverse) = S
  | [], _, S => by simp
  | p :: L, h, S => by
    have hp := h p List.mem_cons_self
    have hstep : redS (S ++ (p :: L).reverse) (pb p) = S ++ L.reverse := by
      unfold redS
      rw [List.reverse_cons, ← List.append_assoc, if_pos]
      · simp
      · refine ⟨by rw [pb_pb hp]; simp, ?_⟩
        unfold pb
        split <;> simp
    rw [List.map_cons, List.foldl_cons, hstep]
    exact red_back L (fun q hq => h q (List.mem_cons_of_mem _ hq)) S
theorem red_nil {d : Int} (hd : d = 0 ∨ d = 1) {L : List Ps} (h : ∀ p ∈ L, p.d = d) : redL (L ++ (L.reverse).map pb) = [] := by
  unfold redL
  rw [List.foldl_append, red_same hd L [] (fun _ h => by cases h) h, List.nil_append]
  have := red_back L.reverse (fun p hp => by rw [h p (List.mem_reverse.1 hp)]; exact hd) []
  rwa [List.reverse_reverse, List.nil_append] at this
theorem bt_dir (L : List Hd) (f t : Int) : ∀ p ∈ btL L f t, p.d = if f < t then 1 else 0 := fun p hp => by
  have hp' : p ∈ btO L f t := by
    unfold btL at hp
    split at hp
    · exact hp
    · exact List.mem_reverse.1 hp
  unfold btO at hp'
  obtain ⟨x, _, hx⟩ := List.mem_flatMap.1 hp'
  have one : ∀ (c : Prop) [Decidable c] (q : Ps), p ∈ (if c then [q] else []) → p = q := fun c _ q h => by
    split at h
    · exact List.mem_singleton.1 h
    · cases h
  rw [one _ _ hx]
theorem bt_back (L : List Hd) (f t : Int) (hne : f ≠ t) : btL L t f = ((btL L f t).reverse).map pb := by
  have key : btO L t f = (btO L f t).map pb := by
    unfold btO
    rw [List.map_flatMap]
    refine fm_congr fun x _ => ?_
    rcases Int.lt_or_gt_of_ne hne with h | h
    · have h2 : ¬ t < f := by omega
      simp only [h, h2, if_true, if_false]
      split <;> rfl
    · have h2 : ¬ f < t := by omega
      simp only [h, h2, if_true, if_false]
      split <;> rfl
  unfold btL
  rw [key]
  rcases Int.lt_or_gt_of_ne hne with h | h
  · rw [if_pos h, if_neg (show ¬ t < f by omega), List.map_reverse]
  · rw [if_pos h, if_neg (show ¬ f < t by omega), List.reverse_reverse]
theorem bt_same (L : List Hd) (f : Int) : btL L f f = [] := by
  have key : btO L f f = [] := by
    unfold btO
    refine List.flatMap_eq_nil_iff.2 fun x _ => if_neg fun h => ?_
    simp only [ite_self] at h
    omega
  unfold btL
  rw [key]
  split <;> rfl
theorem bt_red (L : List Hd) (f t : Int) : redL (btL L f t ++ btL L t f) = [] := by
  by_cases h : f = t
  · subst h
    rw [bt_same]
    rfl
  · rw [bt_back L f t h]
    exact red_nil (d := if f < t then 1 else 0) (by split <;> simp) (bt_dir L f t)
end Go.Proofs.Ytembkknplmcamaa

namespace Go.Proofs.Ytembkknplmcamaa
open Go.Ab
attribute [local irreducible] WeakR WeakE CallA YieldA

/-! The walk of OrdersBetween. -/
theorem seqK_owN {E : TypeId} {sz : Nat} {O0 O' : Heap} {L : List AV} (d : Nat) {Lv : List Nat} {K : Kont} {F : Env → Heap → Prop} {e : Env} (hs : OwN E sz O0 O' (e d) L) (hk : ∀ s', IsL sz s' L → F (keepE Lv (e.upd d s')) O0) : seqK Lv K F .normal e O' := by
  rcases hs with ⟨h1, h2, rfl⟩ | ⟨_, id, c, elems, h0, h1, rfl, h3, h4⟩
  · refine seqK_weak (WeakE.keep Lv ?_)
    have := hk (.val (.slice none 0 0)) (.inl ⟨rfl, h2⟩)
    rwa [← h1, show e.upd d (e d) = e from by funext t; rw [Env.upd_apply]; split <;> simp_all] at this
  · exact seqK_owB (E := E) (O0 := O0) (L := L) d (.inr ⟨id, c, elems, h0, h1, rfl, h3, h4⟩) hk
theorem ReduceP_ow {E : TypeId} {O0 O' : Heap} {s : AV} {A : List Ps} {K : AV → Heap → Prop} (hs : OwB E 4 O0 O' s (A.map Ps.av)) (hl : A.length ≤ 1048576) (hk : K (.list 4 true ((redL A).map Ps.av)) O0) : CallA Try.prog 15 [s] O' K :=
  ow_call hs (fun s' h => ReduceP_ok s' A h hl) hk
def wq (lo up d : Int) (x : Hd) : List Ps := if lo < x.spot ∧ x.spot < up then [(⟨x.id, decide (x.bed = 1), d⟩ : Ps)] else []
def ordF (f t : Int) (L : List Hd) : List Hd := if f < t then L else L.reverse
def kkF (f t : Int) (n i : Nat) : Nat := if f < t then i else n - 1 - i
theorem wq_len (lo up d : Int) : ∀ L : List Hd, (L.flatMap (wq lo up d)).length ≤ L.length
  | [] => by simp
  | x :: L => by
    have h := wq_len lo up d L
    have h1 : (wq lo up d x).length ≤ 1 := by unfold wq; split <;> simp
    rw [List.flatMap_cons, List.length_append, List.length_cons]
    omega
theorem want_bt (L : List Hd) (f t : Int) : (ordF f t L).flatMap (wq (if f < t then f else t) (if f < t then t else f) (if f < t then 1 else 0)) = btL L f t := by
  have rev : ∀ (lo up d : Int) (L : List Hd), L.reverse.flatMap (wq lo up d) = (L.flatMap (wq lo up d)).reverse := fun lo up d L => by
    induction L with
    | nil => rfl
    | cons x L ih =>
      simp only [List.reverse_cons, List.flatMap_append, ih, List.flatMap_cons, List.flatMap_nil, List.append_nil, List.reverse_append]
      congr 1
      unfold wq
      split <;> rfl
  unfold ordF btL
  by_cases h : f < t
  · simp only [h, if_true]
    unfold btO
    simp only [h, if_true]
    rfl
  · simp only [h, if_false]
    rw [rev]
    congr 1
    unfold btO
    simp only [h, if_false]
    rfl
theorem ordF_get {f t : Int} {L : List Hd} {i : Nat} (h : i < (ordF f t L).length) : (ordF f t L)[i] = gt L (kkF f t L.length i) ∧ kkF f t L.length i < L.length := by
  have hl : (ordF f t L).length = L.length := by unfold ordF; split <;> simp
  unfold kkF
  by_cases h0 : f < t
  · have e : ordF f t L = L := if_pos h0
    rw [if_pos h0]
    refine ⟨?_, by omega⟩
    simp only [e]
    rw [gt_get (by omega)]
  · have e : ordF f t L = L.reverse := if_neg h0
    rw [if_neg h0]
    refine ⟨?_, by omega⟩
    simp only [e, List.getElem_reverse]
    rw [gt_get (by omega)]
def e6a (l : AV) (f t : Int) (g : AV) (lo up : Int) : Env := (((((Env.upd (fun _ => .junk) 14 (.val (.int .i64 up))).upd 13 (.val (.int .i64 lo))).upd 12 g).upd 11 (.val (.int .i64 t))).upd 10 (.val (.int .i64 f))).upd 8 l
def e6b (l : AV) (f t : Int) (g : AV) (lo up : Int) (s : AV) (i : Nat) : Env := (((((((Env.upd (fun _ => .junk) 16 (.val (.int .i64 i))).upd 15 s).upd 14 (.val (.int .i64 up))).upd 13 (.val (.int .i64 lo))).upd 12 g).upd 11 (.val (.int .i64 t))).upd 10 (.val (.int .i64 f))).upd 8 l
def e6c (l : AV) (f t : Int) (g : AV) (lo up : Int) (s : AV) (i k : Nat) : Env := ((((((((Env.upd (fun _ => .junk) 17 (.val (.int .i64 k))).upd 16 (.val (.int .i64 i))).upd 15 s).upd 14 (.val (.int .i64 up))).upd 13 (.val (.int .i64 lo))).upd 12 g).upd 11 (.val (.int .i64 t))).upd 10 (.val (.int .i64 f))).upd 8 l
def e6d (l : AV) (f t : Int) (g w : AV) (i : Nat) : Env := (((((Env.upd (fun _ => .junk) 19 (.val (.int .i64 i))).upd 15 w).upd 12 g).upd 11 (.val (.int .i64 t))).upd 10 (.val (.int .i64 f))).upd 8 l

set_option maxHeartbeats 16000000 in
theorem OrdersBetween_ok (s : AV) (P : List Put) (rk : Nat) (f t : Int) (hs : IsL 2 s (P.map Put.av)) (hP : ∀ p ∈ P, p.ok) (hrk : rk < 256) :
    PureA Try.prog 6 [s, .val (.int .u8 rk), .agg [.val (.int .i64 f), .val (.int .i64 t)]] (.val (.bool true)) := by
  have hof := Of_ok s P hs hP
  have hTo := Of_tab_ok P
  have hTn := (ofN_ok P).2
  generalize ofL P = T at hof hTo
  have hle : ∀ l ∈ T, l.length ≤ 1000 := fun l hl => by have := hTo.le l hl; omega
  have hBe := beds_is hle
  have hck := check_beds hTo (by omega)
  have hm4 := at_le4' hTo
  have hF40 := (beds_40 T).1
  have hB40 := (beds_40 T).2
  have hF4 := (tab_le4 hTo).1
  have hB4 := (tab_le4 hTo).2
  have hnd : (namesL (bedsF T) (bedsB T)).Nodup := by rw [names_beds hTo.len]; exact hTo.nd
  obtain ⟨rr, hrr⟩ : ∃ z : Int, ((rk % 9 : Nat) : Int) - 4 = z := ⟨_, rfl⟩
  have r0 : ((rk : Nat) : Int).tmod 9 = ((rk % 9 : Nat) : Int) := by rw [Int.tmod_eq_emod_of_nonneg (by omega)]; omega
  have w0 : IntKind.i64.wrap ((rk % 9 : Nat) : Int) = ((rk % 9 : Nat) : Int) := by rw [wrap_i64 (by omega) (by omega)]
  have w1 : IntKind.i64.wrap (((rk % 9 : Nat) : Int) - 4) = rr := by rw [wrap_i64 (by omega) (by omega)]; exact hrr
  have k1 : rackOK rr = true := by unfold rackOK; simp only [Bool.and_eq_true, decide_eq_true_eq]; omega
  have hLi := List_ok hBe hck hF40 hB40 hF4 hB4 rr
  rw [if_pos k1] at hLi
  have hlen : (bySpot (heldT (bedsF T) (bedsB T) rr 2)).length ≤ 30400 := by rw [list_listed hF40 hB40 rr]; exact lisA_len hm4 rr 95
  generalize bySpot (heldT (bedsF T) (bedsB T) rr 2) = L at *
  have hlT := tA_T 5 (L.map Hd.av)
  generalize tA 5 (L.map Hd.av) = l at *
  have ll := hlT.isL.len
  have lc := hlT.isL.cells
  have ls := hlT.isL.stor
  rw [List.length_map] at ll
  have hB1 := Between_ok l L f t hlT.isL (by omega)
  have hB2 := Between_ok l L t f hlT.isL (by omega)
  have hbl1 := btL_len L f t
  have hbl2 := btL_len L t f
  have hred := bt_red L f t
  have hwt := want_bt L f t
  have hbd := bt_dir L f t
  generalize btL L f t = BT at *
  generalize btL L t f = BK at *
  have hgT := tA_T 4 (BT.map Ps.av)
  have hkT := tA_T 4 (BK.map Ps.av)
  generalize tA 4 (BT.map Ps.av) = g at *
  generalize tA 4 (BK.map Ps.av) = bk at *
  have gl := hgT.isL.len
  have gc := hgT.isL.cells
  have gs := hgT.isL.stor
  have kc := hkT.isL.cells
  have ks := hkT.isL.stor
  rw [List.length_map] at gl
  have hbd' : ∀ p ∈ BT, p.d = 0 ∨ p.d = 1 := fun p hp => by rw [hbd p hp]; split <;> simp
  have hpg := passed_ok g BT hgT.isL (by omega) hbd'
  have hpw := fun w hw => passed_ok w BT hw (by omega) hbd'
  have hne := sA_neq (pasL BT)
  have yc := sA_cells (pasL BT)
  have ys := sA_stor (pasL BT)
  generalize sA (pasL BT) = TX at *
  have d0 : decide ((0 : Int) = 0) = true := by decide
  have d00 : decide (((0 : Nat) : Int) = 0) = true := by decide
  have dgg : decide ((BT.length : Int) = (BT.length : Int)) = true := decide_eq_true rfl
  obtain ⟨lo, hlo⟩ : ∃ z : Int, (if f < t then f else t) = z := ⟨_, rfl⟩
  obtain ⟨up, hup⟩ : ∃ z : Int, (if f < t then t else f) = z := ⟨_, rfl⟩
  obtain ⟨d, hd⟩ : ∃ z : Int, (if f < t then 1 else 0) = z := ⟨_, rfl⟩
  rw [hlo, hup, hd] at hwt
  replace hBe := (show Aside _ from hBe)
  replace hck := (show Aside _ from hck)
  replace hm4 := (show Aside _ from hm4)
  replace hTo := (show Aside _ from hTo)
  replace hle := (show Aside _ from hle)
  replace hs := (show Aside _ from hs)
  replace hP := (show Aside _ from hP)
  replace hF40 := (show Aside _ from hF40)
  replace hB40 := (show Aside _ from hB40)
  replace hF4 := (show Aside _ from hF4)
  replace hB4 := (show Aside _ from hB4)
  replace hnd := (show Aside _ from hnd)
  replace hrk := (show Aside _ from hrk)
  replace hrr := (show Aside _ from hrr)
  replace k1 := (show Aside _ from k1)
  replace hlen := (show Aside _ from hlen)
  replace hlT := (show Aside _ from hlT)
  replace hbl1 := (show Aside _ from hbl1)
  replace hbl2 := (show Aside _ from hbl2)
  replace hred := (show Aside _ from hred)
  replace hwt := (show Aside _ from hwt)
  replace hbd := (show Aside _ from hbd)
  replace hgT := (show Aside _ from hgT)
  replace hkT := (show Aside _ from hkT)
  replace hpw := (show Aside _ from hpw)
  replace hlo := (show Aside _ from hlo)
  replace hup := (show Aside _ from hup)
  replace hd := (show Aside _ from hd)
  replace hbd' := (show Aside _ from hbd')
  intro O
  refine k6.call mix ?_
  unfold c6
  (repeat' first
    | simp (contextual := true) (maxSteps := 4000000) only [fwc, fwe, fww, reduceIte, ↓reduceIte, Nat.reduceAdd, Nat.reduceLeDiff, Nat.reduceEqDiff, Nat.reduceLT, Nat.reduceSub, reduceCtorEq, Int.reduceEq, Int.reduceLT, Int.reduceLE, Int.reduceNeg, Int.reduceToNat, Int.reduceAdd, Int.reduceSub, Nat.reduceMul, part_cell, part_agg, *]
    | (refine retK_now ?_)
    | (refine retK_now' ?_)
    | (intro q hq)
    | (refine cond_intro (fun hc => ?_) (fun hc => ?_)))
  revert q
  intro q5 hq5
  have ip0 : indexPtrA 2 1 false 0 (.optr q5 2 0 0) = some (.optr q5 2 0 0) := rfl
  have ip1 : indexPtrA 2 1 false 1 (.optr q5 2 0 0) = some (.optr q5 2 0 1) := rfl
  refine seqK_now ?_
  (repeat' first
    | simp (contextual := true) (maxSteps := 4000000) only [fwc, fwe, fww, reduceIte, ↓reduceIte, Nat.reduceAdd, Nat.reduceLeDiff, Nat.reduceEqDiff, Nat.reduceLT, Nat.reduceSub, reduceCtorEq, Int.reduceEq, Int.reduceLT, Int.reduceLE, Int.reduceNeg, Int.reduceToNat, Int.reduceAdd, Int.reduceSub, Nat.reduceMul, part_cell, part_agg, *]
    | (refine retK_now ?_)
    | (refine retK_now' ?_)
    | (intro q hq)
    | (refine cond_intro (fun hc => ?_) (fun hc => ?_)))
  refine seqK_now ?_
  (repeat' first
    | simp (contextual := true) (maxSteps := 4000000) only [fwc, fwe, fww, reduceIte, ↓reduceIte, Nat.reduceAdd, Nat.reduceLeDiff, Nat.reduceEqDiff, Nat.reduceLT, Nat.reduceSub, reduceCtorEq, Int.reduceEq, Int.reduceLT, Int.reduceLE, Int.reduceNeg, Int.reduceToNat, Int.reduceAdd, Int.reduceSub, Nat.reduceMul, part_cell, part_agg, *]
    | (refine retK_now ?_)
    | (refine retK_now' ?_)
    | (intro q hq)
    | (refine cond_intro (fun hc => ?_) (fun hc => ?_)))
  refine hof.use ?_
  (repeat' first
    | simp (contextual := true) (maxSteps := 4000000) only [fwc, fwe, fww, reduceIte, ↓reduceIte, Nat.reduceAdd, Nat.reduceLeDiff, Nat.reduceEqDiff, Nat.reduceLT, Nat.reduceSub, reduceCtorEq, Int.reduceEq, Int.reduceLT, Int.reduceLE, Int.reduceNeg, Int.reduceToNat, Int.reduceAdd, Int.reduceSub, Nat.reduceMul, part_cell, part_agg, *]
    | (refine retK_now ?_)
    | (refine retK_now' ?_)
    | (intro q hq)
    | (refine cond_intro (fun hc => ?_) (fun hc => ?_)))
  refine hLi.use ?_
  (repeat' first
    | simp (contextual := true) (maxSteps := 4000000) only [fwc, fwe, fww, reduceIte, ↓reduceIte, Nat.reduceAdd, Nat.reduceLeDiff, Nat.reduceEqDiff, Nat.reduceLT, Nat.reduceSub, reduceCtorEq, Int.reduceEq, Int.reduceLT, Int.reduceLE, Int.reduceNeg, Int.reduceToNat, Int.reduceAdd, Int.reduceSub, Nat.reduceMul, part_cell, part_agg, *]
    | (refine retK_now ?_)
    | (refine retK_now' ?_)
    | (intro q hq)
    | (refine cond_intro (fun hc => ?_) (fun hc => ?_)))
  refine seqK_now ?_
  (repeat' first
    | simp (contextual := true) (maxSteps := 4000000) only [fwc, fwe, fww, reduceIte, ↓reduceIte, Nat.reduceAdd, Nat.reduceLeDiff, Nat.reduceEqDiff, Nat.reduceLT, Nat.reduceSub, reduceCtorEq, Int.reduceEq, Int.reduceLT, Int.reduceLE, Int.reduceNeg, Int.reduceToNat, Int.reduceAdd, Int.reduceSub, Nat.reduceMul, part_cell, part_agg, *]
    | (refine retK_now ?_)
    | (refine retK_now' ?_)
    | (intro q hq)
    | (refine cond_intro (fun hc => ?_) (fun hc => ?_)))
  refine seqK_now ?_
  (repeat' first
    | simp (contextual := true) (maxSteps := 4000000) only [fwc, fwe, fww, reduceIte, ↓reduceIte, Nat.reduceAdd, Nat.reduceLeDiff, Nat.reduceEqDiff, Nat.reduceLT, Nat.reduceSub, reduceCtorEq, Int.reduceEq, Int.reduceLT, Int.reduceLE, Int.reduceNeg, Int.reduceToNat, Int.reduceAdd, Int.reduceSub, Nat.reduceMul, part_cell, part_agg, *]
    | (refine retK_now ?_)
    | (refine retK_now' ?_)
    | (intro q hq)
    | (refine cond_intro (fun hc => ?_) (fun hc => ?_)))
  refine seqK_now ?_
  (repeat' first
    | simp (contextual := true) (maxSteps := 4000000) only [fwc, fwe, fww, reduceIte, ↓reduceIte, Nat.reduceAdd, Nat.reduceLeDiff, Nat.reduceEqDiff, Nat.reduceLT, Nat.reduceSub, reduceCtorEq, Int.reduceEq, Int.reduceLT, Int.reduceLE, Int.reduceNeg, Int.reduceToNat, Int.reduceAdd, Int.reduceSub, Nat.reduceMul, part_cell, part_agg, *]
    | (refine retK_now ?_)
    | (refine retK_now' ?_)
    | (intro q hq)
    | (refine cond_intro (fun hc => ?_) (fun hc => ?_)))
  refine seqK_now ?_
  (repeat' first
    | simp (contextual := true) (maxSteps := 4000000) only [fwc, fwe, fww, reduceIte, ↓reduceIte, Nat.reduceAdd, Nat.reduceLeDiff, Nat.reduceEqDiff, Nat.reduceLT, Nat.reduceSub, reduceCtorEq, Int.reduceEq, Int.reduceLT, Int.reduceLE, Int.reduceNeg, Int.reduceToNat, Int.reduceAdd, Int.reduceSub, Nat.reduceMul, part_cell, part_agg, *]
    | (refine retK_now ?_)
    | (refine retK_now' ?_)
    | (intro q hq)
    | (refine cond_intro (fun hc => ?_) (fun hc => ?_)))
  refine hB1.use ?_
  (repeat' first
    | simp (contextual := true) (maxSteps := 4000000) only [fwc, fwe, fww, reduceIte, ↓reduceIte, Nat.reduceAdd, Nat.reduceLeDiff, Nat.reduceEqDiff, Nat.reduceLT, Nat.reduceSub, reduceCtorEq, Int.reduceEq, Int.reduceLT, Int.reduceLE, Int.reduceNeg, Int.reduceToNat, Int.reduceAdd, Int.reduceSub, Nat.reduceMul, part_cell, part_agg, *]
    | (refine retK_now ?_)
    | (refine retK_now' ?_)
    | (intro q hq)
    | (refine cond_intro (fun hc => ?_) (fun hc => ?_)))
  refine seqK_now ?_
  (repeat' first
    | simp (contextual := true) (maxSteps := 4000000) only [fwc, fwe, fww, reduceIte, ↓reduceIte, Nat.reduceAdd, Nat.reduceLeDiff, Nat.reduceEqDiff, Nat.reduceLT, Nat.reduceSub, reduceCtorEq, Int.reduceEq, Int.reduceLT, Int.reduceLE, Int.reduceNeg, Int.reduceToNat, Int.reduceAdd, Int.reduceSub, Nat.reduceMul, part_cell, part_agg, *]
    | (refine retK_now ?_)
    | (refine retK_now' ?_)
    | (intro q hq)
    | (refine cond_intro (fun hc => ?_) (fun hc => ?_)))
  refine seqK_now ?_
  refine seq_post (fun e1 O1 => O1 = O.upd q5 (.arr 49 2 [.agg [.val (.int .i64 f), .val (.int .i64 t)]]) ∧ e1 = e6a l f t g lo up) ?_ ?_
  rotate_left
  · intro G hG
    replace hG := (show Aside _ from hG)
    by_cases k4 : t < f
    · have e4 : decide (t < f) = true := decide_eq_true k4
      have h1 : lo = t := by rw [← hlo.out, if_neg (by omega)]
      have h2 : up = f := by rw [← hup.out, if_neg (by omega)]
      replace k4 := (show Aside _ from k4)
      replace h1 := (show Aside _ from h1)
      replace h2 := (show Aside _ from h2)
      (repeat' first
    | simp (contextual := true) (maxSteps := 4000000) only [fwc, fwe, fww, reduceIte, ↓reduceIte, Nat.reduceAdd, Nat.reduceLeDiff, Nat.reduceEqDiff, Nat.reduceLT, Nat.reduceSub, reduceCtorEq, Int.reduceEq, Int.reduceLT, Int.reduceLE, Int.reduceNeg, Int.reduceToNat, Int.reduceAdd, Int.reduceSub, Nat.reduceMul, part_cell, part_agg, *]
    | (refine seqK_now ?_)
    | (refine retK_now ?_)
    | (refine retK_now' ?_)
    | (intro q hq)
    | (refine cond_intro (fun hc => ?_) (fun hc => ?_)))
      exact hG.out _ _ ⟨rfl, by rw [h1.out, h2.out]; rfl⟩
    · have e4 : decide (t < f) = false := decide_eq_false k4
      have h1 : lo = f := by rw [← hlo.out]; split <;> omega
      have h2 : up = t := by rw [← hup.out]; split <;> omega
      replace k4 := (show Aside _ from k4)
      replace h1 := (show Aside _ from h1)
      replace h2 := (show Aside _ from h2)
      (repeat' first
    | simp (contextual := true) (maxSteps := 4000000) only [fwc, fwe, fww, reduceIte, ↓reduceIte, Nat.reduceAdd, Nat.reduceLeDiff, Nat.reduceEqDiff, Nat.reduceLT, Nat.reduceSub, reduceCtorEq, Int.reduceEq, Int.reduceLT, Int.reduceLE, Int.reduceNeg, Int.reduceToNat, Int.reduceAdd, Int.reduceSub, Nat.reduceMul, part_cell, part_agg, *]
    | (refine seqK_now ?_)
    | (refine retK_now ?_)
    | (refine retK_now' ?_)
    | (intro q hq)
    | (refine cond_intro (fun hc => ?_) (fun hc => ?_)))
      exact hG.out _ _ ⟨rfl, by rw [h1.out, h2.out]; rfl⟩
  intro e1 O1 hQ
  obtain ⟨hO1, rfl⟩ := hQ
  rw [hO1]
  clear hO1 O1 ip0 ip1
  unfold e6a
  have hsub5 := (show Aside _ from sub_new (v := .arr 49 2 [.agg [.val (.int .i64 f), .val (.int .i64 t)]]) (Heap.sub_refl O) hq5)
  (repeat' first
    | simp (contextual := true) (maxSteps := 4000000) only [fwc, fwe, fww, reduceIte, ↓reduceIte, Nat.reduceAdd, Nat.reduceLeDiff, Nat.reduceEqDiff, Nat.reduceLT, Nat.reduceSub, reduceCtorEq, Int.reduceEq, Int.reduceLT, Int.reduceLE, Int.reduceNeg, Int.reduceToNat, Int.reduceAdd, Int.reduceSub, Nat.reduceMul, part_cell, part_agg, *]
    | (refine retK_now ?_)
    | (refine retK_now' ?_)
    | (intro q hq)
    | (refine cond_intro (fun hc => ?_) (fun hc => ?_)))
  refine seqK_now ?_
  (repeat' first
    | simp (contextual := true) (maxSteps := 4000000) only [fwc, fwe, fww, reduceIte, ↓reduceIte, Nat.reduceAdd, Nat.reduceLeDiff, Nat.reduceEqDiff, Nat.reduceLT, Nat.reduceSub, reduceCtorEq, Int.reduceEq, Int.reduceLT, Int.reduceLE, Int.reduceNeg, Int.reduceToNat, Int.reduceAdd, Int.reduceSub, Nat.reduceMul, part_cell, part_agg, *]
    | (refine retK_now ?_)
    | (refine retK_now' ?_)
    | (intro q hq)
    | (refine cond_intro (fun hc => ?_) (fun hc => ?_)))
  refine seqK_now ?_
  obtain ⟨I, hI⟩ := hideI (fun m e O' => ∃ (i : Nat) (s : AV) (O0 : Heap), i ≤ L.length ∧ m = L.length - i ∧ O.sub O0 ∧ OwN 54 4 O0 O' s ((((ordF f t L).take i).flatMap (wq lo up d)).map Ps.av) ∧ e = e6b l f t g lo up s i)
  (repeat' first
    | simp (contextual := true) (maxSteps := 4000000) only [fwc, fwe, fww, reduceIte, ↓reduceIte, Nat.reduceAdd, Nat.reduceLeDiff, Nat.reduceEqDiff, Nat.reduceLT, Nat.reduceSub, reduceCtorEq, Int.reduceEq, Int.reduceLT, Int.reduceLE, Int.reduceNeg, Int.reduceToNat, Int.reduceAdd, Int.reduceSub, Nat.reduceMul, part_cell, part_agg, *]
    | (refine retK_now ?_)
    | (refine retK_now' ?_)
    | (intro q hq)
    | (refine cond_intro (fun hc => ?_) (fun hc => ?_)))
  refine cmd_loop I L.length (by
    rw [hI.out]
    exact ⟨0, _, _, Nat.zero_le _, rfl, hsub5.out, OwN.nil, rfl⟩) ?_
  clear hsub5 hq5 hof hLi hB1
  intro m e O' hh
  rw [hI.out] at hh
  obtain ⟨i, s0, O0, hi1, rfl, hO0, hs0, rfl⟩ := hh
  unfold e6b
  have sc := hs0.cells
  have sst := hs0.stor
  replace hO0 := (show Aside _ from hO0)
  replace hs0 := (show Aside _ from hs0)
  have hOl : (ordF f t L).length = L.length := by unfold ordF; split <;> simp
  by_cases hi : i < L.length
  rotate_left
  · have e0 : decide (i < L.length) = false := decide_eq_false hi
    rw [List.take_of_length_le (by omega), hwt.out] at hs0
    replace hi := (show Aside _ from hi)
    replace hi1 := (show Aside _ from hi1)
    replace hOl := (show Aside _ from hOl)
    (repeat' first
    | simp (contextual := true) (maxSteps := 4000000) only [fwc, fwe, fww, reduceIte, ↓reduceIte, Nat.reduceAdd, Nat.reduceLeDiff, Nat.reduceEqDiff, Nat.reduceLT, Nat.reduceSub, reduceCtorEq, Int.reduceEq, Int.reduceLT, Int.reduceLE, Int.reduceNeg, Int.reduceToNat, Int.reduceAdd, Int.reduceSub, Nat.reduceMul, part_cell, part_agg, ilt_nat, *]
    | (refine retK_now ?_)
    | (refine retK_now' ?_)
    | (intro q hq)
    | (refine cond_intro (fun hc => ?_) (fun hc => ?_)))
    refine seqK_now ?_
    (repeat' first
    | simp (contextual := true) (maxSteps := 4000000) only [fwc, fwe, fww, reduceIte, ↓reduceIte, Nat.reduceAdd, Nat.reduceLeDiff, Nat.reduceEqDiff, Nat.reduceLT, Nat.reduceSub, reduceCtorEq, Int.reduceEq, Int.reduceLT, Int.reduceLE, Int.reduceNeg, Int.reduceToNat, Int.reduceAdd, Int.reduceSub, Nat.reduceMul, part_cell, part_agg, ilt_nat, *]
    | (refine retK_now ?_)
    | (refine retK_now' ?_)
    | (intro q hq)
    | (refine cond_intro (fun hc => ?_) (fun hc => ?_)))
    refine seqK_owN 15 hs0.out fun w hw => ?_
    have hpw1 := hpw.out w hw
    have wl := hw.len
    have wc := hw.cells
    have ws := hw.stor
    rw [List.length_map] at wl
    replace hw := (show Aside _ from hw)
    clear sc sst
    (repeat' first
    | simp (contextual := true) (maxSteps := 4000000) only [fwc, fwe, fww, reduceIte, ↓reduceIte, Nat.reduceAdd, Nat.reduceLeDiff, Nat.reduceEqDiff, Nat.reduceLT, Nat.reduceSub, reduceCtorEq, Int.reduceEq, Int.reduceLT, Int.reduceLE, Int.reduceNeg, Int.reduceToNat, Int.reduceAdd, Int.reduceSub, Nat.reduceMul, part_cell, part_agg, ilt_nat, fws, *]
    | (refine retK_now ?_)
    | (refine retK_now' ?_)
    | (intro q hq)
    | (refine cond_intro (fun hc => ?_) (fun hc => ?_)))
    refine hpg.use ?_
    (repeat' first
    | simp (contextual := true) (maxSteps := 4000000) only [fwc, fwe, fww, reduceIte, ↓reduceIte, Nat.reduceAdd, Nat.reduceLeDiff, Nat.reduceEqDiff, Nat.reduceLT, Nat.reduceSub, reduceCtorEq, Int.reduceEq, Int.reduceLT, Int.reduceLE, Int.reduceNeg, Int.reduceToNat, Int.reduceAdd, Int.reduceSub, Nat.reduceMul, part_cell, part_agg, ilt_nat, fws, *]
    | (refine retK_now ?_)
    | (refine retK_now' ?_)
    | (intro q hq)
    | (refine cond_intro (fun hc => ?_) (fun hc => ?_)))
    refine hpw1.use ?_
    (repeat' first
    | simp (contextual := true) (maxSteps := 4000000) only [fwc, fwe, fww, reduceIte, ↓reduceIte, Nat.reduceAdd, Nat.reduceLeDiff, Nat.reduceEqDiff, Nat.reduceLT, Nat.reduceSub, reduceCtorEq, Int.reduceEq, Int.reduceLT, Int.reduceLE, Int.reduceNeg, Int.reduceToNat, Int.reduceAdd, Int.reduceSub, Nat.reduceMul, part_cell, part_agg, ilt_nat, fws, *]
    | (refine retK_now ?_)
    | (refine retK_now' ?_)
    | (intro q hq)
    | (refine cond_intro (fun hc => ?_) (fun hc => ?_)))
    refine opsW_gcap (b := false) (sz := 4) (L := BT.map Ps.av) rfl (fun h => ?_) ?_
    · simp only [opd_tmp, Env.upd_apply, if_true, *]
      exact hgT.out
    rw [List.length_map]
    (repeat' first
    | simp (contextual := true) (maxSteps := 4000000) only [fwc, fwe, fww, reduceIte, ↓reduceIte, Nat.reduceAdd, Nat.reduceLeDiff, Nat.reduceEqDiff, Nat.reduceLT, Nat.reduceSub, reduceCtorEq, Int.reduceEq, Int.reduceLT, Int.reduceLE, Int.reduceNeg, Int.reduceToNat, Int.reduceAdd, Int.reduceSub, Nat.reduceMul, part_cell, part_agg, ilt_nat, *]
    | (refine retK_now ?_)
    | (refine retK_now' ?_)
    | (intro q hq)
    | (refine cond_intro (fun hc => ?_) (fun hc => ?_)))
    refine seqK_now ?_
    (repeat' first
    | simp (contextual := true) (maxSteps := 4000000) only [fwc, fwe, fww, reduceIte, ↓reduceIte, Nat.reduceAdd, Nat.reduceLeDiff, Nat.reduceEqDiff, Nat.reduceLT, Nat.reduceSub, reduceCtorEq, Int.reduceEq, Int.reduceLT, Int.reduceLE, Int.reduceNeg, Int.reduceToNat, Int.reduceAdd, Int.reduceSub, Nat.reduceMul, part_cell, part_agg, ilt_nat, *]
    | (refine retK_now ?_)
    | (refine retK_now' ?_)
    | (intro q hq)
    | (refine cond_intro (fun hc => ?_) (fun hc => ?_)))
    refine seqK_now ?_
    (repeat' first
    | simp (contextual := true) (maxSteps := 4000000) only [fwc, fwe, fww, reduceIte, ↓reduceIte, Nat.reduceAdd, Nat.reduceLeDiff, Nat.reduceEqDiff, Nat.reduceLT, Nat.reduceSub, reduceCtorEq, Int.reduceEq, Int.reduceLT, Int.reduceLE, Int.reduceNeg, Int.reduceToNat, Int.reduceAdd, Int.reduceSub, Nat.reduceMul, part_cell, part_agg, ilt_nat, *]
    | (refine retK_now ?_)
    | (refine retK_now' ?_)
    | (intro q hq)
    | (refine cond_intro (fun hc => ?_) (fun hc => ?_)))
    refine seqK_now ?_
    obtain ⟨J, hJ⟩ := hideI (fun m e O'' => ∃ k, k ≤ BT.length ∧ m = BT.length - k ∧ O'' = O0 ∧ e = e6d l f t g w k)
    (repeat' first
    | simp (contextual := true) (maxSteps := 4000000) only [fwc, fwe, fww, reduceIte, ↓reduceIte, Nat.reduceAdd, Nat.reduceLeDiff, Nat.reduceEqDiff, Nat.reduceLT, Nat.reduceSub, reduceCtorEq, Int.reduceEq, Int.reduceLT, Int.reduceLE, Int.reduceNeg, Int.reduceToNat, Int.reduceAdd, Int.reduceSub, Nat.reduceMul, part_cell, part_agg, ilt_nat, *]
    | (refine retK_now ?_)
    | (refine retK_now' ?_)
    | (intro q hq)
    | (refine cond_intro (fun hc => ?_) (fun hc => ?_)))
    refine cmd_loop J BT.length (by
      rw [hJ.out]
      exact ⟨0, Nat.zero_le _, rfl, rfl, rfl⟩) ?_
    intro m e O2 hh
    rw [hJ.out] at hh
    obtain ⟨k, hkn, rfl, hOH, rfl⟩ := hh
    rw [hOH]
    clear hOH O2
    unfold e6d
    by_cases hk : k < BT.length
    rotate_left
    · have e1 : decide (k < BT.length) = false := decide_eq_false hk
      replace hk := (show Aside _ from hk)
      replace hkn := (show Aside _ from hkn)
      (repeat' first
    | simp (contextual := true) (maxSteps := 4000000) only [fwc, fwe, fww, reduceIte, ↓reduceIte, Nat.reduceAdd, Nat.reduceLeDiff, Nat.reduceEqDiff, Nat.reduceLT, Nat.reduceSub, reduceCtorEq, Int.reduceEq, Int.reduceLT, Int.reduceLE, Int.reduceNeg, Int.reduceToNat, Int.reduceAdd, Int.reduceSub, Nat.reduceMul, part_cell, part_agg, ilt_nat, *]
    | (refine seqK_now ?_)
    | (refine retK_now ?_)
    | (refine retK_now' ?_)
    | (intro q hq)
    | (refine cond_intro (fun hc => ?_) (fun hc => ?_)))
      refine hB2.use ?_
      (repeat' first
    | simp (contextual := true) (maxSteps := 4000000) only [fwc, fwe, fww, reduceIte, ↓reduceIte, Nat.reduceAdd, Nat.reduceLeDiff, Nat.reduceEqDiff, Nat.reduceLT, Nat.reduceSub, reduceCtorEq, Int.reduceEq, Int.reduceLT, Int.reduceLE, Int.reduceNeg, Int.reduceToNat, Int.reduceAdd, Int.reduceSub, Nat.reduceMul, part_cell, part_agg, ilt_nat, *]
    | (refine seqK_now ?_)
    | (refine retK_now ?_)
    | (refine retK_now' ?_)
    | (intro q hq)
    | (refine cond_intro (fun hc => ?_) (fun hc => ?_)))
      refine app_own1 (L := []) (IsT.isL hgT.out) (fits_of (by have := hbl1.out; have := hlen.out; simp; omega) (by omega)) fun s6 O6 h6 => ?_
      rw [List.nil_append] at h6
      have c6 := h6.b.cells
      have t6 := h6.b.stor
      replace h6 := (show Aside _ from h6)
      (repeat' first
    | simp (contextual := true) (maxSteps := 4000000) only [fwc, fwe, fww, reduceIte, ↓reduceIte, Nat.reduceAdd, Nat.reduceLeDiff, Nat.reduceEqDiff, Nat.reduceLT, Nat.reduceSub, reduceCtorEq, Int.reduceEq, Int.reduceLT, Int.reduceLE, Int.reduceNeg, Int.reduceToNat, Int.reduceAdd, Int.reduceSub, Nat.reduceMul, part_cell, part_agg, ilt_nat, *]
    | (refine seqK_now ?_)
    | (refine retK_now ?_)
    | (refine retK_now' ?_)
    | (intro q hq)
    | (refine cond_intro (fun hc => ?_) (fun hc => ?_)))
      refine ow_appB h6.out (IsT.isL hkT.out) (fits_of (by have := hbl1.out; have := hbl2.out; have := hlen.out; simp; omega) (by omega)) fun s7 O7 h7 => ?_
      rw [← List.map_append] at h7
      have c7 := h7.cells
      have t7 := h7.stor
      replace h7 := (show Aside _ from h7)
      (repeat' first
    | simp (contextual := true) (maxSteps := 4000000) only [fwc, fwe, fww, reduceIte, ↓reduceIte, Nat.reduceAdd, Nat.reduceLeDiff, Nat.reduceEqDiff, Nat.reduceLT, Nat.reduceSub, reduceCtorEq, Int.reduceEq, Int.reduceLT, Int.reduceLE, Int.reduceNeg, Int.reduceToNat, Int.reduceAdd, Int.reduceSub, Nat.reduceMul, part_cell, part_agg, ilt_nat, *]
    | (refine seqK_now ?_)
    | (refine retK_now ?_)
    | (refine retK_now' ?_)
    | (intro q hq)
    | (refine cond_intro (fun hc => ?_) (fun hc => ?_)))
      refine ReduceP_ow h7.out (by have := hbl1.out; have := hbl2.out; have := hlen.out; rw [List.length_append]; omega) ?_
      rw [hred.out]
      (repeat' first
    | simp (contextual := true) (maxSteps := 4000000) only [fwc, fwe, fww, reduceIte, ↓reduceIte, Nat.reduceAdd, Nat.reduceLeDiff, Nat.reduceEqDiff, Nat.reduceLT, Nat.reduceSub, reduceCtorEq, Int.reduceEq, Int.reduceLT, Int.reduceLE, Int.reduceNeg, Int.reduceToNat, Int.reduceAdd, Int.reduceSub, Nat.reduceMul, part_cell, part_agg, ilt_nat, *]
    | (refine seqK_now ?_)
    | (refine retK_now ?_)
    | (refine retK_now' ?_)
    | (intro q hq)
    | (refine cond_intro (fun hc => ?_) (fun hc => ?_)))
      refine lives4_ok.use ?_
      (repeat' first
    | simp (contextual := true) (maxSteps := 4000000) only [fwc, fwe, fww, reduceIte, ↓reduceIte, Nat.reduceAdd, Nat.reduceLeDiff, Nat.reduceEqDiff, Nat.reduceLT, Nat.reduceSub, reduceCtorEq, Int.reduceEq, Int.reduceLT, Int.reduceLE, Int.reduceNeg, Int.reduceToNat, Int.reduceAdd, Int.reduceSub, Nat.reduceMul, part_cell, part_agg, ilt_nat, *]
    | (refine seqK_now ?_)
    | (refine retK_now ?_)
    | (refine retK_now' ?_)
    | (intro q hq)
    | (refine cond_intro (fun hc => ?_) (fun hc => ?_)))
      refine WeakR.pure hO0.out ?_
      rfl
    have e1 : decide (k < BT.length) = true := decide_eq_true hk
    have hwk : k < 4611686018427387904 := by have := hbl1.out; have := hlen.out; omega
    have hia := IsL.ia (IsT.isL hgT.out) (i := k) (by rw [List.length_map]; exact hk)
    have hib := IsL.ia hw.out (i := k) (by rw [List.length_map]; exact hk)
    rw [List.getElem_map] at hia hib
    generalize BT[k] = z at *
    rw [show z.av = .agg [.val (.int .u8 z.id.y), .val (.int .i64 z.id.n), .val (.bool z.f), .val (.int .u8 z.d)] from rfl] at hia hib
    have l3 : leavesEq [true, true, false, true] [.val (.int .u8 z.id.y), .val (.int .i64 z.id.n), .val (.bool z.f), .val (.int .u8 z.d)] [.val (.int .u8 z.id.y), .val (.int .i64 z.id.n), .val (.bool z.f), .val (.int .u8 z.d)] = some true := by
      simp [leavesEq, leafEq, intEqA, boolEqA]
    replace hk := (show Aside _ from hk)
    replace hkn := (show Aside _ from hkn)
    (repeat' first
    | simp (contextual := true) (maxSteps := 4000000) only [fwc, fwe, fww, reduceIte, ↓reduceIte, Nat.reduceAdd, Nat.reduceLeDiff, Nat.reduceEqDiff, Nat.reduceLT, Nat.reduceSub, reduceCtorEq, Int.reduceEq, Int.reduceLT, Int.reduceLE, Int.reduceNeg, Int.reduceToNat, Int.reduceAdd, Int.reduceSub, Nat.reduceMul, part_cell, part_agg, ilt_nat, wrap_succ, *]
    | (refine seqK_now ?_)
    | (refine retK_now ?_)
    | (refine retK_now' ?_)
    | (intro q hq)
    | (refine cond_intro (fun hc => ?_) (fun hc => ?_)))
    refine loopK_now (BT.length - (k + 1)) (by have := hk.out; omega) ?_
    rw [hJ.out]
    exact ⟨k + 1, by have := hk.out; omega, rfl, rfl, rfl⟩
  have e0 : decide (i < L.length) = true := decide_eq_true hi
  have hwi : i < 4611686018427387904 := by have := hlen.out; omega
  obtain ⟨hOi, hkk⟩ := ordF_get (f := f) (t := t) (L := L) (i := i) (by omega)
  have htk : ((ordF f t L).take (i + 1)).flatMap (wq lo up d) = ((ordF f t L).take i).flatMap (wq lo up d) ++ wq lo up d (gt L (kkF f t L.length i)) := by
    rw [List.take_succ_eq_append_getElem (by omega), List.flatMap_append, hOi]
    simp
  have hbl0 : (((ordF f t L).take i).flatMap (wq lo up d)).length ≤ 30400 := by
    have h1 := wq_len lo up d ((ordF f t L).take i)
    have h2 := List.length_take_le i (ordF f t L)
    have h3 := hlen.out
    omega
  obtain ⟨kk, hkd⟩ : ∃ kk, kkF f t L.length i = kk := ⟨_, rfl⟩
  rw [hkd] at htk hkk hOi
  have hia := IsL.ia (IsT.isL hlT.out) (i := kk) (by rw [List.length_map]; exact hkk)
  rw [List.getElem_map, ← gt_get hkk] at hia
  generalize gt L kk = x at *
  rw [show x.av = .agg [.val (.int .u8 x.id.y), .val (.int .i64 x.id.n), .val (.int .u8 x.bed), .val (.int .i64 x.at_), .val (.int .i64 x.spot)] from rfl] at hia
  generalize ((ordF f t L).take i).flatMap (wq lo up d) = base at *
  have hwqx : wq lo up d x = if lo < x.spot ∧ x.spot < up then [(⟨x.id, decide (x.bed = 1), d⟩ : Ps)] else [] := rfl
  generalize wq lo up d x = wx at *
  replace hi := (show Aside _ from hi)
  replace hi1 := (show Aside _ from hi1)
  replace hOl := (show Aside _ from hOl)
  replace hOi := (show Aside _ from hOi)
  replace hkk := (show Aside _ from hkk)
  replace htk := (show Aside _ from htk)
  replace hbl0 := (show Aside _ from hbl0)
  replace hkd := (show Aside _ from hkd)
  replace hwqx := (show Aside _ from hwqx)
  (repeat' first
    | simp (contextual := true) (maxSteps := 4000000) only [fwc, fwe, fww, reduceIte, ↓reduceIte, Nat.reduceAdd, Nat.reduceLeDiff, Nat.reduceEqDiff, Nat.reduceLT, Nat.reduceSub, reduceCtorEq, Int.reduceEq, Int.reduceLT, Int.reduceLE, Int.reduceNeg, Int.reduceToNat, Int.reduceAdd, Int.reduceSub, Nat.reduceMul, part_cell, part_agg, ilt_nat, *]
    | (refine retK_now ?_)
    | (refine retK_now' ?_)
    | (intro q hq)
    | (refine cond_intro (fun hc => ?_) (fun hc => ?_)))
  refine seqK_now ?_
  (repeat' first
    | simp (contextual := true) (maxSteps := 4000000) only [fwc, fwe, fww, reduceIte, ↓reduceIte, Nat.reduceAdd, Nat.reduceLeDiff, Nat.reduceEqDiff, Nat.reduceLT, Nat.reduceSub, reduceCtorEq, Int.reduceEq, Int.reduceLT, Int.reduceLE, Int.reduceNeg, Int.reduceToNat, Int.reduceAdd, Int.reduceSub, Nat.reduceMul, part_cell, part_agg, ilt_nat, *]
    | (refine retK_now ?_)
    | (refine retK_now' ?_)
    | (intro q hq)
    | (refine cond_intro (fun hc => ?_) (fun hc => ?_)))
  refine seqK_now ?_
  (repeat' first
    | simp (contextual := true) (maxSteps := 4000000) only [fwc, fwe, fww, reduceIte, ↓reduceIte, Nat.reduceAdd, Nat.reduceLeDiff, Nat.reduceEqDiff, Nat.reduceLT, Nat.reduceSub, reduceCtorEq, Int.reduceEq, Int.reduceLT, Int.reduceLE, Int.reduceNeg, Int.reduceToNat, Int.reduceAdd, Int.reduceSub, Nat.reduceMul, part_cell, part_agg, ilt_nat, *]
    | (refine retK_now ?_)
    | (refine retK_now' ?_)
    | (intro q hq)
    | (refine cond_intro (fun hc => ?_) (fun hc => ?_)))
  refine seqK_now ?_
  refine seq_post (fun e1 O1 => O1 = O' ∧ e1 = e6c l f t g lo up s0 i kk) ?_ ?_
  rotate_left
  · intro G hG
    replace hG := (show Aside _ from hG)
    by_cases k4 : f < t
    · have e4 : decide (t ≤ f) = false := decide_eq_false (by omega)
      have h3 : i = kk := by have := hkd.out; unfold kkF at this; rw [if_pos k4] at this; exact this
      replace k4 := (show Aside _ from k4)
      replace h3 := (show Aside _ from h3)
      (repeat' first
    | simp (contextual := true) (maxSteps := 4000000) only [fwc, fwe, fww, reduceIte, ↓reduceIte, Nat.reduceAdd, Nat.reduceLeDiff, Nat.reduceEqDiff, Nat.reduceLT, Nat.reduceSub, reduceCtorEq, Int.reduceEq, Int.reduceLT, Int.reduceLE, Int.reduceNeg, Int.reduceToNat, Int.reduceAdd, Int.reduceSub, Nat.reduceMul, part_cell, part_agg, ilt_nat, *]
    | (refine seqK_now ?_)
    | (refine retK_now ?_)
    | (refine retK_now' ?_)
    | (intro q hq)
    | (refine cond_intro (fun hc => ?_) (fun hc => ?_)))
      exact hG.out _ _ ⟨rfl, by rw [← h3.out]; rfl⟩
    · have e4 : decide (t ≤ f) = true := decide_eq_true (by omega)
      have y1 : IntKind.i64.wrap ((L.length : Int) - 1) = (L.length : Int) - 1 := by have := hlen.out; rw [wrap_i64 (by omega) (by omega)]
      have y2 : IntKind.i64.wrap ((L.length : Int) - 1 - (i : Int)) = (kk : Int) := by
        have h1 := hlen.out
        have h2 := hi.out
        have h3 := hkd.out
        unfold kkF at h3
        rw [if_neg k4] at h3
        rw [wrap_i64 (by omega) (by omega)]
        omega
      replace k4 := (show Aside _ from k4)
      (repeat' first
    | simp (contextual := true) (maxSteps := 4000000) only [fwc, fwe, fww, reduceIte, ↓reduceIte, Nat.reduceAdd, Nat.reduceLeDiff, Nat.reduceEqDiff, Nat.reduceLT, Nat.reduceSub, reduceCtorEq, Int.reduceEq, Int.reduceLT, Int.reduceLE, Int.reduceNeg, Int.reduceToNat, Int.reduceAdd, Int.reduceSub, Nat.reduceMul, part_cell, part_agg, ilt_nat, *]
    | (refine seqK_now ?_)
    | (refine retK_now ?_)
    | (refine retK_now' ?_)
    | (intro q hq)
    | (refine cond_intro (fun hc => ?_) (fun hc => ?_)))
      exact hG.out _ _ ⟨rfl, rfl⟩
  intro e1 O1 hQ
  obtain ⟨hO1, rfl⟩ := hQ
  rw [hO1]
  clear hO1 O1
  unfold e6c
  by_cases c1 : lo < x.spot
  rotate_left
  · have x1 : decide (x.spot ≤ lo) = true := decide_eq_true (by omega)
    have hnil : wx = [] := by rw [hwqx.out, if_neg (fun h => c1 h.1)]
    rw [hnil, List.append_nil] at htk
    replace c1 := (show Aside _ from c1)
    replace hnil := (show Aside _ from hnil)
    (repeat' first
    | simp (contextual := true) (maxSteps := 4000000) only [fwc, fwe, fww, reduceIte, ↓reduceIte, Nat.reduceAdd, Nat.reduceLeDiff, Nat.reduceEqDiff, Nat.reduceLT, Nat.reduceSub, reduceCtorEq, Int.reduceEq, Int.reduceLT, Int.reduceLE, Int.reduceNeg, Int.reduceToNat, Int.reduceAdd, Int.reduceSub, Nat.reduceMul, part_cell, part_agg, ilt_nat, wrap_succ, *]
    | (refine seqK_now ?_)
    | (refine retK_now ?_)
    | (refine retK_now' ?_)
    | (intro q hq)
    | (refine cond_intro (fun hc => ?_) (fun hc => ?_)))
    refine loopK_now (L.length - (i + 1)) (by have := hi.out; omega) ?_
    rw [hI.out]
    exact ⟨i + 1, s0, O0, by have := hi.out; omega, rfl, hO0.out, by rw [htk.out]; exact hs0.out, rfl⟩
  have x1 : decide (x.spot ≤ lo) = false := decide_eq_false (by omega)
  by_cases c2 : x.spot < up
  rotate_left
  · have x2 : decide (up ≤ x.spot) = true := decide_eq_true (by omega)
    have hnil : wx = [] := by rw [hwqx.out, if_neg (fun h => c2 h.2)]
    rw [hnil, List.append_nil] at htk
    replace c1 := (show Aside _ from c1)
    replace c2 := (show Aside _ from c2)
    replace hnil := (show Aside _ from hnil)
    (repeat' first
    | simp (contextual := true) (maxSteps := 4000000) only [fwc, fwe, fww, reduceIte, ↓reduceIte, Nat.reduceAdd, Nat.reduceLeDiff, Nat.reduceEqDiff, Nat.reduceLT, Nat.reduceSub, reduceCtorEq, Int.reduceEq, Int.reduceLT, Int.reduceLE, Int.reduceNeg, Int.reduceToNat, Int.reduceAdd, Int.reduceSub, Nat.reduceMul, part_cell, part_agg, ilt_nat, wrap_succ, *]
    | (refine seqK_now ?_)
    | (refine retK_now ?_)
    | (refine retK_now' ?_)
    | (intro q hq)
    | (refine cond_intro (fun hc => ?_) (fun hc => ?_)))
    refine loopK_now (L.length - (i + 1)) (by have := hi.out; omega) ?_
    rw [hI.out]
    exact ⟨i + 1, s0, O0, by have := hi.out; omega, rfl, hO0.out, by rw [htk.out]; exact hs0.out, rfl⟩
  have x2 : decide (up ≤ x.spot) = false := decide_eq_false (by omega)
  rw [hwqx.out, if_pos ⟨c1, c2⟩] at htk
  replace c1 := (show Aside _ from c1)
  replace c2 := (show Aside _ from c2)
  replace htk := (show Aside _ from htk)
  (repeat' first
    | simp (contextual := true) (maxSteps := 4000000) only [fwc, fwe, fww, reduceIte, ↓reduceIte, Nat.reduceAdd, Nat.reduceLeDiff, Nat.reduceEqDiff, Nat.reduceLT, Nat.reduceSub, reduceCtorEq, Int.reduceEq, Int.reduceLT, Int.reduceLE, Int.reduceNeg, Int.reduceToNat, Int.reduceAdd, Int.reduceSub, Nat.reduceMul, part_cell, part_agg, ilt_nat, *]
    | (refine retK_now ?_)
    | (refine retK_now' ?_)
    | (intro q hq)
    | (refine cond_intro (fun hc => ?_) (fun hc => ?_)))
  refine seqK_now ?_
  (repeat' first
    | simp (contextual := true) (maxSteps := 4000000) only [fwc, fwe, fww, reduceIte, ↓reduceIte, Nat.reduceAdd, Nat.reduceLeDiff, Nat.reduceEqDiff, Nat.reduceLT, Nat.reduceSub, reduceCtorEq, Int.reduceEq, Int.reduceLT, Int.reduceLE, Int.reduceNeg, Int.reduceToNat, Int.reduceAdd, Int.reduceSub, Nat.reduceMul, part_cell, part_agg, ilt_nat, *]
    | (refine retK_now ?_)
    | (refine retK_now' ?_)
    | (intro q hq)
    | (refine cond_intro (fun hc => ?_) (fun hc => ?_)))
  refine seqK_now ?_
  (repeat' first
    | simp (contextual := true) (maxSteps := 4000000) only [fwc, fwe, fww, reduceIte, ↓reduceIte, Nat.reduceAdd, Nat.reduceLeDiff, Nat.reduceEqDiff, Nat.reduceLT, Nat.reduceSub, reduceCtorEq, Int.reduceEq, Int.reduceLT, Int.reduceLE, Int.reduceNeg, Int.reduceToNat, Int.reduceAdd, Int.reduceSub, Nat.reduceMul, part_cell, part_agg, ilt_nat, *]
    | (refine retK_now ?_)
    | (refine retK_now' ?_)
    | (intro q hq)
    | (refine cond_intro (fun hc => ?_) (fun hc => ?_)))
  revert q
  intro q18 hq18
  refine seqK_now ?_
  replace htk := htk.out
  by_cases hft : f < t
  · have e1 : decide (f < t) = true := decide_eq_true hft
    have hdv : d = 1 := by rw [← hd.out, if_pos hft]
    have own18 := own_new hs0.out (x := .arr 54 4 [.agg [.val (.int .u8 x.id.y), .val (.int .i64 x.id.n), .val (.bool (decide (x.bed = 1))), .val (.int .u8 1)]]) hq18
    have sub18 := sub_new hO0.out (own_none hs0.out hq18) (v := .arr 54 4 [.agg [.val (.int .u8 x.id.y), .val (.int .i64 x.id.n), .val (.bool (decide (x.bed = 1))), .val (.int .u8 1)]])
    replace own18 := (show Aside _ from own18)
    replace sub18 := (show Aside _ from sub18)
    replace hft := (show Aside _ from hft)
    replace hdv := (show Aside _ from hdv)
    replace htk := (show Aside _ from htk)
    (repeat' first
    | simp (contextual := true) (maxSteps := 4000000) only [fwc, fwe, fww, reduceIte, ↓reduceIte, Nat.reduceAdd, Nat.reduceLeDiff, Nat.reduceEqDiff, Nat.reduceLT, Nat.reduceSub, reduceCtorEq, Int.reduceEq, Int.reduceLT, Int.reduceLE, Int.reduceNeg, Int.reduceToNat, Int.reduceAdd, Int.reduceSub, Nat.reduceMul, part_cell, part_agg, ilt_nat, wrap_succ, *]
    | (refine seqK_now ?_)
    | (refine retK_now ?_)
    | (refine retK_now' ?_)
    | (intro q hq)
    | (refine cond_intro (fun hc => ?_) (fun hc => ?_)))
    refine own_app (bytes := 24) own18.out (X := [Ps.av ⟨x.id, decide (x.bed = 1), 1⟩]) (.inr ⟨true, rfl⟩) (fits_of (by have := hbl0.out; simp only [List.length_append, List.length_map, List.length_cons, List.length_nil] at this ⊢; omega) (by omega)) fun s5 O5 h5 => ?_
    have sc5 := h5.cells
    have sst5 := h5.stor
    replace h5 := (show Aside _ from h5)
    (repeat' first
    | simp (contextual := true) (maxSteps := 4000000) only [fwc, fwe, fww, reduceIte, ↓reduceIte, Nat.reduceAdd, Nat.reduceLeDiff, Nat.reduceEqDiff, Nat.reduceLT, Nat.reduceSub, reduceCtorEq, Int.reduceEq, Int.reduceLT, Int.reduceLE, Int.reduceNeg, Int.reduceToNat, Int.reduceAdd, Int.reduceSub, Nat.reduceMul, part_cell, part_agg, ilt_nat, wrap_succ, *]
    | (refine seqK_now ?_)
    | (refine retK_now ?_)
    | (refine retK_now' ?_)
    | (intro q hq)
    | (refine cond_intro (fun hc => ?_) (fun hc => ?_)))
    refine loopK_now (L.length - (i + 1)) (by have := hi.out; omega) ?_
    rw [hI.out]
    refine ⟨i + 1, s5, _, by have := hi.out; omega, rfl, sub18.out, ?_, rfl⟩
    rw [htk.out, hdv.out, List.map_append]
    exact h5.out
  · have e1 : decide (f < t) = false := decide_eq_false hft
    have hdv : d = 0 := by rw [← hd.out, if_neg hft]
    have own18 := own_new hs0.out (x := .arr 54 4 [.agg [.val (.int .u8 x.id.y), .val (.int .i64 x.id.n), .val (.bool (decide (x.bed = 1))), .val (.int .u8 0)]]) hq18
    have sub18 := sub_new hO0.out (own_none hs0.out hq18) (v := .arr 54 4 [.agg [.val (.int .u8 x.id.y), .val (.int .i64 x.id.n), .val (.bool (decide (x.bed = 1))), .val (.int .u8 0)]])
    replace own18 := (show Aside _ from own18)
    replace sub18 := (show Aside _ from sub18)
    replace hft := (show Aside _ from hft)
    replace hdv := (show Aside _ from hdv)
    replace htk := (show Aside _ from htk)
    (repeat' first
    | simp (contextual := true) (maxSteps := 4000000) only [fwc, fwe, fww, reduceIte, ↓reduceIte, Nat.reduceAdd, Nat.reduceLeDiff, Nat.reduceEqDiff, Nat.reduceLT, Nat.reduceSub, reduceCtorEq, Int.reduceEq, Int.reduceLT, Int.reduceLE, Int.reduceNeg, Int.reduceToNat, Int.reduceAdd, Int.reduceSub, Nat.reduceMul, part_cell, part_agg, ilt_nat, wrap_succ, *]
    | (refine seqK_now ?_)
    | (refine retK_now ?_)
    | (refine retK_now' ?_)
    | (intro q hq)
    | (refine cond_intro (fun hc => ?_) (fun hc => ?_)))
    refine own_app (bytes := 24) own18.out (X := [Ps.av ⟨x.id, decide (x.bed = 1), 0⟩]) (.inr ⟨true, rfl⟩) (fits_of (by have := hbl0.out; simp only [List.length_append, List.length_map, List.length_cons, List.length_nil] at this ⊢; omega) (by omega)) fun s5 O5 h5 => ?_
    have sc5 := h5.cells
    have sst5 := h5.stor
    replace h5 := (show Aside _ from h5)
    (repeat' first
    | simp (contextual := true) (maxSteps := 4000000) only [fwc, fwe, fww, reduceIte, ↓reduceIte, Nat.reduceAdd, Nat.reduceLeDiff, Nat.reduceEqDiff, Nat.reduceLT, Nat.reduceSub, reduceCtorEq, Int.reduceEq, Int.reduceLT, Int.reduceLE, Int.reduceNeg, Int.reduceToNat, Int.reduceAdd, Int.reduceSub, Nat.reduceMul, part_cell, part_agg, ilt_nat, wrap_succ, *]
    | (refine seqK_now ?_)
    | (refine retK_now ?_)
    | (refine retK_now' ?_)
    | (intro q hq)
    | (refine cond_intro (fun hc => ?_) (fun hc => ?_)))
    refine loopK_now (L.length - (i + 1)) (by have := hi.out; omega) ?_
    rw [hI.out]
    refine ⟨i + 1, s5, _, by have := hi.out; omega, rfl, sub18.out, ?_, rfl⟩
    rw [htk.out, hdv.out, List.map_append]
    exact h5.out
end Go.Proofs.Ytembkknplmcamaa

namespace Go.Proofs.Ytembkknplmcamaa
open Go.Ab Go.ChangeShapes Go.WideShapes Go.ChangeAt Go.RowKit

theorem own : ownKnob Try.prog.godebug = none := by kernel_rfl
theorem laid : laidOutB Try.prog = true := by kernel_rfl
theorem wf_u8 {n : Int} (h : (Lit.int .u8 n).wf = true) : 0 ≤ n ∧ n ≤ 255 := by
  simpa [Lit.wf, IntKind.min, IntKind.max, IntKind.signed, IntKind.bits] using h
def layB : Lay := .slice true (.int .u8 (.int .u8 .nil)) .nil
theorem open_B {s : AV} (h : LayOK layB [s]) : ∃ P : List Put, IsL 2 s (P.map Put.av) ∧ ∀ p ∈ P, p.ok := by
  obtain ⟨s', l, vs', e, h1, _, h3, h4⟩ := h
  simp only [List.cons.injEq] at e
  obtain ⟨rfl, _⟩ := e
  obtain ⟨X, rfl, hX⟩ := map_of_all (f := Put.av) (Q := Put.ok) (l := l) (fun x hx => by
    obtain ⟨es, rfl, y, vs', rfl, hw1, n, vs', rfl, hw2, rfl⟩ := h3 x hx
    have k1 := wf_u8 hw1
    have k2 := wf_u8 hw2
    refine ⟨⟨y.toNat, n.toNat⟩, ?_, by unfold Put.ok; simp only; omega⟩
    unfold Put.av
    rw [show ((y.toNat : Nat) : Int) = y by omega, show ((n.toNat : Nat) : Int) = n by omega])
  exact ⟨X, h1, hX⟩
end Go.Proofs.Ytembkknplmcamaa

namespace Go.Proofs.Ytembkknplmcamaa
open Go.Ab Go.ChangeShapes Go.WideShapes Go.ChangeAt Go.RowKit

theorem OrdersBetween_args (vs : List AV) (h : ArgsOK [(false, layB), (false, .int .u8 .nil), (true, .int .i64 (.int .i64 .nil))] vs) : PureA Try.prog 6 vs (.val (.bool true)) := by
  obtain ⟨a, vs', es, rfl, rfl, h1, c, vs', es'', rfl, rfl, h3, b, vs', es', rfl, k2, h2, rfl⟩ := h
  obtain ⟨P, hs, hP⟩ := open_B h1
  obtain ⟨m, vs1, rfl, hm, p, vs1', rfl, hp, rfl⟩ := h2
  obtain ⟨n, vs2, e2, hn, e2'⟩ := h3
  simp only [List.cons.injEq] at e2
  obtain ⟨rfl, rfl⟩ := e2
  have hb : b = .agg [.val (.int .i64 m), .val (.int .i64 p)] := k2
  subst hb
  have h5 := wf_u8 hn
  have := OrdersBetween_ok a P n.toNat m p hs hP (by omega)
  rw [show ((n.toNat : Nat) : Int) = n by omega] at this
  exact this
set_option maxRecDepth 100000 in
theorem OrdersBetween_lifted (os : Os) (started : os.Started) (H : Type) (enc : TypeId × Value → H) :
    ReturnsInHanded {} Try.checked os 6 .any (Rows.ordersBetweenSpec.pre6 enc Try.prog Try.f6 Rows.ordersBetweenRow.domain false) (Rows.ordersBetweenSpec.post enc Try.prog Try.f6 false true false false) := by
  refine returnsInHanded_of_change (C := Try.checked) own started (by kernel_rfl) Try.func6
    (ChangeSpec.witness6 (enc := enc) (C := Try.checked) false ⟨#[], #[.slice none 0 0, .int .u8 0, .agg #[.int .i64 0, .int .i64 0]], []⟩ 8 (by kernel_rfl) (by kernel_rfl) (by kernel_rfl) (by kernel_rfl)) ?_
  intro W base args ds gs before hval hW _ _
  exact law_calls (lays := [(false, layB), (false, .int .u8 .nil), (true, .int .i64 (.int .i64 .nil))]) laid (of_decide_eq_true (by kernel_rfl)) (by kernel_rfl) (by kernel_rfl) rfl (fun ds hds => by
    match ds, hds with
    | [d1, d2, d3], _ => rfl) OrdersBetween_args W base args ds gs before hval hW

theorem OrdersBetween_holds : Rows.OrdersBetweenSaid :=
  OpenClaim.holds_of_wide 6 Try.f6 rfl rfl rfl rfl rfl rfl rfl ⟨rfl, rfl, rfl, rfl, rfl⟩ rfl rfl rfl rfl rfl (by kernel_rfl) Try.func6 (by kernel_rfl)
    (of_decide_eq_true (by kernel_rfl)) (by unfold Func.isWrapper; first | (rw [if_pos (by decide +kernel)]; kernel_rfl) | (rw [if_neg (by decide +kernel)]; exact ⟨rfl, rfl⟩))
    (fun os started H enc _ => OrdersBetween_lifted os started H enc)

end Go.Proofs.Ytembkknplmcamaa
