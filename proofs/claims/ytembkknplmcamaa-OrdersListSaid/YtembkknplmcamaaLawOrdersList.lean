/- The law OrdersList of the given program: for every input the call returns true, and its arguments read as before. Here: contracts of functions, and the law. -/
import Derived.Test.YtembkknplmcamaaLawOrdersListP2
import Derived.Test.YtembkknplmcamaaLawOrdersListP1
import Derived.Test.YtembkknplmcamaaFc
import Derived.Test.YtembkknplmcamaaRows
set_option linter.unusedSimpArgs false
set_option linter.unusedVariables false
namespace Go.Proofs.Ytembkknplmcamaa
open Go.Ab
attribute [local irreducible] WeakR WeakE CallA YieldA

/-! orders.list. -/
def held1 (bd r : Int) (i : Nat) (l : List Id) : List Hd := l.map fun p => (⟨p, bd, ((i + 1 : Nat) : Int), spotL ⟨bd, ((i + 1 : Nat) : Int)⟩ r⟩ : Hd)
def heldN (bd r : Int) (G : List (List Id)) (n : Nat) : List Hd := (List.range n).flatMap fun i => held1 bd r i (G.getD i [])
theorem heldN_succ (bd r : Int) (G : List (List Id)) (n : Nat) : heldN bd r G (n + 1) = heldN bd r G n ++ held1 bd r n (G.getD n []) := by
  unfold heldN
  rw [List.range_succ, List.flatMap_append]
  simp
theorem heldN_len {G : List (List Id)} (h : ∀ i, (G.getD i []).length ≤ 4) (bd r : Int) : ∀ n, (heldN bd r G n).length ≤ 4 * n
  | 0 => by simp [heldN]
  | n + 1 => by
    have h1 := heldN_len h bd r n
    have h2 := h n
    rw [heldN_succ, List.length_append, held1, List.length_map]
    omega
def heldT (F B : List (List Id)) (r : Int) (t : Nat) : List Hd := if t = 0 then [] else if t = 1 then heldN 0 r F F.length else heldN 0 r F F.length ++ heldN 1 r B B.length
theorem held_spot {bd r : Int} {G : List (List Id)} (hG : G.length ≤ 40) (hb : bd = 0 ∨ bd = 1) (hr : rackOK r = true) : ∀ x ∈ heldN bd r G G.length, ∃ i : Nat, i < 95 ∧ x.spot = -12 + 2 * (i : Int) := fun x hx => by
  have hrr : -4 ≤ r ∧ r ≤ 4 := by unfold rackOK at hr; simpa using hr
  unfold heldN held1 at hx
  simp only [List.mem_flatMap, List.mem_range, List.mem_map] at hx
  obtain ⟨i, hi, p, _, rfl⟩ := hx
  show ∃ j : Nat, j < 95 ∧ spotL ⟨bd, ((i + 1 : Nat) : Int)⟩ r = -12 + 2 * (j : Int)
  unfold spotL
  rcases hb with rfl | rfl
  · rw [if_neg (by simp)]
    exact ⟨(2 * (i + 1) + 7), by omega, by simp only; omega⟩
  · rw [if_pos rfl]
    refine ⟨(2 * ((i : Int) + 1 + r) + 6).toNat, ?_, ?_⟩
    · omega
    · simp only; omega
theorem heldT_spot {F B : List (List Id)} (hF : F.length ≤ 40) (hB : B.length ≤ 40) {r : Int} (hr : rackOK r = true) : ∀ x ∈ heldT F B r 2, ∃ i : Nat, i < 95 ∧ x.spot = -12 + 2 * (i : Int) := fun x hx => by
  unfold heldT at hx
  rw [if_neg (by omega), if_neg (by omega)] at hx
  rcases List.mem_append.1 hx with h | h
  · exact held_spot hF (.inl rfl) hr x h
  · exact held_spot hB (.inr rfl) hr x h
theorem ClipH_fz (s : AV) (L : List AV) (O0 O' : Heap) (h : OwN 40 5 O0 O' s L) (K : AV → Heap → Prop) (hk : K (tA 5 L) O0) : CallA Try.prog 40 [s] O' K := by
  refine k40.call mix ?_
  unfold c40
  rcases h with ⟨rfl, rfl, rfl⟩ | ⟨hne, id, c, elems, h0, rfl, rfl, h1, h2⟩
  · have e1 : sliceA 5 (.val (.slice none 0 0)) none (some (.val (.int .i64 0))) (some (.val (.int .i64 0))) = some (.val (.slice none 0 0)) := rfl
    (repeat' first
    | simp (contextual := true) (maxSteps := 4000000) only [fwc, fwe, fww, reduceIte, ↓reduceIte, Nat.reduceAdd, Nat.reduceLeDiff, Nat.reduceEqDiff, Nat.reduceLT, Nat.reduceSub, reduceCtorEq, Int.reduceEq, Int.reduceLT, Int.reduceLE, Int.reduceNeg, Int.reduceToNat, Int.reduceAdd, Int.reduceSub, Nat.reduceMul, *]
    | (refine seqK_now ?_)
    | (refine retK_now ?_)
    | (refine retK_now' ?_)
    | (intro q hq)
    | (refine cond_intro (fun hc => ?_) (fun hc => ?_)))
    exact WeakR.now hk
  · have e1 : sliceA 5 (.own id 5 0 L.length c) none (some (.val (.int .i64 L.length))) (some (.val (.int .i64 L.length))) = some (.own id 5 0 L.length (some L.length)) := by
      rw [slice_own_mx (a := 0) (b := L.length) (d := L.length) rfl (by simp [bound_int]) (by simp [bound_int]) (by omega) (by simp [leCap]) (by omega) (by simp [leCap])]
      simp
    have hz := Fz.own (id := id) (sz := 5) (elems := elems) 0 L.length (some L.length) true (by omega) (fun _ => rfl)
    rw [List.drop_zero, h1] at hz
    have hk2 : K (.list 5 true L) O0 := by rw [tA, if_neg hne] at hk; exact hk
    replace hz := (show Aside _ from hz)
    replace hne := (show Aside _ from hne)
    replace h1 := (show Aside _ from h1)
    (repeat' first
    | simp (contextual := true) (maxSteps := 4000000) only [fwc, fwe, fww, reduceIte, ↓reduceIte, Nat.reduceAdd, Nat.reduceLeDiff, Nat.reduceEqDiff, Nat.reduceLT, Nat.reduceSub, reduceCtorEq, Int.reduceEq, Int.reduceLT, Int.reduceLE, Int.reduceNeg, Int.reduceToNat, Int.reduceAdd, Int.reduceSub, Nat.reduceMul, *]
    | (refine seqK_now ?_)
    | (refine retK_now ?_)
    | (refine retK_now' ?_)
    | (intro q hq)
    | (refine cond_intro (fun hc => ?_) (fun hc => ?_)))
    refine WeakR.freeze (Heap.upd_same _ _ _) hz.out (WeakR.now ?_)
    rw [del_upd_new h0]
    exact hk2
def e19a (r : Int) (s l : AV) (t : Nat) : Env := ((((Env.upd (fun _ => .junk) 19 (.val (.int .i64 t))).upd 18 (.val (.int .i64 2))).upd 17 l).upd 5 s).upd 1 (.val (.int .i64 r))
def e19b (r : Int) (s l : AV) (t : Nat) (X : AV) (n i : Nat) : Env := ((((((((Env.upd (fun _ => .junk) 26 (.val (.int .i64 i))).upd 25 (.val (.int .i64 n))).upd 24 X).upd 19 (.val (.int .i64 t))).upd 18 (.val (.int .i64 2))).upd 17 l).upd 6 (.val (.int .i64 t))).upd 5 s).upd 1 (.val (.int .i64 r))
def e19c (r : Int) (s l : AV) (t : Nat) (X : AV) (n i q : Nat) (Y : AV) (m k : Nat) : Env := ((((((((((((Env.upd (fun _ => .junk) 38 (.val (.int .i64 k))).upd 37 (.val (.int .i64 m))).upd 36 Y).upd 26 (.val (.int .i64 i))).upd 25 (.val (.int .i64 n))).upd 24 X).upd 19 (.val (.int .i64 t))).upd 18 (.val (.int .i64 2))).upd 17 l).upd 10 (.optr q 2 0 0)).upd 6 (.val (.int .i64 t))).upd 5 s).upd 1 (.val (.int .i64 r))

set_option maxHeartbeats 8000000 in
theorem list_ok {x : AV} {F B : List (List Id)} (h : IsBeds x F B) (hF : F.length ≤ 40) (hB : B.length ≤ 40) (h4F : ∀ i, (F.getD i []).length ≤ 4) (h4B : ∀ i, (B.getD i []).length ≤ 4) (r : Int) (hr : rackOK r = true) :
    PureA Try.prog 19 [x, .val (.int .i64 r)] (tA 5 ((bySpot (heldT F B r 2)).map Hd.av)) := by
  have hspot := heldT_spot hF hB hr
  obtain ⟨f, b, es, fs, rfl, hIf, hIb, _, _⟩ := h.ex
  have c1 := hIf.1.cells
  have c2 := hIb.1.cells
  have s1 := hIf.1.stor
  have s2 := hIb.1.stor
  have hrr : -4 ≤ r ∧ r ≤ 4 := by unfold rackOK at hr; simpa using hr
  have hpick : ∀ t, t < 2 → ∃ X es G, [f, b][t]? = some X ∧ IsB X es G ∧ heldT F B r (t + 1) = heldT F B r t ++ heldN (t : Int) r G G.length ∧ G.length ≤ 40 ∧ (∀ i, (G.getD i []).length ≤ 4) ∧ (heldT F B r t).length ≤ 160 := fun t ht => by
    match t, ht with
    | 0, _ => exact ⟨f, es, F, rfl, hIf, rfl, hF, h4F, by simp [heldT]⟩
    | 1, _ =>
      have := heldN_len h4F 0 r F.length
      exact ⟨b, fs, B, rfl, hIb, rfl, hB, h4B, by show (heldN 0 r F F.length).length ≤ 160; omega⟩
  have hlen2 : (heldT F B r 2).length ≤ 320 := by
    have h1 := heldN_len h4F 0 r F.length
    have h2 := heldN_len h4B 1 r B.length
    show (heldN 0 r F F.length ++ heldN 1 r B B.length).length ≤ 320
    rw [List.length_append]
    omega
  clear h
  replace hspot := (show Aside _ from hspot)
  replace hIf := (show Aside _ from hIf)
  replace hIb := (show Aside _ from hIb)
  replace hrr := (show Aside _ from hrr)
  replace hpick := (show Aside _ from hpick)
  replace hlen2 := (show Aside _ from hlen2)
  replace hF := (show Aside _ from hF)
  replace hB := (show Aside _ from hB)
  replace h4F := (show Aside _ from h4F)
  replace h4B := (show Aside _ from h4B)
  replace hr := (show Aside _ from hr)
  intro O
  refine k19.call mix ?_
  unfold c19
  refine seq_go ?_
  (repeat' first
    | simp (contextual := true) (maxSteps := 4000000) only [fwc, fwe, fww, reduceIte, ↓reduceIte, Nat.reduceAdd, Nat.reduceLeDiff, Nat.reduceEqDiff, Nat.reduceLT, Nat.reduceSub, reduceCtorEq, Int.reduceEq, Int.reduceLT, Int.reduceLE, Int.reduceNeg, Int.reduceToNat, Int.reduceAdd, Int.reduceSub, Nat.reduceMul, part_cell, part_agg, *]
    | (refine retK_now ?_)
    | (refine retK_now' ?_)
    | (intro q hq)
    | (refine cond_intro (fun hc => ?_) (fun hc => ?_)))
  refine seqK_now ?_
  refine seq_go ?_
  (repeat' first
    | simp (contextual := true) (maxSteps := 4000000) only [fwc, fwe, fww, reduceIte, ↓reduceIte, Nat.reduceAdd, Nat.reduceLeDiff, Nat.reduceEqDiff, Nat.reduceLT, Nat.reduceSub, reduceCtorEq, Int.reduceEq, Int.reduceLT, Int.reduceLE, Int.reduceNeg, Int.reduceToNat, Int.reduceAdd, Int.reduceSub, Nat.reduceMul, part_cell, part_agg, *]
    | (refine retK_now ?_)
    | (refine retK_now' ?_)
    | (intro q hq)
    | (refine cond_intro (fun hc => ?_) (fun hc => ?_)))
  refine seqK_now ?_
  refine seq_go ?_
  refine seq_go ?_
  (repeat' first
    | simp (contextual := true) (maxSteps := 4000000) only [fwc, fwe, fww, reduceIte, ↓reduceIte, Nat.reduceAdd, Nat.reduceLeDiff, Nat.reduceEqDiff, Nat.reduceLT, Nat.reduceSub, reduceCtorEq, Int.reduceEq, Int.reduceLT, Int.reduceLE, Int.reduceNeg, Int.reduceToNat, Int.reduceAdd, Int.reduceSub, Nat.reduceMul, part_cell, part_agg, *]
    | (refine retK_now ?_)
    | (refine retK_now' ?_)
    | (intro q hq)
    | (refine cond_intro (fun hc => ?_) (fun hc => ?_)))
  revert q
  intro q2 hq2
  refine seqK_now ?_
  obtain ⟨I, hI⟩ := hideI (fun m e O' => ∃ (t : Nat) (s : AV) (O0 : Heap), t ≤ 2 ∧ m = 2 - t ∧ O.sub O0 ∧ OwN 40 5 O0 O' s ((heldT F B r t).map Hd.av) ∧ e = e19a r s (.list 1 true [f, b]) t)
  (repeat' first
    | simp (contextual := true) (maxSteps := 4000000) only [fwc, fwe, fww, reduceIte, ↓reduceIte, Nat.reduceAdd, Nat.reduceLeDiff, Nat.reduceEqDiff, Nat.reduceLT, Nat.reduceSub, reduceCtorEq, Int.reduceEq, Int.reduceLT, Int.reduceLE, Int.reduceNeg, Int.reduceToNat, Int.reduceAdd, Int.reduceSub, Nat.reduceMul, part_cell, part_agg, *]
    | (refine retK_now ?_)
    | (refine retK_now' ?_)
    | (intro q hq)
    | (refine cond_intro (fun hc => ?_) (fun hc => ?_)))
  refine cmd_loop I 2 (by
    rw [hI.out]
    exact ⟨0, _, _, by omega, rfl, sub_upd hq2 (Heap.sub_refl _), OwN.nil, rfl⟩) ?_
  clear hq2
  intro m e O' hh
  rw [hI.out] at hh
  obtain ⟨t, s, O0, ht2, rfl, hO0, hs, rfl⟩ := hh
  unfold e19a
  have sc := hs.cells
  have sst := hs.stor
  replace hO0 := (show Aside _ from hO0)
  replace hs := (show Aside _ from hs)
  have dt : decide ((t : Int) < 2) = decide (t < 2) := decide_eq_decide.2 (by omega)
  by_cases ht : t < 2
  rotate_left
  · have e0 : decide (t < 2) = false := decide_eq_false ht
    have hte : t = 2 := by omega
    rw [hte] at hs
    replace ht := (show Aside _ from ht)
    replace hte := (show Aside _ from hte)
    (repeat' first
    | simp (contextual := true) (maxSteps := 4000000) only [fwc, fwe, fww, reduceIte, ↓reduceIte, Nat.reduceAdd, Nat.reduceLeDiff, Nat.reduceEqDiff, Nat.reduceLT, Nat.reduceSub, reduceCtorEq, Int.reduceEq, Int.reduceLT, Int.reduceLE, Int.reduceNeg, Int.reduceToNat, Int.reduceAdd, Int.reduceSub, Nat.reduceMul, *]
    | (refine seqK_now ?_)
    | (refine retK_now ?_)
    | (refine retK_now' ?_)
    | (intro q hq)
    | (refine cond_intro (fun hc => ?_) (fun hc => ?_)))
    refine SortN_ok O0 O' s _ hs.out (by have := hlen2.out; omega) hspot.out _ fun O2 r2 h2 => ?_
    have sc2 := h2.cells
    replace h2 := (show Aside _ from h2)
    (repeat' first
    | simp (contextual := true) (maxSteps := 4000000) only [fwc, fwe, fww, reduceIte, ↓reduceIte, Nat.reduceAdd, Nat.reduceLeDiff, Nat.reduceEqDiff, Nat.reduceLT, Nat.reduceSub, reduceCtorEq, Int.reduceEq, Int.reduceLT, Int.reduceLE, Int.reduceNeg, Int.reduceToNat, Int.reduceAdd, Int.reduceSub, Nat.reduceMul, *]
    | (refine seqK_now ?_)
    | (refine retK_now ?_)
    | (refine retK_now' ?_)
    | (intro q hq)
    | (refine cond_intro (fun hc => ?_) (fun hc => ?_)))
    refine ClipH_fz s _ O0 O2 h2.out _ ?_
    (repeat' first
    | simp (contextual := true) (maxSteps := 4000000) only [fwc, fwe, fww, reduceIte, ↓reduceIte, Nat.reduceAdd, Nat.reduceLeDiff, Nat.reduceEqDiff, Nat.reduceLT, Nat.reduceSub, reduceCtorEq, Int.reduceEq, Int.reduceLT, Int.reduceLE, Int.reduceNeg, Int.reduceToNat, Int.reduceAdd, Int.reduceSub, Nat.reduceMul, *]
    | (refine seqK_now ?_)
    | (refine retK_now ?_)
    | (refine retK_now' ?_)
    | (intro q hq)
    | (refine cond_intro (fun hc => ?_) (fun hc => ?_)))
    refine WeakR.pure hO0.out ?_
    rfl
  have e0 : decide (t < 2) = true := decide_eq_true ht
  obtain ⟨X, gs, G, hX, hIs, hnext, hG40, hG4, hbl⟩ := hpick.out t ht
  have hia0 := IsL.ia (show IsL 1 (.list 1 true [f, b]) [f, b] from .inr ⟨true, rfl⟩) (i := t) (by simpa using ht)
  rw [show [f, b][t] = X from by
    rw [List.getElem?_eq_getElem (by simpa using ht)] at hX
    exact Option.some.inj hX] at hia0
  have xc := hIs.1.cells
  have xs := hIs.1.stor
  have xl := hIs.1.len
  rw [hIs.2.1] at xl
  have wt : IntKind.i64.wrap ((t : Int) + 1) = ((t + 1 : Nat) : Int) := by rw [wrap_i64 (by omega) (by omega)]; omega
  have hut : IntKind.u8.wrap (t : Int) = (t : Int) := wrap_u8 (by omega) (by omega)
  replace ht := (show Aside _ from ht)
  replace hIs := (show Aside _ from hIs)
  replace hX := (show Aside _ from hX)
  replace hnext := (show Aside _ from hnext)
  replace hG40 := (show Aside _ from hG40)
  replace hG4 := (show Aside _ from hG4)
  replace hbl := (show Aside _ from hbl)
  (repeat' first
    | simp (contextual := true) (maxSteps := 4000000) only [fwc, fwe, fww, reduceIte, ↓reduceIte, Nat.reduceAdd, Nat.reduceLeDiff, Nat.reduceEqDiff, Nat.reduceLT, Nat.reduceSub, reduceCtorEq, Int.reduceEq, Int.reduceLT, Int.reduceLE, Int.reduceNeg, Int.reduceToNat, Int.reduceAdd, Int.reduceSub, Nat.reduceMul, *]
    | (refine retK_now ?_)
    | (refine retK_now' ?_)
    | (intro q hq)
    | (refine cond_intro (fun hc => ?_) (fun hc => ?_)))
  refine seqK_now ?_
  (repeat' first
    | simp (contextual := true) (maxSteps := 4000000) only [fwc, fwe, fww, reduceIte, ↓reduceIte, Nat.reduceAdd, Nat.reduceLeDiff, Nat.reduceEqDiff, Nat.reduceLT, Nat.reduceSub, reduceCtorEq, Int.reduceEq, Int.reduceLT, Int.reduceLE, Int.reduceNeg, Int.reduceToNat, Int.reduceAdd, Int.reduceSub, Nat.reduceMul, *]
    | (refine retK_now ?_)
    | (refine retK_now' ?_)
    | (intro q hq)
    | (refine cond_intro (fun hc => ?_) (fun hc => ?_)))
  refine seqK_now ?_
  (repeat' first
    | simp (contextual := true) (maxSteps := 4000000) only [fwc, fwe, fww, reduceIte, ↓reduceIte, Nat.reduceAdd, Nat.reduceLeDiff, Nat.reduceEqDiff, Nat.reduceLT, Nat.reduceSub, reduceCtorEq, Int.reduceEq, Int.reduceLT, Int.reduceLE, Int.reduceNeg, Int.reduceToNat, Int.reduceAdd, Int.reduceSub, Nat.reduceMul, part_cell, *]
    | (refine retK_now ?_)
    | (refine retK_now' ?_)
    | (intro q hq)
    | (refine cond_intro (fun hc => ?_) (fun hc => ?_)))
  refine seqK_now ?_
  (repeat' first
    | simp (contextual := true) (maxSteps := 4000000) only [fwc, fwe, fww, reduceIte, ↓reduceIte, Nat.reduceAdd, Nat.reduceLeDiff, Nat.reduceEqDiff, Nat.reduceLT, Nat.reduceSub, reduceCtorEq, Int.reduceEq, Int.reduceLT, Int.reduceLE, Int.reduceNeg, Int.reduceToNat, Int.reduceAdd, Int.reduceSub, Nat.reduceMul, part_cell, *]
    | (refine retK_now ?_)
    | (refine retK_now' ?_)
    | (intro q hq)
    | (refine cond_intro (fun hc => ?_) (fun hc => ?_)))
  refine seqK_now ?_
  obtain ⟨J, hJ⟩ := hideI (fun m e O' => ∃ (i : Nat) (s : AV) (O0 : Heap), i ≤ G.length ∧ m = G.length - i ∧ O.sub O0 ∧ OwN 40 5 O0 O' s ((heldT F B r t ++ heldN (t : Int) r G i).map Hd.av) ∧ e = e19b r s (.list 1 true [f, b]) t X G.length i)
  (repeat' first
    | simp (contextual := true) (maxSteps := 4000000) only [fwc, fwe, fww, reduceIte, ↓reduceIte, Nat.reduceAdd, Nat.reduceLeDiff, Nat.reduceEqDiff, Nat.reduceLT, Nat.reduceSub, reduceCtorEq, Int.reduceEq, Int.reduceLT, Int.reduceLE, Int.reduceNeg, Int.reduceToNat, Int.reduceAdd, Int.reduceSub, Nat.reduceMul, *]
    | (refine retK_now ?_)
    | (refine retK_now' ?_)
    | (intro q hq)
    | (refine cond_intro (fun hc => ?_) (fun hc => ?_)))
  refine cmd_loop J G.length (by
    rw [hJ.out]
    exact ⟨0, s, O0, Nat.zero_le _, rfl, hO0.out, by rw [show heldN (t : Int) r G 0 = [] from rfl, List.append_nil]; exact hs.out, rfl⟩) ?_
  clear hs hO0 sc sst O0 s
  intro m e O1 hh
  rw [hJ.out] at hh
  obtain ⟨i, s, O0, hiG, rfl, hO0, hs, rfl⟩ := hh
  unfold e19b
  have sc := hs.cells
  have sst := hs.stor
  replace hO0 := (show Aside _ from hO0)
  replace hs := (show Aside _ from hs)
  by_cases hi : i < G.length
  rotate_left
  · have e1 : decide (i < G.length) = false := decide_eq_false hi
    have hie : i = G.length := by omega
    rw [hie, ← hnext.out] at hs
    replace hi := (show Aside _ from hi)
    replace hie := (show Aside _ from hie)
    replace hiG := (show Aside _ from hiG)
    (repeat' first
    | simp (contextual := true) (maxSteps := 4000000) only [fwc, fwe, fww, reduceIte, ↓reduceIte, Nat.reduceAdd, Nat.reduceLeDiff, Nat.reduceEqDiff, Nat.reduceLT, Nat.reduceSub, reduceCtorEq, Int.reduceEq, Int.reduceLT, Int.reduceLE, Int.reduceNeg, Int.reduceToNat, Int.reduceAdd, Int.reduceSub, Nat.reduceMul, ilt_nat, *]
    | (refine seqK_now ?_)
    | (refine retK_now ?_)
    | (refine retK_now' ?_)
    | (intro q hq)
    | (refine cond_intro (fun hc => ?_) (fun hc => ?_)))
    refine loopK_now (2 - (t + 1)) (by have := ht.out; omega) ?_
    rw [hI.out]
    exact ⟨t + 1, s, O0, by have := ht.out; omega, rfl, hO0.out, hs.out, rfl⟩
  have e1 : decide (i < G.length) = true := decide_eq_true hi
  have hwi : i < 4611686018427387904 := by have := hG40.out; omega
  have hgi : i < gs.length := by rw [hIs.out.2.1]; exact hi
  have hib := hIs.out.2.2 i hgi hi
  have hia1 := IsL.ia hIs.out.1 (i := i) hgi
  have hgd : G.getD i [] = G[i] := by rw [List.getD_eq_getElem?_getD, List.getElem?_eq_getElem hi]; rfl
  have hl4 := hG4.out i
  rw [hgd] at hl4
  have hNl := heldN_len hG4.out (t : Int) r i
  have hsuc := heldN_succ (t : Int) r G i
  rw [hgd] at hsuc
  generalize gs[i] = Y at *
  generalize G[i] = W at *
  have yc := hib.cells
  have ys := hib.stor
  have yl := hib.len
  rw [List.length_map] at yl
  have hgood : (⟨(t : Int), ((i + 1 : Nat) : Int)⟩ : Ndl).bad = false := by
    unfold Ndl.bad
    simp only [Bool.or_eq_false_iff, decide_eq_false_iff_not]
    have := ht.out
    have := hG40.out
    omega
  have hSp := Spot_ok ⟨(t : Int), ((i + 1 : Nat) : Int)⟩ r
  rw [if_neg (by rw [hgood, hr.out]; simp)] at hSp
  rw [show (⟨(t : Int), ((i + 1 : Nat) : Int)⟩ : Ndl).av = .agg [.val (.int .u8 (t : Int)), .val (.int .i64 ((i + 1 : Nat) : Int))] from rfl] at hSp
  have hbase : (heldT F B r t ++ heldN (t : Int) r G i).length ≤ 320 := by rw [List.length_append]; have := hbl.out; have := hG40.out; omega
  obtain ⟨base, hbase2⟩ : ∃ L, heldT F B r t ++ heldN (t : Int) r G i = L := ⟨_, rfl⟩
  have hnx : heldT F B r t ++ heldN (t : Int) r G (i + 1) = base ++ held1 (t : Int) r i W := by rw [hsuc, ← List.append_assoc, hbase2]
  rw [hbase2] at hs hbase
  clear hsuc hgd
  replace hi := (show Aside _ from hi)
  replace hiG := (show Aside _ from hiG)
  replace hib := (show Aside _ from hib)
  replace hgood := (show Aside _ from hgood)
  replace hl4 := (show Aside _ from hl4)
  replace hNl := (show Aside _ from hNl)
  replace hbase := (show Aside _ from hbase)
  replace hbase2 := (show Aside _ from hbase2)
  replace hnx := (show Aside _ from hnx)
  (repeat' first
    | simp (contextual := true) (maxSteps := 4000000) only [fwc, fwe, fww, reduceIte, ↓reduceIte, Nat.reduceAdd, Nat.reduceLeDiff, Nat.reduceEqDiff, Nat.reduceLT, Nat.reduceSub, reduceCtorEq, Int.reduceEq, Int.reduceLT, Int.reduceLE, Int.reduceNeg, Int.reduceToNat, Int.reduceAdd, Int.reduceSub, Nat.reduceMul, ilt_nat, *]
    | (refine retK_now ?_)
    | (refine retK_now' ?_)
    | (intro q hq)
    | (refine cond_intro (fun hc => ?_) (fun hc => ?_)))
  refine seqK_now ?_
  (repeat' first
    | simp (contextual := true) (maxSteps := 4000000) only [fwc, fwe, fww, reduceIte, ↓reduceIte, Nat.reduceAdd, Nat.reduceLeDiff, Nat.reduceEqDiff, Nat.reduceLT, Nat.reduceSub, reduceCtorEq, Int.reduceEq, Int.reduceLT, Int.reduceLE, Int.reduceNeg, Int.reduceToNat, Int.reduceAdd, Int.reduceSub, Nat.reduceMul, ilt_nat, *]
    | (refine retK_now ?_)
    | (refine retK_now' ?_)
    | (intro q hq)
    | (refine cond_intro (fun hc => ?_) (fun hc => ?_)))
  refine seqK_now ?_
  (repeat' first
    | simp (contextual := true) (maxSteps := 4000000) only [fwc, fwe, fww, reduceIte, ↓reduceIte, Nat.reduceAdd, Nat.reduceLeDiff, Nat.reduceEqDiff, Nat.reduceLT, Nat.reduceSub, reduceCtorEq, Int.reduceEq, Int.reduceLT, Int.reduceLE, Int.reduceNeg, Int.reduceToNat, Int.reduceAdd, Int.reduceSub, Nat.reduceMul, part_cell, ilt_nat, *]
    | (refine retK_now ?_)
    | (refine retK_now' ?_)
    | (intro q hq)
    | (refine cond_intro (fun hc => ?_) (fun hc => ?_)))
  refine seqK_now ?_
  (repeat' first
    | simp (contextual := true) (maxSteps := 4000000) only [fwc, fwe, fww, reduceIte, ↓reduceIte, Nat.reduceAdd, Nat.reduceLeDiff, Nat.reduceEqDiff, Nat.reduceLT, Nat.reduceSub, reduceCtorEq, Int.reduceEq, Int.reduceLT, Int.reduceLE, Int.reduceNeg, Int.reduceToNat, Int.reduceAdd, Int.reduceSub, Nat.reduceMul, part_cell, part_agg, ilt_nat, wrap_succ, *]
    | (refine retK_now ?_)
    | (refine retK_now' ?_)
    | (intro q hq)
    | (refine cond_intro (fun hc => ?_) (fun hc => ?_)))
  revert q
  intro q10 hq10
  refine seqK_now ?_
  have o10 := own_none hs.out hq10
  have sub10 := sub_new hO0.out o10 (v := .arr 38 2 [.agg [.val (.int .u8 (t : Int)), .val (.int .i64 ((i + 1 : Nat) : Int))]])
  have own10 := own_new hs.out (x := .arr 38 2 [.agg [.val (.int .u8 (t : Int)), .val (.int .i64 ((i + 1 : Nat) : Int))]]) hq10
  have w10 : (O0.upd q10 (.arr 38 2 [.agg [.val (.int .u8 (t : Int)), .val (.int .i64 ((i + 1 : Nat) : Int))]])) q10 = some (.arr 38 2 [.agg [.val (.int .u8 (t : Int)), .val (.int .i64 ((i + 1 : Nat) : Int))]]) := Heap.upd_same _ _ _
  replace sub10 := (show Aside _ from sub10)
  replace own10 := (show Aside _ from own10)
  replace w10 := (show Aside _ from w10)
  replace o10 := (show Aside _ from o10)
  (repeat' first
    | simp (contextual := true) (maxSteps := 4000000) only [fwc, fwe, fww, reduceIte, ↓reduceIte, Nat.reduceAdd, Nat.reduceLeDiff, Nat.reduceEqDiff, Nat.reduceLT, Nat.reduceSub, reduceCtorEq, Int.reduceEq, Int.reduceLT, Int.reduceLE, Int.reduceNeg, Int.reduceToNat, Int.reduceAdd, Int.reduceSub, Nat.reduceMul, part_cell, part_agg, ilt_nat, wrap_succ, *]
    | (refine retK_now ?_)
    | (refine retK_now' ?_)
    | (intro q hq)
    | (refine cond_intro (fun hc => ?_) (fun hc => ?_)))
  refine seqK_now ?_
  obtain ⟨T, hT⟩ := hideI (fun m e O' => ∃ (k : Nat) (s : AV) (O2 : Heap), k ≤ W.length ∧ m = W.length - k ∧ O.sub O2 ∧ O2 q10 = some (.arr 38 2 [.agg [.val (.int .u8 (t : Int)), .val (.int .i64 ((i + 1 : Nat) : Int))]]) ∧ OwN 40 5 O2 O' s ((base ++ held1 (t : Int) r i (W.take k)).map Hd.av) ∧ e = e19c r s (.list 1 true [f, b]) t X G.length i q10 Y W.length k)
  (repeat' first
    | simp (contextual := true) (maxSteps := 4000000) only [fwc, fwe, fww, reduceIte, ↓reduceIte, Nat.reduceAdd, Nat.reduceLeDiff, Nat.reduceEqDiff, Nat.reduceLT, Nat.reduceSub, reduceCtorEq, Int.reduceEq, Int.reduceLT, Int.reduceLE, Int.reduceNeg, Int.reduceToNat, Int.reduceAdd, Int.reduceSub, Nat.reduceMul, *]
    | (refine retK_now ?_)
    | (refine retK_now' ?_)
    | (intro q hq)
    | (refine cond_intro (fun hc => ?_) (fun hc => ?_)))
  refine cmd_loop T W.length (by
    rw [hT.out]
    exact ⟨0, s, _, Nat.zero_le _, rfl, sub10.out, w10.out, by rw [List.take_zero]; rw [show held1 (t : Int) r i [] = [] from rfl, List.append_nil]; exact own10.out, rfl⟩) ?_
  clear hs own10 w10 sub10 hq10 o10 hO0 sc sst
  intro m e O2 hh
  rw [hT.out] at hh
  obtain ⟨k, s3, O4, hk4, rfl, hO4, hw4, hs3, rfl⟩ := hh
  unfold e19c
  have f10 := hs3.at_ hw4
  have sc := hs3.cells
  have sst := hs3.stor
  replace hO4 := (show Aside _ from hO4)
  replace hw4 := (show Aside _ from hw4)
  replace hs3 := (show Aside _ from hs3)
  by_cases hk : k < W.length
  rotate_left
  · have e2 : decide (k < W.length) = false := decide_eq_false hk
    have hke : k = W.length := by omega
    replace hk := (show Aside _ from hk)
    rw [hke, List.take_length] at hs3
    replace hke := (show Aside _ from hke)
    replace hk4 := (show Aside _ from hk4)
    (repeat' first
    | simp (contextual := true) (maxSteps := 4000000) only [fwc, fwe, fww, reduceIte, ↓reduceIte, Nat.reduceAdd, Nat.reduceLeDiff, Nat.reduceEqDiff, Nat.reduceLT, Nat.reduceSub, reduceCtorEq, Int.reduceEq, Int.reduceLT, Int.reduceLE, Int.reduceNeg, Int.reduceToNat, Int.reduceAdd, Int.reduceSub, Nat.reduceMul, ilt_nat, part_cell, part_agg, wrap_succ, *]
    | (refine seqK_now ?_)
    | (refine retK_now ?_)
    | (refine retK_now' ?_)
    | (intro q hq)
    | (refine cond_intro (fun hc => ?_) (fun hc => ?_)))
    refine loopK_now (G.length - (i + 1)) (by have := hi.out; omega) ?_
    rw [hJ.out]
    refine ⟨i + 1, s3, O4, by have := hi.out; omega, rfl, hO4.out, ?_, rfl⟩
    rw [hnx.out]
    exact hs3.out
  have e2 : decide (k < W.length) = true := decide_eq_true hk
  have hwk : k < 4611686018427387904 := by have := hl4.out; omega
  have hia2 := IsL.ia hib.out (i := k) (by rw [List.length_map]; exact hk)
  rw [List.getElem_map] at hia2
  have htk : held1 (t : Int) r i (W.take (k + 1)) = held1 (t : Int) r i (W.take k) ++ [⟨W[k], (t : Int), ((i + 1 : Nat) : Int), spotL ⟨(t : Int), ((i + 1 : Nat) : Int)⟩ r⟩] := by
    unfold held1
    rw [List.take_add_one, List.getElem?_eq_getElem hk, List.map_append]
    rfl
  have htl : (held1 (t : Int) r i (W.take k)).length ≤ 4 := by
    have := List.length_take_le k W
    have := hl4.out
    unfold held1
    rw [List.length_map]
    omega
  generalize W[k] = y at *
  rw [show y.av = .agg [.val (.int .u8 y.y), .val (.int .i64 y.n)] from rfl] at hia2
  replace hk := (show Aside _ from hk)
  replace hk4 := (show Aside _ from hk4)
  replace htk := (show Aside _ from htk)
  replace htl := (show Aside _ from htl)
  (repeat' first
    | simp (contextual := true) (maxSteps := 4000000) only [fwc, fwe, fww, reduceIte, ↓reduceIte, Nat.reduceAdd, Nat.reduceLeDiff, Nat.reduceEqDiff, Nat.reduceLT, Nat.reduceSub, reduceCtorEq, Int.reduceEq, Int.reduceLT, Int.reduceLE, Int.reduceNeg, Int.reduceToNat, Int.reduceAdd, Int.reduceSub, Nat.reduceMul, ilt_nat, part_cell, part_agg, *]
    | (refine retK_now ?_)
    | (refine retK_now' ?_)
    | (intro q hq)
    | (refine cond_intro (fun hc => ?_) (fun hc => ?_)))
  refine seqK_now ?_
  (repeat' first
    | simp (contextual := true) (maxSteps := 4000000) only [fwc, fwe, fww, reduceIte, ↓reduceIte, Nat.reduceAdd, Nat.reduceLeDiff, Nat.reduceEqDiff, Nat.reduceLT, Nat.reduceSub, reduceCtorEq, Int.reduceEq, Int.reduceLT, Int.reduceLE, Int.reduceNeg, Int.reduceToNat, Int.reduceAdd, Int.reduceSub, Nat.reduceMul, ilt_nat, part_cell, part_agg, *]
    | (refine retK_now ?_)
    | (refine retK_now' ?_)
    | (intro q hq)
    | (refine cond_intro (fun hc => ?_) (fun hc => ?_)))
  refine seqK_now ?_
  (repeat' first
    | simp (contextual := true) (maxSteps := 4000000) only [fwc, fwe, fww, reduceIte, ↓reduceIte, Nat.reduceAdd, Nat.reduceLeDiff, Nat.reduceEqDiff, Nat.reduceLT, Nat.reduceSub, reduceCtorEq, Int.reduceEq, Int.reduceLT, Int.reduceLE, Int.reduceNeg, Int.reduceToNat, Int.reduceAdd, Int.reduceSub, Nat.reduceMul, ilt_nat, part_cell, part_agg, *]
    | (refine retK_now ?_)
    | (refine retK_now' ?_)
    | (intro q hq)
    | (refine cond_intro (fun hc => ?_) (fun hc => ?_)))
  revert q
  intro q12 hq12
  refine seqK_now ?_
  have o12 := own_none hs3.out hq12
  have sub12 := sub_new hO4.out o12 (v := .arr 35 2 [.agg [.val (.int .u8 y.y), .val (.int .i64 y.n)]])
  have own12 := own_new hs3.out (x := .arr 35 2 [.agg [.val (.int .u8 y.y), .val (.int .i64 y.n)]]) hq12
  have v12 := upd_keep (v := .arr 35 2 [.agg [.val (.int .u8 y.y), .val (.int .i64 y.n)]]) o12 hw4.out
  have n1012 := ne_of f10 hq12
  replace sub12 := (show Aside _ from sub12)
  replace own12 := (show Aside _ from own12)
  replace v12 := (show Aside _ from v12)
  replace o12 := (show Aside _ from o12)
  (repeat' first
    | simp (contextual := true) (maxSteps := 4000000) only [fwc, fwe, fww, reduceIte, ↓reduceIte, Nat.reduceAdd, Nat.reduceLeDiff, Nat.reduceEqDiff, Nat.reduceLT, Nat.reduceSub, reduceCtorEq, Int.reduceEq, Int.reduceLT, Int.reduceLE, Int.reduceNeg, Int.reduceToNat, Int.reduceAdd, Int.reduceSub, Nat.reduceMul, ilt_nat, part_cell, part_agg, *]
    | (refine retK_now ?_)
    | (refine retK_now' ?_)
    | (intro q hq)
    | (refine cond_intro (fun hc => ?_) (fun hc => ?_)))
  refine callF_use hSp ?_
  (repeat' first
    | simp (contextual := true) (maxSteps := 4000000) only [fwc, fwe, fww, reduceIte, ↓reduceIte, Nat.reduceAdd, Nat.reduceLeDiff, Nat.reduceEqDiff, Nat.reduceLT, Nat.reduceSub, reduceCtorEq, Int.reduceEq, Int.reduceLT, Int.reduceLE, Int.reduceNeg, Int.reduceToNat, Int.reduceAdd, Int.reduceSub, Nat.reduceMul, ilt_nat, part_cell, part_agg, *]
    | (refine retK_now ?_)
    | (refine retK_now' ?_)
    | (intro q hq)
    | (refine cond_intro (fun hc => ?_) (fun hc => ?_)))
  refine own_app (bytes := 40) own12.out (X := [Hd.av ⟨y, (t : Int), ((i + 1 : Nat) : Int), spotL ⟨(t : Int), ((i + 1 : Nat) : Int)⟩ r⟩]) (.inr ⟨true, rfl⟩) (fits_of (by have := hbase.out; have := htl.out; simp only [List.length_append, List.length_map, List.length_cons, List.length_nil] at this ⊢; omega) (by omega)) fun s5 O5 h5 => ?_
  have sc5 := h5.cells
  have sst5 := h5.stor
  replace h5 := (show Aside _ from h5)
  (repeat' first
    | simp (contextual := true) (maxSteps := 4000000) only [fwc, fwe, fww, reduceIte, ↓reduceIte, Nat.reduceAdd, Nat.reduceLeDiff, Nat.reduceEqDiff, Nat.reduceLT, Nat.reduceSub, reduceCtorEq, Int.reduceEq, Int.reduceLT, Int.reduceLE, Int.reduceNeg, Int.reduceToNat, Int.reduceAdd, Int.reduceSub, Nat.reduceMul, ilt_nat, part_cell, part_agg, wrap_succ, *]
    | (refine seqK_now ?_)
    | (refine retK_now ?_)
    | (refine retK_now' ?_)
    | (intro q hq)
    | (refine cond_intro (fun hc => ?_) (fun hc => ?_)))
  refine loopK_now (W.length - (k + 1)) (by have := hk.out; omega) ?_
  rw [hT.out]
  refine ⟨k + 1, s5, _, by have := hk.out; omega, rfl, sub12.out, v12.out, ?_, rfl⟩
  rw [htk.out, ← List.append_assoc, List.map_append]
  exact h5.out

theorem List_ok {x : AV} {F B : List (List Id)} (h : IsBeds x F B) (hc : checkL F B = 0) (hF : F.length ≤ 40) (hB : B.length ≤ 40) (h4F : ∀ i, (F.getD i []).length ≤ 4) (h4B : ∀ i, (B.getD i []).length ≤ 4) (r : Int) :
    PureA Try.prog 8 [x, .val (.int .i64 r)] (if rackOK r = true then .tup [tA 5 ((bySpot (heldT F B r 2)).map Hd.av), .val (.int .i64 0)] else .tup [.val (.slice none 0 0), .val (.int .i64 11)]) := by
  have hu := usual_ok h hc r
  have hl := fun hr => list_ok h hF hB h4F h4B r hr
  obtain ⟨f, b, rfl, c1, c2, s1, s2, _, _⟩ := h.cells
  clear h
  have d0 : decide ((0 : Int) = 0) = true := by decide
  have d1 : decide ((11 : Int) = 0) = false := by decide
  replace hc := (show Aside _ from hc)
  replace hF := (show Aside _ from hF)
  replace hB := (show Aside _ from hB)
  replace h4F := (show Aside _ from h4F)
  replace h4B := (show Aside _ from h4B)
  intro O
  refine k8.call mix ?_
  unfold c8
  by_cases hr : rackOK r = true
  · have hl := hl hr
    rw [if_pos hr] at hu
    rw [if_pos hr]
    have tc := (tA_T 5 ((bySpot (heldT F B r 2)).map Hd.av)).isL.cells
    have ts := (tA_T 5 ((bySpot (heldT F B r 2)).map Hd.av)).isL.stor
    generalize tA 5 ((bySpot (heldT F B r 2)).map Hd.av) = R at *
    replace hr := (show Aside _ from hr)
    (repeat' first
    | simp (contextual := true) (maxSteps := 4000000) only [fwc, fwe, fww, reduceIte, ↓reduceIte, Nat.reduceAdd, Nat.reduceLeDiff, Nat.reduceEqDiff, Nat.reduceLT, Nat.reduceSub, reduceCtorEq, Int.reduceEq, Int.reduceLT, Int.reduceLE, Int.reduceNeg, Int.reduceToNat, Int.reduceAdd, Int.reduceSub, Nat.reduceMul, part_cell, part_agg, *]
    | (refine seqK_now ?_)
    | (refine retK_now ?_)
    | (refine retK_now' ?_)
    | (intro q hq)
    | (refine cond_intro (fun hc => ?_) (fun hc => ?_)))
    refine hu.use ?_
    (repeat' first
    | simp (contextual := true) (maxSteps := 4000000) only [fwc, fwe, fww, reduceIte, ↓reduceIte, Nat.reduceAdd, Nat.reduceLeDiff, Nat.reduceEqDiff, Nat.reduceLT, Nat.reduceSub, reduceCtorEq, Int.reduceEq, Int.reduceLT, Int.reduceLE, Int.reduceNeg, Int.reduceToNat, Int.reduceAdd, Int.reduceSub, Nat.reduceMul, part_cell, part_agg, *]
    | (refine seqK_now ?_)
    | (refine retK_now ?_)
    | (refine retK_now' ?_)
    | (intro q hq)
    | (refine cond_intro (fun hc => ?_) (fun hc => ?_)))
    refine hl.use ?_
    (repeat' first
    | simp (contextual := true) (maxSteps := 4000000) only [fwc, fwe, fww, reduceIte, ↓reduceIte, Nat.reduceAdd, Nat.reduceLeDiff, Nat.reduceEqDiff, Nat.reduceLT, Nat.reduceSub, reduceCtorEq, Int.reduceEq, Int.reduceLT, Int.reduceLE, Int.reduceNeg, Int.reduceToNat, Int.reduceAdd, Int.reduceSub, Nat.reduceMul, part_cell, part_agg, *]
    | (refine seqK_now ?_)
    | (refine retK_now ?_)
    | (refine retK_now' ?_)
    | (intro q hq)
    | (refine cond_intro (fun hc => ?_) (fun hc => ?_)))
    refine WeakR.pure (sub_upd hq (Heap.sub_refl _)) ?_
    rfl
  · rw [if_neg hr] at hu
    rw [if_neg hr]
    clear hl
    replace hr := (show Aside _ from hr)
    (repeat' first
    | simp (contextual := true) (maxSteps := 4000000) only [fwc, fwe, fww, reduceIte, ↓reduceIte, Nat.reduceAdd, Nat.reduceLeDiff, Nat.reduceEqDiff, Nat.reduceLT, Nat.reduceSub, reduceCtorEq, Int.reduceEq, Int.reduceLT, Int.reduceLE, Int.reduceNeg, Int.reduceToNat, Int.reduceAdd, Int.reduceSub, Nat.reduceMul, part_cell, part_agg, *]
    | (refine seqK_now ?_)
    | (refine retK_now ?_)
    | (refine retK_now' ?_)
    | (intro q hq)
    | (refine cond_intro (fun hc => ?_) (fun hc => ?_)))
    refine hu.use ?_
    (repeat' first
    | simp (contextual := true) (maxSteps := 4000000) only [fwc, fwe, fww, reduceIte, ↓reduceIte, Nat.reduceAdd, Nat.reduceLeDiff, Nat.reduceEqDiff, Nat.reduceLT, Nat.reduceSub, reduceCtorEq, Int.reduceEq, Int.reduceLT, Int.reduceLE, Int.reduceNeg, Int.reduceToNat, Int.reduceAdd, Int.reduceSub, Nat.reduceMul, part_cell, part_agg, *]
    | (refine seqK_now ?_)
    | (refine retK_now ?_)
    | (refine retK_now' ?_)
    | (intro q hq)
    | (refine cond_intro (fun hc => ?_) (fun hc => ?_)))
    refine WeakR.pure (sub_upd hq (Heap.sub_refl _)) ?_
    rfl
end Go.Proofs.Ytembkknplmcamaa

namespace Go.Proofs.Ytembkknplmcamaa
open Go.Ab
attribute [local irreducible] WeakR WeakE CallA YieldA

/-! listed, and that the stable sort is what it gives. -/
def lis1 (F B : List (List Id)) (r sp : Int) (i : Nat) : List Hd := if spotL (needleL i) r = sp then (atL F B (needleL i)).map fun p => (⟨p, (needleL i).bed, (needleL i).at_, sp⟩ : Hd) else []
def lisN (F B : List (List Id)) (r sp : Int) (n : Nat) : List Hd := (List.range n).flatMap (lis1 F B r sp)
def lisA (F B : List (List Id)) (r : Int) (n : Nat) : List Hd := (List.range n).flatMap fun a : Nat => lisN F B r (-12 + 2 * (a : Int)) 80
theorem lisN_succ (F B : List (List Id)) (r sp : Int) (n : Nat) : lisN F B r sp (n + 1) = lisN F B r sp n ++ lis1 F B r sp n := by
  unfold lisN
  rw [List.range_succ, List.flatMap_append]
  simp
theorem lisA_succ (F B : List (List Id)) (r : Int) (n : Nat) : lisA F B r (n + 1) = lisA F B r n ++ lisN F B r (-12 + 2 * (n : Int)) 80 := by
  unfold lisA
  rw [List.range_succ, List.flatMap_append]
  simp
theorem lis1_len {F B : List (List Id)} (h : ∀ n, (atL F B n).length ≤ 4) (r sp : Int) (i : Nat) : (lis1 F B r sp i).length ≤ 4 := by
  unfold lis1
  split
  · rw [List.length_map]; exact h _
  · simp
theorem lisN_len {F B : List (List Id)} (h : ∀ n, (atL F B n).length ≤ 4) (r sp : Int) : ∀ n, (lisN F B r sp n).length ≤ 4 * n
  | 0 => by simp [lisN]
  | n + 1 => by
    have h1 := lisN_len h r sp n
    have h2 := lis1_len h r sp n
    rw [lisN_succ, List.length_append]
    omega
theorem lisA_len {F B : List (List Id)} (h : ∀ n, (atL F B n).length ≤ 4) (r : Int) : ∀ n, (lisA F B r n).length ≤ 320 * n
  | 0 => by simp [lisA]
  | n + 1 => by
    have h1 := lisA_len h r n
    have h2 := lisN_len h r (-12 + 2 * (n : Int)) 80
    rw [lisA_succ, List.length_append]
    omega
theorem heldN_more {bd r : Int} {G : List (List Id)} {n : Nat} (h : G.length ≤ n) : heldN bd r G n = heldN bd r G G.length := by
  induction n with
  | zero => rw [show G.length = 0 by omega]
  | succ n ih =>
    by_cases he : G.length = n + 1
    · rw [he]
    · have hg : G.getD n [] = [] := by rw [List.getD_eq_getElem?_getD, List.getElem?_eq_none (by omega)]; rfl
      rw [heldN_succ, ih (by omega), hg]
      simp [held1]
theorem held1_flt (bd r s : Int) (i : Nat) (l : List Id) : (held1 bd r i l).filter (fun x => decide (x.spot = s)) = if spotL ⟨bd, ((i + 1 : Nat) : Int)⟩ r = s then l.map (fun p => (⟨p, bd, ((i + 1 : Nat) : Int), s⟩ : Hd)) else [] := by
  unfold held1
  rw [List.filter_map]
  split
  · rename_i h
    rw [show (List.filter ((fun x : Hd => decide (x.spot = s)) ∘ fun p => (⟨p, bd, ((i + 1 : Nat) : Int), spotL ⟨bd, ((i + 1 : Nat) : Int)⟩ r⟩ : Hd)) l) = l from List.filter_eq_self.2 fun p _ => decide_eq_true h, h]
  · rename_i h
    rw [show (List.filter ((fun x : Hd => decide (x.spot = s)) ∘ fun p => (⟨p, bd, ((i + 1 : Nat) : Int), spotL ⟨bd, ((i + 1 : Nat) : Int)⟩ r⟩ : Hd)) l) = [] from List.filter_eq_nil_iff.2 fun p _ => by show ¬ decide (spotL ⟨bd, ((i + 1 : Nat) : Int)⟩ r = s) = true; rw [decide_eq_true_eq]; exact h]
    rfl
theorem fm_congr {α β : Type} {l : List α} {f g : α → List β} (h : ∀ a ∈ l, f a = g a) : l.flatMap f = l.flatMap g := by
  induction l with
  | nil => rfl
  | cons a l ih => rw [List.flatMap_cons, List.flatMap_cons, h a List.mem_cons_self, ih fun b hb => h b (List.mem_cons_of_mem _ hb)]
theorem heldN_flt (bd r s : Int) (G : List (List Id)) (n : Nat) : (heldN bd r G n).filter (fun x => decide (x.spot = s)) = (List.range n).flatMap fun i => if spotL ⟨bd, ((i + 1 : Nat) : Int)⟩ r = s then (G.getD i []).map (fun p => (⟨p, bd, ((i + 1 : Nat) : Int), s⟩ : Hd)) else [] := by
  unfold heldN
  rw [List.filter_flatMap]
  exact fm_congr fun i _ => held1_flt bd r s i _
theorem needle_lo' {i : Nat} (hi : i < 40) : needleL i = ⟨0, ((i + 1 : Nat) : Int)⟩ := by
  unfold needleL
  congr 1 <;> omega
theorem needle_hi' {i : Nat} (hi : i < 40) : needleL (40 + i) = ⟨1, ((i + 1 : Nat) : Int)⟩ := by
  unfold needleL
  congr 1 <;> omega
theorem held_lis {F B : List (List Id)} (hF : F.length ≤ 40) (hB : B.length ≤ 40) (r s : Int) : (heldT F B r 2).filter (fun x => decide (x.spot = s)) = lisN F B r s 80 := by
  show ((heldN 0 r F F.length ++ heldN 1 r B B.length).filter _) = _
  rw [← heldN_more (n := 40) hF, ← heldN_more (n := 40) hB, List.filter_append, heldN_flt, heldN_flt]
  unfold lisN
  rw [show (80 : Nat) = 40 + 40 from rfl, List.range_add, List.flatMap_append, List.flatMap_map]
  have e0 : ∀ (A B C D : List Hd), A = C → B = D → A ++ B = C ++ D := fun A B C D h1 h2 => by rw [h1, h2]
  refine e0 _ _ _ _ (fm_congr fun i hi => ?_) (fm_congr fun i hi => ?_)
  · have hi' := List.mem_range.1 hi
    have ha := at_needle F B i (by omega)
    rw [if_pos hi'] at ha
    unfold lis1
    rw [ha, needle_lo' hi']
  · have hi' := List.mem_range.1 hi
    have ha := at_needle F B (40 + i) (by omega)
    rw [if_neg (by omega), show 40 + i - 40 = i by omega] at ha
    unfold lis1
    rw [ha, needle_hi' hi']
theorem list_listed {F B : List (List Id)} (hF : F.length ≤ 40) (hB : B.length ≤ 40) (r : Int) : bySpot (heldT F B r 2) = lisA F B r 95 := by
  unfold bySpot lisA
  exact fm_congr fun a _ => held_lis hF hB r _
end Go.Proofs.Ytembkknplmcamaa

namespace Go.Proofs.Ytembkknplmcamaa
open Go.Ab
attribute [local irreducible] WeakR WeakE CallA YieldA

/-! The walk of listed. -/
def e10a (q2 : Nat) (r sp : Int) (s : AV) : Env := (((Env.upd (fun _ => .junk) 6 (.val (.int .i64 sp))).upd 5 s).upd 2 (.optr q2 2 0 0)).upd 1 (.val (.int .i64 r))
def e10b (q2 : Nat) (r sp : Int) (s : AV) (i : Nat) : Env := ((((Env.upd (fun _ => .junk) 7 (.val (.int .i64 i))).upd 6 (.val (.int .i64 sp))).upd 5 s).upd 2 (.optr q2 2 0 0)).upd 1 (.val (.int .i64 r))
def e10c (q2 : Nat) (r sp : Int) (s : AV) (i q8 : Nat) (Y : AV) (k : Nat) : Env := (((((((Env.upd (fun _ => .junk) 10 (.val (.int .i64 k))).upd 9 Y).upd 8 (.optr q8 2 0 0)).upd 7 (.val (.int .i64 i))).upd 6 (.val (.int .i64 sp))).upd 5 s).upd 2 (.optr q2 2 0 0)).upd 1 (.val (.int .i64 r))

set_option maxHeartbeats 8000000 in
theorem listed_ok {x : AV} {F B : List (List Id)} (h : IsBeds x F B) (hm4 : ∀ n, (atL F B n).length ≤ 4) (r : Int) (hr : rackOK r = true) :
    PureA Try.prog 10 [x, .val (.int .i64 r)] (frA 5 ((lisA F B r 95).map Hd.av)) := by
  have hat := fun n => h.at_ n
  obtain ⟨f, b, rfl, c1, c2, s1, s2, _, _⟩ := h.cells
  clear h
  replace hat := (show Aside _ from hat)
  replace hm4 := (show Aside _ from hm4)
  replace hr := (show Aside _ from hr)
  intro O
  refine k10.call mix ?_
  unfold c10
  (repeat' first
    | simp (contextual := true) (maxSteps := 4000000) only [fwc, fwe, fww, reduceIte, ↓reduceIte, Nat.reduceAdd, Nat.reduceLeDiff, Nat.reduceEqDiff, Nat.reduceLT, Nat.reduceSub, reduceCtorEq, Int.reduceEq, Int.reduceLT, Int.reduceLE, Int.reduceNeg, Int.reduceToNat, Int.reduceAdd, Int.reduceSub, Nat.reduceMul, part_cell, part_agg, *]
    | (refine retK_now ?_)
    | (refine retK_now' ?_)
    | (intro q hq)
    | (refine cond_intro (fun hc => ?_) (fun hc => ?_)))
  revert q
  intro q2 hq2
  refine seqK_now ?_
  (repeat' first
    | simp (contextual := true) (maxSteps := 4000000) only [fwc, fwe, fww, reduceIte, ↓reduceIte, Nat.reduceAdd, Nat.reduceLeDiff, Nat.reduceEqDiff, Nat.reduceLT, Nat.reduceSub, reduceCtorEq, Int.reduceEq, Int.reduceLT, Int.reduceLE, Int.reduceNeg, Int.reduceToNat, Int.reduceAdd, Int.reduceSub, Nat.reduceMul, *]
    | (refine retK_now ?_)
    | (refine retK_now' ?_)
    | (intro q hq)
    | (refine cond_intro (fun hc => ?_) (fun hc => ?_)))
  refine seqK_now ?_
  (repeat' first
    | simp (contextual := true) (maxSteps := 4000000) only [fwc, fwe, fww, reduceIte, ↓reduceIte, Nat.reduceAdd, Nat.reduceLeDiff, Nat.reduceEqDiff, Nat.reduceLT, Nat.reduceSub, reduceCtorEq, Int.reduceEq, Int.reduceLT, Int.reduceLE, Int.reduceNeg, Int.reduceToNat, Int.reduceAdd, Int.reduceSub, Nat.reduceMul, *]
    | (refine retK_now ?_)
    | (refine retK_now' ?_)
    | (intro q hq)
    | (refine cond_intro (fun hc => ?_) (fun hc => ?_)))
  refine seqK_now ?_
  obtain ⟨I, hI⟩ := hideI (fun m e O' => ∃ (a : Nat) (s : AV) (O0 : Heap), a ≤ 95 ∧ m = 95 - a ∧ O.sub O0 ∧ O0 q2 = some (.arr 26 2 [.agg [f, b]]) ∧ OwN 40 5 O0 O' s ((lisA F B r a).map Hd.av) ∧ e = e10a q2 r (-12 + 2 * (a : Int)) s)
  (repeat' first
    | simp (contextual := true) (maxSteps := 4000000) only [fwc, fwe, fww, reduceIte, ↓reduceIte, Nat.reduceAdd, Nat.reduceLeDiff, Nat.reduceEqDiff, Nat.reduceLT, Nat.reduceSub, reduceCtorEq, Int.reduceEq, Int.reduceLT, Int.reduceLE, Int.reduceNeg, Int.reduceToNat, Int.reduceAdd, Int.reduceSub, Nat.reduceMul, *]
    | (refine retK_now ?_)
    | (refine retK_now' ?_)
    | (intro q hq)
    | (refine cond_intro (fun hc => ?_) (fun hc => ?_)))
  refine cmd_loop I 95 (by
    rw [hI.out]
    exact ⟨0, _, _, by omega, rfl, sub_upd hq2 (Heap.sub_refl _), Heap.upd_same _ _ _, OwN.nil, rfl⟩) ?_
  clear hq2
  intro m e O' hh
  rw [hI.out] at hh
  obtain ⟨a, s, O0, ha95, rfl, hO0, h02, hs, rfl⟩ := hh
  unfold e10a
  have sc := hs.cells
  have sst := hs.stor
  replace hO0 := (show Aside _ from hO0)
  replace h02 := (show Aside _ from h02)
  replace hs := (show Aside _ from hs)
  have hsuc := lisA_succ F B r a
  have hAl := lisA_len hm4.out r a
  have hsp' : (-12 + 2 * ((a + 1 : Nat) : Int)) = -12 + 2 * (a : Int) + 2 := by omega
  obtain ⟨sp, hsp⟩ : ∃ sp, -12 + 2 * (a : Int) = sp := ⟨_, rfl⟩
  rw [hsp] at hsuc hsp' ⊢
  have dle : decide (sp ≤ 176) = decide (a < 95) := decide_eq_decide.2 (by omega)
  have wsp : IntKind.i64.wrap (sp + 2) = -12 + 2 * ((a + 1 : Nat) : Int) := by rw [wrap_i64 (by omega) (by omega)]; omega
  replace hsuc := (show Aside _ from hsuc)
  replace hAl := (show Aside _ from hAl)
  replace hsp := (show Aside _ from hsp)
  replace hsp' := (show Aside _ from hsp')
  by_cases ha : a < 95
  rotate_left
  · have e0 : decide (a < 95) = false := decide_eq_false ha
    have hae : a = 95 := by omega
    replace ha := (show Aside _ from ha)
    rw [hae] at hs
    replace hae := (show Aside _ from hae)
    (repeat' first
    | simp (contextual := true) (maxSteps := 4000000) only [fwc, fwe, fww, reduceIte, ↓reduceIte, Nat.reduceAdd, Nat.reduceLeDiff, Nat.reduceEqDiff, Nat.reduceLT, Nat.reduceSub, reduceCtorEq, Int.reduceEq, Int.reduceLT, Int.reduceLE, Int.reduceNeg, Int.reduceToNat, Int.reduceAdd, Int.reduceSub, Nat.reduceMul, *]
    | (refine seqK_now ?_)
    | (refine retK_now ?_)
    | (refine retK_now' ?_)
    | (intro q hq)
    | (refine cond_intro (fun hc => ?_) (fun hc => ?_)))
    exact OwN.pure hs.out hO0.out rfl
  have e0 : decide (a < 95) = true := decide_eq_true ha
  replace ha := (show Aside _ from ha)
  (repeat' first
    | simp (contextual := true) (maxSteps := 4000000) only [fwc, fwe, fww, reduceIte, ↓reduceIte, Nat.reduceAdd, Nat.reduceLeDiff, Nat.reduceEqDiff, Nat.reduceLT, Nat.reduceSub, reduceCtorEq, Int.reduceEq, Int.reduceLT, Int.reduceLE, Int.reduceNeg, Int.reduceToNat, Int.reduceAdd, Int.reduceSub, Nat.reduceMul, *]
    | (refine retK_now ?_)
    | (refine retK_now' ?_)
    | (intro q hq)
    | (refine cond_intro (fun hc => ?_) (fun hc => ?_)))
  refine seqK_now ?_
  (repeat' first
    | simp (contextual := true) (maxSteps := 4000000) only [fwc, fwe, fww, reduceIte, ↓reduceIte, Nat.reduceAdd, Nat.reduceLeDiff, Nat.reduceEqDiff, Nat.reduceLT, Nat.reduceSub, reduceCtorEq, Int.reduceEq, Int.reduceLT, Int.reduceLE, Int.reduceNeg, Int.reduceToNat, Int.reduceAdd, Int.reduceSub, Nat.reduceMul, *]
    | (refine retK_now ?_)
    | (refine retK_now' ?_)
    | (intro q hq)
    | (refine cond_intro (fun hc => ?_) (fun hc => ?_)))
  refine seqK_now ?_
  (repeat' first
    | simp (contextual := true) (maxSteps := 4000000) only [fwc, fwe, fww, reduceIte, ↓reduceIte, Nat.reduceAdd, Nat.reduceLeDiff, Nat.reduceEqDiff, Nat.reduceLT, Nat.reduceSub, reduceCtorEq, Int.reduceEq, Int.reduceLT, Int.reduceLE, Int.reduceNeg, Int.reduceToNat, Int.reduceAdd, Int.reduceSub, Nat.reduceMul, *]
    | (refine retK_now ?_)
    | (refine retK_now' ?_)
    | (intro q hq)
    | (refine cond_intro (fun hc => ?_) (fun hc => ?_)))
  refine seqK_now ?_
  obtain ⟨J, hJ⟩ := hideI (fun m e O' => ∃ (i : Nat) (s : AV) (O0 : Heap), i ≤ 80 ∧ m = 80 - i ∧ O.sub O0 ∧ O0 q2 = some (.arr 26 2 [.agg [f, b]]) ∧ OwN 40 5 O0 O' s ((lisA F B r a ++ lisN F B r sp i).map Hd.av) ∧ e = e10b q2 r sp s i)
  (repeat' first
    | simp (contextual := true) (maxSteps := 4000000) only [fwc, fwe, fww, reduceIte, ↓reduceIte, Nat.reduceAdd, Nat.reduceLeDiff, Nat.reduceEqDiff, Nat.reduceLT, Nat.reduceSub, reduceCtorEq, Int.reduceEq, Int.reduceLT, Int.reduceLE, Int.reduceNeg, Int.reduceToNat, Int.reduceAdd, Int.reduceSub, Nat.reduceMul, *]
    | (refine retK_now ?_)
    | (refine retK_now' ?_)
    | (intro q hq)
    | (refine cond_intro (fun hc => ?_) (fun hc => ?_)))
  refine cmd_loop J 80 (by
    rw [hJ.out]
    exact ⟨0, s, O0, by omega, rfl, hO0.out, h02.out, by rw [show lisN F B r sp 0 = [] from rfl, List.append_nil]; exact hs.out, rfl⟩) ?_
  clear hs hO0 h02 sc sst O0 s
  intro m e O1 hh
  rw [hJ.out] at hh
  obtain ⟨i, s, O0, hi80, rfl, hO0, h02, hs, rfl⟩ := hh
  unfold e10b
  have f2 := hs.at_ h02
  have sc := hs.cells
  have sst := hs.stor
  replace hO0 := (show Aside _ from hO0)
  replace h02 := (show Aside _ from h02)
  replace hs := (show Aside _ from hs)
  have di : decide ((i : Int) < 80) = decide (i < 80) := decide_eq_decide.2 (by omega)
  by_cases hi : i < 80
  rotate_left
  · have e1 : decide (i < 80) = false := decide_eq_false hi
    have hie : i = 80 := by omega
    rw [hie, ← hsuc.out] at hs
    replace hi := (show Aside _ from hi)
    replace hie := (show Aside _ from hie)
    replace hi80 := (show Aside _ from hi80)
    (repeat' first
    | simp (contextual := true) (maxSteps := 4000000) only [fwc, fwe, fww, reduceIte, ↓reduceIte, Nat.reduceAdd, Nat.reduceLeDiff, Nat.reduceEqDiff, Nat.reduceLT, Nat.reduceSub, reduceCtorEq, Int.reduceEq, Int.reduceLT, Int.reduceLE, Int.reduceNeg, Int.reduceToNat, Int.reduceAdd, Int.reduceSub, Nat.reduceMul, *]
    | (refine seqK_now ?_)
    | (refine retK_now ?_)
    | (refine retK_now' ?_)
    | (intro q hq)
    | (refine cond_intro (fun hc => ?_) (fun hc => ?_)))
    refine loopK_now (95 - (a + 1)) (by have := ha.out; omega) ?_
    rw [hI.out]
    exact ⟨a + 1, s, O0, by have := ha.out; omega, rfl, hO0.out, h02.out, hs.out, rfl⟩
  have e1 : decide (i < 80) = true := decide_eq_true hi
  have hwi : i < 4611686018427387904 := by omega
  have hwu : IntKind.u8.wrap (i : Int) = (i : Int) := wrap_u8n (by omega)
  have hNe := Needle_ok i (by omega)
  have hgood := (needleL_ok i).1
  have hNsuc := lisN_succ F B r sp i
  have hNl := lisN_len hm4.out r sp i
  have hl1 : lis1 F B r sp i = if spotL (needleL i) r = sp then (atL F B (needleL i)).map fun p => (⟨p, (needleL i).bed, (needleL i).at_, sp⟩ : Hd) else [] := rfl
  generalize needleL i = W at *
  have hSp := Spot_ok W r
  rw [if_neg (by rw [hgood, hr.out]; simp)] at hSp
  obtain ⟨ra, hra, hraT⟩ := hat.out W
  have hl4 := hm4.out W
  rw [show W.av = .agg [.val (.int .u8 W.bed), .val (.int .i64 W.at_)] from rfl] at hNe hSp hra
  have rc := hraT.isL.cells
  have rs := hraT.isL.stor
  have rl := hraT.isL.len
  rw [List.length_map] at rl
  have hbase : (lisA F B r a ++ lisN F B r sp i).length ≤ 40000 := by rw [List.length_append]; have := hAl.out; have := ha.out; omega
  have hnx : lisA F B r a ++ lisN F B r sp (i + 1) = (lisA F B r a ++ lisN F B r sp i) ++ lis1 F B r sp i := by rw [hNsuc, List.append_assoc]
  generalize lisA F B r a ++ lisN F B r sp i = base at *
  generalize spotL W r = ss at *
  generalize atL F B W = AL at *
  generalize lis1 F B r sp i = l1 at *
  clear hNsuc hNl
  replace hi := (show Aside _ from hi)
  replace hi80 := (show Aside _ from hi80)
  replace hgood := (show Aside _ from hgood)
  replace hl1 := (show Aside _ from hl1)
  replace hraT := (show Aside _ from hraT)
  replace hl4 := (show Aside _ from hl4)
  replace hbase := (show Aside _ from hbase)
  replace hnx := (show Aside _ from hnx)
  (repeat' first
    | simp (contextual := true) (maxSteps := 4000000) only [fwc, fwe, fww, reduceIte, ↓reduceIte, Nat.reduceAdd, Nat.reduceLeDiff, Nat.reduceEqDiff, Nat.reduceLT, Nat.reduceSub, reduceCtorEq, Int.reduceEq, Int.reduceLT, Int.reduceLE, Int.reduceNeg, Int.reduceToNat, Int.reduceAdd, Int.reduceSub, Nat.reduceMul, *]
    | (refine retK_now ?_)
    | (refine retK_now' ?_)
    | (intro q hq)
    | (refine cond_intro (fun hc => ?_) (fun hc => ?_)))
  refine seqK_now ?_
  (repeat' first
    | simp (contextual := true) (maxSteps := 4000000) only [fwc, fwe, fww, reduceIte, ↓reduceIte, Nat.reduceAdd, Nat.reduceLeDiff, Nat.reduceEqDiff, Nat.reduceLT, Nat.reduceSub, reduceCtorEq, Int.reduceEq, Int.reduceLT, Int.reduceLE, Int.reduceNeg, Int.reduceToNat, Int.reduceAdd, Int.reduceSub, Nat.reduceMul, *]
    | (refine retK_now ?_)
    | (refine retK_now' ?_)
    | (intro q hq)
    | (refine cond_intro (fun hc => ?_) (fun hc => ?_)))
  refine seqK_now ?_
  (repeat' first
    | simp (contextual := true) (maxSteps := 4000000) only [fwc, fwe, fww, reduceIte, ↓reduceIte, Nat.reduceAdd, Nat.reduceLeDiff, Nat.reduceEqDiff, Nat.reduceLT, Nat.reduceSub, reduceCtorEq, Int.reduceEq, Int.reduceLT, Int.reduceLE, Int.reduceNeg, Int.reduceToNat, Int.reduceAdd, Int.reduceSub, Nat.reduceMul, part_cell, part_agg, *]
    | (refine retK_now ?_)
    | (refine retK_now' ?_)
    | (intro q hq)
    | (refine cond_intro (fun hc => ?_) (fun hc => ?_)))
  refine hNe.use ?_
  (repeat' first
    | simp (contextual := true) (maxSteps := 4000000) only [fwc, fwe, fww, reduceIte, ↓reduceIte, Nat.reduceAdd, Nat.reduceLeDiff, Nat.reduceEqDiff, Nat.reduceLT, Nat.reduceSub, reduceCtorEq, Int.reduceEq, Int.reduceLT, Int.reduceLE, Int.reduceNeg, Int.reduceToNat, Int.reduceAdd, Int.reduceSub, Nat.reduceMul, part_cell, part_agg, *]
    | (refine retK_now ?_)
    | (refine retK_now' ?_)
    | (intro q hq)
    | (refine cond_intro (fun hc => ?_) (fun hc => ?_)))
  revert q
  intro q8 hq8
  refine seqK_now ?_
  have o8 := own_none hs.out hq8
  have sub8 := sub_new hO0.out o8 (v := .arr 38 2 [.agg [.val (.int .u8 W.bed), .val (.int .i64 W.at_)]])
  have own8 := own_new hs.out (x := .arr 38 2 [.agg [.val (.int .u8 W.bed), .val (.int .i64 W.at_)]]) hq8
  have w8 : (O0.upd q8 (.arr 38 2 [.agg [.val (.int .u8 W.bed), .val (.int .i64 W.at_)]])) q8 = some (.arr 38 2 [.agg [.val (.int .u8 W.bed), .val (.int .i64 W.at_)]]) := Heap.upd_same _ _ _
  have h28 := upd_keep (v := .arr 38 2 [.agg [.val (.int .u8 W.bed), .val (.int .i64 W.at_)]]) o8 h02.out
  have n28 := ne_of f2 hq8
  replace sub8 := (show Aside _ from sub8)
  replace own8 := (show Aside _ from own8)
  replace w8 := (show Aside _ from w8)
  replace o8 := (show Aside _ from o8)
  replace h28 := (show Aside _ from h28)
  (repeat' first
    | simp (contextual := true) (maxSteps := 4000000) only [fwc, fwe, fww, reduceIte, ↓reduceIte, Nat.reduceAdd, Nat.reduceLeDiff, Nat.reduceEqDiff, Nat.reduceLT, Nat.reduceSub, reduceCtorEq, Int.reduceEq, Int.reduceLT, Int.reduceLE, Int.reduceNeg, Int.reduceToNat, Int.reduceAdd, Int.reduceSub, Nat.reduceMul, part_cell, part_agg, *]
    | (refine retK_now ?_)
    | (refine retK_now' ?_)
    | (intro q hq)
    | (refine cond_intro (fun hc => ?_) (fun hc => ?_)))
  refine hSp.use ?_
  (repeat' first
    | simp (contextual := true) (maxSteps := 4000000) only [fwc, fwe, fww, reduceIte, ↓reduceIte, Nat.reduceAdd, Nat.reduceLeDiff, Nat.reduceEqDiff, Nat.reduceLT, Nat.reduceSub, reduceCtorEq, Int.reduceEq, Int.reduceLT, Int.reduceLE, Int.reduceNeg, Int.reduceToNat, Int.reduceAdd, Int.reduceSub, Nat.reduceMul, part_cell, part_agg, *]
    | (refine retK_now ?_)
    | (refine retK_now' ?_)
    | (intro q hq)
    | (refine cond_intro (fun hc => ?_) (fun hc => ?_)))
  refine seqK_now ?_
  by_cases hss : ss = sp
  rotate_left
  · have e2 : decide (ss = sp) = false := decide_eq_false hss
    have hnil : l1 = [] := by rw [hl1.out, if_neg hss]
    rw [hnil, List.append_nil] at hnx
    replace hss := (show Aside _ from hss)
    replace hnil := (show Aside _ from hnil)
    (repeat' first
    | simp (contextual := true) (maxSteps := 4000000) only [fwc, fwe, fww, reduceIte, ↓reduceIte, Nat.reduceAdd, Nat.reduceLeDiff, Nat.reduceEqDiff, Nat.reduceLT, Nat.reduceSub, reduceCtorEq, Int.reduceEq, Int.reduceLT, Int.reduceLE, Int.reduceNeg, Int.reduceToNat, Int.reduceAdd, Int.reduceSub, Nat.reduceMul, part_cell, part_agg, wrap_succ, *]
    | (refine seqK_now ?_)
    | (refine retK_now ?_)
    | (refine retK_now' ?_)
    | (intro q hq)
    | (refine cond_intro (fun hc => ?_) (fun hc => ?_)))
    refine loopK_now (80 - (i + 1)) (by have := hi.out; omega) ?_
    rw [hJ.out]
    exact ⟨i + 1, s, _, by have := hi.out; omega, rfl, sub8.out, h28.out, by rw [hnx.out]; exact own8.out, rfl⟩
  have e2 : decide (ss = sp) = true := decide_eq_true hss
  rw [hl1.out, if_pos hss] at hnx
  replace hss := (show Aside _ from hss)
  (repeat' first
    | simp (contextual := true) (maxSteps := 4000000) only [fwc, fwe, fww, reduceIte, ↓reduceIte, Nat.reduceAdd, Nat.reduceLeDiff, Nat.reduceEqDiff, Nat.reduceLT, Nat.reduceSub, reduceCtorEq, Int.reduceEq, Int.reduceLT, Int.reduceLE, Int.reduceNeg, Int.reduceToNat, Int.reduceAdd, Int.reduceSub, Nat.reduceMul, part_cell, part_agg, *]
    | (refine retK_now ?_)
    | (refine retK_now' ?_)
    | (intro q hq)
    | (refine cond_intro (fun hc => ?_) (fun hc => ?_)))
  refine seqK_now ?_
  (repeat' first
    | simp (contextual := true) (maxSteps := 4000000) only [fwc, fwe, fww, reduceIte, ↓reduceIte, Nat.reduceAdd, Nat.reduceLeDiff, Nat.reduceEqDiff, Nat.reduceLT, Nat.reduceSub, reduceCtorEq, Int.reduceEq, Int.reduceLT, Int.reduceLE, Int.reduceNeg, Int.reduceToNat, Int.reduceAdd, Int.reduceSub, Nat.reduceMul, part_cell, part_agg, *]
    | (refine retK_now ?_)
    | (refine retK_now' ?_)
    | (intro q hq)
    | (refine cond_intro (fun hc => ?_) (fun hc => ?_)))
  refine hra.use ?_
  (repeat' first
    | simp (contextual := true) (maxSteps := 4000000) only [fwc, fwe, fww, reduceIte, ↓reduceIte, Nat.reduceAdd, Nat.reduceLeDiff, Nat.reduceEqDiff, Nat.reduceLT, Nat.reduceSub, reduceCtorEq, Int.reduceEq, Int.reduceLT, Int.reduceLE, Int.reduceNeg, Int.reduceToNat, Int.reduceAdd, Int.reduceSub, Nat.reduceMul, part_cell, part_agg, *]
    | (refine retK_now ?_)
    | (refine retK_now' ?_)
    | (intro q hq)
    | (refine cond_intro (fun hc => ?_) (fun hc => ?_)))
  refine seqK_now ?_
  (repeat' first
    | simp (contextual := true) (maxSteps := 4000000) only [fwc, fwe, fww, reduceIte, ↓reduceIte, Nat.reduceAdd, Nat.reduceLeDiff, Nat.reduceEqDiff, Nat.reduceLT, Nat.reduceSub, reduceCtorEq, Int.reduceEq, Int.reduceLT, Int.reduceLE, Int.reduceNeg, Int.reduceToNat, Int.reduceAdd, Int.reduceSub, Nat.reduceMul, part_cell, part_agg, *]
    | (refine retK_now ?_)
    | (refine retK_now' ?_)
    | (intro q hq)
    | (refine cond_intro (fun hc => ?_) (fun hc => ?_)))
  refine seqK_now ?_
  obtain ⟨T, hT⟩ := hideI (fun m e O' => ∃ (k : Nat) (s : AV) (O2 : Heap), k ≤ AL.length ∧ m = AL.length - k ∧ O.sub O2 ∧ O2 q2 = some (.arr 26 2 [.agg [f, b]]) ∧ O2 q8 = some (.arr 38 2 [.agg [.val (.int .u8 W.bed), .val (.int .i64 W.at_)]]) ∧ OwN 40 5 O2 O' s ((base ++ (AL.take k).map fun p => (⟨p, W.bed, W.at_, sp⟩ : Hd)).map Hd.av) ∧ e = e10c q2 r sp s i q8 ra k)
  (repeat' first
    | simp (contextual := true) (maxSteps := 4000000) only [fwc, fwe, fww, reduceIte, ↓reduceIte, Nat.reduceAdd, Nat.reduceLeDiff, Nat.reduceEqDiff, Nat.reduceLT, Nat.reduceSub, reduceCtorEq, Int.reduceEq, Int.reduceLT, Int.reduceLE, Int.reduceNeg, Int.reduceToNat, Int.reduceAdd, Int.reduceSub, Nat.reduceMul, *]
    | (refine retK_now ?_)
    | (refine retK_now' ?_)
    | (intro q hq)
    | (refine cond_intro (fun hc => ?_) (fun hc => ?_)))
  refine cmd_loop T AL.length (by
    rw [hT.out]
    exact ⟨0, s, _, Nat.zero_le _, rfl, sub8.out, h28.out, w8.out, by rw [List.take_zero, List.map_nil, List.append_nil]; exact own8.out, rfl⟩) ?_
  clear hs own8 w8 sub8 hq8 o8 h28 hO0 h02 f2 sc sst n28
  intro m e O2 hh
  rw [hT.out] at hh
  obtain ⟨k, s3, O4, hk4, rfl, hO4, h24, hw4, hs3, rfl⟩ := hh
  unfold e10c
  have f2 := hs3.at_ h24
  have f8 := hs3.at_ hw4
  have sc := hs3.cells
  have sst := hs3.stor
  replace hO4 := (show Aside _ from hO4)
  replace h24 := (show Aside _ from h24)
  replace hw4 := (show Aside _ from hw4)
  replace hs3 := (show Aside _ from hs3)
  by_cases hk : k < AL.length
  rotate_left
  · have e3 : decide (k < AL.length) = false := decide_eq_false hk
    have hke : k = AL.length := by omega
    replace hk := (show Aside _ from hk)
    rw [hke, List.take_length] at hs3
    replace hke := (show Aside _ from hke)
    replace hk4 := (show Aside _ from hk4)
    (repeat' first
    | simp (contextual := true) (maxSteps := 4000000) only [fwc, fwe, fww, reduceIte, ↓reduceIte, Nat.reduceAdd, Nat.reduceLeDiff, Nat.reduceEqDiff, Nat.reduceLT, Nat.reduceSub, reduceCtorEq, Int.reduceEq, Int.reduceLT, Int.reduceLE, Int.reduceNeg, Int.reduceToNat, Int.reduceAdd, Int.reduceSub, Nat.reduceMul, ilt_nat, part_cell, part_agg, wrap_succ, *]
    | (refine seqK_now ?_)
    | (refine retK_now ?_)
    | (refine retK_now' ?_)
    | (intro q hq)
    | (refine cond_intro (fun hc => ?_) (fun hc => ?_)))
    refine loopK_now (80 - (i + 1)) (by have := hi.out; omega) ?_
    rw [hJ.out]
    exact ⟨i + 1, s3, O4, by have := hi.out; omega, rfl, hO4.out, h24.out, by rw [hnx.out]; exact hs3.out, rfl⟩
  have e3 : decide (k < AL.length) = true := decide_eq_true hk
  have hwk : k < 4611686018427387904 := by have := hl4.out; omega
  have hia2 := IsL.ia (IsT.isL hraT.out) (i := k) (by rw [List.length_map]; exact hk)
  rw [List.getElem_map] at hia2
  have htk : (AL.take (k + 1)).map (fun p => (⟨p, W.bed, W.at_, sp⟩ : Hd)) = (AL.take k).map (fun p => (⟨p, W.bed, W.at_, sp⟩ : Hd)) ++ [⟨AL[k], W.bed, W.at_, sp⟩] := by
    rw [List.take_add_one, List.getElem?_eq_getElem hk, List.map_append]
    rfl
  have htl : ((AL.take k).map (fun p => (⟨p, W.bed, W.at_, sp⟩ : Hd))).length ≤ 4 := by
    have := List.length_take_le k AL
    have := hl4.out
    rw [List.length_map]
    omega
  generalize AL[k] = y at *
  rw [show y.av = .agg [.val (.int .u8 y.y), .val (.int .i64 y.n)] from rfl] at hia2
  replace hk := (show Aside _ from hk)
  replace hk4 := (show Aside _ from hk4)
  replace htk := (show Aside _ from htk)
  replace htl := (show Aside _ from htl)
  (repeat' first
    | simp (contextual := true) (maxSteps := 4000000) only [fwc, fwe, fww, reduceIte, ↓reduceIte, Nat.reduceAdd, Nat.reduceLeDiff, Nat.reduceEqDiff, Nat.reduceLT, Nat.reduceSub, reduceCtorEq, Int.reduceEq, Int.reduceLT, Int.reduceLE, Int.reduceNeg, Int.reduceToNat, Int.reduceAdd, Int.reduceSub, Nat.reduceMul, ilt_nat, part_cell, part_agg, *]
    | (refine retK_now ?_)
    | (refine retK_now' ?_)
    | (intro q hq)
    | (refine cond_intro (fun hc => ?_) (fun hc => ?_)))
  refine seqK_now ?_
  (repeat' first
    | simp (contextual := true) (maxSteps := 4000000) only [fwc, fwe, fww, reduceIte, ↓reduceIte, Nat.reduceAdd, Nat.reduceLeDiff, Nat.reduceEqDiff, Nat.reduceLT, Nat.reduceSub, reduceCtorEq, Int.reduceEq, Int.reduceLT, Int.reduceLE, Int.reduceNeg, Int.reduceToNat, Int.reduceAdd, Int.reduceSub, Nat.reduceMul, ilt_nat, part_cell, part_agg, *]
    | (refine retK_now ?_)
    | (refine retK_now' ?_)
    | (intro q hq)
    | (refine cond_intro (fun hc => ?_) (fun hc => ?_)))
  refine seqK_now ?_
  (repeat' first
    | simp (contextual := true) (maxSteps := 4000000) only [fwc, fwe, fww, reduceIte, ↓reduceIte, Nat.reduceAdd, Nat.reduceLeDiff, Nat.reduceEqDiff, Nat.reduceLT, Nat.reduceSub, reduceCtorEq, Int.reduceEq, Int.reduceLT, Int.reduceLE, Int.reduceNeg, Int.reduceToNat, Int.reduceAdd, Int.reduceSub, Nat.reduceMul, ilt_nat, part_cell, part_agg, *]
    | (refine retK_now ?_)
    | (refine retK_now' ?_)
    | (intro q hq)
    | (refine cond_intro (fun hc => ?_) (fun hc => ?_)))
  refine own_app (bytes := 40) hs3.out (X := [Hd.av ⟨y, W.bed, W.at_, sp⟩]) (.inr ⟨true, rfl⟩) (fits_of (by have := hbase.out; have := htl.out; simp only [List.length_append, List.length_map, List.length_cons, List.length_nil] at this ⊢; omega) (by omega)) fun s5 O5 h5 => ?_
  have sc5 := h5.cells
  have sst5 := h5.stor
  replace h5 := (show Aside _ from h5)
  (repeat' first
    | simp (contextual := true) (maxSteps := 4000000) only [fwc, fwe, fww, reduceIte, ↓reduceIte, Nat.reduceAdd, Nat.reduceLeDiff, Nat.reduceEqDiff, Nat.reduceLT, Nat.reduceSub, reduceCtorEq, Int.reduceEq, Int.reduceLT, Int.reduceLE, Int.reduceNeg, Int.reduceToNat, Int.reduceAdd, Int.reduceSub, Nat.reduceMul, ilt_nat, part_cell, part_agg, wrap_succ, *]
    | (refine seqK_now ?_)
    | (refine retK_now ?_)
    | (refine retK_now' ?_)
    | (intro q hq)
    | (refine cond_intro (fun hc => ?_) (fun hc => ?_)))
  refine loopK_now (AL.length - (k + 1)) (by have := hk.out; omega) ?_
  rw [hT.out]
  refine ⟨k + 1, s5, _, by have := hk.out; omega, rfl, hO4.out, h24.out, hw4.out, ?_, rfl⟩
  rw [htk.out, ← List.append_assoc, List.map_append]
  exact h5.out
end Go.Proofs.Ytembkknplmcamaa

namespace Go.Proofs.Ytembkknplmcamaa
open Go.Ab
attribute [local irreducible] WeakR WeakE CallA YieldA

theorem tab_le4 {T : List (List Id)} {n : Nat} (h : TabOK T n) : (∀ i, ((bedsF T).getD i []).length ≤ 4) ∧ (∀ i, ((bedsB T).getD i []).length ≤ 4) := by
  have key : ∀ i, (T.getD i []).length ≤ 4 := fun i => by
    rw [List.getD_eq_getElem?_getD]
    by_cases hi : i < T.length
    · rw [List.getElem?_eq_getElem hi]; exact h.le _ (List.getElem_mem hi)
    · rw [List.getElem?_eq_none (by omega)]; simp
  constructor
  · intro i
    rw [List.getD_eq_getElem?_getD]
    by_cases hi : i < (bedsF T).length
    · rw [List.getElem?_eq_getElem hi]
      simp only [bedsF, List.getElem_map, Option.getD_some]
      exact key _
    · rw [List.getElem?_eq_none (by omega)]; simp
  · intro i
    rw [List.getD_eq_getElem?_getD]
    by_cases hi : i < (bedsB T).length
    · rw [List.getElem?_eq_getElem hi]
      simp only [bedsB, List.getElem_map, Option.getD_some]
      exact key _
    · rw [List.getElem?_eq_none (by omega)]; simp
theorem at_le4' {T : List (List Id)} {n : Nat} (h : TabOK T n) (u : Ndl) : (atL (bedsF T) (bedsB T) u).length ≤ 4 := by
  unfold atL
  split
  · simp
  · split
    · exact (tab_le4 h).2 _
    · exact (tab_le4 h).1 _
theorem beds_40 (T : List (List Id)) : (bedsF T).length ≤ 40 ∧ (bedsB T).length ≤ 40 := by
  constructor
  · simp only [bedsF, List.length_map, List.length_range]; exact trF_le T
  · simp only [bedsB, List.length_map, List.length_range]; exact trB_le T
def e3 (l w : AV) (i : Nat) : Env := ((Env.upd (fun _ => .junk) 9 (.val (.int .i64 i))).upd 8 w).upd 6 l

set_option maxHeartbeats 8000000 in
theorem OrdersList_ok (s : AV) (P : List Put) (r : Int) (hs : IsL 2 s (P.map Put.av)) (hP : ∀ p ∈ P, p.ok) :
    PureA Try.prog 3 [s, .val (.int .i64 r)] (.val (.bool true)) := by
  have hof := Of_ok s P hs hP
  have hTo := Of_tab_ok P
  have hTn := (ofN_ok P).2
  generalize ofL P = T at hof hTo
  have hle : ∀ l ∈ T, l.length ≤ 1000 := fun l hl => by have := hTo.le l hl; omega
  have hBe := beds_is hle
  have hck := check_beds hTo (by omega)
  have hm4 := at_le4' hTo
  have hLi := List_ok hBe hck (beds_40 T).1 (beds_40 T).2 (tab_le4 hTo).1 (tab_le4 hTo).2 r
  have hld := fun hr => listed_ok hBe hm4 r hr
  have hee := list_listed (beds_40 T).1 (beds_40 T).2 r
  have hlen : (bySpot (heldT (bedsF T) (bedsB T) r 2)).length ≤ 30400 := by rw [hee]; exact lisA_len hm4 r 95
  rw [← hee] at hld
  have c1 := (bedA_is (bedsF T)).2.isL.cells
  have c2 := (bedA_is (bedsB T)).2.isL.cells
  have s1 := (bedA_is (bedsF T)).2.isL.stor
  have s2 := (bedA_is (bedsB T)).2.isL.stor
  generalize bySpot (heldT (bedsF T) (bedsB T) r 2) = LL at *
  generalize bedA (bedsF T) = bf at *
  generalize bedA (bedsB T) = bb at *
  have d0 : decide ((0 : Int) = 0) = true := by decide
  have d11 : decide ((11 : Int) = 11) = true := by decide
  clear hee
  replace hBe := (show Aside _ from hBe)
  replace hck := (show Aside _ from hck)
  replace hm4 := (show Aside _ from hm4)
  replace hTo := (show Aside _ from hTo)
  replace hle := (show Aside _ from hle)
  replace hs := (show Aside _ from hs)
  replace hP := (show Aside _ from hP)
  replace hlen := (show Aside _ from hlen)
  intro O
  refine k3.call mix ?_
  unfold c3
  by_cases hr : rackOK r = true
  rotate_left
  · rw [if_neg hr] at hLi
    clear hld
    have hbad : r < -4 ∨ 4 < r := by
      unfold rackOK at hr
      simp only [Bool.and_eq_true, decide_eq_true_eq] at hr
      omega
    replace hr := (show Aside _ from hr)
    (repeat' first
    | simp (contextual := true) (maxSteps := 4000000) only [fwc, fwe, fww, reduceIte, ↓reduceIte, Nat.reduceAdd, Nat.reduceLeDiff, Nat.reduceEqDiff, Nat.reduceLT, Nat.reduceSub, reduceCtorEq, Int.reduceEq, Int.reduceLT, Int.reduceLE, Int.reduceNeg, Int.reduceToNat, Int.reduceAdd, Int.reduceSub, Nat.reduceMul, part_cell, part_agg, *]
    | (refine retK_now ?_)
    | (refine retK_now' ?_)
    | (intro q hq)
    | (refine cond_intro (fun hc => ?_) (fun hc => ?_)))
    refine seqK_now ?_
    (repeat' first
    | simp (contextual := true) (maxSteps := 4000000) only [fwc, fwe, fww, reduceIte, ↓reduceIte, Nat.reduceAdd, Nat.reduceLeDiff, Nat.reduceEqDiff, Nat.reduceLT, Nat.reduceSub, reduceCtorEq, Int.reduceEq, Int.reduceLT, Int.reduceLE, Int.reduceNeg, Int.reduceToNat, Int.reduceAdd, Int.reduceSub, Nat.reduceMul, part_cell, part_agg, *]
    | (refine retK_now ?_)
    | (refine retK_now' ?_)
    | (intro q hq)
    | (refine cond_intro (fun hc => ?_) (fun hc => ?_)))
    refine hof.use ?_
    (repeat' first
    | simp (contextual := true) (maxSteps := 4000000) only [fwc, fwe, fww, reduceIte, ↓reduceIte, Nat.reduceAdd, Nat.reduceLeDiff, Nat.reduceEqDiff, Nat.reduceLT, Nat.reduceSub, reduceCtorEq, Int.reduceEq, Int.reduceLT, Int.reduceLE, Int.reduceNeg, Int.reduceToNat, Int.reduceAdd, Int.reduceSub, Nat.reduceMul, part_cell, part_agg, *]
    | (refine retK_now ?_)
    | (refine retK_now' ?_)
    | (intro q hq)
    | (refine cond_intro (fun hc => ?_) (fun hc => ?_)))
    revert q
    intro q5 hq5
    refine seqK_now ?_
    (repeat' first
    | simp (contextual := true) (maxSteps := 4000000) only [fwc, fwe, fww, reduceIte, ↓reduceIte, Nat.reduceAdd, Nat.reduceLeDiff, Nat.reduceEqDiff, Nat.reduceLT, Nat.reduceSub, reduceCtorEq, Int.reduceEq, Int.reduceLT, Int.reduceLE, Int.reduceNeg, Int.reduceToNat, Int.reduceAdd, Int.reduceSub, Nat.reduceMul, part_cell, part_agg, *]
    | (refine retK_now ?_)
    | (refine retK_now' ?_)
    | (intro q hq)
    | (refine cond_intro (fun hc => ?_) (fun hc => ?_)))
    refine hLi.use ?_
    (repeat' first
    | simp (contextual := true) (maxSteps := 4000000) only [fwc, fwe, fww, reduceIte, ↓reduceIte, Nat.reduceAdd, Nat.reduceLeDiff, Nat.reduceEqDiff, Nat.reduceLT, Nat.reduceSub, reduceCtorEq, Int.reduceEq, Int.reduceLT, Int.reduceLE, Int.reduceNeg, Int.reduceToNat, Int.reduceAdd, Int.reduceSub, Nat.reduceMul, part_cell, part_agg, *]
    | (refine retK_now ?_)
    | (refine retK_now' ?_)
    | (intro q hq)
    | (refine cond_intro (fun hc => ?_) (fun hc => ?_)))
    refine seqK_now ?_
    by_cases h1 : r < -4
    · have e1 : decide (r < -4) = true := decide_eq_true h1
      replace h1 := (show Aside _ from h1)
      replace hbad := (show Aside _ from hbad)
      (repeat' first
    | simp (contextual := true) (maxSteps := 4000000) only [fwc, fwe, fww, reduceIte, ↓reduceIte, Nat.reduceAdd, Nat.reduceLeDiff, Nat.reduceEqDiff, Nat.reduceLT, Nat.reduceSub, reduceCtorEq, Int.reduceEq, Int.reduceLT, Int.reduceLE, Int.reduceNeg, Int.reduceToNat, Int.reduceAdd, Int.reduceSub, Nat.reduceMul, part_cell, part_agg, *]
    | (refine seqK_now ?_)
    | (refine retK_now ?_)
    | (refine retK_now' ?_)
    | (intro q hq)
    | (refine cond_intro (fun hc => ?_) (fun hc => ?_)))
      refine lives4_ok.use ?_
      (repeat' first
    | simp (contextual := true) (maxSteps := 4000000) only [fwc, fwe, fww, reduceIte, ↓reduceIte, Nat.reduceAdd, Nat.reduceLeDiff, Nat.reduceEqDiff, Nat.reduceLT, Nat.reduceSub, reduceCtorEq, Int.reduceEq, Int.reduceLT, Int.reduceLE, Int.reduceNeg, Int.reduceToNat, Int.reduceAdd, Int.reduceSub, Nat.reduceMul, part_cell, part_agg, *]
    | (refine seqK_now ?_)
    | (refine retK_now ?_)
    | (refine retK_now' ?_)
    | (intro q hq)
    | (refine cond_intro (fun hc => ?_) (fun hc => ?_)))
      refine WeakR.pure (sub_upd hq5 (Heap.sub_refl _)) ?_
      rfl
    · have e1 : decide (r < -4) = false := decide_eq_false h1
      have e2 : decide (4 < r) = true := decide_eq_true (by omega)
      replace h1 := (show Aside _ from h1)
      replace hbad := (show Aside _ from hbad)
      (repeat' first
    | simp (contextual := true) (maxSteps := 4000000) only [fwc, fwe, fww, reduceIte, ↓reduceIte, Nat.reduceAdd, Nat.reduceLeDiff, Nat.reduceEqDiff, Nat.reduceLT, Nat.reduceSub, reduceCtorEq, Int.reduceEq, Int.reduceLT, Int.reduceLE, Int.reduceNeg, Int.reduceToNat, Int.reduceAdd, Int.reduceSub, Nat.reduceMul, part_cell, part_agg, *]
    | (refine seqK_now ?_)
    | (refine retK_now ?_)
    | (refine retK_now' ?_)
    | (intro q hq)
    | (refine cond_intro (fun hc => ?_) (fun hc => ?_)))
      refine lives4_ok.use ?_
      (repeat' first
    | simp (contextual := true) (maxSteps := 4000000) only [fwc, fwe, fww, reduceIte, ↓reduceIte, Nat.reduceAdd, Nat.reduceLeDiff, Nat.reduceEqDiff, Nat.reduceLT, Nat.reduceSub, reduceCtorEq, Int.reduceEq, Int.reduceLT, Int.reduceLE, Int.reduceNeg, Int.reduceToNat, Int.reduceAdd, Int.reduceSub, Nat.reduceMul, part_cell, part_agg, *]
    | (refine seqK_now ?_)
    | (refine retK_now ?_)
    | (refine retK_now' ?_)
    | (intro q hq)
    | (refine cond_intro (fun hc => ?_) (fun hc => ?_)))
      refine WeakR.pure (sub_upd hq5 (Heap.sub_refl _)) ?_
      rfl
  rw [if_pos hr] at hLi
  have hld := hld hr
  have hrr : -4 ≤ r ∧ r ≤ 4 := by unfold rackOK at hr; simpa using hr
  have e1 : decide (r < -4) = false := decide_eq_false (by omega)
  have e2 : decide (4 < r) = false := decide_eq_false (by omega)
  have hlT := tA_T 5 (LL.map Hd.av)
  have hwL := frA_L 5 (LL.map Hd.av)
  generalize tA 5 (LL.map Hd.av) = l at *
  generalize frA 5 (LL.map Hd.av) = w at *
  have ll := hlT.isL.len
  have lc := hlT.isL.cells
  have ls := hlT.isL.stor
  have wl := hwL.len
  have wc := hwL.cells
  have ws := hwL.stor
  rw [List.length_map] at ll wl
  have dll : decide ((LL.length : Int) = (LL.length : Int)) = true := decide_eq_true rfl
  replace hr := (show Aside _ from hr)
  replace hrr := (show Aside _ from hrr)
  replace hlT := (show Aside _ from hlT)
  replace hwL := (show Aside _ from hwL)
  (repeat' first
    | simp (contextual := true) (maxSteps := 4000000) only [fwc, fwe, fww, reduceIte, ↓reduceIte, Nat.reduceAdd, Nat.reduceLeDiff, Nat.reduceEqDiff, Nat.reduceLT, Nat.reduceSub, reduceCtorEq, Int.reduceEq, Int.reduceLT, Int.reduceLE, Int.reduceNeg, Int.reduceToNat, Int.reduceAdd, Int.reduceSub, Nat.reduceMul, part_cell, part_agg, *]
    | (refine retK_now ?_)
    | (refine retK_now' ?_)
    | (intro q hq)
    | (refine cond_intro (fun hc => ?_) (fun hc => ?_)))
  refine seqK_now ?_
  (repeat' first
    | simp (contextual := true) (maxSteps := 4000000) only [fwc, fwe, fww, reduceIte, ↓reduceIte, Nat.reduceAdd, Nat.reduceLeDiff, Nat.reduceEqDiff, Nat.reduceLT, Nat.reduceSub, reduceCtorEq, Int.reduceEq, Int.reduceLT, Int.reduceLE, Int.reduceNeg, Int.reduceToNat, Int.reduceAdd, Int.reduceSub, Nat.reduceMul, part_cell, part_agg, *]
    | (refine retK_now ?_)
    | (refine retK_now' ?_)
    | (intro q hq)
    | (refine cond_intro (fun hc => ?_) (fun hc => ?_)))
  refine hof.use ?_
  (repeat' first
    | simp (contextual := true) (maxSteps := 4000000) only [fwc, fwe, fww, reduceIte, ↓reduceIte, Nat.reduceAdd, Nat.reduceLeDiff, Nat.reduceEqDiff, Nat.reduceLT, Nat.reduceSub, reduceCtorEq, Int.reduceEq, Int.reduceLT, Int.reduceLE, Int.reduceNeg, Int.reduceToNat, Int.reduceAdd, Int.reduceSub, Nat.reduceMul, part_cell, part_agg, *]
    | (refine retK_now ?_)
    | (refine retK_now' ?_)
    | (intro q hq)
    | (refine cond_intro (fun hc => ?_) (fun hc => ?_)))
  revert q
  intro q5 hq5
  refine seqK_now ?_
  (repeat' first
    | simp (contextual := true) (maxSteps := 4000000) only [fwc, fwe, fww, reduceIte, ↓reduceIte, Nat.reduceAdd, Nat.reduceLeDiff, Nat.reduceEqDiff, Nat.reduceLT, Nat.reduceSub, reduceCtorEq, Int.reduceEq, Int.reduceLT, Int.reduceLE, Int.reduceNeg, Int.reduceToNat, Int.reduceAdd, Int.reduceSub, Nat.reduceMul, part_cell, part_agg, *]
    | (refine retK_now ?_)
    | (refine retK_now' ?_)
    | (intro q hq)
    | (refine cond_intro (fun hc => ?_) (fun hc => ?_)))
  refine hLi.use ?_
  (repeat' first
    | simp (contextual := true) (maxSteps := 4000000) only [fwc, fwe, fww, reduceIte, ↓reduceIte, Nat.reduceAdd, Nat.reduceLeDiff, Nat.reduceEqDiff, Nat.reduceLT, Nat.reduceSub, reduceCtorEq, Int.reduceEq, Int.reduceLT, Int.reduceLE, Int.reduceNeg, Int.reduceToNat, Int.reduceAdd, Int.reduceSub, Nat.reduceMul, part_cell, part_agg, *]
    | (refine retK_now ?_)
    | (refine retK_now' ?_)
    | (intro q hq)
    | (refine cond_intro (fun hc => ?_) (fun hc => ?_)))
  refine seqK_now ?_
  (repeat' first
    | simp (contextual := true) (maxSteps := 4000000) only [fwc, fwe, fww, reduceIte, ↓reduceIte, Nat.reduceAdd, Nat.reduceLeDiff, Nat.reduceEqDiff, Nat.reduceLT, Nat.reduceSub, reduceCtorEq, Int.reduceEq, Int.reduceLT, Int.reduceLE, Int.reduceNeg, Int.reduceToNat, Int.reduceAdd, Int.reduceSub, Nat.reduceMul, part_cell, part_agg, *]
    | (refine seqK_now ?_)
    | (refine retK_now ?_)
    | (refine retK_now' ?_)
    | (intro q hq)
    | (refine cond_intro (fun hc => ?_) (fun hc => ?_)))
  refine hld.use ?_
  (repeat' first
    | simp (contextual := true) (maxSteps := 4000000) only [fwc, fwe, fww, reduceIte, ↓reduceIte, Nat.reduceAdd, Nat.reduceLeDiff, Nat.reduceEqDiff, Nat.reduceLT, Nat.reduceSub, reduceCtorEq, Int.reduceEq, Int.reduceLT, Int.reduceLE, Int.reduceNeg, Int.reduceToNat, Int.reduceAdd, Int.reduceSub, Nat.reduceMul, part_cell, part_agg, *]
    | (refine seqK_now ?_)
    | (refine retK_now ?_)
    | (refine retK_now' ?_)
    | (intro q hq)
    | (refine cond_intro (fun hc => ?_) (fun hc => ?_)))
  refine opsW_gcap (b := false) (sz := 5) (L := LL.map Hd.av) rfl (fun h => ?_) ?_
  · simp only [opd_tmp, Env.upd_apply, if_true, *]
    exact hlT.out
  rw [List.length_map]
  obtain ⟨I, hI⟩ := hideI (fun m e O' => ∃ i : Nat, i ≤ LL.length ∧ m = LL.length - i ∧ O.sub O' ∧ e = e3 l w i)
  have hsub5 := (show Aside _ from sub_new (v := .arr 26 2 [.agg [bf, bb]]) (Heap.sub_refl O) hq5)
  (repeat' first
    | simp (contextual := true) (maxSteps := 4000000) only [fwc, fwe, fww, reduceIte, ↓reduceIte, Nat.reduceAdd, Nat.reduceLeDiff, Nat.reduceEqDiff, Nat.reduceLT, Nat.reduceSub, reduceCtorEq, Int.reduceEq, Int.reduceLT, Int.reduceLE, Int.reduceNeg, Int.reduceToNat, Int.reduceAdd, Int.reduceSub, Nat.reduceMul, part_cell, part_agg, *]
    | (refine seqK_now ?_)
    | (refine retK_now ?_)
    | (refine retK_now' ?_)
    | (intro q hq)
    | (refine cond_intro (fun hc => ?_) (fun hc => ?_)))
  refine cmd_loop I LL.length (by
    rw [hI.out]
    exact ⟨0, Nat.zero_le _, rfl, hsub5.out, rfl⟩) ?_
  intro m e O' hh
  rw [hI.out] at hh
  obtain ⟨i, hi1, rfl, hsub, rfl⟩ := hh
  unfold e3
  replace hsub := (show Aside _ from hsub)
  by_cases hi : i < LL.length
  rotate_left
  · have e0 : decide (i < LL.length) = false := decide_eq_false hi
    replace hi := (show Aside _ from hi)
    replace hi1 := (show Aside _ from hi1)
    (repeat' first
    | simp (contextual := true) (maxSteps := 4000000) only [fwc, fwe, fww, reduceIte, ↓reduceIte, Nat.reduceAdd, Nat.reduceLeDiff, Nat.reduceEqDiff, Nat.reduceLT, Nat.reduceSub, reduceCtorEq, Int.reduceEq, Int.reduceLT, Int.reduceLE, Int.reduceNeg, Int.reduceToNat, Int.reduceAdd, Int.reduceSub, Nat.reduceMul, ilt_nat, part_cell, part_agg, *]
    | (refine seqK_now ?_)
    | (refine retK_now ?_)
    | (refine retK_now' ?_)
    | (intro q hq)
    | (refine cond_intro (fun hc => ?_) (fun hc => ?_)))
    refine lives4_ok.use ?_
    (repeat' first
    | simp (contextual := true) (maxSteps := 4000000) only [fwc, fwe, fww, reduceIte, ↓reduceIte, Nat.reduceAdd, Nat.reduceLeDiff, Nat.reduceEqDiff, Nat.reduceLT, Nat.reduceSub, reduceCtorEq, Int.reduceEq, Int.reduceLT, Int.reduceLE, Int.reduceNeg, Int.reduceToNat, Int.reduceAdd, Int.reduceSub, Nat.reduceMul, ilt_nat, part_cell, part_agg, *]
    | (refine seqK_now ?_)
    | (refine retK_now ?_)
    | (refine retK_now' ?_)
    | (intro q hq)
    | (refine cond_intro (fun hc => ?_) (fun hc => ?_)))
    refine WeakR.pure hsub.out ?_
    rfl
  have e0 : decide (i < LL.length) = true := decide_eq_true hi
  have hwi : i < 4611686018427387904 := by have := hlen.out; omega
  have hia := IsL.ia (IsT.isL hlT.out) (i := i) (by rw [List.length_map]; exact hi)
  have hib := IsL.ia hwL.out (i := i) (by rw [List.length_map]; exact hi)
  rw [List.getElem_map] at hia hib
  generalize LL[i] = z at *
  rw [show z.av = .agg [.val (.int .u8 z.id.y), .val (.int .i64 z.id.n), .val (.int .u8 z.bed), .val (.int .i64 z.at_), .val (.int .i64 z.spot)] from rfl] at hia hib
  have l3 : leavesEq [true, true, true, true, true] [.val (.int .u8 z.id.y), .val (.int .i64 z.id.n), .val (.int .u8 z.bed), .val (.int .i64 z.at_), .val (.int .i64 z.spot)] [.val (.int .u8 z.id.y), .val (.int .i64 z.id.n), .val (.int .u8 z.bed), .val (.int .i64 z.at_), .val (.int .i64 z.spot)] = some true := by
    simp [leavesEq, leafEq, intEqA, boolEqA]
  replace hi := (show Aside _ from hi)
  replace hi1 := (show Aside _ from hi1)
  (repeat' first
    | simp (contextual := true) (maxSteps := 4000000) only [fwc, fwe, fww, reduceIte, ↓reduceIte, Nat.reduceAdd, Nat.reduceLeDiff, Nat.reduceEqDiff, Nat.reduceLT, Nat.reduceSub, reduceCtorEq, Int.reduceEq, Int.reduceLT, Int.reduceLE, Int.reduceNeg, Int.reduceToNat, Int.reduceAdd, Int.reduceSub, Nat.reduceMul, ilt_nat, part_cell, part_agg, wrap_succ, *]
    | (refine seqK_now ?_)
    | (refine retK_now ?_)
    | (refine retK_now' ?_)
    | (intro q hq)
    | (refine cond_intro (fun hc => ?_) (fun hc => ?_)))
  refine loopK_now (LL.length - (i + 1)) (by have := hi.out; omega) ?_
  rw [hI.out]
  exact ⟨i + 1, by have := hi.out; omega, rfl, hsub.out, rfl⟩
end Go.Proofs.Ytembkknplmcamaa

namespace Go.Proofs.Ytembkknplmcamaa
open Go.Ab Go.ChangeShapes Go.WideShapes Go.ChangeAt Go.RowKit

theorem own : ownKnob Try.prog.godebug = none := by kernel_rfl
theorem laid : laidOutB Try.prog = true := by kernel_rfl
theorem wf_u8 {n : Int} (h : (Lit.int .u8 n).wf = true) : 0 ≤ n ∧ n ≤ 255 := by
  simpa [Lit.wf, IntKind.min, IntKind.max, IntKind.signed, IntKind.bits] using h
theorem wf_i64 {n : Int} (h : (Lit.int .i64 n).wf = true) : -9223372036854775808 ≤ n ∧ n ≤ 9223372036854775807 := by
  simpa [Lit.wf, IntKind.min, IntKind.max, IntKind.signed, IntKind.bits] using h

def layB : Lay := .slice true (.int .u8 (.int .u8 .nil)) .nil
theorem open_B {s : AV} (h : LayOK layB [s]) : ∃ P : List Put, IsL 2 s (P.map Put.av) ∧ ∀ p ∈ P, p.ok := by
  obtain ⟨s', l, vs', e, h1, _, h3, h4⟩ := h
  simp only [List.cons.injEq] at e
  obtain ⟨rfl, _⟩ := e
  obtain ⟨X, rfl, hX⟩ := map_of_all (f := Put.av) (Q := Put.ok) (l := l) (fun x hx => by
    obtain ⟨es, rfl, y, vs', rfl, hw1, n, vs', rfl, hw2, rfl⟩ := h3 x hx
    have k1 := wf_u8 hw1
    have k2 := wf_u8 hw2
    refine ⟨⟨y.toNat, n.toNat⟩, ?_, by unfold Put.ok; simp only; omega⟩
    unfold Put.av
    rw [show ((y.toNat : Nat) : Int) = y by omega, show ((n.toNat : Nat) : Int) = n by omega])
  exact ⟨X, h1, hX⟩
theorem OrdersList_args (vs : List AV) (h : ArgsOK [(false, layB), (false, .int .i64 .nil)] vs) : PureA Try.prog 3 vs (.val (.bool true)) := by
  obtain ⟨a, vs', es, rfl, rfl, h1, b, vs', es', rfl, rfl, h2, rfl⟩ := h
  obtain ⟨P, hs, hP⟩ := open_B h1
  obtain ⟨m, vs1, e1, hm, e1'⟩ := h2
  simp only [List.cons.injEq] at e1
  obtain ⟨rfl, rfl⟩ := e1
  exact OrdersList_ok a P m hs hP
set_option maxRecDepth 100000 in
theorem OrdersList_lifted (os : Os) (started : os.Started) (H : Type) (enc : TypeId × Value → H) :
    ReturnsInHanded {} Try.checked os 3 .any (Rows.ordersListSpec.pre6 enc Try.prog Try.f3 Rows.ordersListRow.domain false) (Rows.ordersListSpec.post enc Try.prog Try.f3 false true false false) := by
  refine returnsInHanded_of_change (C := Try.checked) own started (by kernel_rfl) Try.func3
    (ChangeSpec.witness6 (enc := enc) (C := Try.checked) false ⟨#[], #[.slice none 0 0, .int .i64 0], []⟩ 8 (by kernel_rfl) (by kernel_rfl) (by kernel_rfl) (by kernel_rfl)) ?_
  intro W base args ds gs before hval hW _ _
  exact law_calls (lays := [(false, layB), (false, .int .i64 .nil)]) laid (of_decide_eq_true (by kernel_rfl)) (by kernel_rfl) (by kernel_rfl) rfl (fun ds hds => by
    match ds, hds with
    | [d1, d2], _ => rfl) OrdersList_args W base args ds gs before hval hW

theorem OrdersList_holds : Rows.OrdersListSaid :=
  OpenClaim.holds_of_wide 3 Try.f3 rfl rfl rfl rfl rfl rfl rfl ⟨rfl, rfl, rfl, rfl, rfl⟩ rfl rfl rfl rfl rfl (by kernel_rfl) Try.func3 (by kernel_rfl)
    (of_decide_eq_true (by kernel_rfl)) (by unfold Func.isWrapper; first | (rw [if_pos (by decide +kernel)]; kernel_rfl) | (rw [if_neg (by decide +kernel)]; exact ⟨rfl, rfl⟩))
    (fun os started H enc _ => OrdersList_lifted os started H enc)

end Go.Proofs.Ytembkknplmcamaa
