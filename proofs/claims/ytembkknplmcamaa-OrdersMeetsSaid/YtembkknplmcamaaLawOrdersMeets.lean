/- The law OrdersMeets of the given program: for every input the call returns true, and its arguments read as before. Here: contracts of functions, and the law. -/
import Derived.Test.YtembkknplmcamaaLawOrdersMeetsP2
import Derived.Test.YtembkknplmcamaaLawOrdersMeetsP1
import Derived.Test.YtembkknplmcamaaFc
import Derived.Test.YtembkknplmcamaaRows
set_option linter.unusedSimpArgs false
set_option linter.unusedVariables false
namespace Go.Proofs.Ytembkknplmcamaa
open Go.Ab
attribute [local irreducible] WeakR WeakE CallA YieldA

/-! orders.list. -/
def held1 (bd r : Int) (i : Nat) (l : List Id) : List Hd := l.map fun p => (⟨p, bd, ((i + 1 : Nat) : Int), spotL ⟨bd, ((i + 1 : Nat) : Int)⟩ r⟩ : Hd)
def heldN (bd r : Int) (G : List (List Id)) (n : Nat) : List Hd := (List.range n).flatMap fun i => held1 bd r i (G.getD i [])
theorem heldN_succ (bd r : Int) (G : List (List Id)) (n : Nat) : heldN bd r G (n + 1) = heldN bd r G n ++ held1 bd r n (G.getD n []) := by
  unfold heldN
  rw [List.range_succ, List.flatMap_append]
  simp
theorem heldN_len {G : List (List Id)} (h : ∀ i, (G.getD i []).length ≤ 4) (bd r : Int) : ∀ n, (heldN bd r G n).length ≤ 4 * n
  | 0 => by simp [heldN]
  | n + 1 => by
    have h1 := heldN_len h bd r n
    have h2 := h n
    rw [heldN_succ, List.length_append, held1, List.length_map]
    omega
def heldT (F B : List (List Id)) (r : Int) (t : Nat) : List Hd := if t = 0 then [] else if t = 1 then heldN 0 r F F.length else heldN 0 r F F.length ++ heldN 1 r B B.length
theorem held_spot {bd r : Int} {G : List (List Id)} (hG : G.length ≤ 40) (hb : bd = 0 ∨ bd = 1) (hr : rackOK r = true) : ∀ x ∈ heldN bd r G G.length, ∃ i : Nat, i < 95 ∧ x.spot = -12 + 2 * (i : Int) := fun x hx => by
  have hrr : -4 ≤ r ∧ r ≤ 4 := by unfold rackOK at hr; simpa using hr
  unfold heldN held1 at hx
  simp only [List.mem_flatMap, List.mem_range, List.mem_map] at hx
  obtain ⟨i, hi, p, _, rfl⟩ := hx
  show ∃ j : Nat, j < 95 ∧ spotL ⟨bd, ((i + 1 : Nat) : Int)⟩ r = -12 + 2 * (j : Int)
  unfold spotL
  rcases hb with rfl | rfl
  · rw [if_neg (by simp)]
    exact ⟨(2 * (i + 1) + 7), by omega, by simp only; omega⟩
  · rw [if_pos rfl]
    refine ⟨(2 * ((i : Int) + 1 + r) + 6).toNat, ?_, ?_⟩
    · omega
    · simp only; omega
theorem heldT_spot {F B : List (List Id)} (hF : F.length ≤ 40) (hB : B.length ≤ 40) {r : Int} (hr : rackOK r = true) : ∀ x ∈ heldT F B r 2, ∃ i : Nat, i < 95 ∧ x.spot = -12 + 2 * (i : Int) := fun x hx => by
  unfold heldT at hx
  rw [if_neg (by omega), if_neg (by omega)] at hx
  rcases List.mem_append.1 hx with h | h
  · exact held_spot hF (.inl rfl) hr x h
  · exact held_spot hB (.inr rfl) hr x h
/-- A slice of one's own without spare room. -/
def OwC (O0 O' : Heap) (s : AV) (L : List AV) : Prop := (s = .val (.slice none 0 0) ∧ L = [] ∧ O' = O0) ∨ (L ≠ [] ∧ ∃ id elems, O0 id = none ∧ s = .own id 5 0 L.length (some L.length) ∧ O' = O0.upd id (.arr 40 5 elems) ∧ elems.take L.length = L ∧ L.length ≤ elems.length)
theorem OwC.cells {O0 O' : Heap} {s : AV} {L : List AV} (h : OwC O0 O' s L) : s.cells = [s] := by
  rcases h with ⟨rfl, _, _⟩ | ⟨_, id, elems, _, rfl, _⟩ <;> rfl
theorem OwC.stor {O0 O' : Heap} {s : AV} {L : List AV} (h : OwC O0 O' s L) : s.stor = true := by
  rcases h with ⟨rfl, _, _⟩ | ⟨_, id, elems, _, rfl, _⟩ <;> rfl
theorem OwC.pure {O O0 O' : Heap} {s : AV} {L : List AV} (hs : O.sub O0) (h : OwC O0 O' s L) : WeakR (fun r' O' => r' = tA 5 L ∧ O' = O) s O' := by
  rcases h with ⟨rfl, rfl, rfl⟩ | ⟨hne, id, elems, h0, rfl, rfl, h1, h2⟩
  · exact WeakR.pure hs rfl
  · have hz := Fz.own (id := id) (sz := 5) (elems := elems) 0 L.length (some L.length) true (by omega) (fun _ => rfl)
    rw [List.drop_zero, h1] at hz
    refine WeakR.pureF id 5 40 elems (Heap.upd_same _ _ _) hz (by rw [del_upd_new h0]; exact hs) ?_
    rw [tA, if_neg hne]
theorem ClipH_own (s : AV) (L : List AV) (O0 O' : Heap) (h : OwN 40 5 O0 O' s L) (K : AV → Heap → Prop) (hk : ∀ s', OwC O0 O' s' L → K s' O') : CallA Try.prog 40 [s] O' K := by
  refine k40.call mix ?_
  unfold c40
  rcases h with ⟨rfl, rfl, rfl⟩ | ⟨hne, id, c, elems, h0, rfl, rfl, h1, h2⟩
  · have e1 : sliceA 5 (.val (.slice none 0 0)) none (some (.val (.int .i64 0))) (some (.val (.int .i64 0))) = some (.val (.slice none 0 0)) := rfl
    have hk2 := (show Aside _ from hk _ (.inl ⟨rfl, rfl, rfl⟩))
    (repeat' first
    | simp (contextual := true) (maxSteps := 4000000) only [fwc, fwe, fww, reduceIte, ↓reduceIte, Nat.reduceAdd, Nat.reduceLeDiff, Nat.reduceEqDiff, Nat.reduceLT, Nat.reduceSub, reduceCtorEq, Int.reduceEq, Int.reduceLT, Int.reduceLE, Int.reduceNeg, Int.reduceToNat, Int.reduceAdd, Int.reduceSub, Nat.reduceMul, *]
    | (refine seqK_now ?_)
    | (refine retK_now ?_)
    | (refine retK_now' ?_)
    | (intro q hq)
    | (refine cond_intro (fun hc => ?_) (fun hc => ?_)))
    exact WeakR.now hk2.out
  · have e1 : sliceA 5 (.own id 5 0 L.length c) none (some (.val (.int .i64 L.length))) (some (.val (.int .i64 L.length))) = some (.own id 5 0 L.length (some L.length)) := by
      rw [slice_own_mx (a := 0) (b := L.length) (d := L.length) rfl (by simp [bound_int]) (by simp [bound_int]) (by omega) (by simp [leCap]) (by omega) (by simp [leCap])]
      simp
    have hk2 := (show Aside _ from hk _ (.inr ⟨hne, id, elems, h0, rfl, rfl, h1, h2⟩))
    replace hne := (show Aside _ from hne)
    replace h1 := (show Aside _ from h1)
    (repeat' first
    | simp (contextual := true) (maxSteps := 4000000) only [fwc, fwe, fww, reduceIte, ↓reduceIte, Nat.reduceAdd, Nat.reduceLeDiff, Nat.reduceEqDiff, Nat.reduceLT, Nat.reduceSub, reduceCtorEq, Int.reduceEq, Int.reduceLT, Int.reduceLE, Int.reduceNeg, Int.reduceToNat, Int.reduceAdd, Int.reduceSub, Nat.reduceMul, *]
    | (refine seqK_now ?_)
    | (refine retK_now ?_)
    | (refine retK_now' ?_)
    | (intro q hq)
    | (refine cond_intro (fun hc => ?_) (fun hc => ?_)))
    exact WeakR.now hk2.out
def e19a (r : Int) (s l : AV) (t : Nat) : Env := ((((Env.upd (fun _ => .junk) 19 (.val (.int .i64 t))).upd 18 (.val (.int .i64 2))).upd 17 l).upd 5 s).upd 1 (.val (.int .i64 r))
def e19b (r : Int) (s l : AV) (t : Nat) (X : AV) (n i : Nat) : Env := ((((((((Env.upd (fun _ => .junk) 26 (.val (.int .i64 i))).upd 25 (.val (.int .i64 n))).upd 24 X).upd 19 (.val (.int .i64 t))).upd 18 (.val (.int .i64 2))).upd 17 l).upd 6 (.val (.int .i64 t))).upd 5 s).upd 1 (.val (.int .i64 r))
def e19c (r : Int) (s l : AV) (t : Nat) (X : AV) (n i q : Nat) (Y : AV) (m k : Nat) : Env := ((((((((((((Env.upd (fun _ => .junk) 38 (.val (.int .i64 k))).upd 37 (.val (.int .i64 m))).upd 36 Y).upd 26 (.val (.int .i64 i))).upd 25 (.val (.int .i64 n))).upd 24 X).upd 19 (.val (.int .i64 t))).upd 18 (.val (.int .i64 2))).upd 17 l).upd 10 (.optr q 2 0 0)).upd 6 (.val (.int .i64 t))).upd 5 s).upd 1 (.val (.int .i64 r))

set_option maxHeartbeats 8000000 in
theorem list_gen {x : AV} {F B : List (List Id)} (h : IsBeds x F B) (hF : F.length ≤ 40) (hB : B.length ≤ 40) (h4F : ∀ i, (F.getD i []).length ≤ 4) (h4B : ∀ i, (B.getD i []).length ≤ 4) (r : Int) (hr : rackOK r = true) (O : Heap) (K : AV → Heap → Prop)
    (hK : ∀ s O0 O2, O.sub O0 → OwC O0 O2 s ((bySpot (heldT F B r 2)).map Hd.av) → WeakR K s O2) :
    CallA Try.prog 19 [x, .val (.int .i64 r)] O K := by
  have hspot := heldT_spot hF hB hr
  obtain ⟨f, b, es, fs, rfl, hIf, hIb, _, _⟩ := h.ex
  have c1 := hIf.1.cells
  have c2 := hIb.1.cells
  have s1 := hIf.1.stor
  have s2 := hIb.1.stor
  have hrr : -4 ≤ r ∧ r ≤ 4 := by unfold rackOK at hr; simpa using hr
  have hpick : ∀ t, t < 2 → ∃ X es G, [f, b][t]? = some X ∧ IsB X es G ∧ heldT F B r (t + 1) = heldT F B r t ++ heldN (t : Int) r G G.length ∧ G.length ≤ 40 ∧ (∀ i, (G.getD i []).length ≤ 4) ∧ (heldT F B r t).length ≤ 160 := fun t ht => by
    match t, ht with
    | 0, _ => exact ⟨f, es, F, rfl, hIf, rfl, hF, h4F, by simp [heldT]⟩
    | 1, _ =>
      have := heldN_len h4F 0 r F.length
      exact ⟨b, fs, B, rfl, hIb, rfl, hB, h4B, by show (heldN 0 r F F.length).length ≤ 160; omega⟩
  have hlen2 : (heldT F B r 2).length ≤ 320 := by
    have h1 := heldN_len h4F 0 r F.length
    have h2 := heldN_len h4B 1 r B.length
    show (heldN 0 r F F.length ++ heldN 1 r B B.length).length ≤ 320
    rw [List.length_append]
    omega
  clear h
  replace hspot := (show Aside _ from hspot)
  replace hIf := (show Aside _ from hIf)
  replace hIb := (show Aside _ from hIb)
  replace hrr := (show Aside _ from hrr)
  replace hpick := (show Aside _ from hpick)
  replace hlen2 := (show Aside _ from hlen2)
  replace hF := (show Aside _ from hF)
  replace hB := (show Aside _ from hB)
  replace h4F := (show Aside _ from h4F)
  replace h4B := (show Aside _ from h4B)
  replace hr := (show Aside _ from hr)
  replace hK := (show Aside _ from hK)
  refine k19.call mix ?_
  unfold c19
  refine seq_go ?_
  (repeat' first
    | simp (contextual := true) (maxSteps := 4000000) only [fwc, fwe, fww, reduceIte, ↓reduceIte, Nat.reduceAdd, Nat.reduceLeDiff, Nat.reduceEqDiff, Nat.reduceLT, Nat.reduceSub, reduceCtorEq, Int.reduceEq, Int.reduceLT, Int.reduceLE, Int.reduceNeg, Int.reduceToNat, Int.reduceAdd, Int.reduceSub, Nat.reduceMul, part_cell, part_agg, *]
    | (refine retK_now ?_)
    | (refine retK_now' ?_)
    | (intro q hq)
    | (refine cond_intro (fun hc => ?_) (fun hc => ?_)))
  refine seqK_now ?_
  refine seq_go ?_
  (repeat' first
    | simp (contextual := true) (maxSteps := 4000000) only [fwc, fwe, fww, reduceIte, ↓reduceIte, Nat.reduceAdd, Nat.reduceLeDiff, Nat.reduceEqDiff, Nat.reduceLT, Nat.reduceSub, reduceCtorEq, Int.reduceEq, Int.reduceLT, Int.reduceLE, Int.reduceNeg, Int.reduceToNat, Int.reduceAdd, Int.reduceSub, Nat.reduceMul, part_cell, part_agg, *]
    | (refine retK_now ?_)
    | (refine retK_now' ?_)
    | (intro q hq)
    | (refine cond_intro (fun hc => ?_) (fun hc => ?_)))
  refine seqK_now ?_
  refine seq_go ?_
  refine seq_go ?_
  (repeat' first
    | simp (contextual := true) (maxSteps := 4000000) only [fwc, fwe, fww, reduceIte, ↓reduceIte, Nat.reduceAdd, Nat.reduceLeDiff, Nat.reduceEqDiff, Nat.reduceLT, Nat.reduceSub, reduceCtorEq, Int.reduceEq, Int.reduceLT, Int.reduceLE, Int.reduceNeg, Int.reduceToNat, Int.reduceAdd, Int.reduceSub, Nat.reduceMul, part_cell, part_agg, *]
    | (refine retK_now ?_)
    | (refine retK_now' ?_)
    | (intro q hq)
    | (refine cond_intro (fun hc => ?_) (fun hc => ?_)))
  revert q
  intro q2 hq2
  refine seqK_now ?_
  obtain ⟨I, hI⟩ := hideI (fun m e O' => ∃ (t : Nat) (s : AV) (O0 : Heap), t ≤ 2 ∧ m = 2 - t ∧ O.sub O0 ∧ OwN 40 5 O0 O' s ((heldT F B r t).map Hd.av) ∧ e = e19a r s (.list 1 true [f, b]) t)
  (repeat' first
    | simp (contextual := true) (maxSteps := 4000000) only [fwc, fwe, fww, reduceIte, ↓reduceIte, Nat.reduceAdd, Nat.reduceLeDiff, Nat.reduceEqDiff, Nat.reduceLT, Nat.reduceSub, reduceCtorEq, Int.reduceEq, Int.reduceLT, Int.reduceLE, Int.reduceNeg, Int.reduceToNat, Int.reduceAdd, Int.reduceSub, Nat.reduceMul, part_cell, part_agg, *]
    | (refine retK_now ?_)
    | (refine retK_now' ?_)
    | (intro q hq)
    | (refine cond_intro (fun hc => ?_) (fun hc => ?_)))
  refine cmd_loop I 2 (by
    rw [hI.out]
    exact ⟨0, _, _, by omega, rfl, sub_upd hq2 (Heap.sub_refl _), OwN.nil, rfl⟩) ?_
  clear hq2
  intro m e O' hh
  rw [hI.out] at hh
  obtain ⟨t, s, O0, ht2, rfl, hO0, hs, rfl⟩ := hh
  unfold e19a
  have sc := hs.cells
  have sst := hs.stor
  replace hO0 := (show Aside _ from hO0)
  replace hs := (show Aside _ from hs)
  have dt : decide ((t : Int) < 2) = decide (t < 2) := decide_eq_decide.2 (by omega)
  by_cases ht : t < 2
  rotate_left
  · have e0 : decide (t < 2) = false := decide_eq_false ht
    have hte : t = 2 := by omega
    rw [hte] at hs
    replace ht := (show Aside _ from ht)
    replace hte := (show Aside _ from hte)
    (repeat' first
    | simp (contextual := true) (maxSteps := 4000000) only [fwc, fwe, fww, reduceIte, ↓reduceIte, Nat.reduceAdd, Nat.reduceLeDiff, Nat.reduceEqDiff, Nat.reduceLT, Nat.reduceSub, reduceCtorEq, Int.reduceEq, Int.reduceLT, Int.reduceLE, Int.reduceNeg, Int.reduceToNat, Int.reduceAdd, Int.reduceSub, Nat.reduceMul, *]
    | (refine seqK_now ?_)
    | (refine retK_now ?_)
    | (refine retK_now' ?_)
    | (intro q hq)
    | (refine cond_intro (fun hc => ?_) (fun hc => ?_)))
    refine SortN_ok O0 O' s _ hs.out (by have := hlen2.out; omega) hspot.out _ fun O2 r2 h2 => ?_
    have sc2 := h2.cells
    replace h2 := (show Aside _ from h2)
    (repeat' first
    | simp (contextual := true) (maxSteps := 4000000) only [fwc, fwe, fww, reduceIte, ↓reduceIte, Nat.reduceAdd, Nat.reduceLeDiff, Nat.reduceEqDiff, Nat.reduceLT, Nat.reduceSub, reduceCtorEq, Int.reduceEq, Int.reduceLT, Int.reduceLE, Int.reduceNeg, Int.reduceToNat, Int.reduceAdd, Int.reduceSub, Nat.reduceMul, *]
    | (refine seqK_now ?_)
    | (refine retK_now ?_)
    | (refine retK_now' ?_)
    | (intro q hq)
    | (refine cond_intro (fun hc => ?_) (fun hc => ?_)))
    refine ClipH_own s _ O0 O2 h2.out _ fun s7 h7 => ?_
    have sc7 := h7.cells
    have ss7 := h7.stor
    replace h7 := (show Aside _ from h7)
    (repeat' first
    | simp (contextual := true) (maxSteps := 4000000) only [fwc, fwe, fww, reduceIte, ↓reduceIte, Nat.reduceAdd, Nat.reduceLeDiff, Nat.reduceEqDiff, Nat.reduceLT, Nat.reduceSub, reduceCtorEq, Int.reduceEq, Int.reduceLT, Int.reduceLE, Int.reduceNeg, Int.reduceToNat, Int.reduceAdd, Int.reduceSub, Nat.reduceMul, *]
    | (refine seqK_now ?_)
    | (refine retK_now ?_)
    | (refine retK_now' ?_)
    | (intro q hq)
    | (refine cond_intro (fun hc => ?_) (fun hc => ?_)))
    exact hK.out _ _ _ hO0.out h7.out
  have e0 : decide (t < 2) = true := decide_eq_true ht
  obtain ⟨X, gs, G, hX, hIs, hnext, hG40, hG4, hbl⟩ := hpick.out t ht
  have hia0 := IsL.ia (show IsL 1 (.list 1 true [f, b]) [f, b] from .inr ⟨true, rfl⟩) (i := t) (by simpa using ht)
  rw [show [f, b][t] = X from by
    rw [List.getElem?_eq_getElem (by simpa using ht)] at hX
    exact Option.some.inj hX] at hia0
  have xc := hIs.1.cells
  have xs := hIs.1.stor
  have xl := hIs.1.len
  rw [hIs.2.1] at xl
  have wt : IntKind.i64.wrap ((t : Int) + 1) = ((t + 1 : Nat) : Int) := by rw [wrap_i64 (by omega) (by omega)]; omega
  have hut : IntKind.u8.wrap (t : Int) = (t : Int) := wrap_u8 (by omega) (by omega)
  replace ht := (show Aside _ from ht)
  replace hIs := (show Aside _ from hIs)
  replace hX := (show Aside _ from hX)
  replace hnext := (show Aside _ from hnext)
  replace hG40 := (show Aside _ from hG40)
  replace hG4 := (show Aside _ from hG4)
  replace hbl := (show Aside _ from hbl)
  (repeat' first
    | simp (contextual := true) (maxSteps := 4000000) only [fwc, fwe, fww, reduceIte, ↓reduceIte, Nat.reduceAdd, Nat.reduceLeDiff, Nat.reduceEqDiff, Nat.reduceLT, Nat.reduceSub, reduceCtorEq, Int.reduceEq, Int.reduceLT, Int.reduceLE, Int.reduceNeg, Int.reduceToNat, Int.reduceAdd, Int.reduceSub, Nat.reduceMul, *]
    | (refine retK_now ?_)
    | (refine retK_now' ?_)
    | (intro q hq)
    | (refine cond_intro (fun hc => ?_) (fun hc => ?_)))
  refine seqK_now ?_
  (repeat' first
    | simp (contextual := true) (maxSteps := 4000000) only [fwc, fwe, fww, reduceIte, ↓reduceIte, Nat.reduceAdd, Nat.reduceLeDiff, Nat.reduceEqDiff, Nat.reduceLT, Nat.reduceSub, reduceCtorEq, Int.reduceEq, Int.reduceLT, Int.reduceLE, Int.reduceNeg, Int.reduceToNat, Int.reduceAdd, Int.reduceSub, Nat.reduceMul, *]
    | (refine retK_now ?_)
    | (refine retK_now' ?_)
    | (intro q hq)
    | (refine cond_intro (fun hc => ?_) (fun hc => ?_)))
  refine seqK_now ?_
  (repeat' first
    | simp (contextual := true) (maxSteps := 4000000) only [fwc, fwe, fww, reduceIte, ↓reduceIte, Nat.reduceAdd, Nat.reduceLeDiff, Nat.reduceEqDiff, Nat.reduceLT, Nat.reduceSub, reduceCtorEq, Int.reduceEq, Int.reduceLT, Int.reduceLE, Int.reduceNeg, Int.reduceToNat, Int.reduceAdd, Int.reduceSub, Nat.reduceMul, part_cell, *]
    | (refine retK_now ?_)
    | (refine retK_now' ?_)
    | (intro q hq)
    | (refine cond_intro (fun hc => ?_) (fun hc => ?_)))
  refine seqK_now ?_
  (repeat' first
    | simp (contextual := true) (maxSteps := 4000000) only [fwc, fwe, fww, reduceIte, ↓reduceIte, Nat.reduceAdd, Nat.reduceLeDiff, Nat.reduceEqDiff, Nat.reduceLT, Nat.reduceSub, reduceCtorEq, Int.reduceEq, Int.reduceLT, Int.reduceLE, Int.reduceNeg, Int.reduceToNat, Int.reduceAdd, Int.reduceSub, Nat.reduceMul, part_cell, *]
    | (refine retK_now ?_)
    | (refine retK_now' ?_)
    | (intro q hq)
    | (refine cond_intro (fun hc => ?_) (fun hc => ?_)))
  refine seqK_now ?_
  obtain ⟨J, hJ⟩ := hideI (fun m e O' => ∃ (i : Nat) (s : AV) (O0 : Heap), i ≤ G.length ∧ m = G.length - i ∧ O.sub O0 ∧ OwN 40 5 O0 O' s ((heldT F B r t ++ heldN (t : Int) r G i).map Hd.av) ∧ e = e19b r s (.list 1 true [f, b]) t X G.length i)
  (repeat' first
    | simp (contextual := true) (maxSteps := 4000000) only [fwc, fwe, fww, reduceIte, ↓reduceIte, Nat.reduceAdd, Nat.reduceLeDiff, Nat.reduceEqDiff, Nat.reduceLT, Nat.reduceSub, reduceCtorEq, Int.reduceEq, Int.reduceLT, Int.reduceLE, Int.reduceNeg, Int.reduceToNat, Int.reduceAdd, Int.reduceSub, Nat.reduceMul, *]
    | (refine retK_now ?_)
    | (refine retK_now' ?_)
    | (intro q hq)
    | (refine cond_intro (fun hc => ?_) (fun hc => ?_)))
  refine cmd_loop J G.length (by
    rw [hJ.out]
    exact ⟨0, s, O0, Nat.zero_le _, rfl, hO0.out, by rw [show heldN (t : Int) r G 0 = [] from rfl, List.append_nil]; exact hs.out, rfl⟩) ?_
  clear hs hO0 sc sst O0 s
  intro m e O1 hh
  rw [hJ.out] at hh
  obtain ⟨i, s, O0, hiG, rfl, hO0, hs, rfl⟩ := hh
  unfold e19b
  have sc := hs.cells
  have sst := hs.stor
  replace hO0 := (show Aside _ from hO0)
  replace hs := (show Aside _ from hs)
  by_cases hi : i < G.length
  rotate_left
  · have e1 : decide (i < G.length) = false := decide_eq_false hi
    have hie : i = G.length := by omega
    rw [hie, ← hnext.out] at hs
    replace hi := (show Aside _ from hi)
    replace hie := (show Aside _ from hie)
    replace hiG := (show Aside _ from hiG)
    (repeat' first
    | simp (contextual := true) (maxSteps := 4000000) only [fwc, fwe, fww, reduceIte, ↓reduceIte, Nat.reduceAdd, Nat.reduceLeDiff, Nat.reduceEqDiff, Nat.reduceLT, Nat.reduceSub, reduceCtorEq, Int.reduceEq, Int.reduceLT, Int.reduceLE, Int.reduceNeg, Int.reduceToNat, Int.reduceAdd, Int.reduceSub, Nat.reduceMul, ilt_nat, *]
    | (refine seqK_now ?_)
    | (refine retK_now ?_)
    | (refine retK_now' ?_)
    | (intro q hq)
    | (refine cond_intro (fun hc => ?_) (fun hc => ?_)))
    refine loopK_now (2 - (t + 1)) (by have := ht.out; omega) ?_
    rw [hI.out]
    exact ⟨t + 1, s, O0, by have := ht.out; omega, rfl, hO0.out, hs.out, rfl⟩
  have e1 : decide (i < G.length) = true := decide_eq_true hi
  have hwi : i < 4611686018427387904 := by have := hG40.out; omega
  have hgi : i < gs.length := by rw [hIs.out.2.1]; exact hi
  have hib := hIs.out.2.2 i hgi hi
  have hia1 := IsL.ia hIs.out.1 (i := i) hgi
  have hgd : G.getD i [] = G[i] := by rw [List.getD_eq_getElem?_getD, List.getElem?_eq_getElem hi]; rfl
  have hl4 := hG4.out i
  rw [hgd] at hl4
  have hNl := heldN_len hG4.out (t : Int) r i
  have hsuc := heldN_succ (t : Int) r G i
  rw [hgd] at hsuc
  generalize gs[i] = Y at *
  generalize G[i] = W at *
  have yc := hib.cells
  have ys := hib.stor
  have yl := hib.len
  rw [List.length_map] at yl
  have hgood : (⟨(t : Int), ((i + 1 : Nat) : Int)⟩ : Ndl).bad = false := by
    unfold Ndl.bad
    simp only [Bool.or_eq_false_iff, decide_eq_false_iff_not]
    have := ht.out
    have := hG40.out
    omega
  have hSp := Spot_ok ⟨(t : Int), ((i + 1 : Nat) : Int)⟩ r
  rw [if_neg (by rw [hgood, hr.out]; simp)] at hSp
  rw [show (⟨(t : Int), ((i + 1 : Nat) : Int)⟩ : Ndl).av = .agg [.val (.int .u8 (t : Int)), .val (.int .i64 ((i + 1 : Nat) : Int))] from rfl] at hSp
  have hbase : (heldT F B r t ++ heldN (t : Int) r G i).length ≤ 320 := by rw [List.length_append]; have := hbl.out; have := hG40.out; omega
  obtain ⟨base, hbase2⟩ : ∃ L, heldT F B r t ++ heldN (t : Int) r G i = L := ⟨_, rfl⟩
  have hnx : heldT F B r t ++ heldN (t : Int) r G (i + 1) = base ++ held1 (t : Int) r i W := by rw [hsuc, ← List.append_assoc, hbase2]
  rw [hbase2] at hs hbase
  clear hsuc hgd
  replace hi := (show Aside _ from hi)
  replace hiG := (show Aside _ from hiG)
  replace hib := (show Aside _ from hib)
  replace hgood := (show Aside _ from hgood)
  replace hl4 := (show Aside _ from hl4)
  replace hNl := (show Aside _ from hNl)
  replace hbase := (show Aside _ from hbase)
  replace hbase2 := (show Aside _ from hbase2)
  replace hnx := (show Aside _ from hnx)
  (repeat' first
    | simp (contextual := true) (maxSteps := 4000000) only [fwc, fwe, fww, reduceIte, ↓reduceIte, Nat.reduceAdd, Nat.reduceLeDiff, Nat.reduceEqDiff, Nat.reduceLT, Nat.reduceSub, reduceCtorEq, Int.reduceEq, Int.reduceLT, Int.reduceLE, Int.reduceNeg, Int.reduceToNat, Int.reduceAdd, Int.reduceSub, Nat.reduceMul, ilt_nat, *]
    | (refine retK_now ?_)
    | (refine retK_now' ?_)
    | (intro q hq)
    | (refine cond_intro (fun hc => ?_) (fun hc => ?_)))
  refine seqK_now ?_
  (repeat' first
    | simp (contextual := true) (maxSteps := 4000000) only [fwc, fwe, fww, reduceIte, ↓reduceIte, Nat.reduceAdd, Nat.reduceLeDiff, Nat.reduceEqDiff, Nat.reduceLT, Nat.reduceSub, reduceCtorEq, Int.reduceEq, Int.reduceLT, Int.reduceLE, Int.reduceNeg, Int.reduceToNat, Int.reduceAdd, Int.reduceSub, Nat.reduceMul, ilt_nat, *]
    | (refine retK_now ?_)
    | (refine retK_now' ?_)
    | (intro q hq)
    | (refine cond_intro (fun hc => ?_) (fun hc => ?_)))
  refine seqK_now ?_
  (repeat' first
    | simp (contextual := true) (maxSteps := 4000000) only [fwc, fwe, fww, reduceIte, ↓reduceIte, Nat.reduceAdd, Nat.reduceLeDiff, Nat.reduceEqDiff, Nat.reduceLT, Nat.reduceSub, reduceCtorEq, Int.reduceEq, Int.reduceLT, Int.reduceLE, Int.reduceNeg, Int.reduceToNat, Int.reduceAdd, Int.reduceSub, Nat.reduceMul, part_cell, ilt_nat, *]
    | (refine retK_now ?_)
    | (refine retK_now' ?_)
    | (intro q hq)
    | (refine cond_intro (fun hc => ?_) (fun hc => ?_)))
  refine seqK_now ?_
  (repeat' first
    | simp (contextual := true) (maxSteps := 4000000) only [fwc, fwe, fww, reduceIte, ↓reduceIte, Nat.reduceAdd, Nat.reduceLeDiff, Nat.reduceEqDiff, Nat.reduceLT, Nat.reduceSub, reduceCtorEq, Int.reduceEq, Int.reduceLT, Int.reduceLE, Int.reduceNeg, Int.reduceToNat, Int.reduceAdd, Int.reduceSub, Nat.reduceMul, part_cell, part_agg, ilt_nat, wrap_succ, *]
    | (refine retK_now ?_)
    | (refine retK_now' ?_)
    | (intro q hq)
    | (refine cond_intro (fun hc => ?_) (fun hc => ?_)))
  revert q
  intro q10 hq10
  refine seqK_now ?_
  have o10 := own_none hs.out hq10
  have sub10 := sub_new hO0.out o10 (v := .arr 38 2 [.agg [.val (.int .u8 (t : Int)), .val (.int .i64 ((i + 1 : Nat) : Int))]])
  have own10 := own_new hs.out (x := .arr 38 2 [.agg [.val (.int .u8 (t : Int)), .val (.int .i64 ((i + 1 : Nat) : Int))]]) hq10
  have w10 : (O0.upd q10 (.arr 38 2 [.agg [.val (.int .u8 (t : Int)), .val (.int .i64 ((i + 1 : Nat) : Int))]])) q10 = some (.arr 38 2 [.agg [.val (.int .u8 (t : Int)), .val (.int .i64 ((i + 1 : Nat) : Int))]]) := Heap.upd_same _ _ _
  replace sub10 := (show Aside _ from sub10)
  replace own10 := (show Aside _ from own10)
  replace w10 := (show Aside _ from w10)
  replace o10 := (show Aside _ from o10)
  (repeat' first
    | simp (contextual := true) (maxSteps := 4000000) only [fwc, fwe, fww, reduceIte, ↓reduceIte, Nat.reduceAdd, Nat.reduceLeDiff, Nat.reduceEqDiff, Nat.reduceLT, Nat.reduceSub, reduceCtorEq, Int.reduceEq, Int.reduceLT, Int.reduceLE, Int.reduceNeg, Int.reduceToNat, Int.reduceAdd, Int.reduceSub, Nat.reduceMul, part_cell, part_agg, ilt_nat, wrap_succ, *]
    | (refine retK_now ?_)
    | (refine retK_now' ?_)
    | (intro q hq)
    | (refine cond_intro (fun hc => ?_) (fun hc => ?_)))
  refine seqK_now ?_
  obtain ⟨T, hT⟩ := hideI (fun m e O' => ∃ (k : Nat) (s : AV) (O2 : Heap), k ≤ W.length ∧ m = W.length - k ∧ O.sub O2 ∧ O2 q10 = some (.arr 38 2 [.agg [.val (.int .u8 (t : Int)), .val (.int .i64 ((i + 1 : Nat) : Int))]]) ∧ OwN 40 5 O2 O' s ((base ++ held1 (t : Int) r i (W.take k)).map Hd.av) ∧ e = e19c r s (.list 1 true [f, b]) t X G.length i q10 Y W.length k)
  (repeat' first
    | simp (contextual := true) (maxSteps := 4000000) only [fwc, fwe, fww, reduceIte, ↓reduceIte, Nat.reduceAdd, Nat.reduceLeDiff, Nat.reduceEqDiff, Nat.reduceLT, Nat.reduceSub, reduceCtorEq, Int.reduceEq, Int.reduceLT, Int.reduceLE, Int.reduceNeg, Int.reduceToNat, Int.reduceAdd, Int.reduceSub, Nat.reduceMul, *]
    | (refine retK_now ?_)
    | (refine retK_now' ?_)
    | (intro q hq)
    | (refine cond_intro (fun hc => ?_) (fun hc => ?_)))
  refine cmd_loop T W.length (by
    rw [hT.out]
    exact ⟨0, s, _, Nat.zero_le _, rfl, sub10.out, w10.out, by rw [List.take_zero]; rw [show held1 (t : Int) r i [] = [] from rfl, List.append_nil]; exact own10.out, rfl⟩) ?_
  clear hs own10 w10 sub10 hq10 o10 hO0 sc sst
  intro m e O2 hh
  rw [hT.out] at hh
  obtain ⟨k, s3, O4, hk4, rfl, hO4, hw4, hs3, rfl⟩ := hh
  unfold e19c
  have f10 := hs3.at_ hw4
  have sc := hs3.cells
  have sst := hs3.stor
  replace hO4 := (show Aside _ from hO4)
  replace hw4 := (show Aside _ from hw4)
  replace hs3 := (show Aside _ from hs3)
  by_cases hk : k < W.length
  rotate_left
  · have e2 : decide (k < W.length) = false := decide_eq_false hk
    have hke : k = W.length := by omega
    replace hk := (show Aside _ from hk)
    rw [hke, List.take_length] at hs3
    replace hke := (show Aside _ from hke)
    replace hk4 := (show Aside _ from hk4)
    (repeat' first
    | simp (contextual := true) (maxSteps := 4000000) only [fwc, fwe, fww, reduceIte, ↓reduceIte, Nat.reduceAdd, Nat.reduceLeDiff, Nat.reduceEqDiff, Nat.reduceLT, Nat.reduceSub, reduceCtorEq, Int.reduceEq, Int.reduceLT, Int.reduceLE, Int.reduceNeg, Int.reduceToNat, Int.reduceAdd, Int.reduceSub, Nat.reduceMul, ilt_nat, part_cell, part_agg, wrap_succ, *]
    | (refine seqK_now ?_)
    | (refine retK_now ?_)
    | (refine retK_now' ?_)
    | (intro q hq)
    | (refine cond_intro (fun hc => ?_) (fun hc => ?_)))
    refine loopK_now (G.length - (i + 1)) (by have := hi.out; omega) ?_
    rw [hJ.out]
    refine ⟨i + 1, s3, O4, by have := hi.out; omega, rfl, hO4.out, ?_, rfl⟩
    rw [hnx.out]
    exact hs3.out
  have e2 : decide (k < W.length) = true := decide_eq_true hk
  have hwk : k < 4611686018427387904 := by have := hl4.out; omega
  have hia2 := IsL.ia hib.out (i := k) (by rw [List.length_map]; exact hk)
  rw [List.getElem_map] at hia2
  have htk : held1 (t : Int) r i (W.take (k + 1)) = held1 (t : Int) r i (W.take k) ++ [⟨W[k], (t : Int), ((i + 1 : Nat) : Int), spotL ⟨(t : Int), ((i + 1 : Nat) : Int)⟩ r⟩] := by
    unfold held1
    rw [List.take_add_one, List.getElem?_eq_getElem hk, List.map_append]
    rfl
  have htl : (held1 (t : Int) r i (W.take k)).length ≤ 4 := by
    have := List.length_take_le k W
    have := hl4.out
    unfold held1
    rw [List.length_map]
    omega
  generalize W[k] = y at *
  rw [show y.av = .agg [.val (.int .u8 y.y), .val (.int .i64 y.n)] from rfl] at hia2
  replace hk := (show Aside _ from hk)
  replace hk4 := (show Aside _ from hk4)
  replace htk := (show Aside _ from htk)
  replace htl := (show Aside _ from htl)
  (repeat' first
    | simp (contextual := true) (maxSteps := 4000000) only [fwc, fwe, fww, reduceIte, ↓reduceIte, Nat.reduceAdd, Nat.reduceLeDiff, Nat.reduceEqDiff, Nat.reduceLT, Nat.reduceSub, reduceCtorEq, Int.reduceEq, Int.reduceLT, Int.reduceLE, Int.reduceNeg, Int.reduceToNat, Int.reduceAdd, Int.reduceSub, Nat.reduceMul, ilt_nat, part_cell, part_agg, *]
    | (refine retK_now ?_)
    | (refine retK_now' ?_)
    | (intro q hq)
    | (refine cond_intro (fun hc => ?_) (fun hc => ?_)))
  refine seqK_now ?_
  (repeat' first
    | simp (contextual := true) (maxSteps := 4000000) only [fwc, fwe, fww, reduceIte, ↓reduceIte, Nat.reduceAdd, Nat.reduceLeDiff, Nat.reduceEqDiff, Nat.reduceLT, Nat.reduceSub, reduceCtorEq, Int.reduceEq, Int.reduceLT, Int.reduceLE, Int.reduceNeg, Int.reduceToNat, Int.reduceAdd, Int.reduceSub, Nat.reduceMul, ilt_nat, part_cell, part_agg, *]
    | (refine retK_now ?_)
    | (refine retK_now' ?_)
    | (intro q hq)
    | (refine cond_intro (fun hc => ?_) (fun hc => ?_)))
  refine seqK_now ?_
  (repeat' first
    | simp (contextual := true) (maxSteps := 4000000) only [fwc, fwe, fww, reduceIte, ↓reduceIte, Nat.reduceAdd, Nat.reduceLeDiff, Nat.reduceEqDiff, Nat.reduceLT, Nat.reduceSub, reduceCtorEq, Int.reduceEq, Int.reduceLT, Int.reduceLE, Int.reduceNeg, Int.reduceToNat, Int.reduceAdd, Int.reduceSub, Nat.reduceMul, ilt_nat, part_cell, part_agg, *]
    | (refine retK_now ?_)
    | (refine retK_now' ?_)
    | (intro q hq)
    | (refine cond_intro (fun hc => ?_) (fun hc => ?_)))
  revert q
  intro q12 hq12
  refine seqK_now ?_
  have o12 := own_none hs3.out hq12
  have sub12 := sub_new hO4.out o12 (v := .arr 35 2 [.agg [.val (.int .u8 y.y), .val (.int .i64 y.n)]])
  have own12 := own_new hs3.out (x := .arr 35 2 [.agg [.val (.int .u8 y.y), .val (.int .i64 y.n)]]) hq12
  have v12 := upd_keep (v := .arr 35 2 [.agg [.val (.int .u8 y.y), .val (.int .i64 y.n)]]) o12 hw4.out
  have n1012 := ne_of f10 hq12
  replace sub12 := (show Aside _ from sub12)
  replace own12 := (show Aside _ from own12)
  replace v12 := (show Aside _ from v12)
  replace o12 := (show Aside _ from o12)
  (repeat' first
    | simp (contextual := true) (maxSteps := 4000000) only [fwc, fwe, fww, reduceIte, ↓reduceIte, Nat.reduceAdd, Nat.reduceLeDiff, Nat.reduceEqDiff, Nat.reduceLT, Nat.reduceSub, reduceCtorEq, Int.reduceEq, Int.reduceLT, Int.reduceLE, Int.reduceNeg, Int.reduceToNat, Int.reduceAdd, Int.reduceSub, Nat.reduceMul, ilt_nat, part_cell, part_agg, *]
    | (refine retK_now ?_)
    | (refine retK_now' ?_)
    | (intro q hq)
    | (refine cond_intro (fun hc => ?_) (fun hc => ?_)))
  refine callF_use hSp ?_
  (repeat' first
    | simp (contextual := true) (maxSteps := 4000000) only [fwc, fwe, fww, reduceIte, ↓reduceIte, Nat.reduceAdd, Nat.reduceLeDiff, Nat.reduceEqDiff, Nat.reduceLT, Nat.reduceSub, reduceCtorEq, Int.reduceEq, Int.reduceLT, Int.reduceLE, Int.reduceNeg, Int.reduceToNat, Int.reduceAdd, Int.reduceSub, Nat.reduceMul, ilt_nat, part_cell, part_agg, *]
    | (refine retK_now ?_)
    | (refine retK_now' ?_)
    | (intro q hq)
    | (refine cond_intro (fun hc => ?_) (fun hc => ?_)))
  refine own_app (bytes := 40) own12.out (X := [Hd.av ⟨y, (t : Int), ((i + 1 : Nat) : Int), spotL ⟨(t : Int), ((i + 1 : Nat) : Int)⟩ r⟩]) (.inr ⟨true, rfl⟩) (fits_of (by have := hbase.out; have := htl.out; simp only [List.length_append, List.length_map, List.length_cons, List.length_nil] at this ⊢; omega) (by omega)) fun s5 O5 h5 => ?_
  have sc5 := h5.cells
  have sst5 := h5.stor
  replace h5 := (show Aside _ from h5)
  (repeat' first
    | simp (contextual := true) (maxSteps := 4000000) only [fwc, fwe, fww, reduceIte, ↓reduceIte, Nat.reduceAdd, Nat.reduceLeDiff, Nat.reduceEqDiff, Nat.reduceLT, Nat.reduceSub, reduceCtorEq, Int.reduceEq, Int.reduceLT, Int.reduceLE, Int.reduceNeg, Int.reduceToNat, Int.reduceAdd, Int.reduceSub, Nat.reduceMul, ilt_nat, part_cell, part_agg, wrap_succ, *]
    | (refine seqK_now ?_)
    | (refine retK_now ?_)
    | (refine retK_now' ?_)
    | (intro q hq)
    | (refine cond_intro (fun hc => ?_) (fun hc => ?_)))
  refine loopK_now (W.length - (k + 1)) (by have := hk.out; omega) ?_
  rw [hT.out]
  refine ⟨k + 1, s5, _, by have := hk.out; omega, rfl, sub12.out, v12.out, ?_, rfl⟩
  rw [htk.out, ← List.append_assoc, List.map_append]
  exact h5.out

theorem list_ok {x : AV} {F B : List (List Id)} (h : IsBeds x F B) (hF : F.length ≤ 40) (hB : B.length ≤ 40) (h4F : ∀ i, (F.getD i []).length ≤ 4) (h4B : ∀ i, (B.getD i []).length ≤ 4) (r : Int) (hr : rackOK r = true) :
    PureA Try.prog 19 [x, .val (.int .i64 r)] (tA 5 ((bySpot (heldT F B r 2)).map Hd.av)) := fun O =>
  list_gen h hF hB h4F h4B r hr O _ fun s O0 O2 h1 h2 => OwC.pure h1 h2
theorem List_ok {x : AV} {F B : List (List Id)} (h : IsBeds x F B) (hc : checkL F B = 0) (hF : F.length ≤ 40) (hB : B.length ≤ 40) (h4F : ∀ i, (F.getD i []).length ≤ 4) (h4B : ∀ i, (B.getD i []).length ≤ 4) (r : Int) :
    PureA Try.prog 8 [x, .val (.int .i64 r)] (if rackOK r = true then .tup [tA 5 ((bySpot (heldT F B r 2)).map Hd.av), .val (.int .i64 0)] else .tup [.val (.slice none 0 0), .val (.int .i64 11)]) := by
  have hu := usual_ok h hc r
  have hl := fun hr => list_ok h hF hB h4F h4B r hr
  obtain ⟨f, b, rfl, c1, c2, s1, s2, _, _⟩ := h.cells
  clear h
  have d0 : decide ((0 : Int) = 0) = true := by decide
  have d1 : decide ((11 : Int) = 0) = false := by decide
  replace hc := (show Aside _ from hc)
  replace hF := (show Aside _ from hF)
  replace hB := (show Aside _ from hB)
  replace h4F := (show Aside _ from h4F)
  replace h4B := (show Aside _ from h4B)
  intro O
  refine k8.call mix ?_
  unfold c8
  by_cases hr : rackOK r = true
  · have hl := hl hr
    rw [if_pos hr] at hu
    rw [if_pos hr]
    have tc := (tA_T 5 ((bySpot (heldT F B r 2)).map Hd.av)).isL.cells
    have ts := (tA_T 5 ((bySpot (heldT F B r 2)).map Hd.av)).isL.stor
    generalize tA 5 ((bySpot (heldT F B r 2)).map Hd.av) = R at *
    replace hr := (show Aside _ from hr)
    (repeat' first
    | simp (contextual := true) (maxSteps := 4000000) only [fwc, fwe, fww, reduceIte, ↓reduceIte, Nat.reduceAdd, Nat.reduceLeDiff, Nat.reduceEqDiff, Nat.reduceLT, Nat.reduceSub, reduceCtorEq, Int.reduceEq, Int.reduceLT, Int.reduceLE, Int.reduceNeg, Int.reduceToNat, Int.reduceAdd, Int.reduceSub, Nat.reduceMul, part_cell, part_agg, *]
    | (refine seqK_now ?_)
    | (refine retK_now ?_)
    | (refine retK_now' ?_)
    | (intro q hq)
    | (refine cond_intro (fun hc => ?_) (fun hc => ?_)))
    refine hu.use ?_
    (repeat' first
    | simp (contextual := true) (maxSteps := 4000000) only [fwc, fwe, fww, reduceIte, ↓reduceIte, Nat.reduceAdd, Nat.reduceLeDiff, Nat.reduceEqDiff, Nat.reduceLT, Nat.reduceSub, reduceCtorEq, Int.reduceEq, Int.reduceLT, Int.reduceLE, Int.reduceNeg, Int.reduceToNat, Int.reduceAdd, Int.reduceSub, Nat.reduceMul, part_cell, part_agg, *]
    | (refine seqK_now ?_)
    | (refine retK_now ?_)
    | (refine retK_now' ?_)
    | (intro q hq)
    | (refine cond_intro (fun hc => ?_) (fun hc => ?_)))
    refine hl.use ?_
    (repeat' first
    | simp (contextual := true) (maxSteps := 4000000) only [fwc, fwe, fww, reduceIte, ↓reduceIte, Nat.reduceAdd, Nat.reduceLeDiff, Nat.reduceEqDiff, Nat.reduceLT, Nat.reduceSub, reduceCtorEq, Int.reduceEq, Int.reduceLT, Int.reduceLE, Int.reduceNeg, Int.reduceToNat, Int.reduceAdd, Int.reduceSub, Nat.reduceMul, part_cell, part_agg, *]
    | (refine seqK_now ?_)
    | (refine retK_now ?_)
    | (refine retK_now' ?_)
    | (intro q hq)
    | (refine cond_intro (fun hc => ?_) (fun hc => ?_)))
    refine WeakR.pure (sub_upd hq (Heap.sub_refl _)) ?_
    rfl
  · rw [if_neg hr] at hu
    rw [if_neg hr]
    clear hl
    replace hr := (show Aside _ from hr)
    (repeat' first
    | simp (contextual := true) (maxSteps := 4000000) only [fwc, fwe, fww, reduceIte, ↓reduceIte, Nat.reduceAdd, Nat.reduceLeDiff, Nat.reduceEqDiff, Nat.reduceLT, Nat.reduceSub, reduceCtorEq, Int.reduceEq, Int.reduceLT, Int.reduceLE, Int.reduceNeg, Int.reduceToNat, Int.reduceAdd, Int.reduceSub, Nat.reduceMul, part_cell, part_agg, *]
    | (refine seqK_now ?_)
    | (refine retK_now ?_)
    | (refine retK_now' ?_)
    | (intro q hq)
    | (refine cond_intro (fun hc => ?_) (fun hc => ?_)))
    refine hu.use ?_
    (repeat' first
    | simp (contextual := true) (maxSteps := 4000000) only [fwc, fwe, fww, reduceIte, ↓reduceIte, Nat.reduceAdd, Nat.reduceLeDiff, Nat.reduceEqDiff, Nat.reduceLT, Nat.reduceSub, reduceCtorEq, Int.reduceEq, Int.reduceLT, Int.reduceLE, Int.reduceNeg, Int.reduceToNat, Int.reduceAdd, Int.reduceSub, Nat.reduceMul, part_cell, part_agg, *]
    | (refine seqK_now ?_)
    | (refine retK_now ?_)
    | (refine retK_now' ?_)
    | (intro q hq)
    | (refine cond_intro (fun hc => ?_) (fun hc => ?_)))
    refine WeakR.pure (sub_upd hq (Heap.sub_refl _)) ?_
    rfl
end Go.Proofs.Ytembkknplmcamaa

namespace Go.Proofs.Ytembkknplmcamaa
open Go.Ab
attribute [local irreducible] WeakR WeakE CallA YieldA

/-! listed, and that the stable sort is what it gives. -/
def lis1 (F B : List (List Id)) (r sp : Int) (i : Nat) : List Hd := if spotL (needleL i) r = sp then (atL F B (needleL i)).map fun p => (⟨p, (needleL i).bed, (needleL i).at_, sp⟩ : Hd) else []
def lisN (F B : List (List Id)) (r sp : Int) (n : Nat) : List Hd := (List.range n).flatMap (lis1 F B r sp)
def lisA (F B : List (List Id)) (r : Int) (n : Nat) : List Hd := (List.range n).flatMap fun a : Nat => lisN F B r (-12 + 2 * (a : Int)) 80
theorem lisA_succ (F B : List (List Id)) (r : Int) (n : Nat) : lisA F B r (n + 1) = lisA F B r n ++ lisN F B r (-12 + 2 * (n : Int)) 80 := by
  unfold lisA
  rw [List.range_succ, List.flatMap_append]
  simp
theorem heldN_more {bd r : Int} {G : List (List Id)} {n : Nat} (h : G.length ≤ n) : heldN bd r G n = heldN bd r G G.length := by
  induction n with
  | zero => rw [show G.length = 0 by omega]
  | succ n ih =>
    by_cases he : G.length = n + 1
    · rw [he]
    · have hg : G.getD n [] = [] := by rw [List.getD_eq_getElem?_getD, List.getElem?_eq_none (by omega)]; rfl
      rw [heldN_succ, ih (by omega), hg]
      simp [held1]
theorem held1_flt (bd r s : Int) (i : Nat) (l : List Id) : (held1 bd r i l).filter (fun x => decide (x.spot = s)) = if spotL ⟨bd, ((i + 1 : Nat) : Int)⟩ r = s then l.map (fun p => (⟨p, bd, ((i + 1 : Nat) : Int), s⟩ : Hd)) else [] := by
  unfold held1
  rw [List.filter_map]
  split
  · rename_i h
    rw [show (List.filter ((fun x : Hd => decide (x.spot = s)) ∘ fun p => (⟨p, bd, ((i + 1 : Nat) : Int), spotL ⟨bd, ((i + 1 : Nat) : Int)⟩ r⟩ : Hd)) l) = l from List.filter_eq_self.2 fun p _ => decide_eq_true h, h]
  · rename_i h
    rw [show (List.filter ((fun x : Hd => decide (x.spot = s)) ∘ fun p => (⟨p, bd, ((i + 1 : Nat) : Int), spotL ⟨bd, ((i + 1 : Nat) : Int)⟩ r⟩ : Hd)) l) = [] from List.filter_eq_nil_iff.2 fun p _ => by show ¬ decide (spotL ⟨bd, ((i + 1 : Nat) : Int)⟩ r = s) = true; rw [decide_eq_true_eq]; exact h]
    rfl
theorem fm_congr {α β : Type} {l : List α} {f g : α → List β} (h : ∀ a ∈ l, f a = g a) : l.flatMap f = l.flatMap g := by
  induction l with
  | nil => rfl
  | cons a l ih => rw [List.flatMap_cons, List.flatMap_cons, h a List.mem_cons_self, ih fun b hb => h b (List.mem_cons_of_mem _ hb)]
theorem heldN_flt (bd r s : Int) (G : List (List Id)) (n : Nat) : (heldN bd r G n).filter (fun x => decide (x.spot = s)) = (List.range n).flatMap fun i => if spotL ⟨bd, ((i + 1 : Nat) : Int)⟩ r = s then (G.getD i []).map (fun p => (⟨p, bd, ((i + 1 : Nat) : Int), s⟩ : Hd)) else [] := by
  unfold heldN
  rw [List.filter_flatMap]
  exact fm_congr fun i _ => held1_flt bd r s i _
theorem needle_lo' {i : Nat} (hi : i < 40) : needleL i = ⟨0, ((i + 1 : Nat) : Int)⟩ := by
  unfold needleL
  congr 1 <;> omega
theorem needle_hi' {i : Nat} (hi : i < 40) : needleL (40 + i) = ⟨1, ((i + 1 : Nat) : Int)⟩ := by
  unfold needleL
  congr 1 <;> omega
theorem held_lis {F B : List (List Id)} (hF : F.length ≤ 40) (hB : B.length ≤ 40) (r s : Int) : (heldT F B r 2).filter (fun x => decide (x.spot = s)) = lisN F B r s 80 := by
  show ((heldN 0 r F F.length ++ heldN 1 r B B.length).filter _) = _
  rw [← heldN_more (n := 40) hF, ← heldN_more (n := 40) hB, List.filter_append, heldN_flt, heldN_flt]
  unfold lisN
  rw [show (80 : Nat) = 40 + 40 from rfl, List.range_add, List.flatMap_append, List.flatMap_map]
  have e0 : ∀ (A B C D : List Hd), A = C → B = D → A ++ B = C ++ D := fun A B C D h1 h2 => by rw [h1, h2]
  refine e0 _ _ _ _ (fm_congr fun i hi => ?_) (fm_congr fun i hi => ?_)
  · have hi' := List.mem_range.1 hi
    have ha := at_needle F B i (by omega)
    rw [if_pos hi'] at ha
    unfold lis1
    rw [ha, needle_lo' hi']
  · have hi' := List.mem_range.1 hi
    have ha := at_needle F B (40 + i) (by omega)
    rw [if_neg (by omega), show 40 + i - 40 = i by omega] at ha
    unfold lis1
    rw [ha, needle_hi' hi']
theorem list_listed {F B : List (List Id)} (hF : F.length ≤ 40) (hB : B.length ≤ 40) (r : Int) : bySpot (heldT F B r 2) = lisA F B r 95 := by
  unfold bySpot lisA
  exact fm_congr fun a _ => held_lis hF hB r _
theorem tab_le4 {T : List (List Id)} {n : Nat} (h : TabOK T n) : (∀ i, ((bedsF T).getD i []).length ≤ 4) ∧ (∀ i, ((bedsB T).getD i []).length ≤ 4) := by
  have key : ∀ i, (T.getD i []).length ≤ 4 := fun i => by
    rw [List.getD_eq_getElem?_getD]
    by_cases hi : i < T.length
    · rw [List.getElem?_eq_getElem hi]; exact h.le _ (List.getElem_mem hi)
    · rw [List.getElem?_eq_none (by omega)]; simp
  constructor
  · intro i
    rw [List.getD_eq_getElem?_getD]
    by_cases hi : i < (bedsF T).length
    · rw [List.getElem?_eq_getElem hi]
      simp only [bedsF, List.getElem_map, Option.getD_some]
      exact key _
    · rw [List.getElem?_eq_none (by omega)]; simp
  · intro i
    rw [List.getD_eq_getElem?_getD]
    by_cases hi : i < (bedsB T).length
    · rw [List.getElem?_eq_getElem hi]
      simp only [bedsB, List.getElem_map, Option.getD_some]
      exact key _
    · rw [List.getElem?_eq_none (by omega)]; simp
theorem at_le4' {T : List (List Id)} {n : Nat} (h : TabOK T n) (u : Ndl) : (atL (bedsF T) (bedsB T) u).length ≤ 4 := by
  unfold atL
  split
  · simp
  · split
    · exact (tab_le4 h).2 _
    · exact (tab_le4 h).1 _
theorem beds_40 (T : List (List Id)) : (bedsF T).length ≤ 40 ∧ (bedsB T).length ≤ 40 := by
  constructor
  · simp only [bedsF, List.length_map, List.length_range]; exact trF_le T
  · simp only [bedsB, List.length_map, List.length_range]; exact trB_le T
end Go.Proofs.Ytembkknplmcamaa

namespace Go.Proofs.Ytembkknplmcamaa
open Go.Ab

/-! The order of the loops as a row of blocks: back, front, back, front. No program. -/
def pr (h : Hd) : Id × Int := (h.id, h.bed)
def Bk (B : List (List Id)) (j : Int) : List Id := if 1 ≤ j ∧ j ≤ 40 then B.getD (j - 1).toNat [] else []
theorem Bk_in (B : List (List Id)) {j : Int} (h : 1 ≤ j ∧ j ≤ 40) : Bk B j = B.getD (j - 1).toNat [] := if_pos h
theorem Bk_out (B : List (List Id)) {j : Int} (h : ¬ (1 ≤ j ∧ j ≤ 40)) : Bk B j = [] := if_neg h
def tg (b : Int) (l : List Id) : List (Id × Int) := l.map fun p => (p, b)
theorem fm_nil {β : Type} (f : Nat → List β) : ∀ n, (∀ i, i < n → f i = []) → (List.range n).flatMap f = []
  | 0, _ => rfl
  | n + 1, h => by rw [List.range_succ, List.flatMap_append, fm_nil f n (fun i hi => h i (by omega))]; simp [h n (by omega)]
theorem fm_one {β : Type} (f : Nat → List β) (i0 : Nat) : ∀ n, i0 < n → (∀ i, i < n → i ≠ i0 → f i = []) → (List.range n).flatMap f = f i0
  | 0, h, _ => by omega
  | n + 1, h0, h => by
    rw [List.range_succ, List.flatMap_append]
    by_cases e : i0 = n
    · rw [fm_nil f n (fun i hi => h i (by omega) (by omega)), e]; simp
    · rw [fm_one f i0 n (by omega) (fun i hi => h i (by omega))]; simp [h n (by omega) (by omega)]
theorem fm_two {β : Type} (f : Nat → List β) : ∀ n, (List.range (2 * n)).flatMap f = (List.range n).flatMap fun u => f (2 * u) ++ f (2 * u + 1)
  | 0 => rfl
  | n + 1 => by
    rw [show 2 * (n + 1) = 2 * n + 1 + 1 by omega, List.range_succ, List.range_succ, List.flatMap_append, List.flatMap_append, fm_two f n, List.range_succ, List.flatMap_append]
    simp
theorem spot0 (n r : Int) : spotL ⟨0, n⟩ r = 4 * n + 2 := by unfold spotL; rw [if_neg (by simp)]
theorem spot1 (n r : Int) : spotL ⟨1, n⟩ r = 4 * (n + r) := by unfold spotL; rw [if_pos rfl]
theorem needle_at {i : Nat} (hi : i < 80) : (i < 40 ∧ needleL i = ⟨0, (i : Int) + 1⟩) ∨ (40 ≤ i ∧ needleL i = ⟨1, (i : Int) - 39⟩) := by
  by_cases h : i < 40
  · refine .inl ⟨h, ?_⟩
    rw [needle_lo' h]
    rfl
  · have := needle_hi' (i := i - 40) (by omega)
    rw [show 40 + (i - 40) = i by omega] at this
    refine .inr ⟨by omega, ?_⟩
    rw [this]
    congr 1
    omega
theorem lisN_back (F B : List (List Id)) (r k : Int) : (lisN F B r (4 * k) 80).map pr = tg 1 (Bk B (k - r)) := by
  unfold lisN
  have hoff : ∀ i : Nat, i < 80 → ¬ ((40 : Int) + (k - r - 1) = (i : Int) ∧ 1 ≤ k - r ∧ k - r ≤ 40) → lis1 F B r (4 * k) i = [] := fun i hi h => by
    unfold lis1
    rw [if_neg]
    intro e
    rcases needle_at hi with ⟨h1, h2⟩ | ⟨h1, h2⟩
    · rw [h2, spot0] at e; omega
    · rw [h2, spot1] at e; exact h ⟨by omega, by omega⟩
  by_cases hk : 1 ≤ k - r ∧ k - r ≤ 40
  · rw [fm_one _ (40 + (k - r - 1).toNat) 80 (by omega) (fun i hi hne => hoff i hi (by omega)), Bk_in B hk]
    have ha := at_needle F B (40 + (k - r - 1).toNat) (by omega)
    rw [if_neg (by omega), show 40 + (k - r - 1).toNat - 40 = (k - r - 1).toNat by omega] at ha
    unfold lis1 tg
    rw [ha, needle_hi' (by omega), spot1, if_pos (by omega), List.map_map]
    rfl
  · rw [fm_nil _ 80 (fun i hi => hoff i hi (by omega)), Bk_out B hk]
    rfl
theorem lisN_front (F B : List (List Id)) (r k : Int) : (lisN F B r (4 * k + 2) 80).map pr = tg 0 (Bk F k) := by
  unfold lisN
  have hoff : ∀ i : Nat, i < 80 → ¬ (k - 1 = (i : Int) ∧ 1 ≤ k ∧ k ≤ 40) → lis1 F B r (4 * k + 2) i = [] := fun i hi h => by
    unfold lis1
    rw [if_neg]
    intro e
    rcases needle_at hi with ⟨h1, h2⟩ | ⟨h1, h2⟩
    · rw [h2, spot0] at e; exact h ⟨by omega, by omega⟩
    · rw [h2, spot1] at e; omega
  by_cases hk : 1 ≤ k ∧ k ≤ 40
  · rw [fm_one _ (k - 1).toNat 80 (by omega) (fun i hi hne => hoff i hi (by omega)), Bk_in F hk]
    have ha := at_needle F B (k - 1).toNat (by omega)
    rw [if_pos (by omega)] at ha
    unfold lis1 tg
    rw [ha, needle_lo' (by omega), spot0, if_pos (by omega), List.map_map]
    rfl
  · rw [fm_nil _ 80 (fun i hi => hoff i hi (by omega)), Bk_out F hk]
    rfl
/-- The row: for each u the back loops at 4(u - 3), then the front loops of needle u - 3. -/
def row (F B : List (List Id)) (r : Int) : List (Id × Int) := (List.range 48).flatMap fun u : Nat => tg 1 (Bk B ((u : Int) - 3 - r)) ++ tg 0 (Bk F ((u : Int) - 3))
theorem lis_row (F B : List (List Id)) (r : Int) (hr : -4 ≤ r ∧ r ≤ 4) : (lisA F B r 95).map pr = row F B r := by
  have h96 : lisA F B r 96 = lisA F B r 95 := by
    have h0 : (lisN F B r (-12 + 2 * ((95 : Nat) : Int)) 80).map pr = [] := by
      rw [show -12 + 2 * ((95 : Nat) : Int) = 4 * 44 + 2 by omega, lisN_front, Bk_out F (by omega)]
      rfl
    rw [show (96 : Nat) = 95 + 1 from rfl, lisA_succ, List.map_eq_nil_iff.1 h0, List.append_nil]
  rw [← h96]
  unfold lisA row
  rw [show (96 : Nat) = 2 * 48 from rfl, fm_two, List.map_flatMap]
  refine fm_congr fun u _ => ?_
  rw [List.map_append, show -12 + 2 * ((2 * u : Nat) : Int) = 4 * ((u : Int) - 3) by omega, show -12 + 2 * ((2 * u + 1 : Nat) : Int) = 4 * ((u : Int) - 3) + 2 by omega, lisN_back, lisN_front]
/-! No loop twice. -/
theorem flt_perm {P Q : Hd → Bool} (h : ∀ x, ¬ (P x = true ∧ Q x = true)) : ∀ L : List Hd, (L.filter P ++ L.filter Q).Perm (L.filter fun x => P x || Q x)
  | [] => .refl _
  | x :: L => by
    have ih := flt_perm h L
    simp only [List.filter_cons]
    cases hp : P x <;> cases hq : Q x
    · simpa using ih
    · simp only [Bool.false_eq_true, if_false, if_true, Bool.or_true]
      exact List.perm_middle.trans (ih.cons x)
    · simp only [Bool.false_eq_true, if_false, if_true, Bool.or_false, List.cons_append]
      exact ih.cons x
    · exact (h x ⟨hp, hq⟩).elim
theorem by_perm (L : List Hd) : ∀ n, ((List.range n).flatMap fun i : Nat => L.filter fun x => decide (x.spot = -12 + 2 * (i : Int))).Perm (L.filter fun x => (List.range n).any fun i : Nat => decide (x.spot = -12 + 2 * (i : Int)))
  | 0 => by simp
  | n + 1 => by
    have ih := by_perm L n
    rw [List.range_succ, List.flatMap_append]
    simp only [List.flatMap_cons, List.flatMap_nil, List.append_nil]
    refine (ih.append_right _).trans ?_
    refine (flt_perm (fun x hx => ?_) L).trans (.of_eq (List.filter_congr fun x _ => ?_))
    · obtain ⟨h1, h2⟩ := hx
      obtain ⟨i, hi, e⟩ := List.any_eq_true.1 h1
      have := List.mem_range.1 hi
      simp only [decide_eq_true_eq] at e h2
      omega
    · simp
theorem bySpot_perm {L : List Hd} (h : ∀ x ∈ L, ∃ i : Nat, i < 95 ∧ x.spot = -12 + 2 * (i : Int)) : (bySpot L).Perm L := by
  refine (by_perm L 95).trans (.of_eq (List.filter_eq_self.2 fun x hx => ?_))
  obtain ⟨i, hi, e⟩ := h x hx
  exact List.any_eq_true.2 ⟨i, List.mem_range.2 hi, decide_eq_true e⟩
theorem heldN_ids (bd r : Int) (G : List (List Id)) : (heldN bd r G G.length).map (·.id) = G.flatten := by
  have : ∀ n, n ≤ G.length → (heldN bd r G n).map (·.id) = (G.take n).flatten := fun n => by
    induction n with
    | zero => intro _; simp [heldN]
    | succ n ih =>
      intro hn
      rw [heldN_succ, List.map_append, ih (by omega), List.take_succ_eq_append_getElem (by omega), List.flatten_append, List.getD_eq_getElem?_getD, List.getElem?_eq_getElem (by omega)]
      simp [held1, Function.comp_def]
  have h := this G.length (Nat.le_refl _)
  rwa [List.take_length] at h
theorem row_nodup {F B : List (List Id)} (hF : F.length ≤ 40) (hB : B.length ≤ 40) (hn : (namesL F B).Nodup) {r : Int} (hr : rackOK r = true) : ((row F B r).map (·.1)).Nodup := by
  have hrr : -4 ≤ r ∧ r ≤ 4 := by unfold rackOK at hr; simpa using hr
  rw [← lis_row F B r hrr, ← list_listed hF hB r, List.map_map]
  have hp := (bySpot_perm (heldT_spot hF hB hr)).map (·.id)
  refine (hp.nodup_iff).2 ?_
  show ((heldN 0 r F F.length ++ heldN 1 r B B.length).map (·.id)).Nodup
  rw [List.map_append, heldN_ids, heldN_ids]
  unfold namesL visL at hn
  rwa [List.take_of_length_le hF, List.take_of_length_le hB, List.flatten_append] at hn
end Go.Proofs.Ytembkknplmcamaa

namespace Go.Proofs.Ytembkknplmcamaa
open Go.Ab

/-! The crossings of a step, one after the other, lead from the row before to the row behind. No program. -/
def Chn (p q : Int) : List Cr → List (Id × Int) → List (Id × Int) → Prop
  | [], L, L' => L = L'
  | c :: C, L, L' => ∃ X Y, L = X ++ (c.a, p) :: (c.b, q) :: Y ∧ Chn p q C (X ++ (c.b, q) :: (c.a, p) :: Y) L'
theorem Chn.app {p q : Int} : ∀ (C1 C2 : List Cr) (L M N : List (Id × Int)), Chn p q C1 L M → Chn p q C2 M N → Chn p q (C1 ++ C2) L N
  | [], _, _, _, _, h1, h2 => by cases h1; exact h2
  | c :: C1, C2, L, M, N, h1, h2 => by
    obtain ⟨X, Y, e, h⟩ := h1
    exact ⟨X, Y, e, Chn.app C1 C2 _ M N h h2⟩
theorem at_back (F B : List (List Id)) {j : Int} (h : 1 ≤ j ∧ j ≤ 40) : atL F B ⟨1, j⟩ = Bk B j := by
  unfold atL
  rw [if_neg (by unfold Ndl.bad; simp; omega), if_pos rfl, Bk_in B h]
end Go.Proofs.Ytembkknplmcamaa

namespace Go.Proofs.Ytembkknplmcamaa
open Go.Ab
attribute [local irreducible] WeakR WeakE CallA YieldA

/-! The errors of Step and Meets; one crossing in a list of held loops. -/
def stepE (r d : Int) : Int := if rackOK r = true then (if 1 < d then 1 else if rackOK (r + shL d) = true then 0 else 11) else 11
theorem movable_gen {x : AV} {F B : List (List Id)} (h : IsBeds x F B) (hc : checkL F B = 0) (r d : Int) (hd : 0 ≤ d) : PureA Try.prog 26 [x, .val (.int .i64 r), .val (.int .u8 d)] (.val (.int .i64 (stepE r d))) := by
  by_cases h1 : 1 < d
  · have hu := usual_ok h hc r
    obtain ⟨f, b, rfl, c1, c2, s1, s2, _, _⟩ := h.cells
    clear h
    have d0 : decide ((0 : Int) = 0) = true := by decide
    have d11 : decide ((11 : Int) = 0) = false := by decide
    have d1 : decide (1 < d) = true := decide_eq_true h1
    have hm : stepE r d = if rackOK r = true then 1 else 11 := by unfold stepE; rw [if_pos h1]
    rw [hm]
    replace hc := (show Aside _ from hc)
    replace h1 := (show Aside _ from h1)
    replace hm := (show Aside _ from hm)
    intro O
    refine k26.call mix ?_
    unfold c26
    by_cases hb : rackOK r = true
    · rw [if_pos hb] at hu ⊢
      replace hb := (show Aside _ from hb)
      (repeat' first
    | simp (contextual := true) (maxSteps := 4000000) only [fwc, fwe, fww, reduceIte, ↓reduceIte, Nat.reduceAdd, Nat.reduceLeDiff, Nat.reduceEqDiff, Nat.reduceLT, Nat.reduceSub, reduceCtorEq, Int.reduceEq, Int.reduceLT, Int.reduceLE, Int.reduceNeg, Int.reduceToNat, Int.reduceAdd, Int.reduceSub, Nat.reduceMul, part_cell, part_agg, *]
    | (refine seqK_now ?_)
    | (refine retK_now ?_)
    | (refine retK_now' ?_)
    | (intro q hq)
    | (refine cond_intro (fun hc => ?_) (fun hc => ?_)))
      refine hu.use ?_
      (repeat' first
    | simp (contextual := true) (maxSteps := 4000000) only [fwc, fwe, fww, reduceIte, ↓reduceIte, Nat.reduceAdd, Nat.reduceLeDiff, Nat.reduceEqDiff, Nat.reduceLT, Nat.reduceSub, reduceCtorEq, Int.reduceEq, Int.reduceLT, Int.reduceLE, Int.reduceNeg, Int.reduceToNat, Int.reduceAdd, Int.reduceSub, Nat.reduceMul, part_cell, part_agg, *]
    | (refine seqK_now ?_)
    | (refine retK_now ?_)
    | (refine retK_now' ?_)
    | (intro q hq)
    | (refine cond_intro (fun hc => ?_) (fun hc => ?_)))
      refine WeakR.pure (sub_upd hq (Heap.sub_refl _)) ?_
      rfl
    · rw [if_neg hb] at hu ⊢
      replace hb := (show Aside _ from hb)
      (repeat' first
    | simp (contextual := true) (maxSteps := 4000000) only [fwc, fwe, fww, reduceIte, ↓reduceIte, Nat.reduceAdd, Nat.reduceLeDiff, Nat.reduceEqDiff, Nat.reduceLT, Nat.reduceSub, reduceCtorEq, Int.reduceEq, Int.reduceLT, Int.reduceLE, Int.reduceNeg, Int.reduceToNat, Int.reduceAdd, Int.reduceSub, Nat.reduceMul, part_cell, part_agg, *]
    | (refine seqK_now ?_)
    | (refine retK_now ?_)
    | (refine retK_now' ?_)
    | (intro q hq)
    | (refine cond_intro (fun hc => ?_) (fun hc => ?_)))
      refine hu.use ?_
      (repeat' first
    | simp (contextual := true) (maxSteps := 4000000) only [fwc, fwe, fww, reduceIte, ↓reduceIte, Nat.reduceAdd, Nat.reduceLeDiff, Nat.reduceEqDiff, Nat.reduceLT, Nat.reduceSub, reduceCtorEq, Int.reduceEq, Int.reduceLT, Int.reduceLE, Int.reduceNeg, Int.reduceToNat, Int.reduceAdd, Int.reduceSub, Nat.reduceMul, part_cell, part_agg, *]
    | (refine seqK_now ?_)
    | (refine retK_now ?_)
    | (refine retK_now' ?_)
    | (intro q hq)
    | (refine cond_intro (fun hc => ?_) (fun hc => ?_)))
      refine WeakR.pure (sub_upd hq (Heap.sub_refl _)) ?_
      rfl
  · have := movable_ok h hc r d (by omega)
    have e : stepE r d = moveE r d := by unfold stepE moveE; rw [if_neg h1]
    rw [e]
    exact this
theorem StepE_err {x : AV} {F B : List (List Id)} (h : IsBeds x F B) (hc : checkL F B = 0) (r d : Int) (hd : 0 ≤ d) (he : stepE r d ≠ 0) : PureA Try.prog 11 [x, .val (.int .i64 r), .val (.int .u8 d)] (.tup [.val (.slice none 0 0), .val (.int .i64 (stepE r d))]) := by
  have hmo := movable_gen h hc r d hd
  obtain ⟨f, b, rfl, c1, c2, s1, s2, _, _⟩ := h.cells
  clear h
  have d0 : decide (stepE r d = 0) = false := decide_eq_false he
  generalize stepE r d = e at *
  replace hc := (show Aside _ from hc)
  replace hd := (show Aside _ from hd)
  replace he := (show Aside _ from he)
  intro O
  refine k11.call mix ?_
  unfold c11
  (repeat' first
    | simp (contextual := true) (maxSteps := 4000000) only [fwc, fwe, fww, reduceIte, ↓reduceIte, Nat.reduceAdd, Nat.reduceLeDiff, Nat.reduceEqDiff, Nat.reduceLT, Nat.reduceSub, reduceCtorEq, Int.reduceEq, Int.reduceLT, Int.reduceLE, Int.reduceNeg, Int.reduceToNat, Int.reduceAdd, Int.reduceSub, Nat.reduceMul, part_cell, part_agg, *]
    | (refine retK_now ?_)
    | (refine retK_now' ?_)
    | (intro q hq)
    | (refine cond_intro (fun hc => ?_) (fun hc => ?_)))
  revert q
  intro q3 hq3
  refine seqK_now ?_
  (repeat' first
    | simp (contextual := true) (maxSteps := 4000000) only [fwc, fwe, fww, reduceIte, ↓reduceIte, Nat.reduceAdd, Nat.reduceLeDiff, Nat.reduceEqDiff, Nat.reduceLT, Nat.reduceSub, reduceCtorEq, Int.reduceEq, Int.reduceLT, Int.reduceLE, Int.reduceNeg, Int.reduceToNat, Int.reduceAdd, Int.reduceSub, Nat.reduceMul, part_cell, part_agg, *]
    | (refine retK_now ?_)
    | (refine retK_now' ?_)
    | (intro q hq)
    | (refine cond_intro (fun hc => ?_) (fun hc => ?_)))
  refine hmo.use ?_
  clear hmo
  (repeat' first
    | simp (contextual := true) (maxSteps := 4000000) only [fwc, fwe, fww, reduceIte, ↓reduceIte, Nat.reduceAdd, Nat.reduceLeDiff, Nat.reduceEqDiff, Nat.reduceLT, Nat.reduceSub, reduceCtorEq, Int.reduceEq, Int.reduceLT, Int.reduceLE, Int.reduceNeg, Int.reduceToNat, Int.reduceAdd, Int.reduceSub, Nat.reduceMul, part_cell, part_agg, *]
    | (refine retK_now ?_)
    | (refine retK_now' ?_)
    | (intro q hq)
    | (refine cond_intro (fun hc => ?_) (fun hc => ?_)))
  refine seqK_now ?_
  (repeat' first
    | simp (contextual := true) (maxSteps := 4000000) only [fwc, fwe, fww, reduceIte, ↓reduceIte, Nat.reduceAdd, Nat.reduceLeDiff, Nat.reduceEqDiff, Nat.reduceLT, Nat.reduceSub, reduceCtorEq, Int.reduceEq, Int.reduceLT, Int.reduceLE, Int.reduceNeg, Int.reduceToNat, Int.reduceAdd, Int.reduceSub, Nat.reduceMul, part_cell, part_agg, *]
    | (refine seqK_now ?_)
    | (refine retK_now ?_)
    | (refine retK_now' ?_)
    | (intro q hq)
    | (refine cond_intro (fun hc => ?_) (fun hc => ?_)))
  refine WeakR.pure (sub_upd hq3 (Heap.sub_refl _)) ?_
  rfl
theorem MeetsE_err {x : AV} {F B : List (List Id)} (h : IsBeds x F B) (hc : checkL F B = 0) (r d pl : Int) (hd : 0 ≤ d) (he : stepE r d ≠ 0) : PureA Try.prog 12 [x, .val (.int .i64 r), .val (.int .u8 d), .val (.int .i64 pl)] (.tup [.val (.slice none 0 0), .val (.int .i64 (stepE r d))]) := by
  have hmo := movable_gen h hc r d hd
  obtain ⟨f, b, rfl, c1, c2, s1, s2, _, _⟩ := h.cells
  clear h
  have d0 : decide (stepE r d = 0) = false := decide_eq_false he
  generalize stepE r d = e at *
  replace hc := (show Aside _ from hc)
  replace hd := (show Aside _ from hd)
  replace he := (show Aside _ from he)
  intro O
  refine k12.call mix ?_
  unfold c12
  (repeat' first
    | simp (contextual := true) (maxSteps := 4000000) only [fwc, fwe, fww, reduceIte, ↓reduceIte, Nat.reduceAdd, Nat.reduceLeDiff, Nat.reduceEqDiff, Nat.reduceLT, Nat.reduceSub, reduceCtorEq, Int.reduceEq, Int.reduceLT, Int.reduceLE, Int.reduceNeg, Int.reduceToNat, Int.reduceAdd, Int.reduceSub, Nat.reduceMul, part_cell, part_agg, *]
    | (refine retK_now ?_)
    | (refine retK_now' ?_)
    | (intro q hq)
    | (refine cond_intro (fun hc => ?_) (fun hc => ?_)))
  revert q
  intro q3 hq3
  refine seqK_now ?_
  (repeat' first
    | simp (contextual := true) (maxSteps := 4000000) only [fwc, fwe, fww, reduceIte, ↓reduceIte, Nat.reduceAdd, Nat.reduceLeDiff, Nat.reduceEqDiff, Nat.reduceLT, Nat.reduceSub, reduceCtorEq, Int.reduceEq, Int.reduceLT, Int.reduceLE, Int.reduceNeg, Int.reduceToNat, Int.reduceAdd, Int.reduceSub, Nat.reduceMul, part_cell, part_agg, *]
    | (refine retK_now ?_)
    | (refine retK_now' ?_)
    | (intro q hq)
    | (refine cond_intro (fun hc => ?_) (fun hc => ?_)))
  refine hmo.use ?_
  clear hmo
  (repeat' first
    | simp (contextual := true) (maxSteps := 4000000) only [fwc, fwe, fww, reduceIte, ↓reduceIte, Nat.reduceAdd, Nat.reduceLeDiff, Nat.reduceEqDiff, Nat.reduceLT, Nat.reduceSub, reduceCtorEq, Int.reduceEq, Int.reduceLT, Int.reduceLE, Int.reduceNeg, Int.reduceToNat, Int.reduceAdd, Int.reduceSub, Nat.reduceMul, part_cell, part_agg, *]
    | (refine retK_now ?_)
    | (refine retK_now' ?_)
    | (intro q hq)
    | (refine cond_intro (fun hc => ?_) (fun hc => ?_)))
  refine seqK_now ?_
  (repeat' first
    | simp (contextual := true) (maxSteps := 4000000) only [fwc, fwe, fww, reduceIte, ↓reduceIte, Nat.reduceAdd, Nat.reduceLeDiff, Nat.reduceEqDiff, Nat.reduceLT, Nat.reduceSub, reduceCtorEq, Int.reduceEq, Int.reduceLT, Int.reduceLE, Int.reduceNeg, Int.reduceToNat, Int.reduceAdd, Int.reduceSub, Nat.reduceMul, part_cell, part_agg, *]
    | (refine seqK_now ?_)
    | (refine retK_now ?_)
    | (refine retK_now' ?_)
    | (intro q hq)
    | (refine cond_intro (fun hc => ?_) (fun hc => ?_)))
  refine WeakR.pure (sub_upd hq3 (Heap.sub_refl _)) ?_
  rfl
theorem Meets_even {x : AV} {F B : List (List Id)} (h : IsBeds x F B) (hc : checkL F B = 0) (r d pl : Int) (hd : 0 ≤ d) (he : stepE r d = 0) (hpl : decide (IntKind.i64.wrap (BitVec.ofInt IntKind.i64.bits pl &&& BitVec.ofInt IntKind.i64.bits 1).toNat = 0) = true) : PureA Try.prog 12 [x, .val (.int .i64 r), .val (.int .u8 d), .val (.int .i64 pl)] (.tup [.val (.slice none 0 0), .val (.int .i64 1)]) := by
  have hmo := movable_gen h hc r d hd
  rw [he] at hmo
  obtain ⟨f, b, rfl, c1, c2, s1, s2, _, _⟩ := h.cells
  clear h
  have d0 : decide ((0 : Int) = 0) = true := by decide
  replace hc := (show Aside _ from hc)
  replace hd := (show Aside _ from hd)
  replace he := (show Aside _ from he)
  intro O
  refine k12.call mix ?_
  unfold c12
  (repeat' first
    | simp (contextual := true) (maxSteps := 4000000) only [fwc, fwe, fww, reduceIte, ↓reduceIte, Nat.reduceAdd, Nat.reduceLeDiff, Nat.reduceEqDiff, Nat.reduceLT, Nat.reduceSub, reduceCtorEq, Int.reduceEq, Int.reduceLT, Int.reduceLE, Int.reduceNeg, Int.reduceToNat, Int.reduceAdd, Int.reduceSub, Nat.reduceMul, part_cell, part_agg, *]
    | (refine retK_now ?_)
    | (refine retK_now' ?_)
    | (intro q hq)
    | (refine cond_intro (fun hc => ?_) (fun hc => ?_)))
  revert q
  intro q3 hq3
  refine seqK_now ?_
  (repeat' first
    | simp (contextual := true) (maxSteps := 4000000) only [fwc, fwe, fww, reduceIte, ↓reduceIte, Nat.reduceAdd, Nat.reduceLeDiff, Nat.reduceEqDiff, Nat.reduceLT, Nat.reduceSub, reduceCtorEq, Int.reduceEq, Int.reduceLT, Int.reduceLE, Int.reduceNeg, Int.reduceToNat, Int.reduceAdd, Int.reduceSub, Nat.reduceMul, part_cell, part_agg, *]
    | (refine retK_now ?_)
    | (refine retK_now' ?_)
    | (intro q hq)
    | (refine cond_intro (fun hc => ?_) (fun hc => ?_)))
  refine hmo.use ?_
  clear hmo
  (repeat' first
    | simp (contextual := true) (maxSteps := 4000000) only [fwc, fwe, fww, reduceIte, ↓reduceIte, Nat.reduceAdd, Nat.reduceLeDiff, Nat.reduceEqDiff, Nat.reduceLT, Nat.reduceSub, reduceCtorEq, Int.reduceEq, Int.reduceLT, Int.reduceLE, Int.reduceNeg, Int.reduceToNat, Int.reduceAdd, Int.reduceSub, Nat.reduceMul, part_cell, part_agg, *]
    | (refine retK_now ?_)
    | (refine retK_now' ?_)
    | (intro q hq)
    | (refine cond_intro (fun hc => ?_) (fun hc => ?_)))
  refine seqK_now ?_
  (repeat' first
    | simp (contextual := true) (maxSteps := 4000000) only [fwc, fwe, fww, reduceIte, ↓reduceIte, Nat.reduceAdd, Nat.reduceLeDiff, Nat.reduceEqDiff, Nat.reduceLT, Nat.reduceSub, reduceCtorEq, Int.reduceEq, Int.reduceLT, Int.reduceLE, Int.reduceNeg, Int.reduceToNat, Int.reduceAdd, Int.reduceSub, Nat.reduceMul, part_cell, part_agg, *]
    | (refine seqK_now ?_)
    | (refine retK_now ?_)
    | (refine retK_now' ?_)
    | (intro q hq)
    | (refine cond_intro (fun hc => ?_) (fun hc => ?_)))
  refine WeakR.pure (sub_upd hq3 (Heap.sub_refl _)) ?_
  rfl

structure Cro (p q : Int) (c : Cr) (C : List Cr) (L : List Hd) (M : List (Id × Int)) (m : Nat) : Prop where
  lt : m + 1 < L.length
  a : (gt L m).id = c.a
  ab : (gt L m).bed = p
  b : (gt L (m + 1)).id = c.b
  bb : (gt L (m + 1)).bed = q
  no : ∀ k, k < L.length → k ≠ m → (gt L k).id ≠ c.a
  next : Chn p q C ((swp L m (m + 1)).map pr) M
  nd : ((swp L m (m + 1)).map (·.id)).Nodup
end Go.Proofs.Ytembkknplmcamaa

namespace Go.Proofs.Ytembkknplmcamaa
open Go.Ab

/-! What a carrier meets, told from the orders before and behind a step. No program. -/
def psL (d : Int) (p : Id) : Ps := ⟨p, true, d⟩
/-- One pair of the law's loops. -/
def psi (pl dd : Int) (x y : Hd) : List Ps := if y.id = x.id ∧ decide (x.spot < pl) ≠ decide (y.spot < pl) then [psL dd x.id] else []
def phi (L2 : List Hd) (pl dd : Int) (x : Hd) : List Ps := L2.flatMap (psi pl dd x)
def crossed (pl sh s : Int) : Bool := decide (s < pl) != decide (s + 4 * sh < pl)
theorem fm_uniq {β : Type} (P : Hd → Prop) [DecidablePred P] (c : List β) (i : Id) : ∀ (L : List Hd), (L.map (·.id)).Nodup → ∀ y0 ∈ L, y0.id = i → L.flatMap (fun y => if y.id = i ∧ P y then c else []) = if P y0 then c else []
  | [], _, _, h, _ => by cases h
  | y :: L, hn, y0, hy, e => by
    rw [List.map_cons, List.nodup_cons] at hn
    rw [List.flatMap_cons]
    rcases List.mem_cons.1 hy with rfl | h
    · have hz : L.flatMap (fun y => if y.id = i ∧ P y then c else []) = [] := List.flatMap_eq_nil_iff.2 fun z hz => if_neg fun hh => hn.1 (by rw [e, ← hh.1]; exact List.mem_map.2 ⟨z, hz, rfl⟩)
      rw [hz, List.append_nil]
      simp only [e, true_and]
    · rw [fm_uniq P c i L hn.2 y0 h e, if_neg (fun hh => hn.1 (by rw [hh.1, ← e]; exact List.mem_map.2 ⟨y0, h, rfl⟩)), List.nil_append]
theorem held_mem {bd r : Int} {G : List (List Id)} {n : Nat} {x : Hd} (h : x ∈ heldN bd r G n) : ∃ (i : Nat) (p : Id), i < n ∧ p ∈ G.getD i [] ∧ x = ⟨p, bd, ((i + 1 : Nat) : Int), spotL ⟨bd, ((i + 1 : Nat) : Int)⟩ r⟩ := by
  unfold heldN held1 at h
  simp only [List.mem_flatMap, List.mem_range, List.mem_map] at h
  obtain ⟨i, hi, p, hp, rfl⟩ := h
  exact ⟨i, p, hi, hp, rfl⟩
theorem mem_held {bd r : Int} {G : List (List Id)} {n i : Nat} {p : Id} (hi : i < n) (hp : p ∈ G.getD i []) : (⟨p, bd, ((i + 1 : Nat) : Int), spotL ⟨bd, ((i + 1 : Nat) : Int)⟩ r⟩ : Hd) ∈ heldN bd r G n := by
  unfold heldN held1
  simp only [List.mem_flatMap, List.mem_range, List.mem_map]
  exact ⟨i, hi, p, hp, rfl⟩
theorem held_move {F B : List (List Id)} {r sh : Int} {x : Hd} (h : x ∈ heldT F B r 2) : ∃ y ∈ heldT F B (r + sh) 2, y.id = x.id ∧ ((x.bed = 0 ∧ y.spot = x.spot) ∨ (x.bed = 1 ∧ y.spot = x.spot + 4 * sh)) := by
  rcases List.mem_append.1 (show x ∈ heldN 0 r F F.length ++ heldN 1 r B B.length from h) with h | h
  · obtain ⟨i, p, hi, hp, rfl⟩ := held_mem h
    exact ⟨_, List.mem_append_left _ (mem_held (r := r + sh) hi hp), rfl, .inl ⟨rfl, by simp only [spot0]⟩⟩
  · obtain ⟨i, p, hi, hp, rfl⟩ := held_mem h
    exact ⟨_, List.mem_append_right _ (mem_held (r := r + sh) hi hp), rfl, .inr ⟨rfl, by simp only [spot1]; omega⟩⟩
theorem ids_nodup {F B : List (List Id)} (hF : F.length ≤ 40) (hB : B.length ≤ 40) (hn : (namesL F B).Nodup) {r : Int} (hr : rackOK r = true) : ((bySpot (heldT F B r 2)).map (·.id)).Nodup := by
  have hrr : -4 ≤ r ∧ r ≤ 4 := by unfold rackOK at hr; simpa using hr
  have h := row_nodup hF hB hn hr
  rw [← lis_row F B r hrr, ← list_listed hF hB r, List.map_map] at h
  exact h
theorem phi_eq {F B : List (List Id)} (hF : F.length ≤ 40) (hB : B.length ≤ 40) (hn : (namesL F B).Nodup) {r sh : Int} (hr : rackOK r = true) (hr2 : rackOK (r + sh) = true) (pl dd : Int) {x : Hd} (hx : x ∈ bySpot (heldT F B r 2)) :
    phi (bySpot (heldT F B (r + sh) 2)) pl dd x = if x.bed = 1 ∧ crossed pl sh x.spot = true then [psL dd x.id] else [] := by
  have hx2 := (bySpot_perm (heldT_spot hF hB hr)).mem_iff.1 hx
  obtain ⟨y, hy, hid, hsp⟩ := held_move (sh := sh) hx2
  have hy2 := (bySpot_perm (heldT_spot hF hB hr2)).mem_iff.2 hy
  unfold phi psi
  rw [fm_uniq (fun y => decide (x.spot < pl) ≠ decide (y.spot < pl)) [psL dd x.id] x.id _ (ids_nodup hF hB hn hr2) y hy2 hid]
  rcases hsp with ⟨h1, h2⟩ | ⟨h1, h2⟩
  · rw [h2, if_neg (by simp), if_neg (by rw [h1]; simp)]
  · rw [h2, h1]
    unfold crossed
    simp
theorem lis_spot {F B : List (List Id)} {r sp : Int} {n : Nat} {x : Hd} (h : x ∈ lisN F B r sp n) : x.spot = sp := by
  unfold lisN lis1 at h
  obtain ⟨i, _, hi⟩ := List.mem_flatMap.1 h
  split at hi
  · obtain ⟨p, _, rfl⟩ := List.mem_map.1 hi
    rfl
  · cases hi
theorem fm_tg0 (c : Bool) (dd : Int) (l : List Id) : (tg 0 l).flatMap (fun x => if x.2 = 1 ∧ c = true then [psL dd x.1] else []) = [] := by
  refine List.flatMap_eq_nil_iff.2 fun x hx => if_neg ?_
  obtain ⟨p, _, rfl⟩ := List.mem_map.1 hx
  simp
theorem fm_tg1 (c : Bool) (dd : Int) (l : List Id) : (tg 1 l).flatMap (fun x => if x.2 = 1 ∧ c = true then [psL dd x.1] else []) = if c = true then l.map (psL dd) else [] := by
  unfold tg
  induction l with
  | nil => cases c <;> rfl
  | cons p l ih =>
    rw [List.map_cons, List.flatMap_cons, ih]
    cases c <;> simp
theorem lis_fm (F B : List (List Id)) (r pl sh dd sp : Int) : (lisN F B r sp 80).flatMap (fun x => if x.bed = 1 ∧ crossed pl sh x.spot = true then [psL dd x.id] else []) = ((lisN F B r sp 80).map pr).flatMap (fun x => if x.2 = 1 ∧ crossed pl sh sp = true then [psL dd x.1] else []) := by
  rw [List.flatMap_map]
  refine fm_congr fun x hx => ?_
  rw [lis_spot hx]
  rfl
theorem lisA_fm (F B : List (List Id)) (r pl sh dd : Int) : (lisA F B r 95).flatMap (fun x => if x.bed = 1 ∧ crossed pl sh x.spot = true then [psL dd x.id] else []) = (List.range 48).flatMap fun u : Nat => if crossed pl sh (4 * ((u : Int) - 3)) = true then (Bk B ((u : Int) - 3 - r)).map (psL dd) else [] := by
  have h96 : lisA F B r 96 = lisA F B r 95 := by
    have h0 : (lisN F B r (-12 + 2 * ((95 : Nat) : Int)) 80).map pr = [] := by
      rw [show -12 + 2 * ((95 : Nat) : Int) = 4 * 44 + 2 by omega, lisN_front, Bk_out F (by omega)]
      rfl
    rw [show (96 : Nat) = 95 + 1 from rfl, lisA_succ, List.map_eq_nil_iff.1 h0, List.append_nil]
  rw [← h96]
  unfold lisA
  rw [show (96 : Nat) = 2 * 48 from rfl, fm_two, List.flatMap_assoc]
  refine fm_congr fun u _ => ?_
  rw [List.flatMap_append, show -12 + 2 * ((2 * u : Nat) : Int) = 4 * ((u : Int) - 3) by omega, show -12 + 2 * ((2 * u + 1 : Nat) : Int) = 4 * ((u : Int) - 3) + 2 by omega, lis_fm, lis_fm, lisN_back, lisN_front, fm_tg0, fm_tg1, List.append_nil]
def jS (r d pl : Int) : Int := if d = 1 then pl / 4 - r else pl / 4 + 1 - r
theorem blk_one (B : List (List Id)) {r d pl dd : Int} (hd : d = 0 ∨ d = 1) (hr : -4 ≤ r ∧ r ≤ 4) (hpl : pl % 2 = 1) : ((List.range 48).flatMap fun u : Nat => if crossed pl (shL d) (4 * ((u : Int) - 3)) = true then (Bk B ((u : Int) - 3 - r)).map (psL dd) else []) = (Bk B (jS r d pl)).map (psL dd) := by
  have hoff : ∀ u : Nat, (u : Int) - 3 - r ≠ jS r d pl → (if crossed pl (shL d) (4 * ((u : Int) - 3)) = true then (Bk B ((u : Int) - 3 - r)).map (psL dd) else []) = [] := fun u hu => by
    rw [if_neg]
    intro hc
    unfold crossed at hc
    unfold jS at hu
    rcases hd with rfl | rfl
    · rw [if_neg (by omega)] at hu
      rw [show shL 0 = -1 from rfl] at hc
      by_cases h1 : 4 * ((u : Int) - 3) < pl
      · rw [decide_eq_true h1, decide_eq_true (by omega)] at hc; cases hc
      · by_cases h2 : 4 * ((u : Int) - 3) + 4 * -1 < pl
        · omega
        · rw [decide_eq_false h1, decide_eq_false h2] at hc; cases hc
    · rw [if_pos rfl] at hu
      rw [show shL 1 = 1 from rfl] at hc
      by_cases h1 : 4 * ((u : Int) - 3) < pl
      · by_cases h2 : 4 * ((u : Int) - 3) + 4 * 1 < pl
        · rw [decide_eq_true h1, decide_eq_true h2] at hc; cases hc
        · omega
      · rw [decide_eq_false h1, decide_eq_false (by omega)] at hc; cases hc
  have hon : ∀ u : Nat, (u : Int) - 3 - r = jS r d pl → crossed pl (shL d) (4 * ((u : Int) - 3)) = true := fun u hu => by
    unfold crossed
    unfold jS at hu
    rcases hd with rfl | rfl
    · rw [if_neg (by omega)] at hu
      rw [show shL 0 = -1 from rfl, decide_eq_false (show ¬ 4 * ((u : Int) - 3) < pl by omega), decide_eq_true (by omega)]
      rfl
    · rw [if_pos rfl] at hu
      rw [show shL 1 = 1 from rfl, decide_eq_true (show 4 * ((u : Int) - 3) < pl by omega), decide_eq_false (by omega)]
      rfl
  by_cases hj : 1 ≤ jS r d pl ∧ jS r d pl ≤ 40
  · rw [fm_one _ (jS r d pl + 3 + r).toNat 48 (by omega) (fun i hi hne => hoff i (by omega)), if_pos (hon _ (by omega))]
    rw [show (((jS r d pl + 3 + r).toNat : Nat) : Int) - 3 - r = jS r d pl by omega]
  · rw [Bk_out B hj, fm_nil]
    · rfl
    · intro u hu
      by_cases he : (u : Int) - 3 - r = jS r d pl
      · rw [he, Bk_out B hj]; split <;> rfl
      · exact hoff u he
theorem meet_blk (F B : List (List Id)) {r d pl : Int} (hd : d = 0 ∨ d = 1) (hpl : pl % 2 = 1) : meetTo F B r d pl 40 = (ordL (1 - d) (Bk B (jS r d pl))).map (psL (1 - d)) := by
  have hat : ∀ i : Nat, i < 40 → meetAt F B r d pl i = if (i : Int) + 1 = jS r d pl then (ordL (1 - d) (Bk B (jS r d pl))).map (psL (1 - d)) else [] := fun i hi => by
    have s1 : spotL ⟨1, ((i + 1 : Nat) : Int)⟩ r = 4 * ((i : Int) + 1 + r) := by rw [spot1]; omega
    unfold meetAt jS
    rw [s1]
    have hb := at_back F B (j := ((i + 1 : Nat) : Int)) (by omega)
    rw [hb]
    rcases hd with rfl | rfl
    · rw [show shL 0 = -1 from rfl, if_neg (show ¬ ((0 : Int) = 1) by omega), if_pos (show 4 * ((i : Int) + 1 + r) + 4 * -1 < 4 * ((i : Int) + 1 + r) by omega), if_neg (show ¬ 4 * ((i : Int) + 1 + r) < 4 * ((i : Int) + 1 + r) + 4 * -1 by omega)]
      by_cases he : (i : Int) + 1 = pl / 4 + 1 - r
      · rw [if_neg (by omega), if_pos he, ← he]; rfl
      · rw [if_pos (by omega), if_neg he]
    · rw [show shL 1 = 1 from rfl, if_pos (show (1 : Int) = 1 from rfl), if_neg (show ¬ 4 * ((i : Int) + 1 + r) + 4 * 1 < 4 * ((i : Int) + 1 + r) by omega), if_pos (show 4 * ((i : Int) + 1 + r) < 4 * ((i : Int) + 1 + r) + 4 * 1 by omega)]
      by_cases he : (i : Int) + 1 = pl / 4 - r
      · rw [if_neg (by omega), if_pos he, ← he]; rfl
      · rw [if_pos (by omega), if_neg he]
  unfold meetTo
  by_cases hj : 1 ≤ jS r d pl ∧ jS r d pl ≤ 40
  · rw [fm_one _ (jS r d pl - 1).toNat 40 (by omega) (fun i hi hne => by rw [hat i hi, if_neg (by omega)]), hat _ (by omega), if_pos (by omega)]
  · rw [fm_nil _ 40 (fun i hi => by rw [hat i hi, if_neg (by omega)]), Bk_out B hj]
    unfold ordL
    split <;> rfl
theorem rev_fm (L : List Hd) (P : Hd → Prop) [DecidablePred P] (dd : Int) : L.reverse.flatMap (fun x => if P x then [psL dd x.id] else []) = (L.flatMap fun x => if P x then [psL dd x.id] else []).reverse := by
  induction L with
  | nil => rfl
  | cons x L ih =>
    simp only [List.reverse_cons, List.flatMap_append, ih, List.flatMap_cons, List.flatMap_nil, List.append_nil, List.reverse_append]
    congr 1
    split <;> rfl
/-- The order in which the law goes through the loops before the step. -/
def ordH (dd : Int) (L : List Hd) : List Hd := if dd = 0 then L.reverse else L
theorem want_eq {F B : List (List Id)} (hF : F.length ≤ 40) (hB : B.length ≤ 40) (hn : (namesL F B).Nodup) {r d pl : Int} (hd : d = 0 ∨ d = 1) (hr : rackOK r = true) (hr2 : rackOK (r + shL d) = true) (hpl : pl % 2 = 1) :
    (ordH (1 - d) (bySpot (heldT F B r 2))).flatMap (phi (bySpot (heldT F B (r + shL d) 2)) pl (1 - d)) = meetTo F B r d pl 40 := by
  have hrr : -4 ≤ r ∧ r ≤ 4 := by unfold rackOK at hr; simpa using hr
  have h1 : (ordH (1 - d) (bySpot (heldT F B r 2))).flatMap (phi (bySpot (heldT F B (r + shL d) 2)) pl (1 - d)) = (ordH (1 - d) (bySpot (heldT F B r 2))).flatMap (fun x => if x.bed = 1 ∧ crossed pl (shL d) x.spot = true then [psL (1 - d) x.id] else []) := by
    refine fm_congr fun x hx => phi_eq hF hB hn hr hr2 pl (1 - d) ?_
    unfold ordH at hx
    split at hx
    · exact List.mem_reverse.1 hx
    · exact hx
  have h2 : (bySpot (heldT F B r 2)).flatMap (fun x => if x.bed = 1 ∧ crossed pl (shL d) x.spot = true then [psL (1 - d) x.id] else []) = (Bk B (jS r d pl)).map (psL (1 - d)) := by
    rw [list_listed hF hB r, lisA_fm, blk_one B hd hrr hpl]
  rw [h1, meet_blk F B hd hpl]
  unfold ordH ordL
  by_cases h0 : 1 - d = 0
  · rw [if_pos h0, if_pos h0, rev_fm, h2, List.map_reverse]
  · rw [if_neg h0, if_neg h0, h2]
end Go.Proofs.Ytembkknplmcamaa

namespace Go.Proofs.Ytembkknplmcamaa
open Go.Ab
attribute [local irreducible] WeakR WeakE CallA YieldA

/-! The walk of OrdersMeets. -/
def stepE0 := @Nat.zero
def e5a (r pl : Int) (q7 : Nat) (g : AV) (e nx dd : Int) : Env := ((((((Env.upd (fun _ => .junk) 15 (.val (.int .u8 dd))).upd 14 (.val (.int .i64 nx))).upd 11 (.val (.int .i64 e))).upd 10 g).upd 9 (.val (.int .i64 pl))).upd 8 (.val (.int .i64 r))).upd 7 (.optr q7 2 0 0)
def e5b (pl : Int) (g : AV) (dd : Int) (b w s : AV) (i : Nat) : Env := (((((((Env.upd (fun _ => .junk) 21 (.val (.int .i64 i))).upd 20 s).upd 18 w).upd 16 b).upd 15 (.val (.int .u8 dd))).upd 11 (.val (.int .i64 0))).upd 10 g).upd 9 (.val (.int .i64 pl))
def e5c (pl : Int) (g : AV) (dd : Int) (b w s : AV) (i k : Nat) : Env := ((((((((Env.upd (fun _ => .junk) 22 (.val (.int .i64 k))).upd 21 (.val (.int .i64 i))).upd 20 s).upd 18 w).upd 16 b).upd 15 (.val (.int .u8 dd))).upd 11 (.val (.int .i64 0))).upd 10 g).upd 9 (.val (.int .i64 pl))
def e5d (pl : Int) (g : AV) (dd : Int) (b w s : AV) (i k j : Nat) : Env := (((((((((Env.upd (fun _ => .junk) 23 (.val (.int .i64 j))).upd 22 (.val (.int .i64 k))).upd 21 (.val (.int .i64 i))).upd 20 s).upd 18 w).upd 16 b).upd 15 (.val (.int .u8 dd))).upd 11 (.val (.int .i64 0))).upd 10 g).upd 9 (.val (.int .i64 pl))
def e5e (g s : AV) (i : Nat) : Env := ((Env.upd (fun _ => .junk) 24 (.val (.int .i64 i))).upd 20 s).upd 10 g
theorem stepE_0' {r d : Int} (hd : 0 ≤ d) (h : stepE r d = 0) : rackOK r = true ∧ (d = 0 ∨ d = 1) ∧ rackOK (r + shL d) = true := by
  unfold stepE at h
  split at h
  · split at h
    · cases h
    · split at h
      · exact ⟨by assumption, by omega, by assumption⟩
      · cases h
  · cases h
def kkL (dd : Int) (n i : Nat) : Nat := if dd = 0 then n - 1 - i else i
theorem ordH_get {dd : Int} {L : List Hd} {i : Nat} (h : i < (ordH dd L).length) : (ordH dd L)[i] = gt L (kkL dd L.length i) ∧ kkL dd L.length i < L.length := by
  have hl : (ordH dd L).length = L.length := by unfold ordH; split <;> simp
  unfold kkL
  by_cases h0 : dd = 0
  · have e : ordH dd L = L.reverse := if_pos h0
    rw [if_pos h0]
    refine ⟨?_, by omega⟩
    simp only [e, List.getElem_reverse]
    rw [gt_get (by omega)]
  · have e : ordH dd L = L := if_neg h0
    rw [if_neg h0]
    refine ⟨?_, by omega⟩
    simp only [e]
    rw [gt_get (by omega)]
theorem psi_len (pl dd : Int) (x y : Hd) : (psi pl dd x y).length ≤ 1 := by
  unfold psi
  split <;> simp
theorem psi_sum (pl dd : Int) (x : Hd) : ∀ L : List Hd, (L.flatMap (psi pl dd x)).length ≤ L.length
  | [] => by simp
  | y :: L => by
    have h1 := psi_len pl dd x y
    have h2 := psi_sum pl dd x L
    rw [List.flatMap_cons, List.length_append, List.length_cons]
    omega
theorem phi_sum (L2 : List Hd) (pl dd : Int) : ∀ L : List Hd, (L.flatMap (phi L2 pl dd)).length ≤ L2.length * L.length
  | [] => by simp
  | y :: L => by
    have h1 : (phi L2 pl dd y).length ≤ L2.length := psi_sum pl dd y L2
    have h2 := phi_sum L2 pl dd L
    rw [List.flatMap_cons, List.length_append, List.length_cons, Nat.mul_succ]
    omega
theorem heldT_len {F B : List (List Id)} (hF : F.length ≤ 40) (hB : B.length ≤ 40) (h4F : ∀ i, (F.getD i []).length ≤ 4) (h4B : ∀ i, (B.getD i []).length ≤ 4) (r : Int) : (heldT F B r 2).length ≤ 320 := by
  have h1 := heldN_len h4F 0 r F.length
  have h2 := heldN_len h4B 1 r B.length
  show (heldN 0 r F F.length ++ heldN 1 r B B.length).length ≤ 320
  rw [List.length_append]
  omega

set_option maxHeartbeats 16000000 in
theorem OrdersMeets_ok (s : AV) (P : List Put) (r pl d : Int) (hs : IsL 2 s (P.map Put.av)) (hP : ∀ p ∈ P, p.ok) (hd0 : 0 ≤ d) :
    PureA Try.prog 5 [s, .agg [.val (.int .i64 r), .val (.int .i64 pl)], .val (.int .u8 d)] (.val (.bool true)) := by
  have hof := Of_ok s P hs hP
  have hTo := Of_tab_ok P
  have hTn := (ofN_ok P).2
  generalize ofL P = T at hof hTo
  have hle : ∀ l ∈ T, l.length ≤ 1000 := fun l hl => by have := hTo.le l hl; omega
  have hBe := beds_is hle
  have hck := check_beds hTo (by omega)
  have hm4 := at_le4' hTo
  have hF40 := (beds_40 T).1
  have hB40 := (beds_40 T).2
  have hF4 := (tab_le4 hTo).1
  have hB4 := (tab_le4 hTo).2
  have hnd : (namesL (bedsF T) (bedsB T)).Nodup := by rw [names_beds hTo.len]; exact hTo.nd
  have c1 := (bedA_is (bedsF T)).2.isL.cells
  have c2 := (bedA_is (bedsB T)).2.isL.cells
  have s1 := (bedA_is (bedsF T)).2.isL.stor
  have s2 := (bedA_is (bedsB T)).2.isL.stor
  obtain ⟨tm, htm⟩ : ∃ t, Int.tmod pl 2 = t := ⟨_, rfl⟩
  have htm2 : (tm = 0 ↔ pl % 2 = 0) ∧ -1 ≤ tm ∧ tm ≤ 1 := by
    rw [← htm]
    rcases Int.le_total 0 pl with h | h
    · rw [Int.tmod_eq_emod_of_nonneg h]; omega
    · have := Int.neg_tmod (-pl) 2
      rw [Int.neg_neg] at this
      rw [this, Int.tmod_eq_emod_of_nonneg (by omega)]
      omega
  have wtm : IntKind.i64.wrap tm = tm := by rw [wrap_i64 (by omega) (by omega)]
  have hand : decide (IntKind.i64.wrap (BitVec.ofInt IntKind.i64.bits pl &&& BitVec.ofInt IntKind.i64.bits 1).toNat = 0) = decide (pl % 2 = 0) := by
    have h := wrap_and_one pl
    refine decide_eq_decide.2 ?_
    show IntKind.i64.wrap ((BitVec.ofInt 64 pl &&& BitVec.ofInt 64 1).toNat) = 0 ↔ _
    rw [h]
  obtain ⟨lA, hSt, lc, ls⟩ : ∃ lA, PureA Try.prog 11 [.agg [bedA (bedsF T), bedA (bedsB T)], .val (.int .i64 r), .val (.int .u8 d)] (.tup [lA, .val (.int .i64 (stepE r d))]) ∧ lA.cells = [lA] ∧ lA.stor = true := by
    by_cases he : stepE r d = 0
    · obtain ⟨k1, k2, k3⟩ := stepE_0' hd0 he
      have h := Step_ok hBe hck hm4 r d k2 k1 (by unfold moveE; rw [if_pos k1, if_pos k3])
      rw [he]
      exact ⟨_, h, (tA_T _ _).isL.cells, (tA_T _ _).isL.stor⟩
    · exact ⟨_, StepE_err hBe hck r d hd0 he, rfl, rfl⟩
  obtain ⟨gA, mE, hMe, g1, g2, g3⟩ : ∃ gA mE, PureA Try.prog 12 [.agg [bedA (bedsF T), bedA (bedsB T)], .val (.int .i64 r), .val (.int .u8 d), .val (.int .i64 pl)] (.tup [gA, .val (.int .i64 mE)]) ∧ (stepE r d ≠ 0 → gA = .val (.slice none 0 0) ∧ mE = stepE r d) ∧ (stepE r d = 0 → pl % 2 = 0 → gA = .val (.slice none 0 0) ∧ mE = 1) ∧ (stepE r d = 0 → pl % 2 = 1 → IsT 4 gA ((meetTo (bedsF T) (bedsB T) r d pl 40).map Ps.av) ∧ mE = 0) := by
    by_cases he : stepE r d = 0
    · by_cases hp : pl % 2 = 0
      · exact ⟨_, _, Meets_even hBe hck r d pl hd0 he (by rw [hand]; exact decide_eq_true hp), fun h => (h he).elim, fun _ _ => ⟨rfl, rfl⟩, fun _ h => by omega⟩
      · obtain ⟨k1, k2, k3⟩ := stepE_0' hd0 he
        exact ⟨_, _, Meets_ok hBe hck hm4 r d pl k2 k1 (by unfold moveE; rw [if_pos k1, if_pos k3]) (by rw [hand]; exact decide_eq_false hp), fun h => (h he).elim, fun _ h => (hp h).elim, fun _ _ => ⟨tA_T _ _, rfl⟩⟩
    · exact ⟨_, _, MeetsE_err hBe hck r d pl hd0 he, fun _ => ⟨rfl, rfl⟩, fun h => (he h).elim, fun h => (he h).elim⟩
  have gc : gA.cells = [gA] ∧ gA.stor = true := by
    by_cases he : stepE r d = 0
    · by_cases hp : pl % 2 = 0
      · rw [(g2 he hp).1]; exact ⟨rfl, rfl⟩
      · have := (g3 he (by omega)).1; exact ⟨this.isL.cells, this.isL.stor⟩
    · rw [(g1 he).1]; exact ⟨rfl, rfl⟩
  obtain ⟨gc, gs⟩ := gc
  have hE0 : stepE r d = 0 → _ := fun h => stepE_0' hd0 h
  generalize stepE r d = ee at *
  generalize hbf : bedA (bedsF T) = bf at *
  generalize hbb : bedA (bedsB T) = bb at *
  have d0 : decide ((0 : Int) = 0) = true := by decide
  have d1 : decide ((1 : Int) = 1) = true := by decide
  have dee : decide (ee = ee) = true := decide_eq_true rfl
  clear hand
  replace hBe := (show Aside _ from hBe)
  replace hck := (show Aside _ from hck)
  replace hm4 := (show Aside _ from hm4)
  replace hTo := (show Aside _ from hTo)
  replace hle := (show Aside _ from hle)
  replace hs := (show Aside _ from hs)
  replace hP := (show Aside _ from hP)
  replace hF40 := (show Aside _ from hF40)
  replace hB40 := (show Aside _ from hB40)
  replace hF4 := (show Aside _ from hF4)
  replace hB4 := (show Aside _ from hB4)
  replace hnd := (show Aside _ from hnd)
  replace g1 := (show Aside _ from g1)
  replace g2 := (show Aside _ from g2)
  replace g3 := (show Aside _ from g3)
  replace hE0 := (show Aside _ from hE0)
  replace hd0 := (show Aside _ from hd0)
  replace hbf := (show Aside _ from hbf)
  replace hbb := (show Aside _ from hbb)
  replace hTn := (show Aside _ from hTn)
  replace htm2 := (show Aside _ from htm2)
  intro O
  refine k5.call mix ?_
  unfold c5
  (repeat' first
    | simp (contextual := true) (maxSteps := 4000000) only [fwc, fwe, fww, reduceIte, ↓reduceIte, Nat.reduceAdd, Nat.reduceLeDiff, Nat.reduceEqDiff, Nat.reduceLT, Nat.reduceSub, reduceCtorEq, Int.reduceEq, Int.reduceLT, Int.reduceLE, Int.reduceNeg, Int.reduceToNat, Int.reduceAdd, Int.reduceSub, Nat.reduceMul, part_cell, part_agg, *]
    | (refine retK_now ?_)
    | (refine retK_now' ?_)
    | (intro q hq)
    | (refine cond_intro (fun hc => ?_) (fun hc => ?_)))
  revert q
  intro q4 hq4
  refine seqK_now ?_
  (repeat' first
    | simp (contextual := true) (maxSteps := 4000000) only [fwc, fwe, fww, reduceIte, ↓reduceIte, Nat.reduceAdd, Nat.reduceLeDiff, Nat.reduceEqDiff, Nat.reduceLT, Nat.reduceSub, reduceCtorEq, Int.reduceEq, Int.reduceLT, Int.reduceLE, Int.reduceNeg, Int.reduceToNat, Int.reduceAdd, Int.reduceSub, Nat.reduceMul, part_cell, part_agg, *]
    | (refine retK_now ?_)
    | (refine retK_now' ?_)
    | (intro q hq)
    | (refine cond_intro (fun hc => ?_) (fun hc => ?_)))
  refine hof.use ?_
  (repeat' first
    | simp (contextual := true) (maxSteps := 4000000) only [fwc, fwe, fww, reduceIte, ↓reduceIte, Nat.reduceAdd, Nat.reduceLeDiff, Nat.reduceEqDiff, Nat.reduceLT, Nat.reduceSub, reduceCtorEq, Int.reduceEq, Int.reduceLT, Int.reduceLE, Int.reduceNeg, Int.reduceToNat, Int.reduceAdd, Int.reduceSub, Nat.reduceMul, part_cell, part_agg, *]
    | (refine retK_now ?_)
    | (refine retK_now' ?_)
    | (intro q hq)
    | (refine cond_intro (fun hc => ?_) (fun hc => ?_)))
  revert q
  intro q7 hq7
  refine seqK_now ?_
  have ip0 : indexPtrA 2 1 false 0 (.optr q4 2 0 0) = some (.optr q4 2 0 0) := rfl
  have ip1 : indexPtrA 2 1 false 1 (.optr q4 2 0 0) = some (.optr q4 2 0 1) := rfl
  (repeat' first
    | simp (contextual := true) (maxSteps := 4000000) only [fwc, fwe, fww, reduceIte, ↓reduceIte, Nat.reduceAdd, Nat.reduceLeDiff, Nat.reduceEqDiff, Nat.reduceLT, Nat.reduceSub, reduceCtorEq, Int.reduceEq, Int.reduceLT, Int.reduceLE, Int.reduceNeg, Int.reduceToNat, Int.reduceAdd, Int.reduceSub, Nat.reduceMul, part_cell, part_agg, *]
    | (refine retK_now ?_)
    | (refine retK_now' ?_)
    | (intro q hq)
    | (refine cond_intro (fun hc => ?_) (fun hc => ?_)))
  refine seqK_now ?_
  (repeat' first
    | simp (contextual := true) (maxSteps := 4000000) only [fwc, fwe, fww, reduceIte, ↓reduceIte, Nat.reduceAdd, Nat.reduceLeDiff, Nat.reduceEqDiff, Nat.reduceLT, Nat.reduceSub, reduceCtorEq, Int.reduceEq, Int.reduceLT, Int.reduceLE, Int.reduceNeg, Int.reduceToNat, Int.reduceAdd, Int.reduceSub, Nat.reduceMul, part_cell, part_agg, *]
    | (refine retK_now ?_)
    | (refine retK_now' ?_)
    | (intro q hq)
    | (refine cond_intro (fun hc => ?_) (fun hc => ?_)))
  refine hMe.use ?_
  (repeat' first
    | simp (contextual := true) (maxSteps := 4000000) only [fwc, fwe, fww, reduceIte, ↓reduceIte, Nat.reduceAdd, Nat.reduceLeDiff, Nat.reduceEqDiff, Nat.reduceLT, Nat.reduceSub, reduceCtorEq, Int.reduceEq, Int.reduceLT, Int.reduceLE, Int.reduceNeg, Int.reduceToNat, Int.reduceAdd, Int.reduceSub, Nat.reduceMul, part_cell, part_agg, *]
    | (refine retK_now ?_)
    | (refine retK_now' ?_)
    | (intro q hq)
    | (refine cond_intro (fun hc => ?_) (fun hc => ?_)))
  refine seqK_now ?_
  (repeat' first
    | simp (contextual := true) (maxSteps := 4000000) only [fwc, fwe, fww, reduceIte, ↓reduceIte, Nat.reduceAdd, Nat.reduceLeDiff, Nat.reduceEqDiff, Nat.reduceLT, Nat.reduceSub, reduceCtorEq, Int.reduceEq, Int.reduceLT, Int.reduceLE, Int.reduceNeg, Int.reduceToNat, Int.reduceAdd, Int.reduceSub, Nat.reduceMul, part_cell, part_agg, *]
    | (refine retK_now ?_)
    | (refine retK_now' ?_)
    | (intro q hq)
    | (refine cond_intro (fun hc => ?_) (fun hc => ?_)))
  refine hSt.use ?_
  (repeat' first
    | simp (contextual := true) (maxSteps := 4000000) only [fwc, fwe, fww, reduceIte, ↓reduceIte, Nat.reduceAdd, Nat.reduceLeDiff, Nat.reduceEqDiff, Nat.reduceLT, Nat.reduceSub, reduceCtorEq, Int.reduceEq, Int.reduceLT, Int.reduceLE, Int.reduceNeg, Int.reduceToNat, Int.reduceAdd, Int.reduceSub, Nat.reduceMul, part_cell, part_agg, *]
    | (refine retK_now ?_)
    | (refine retK_now' ?_)
    | (intro q hq)
    | (refine cond_intro (fun hc => ?_) (fun hc => ?_)))
  refine seqK_now ?_
  have hsub7 : O.sub ((O.upd q4 (.arr 49 2 [.agg [.val (.int .i64 r), .val (.int .i64 pl)]])).upd q7 (.arr 26 2 [.agg [bf, bb]])) := sub_new (sub_new (Heap.sub_refl O) hq4) (by rw [Heap.upd_ne _ _ hq7.1]; exact hq7.2.2)
  replace hsub7 := (show Aside _ from hsub7)
  by_cases he : ee = 0
  rotate_left
  · have de : decide (ee = 0) = false := decide_eq_false he
    obtain ⟨hg, hm⟩ := g1.out he
    subst hg
    subst hm
    replace he := (show Aside _ from he)
    (repeat' first
    | simp (contextual := true) (maxSteps := 4000000) only [fwc, fwe, fww, reduceIte, ↓reduceIte, Nat.reduceAdd, Nat.reduceLeDiff, Nat.reduceEqDiff, Nat.reduceLT, Nat.reduceSub, reduceCtorEq, Int.reduceEq, Int.reduceLT, Int.reduceLE, Int.reduceNeg, Int.reduceToNat, Int.reduceAdd, Int.reduceSub, Nat.reduceMul, part_cell, part_agg, *]
    | (refine seqK_now ?_)
    | (refine retK_now ?_)
    | (refine retK_now' ?_)
    | (intro q hq)
    | (refine cond_intro (fun hc => ?_) (fun hc => ?_)))
    refine lives4_ok.use ?_
    (repeat' first
    | simp (contextual := true) (maxSteps := 4000000) only [fwc, fwe, fww, reduceIte, ↓reduceIte, Nat.reduceAdd, Nat.reduceLeDiff, Nat.reduceEqDiff, Nat.reduceLT, Nat.reduceSub, reduceCtorEq, Int.reduceEq, Int.reduceLT, Int.reduceLE, Int.reduceNeg, Int.reduceToNat, Int.reduceAdd, Int.reduceSub, Nat.reduceMul, part_cell, part_agg, *]
    | (refine seqK_now ?_)
    | (refine retK_now ?_)
    | (refine retK_now' ?_)
    | (intro q hq)
    | (refine cond_intro (fun hc => ?_) (fun hc => ?_)))
    refine WeakR.pure hsub7.out ?_
    rfl
  subst he
  obtain ⟨k1, k2, k3⟩ := hE0.out rfl
  by_cases hp : pl % 2 = 0
  · have dt : decide (tm = 0) = true := decide_eq_true (htm2.out.1.2 hp)
    obtain ⟨hg, hm⟩ := g2.out rfl hp
    subst hg
    subst hm
    replace hp := (show Aside _ from hp)
    replace k1 := (show Aside _ from k1)
    replace k2 := (show Aside _ from k2)
    replace k3 := (show Aside _ from k3)
    (repeat' first
    | simp (contextual := true) (maxSteps := 4000000) only [fwc, fwe, fww, reduceIte, ↓reduceIte, Nat.reduceAdd, Nat.reduceLeDiff, Nat.reduceEqDiff, Nat.reduceLT, Nat.reduceSub, reduceCtorEq, Int.reduceEq, Int.reduceLT, Int.reduceLE, Int.reduceNeg, Int.reduceToNat, Int.reduceAdd, Int.reduceSub, Nat.reduceMul, part_cell, part_agg, *]
    | (refine seqK_now ?_)
    | (refine retK_now ?_)
    | (refine retK_now' ?_)
    | (intro q hq)
    | (refine cond_intro (fun hc => ?_) (fun hc => ?_)))
    refine lives4_ok.use ?_
    (repeat' first
    | simp (contextual := true) (maxSteps := 4000000) only [fwc, fwe, fww, reduceIte, ↓reduceIte, Nat.reduceAdd, Nat.reduceLeDiff, Nat.reduceEqDiff, Nat.reduceLT, Nat.reduceSub, reduceCtorEq, Int.reduceEq, Int.reduceLT, Int.reduceLE, Int.reduceNeg, Int.reduceToNat, Int.reduceAdd, Int.reduceSub, Nat.reduceMul, part_cell, part_agg, *]
    | (refine seqK_now ?_)
    | (refine retK_now ?_)
    | (refine retK_now' ?_)
    | (intro q hq)
    | (refine cond_intro (fun hc => ?_) (fun hc => ?_)))
    refine WeakR.pure hsub7.out ?_
    rfl
  have hodd : pl % 2 = 1 := by omega
  have dt : decide (tm = 0) = false := decide_eq_false fun h => hp (htm2.out.1.1 h)
  obtain ⟨hgT, hm⟩ := g3.out rfl hodd
  subst hm
  have hrr : -4 ≤ r ∧ r ≤ 4 := by unfold rackOK at k1; simpa using k1
  have hrr2 : -4 ≤ r + shL d ∧ r + shL d ≤ 4 := by unfold rackOK at k3; simpa using k3
  have wp1 : IntKind.i64.wrap (r + 1) = r + 1 := by rw [wrap_i64 (by omega) (by omega)]
  have wm1 : IntKind.i64.wrap (r - 1) = r - 1 := by rw [wrap_i64 (by omega) (by omega)]
  replace k1 := (show Aside _ from k1)
  replace k3 := (show Aside _ from k3)
  replace hrr := (show Aside _ from hrr)
  replace hrr2 := (show Aside _ from hrr2)
  replace hgT := (show Aside _ from hgT)
  replace hp := (show Aside _ from hp)
  replace hodd := (show Aside _ from hodd)
  (repeat' first
    | simp (contextual := true) (maxSteps := 4000000) only [fwc, fwe, fww, reduceIte, ↓reduceIte, Nat.reduceAdd, Nat.reduceLeDiff, Nat.reduceEqDiff, Nat.reduceLT, Nat.reduceSub, reduceCtorEq, Int.reduceEq, Int.reduceLT, Int.reduceLE, Int.reduceNeg, Int.reduceToNat, Int.reduceAdd, Int.reduceSub, Nat.reduceMul, part_cell, part_agg, *]
    | (refine retK_now ?_)
    | (refine retK_now' ?_)
    | (intro q hq)
    | (refine cond_intro (fun hc => ?_) (fun hc => ?_)))
  refine seqK_now ?_
  (repeat' first
    | simp (contextual := true) (maxSteps := 4000000) only [fwc, fwe, fww, reduceIte, ↓reduceIte, Nat.reduceAdd, Nat.reduceLeDiff, Nat.reduceEqDiff, Nat.reduceLT, Nat.reduceSub, reduceCtorEq, Int.reduceEq, Int.reduceLT, Int.reduceLE, Int.reduceNeg, Int.reduceToNat, Int.reduceAdd, Int.reduceSub, Nat.reduceMul, part_cell, part_agg, *]
    | (refine retK_now ?_)
    | (refine retK_now' ?_)
    | (intro q hq)
    | (refine cond_intro (fun hc => ?_) (fun hc => ?_)))
  refine seqK_now ?_
  (repeat' first
    | simp (contextual := true) (maxSteps := 4000000) only [fwc, fwe, fww, reduceIte, ↓reduceIte, Nat.reduceAdd, Nat.reduceLeDiff, Nat.reduceEqDiff, Nat.reduceLT, Nat.reduceSub, reduceCtorEq, Int.reduceEq, Int.reduceLT, Int.reduceLE, Int.reduceNeg, Int.reduceToNat, Int.reduceAdd, Int.reduceSub, Nat.reduceMul, part_cell, part_agg, *]
    | (refine retK_now ?_)
    | (refine retK_now' ?_)
    | (intro q hq)
    | (refine cond_intro (fun hc => ?_) (fun hc => ?_)))
  refine seqK_now ?_
  (repeat' first
    | simp (contextual := true) (maxSteps := 4000000) only [fwc, fwe, fww, reduceIte, ↓reduceIte, Nat.reduceAdd, Nat.reduceLeDiff, Nat.reduceEqDiff, Nat.reduceLT, Nat.reduceSub, reduceCtorEq, Int.reduceEq, Int.reduceLT, Int.reduceLE, Int.reduceNeg, Int.reduceToNat, Int.reduceAdd, Int.reduceSub, Nat.reduceMul, part_cell, part_agg, *]
    | (refine retK_now ?_)
    | (refine retK_now' ?_)
    | (intro q hq)
    | (refine cond_intro (fun hc => ?_) (fun hc => ?_)))
  refine seqK_now ?_
  (repeat' first
    | simp (contextual := true) (maxSteps := 4000000) only [fwc, fwe, fww, reduceIte, ↓reduceIte, Nat.reduceAdd, Nat.reduceLeDiff, Nat.reduceEqDiff, Nat.reduceLT, Nat.reduceSub, reduceCtorEq, Int.reduceEq, Int.reduceLT, Int.reduceLE, Int.reduceNeg, Int.reduceToNat, Int.reduceAdd, Int.reduceSub, Nat.reduceMul, part_cell, part_agg, *]
    | (refine retK_now ?_)
    | (refine retK_now' ?_)
    | (intro q hq)
    | (refine cond_intro (fun hc => ?_) (fun hc => ?_)))
  refine seqK_now ?_
  refine seq_post (fun e1 O1 => O.sub O1 ∧ O1 q7 = some (.arr 26 2 [.agg [bf, bb]]) ∧ e1 = e5a r pl q7 gA 0 (r + shL d) (1 - d)) ?_ ?_
  rotate_left
  · intro G hG
    replace hG := (show Aside _ from hG)
    have f7 := (show Aside _ from (Heap.upd_same (O.upd q4 (.arr 49 2 [.agg [.val (.int .i64 r), .val (.int .i64 pl)]])) q7 (.arr 26 2 [.agg [bf, bb]])))
    by_cases k4 : d = 0
    · have e4 : decide (d = 0) = true := decide_eq_true k4
      have hn : r + shL d = r - 1 := by rw [k4]; rfl
      have hd1 : 1 - d = 1 := by omega
      replace k2 := (show Aside _ from k2)
      replace k4 := (show Aside _ from k4)
      replace hn := (show Aside _ from hn)
      replace hd1 := (show Aside _ from hd1)
      (repeat' first
    | simp (contextual := true) (maxSteps := 4000000) only [fwc, fwe, fww, reduceIte, ↓reduceIte, Nat.reduceAdd, Nat.reduceLeDiff, Nat.reduceEqDiff, Nat.reduceLT, Nat.reduceSub, reduceCtorEq, Int.reduceEq, Int.reduceLT, Int.reduceLE, Int.reduceNeg, Int.reduceToNat, Int.reduceAdd, Int.reduceSub, Nat.reduceMul, part_cell, part_agg, *]
    | (refine seqK_now ?_)
    | (refine retK_now ?_)
    | (refine retK_now' ?_)
    | (intro q hq)
    | (refine cond_intro (fun hc => ?_) (fun hc => ?_)))
      exact hG.out _ _ ⟨hsub7.out, f7.out, by rw [hn.out, hd1.out]; rfl⟩
    · have e4 : decide (d = 0) = false := decide_eq_false k4
      have hn : r + shL d = r + 1 := by rw [show d = 1 by omega]; rfl
      have hd1 : 1 - d = 0 := by omega
      replace k2 := (show Aside _ from k2)
      replace k4 := (show Aside _ from k4)
      replace hn := (show Aside _ from hn)
      replace hd1 := (show Aside _ from hd1)
      (repeat' first
    | simp (contextual := true) (maxSteps := 4000000) only [fwc, fwe, fww, reduceIte, ↓reduceIte, Nat.reduceAdd, Nat.reduceLeDiff, Nat.reduceEqDiff, Nat.reduceLT, Nat.reduceSub, reduceCtorEq, Int.reduceEq, Int.reduceLT, Int.reduceLE, Int.reduceNeg, Int.reduceToNat, Int.reduceAdd, Int.reduceSub, Nat.reduceMul, part_cell, part_agg, *]
    | (refine seqK_now ?_)
    | (refine retK_now ?_)
    | (refine retK_now' ?_)
    | (intro q hq)
    | (refine cond_intro (fun hc => ?_) (fun hc => ?_)))
      exact hG.out _ _ ⟨hsub7.out, f7.out, by rw [hn.out, hd1.out]; rfl⟩
  intro e1 O1 hQ
  obtain ⟨hsub, f7, rfl⟩ := hQ
  replace hsub := (show Aside _ from hsub)
  clear wp1 wm1 hq4 hq7 hsub7 ip0 ip1 htm wtm
  unfold e5a
  have hBe' := hBe.out
  have hL1 := List_ok hBe' hck.out hF40.out hB40.out hF4.out hB4.out r
  rw [if_pos k1.out] at hL1
  have hL2 := List_ok hBe' hck.out hF40.out hB40.out hF4.out hB4.out (r + shL d)
  rw [if_pos k3.out] at hL2
  have hwant := want_eq hF40.out hB40.out hnd.out k2 k1.out k3.out hodd.out
  have hlen1 : (bySpot (heldT (bedsF T) (bedsB T) r 2)).length ≤ 320 := by rw [(bySpot_perm (heldT_spot hF40.out hB40.out k1.out)).length_eq]; exact heldT_len hF40.out hB40.out hF4.out hB4.out r
  have hlen2 : (bySpot (heldT (bedsF T) (bedsB T) (r + shL d) 2)).length ≤ 320 := by rw [(bySpot_perm (heldT_spot hF40.out hB40.out k3.out)).length_eq]; exact heldT_len hF40.out hB40.out hF4.out hB4.out (r + shL d)
  have hml := meetTo_len hm4.out r d pl 40
  generalize bySpot (heldT (bedsF T) (bedsB T) r 2) = L1 at *
  generalize bySpot (heldT (bedsF T) (bedsB T) (r + shL d) 2) = L2 at *
  generalize meetTo (bedsF T) (bedsB T) r d pl 40 = MT at *
  generalize r + shL d = nx at *
  have hdd : 1 - d = 0 ∨ 1 - d = 1 := by omega
  generalize 1 - d = dd at *
  clear hBe'
  have hbT := tA_T 5 (L1.map Hd.av)
  have hwT := tA_T 5 (L2.map Hd.av)
  generalize tA 5 (L1.map Hd.av) = b at *
  generalize tA 5 (L2.map Hd.av) = w at *
  have bl := hbT.isL.len
  have bc := hbT.isL.cells
  have bs := hbT.isL.stor
  have wl := hwT.isL.len
  have wc := hwT.isL.cells
  have ws := hwT.isL.stor
  have gl := (IsT.isL hgT.out).len
  rw [List.length_map] at bl wl gl
  replace hwant := (show Aside _ from hwant)
  replace hlen1 := (show Aside _ from hlen1)
  replace hlen2 := (show Aside _ from hlen2)
  replace hml := (show Aside _ from hml)
  replace hbT := (show Aside _ from hbT)
  replace hwT := (show Aside _ from hwT)
  replace k2 := (show Aside _ from k2)
  replace hdd := (show Aside _ from hdd)
  (repeat' first
    | simp (contextual := true) (maxSteps := 4000000) only [fwc, fwe, fww, reduceIte, ↓reduceIte, Nat.reduceAdd, Nat.reduceLeDiff, Nat.reduceEqDiff, Nat.reduceLT, Nat.reduceSub, reduceCtorEq, Int.reduceEq, Int.reduceLT, Int.reduceLE, Int.reduceNeg, Int.reduceToNat, Int.reduceAdd, Int.reduceSub, Nat.reduceMul, part_cell, part_agg, *]
    | (refine retK_now ?_)
    | (refine retK_now' ?_)
    | (intro q hq)
    | (refine cond_intro (fun hc => ?_) (fun hc => ?_)))
  refine hL1.use ?_
  (repeat' first
    | simp (contextual := true) (maxSteps := 4000000) only [fwc, fwe, fww, reduceIte, ↓reduceIte, Nat.reduceAdd, Nat.reduceLeDiff, Nat.reduceEqDiff, Nat.reduceLT, Nat.reduceSub, reduceCtorEq, Int.reduceEq, Int.reduceLT, Int.reduceLE, Int.reduceNeg, Int.reduceToNat, Int.reduceAdd, Int.reduceSub, Nat.reduceMul, part_cell, part_agg, *]
    | (refine retK_now ?_)
    | (refine retK_now' ?_)
    | (intro q hq)
    | (refine cond_intro (fun hc => ?_) (fun hc => ?_)))
  refine seqK_now ?_
  (repeat' first
    | simp (contextual := true) (maxSteps := 4000000) only [fwc, fwe, fww, reduceIte, ↓reduceIte, Nat.reduceAdd, Nat.reduceLeDiff, Nat.reduceEqDiff, Nat.reduceLT, Nat.reduceSub, reduceCtorEq, Int.reduceEq, Int.reduceLT, Int.reduceLE, Int.reduceNeg, Int.reduceToNat, Int.reduceAdd, Int.reduceSub, Nat.reduceMul, part_cell, part_agg, *]
    | (refine retK_now ?_)
    | (refine retK_now' ?_)
    | (intro q hq)
    | (refine cond_intro (fun hc => ?_) (fun hc => ?_)))
  refine hL2.use ?_
  (repeat' first
    | simp (contextual := true) (maxSteps := 4000000) only [fwc, fwe, fww, reduceIte, ↓reduceIte, Nat.reduceAdd, Nat.reduceLeDiff, Nat.reduceEqDiff, Nat.reduceLT, Nat.reduceSub, reduceCtorEq, Int.reduceEq, Int.reduceLT, Int.reduceLE, Int.reduceNeg, Int.reduceToNat, Int.reduceAdd, Int.reduceSub, Nat.reduceMul, part_cell, part_agg, *]
    | (refine retK_now ?_)
    | (refine retK_now' ?_)
    | (intro q hq)
    | (refine cond_intro (fun hc => ?_) (fun hc => ?_)))
  refine seqK_now ?_
  (repeat' first
    | simp (contextual := true) (maxSteps := 4000000) only [fwc, fwe, fww, reduceIte, ↓reduceIte, Nat.reduceAdd, Nat.reduceLeDiff, Nat.reduceEqDiff, Nat.reduceLT, Nat.reduceSub, reduceCtorEq, Int.reduceEq, Int.reduceLT, Int.reduceLE, Int.reduceNeg, Int.reduceToNat, Int.reduceAdd, Int.reduceSub, Nat.reduceMul, part_cell, part_agg, *]
    | (refine retK_now ?_)
    | (refine retK_now' ?_)
    | (intro q hq)
    | (refine cond_intro (fun hc => ?_) (fun hc => ?_)))
  refine seqK_now ?_
  (repeat' first
    | simp (contextual := true) (maxSteps := 4000000) only [fwc, fwe, fww, reduceIte, ↓reduceIte, Nat.reduceAdd, Nat.reduceLeDiff, Nat.reduceEqDiff, Nat.reduceLT, Nat.reduceSub, reduceCtorEq, Int.reduceEq, Int.reduceLT, Int.reduceLE, Int.reduceNeg, Int.reduceToNat, Int.reduceAdd, Int.reduceSub, Nat.reduceMul, part_cell, part_agg, *]
    | (refine retK_now ?_)
    | (refine retK_now' ?_)
    | (intro q hq)
    | (refine cond_intro (fun hc => ?_) (fun hc => ?_)))
  refine seqK_now ?_
  obtain ⟨I, hI⟩ := hideI (fun t e O' => ∃ (i : Nat) (s : AV) (O0 : Heap), i ≤ L1.length ∧ t = L1.length - i ∧ O.sub O0 ∧ OwN 54 4 O0 O' s ((((ordH dd L1).take i).flatMap (phi L2 pl dd)).map Ps.av) ∧ e = e5b pl gA dd b w s i)
  (repeat' first
    | simp (contextual := true) (maxSteps := 4000000) only [fwc, fwe, fww, reduceIte, ↓reduceIte, Nat.reduceAdd, Nat.reduceLeDiff, Nat.reduceEqDiff, Nat.reduceLT, Nat.reduceSub, reduceCtorEq, Int.reduceEq, Int.reduceLT, Int.reduceLE, Int.reduceNeg, Int.reduceToNat, Int.reduceAdd, Int.reduceSub, Nat.reduceMul, part_cell, part_agg, *]
    | (refine retK_now ?_)
    | (refine retK_now' ?_)
    | (intro q hq)
    | (refine cond_intro (fun hc => ?_) (fun hc => ?_)))
  refine cmd_loop I L1.length (by
    rw [hI.out]
    exact ⟨0, _, _, Nat.zero_le _, rfl, hsub.out, OwN.nil, rfl⟩) ?_
  clear f7 hL1 hL2 hSt hMe hof
  intro t e O' hh
  rw [hI.out] at hh
  obtain ⟨i, s0, O0, hi1, rfl, hO0, hs0, rfl⟩ := hh
  unfold e5b
  have sc := hs0.cells
  have sst := hs0.stor
  have sl := hs0.len
  rw [List.length_map] at sl
  replace hO0 := (show Aside _ from hO0)
  replace hs0 := (show Aside _ from hs0)
  have hOl : (ordH dd L1).length = L1.length := by unfold ordH; split <;> simp
  by_cases hi : i < L1.length
  rotate_left
  · have e0 : decide (i < L1.length) = false := decide_eq_false hi
    rw [List.take_of_length_le (by omega), hwant.out] at hs0 sl
    have dmm : decide ((MT.length : Int) = (MT.length : Int)) = true := decide_eq_true rfl
    replace hi := (show Aside _ from hi)
    replace hi1 := (show Aside _ from hi1)
    replace hOl := (show Aside _ from hOl)
    (repeat' first
    | simp (contextual := true) (maxSteps := 4000000) only [fwc, fwe, fww, reduceIte, ↓reduceIte, Nat.reduceAdd, Nat.reduceLeDiff, Nat.reduceEqDiff, Nat.reduceLT, Nat.reduceSub, reduceCtorEq, Int.reduceEq, Int.reduceLT, Int.reduceLE, Int.reduceNeg, Int.reduceToNat, Int.reduceAdd, Int.reduceSub, Nat.reduceMul, part_cell, part_agg, ilt_nat, *]
    | (refine seqK_now ?_)
    | (refine retK_now ?_)
    | (refine retK_now' ?_)
    | (intro q hq)
    | (refine cond_intro (fun hc => ?_) (fun hc => ?_)))
    refine opsW_gcap (b := false) (sz := 4) (L := MT.map Ps.av) rfl (fun h => ?_) ?_
    · simp only [opd_tmp, Env.upd_apply, if_true, *]
      exact hgT.out
    rw [List.length_map]
    obtain ⟨J, hJ⟩ := hideI (fun t e O'' => ∃ k, k ≤ MT.length ∧ t = MT.length - k ∧ O'' = O' ∧ e = e5e gA s0 k)
    (repeat' first
    | simp (contextual := true) (maxSteps := 4000000) only [fwc, fwe, fww, reduceIte, ↓reduceIte, Nat.reduceAdd, Nat.reduceLeDiff, Nat.reduceEqDiff, Nat.reduceLT, Nat.reduceSub, reduceCtorEq, Int.reduceEq, Int.reduceLT, Int.reduceLE, Int.reduceNeg, Int.reduceToNat, Int.reduceAdd, Int.reduceSub, Nat.reduceMul, part_cell, part_agg, ilt_nat, *]
    | (refine seqK_now ?_)
    | (refine retK_now ?_)
    | (refine retK_now' ?_)
    | (intro q hq)
    | (refine cond_intro (fun hc => ?_) (fun hc => ?_)))
    refine cmd_loop J MT.length (by
      rw [hJ.out]
      exact ⟨0, Nat.zero_le _, rfl, rfl, rfl⟩) ?_
    intro t e O2 hh
    rw [hJ.out] at hh
    obtain ⟨k, hkn, rfl, hOH, rfl⟩ := hh
    rw [hOH]
    clear hOH O2
    unfold e5e
    by_cases hk : k < MT.length
    rotate_left
    · have e1 : decide (k < MT.length) = false := decide_eq_false hk
      replace hk := (show Aside _ from hk)
      (repeat' first
    | simp (contextual := true) (maxSteps := 4000000) only [fwc, fwe, fww, reduceIte, ↓reduceIte, Nat.reduceAdd, Nat.reduceLeDiff, Nat.reduceEqDiff, Nat.reduceLT, Nat.reduceSub, reduceCtorEq, Int.reduceEq, Int.reduceLT, Int.reduceLE, Int.reduceNeg, Int.reduceToNat, Int.reduceAdd, Int.reduceSub, Nat.reduceMul, part_cell, part_agg, ilt_nat, *]
    | (refine seqK_now ?_)
    | (refine retK_now ?_)
    | (refine retK_now' ?_)
    | (intro q hq)
    | (refine cond_intro (fun hc => ?_) (fun hc => ?_)))
      refine lives4_ok.use ?_
      (repeat' first
    | simp (contextual := true) (maxSteps := 4000000) only [fwc, fwe, fww, reduceIte, ↓reduceIte, Nat.reduceAdd, Nat.reduceLeDiff, Nat.reduceEqDiff, Nat.reduceLT, Nat.reduceSub, reduceCtorEq, Int.reduceEq, Int.reduceLT, Int.reduceLE, Int.reduceNeg, Int.reduceToNat, Int.reduceAdd, Int.reduceSub, Nat.reduceMul, part_cell, part_agg, *]
    | (refine seqK_now ?_)
    | (refine retK_now ?_)
    | (refine retK_now' ?_)
    | (intro q hq)
    | (refine cond_intro (fun hc => ?_) (fun hc => ?_)))
      refine WeakR.pure (Heap.sub_trans hO0.out (OwN.sub hs0.out)) ?_
      rfl
    have e1 : decide (k < MT.length) = true := decide_eq_true hk
    have hwk : k < 4611686018427387904 := by have := hml.out; omega
    have hia := IsL.ia (IsT.isL hgT.out) (i := k) (by rw [List.length_map]; exact hk)
    rw [List.getElem_map] at hia
    generalize hz : MT[k] = z at *
    have hgk : (MT.map Ps.av)[k]? = some z.av := by rw [List.getElem?_map, List.getElem?_eq_getElem hk, hz]; rfl
    rcases hs0.out with ⟨_, e0', _⟩ | ⟨hne, id, cc, elems, h0, rfl, rfl, h1, h2⟩
    · rw [List.map_eq_nil_iff.1 e0'] at hk; simp at hk
    rw [List.length_map] at h1 h2 ⊢
    have g5 : elems[k]? = some z.av := by
      rw [← h1, List.getElem?_take, if_pos hk] at hgk
      exact hgk
    have a1 : indexAddrA 4 (k : Int) (.own id 4 0 MT.length cc) = some (.optr id 4 k 0) := by rw [ia_onat hk, Nat.zero_add]
    have hl1 : k + 1 ≤ elems.length := by omega
    rw [show z.av = .agg [.val (.int .u8 z.id.y), .val (.int .i64 z.id.n), .val (.bool z.f), .val (.int .u8 z.d)] from rfl] at hia g5
    have l3 : leavesEq [true, true, false, true] [.val (.int .u8 z.id.y), .val (.int .i64 z.id.n), .val (.bool z.f), .val (.int .u8 z.d)] [.val (.int .u8 z.id.y), .val (.int .i64 z.id.n), .val (.bool z.f), .val (.int .u8 z.d)] = some true := by
      simp [leavesEq, leafEq, intEqA, boolEqA]
    rw [List.length_map] at hJ
    have hx : J (MT.length - (k + 1)) (e5e gA (.own id 4 0 MT.length cc) (k + 1)) (O0.upd id (.arr 54 4 elems)) := by
      rw [hJ.out]
      exact ⟨k + 1, by omega, rfl, rfl, rfl⟩
    clear hgk
    replace hk := (show Aside _ from hk)
    replace hkn := (show Aside _ from hkn)
    replace hz := (show Aside _ from hz)
    replace hne := (show Aside _ from hne)
    replace h1 := (show Aside _ from h1)
    replace h2 := (show Aside _ from h2)
    replace hx := (show Aside _ from hx)
    (repeat' first
    | simp (contextual := true) (maxSteps := 4000000) only [fwc, fwe, fww, reduceIte, ↓reduceIte, Nat.reduceAdd, Nat.reduceLeDiff, Nat.reduceEqDiff, Nat.reduceLT, Nat.reduceSub, reduceCtorEq, Int.reduceEq, Int.reduceLT, Int.reduceLE, Int.reduceNeg, Int.reduceToNat, Int.reduceAdd, Int.reduceSub, Nat.reduceMul, part_cell, part_agg, ilt_nat, wrap_succ, *]
    | (refine seqK_now ?_)
    | (refine retK_now ?_)
    | (refine retK_now' ?_)
    | (intro q hq)
    | (refine cond_intro (fun hc => ?_) (fun hc => ?_)))
    refine loopK_now (MT.length - (k + 1)) (by have := hk.out; omega) ?_
    exact hx.out
  have e0 : decide (i < L1.length) = true := decide_eq_true hi
  have hwi : i < 4611686018427387904 := by have := hlen1.out; omega
  obtain ⟨hOi, hkk⟩ := ordH_get (dd := dd) (L := L1) (i := i) (by omega)
  have htk : ((ordH dd L1).take (i + 1)).flatMap (phi L2 pl dd) = ((ordH dd L1).take i).flatMap (phi L2 pl dd) ++ phi L2 pl dd (gt L1 (kkL dd L1.length i)) := by
    rw [List.take_succ_eq_append_getElem (by omega), List.flatMap_append, hOi]
    simp
  have hbl0 : (((ordH dd L1).take i).flatMap (phi L2 pl dd)).length ≤ 102400 := by
    have h1 := phi_sum L2 pl dd ((ordH dd L1).take i)
    have h2 := List.length_take_le i (ordH dd L1)
    have h3 := hlen1.out
    have h4 := hlen2.out
    have h5 : L2.length * ((ordH dd L1).take i).length ≤ 320 * 320 := Nat.mul_le_mul h4 (by omega)
    omega
  obtain ⟨kk, hkd⟩ : ∃ kk, kkL dd L1.length i = kk := ⟨_, rfl⟩
  rw [hkd] at htk hkk hOi
  have hia := IsL.ia (IsT.isL hbT.out) (i := kk) (by rw [List.length_map]; exact hkk)
  rw [List.getElem_map, ← gt_get hkk] at hia
  generalize gt L1 kk = x at *
  rw [show x.av = .agg [.val (.int .u8 x.id.y), .val (.int .i64 x.id.n), .val (.int .u8 x.bed), .val (.int .i64 x.at_), .val (.int .i64 x.spot)] from rfl] at hia
  generalize ((ordH dd L1).take i).flatMap (phi L2 pl dd) = base at *
  replace hi := (show Aside _ from hi)
  replace hi1 := (show Aside _ from hi1)
  replace hOl := (show Aside _ from hOl)
  replace hOi := (show Aside _ from hOi)
  replace hkk := (show Aside _ from hkk)
  replace htk := (show Aside _ from htk)
  replace hbl0 := (show Aside _ from hbl0)
  replace hkd := (show Aside _ from hkd)
  (repeat' first
    | simp (contextual := true) (maxSteps := 4000000) only [fwc, fwe, fww, reduceIte, ↓reduceIte, Nat.reduceAdd, Nat.reduceLeDiff, Nat.reduceEqDiff, Nat.reduceLT, Nat.reduceSub, reduceCtorEq, Int.reduceEq, Int.reduceLT, Int.reduceLE, Int.reduceNeg, Int.reduceToNat, Int.reduceAdd, Int.reduceSub, Nat.reduceMul, part_cell, part_agg, ilt_nat, *]
    | (refine retK_now ?_)
    | (refine retK_now' ?_)
    | (intro q hq)
    | (refine cond_intro (fun hc => ?_) (fun hc => ?_)))
  refine seqK_now ?_
  (repeat' first
    | simp (contextual := true) (maxSteps := 4000000) only [fwc, fwe, fww, reduceIte, ↓reduceIte, Nat.reduceAdd, Nat.reduceLeDiff, Nat.reduceEqDiff, Nat.reduceLT, Nat.reduceSub, reduceCtorEq, Int.reduceEq, Int.reduceLT, Int.reduceLE, Int.reduceNeg, Int.reduceToNat, Int.reduceAdd, Int.reduceSub, Nat.reduceMul, part_cell, part_agg, ilt_nat, *]
    | (refine retK_now ?_)
    | (refine retK_now' ?_)
    | (intro q hq)
    | (refine cond_intro (fun hc => ?_) (fun hc => ?_)))
  refine seqK_now ?_
  (repeat' first
    | simp (contextual := true) (maxSteps := 4000000) only [fwc, fwe, fww, reduceIte, ↓reduceIte, Nat.reduceAdd, Nat.reduceLeDiff, Nat.reduceEqDiff, Nat.reduceLT, Nat.reduceSub, reduceCtorEq, Int.reduceEq, Int.reduceLT, Int.reduceLE, Int.reduceNeg, Int.reduceToNat, Int.reduceAdd, Int.reduceSub, Nat.reduceMul, part_cell, part_agg, ilt_nat, *]
    | (refine retK_now ?_)
    | (refine retK_now' ?_)
    | (intro q hq)
    | (refine cond_intro (fun hc => ?_) (fun hc => ?_)))
  refine seqK_now ?_
  refine seq_post (fun e1 O1 => O1 = O' ∧ e1 = e5c pl gA dd b w s0 i kk) ?_ ?_
  rotate_left
  · intro G hG
    replace hG := (show Aside _ from hG)
    by_cases k4 : dd = 0
    · have e4 : decide (dd = 0) = true := decide_eq_true k4
      have y1 : IntKind.i64.wrap ((L1.length : Int) - 1) = (L1.length : Int) - 1 := by have := hlen1.out; rw [wrap_i64 (by omega) (by omega)]
      have y2 : IntKind.i64.wrap ((L1.length : Int) - 1 - (i : Int)) = (kk : Int) := by
        have h1 := hlen1.out
        have h2 := hi.out
        have h3 := hkd.out
        unfold kkL at h3
        rw [if_pos k4] at h3
        rw [wrap_i64 (by omega) (by omega)]
        omega
      replace k4 := (show Aside _ from k4)
      (repeat' first
    | simp (contextual := true) (maxSteps := 4000000) only [fwc, fwe, fww, reduceIte, ↓reduceIte, Nat.reduceAdd, Nat.reduceLeDiff, Nat.reduceEqDiff, Nat.reduceLT, Nat.reduceSub, reduceCtorEq, Int.reduceEq, Int.reduceLT, Int.reduceLE, Int.reduceNeg, Int.reduceToNat, Int.reduceAdd, Int.reduceSub, Nat.reduceMul, part_cell, part_agg, ilt_nat, *]
    | (refine seqK_now ?_)
    | (refine retK_now ?_)
    | (refine retK_now' ?_)
    | (intro q hq)
    | (refine cond_intro (fun hc => ?_) (fun hc => ?_)))
      exact hG.out _ _ ⟨rfl, rfl⟩
    · have e4 : decide (dd = 0) = false := decide_eq_false k4
      have h3 : i = kk := by have := hkd.out; unfold kkL at this; rw [if_neg k4] at this; exact this
      replace k4 := (show Aside _ from k4)
      replace h3 := (show Aside _ from h3)
      (repeat' first
    | simp (contextual := true) (maxSteps := 4000000) only [fwc, fwe, fww, reduceIte, ↓reduceIte, Nat.reduceAdd, Nat.reduceLeDiff, Nat.reduceEqDiff, Nat.reduceLT, Nat.reduceSub, reduceCtorEq, Int.reduceEq, Int.reduceLT, Int.reduceLE, Int.reduceNeg, Int.reduceToNat, Int.reduceAdd, Int.reduceSub, Nat.reduceMul, part_cell, part_agg, ilt_nat, *]
    | (refine seqK_now ?_)
    | (refine retK_now ?_)
    | (refine retK_now' ?_)
    | (intro q hq)
    | (refine cond_intro (fun hc => ?_) (fun hc => ?_)))
      exact hG.out _ _ ⟨rfl, by rw [← h3.out]; rfl⟩
  intro e1 O1 hQ
  obtain ⟨hO1, rfl⟩ := hQ
  rw [hO1]
  clear hO1 O1
  unfold e5c
  (repeat' first
    | simp (contextual := true) (maxSteps := 4000000) only [fwc, fwe, fww, reduceIte, ↓reduceIte, Nat.reduceAdd, Nat.reduceLeDiff, Nat.reduceEqDiff, Nat.reduceLT, Nat.reduceSub, reduceCtorEq, Int.reduceEq, Int.reduceLT, Int.reduceLE, Int.reduceNeg, Int.reduceToNat, Int.reduceAdd, Int.reduceSub, Nat.reduceMul, part_cell, part_agg, ilt_nat, *]
    | (refine retK_now ?_)
    | (refine retK_now' ?_)
    | (intro q hq)
    | (refine cond_intro (fun hc => ?_) (fun hc => ?_)))
  refine seqK_now ?_
  obtain ⟨J, hJ⟩ := hideI (fun t e O' => ∃ (j : Nat) (s : AV) (O0 : Heap), j ≤ L2.length ∧ t = L2.length - j ∧ O.sub O0 ∧ OwN 54 4 O0 O' s ((base ++ (L2.take j).flatMap (psi pl dd x)).map Ps.av) ∧ e = e5d pl gA dd b w s i kk j)
  (repeat' first
    | simp (contextual := true) (maxSteps := 4000000) only [fwc, fwe, fww, reduceIte, ↓reduceIte, Nat.reduceAdd, Nat.reduceLeDiff, Nat.reduceEqDiff, Nat.reduceLT, Nat.reduceSub, reduceCtorEq, Int.reduceEq, Int.reduceLT, Int.reduceLE, Int.reduceNeg, Int.reduceToNat, Int.reduceAdd, Int.reduceSub, Nat.reduceMul, part_cell, part_agg, ilt_nat, *]
    | (refine retK_now ?_)
    | (refine retK_now' ?_)
    | (intro q hq)
    | (refine cond_intro (fun hc => ?_) (fun hc => ?_)))
  refine cmd_loop J L2.length (by
    rw [hJ.out]
    exact ⟨0, s0, O0, Nat.zero_le _, rfl, hO0.out, by rw [List.take_zero, List.flatMap_nil, List.append_nil]; exact hs0.out, rfl⟩) ?_
  clear hs0 sc sst sl hO0
  intro t e O2 hh
  rw [hJ.out] at hh
  obtain ⟨j, s3, O4, hj1, rfl, hO4, hs3, rfl⟩ := hh
  unfold e5d
  have sc := hs3.cells
  have sst := hs3.stor
  replace hO4 := (show Aside _ from hO4)
  replace hs3 := (show Aside _ from hs3)
  by_cases hj : j < L2.length
  rotate_left
  · have e1 : decide (j < L2.length) = false := decide_eq_false hj
    rw [List.take_of_length_le (by omega)] at hs3
    replace hj := (show Aside _ from hj)
    replace hj1 := (show Aside _ from hj1)
    (repeat' first
    | simp (contextual := true) (maxSteps := 4000000) only [fwc, fwe, fww, reduceIte, ↓reduceIte, Nat.reduceAdd, Nat.reduceLeDiff, Nat.reduceEqDiff, Nat.reduceLT, Nat.reduceSub, reduceCtorEq, Int.reduceEq, Int.reduceLT, Int.reduceLE, Int.reduceNeg, Int.reduceToNat, Int.reduceAdd, Int.reduceSub, Nat.reduceMul, part_cell, part_agg, ilt_nat, wrap_succ, *]
    | (refine seqK_now ?_)
    | (refine retK_now ?_)
    | (refine retK_now' ?_)
    | (intro q hq)
    | (refine cond_intro (fun hc => ?_) (fun hc => ?_)))
    refine loopK_now (L1.length - (i + 1)) (by have := hi.out; omega) ?_
    rw [hI.out]
    exact ⟨i + 1, s3, O4, by have := hi.out; omega, rfl, hO4.out, by rw [htk.out]; exact hs3.out, rfl⟩
  have e1 : decide (j < L2.length) = true := decide_eq_true hj
  have hwj : j < 4611686018427387904 := by have := hlen2.out; omega
  have hja := IsL.ia (IsT.isL hwT.out) (i := j) (by rw [List.length_map]; exact hj)
  rw [List.getElem_map, ← gt_get hj] at hja
  have hnx : base ++ (L2.take (j + 1)).flatMap (psi pl dd x) = base ++ ((L2.take j).flatMap (psi pl dd x) ++ psi pl dd x (gt L2 j)) := by
    rw [List.take_succ_eq_append_getElem hj, List.flatMap_append, ← gt_get hj]
    simp
  have hbl : (base ++ (L2.take j).flatMap (psi pl dd x)).length ≤ 110000 := by
    have h1 := psi_sum pl dd x (L2.take j)
    have h2 := List.length_take_le j L2
    have h3 := hlen2.out
    have h4 := hbl0.out
    rw [List.length_append]
    omega
  generalize gt L2 j = y at *
  rw [show y.av = .agg [.val (.int .u8 y.id.y), .val (.int .i64 y.id.n), .val (.int .u8 y.bed), .val (.int .i64 y.at_), .val (.int .i64 y.spot)] from rfl] at hja
  have hle := le_id y.id x.id
  replace hj := (show Aside _ from hj)
  replace hj1 := (show Aside _ from hj1)
  replace hbl := (show Aside _ from hbl)
  by_cases hid : y.id = x.id
  · rw [decide_eq_true hid] at hle
    cases hxb : decide (x.spot < pl)
    · cases hyb : decide (y.spot < pl)
      · have ex : decide (x.spot < pl) = false := hxb
        have ey : decide (y.spot < pl) = false := hyb
        have hps : psi pl dd x y = [] := by unfold psi; rw [if_neg (fun h => h.2 (by rw [ex, ey]))]
        rw [hps, List.append_nil] at hnx
        replace hnx := (show Aside _ from hnx)
        replace hps := (show Aside _ from hps)
        replace hid := (show Aside _ from hid)
        clear hxb hyb
        (repeat' first
    | simp (contextual := true) (maxSteps := 4000000) only [fwc, fwe, fww, reduceIte, ↓reduceIte, Nat.reduceAdd, Nat.reduceLeDiff, Nat.reduceEqDiff, Nat.reduceLT, Nat.reduceSub, reduceCtorEq, Int.reduceEq, Int.reduceLT, Int.reduceLE, Int.reduceNeg, Int.reduceToNat, Int.reduceAdd, Int.reduceSub, Nat.reduceMul, part_cell, part_agg, ilt_nat, wrap_succ, *]
    | (refine seqK_now ?_)
    | (refine retK_now ?_)
    | (refine retK_now' ?_)
    | (intro q hq)
    | (refine cond_intro (fun hc => ?_) (fun hc => ?_)))
        refine loopK_now (L2.length - (j + 1)) (by have := hj.out; omega) ?_
        rw [hJ.out]
        exact ⟨j + 1, s3, _, by have := hj.out; omega, rfl, hO4.out, by rw [hnx.out]; exact hs3.out, rfl⟩
      · have ex : decide (x.spot < pl) = false := hxb
        have ey : decide (y.spot < pl) = true := hyb
        have hps : psi pl dd x y = [psL dd x.id] := by unfold psi; rw [if_pos ⟨hid, by rw [ex, ey]; simp⟩]
        rw [hps, ← List.append_assoc] at hnx
        replace hnx := (show Aside _ from hnx)
        replace hps := (show Aside _ from hps)
        replace hid := (show Aside _ from hid)
        clear hxb hyb
        (repeat' first
    | simp (contextual := true) (maxSteps := 4000000) only [fwc, fwe, fww, reduceIte, ↓reduceIte, Nat.reduceAdd, Nat.reduceLeDiff, Nat.reduceEqDiff, Nat.reduceLT, Nat.reduceSub, reduceCtorEq, Int.reduceEq, Int.reduceLT, Int.reduceLE, Int.reduceNeg, Int.reduceToNat, Int.reduceAdd, Int.reduceSub, Nat.reduceMul, part_cell, part_agg, ilt_nat, wrap_succ, *]
    | (refine seqK_now ?_)
    | (refine retK_now ?_)
    | (refine retK_now' ?_)
    | (intro q hq)
    | (refine cond_intro (fun hc => ?_) (fun hc => ?_)))
        refine own_app (bytes := 24) hs3.out (X := [Ps.av (psL dd x.id)]) (.inr ⟨true, rfl⟩) (fits_of (by have := hbl.out; simp only [List.length_append, List.length_map, List.length_cons, List.length_nil] at this ⊢; omega) (by omega)) fun s5 O5 h5 => ?_
        have sc5 := h5.cells
        have sst5 := h5.stor
        replace h5 := (show Aside _ from h5)
        (repeat' first
    | simp (contextual := true) (maxSteps := 4000000) only [fwc, fwe, fww, reduceIte, ↓reduceIte, Nat.reduceAdd, Nat.reduceLeDiff, Nat.reduceEqDiff, Nat.reduceLT, Nat.reduceSub, reduceCtorEq, Int.reduceEq, Int.reduceLT, Int.reduceLE, Int.reduceNeg, Int.reduceToNat, Int.reduceAdd, Int.reduceSub, Nat.reduceMul, part_cell, part_agg, ilt_nat, wrap_succ, *]
    | (refine seqK_now ?_)
    | (refine retK_now ?_)
    | (refine retK_now' ?_)
    | (intro q hq)
    | (refine cond_intro (fun hc => ?_) (fun hc => ?_)))
        refine loopK_now (L2.length - (j + 1)) (by have := hj.out; omega) ?_
        rw [hJ.out]
        refine ⟨j + 1, s5, _, by have := hj.out; omega, rfl, hO4.out, ?_, rfl⟩
        rw [hnx.out, List.map_append]
        exact h5.out
    · cases hyb : decide (y.spot < pl)
      · have ex : decide (x.spot < pl) = true := hxb
        have ey : decide (y.spot < pl) = false := hyb
        have hps : psi pl dd x y = [psL dd x.id] := by unfold psi; rw [if_pos ⟨hid, by rw [ex, ey]; simp⟩]
        rw [hps, ← List.append_assoc] at hnx
        replace hnx := (show Aside _ from hnx)
        replace hps := (show Aside _ from hps)
        replace hid := (show Aside _ from hid)
        clear hxb hyb
        (repeat' first
    | simp (contextual := true) (maxSteps := 4000000) only [fwc, fwe, fww, reduceIte, ↓reduceIte, Nat.reduceAdd, Nat.reduceLeDiff, Nat.reduceEqDiff, Nat.reduceLT, Nat.reduceSub, reduceCtorEq, Int.reduceEq, Int.reduceLT, Int.reduceLE, Int.reduceNeg, Int.reduceToNat, Int.reduceAdd, Int.reduceSub, Nat.reduceMul, part_cell, part_agg, ilt_nat, wrap_succ, *]
    | (refine seqK_now ?_)
    | (refine retK_now ?_)
    | (refine retK_now' ?_)
    | (intro q hq)
    | (refine cond_intro (fun hc => ?_) (fun hc => ?_)))
        refine own_app (bytes := 24) hs3.out (X := [Ps.av (psL dd x.id)]) (.inr ⟨true, rfl⟩) (fits_of (by have := hbl.out; simp only [List.length_append, List.length_map, List.length_cons, List.length_nil] at this ⊢; omega) (by omega)) fun s5 O5 h5 => ?_
        have sc5 := h5.cells
        have sst5 := h5.stor
        replace h5 := (show Aside _ from h5)
        (repeat' first
    | simp (contextual := true) (maxSteps := 4000000) only [fwc, fwe, fww, reduceIte, ↓reduceIte, Nat.reduceAdd, Nat.reduceLeDiff, Nat.reduceEqDiff, Nat.reduceLT, Nat.reduceSub, reduceCtorEq, Int.reduceEq, Int.reduceLT, Int.reduceLE, Int.reduceNeg, Int.reduceToNat, Int.reduceAdd, Int.reduceSub, Nat.reduceMul, part_cell, part_agg, ilt_nat, wrap_succ, *]
    | (refine seqK_now ?_)
    | (refine retK_now ?_)
    | (refine retK_now' ?_)
    | (intro q hq)
    | (refine cond_intro (fun hc => ?_) (fun hc => ?_)))
        refine loopK_now (L2.length - (j + 1)) (by have := hj.out; omega) ?_
        rw [hJ.out]
        refine ⟨j + 1, s5, _, by have := hj.out; omega, rfl, hO4.out, ?_, rfl⟩
        rw [hnx.out, List.map_append]
        exact h5.out
      · have ex : decide (x.spot < pl) = true := hxb
        have ey : decide (y.spot < pl) = true := hyb
        have hps : psi pl dd x y = [] := by unfold psi; rw [if_neg (fun h => h.2 (by rw [ex, ey]))]
        rw [hps, List.append_nil] at hnx
        replace hnx := (show Aside _ from hnx)
        replace hps := (show Aside _ from hps)
        replace hid := (show Aside _ from hid)
        clear hxb hyb
        (repeat' first
    | simp (contextual := true) (maxSteps := 4000000) only [fwc, fwe, fww, reduceIte, ↓reduceIte, Nat.reduceAdd, Nat.reduceLeDiff, Nat.reduceEqDiff, Nat.reduceLT, Nat.reduceSub, reduceCtorEq, Int.reduceEq, Int.reduceLT, Int.reduceLE, Int.reduceNeg, Int.reduceToNat, Int.reduceAdd, Int.reduceSub, Nat.reduceMul, part_cell, part_agg, ilt_nat, wrap_succ, *]
    | (refine seqK_now ?_)
    | (refine retK_now ?_)
    | (refine retK_now' ?_)
    | (intro q hq)
    | (refine cond_intro (fun hc => ?_) (fun hc => ?_)))
        refine loopK_now (L2.length - (j + 1)) (by have := hj.out; omega) ?_
        rw [hJ.out]
        exact ⟨j + 1, s3, _, by have := hj.out; omega, rfl, hO4.out, by rw [hnx.out]; exact hs3.out, rfl⟩
  · rw [decide_eq_false hid] at hle
    have hps : psi pl dd x y = [] := by unfold psi; rw [if_neg (fun h => hid h.1)]
    rw [hps, List.append_nil] at hnx
    replace hnx := (show Aside _ from hnx)
    replace hps := (show Aside _ from hps)
    replace hid := (show Aside _ from hid)
    (repeat' first
    | simp (contextual := true) (maxSteps := 4000000) only [fwc, fwe, fww, reduceIte, ↓reduceIte, Nat.reduceAdd, Nat.reduceLeDiff, Nat.reduceEqDiff, Nat.reduceLT, Nat.reduceSub, reduceCtorEq, Int.reduceEq, Int.reduceLT, Int.reduceLE, Int.reduceNeg, Int.reduceToNat, Int.reduceAdd, Int.reduceSub, Nat.reduceMul, part_cell, part_agg, ilt_nat, wrap_succ, *]
    | (refine seqK_now ?_)
    | (refine retK_now ?_)
    | (refine retK_now' ?_)
    | (intro q hq)
    | (refine cond_intro (fun hc => ?_) (fun hc => ?_)))
    refine loopK_now (L2.length - (j + 1)) (by have := hj.out; omega) ?_
    rw [hJ.out]
    exact ⟨j + 1, s3, _, by have := hj.out; omega, rfl, hO4.out, by rw [hnx.out]; exact hs3.out, rfl⟩
end Go.Proofs.Ytembkknplmcamaa

namespace Go.Proofs.Ytembkknplmcamaa
open Go.Ab Go.ChangeShapes Go.WideShapes Go.ChangeAt Go.RowKit

theorem own : ownKnob Try.prog.godebug = none := by kernel_rfl
theorem laid : laidOutB Try.prog = true := by kernel_rfl
theorem wf_u8 {n : Int} (h : (Lit.int .u8 n).wf = true) : 0 ≤ n ∧ n ≤ 255 := by
  simpa [Lit.wf, IntKind.min, IntKind.max, IntKind.signed, IntKind.bits] using h
def layB : Lay := .slice true (.int .u8 (.int .u8 .nil)) .nil
theorem open_B {s : AV} (h : LayOK layB [s]) : ∃ P : List Put, IsL 2 s (P.map Put.av) ∧ ∀ p ∈ P, p.ok := by
  obtain ⟨s', l, vs', e, h1, _, h3, h4⟩ := h
  simp only [List.cons.injEq] at e
  obtain ⟨rfl, _⟩ := e
  obtain ⟨X, rfl, hX⟩ := map_of_all (f := Put.av) (Q := Put.ok) (l := l) (fun x hx => by
    obtain ⟨es, rfl, y, vs', rfl, hw1, n, vs', rfl, hw2, rfl⟩ := h3 x hx
    have k1 := wf_u8 hw1
    have k2 := wf_u8 hw2
    refine ⟨⟨y.toNat, n.toNat⟩, ?_, by unfold Put.ok; simp only; omega⟩
    unfold Put.av
    rw [show ((y.toNat : Nat) : Int) = y by omega, show ((n.toNat : Nat) : Int) = n by omega])
  exact ⟨X, h1, hX⟩
end Go.Proofs.Ytembkknplmcamaa

namespace Go.Proofs.Ytembkknplmcamaa
open Go.Ab Go.ChangeShapes Go.WideShapes Go.ChangeAt Go.RowKit

theorem OrdersMeets_args (vs : List AV) (h : ArgsOK [(false, layB), (true, .int .i64 (.int .i64 .nil)), (false, .int .u8 .nil)] vs) : PureA Try.prog 5 vs (.val (.bool true)) := by
  obtain ⟨a, vs', es, rfl, rfl, h1, b, vs', es', rfl, k2, h2, c, vs', es'', rfl, rfl, h3, rfl⟩ := h
  obtain ⟨P, hs, hP⟩ := open_B h1
  obtain ⟨m, vs1, rfl, hm, p, vs1', rfl, hp, rfl⟩ := h2
  obtain ⟨n, vs2, e2, hn, e2'⟩ := h3
  simp only [List.cons.injEq] at e2
  obtain ⟨rfl, rfl⟩ := e2
  have hb : b = .agg [.val (.int .i64 m), .val (.int .i64 p)] := k2
  subst hb
  exact OrdersMeets_ok a P m p n hs hP (wf_u8 hn).1
set_option maxRecDepth 100000 in
theorem OrdersMeets_lifted (os : Os) (started : os.Started) (H : Type) (enc : TypeId × Value → H) :
    ReturnsInHanded {} Try.checked os 5 .any (Rows.ordersMeetsSpec.pre6 enc Try.prog Try.f5 Rows.ordersMeetsRow.domain false) (Rows.ordersMeetsSpec.post enc Try.prog Try.f5 false true false false) := by
  refine returnsInHanded_of_change (C := Try.checked) own started (by kernel_rfl) Try.func5
    (ChangeSpec.witness6 (enc := enc) (C := Try.checked) false ⟨#[], #[.slice none 0 0, .agg #[.int .i64 0, .int .i64 0], .int .u8 0], []⟩ 8 (by kernel_rfl) (by kernel_rfl) (by kernel_rfl) (by kernel_rfl)) ?_
  intro W base args ds gs before hval hW _ _
  exact law_calls (lays := [(false, layB), (true, .int .i64 (.int .i64 .nil)), (false, .int .u8 .nil)]) laid (of_decide_eq_true (by kernel_rfl)) (by kernel_rfl) (by kernel_rfl) rfl (fun ds hds => by
    match ds, hds with
    | [d1, d2, d3], _ => rfl) OrdersMeets_args W base args ds gs before hval hW

theorem OrdersMeets_holds : Rows.OrdersMeetsSaid :=
  OpenClaim.holds_of_wide 5 Try.f5 rfl rfl rfl rfl rfl rfl rfl ⟨rfl, rfl, rfl, rfl, rfl⟩ rfl rfl rfl rfl rfl (by kernel_rfl) Try.func5 (by kernel_rfl)
    (of_decide_eq_true (by kernel_rfl)) (by unfold Func.isWrapper; first | (rw [if_pos (by decide +kernel)]; kernel_rfl) | (rw [if_neg (by decide +kernel)]; exact ⟨rfl, rfl⟩))
    (fun os started H enc _ => OrdersMeets_lifted os started H enc)

end Go.Proofs.Ytembkknplmcamaa
