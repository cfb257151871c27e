/- The law OrdersBetween of the given program: for every input the call returns true, and its arguments read as before. Here: contracts of functions, and the law. -/
import Derived.Test.YtembkknplmcamaaFd
import Derived.Test.YtembkknplmcamaaFc
set_option linter.unusedSimpArgs false
set_option linter.unusedVariables false
namespace Go.Proofs.Ytembkknplmcamaa
open Go.Ab
attribute [local irreducible] WeakR WeakE CallA YieldA

theorem mix : Try.prog.follows .mixedOrders = true := by kernel_rfl

structure Id where
  y : Int
  n : Int
deriving DecidableEq
def Id.av (p : Id) : AV := .agg [.val (.int .u8 p.y), .val (.int .i64 p.n)]
def named (p : Id) : Bool := decide (1 ≤ p.y) && decide (p.y ≤ 6) && decide (0 ≤ p.n) && decide (p.n < 2048)

theorem Named_ok (p : Id) : PureA Try.prog 52 [p.av] (.val (.bool (named p))) := by
  intro O
  refine k52.call mix ?_
  unfold c52 Id.av
  (repeat' first
    | simp (contextual := true) (maxSteps := 4000000) only [fwc, fwe, fww, reduceIte, ↓reduceIte, Nat.reduceAdd, Nat.reduceLeDiff, Nat.reduceEqDiff, Nat.reduceLT, Nat.reduceSub, reduceCtorEq, Int.reduceEq, Int.reduceLT, Int.reduceLE, Int.reduceNeg, Int.reduceToNat, Int.reduceAdd, Int.reduceSub, Nat.reduceMul, *]
    | (refine seqK_now ?_)
    | (refine retK_now ?_)
    | (refine retK_now' ?_)
    | (intro q hq)
    | (refine cond_intro (fun hc => ?_) (fun hc => ?_)))
  refine WeakR.pure (by repeat (first | exact Heap.sub_refl _ | refine sub_upd (by simp only [*]) ?_)) ?_
  rfl

structure Ndl where
  bed : Int
  at_ : Int
deriving DecidableEq
def Ndl.av (n : Ndl) : AV := .agg [.val (.int .u8 n.bed), .val (.int .i64 n.at_)]
def Ndl.bad (n : Ndl) : Bool := decide (1 < n.bed) || decide (n.at_ < 1) || decide (40 < n.at_)

theorem NdlCheck_ok (n : Ndl) : PureA Try.prog 41 [n.av] (.val (.int .i64 (if n.bad = true then 1 else 0))) := by
  intro O
  refine k41.call mix ?_
  unfold c41 Ndl.av
  (repeat' first
    | simp (contextual := true) (maxSteps := 4000000) only [fwc, fwe, fww, reduceIte, ↓reduceIte, Nat.reduceAdd, Nat.reduceLeDiff, Nat.reduceEqDiff, Nat.reduceLT, Nat.reduceSub, reduceCtorEq, Int.reduceEq, Int.reduceLT, Int.reduceLE, Int.reduceNeg, Int.reduceToNat, Int.reduceAdd, Int.reduceSub, Nat.reduceMul, *]
    | (refine seqK_now ?_)
    | (refine retK_now ?_)
    | (refine retK_now' ?_)
    | (intro q hq)
    | (refine cond_intro (fun hc => ?_) (fun hc => ?_)))
  all_goals
    have hb : n.bad = _ := hc
    refine WeakR.pure (by repeat (first | exact Heap.sub_refl _ | refine sub_upd (by simp only [*]) ?_)) ?_
    simp only [hb, if_true, Bool.false_eq_true, if_false]

theorem Clip_list (t : Bool) (l : List AV) : PureA Try.prog 44 [.list 2 t l] (.list 2 true l) := by
  intro O
  refine k44.call mix ?_
  unfold c44
  (repeat' first
    | simp (contextual := true) (maxSteps := 4000000) only [fwc, fwe, fww, reduceIte, ↓reduceIte, Nat.reduceAdd, Nat.reduceLeDiff, Nat.reduceEqDiff, Nat.reduceLT, Nat.reduceSub, reduceCtorEq, Int.reduceEq, Int.reduceLT, Int.reduceLE, Int.reduceNeg, Int.reduceToNat, Int.reduceAdd, Int.reduceSub, Nat.reduceMul, *]
    | (refine seqK_now ?_)
    | (refine retK_now ?_)
    | (refine retK_now' ?_)
    | (intro q hq)
    | (refine cond_intro (fun hc => ?_) (fun hc => ?_)))
  rw [slice_list_mx (a := 0) (b := l.length) (c := l.length) (by simp [bound_none]) (by simp [bound_int]) (by simp [bound_int]) (by omega) (by omega) (by omega)]
  (repeat' first
    | simp (contextual := true) (maxSteps := 4000000) only [fwc, fwe, fww, reduceIte, ↓reduceIte, Nat.reduceAdd, Nat.reduceLeDiff, Nat.reduceEqDiff, Nat.reduceLT, Nat.reduceSub, reduceCtorEq, Int.reduceEq, Int.reduceLT, Int.reduceLE, Int.reduceNeg, Int.reduceToNat, Int.reduceAdd, Int.reduceSub, Nat.reduceMul, *]
    | (refine seqK_now ?_)
    | (refine retK_now ?_)
    | (refine retK_now' ?_)
    | (intro q hq)
    | (refine cond_intro (fun hc => ?_) (fun hc => ?_)))
  refine WeakR.pure (by repeat (first | exact Heap.sub_refl _ | refine sub_upd (by simp only [*]) ?_)) ?_
  simp
theorem Clip_nil : PureA Try.prog 44 [.val (.slice none 0 0)] (.val (.slice none 0 0)) := by
  intro O
  refine k44.call mix ?_
  unfold c44
  (repeat' first
    | simp (contextual := true) (maxSteps := 4000000) only [fwc, fwe, fww, reduceIte, ↓reduceIte, Nat.reduceAdd, Nat.reduceLeDiff, Nat.reduceEqDiff, Nat.reduceLT, Nat.reduceSub, reduceCtorEq, Int.reduceEq, Int.reduceLT, Int.reduceLE, Int.reduceNeg, Int.reduceToNat, Int.reduceAdd, Int.reduceSub, Nat.reduceMul, *]
    | (refine seqK_now ?_)
    | (refine retK_now ?_)
    | (refine retK_now' ?_)
    | (intro q hq)
    | (refine cond_intro (fun hc => ?_) (fun hc => ?_)))
  have h : sliceA 2 (.val (.slice none 0 0)) none (some (.val (.int .i64 0))) (some (.val (.int .i64 0))) = some (.val (.slice none 0 0)) := rfl
  rw [h]
  (repeat' first
    | simp (contextual := true) (maxSteps := 4000000) only [fwc, fwe, fww, reduceIte, ↓reduceIte, Nat.reduceAdd, Nat.reduceLeDiff, Nat.reduceEqDiff, Nat.reduceLT, Nat.reduceSub, reduceCtorEq, Int.reduceEq, Int.reduceLT, Int.reduceLE, Int.reduceNeg, Int.reduceToNat, Int.reduceAdd, Int.reduceSub, Nat.reduceMul, *]
    | (refine seqK_now ?_)
    | (refine retK_now ?_)
    | (refine retK_now' ?_)
    | (intro q hq)
    | (refine cond_intro (fun hc => ?_) (fun hc => ?_)))
  refine WeakR.pure (by repeat (first | exact Heap.sub_refl _ | refine sub_upd (by simp only [*]) ?_)) ?_
  rfl
theorem Clone_nil : PureA Try.prog 45 [.val (.slice none 0 0)] (.val (.slice none 0 0)) := by
  intro O
  refine k45.call mix ?_
  unfold c45
  (repeat' first
    | simp (contextual := true) (maxSteps := 4000000) only [fwc, fwe, fww, reduceIte, ↓reduceIte, Nat.reduceAdd, Nat.reduceLeDiff, Nat.reduceEqDiff, Nat.reduceLT, Nat.reduceSub, reduceCtorEq, Int.reduceEq, Int.reduceLT, Int.reduceLE, Int.reduceNeg, Int.reduceToNat, Int.reduceAdd, Int.reduceSub, Nat.reduceMul, *]
    | (refine seqK_now ?_)
    | (refine retK_now ?_)
    | (refine retK_now' ?_)
    | (intro q hq)
    | (refine cond_intro (fun hc => ?_) (fun hc => ?_)))
  refine WeakR.pure (by repeat (first | exact Heap.sub_refl _ | refine sub_upd (by simp only [*]) ?_)) ?_
  rfl
theorem Clone_list (t : Bool) (l : List AV) (hl : l.length ≤ 1048576) : PureA Try.prog 45 [.list 2 t l] (.list 2 false l) := by
  intro O
  refine k45.call mix ?_
  unfold c45
  (repeat' first
    | simp (contextual := true) (maxSteps := 4000000) only [fwc, fwe, fww, reduceIte, ↓reduceIte, Nat.reduceAdd, Nat.reduceLeDiff, Nat.reduceEqDiff, Nat.reduceLT, Nat.reduceSub, reduceCtorEq, Int.reduceEq, Int.reduceLT, Int.reduceLE, Int.reduceNeg, Int.reduceToNat, Int.reduceAdd, Int.reduceSub, Nat.reduceMul, *]
    | (refine seqK_now ?_)
    | (refine retK_now ?_)
    | (refine retK_now' ?_)
    | (intro q hq)
    | (refine cond_intro (fun hc => ?_) (fun hc => ?_)))
  refine app_list (el_list _ _ _ _) ?_ ?_
  · exact fits_of (by simp only [List.length_nil, List.length_cons, Nat.zero_add, List.length_map, List.length_append, List.length_take, List.length_drop]; omega) (by omega)
  (repeat' first
    | simp (contextual := true) (maxSteps := 4000000) only [fwc, fwe, fww, reduceIte, ↓reduceIte, Nat.reduceAdd, Nat.reduceLeDiff, Nat.reduceEqDiff, Nat.reduceLT, Nat.reduceSub, reduceCtorEq, Int.reduceEq, Int.reduceLT, Int.reduceLE, Int.reduceNeg, Int.reduceToNat, Int.reduceAdd, Int.reduceSub, Nat.reduceMul, *]
    | (refine seqK_now ?_)
    | (refine retK_now ?_)
    | (refine retK_now' ?_)
    | (intro q hq)
    | (refine cond_intro (fun hc => ?_) (fun hc => ?_)))
  refine WeakR.pure (by repeat (first | exact Heap.sub_refl _ | refine sub_upd (by simp only [*]) ?_)) ?_
  rfl
def cpS : AV → AV
  | .list s _ l => .list s true l
  | x => x
theorem cpS_T {sz : Nat} {s : AV} {L : List AV} (h : IsL sz s L) : IsT sz (cpS s) L := by
  rcases h with ⟨rfl, rfl⟩ | ⟨t, rfl⟩
  · exact IsT.nil
  · exact IsT.list
def cl2 : AV → AV
  | .list s _ l => .list s false l
  | x => x
theorem Clone_ok {s : AV} {L : List AV} (h : IsL 2 s L) (hl : L.length ≤ 1048576) : PureA Try.prog 45 [s] (cl2 s) := by
  rcases h with ⟨rfl, rfl⟩ | ⟨t, rfl⟩
  · exact Clone_nil
  · exact Clone_list t L hl
theorem Clip_ok {s : AV} {L : List AV} (h : IsL 2 s L) : PureA Try.prog 44 [cl2 s] (cpS s) := by
  rcases h with ⟨rfl, rfl⟩ | ⟨t, rfl⟩
  · exact Clip_nil
  · exact Clip_list false L

/-- The slice with an index, or nil. -/
def getA (l : List AV) (i : Nat) : AV := l.getD i (.val (.slice none 0 0))
theorem get_ok {s : AV} {l : List AV} (h : IsL 1 s l) (i : Nat) (hl : l.length ≤ 1048576) (hs : ∀ x ∈ l, ∃ L, IsL 2 x L) : PureA Try.prog 46 [s, .val (.int .i64 i)] (getA l i) := by
  intro O
  have h1 := h.len
  refine k46.call mix ?_
  unfold c46
  (repeat' first
    | simp (contextual := true) (maxSteps := 4000000) only [fwc, fwe, fww, reduceIte, ↓reduceIte, Nat.reduceAdd, Nat.reduceLeDiff, Nat.reduceEqDiff, Nat.reduceLT, Nat.reduceSub, reduceCtorEq, Int.reduceEq, Int.reduceLT, Int.reduceLE, Int.reduceNeg, Int.reduceToNat, Int.reduceAdd, Int.reduceSub, Nat.reduceMul, ilt_nat, *]
    | (refine seqK_now ?_)
    | (refine retK_now ?_)
    | (refine retK_now' ?_)
    | (intro q hq)
    | (refine cond_intro (fun hc => ?_) (fun hc => ?_)))
  · have hi : i < l.length := of_decide_eq_true hc
    clear hc
    have hia := h.ia hi
    obtain ⟨L, hL⟩ := hs _ (List.getElem_mem hi)
    have hcl := hL.cells
    (repeat' first
    | simp (contextual := true) (maxSteps := 4000000) only [fwc, fwe, fww, reduceIte, ↓reduceIte, Nat.reduceAdd, Nat.reduceLeDiff, Nat.reduceEqDiff, Nat.reduceLT, Nat.reduceSub, reduceCtorEq, Int.reduceEq, Int.reduceLT, Int.reduceLE, Int.reduceNeg, Int.reduceToNat, Int.reduceAdd, Int.reduceSub, Nat.reduceMul, part_cell, *]
    | (refine seqK_now ?_)
    | (refine retK_now ?_)
    | (refine retK_now' ?_)
    | (intro q hq)
    | (refine cond_intro (fun hc => ?_) (fun hc => ?_)))
    refine WeakR.pure (by repeat (first | exact Heap.sub_refl _ | refine sub_upd (by simp only [*]) ?_)) ?_
    rw [getA, List.getD_eq_getElem?_getD, List.getElem?_eq_getElem hi]
    rfl
  · have hi : ¬ i < l.length := of_decide_eq_false hc
    refine WeakR.pure (by repeat (first | exact Heap.sub_refl _ | refine sub_upd (by simp only [*]) ?_)) ?_
    rw [getA, List.getD_eq_getElem?_getD, List.getElem?_eq_none (by omega)]
    rfl
end Go.Proofs.Ytembkknplmcamaa

namespace Go.Proofs.Ytembkknplmcamaa
open Go.Ab
attribute [local irreducible] WeakR WeakE CallA YieldA

/-- Slices of names. -/
def StkAll (es : List AV) : Prop := ∀ x ∈ es, ∃ L : List Id, IsL 2 x (L.map Id.av)

theorem all_ok (f b : AV) (hf : f.cells = [f]) (hb : b.cells = [b]) (hf' : f.stor = true) (hb' : b.stor = true) : PureA Try.prog 48 [.agg [f, b]] (.clo (.func 56) [] [.ref (.agg [f, b])]) := by
  intro O
  refine k48.call mix ?_
  unfold c48
  (repeat' first
    | simp (contextual := true) (maxSteps := 4000000) only [fwc, fwe, fww, reduceIte, ↓reduceIte, Nat.reduceAdd, Nat.reduceLeDiff, Nat.reduceEqDiff, Nat.reduceLT, Nat.reduceSub, reduceCtorEq, Int.reduceEq, Int.reduceLT, Int.reduceLE, Int.reduceNeg, Int.reduceToNat, Int.reduceAdd, Int.reduceSub, Nat.reduceMul, *]
    | (refine seqK_now ?_)
    | (refine retK_now ?_)
    | (refine retK_now' ?_)
    | (intro q hq)
    | (refine cond_intro (fun hc => ?_) (fun hc => ?_)))
  refine WeakR.pureF q 2 26 [.agg [f, b]] (Heap.upd_same _ _ _) (.clo _ [] [] [.optr q 2 0 0] [.ref (.agg [f, b])] rfl rfl (fun i x y hx => by simp at hx) (fun i x y hx hy => ?_)) (by rw [del_upd_new hq]; exact Heap.sub_refl _) rfl
  match i, hx, hy with
  | 0, hx, hy => simp at hx hy; subst hx hy; exact .optr 0 _ rfl

def nd (n0 j : Nat) : Ndl := if j < n0 then ⟨0, j + 1⟩ else ⟨1, ((j - n0 + 1 : Nat) : Int)⟩

def envO (id : Nat) (f b : AV) (k : Nat) : Env := ((((Env.upd (fun _ => .junk) 12 (.val (.int .i64 k))).upd 11 (.val (.int .i64 2))).upd 10 (.list 1 true [f, b])).upd 0 (.yld id))
def envIn (id : Nat) (f b : AV) (k : Nat) (x : AV) (m i : Nat) : Env := (((((((Env.upd (fun _ => .junk) 20 (.val (.int .i64 i))).upd 19 (.val (.int .i64 m))).upd 12 (.val (.int .i64 k))).upd 11 (.val (.int .i64 2))).upd 10 (.list 1 true [f, b])).upd 4 x).upd 3 (.val (.int .i64 k))).upd 0 (.yld id)

theorem wrap_u8n {k : Nat} (h : k < 256) : IntKind.u8.wrap (k : Int) = (k : Int) := wrap_u8 (by omega) (by omega)
theorem min40 (n : Nat) : (if (40 : Int) < (n : Int) then (40 : Int) else (n : Int)) = ((min n 40 : Nat) : Int) := by
  split <;> omega

set_option maxHeartbeats 4000000 in
theorem all1_ok (id : Nat) (f b : AV) (es fs : List AV) (hf : IsL 1 f es) (hb : IsL 1 b fs) (he : StkAll es) (hfs : StkAll fs) (O : Heap) (J : Nat → Heap → Prop) (Z : Heap → Prop)
    (h0 : J 0 O)
    (hy : ∀ j (h : j < (es.take 40 ++ fs.take 40).length) O, J j O → YieldA Try.prog id [(nd (min es.length 40) j).av, (es.take 40 ++ fs.take 40)[j]] O fun r O' => (r = .val (.bool true) ∧ J (j + 1) O') ∨ (r = .val (.bool false) ∧ Z O')) :
    CallA Try.prog 56 [.yld id, .ref (.agg [f, b])] O fun _ O' => J (es.take 40 ++ fs.take 40).length O' ∨ Z O' := by
  have hf1 := hf.cells
  have hb1 := hb.cells
  have hf2 := hf.stor
  have hb2 := hb.stor
  replace h0 := (show Aside _ from h0)
  replace hy := (show Aside _ from hy)
  have hln : (es.take 40 ++ fs.take 40).length = min es.length 40 + min fs.length 40 := by simp; omega
  refine k56.call mix ?_
  unfold c56
  refine seq_go ?_
  (repeat' first
    | simp (contextual := true) (maxSteps := 4000000) only [fwc, fwe, fww, reduceIte, ↓reduceIte, Nat.reduceAdd, Nat.reduceLeDiff, Nat.reduceEqDiff, Nat.reduceLT, Nat.reduceSub, reduceCtorEq, Int.reduceEq, Int.reduceLT, Int.reduceLE, Int.reduceNeg, Int.reduceToNat, Int.reduceAdd, Int.reduceSub, Nat.reduceMul, *]
    | (refine retK_now ?_)
    | (refine retK_now' ?_)
    | (intro q hq)
    | (refine cond_intro (fun hc => ?_) (fun hc => ?_)))
  refine seqK_now ?_
  (repeat' first
    | simp (contextual := true) (maxSteps := 4000000) only [fwc, fwe, fww, reduceIte, ↓reduceIte, Nat.reduceAdd, Nat.reduceLeDiff, Nat.reduceEqDiff, Nat.reduceLT, Nat.reduceSub, reduceCtorEq, Int.reduceEq, Int.reduceLT, Int.reduceLE, Int.reduceNeg, Int.reduceToNat, Int.reduceAdd, Int.reduceSub, Nat.reduceMul, *]
    | (refine retK_now ?_)
    | (refine retK_now' ?_)
    | (intro q hq)
    | (refine cond_intro (fun hc => ?_) (fun hc => ?_)))
  obtain ⟨I, hI⟩ := hideI (fun m e O' => ∃ k : Nat, k ≤ 2 ∧ m = 2 - k ∧ J (if k = 0 then 0 else if k = 1 then min es.length 40 else min es.length 40 + min fs.length 40) O' ∧ e = envO id f b k)
  refine cmd_loop I 2 (by
    rw [hI.out]
    exact ⟨0, by omega, rfl, h0.out, rfl⟩) ?_
  intro m e O' hh
  rw [hI.out] at hh
  obtain ⟨k, h1, rfl, h2, rfl⟩ := hh
  replace h2 := (show Aside _ from h2)
  have hk2 : decide ((k : Int) < 2) = decide (k < 2) := decide_eq_decide.2 (by omega)
  unfold envO
  refine seq_go ?_
  (repeat' first
    | simp (contextual := true) (maxSteps := 4000000) only [fwc, fwe, fww, reduceIte, ↓reduceIte, Nat.reduceAdd, Nat.reduceLeDiff, Nat.reduceEqDiff, Nat.reduceLT, Nat.reduceSub, reduceCtorEq, Int.reduceEq, Int.reduceLT, Int.reduceLE, Int.reduceNeg, Int.reduceToNat, Int.reduceAdd, Int.reduceSub, Nat.reduceMul, hk2, *]
    | (refine retK_now ?_)
    | (refine retK_now' ?_)
    | (intro q hq)
    | (refine cond_intro (fun hc => ?_) (fun hc => ?_)))
  refine seqK_now ?_
  refine seq_go ?_
  (repeat' first
    | simp (contextual := true) (maxSteps := 4000000) only [fwc, fwe, fww, reduceIte, ↓reduceIte, Nat.reduceAdd, Nat.reduceLeDiff, Nat.reduceEqDiff, Nat.reduceLT, Nat.reduceSub, reduceCtorEq, Int.reduceEq, Int.reduceLT, Int.reduceLE, Int.reduceNeg, Int.reduceToNat, Int.reduceAdd, Int.reduceSub, Nat.reduceMul, *]
    | (refine retK_now ?_)
    | (refine retK_now' ?_)
    | (intro q hq)
    | (refine cond_intro (fun hc => ?_) (fun hc => ?_)))
  · have hk : k < 2 := of_decide_eq_true hc
    clear hc
    obtain ⟨x, xs, off, hx, hst, hnx, hel, hia, hxs⟩ : ∃ (x : AV) (xs : List AV) (off : Nat), IsL 1 x xs ∧ (if k = 0 then 0 else if k = 1 then min es.length 40 else min es.length 40 + min fs.length 40) = off ∧
        (if k + 1 = 0 then 0 else if k + 1 = 1 then min es.length 40 else min es.length 40 + min fs.length 40) = off + min xs.length 40 ∧
        (∀ i, i < min xs.length 40 → ∃ (h' : off + i < (es.take 40 ++ fs.take 40).length) (h'' : i < xs.length), (es.take 40 ++ fs.take 40)[off + i]'h' = xs[i]'h'' ∧ nd (min es.length 40) (off + i) = ⟨k, ((i + 1 : Nat) : Int)⟩) ∧
        indexAddrA 1 (k : Int) (.list 1 true [f, b]) = some (.ref x) ∧ StkAll xs := by
      rcases Nat.lt_or_ge k 1 with hk' | hk'
      · have : k = 0 := by omega
        subst this
        refine ⟨f, es, 0, hf, by simp, by simp, fun i hi => ⟨by rw [hln]; omega, by omega, ?_, ?_⟩, ia_nat (by simp), he⟩
        · rw [List.getElem_append_left (by simp; omega)]; simp
        · simp only [nd, Nat.zero_add]
          rw [if_pos (by omega)]
          rfl
      · have : k = 1 := by omega
        subst this
        refine ⟨b, fs, min es.length 40, hb, by simp, by simp, fun i hi => ⟨by rw [hln]; omega, by omega, ?_, ?_⟩, ia_nat (by simp), hfs⟩
        · rw [List.getElem_append_right (by simp; omega)]
          simp only [List.length_take, List.getElem_take]
          congr 1
          omega
        · simp only [nd]
          rw [if_neg (by omega), show min es.length 40 + i - min es.length 40 = i by omega]
          rfl
    rw [hst] at h2
    have hx1 := hx.cells
    have hx2 := hx.len
    have hx3 := hx.stor
    have hh4 := (show Aside _ from hel)
    clear hel
    (repeat' first
    | simp (contextual := true) (maxSteps := 4000000) only [fwc, fwe, fww, reduceIte, ↓reduceIte, Nat.reduceAdd, Nat.reduceLeDiff, Nat.reduceEqDiff, Nat.reduceLT, Nat.reduceSub, reduceCtorEq, Int.reduceEq, Int.reduceLT, Int.reduceLE, Int.reduceNeg, Int.reduceToNat, Int.reduceAdd, Int.reduceSub, Nat.reduceMul, hia, part_cell, min40, *]
    | (refine seqK_now ?_)
    | (refine retK_now ?_)
    | (refine retK_now' ?_)
    | (intro q hq)
    | (refine cond_intro (fun hc => ?_) (fun hc => ?_)))
    obtain ⟨I2, hI2⟩ := hideI (fun m e O' => ∃ i : Nat, i ≤ min xs.length 40 ∧ m = min xs.length 40 - i ∧ J (off + i) O' ∧ e = envIn id f b k x (min xs.length 40) i)
    refine cmd_loop I2 (min xs.length 40) (by
      rw [hI2.out]
      exact ⟨0, by omega, rfl, h2.out, rfl⟩) ?_
    intro m2 e2 O2 hh2
    rw [hI2.out] at hh2
    obtain ⟨i, h3, rfl, h5, rfl⟩ := hh2
    replace h5 := (show Aside _ from h5)
    unfold envIn
    (repeat' first
    | simp (contextual := true) (maxSteps := 4000000) only [fwc, fwe, fww, reduceIte, ↓reduceIte, Nat.reduceAdd, Nat.reduceLeDiff, Nat.reduceEqDiff, Nat.reduceLT, Nat.reduceSub, reduceCtorEq, Int.reduceEq, Int.reduceLT, Int.reduceLE, Int.reduceNeg, Int.reduceToNat, Int.reduceAdd, Int.reduceSub, Nat.reduceMul, ilt_nat, *]
    | (refine seqK_now ?_)
    | (refine retK_now ?_)
    | (refine retK_now' ?_)
    | (intro q hq)
    | (refine cond_intro (fun hc => ?_) (fun hc => ?_)))
    · have hi : i < min xs.length 40 := of_decide_eq_true hc
      clear hc
      obtain ⟨g1, g2, g3, g4⟩ := hh4.out i hi
      have hxi := hx.ia g2
      obtain ⟨L, hL⟩ := hxs _ (List.getElem_mem g2)
      have hL1 := hL.cells
      have hw : i < 4611686018427387904 := by omega
      have hw8 : k < 256 := by omega
      have hY := hy.out (off + i) g1 O2 h5.out
      rw [g3, g4, show Ndl.av ⟨k, ((i + 1 : Nat) : Int)⟩ = .agg [.val (.int .u8 k), .val (.int .i64 ((i + 1 : Nat) : Int))] from rfl] at hY
      replace hY := (show Aside _ from hY)
      clear g3 g4
      (repeat' first
    | simp (contextual := true) (maxSteps := 4000000) only [fwc, fwe, fww, reduceIte, ↓reduceIte, Nat.reduceAdd, Nat.reduceLeDiff, Nat.reduceEqDiff, Nat.reduceLT, Nat.reduceSub, reduceCtorEq, Int.reduceEq, Int.reduceLT, Int.reduceLE, Int.reduceNeg, Int.reduceToNat, Int.reduceAdd, Int.reduceSub, Nat.reduceMul, hxi, part_cell, wrap_u8n, wrap_succ, *]
    | (refine seqK_now ?_)
    | (refine retK_now ?_)
    | (refine retK_now' ?_)
    | (intro q hq)
    | (refine cond_intro (fun hc => ?_) (fun hc => ?_)))
      refine YieldA.mono hY.out fun r O3 h => ?_
      clear hY
      rcases h with ⟨rfl, h6⟩ | ⟨rfl, h6⟩
      · have h6 := (show Aside _ from h6)
        (repeat' first
    | simp (contextual := true) (maxSteps := 4000000) only [fwc, fwe, fww, reduceIte, ↓reduceIte, Nat.reduceAdd, Nat.reduceLeDiff, Nat.reduceEqDiff, Nat.reduceLT, Nat.reduceSub, reduceCtorEq, Int.reduceEq, Int.reduceLT, Int.reduceLE, Int.reduceNeg, Int.reduceToNat, Int.reduceAdd, Int.reduceSub, Nat.reduceMul, wrap_succ, *]
    | (refine seqK_now ?_)
    | (refine retK_now ?_)
    | (refine retK_now' ?_)
    | (intro q hq)
    | (refine cond_intro (fun hc => ?_) (fun hc => ?_)))
        refine loopK_now (min xs.length 40 - (i + 1)) (by omega) ?_
        rw [hI2.out]
        refine ⟨i + 1, by omega, rfl, h6.out, ?_⟩
        simp (contextual := true) (maxSteps := 4000000) only [fwc, fwe, fww, reduceIte, ↓reduceIte, Nat.reduceAdd, Nat.reduceLeDiff, Nat.reduceEqDiff, Nat.reduceLT, Nat.reduceSub, reduceCtorEq, Int.reduceEq, Int.reduceLT, Int.reduceLE, Int.reduceNeg, Int.reduceToNat, Int.reduceAdd, Int.reduceSub, Nat.reduceMul, envIn, *]
      · have h6 := (show Aside _ from h6)
        (repeat' first
    | simp (contextual := true) (maxSteps := 4000000) only [fwc, fwe, fww, reduceIte, ↓reduceIte, Nat.reduceAdd, Nat.reduceLeDiff, Nat.reduceEqDiff, Nat.reduceLT, Nat.reduceSub, reduceCtorEq, Int.reduceEq, Int.reduceLT, Int.reduceLE, Int.reduceNeg, Int.reduceToNat, Int.reduceAdd, Int.reduceSub, Nat.reduceMul, *]
    | (refine seqK_now ?_)
    | (refine retK_now ?_)
    | (refine retK_now' ?_)
    | (intro q hq)
    | (refine cond_intro (fun hc => ?_) (fun hc => ?_)))
        exact WeakR.now (.inr h6.out)
    · have hi : i = min xs.length 40 := by have := of_decide_eq_false hc; omega
      have hw : k < 4611686018427387904 := by omega
      subst hi
      have hk1 := (show Aside _ from hnx)
      clear hnx
      (repeat' first
    | simp (contextual := true) (maxSteps := 4000000) only [fwc, fwe, fww, reduceIte, ↓reduceIte, Nat.reduceAdd, Nat.reduceLeDiff, Nat.reduceEqDiff, Nat.reduceLT, Nat.reduceSub, reduceCtorEq, Int.reduceEq, Int.reduceLT, Int.reduceLE, Int.reduceNeg, Int.reduceToNat, Int.reduceAdd, Int.reduceSub, Nat.reduceMul, wrap_succ, *]
    | (refine seqK_now ?_)
    | (refine retK_now ?_)
    | (refine retK_now' ?_)
    | (intro q hq)
    | (refine cond_intro (fun hc => ?_) (fun hc => ?_)))
      refine loopK_now (2 - (k + 1)) (by omega) ?_
      rw [hI.out]
      refine ⟨k + 1, by omega, rfl, ?_, ?_⟩
      · rw [hk1.out]; exact h5.out
      · simp (contextual := true) (maxSteps := 4000000) only [fwc, fwe, fww, reduceIte, ↓reduceIte, Nat.reduceAdd, Nat.reduceLeDiff, Nat.reduceEqDiff, Nat.reduceLT, Nat.reduceSub, reduceCtorEq, Int.reduceEq, Int.reduceLT, Int.reduceLE, Int.reduceNeg, Int.reduceToNat, Int.reduceAdd, Int.reduceSub, Nat.reduceMul, envO, *]
  · have hk : k = 2 := by have := of_decide_eq_false hc; omega
    subst hk
    (repeat' first
    | simp (contextual := true) (maxSteps := 4000000) only [fwc, fwe, fww, reduceIte, ↓reduceIte, Nat.reduceAdd, Nat.reduceLeDiff, Nat.reduceEqDiff, Nat.reduceLT, Nat.reduceSub, reduceCtorEq, Int.reduceEq, Int.reduceLT, Int.reduceLE, Int.reduceNeg, Int.reduceToNat, Int.reduceAdd, Int.reduceSub, Nat.reduceMul, *]
    | (refine seqK_now ?_)
    | (refine retK_now ?_)
    | (refine retK_now' ?_)
    | (intro q hq)
    | (refine cond_intro (fun hc => ?_) (fun hc => ?_)))
    refine WeakR.now (.inl ?_)
    exact h2.out
end Go.Proofs.Ytembkknplmcamaa

namespace Go.Proofs.Ytembkknplmcamaa
open Go.Ab
attribute [local irreducible] WeakR WeakE CallA YieldA

/-- A bed. -/
def IsB (s : AV) (es : List AV) (F : List (List Id)) : Prop := IsL 1 s es ∧ es.length = F.length ∧ ∀ (i : Nat) (h : i < es.length) (h' : i < F.length), IsL 2 es[i] (F[i].map Id.av)
theorem IsB.stk {s : AV} {es : List AV} {F : List (List Id)} (h : IsB s es F) : StkAll es := by
  intro x hx
  obtain ⟨i, hi, rfl⟩ := List.mem_iff_getElem.1 hx
  exact ⟨_, h.2.2 i hi (by rw [← h.2.1]; exact hi)⟩

/-- All needles that are visited. -/
def visL (F B : List (List Id)) : List (List Id) := F.take 40 ++ B.take 40
def namesL (F B : List (List Id)) : List Id := (visL F B).flatten

theorem vis_is {f b : AV} {es fs : List AV} {F B : List (List Id)} (hf : IsB f es F) (hb : IsB b fs B) : (es.take 40 ++ fs.take 40).length = (visL F B).length ∧
    ∀ j (h : j < (es.take 40 ++ fs.take 40).length) (h' : j < (visL F B).length), IsL 2 (es.take 40 ++ fs.take 40)[j] ((visL F B)[j].map Id.av) := by
  have h1 := hf.2.1
  have h2 := hb.2.1
  refine ⟨by simp [visL, h1, h2], fun j h h' => ?_⟩
  unfold visL at h' ⊢
  by_cases hj : j < min 40 es.length
  · have e1 := List.getElem_append_left («as» := es.take 40) (bs := fs.take 40) (i := j) (by simp; omega) (h' := h)
    have e2 := List.getElem_append_left («as» := F.take 40) (bs := B.take 40) (i := j) (by simp; omega) (h' := h')
    rw [e1, e2, List.getElem_take, List.getElem_take]
    exact hf.2.2 j _ _
  · have e1 := List.getElem_append_right («as» := es.take 40) (bs := fs.take 40) (i := j) (by simp; omega) (h₂ := h)
    have e2 := List.getElem_append_right («as» := F.take 40) (bs := B.take 40) (i := j) (by simp; omega) (h₂ := h')
    rw [e1, e2, List.getElem_take, List.getElem_take]
    have : (List.take 40 es).length = (List.take 40 F).length := by simp [h1]
    simp only [this]
    exact hb.2.2 _ _ _

theorem flat_len {G : List (List Id)} (h : ∀ l ∈ G, l.length ≤ 1000) : G.flatten.length ≤ G.length * 1000 := by
  induction G with
  | nil => simp
  | cons l G ih =>
    have := h l (by simp)
    have := ih (fun l hl => h l (by simp [hl]))
    simp only [List.flatten_cons, List.length_append, List.length_cons]
    omega
theorem vis_le (F B : List (List Id)) : (visL F B).length ≤ 80 := by simp [visL]; omega
theorem take_flat (G : List (List Id)) (j : Nat) (h : j < G.length) : (G.take (j + 1)).flatten = (G.take j).flatten ++ G[j] := by
  rw [List.take_succ_eq_append_getElem h, List.flatten_append]
  simp

set_option maxHeartbeats 2000000 in
theorem names_ok (f b : AV) (es fs : List AV) (F B : List (List Id)) (hf : IsB f es F) (hb : IsB b fs B) (hs : ∀ l ∈ visL F B, l.length ≤ 1000) :
    PureA Try.prog 49 [.agg [f, b]] (frA 2 ((namesL F B).map Id.av)) := by
  intro O
  have hf1 := hf.1.cells
  have hb1 := hb.1.cells
  have hf2 := hf.1.stor
  have hb2 := hb.1.stor
  refine k49.call mix ?_
  unfold c49
  (repeat' first
    | simp (contextual := true) (maxSteps := 4000000) only [fwc, fwe, fww, reduceIte, ↓reduceIte, Nat.reduceAdd, Nat.reduceLeDiff, Nat.reduceEqDiff, Nat.reduceLT, Nat.reduceSub, reduceCtorEq, Int.reduceEq, Int.reduceLT, Int.reduceLE, Int.reduceNeg, Int.reduceToNat, Int.reduceAdd, Int.reduceSub, Nat.reduceMul, *]
    | (refine seqK_now ?_)
    | (refine retK_now ?_)
    | (refine retK_now' ?_)
    | (intro q hq)
    | (refine cond_intro (fun hc => ?_) (fun hc => ?_)))
  refine (all_ok f b hf1 hb1 hf2 hb2).use ?_
  (repeat' first
    | simp (contextual := true) (maxSteps := 4000000) only [fwc, fwe, fww, reduceIte, ↓reduceIte, Nat.reduceAdd, Nat.reduceLeDiff, Nat.reduceEqDiff, Nat.reduceLT, Nat.reduceSub, reduceCtorEq, Int.reduceEq, Int.reduceLT, Int.reduceLE, Int.reduceNeg, Int.reduceToNat, Int.reduceAdd, Int.reduceSub, Nat.reduceMul, *]
    | (refine seqK_now ?_)
    | (refine retK_now ?_)
    | (refine retK_now' ?_)
    | (intro q hq)
    | (refine cond_intro (fun hc => ?_) (fun hc => ?_)))
  refine cmd_range rfl ?_
  intro rid RR BB DD hid hY
  replace hY := (show Aside _ from hY)
  rename_i q1 hq1
  rw [upd_none, upd_none] at hid
  obtain ⟨hq2, hq3, hq4⟩ := hq
  obtain ⟨hid1, hid2, hid3, hid4, hid5⟩ := hid
  obtain ⟨hv1, hv2⟩ := vis_is hf hb
  have hvl := vis_le F B
  replace hs := (show Aside _ from hs)
  let J : Nat → Heap → Prop := fun j O' => ∃ s O0, O.sub (O0.del rid) ∧ O0 q = some (.arr 60 1 [s]) ∧ O0 rid = some RR ∧ OwN 35 2 O0 O' s ((((visL F B).take j).flatten).map Id.av)
  refine CallA.mono (all1_ok rid f b es fs hf.1 hb.1 hf.stk hb.stk _ J (fun _ => False) ?_ ?_) ?_
  · refine ⟨_, _, ?_, ?_, ?_, OwN.nil⟩
    · rw [del_upd_new (by rw [upd_none, upd_none]; exact ⟨hid1, hid2, hid3, hid4, hid5⟩)]
      exact sub_upd hq4 (sub_upd hq1 (Heap.sub_refl _))
    · rw [Heap.upd_ne _ _ hid2, Heap.upd_same]
    · exact Heap.upd_same _ _ _
  · intro j hj O1 hJ
    obtain ⟨s, O0, g1, g2, g3, g4⟩ := hJ
    have hj' : j < (visL F B).length := by rw [← hv1]; exact hj
    have hx := hv2 j hj hj'
    generalize (es.take 40 ++ fs.take 40)[j] = x at hx
    have g5 := g4.at_ g3
    have g6 := g4.at_ g2
    have g7 := g4.cells
    have hx1 := hx.cells
    refine hY.out [_, x] O1 _ g5 rfl ?_
    (repeat' first
    | simp (contextual := true) (maxSteps := 4000000) only [fwc, fwe, fww, reduceIte, ↓reduceIte, Nat.reduceAdd, Nat.reduceLeDiff, Nat.reduceEqDiff, Nat.reduceLT, Nat.reduceSub, reduceCtorEq, Int.reduceEq, Int.reduceLT, Int.reduceLE, Int.reduceNeg, Int.reduceToNat, Int.reduceAdd, Int.reduceSub, Nat.reduceMul, part_cell, *]
    | (refine seqK_now ?_)
    | (refine retK_now ?_)
    | (refine retK_now' ?_)
    | (intro q hq)
    | (refine cond_intro (fun hc => ?_) (fun hc => ?_)))
    have g8 := g4.put (x := BB) (show O0 rid ≠ none by rw [g3]; simp)
    refine own_app g8 hx ?_ ?_
    · have e1 := flat_len (G := (visL F B).take j) (fun l hl => hs.out l (List.mem_of_mem_take hl))
      have e2 := hs.out _ (List.getElem_mem hj')
      have e3 : ((visL F B).take j).length ≤ 80 := by simp; omega
      exact fits_of (by simp only [List.length_map]; omega) (by omega)
    intro s2 O2 h2
    have h3 := h2.at_ (q := q) (by rw [Heap.upd_ne _ _ hid2]; exact g2)
    have h4 := h2.at_ (q := rid) (Heap.upd_same _ _ _)
    have h5 := h2.cells
    have h6 := h2.stor
    clear g7 hx1
    (repeat' first
    | simp (contextual := true) (maxSteps := 4000000) only [fwc, fwe, fww, reduceIte, ↓reduceIte, Nat.reduceAdd, Nat.reduceLeDiff, Nat.reduceEqDiff, Nat.reduceLT, Nat.reduceSub, reduceCtorEq, Int.reduceEq, Int.reduceLT, Int.reduceLE, Int.reduceNeg, Int.reduceToNat, Int.reduceAdd, Int.reduceSub, Nat.reduceMul, *]
    | (refine seqK_now ?_)
    | (refine retK_now ?_)
    | (refine retK_now' ?_)
    | (intro q hq)
    | (refine cond_intro (fun hc => ?_) (fun hc => ?_)))
    refine .inl ⟨s2, ((O0.upd rid BB).upd q (.arr 60 1 [s2])).upd rid RR, ?_, ?_, ?_, ?_⟩
    · intro i o ho
      have := g1 i o ho
      rw [Heap.del_apply] at this ⊢
      split at this
      · cases this
      · rename_i hi
        rw [if_neg hi, Heap.upd_ne _ _ hi]
        by_cases hiq : i = q
        · rw [hiq, hq4] at ho; cases ho
        · rw [Heap.upd_ne _ _ hiq, Heap.upd_ne _ _ hi]; exact this
    · rw [Heap.upd_ne _ _ hid2, Heap.upd_same]
    · exact Heap.upd_same _ _ _
    · rw [take_flat _ _ hj', List.map_append]
      exact (h2.put (by rw [Heap.upd_ne _ _ hid2, g2]; simp)).put (upd_some (by rw [Heap.upd_same]; simp))
  · intro r O' h
    rcases h with ⟨s, O0, g1, g2, g3, g4⟩ | h
    · refine .inl ⟨g4.at_ g3, ?_⟩
      rw [hv1, List.take_of_length_le (Nat.le_refl _)] at g4
      have g5 := g4.del (q := rid) (by rw [g3]; simp)
      have g6 := g5.at_ (q := q) (by rw [Heap.del_ne _ hid2]; exact g2)
      have g7 := g4.cells
      (repeat' first
    | simp (contextual := true) (maxSteps := 4000000) only [fwc, fwe, fww, reduceIte, ↓reduceIte, Nat.reduceAdd, Nat.reduceLeDiff, Nat.reduceEqDiff, Nat.reduceLT, Nat.reduceSub, reduceCtorEq, Int.reduceEq, Int.reduceLT, Int.reduceLE, Int.reduceNeg, Int.reduceToNat, Int.reduceAdd, Int.reduceSub, Nat.reduceMul, part_cell, *]
    | (refine seqK_now ?_)
    | (refine retK_now ?_)
    | (refine retK_now' ?_)
    | (intro q hq)
    | (refine cond_intro (fun hc => ?_) (fun hc => ?_)))
      exact g5.pure g1 rfl
    · exact h.elim
end Go.Proofs.Ytembkknplmcamaa

namespace Go.Proofs.Ytembkknplmcamaa
open Go.Ab
attribute [local irreducible] WeakR WeakE CallA YieldA

theorem Id.ext' {p q : Id} : p = q ↔ p.y = q.y ∧ p.n = q.n := by
  cases p; cases q; simp
theorem id_eq (p q : Id) : (decide (p.y = q.y) && (decide (p.n = q.n) && true)) = decide (p = q) := by
  rw [Bool.eq_iff_iff]
  simp [Id.ext']
theorem le_id (p q : Id) : leavesEq [true, true] [.val (.int .u8 p.y), .val (.int .i64 p.n)] [.val (.int .u8 q.y), .val (.int .i64 q.n)] = some (decide (p = q)) := by
  rw [le_int, le_int, le_nil]
  simp [← id_eq]
theorem keyEq_id (p q : Id) : keyEqA [true, true] true p.av q.av = some (decide (p = q)) := le_id p q
theorem keyOK_id (p : Id) : keyOKA [true, true] true p.av = true := by
  unfold keyOKA
  rw [keyEq_id]
  rfl

def seenA (M : List Id) : List (AV × AV) := M.map fun p => (p.av, .val (.bool true))
theorem find_not {p : Id} : ∀ {M : List Id} {k : Nat}, p ∉ M → findA [true, true] true p.av (seenA M) k = some none
  | [], k, _ => rfl
  | q :: M, k, h => by
    have h1 : p ≠ q := fun e => h (by simp [e])
    have h2 : p ∉ M := fun e => h (by simp [e])
    show (match keyEqA [true, true] true p.av q.av with | some true => some (some (k, AV.val (.bool true))) | some false => findA [true, true] true p.av (seenA M) (k + 1) | none => none) = some none
    rw [keyEq_id, decide_eq_false h1]
    exact find_not h2
theorem find_in {p : Id} : ∀ {M : List Id} {k : Nat}, p ∈ M → ∃ i, findA [true, true] true p.av (seenA M) k = some (some (i, .val (.bool true)))
  | [], k, h => by cases h
  | q :: M, k, h => by
    have e : findA [true, true] true p.av (seenA (q :: M)) k = match keyEqA [true, true] true p.av q.av with | some true => some (some (k, AV.val (.bool true))) | some false => findA [true, true] true p.av (seenA M) (k + 1) | none => none := rfl
    rw [e, keyEq_id]
    by_cases hpq : p = q
    · rw [decide_eq_true hpq]; exact ⟨k, rfl⟩
    · rw [decide_eq_false hpq]
      rcases List.mem_cons.1 h with h | h
      · exact absurd h hpq
      · exact find_in h

theorem seen_look {qm : Nat} {M : List Id} (p : Id) (O1 : Heap) (h : O1 qm = some (.mp (seenA M))) : lookupA O1 false [true, true] true (.val (.bool false)) (.mapr qm) (.agg [.val (.int .u8 p.y), .val (.int .i64 p.n)]) = some (.val (.bool (decide (p ∈ M)))) := by
  by_cases hp : p ∈ M
  · obtain ⟨i, hi⟩ := find_in (k := 0) hp
    rw [show AV.agg [.val (.int .u8 p.y), .val (.int .i64 p.n)] = p.av from rfl, lookup_at h (keyOK_id p) hi, decide_eq_true hp]
    rfl
  · rw [show AV.agg [.val (.int .u8 p.y), .val (.int .i64 p.n)] = p.av from rfl, lookup_at h (keyOK_id p) (find_not hp), decide_eq_false hp]
    rfl
theorem seen_set {qm : Nat} {M : List Id} (p : Id) (hp : p ∉ M) (O1 : Heap) (h : O1 qm = some (.mp (seenA M))) : mapsetA O1 [true, true] true (.mapr qm) (.agg [.val (.int .u8 p.y), .val (.int .i64 p.n)]) (.val (.bool true)) = some (O1.upd qm (.mp (seenA (M ++ [p])))) := by
  rw [show AV.agg [.val (.int .u8 p.y), .val (.int .i64 p.n)] = p.av from rfl, mapset_new h (keyOK_id p) (find_not hp)]
  unfold seenA
  rw [List.map_append]
  rfl

def env31 (s : AV) (n qm i : Nat) : Env := ((((Env.upd (fun _ => .junk) 9 (.val (.int .i64 i))).upd 8 (.val (.int .i64 n))).upd 7 s).upd 3 (.mapr qm))

set_option maxHeartbeats 2000000 in
theorem twice_ok (s : AV) (L : List Id) (hs : IsL 2 s (L.map Id.av)) (hl : L.length ≤ 1048576) : PureA Try.prog 53 [s] (.val (.bool (!decide L.Nodup))) := by
  intro O
  have h1 := hs.len
  have h2 := hs.cells
  rw [List.length_map] at h1
  refine k53.call mix ?_
  unfold c53
  (repeat' first
    | simp (contextual := true) (maxSteps := 4000000) only [fwc, fwe, fww, reduceIte, ↓reduceIte, Nat.reduceAdd, Nat.reduceLeDiff, Nat.reduceEqDiff, Nat.reduceLT, Nat.reduceSub, reduceCtorEq, Int.reduceEq, Int.reduceLT, Int.reduceLE, Int.reduceNeg, Int.reduceToNat, Int.reduceAdd, Int.reduceSub, Nat.reduceMul, *]
    | (refine seqK_now ?_)
    | (refine retK_now ?_)
    | (refine retK_now' ?_)
    | (intro q hq)
    | (refine cond_intro (fun hc => ?_) (fun hc => ?_)))
  revert q
  intro qm hqm
  replace hqm : Aside (O qm = none) := hqm
  obtain ⟨I, hI⟩ := hideI (fun m e O' => ∃ i : Nat, i ≤ L.length ∧ m = L.length - i ∧ (L.take i).Nodup ∧ O' = O.upd qm (.mp (seenA (L.take i))) ∧ e = env31 s L.length qm i)
  refine cmd_loop I L.length (by
    rw [hI.out]
    exact ⟨0, by omega, rfl, by simp, rfl, rfl⟩) ?_
  intro m e O' hh
  rw [hI.out] at hh
  obtain ⟨i, h3, rfl, h4, rfl, rfl⟩ := hh
  replace h4 : Aside (L.take i).Nodup := h4
  unfold env31
  (repeat' first
    | simp (contextual := true) (maxSteps := 4000000) only [fwc, fwe, fww, reduceIte, ↓reduceIte, Nat.reduceAdd, Nat.reduceLeDiff, Nat.reduceEqDiff, Nat.reduceLT, Nat.reduceSub, reduceCtorEq, Int.reduceEq, Int.reduceLT, Int.reduceLE, Int.reduceNeg, Int.reduceToNat, Int.reduceAdd, Int.reduceSub, Nat.reduceMul, ilt_nat, *]
    | (refine seqK_now ?_)
    | (refine retK_now ?_)
    | (refine retK_now' ?_)
    | (intro q hq)
    | (refine cond_intro (fun hc => ?_) (fun hc => ?_)))
  · have hi : i < L.length := of_decide_eq_true hc
    clear hc
    have hia := hs.ia (i := i) (by rw [List.length_map]; exact hi)
    rw [List.getElem_map] at hia
    have hnd : (L.take (i + 1)).Nodup ↔ L[i] ∉ L.take i := by
      rw [List.take_succ_eq_append_getElem hi, List.nodup_append]
      simp only [h4.out, true_and, List.nodup_cons, List.not_mem_nil, not_false_eq_true, List.nodup_nil, and_true, List.mem_singleton]
      constructor
      · intro h hm; exact h _ hm _ rfl rfl
      · intro h; exact fun a ha b hb hab => h (hb ▸ hab ▸ ha)
    have htk := List.take_succ_eq_append_getElem hi
    obtain ⟨p, hp⟩ : ∃ p, L[i] = p := ⟨_, rfl⟩
    rw [hp] at hia hnd htk
    rw [show p.av = .agg [.val (.int .u8 p.y), .val (.int .i64 p.n)] from rfl] at hia
    have hlk := seen_look (qm := qm) (M := L.take i) p
    replace htk := (show Aside _ from htk)
    replace hnd := (show Aside _ from hnd)
    replace hp := (show Aside _ from hp)
    have hw : i < 4611686018427387904 := by omega
    by_cases hm : p ∈ L.take i
    · (repeat' first
    | simp (contextual := true) (maxSteps := 4000000) only [fwc, fwe, fww, reduceIte, ↓reduceIte, Nat.reduceAdd, Nat.reduceLeDiff, Nat.reduceEqDiff, Nat.reduceLT, Nat.reduceSub, reduceCtorEq, Int.reduceEq, Int.reduceLT, Int.reduceLE, Int.reduceNeg, Int.reduceToNat, Int.reduceAdd, Int.reduceSub, Nat.reduceMul, part_agg, *]
    | (refine seqK_now ?_)
    | (refine retK_now ?_)
    | (refine retK_now' ?_)
    | (intro q hq)
    | (refine cond_intro (fun hc => ?_) (fun hc => ?_)))
      refine WeakR.pure ?_ ?_
      · refine sub_upd (by simp [*]) (sub_upd hqm.out (Heap.sub_refl _))
      · have : ¬ L.Nodup := fun h => by
          have h' := h.sublist (List.take_sublist (i + 1) L)
          exact (hnd.out.1 h') hm
        simp [this]
    · have hst := seen_set (qm := qm) (M := L.take i) p hm
      (repeat' first
    | simp (contextual := true) (maxSteps := 4000000) only [fwc, fwe, fww, reduceIte, ↓reduceIte, Nat.reduceAdd, Nat.reduceLeDiff, Nat.reduceEqDiff, Nat.reduceLT, Nat.reduceSub, reduceCtorEq, Int.reduceEq, Int.reduceLT, Int.reduceLE, Int.reduceNeg, Int.reduceToNat, Int.reduceAdd, Int.reduceSub, Nat.reduceMul, part_agg, *]
    | (refine seqK_now ?_)
    | (refine retK_now ?_)
    | (refine retK_now' ?_)
    | (intro q hq)
    | (refine cond_intro (fun hc => ?_) (fun hc => ?_)))
      refine loopK_drop (O.upd qm (.mp (seenA (L.take (i + 1))))) ?_ (L.length - (i + 1)) (by omega) ?_
      · rw [htk.out]
        exact sub_both (sub_upd hq.2.2 (sub_upd hqm.out (Heap.sub_refl _)))
      · rw [hI.out]
        refine ⟨i + 1, by omega, rfl, hnd.out.2 hm, rfl, ?_⟩
        simp (contextual := true) (maxSteps := 4000000) only [fwc, fwe, fww, reduceIte, ↓reduceIte, Nat.reduceAdd, Nat.reduceLeDiff, Nat.reduceEqDiff, Nat.reduceLT, Nat.reduceSub, reduceCtorEq, Int.reduceEq, Int.reduceLT, Int.reduceLE, Int.reduceNeg, Int.reduceToNat, Int.reduceAdd, Int.reduceSub, Nat.reduceMul, env31, wrap_succ, *]
  · have : i = L.length := by have := of_decide_eq_false hc; omega
    subst this
    refine WeakR.pure (sub_upd hqm.out (Heap.sub_refl _)) ?_
    have := h4.out
    rw [List.take_length] at this
    simp [this]
end Go.Proofs.Ytembkknplmcamaa

namespace Go.Proofs.Ytembkknplmcamaa
open Go.Ab
attribute [local irreducible] WeakR WeakE CallA YieldA

def idxOf (q : Id → Bool) (l : List Id) : Int := match l.findIdx? q with
  | some i => i
  | none => -1
theorem idx_some {q : Id → Bool} {l : List Id} {i : Nat} (hi : i < l.length) (h1 : q l[i] = true) (h2 : ∀ j (h : j < l.length), j < i → q l[j] = false) : idxOf q l = i := by
  have : l.findIdx? q = some i := by
    rw [List.findIdx?_eq_some_iff_getElem]
    exact ⟨hi, h1, fun j hj => by simp [h2 j (by omega) hj]⟩
  simp [idxOf, this]
theorem idx_none {q : Id → Bool} {l : List Id} (h2 : ∀ j (h : j < l.length), q l[j] = false) : idxOf q l = -1 := by
  have : l.findIdx? q = none := by
    rw [List.findIdx?_eq_none_iff]
    intro x hx
    obtain ⟨j, hj, rfl⟩ := List.mem_iff_getElem.1 hx
    exact h2 j hj
  simp [idxOf, this]
theorem idx_any (q : Id → Bool) (l : List Id) : decide (0 ≤ idxOf q l) = l.any q := by
  unfold idxOf
  cases h : l.findIdx? q with
  | none =>
    have : l.any q = false := by
      rw [List.findIdx?_eq_none_iff] at h
      simpa using h
    rw [this]; rfl
  | some i =>
    rw [List.findIdx?_eq_some_iff_getElem] at h
    obtain ⟨hi, hq, _⟩ := h
    have : l.any q = true := List.any_eq_true.2 ⟨_, List.getElem_mem hi, hq⟩
    rw [this]; simp

def env52 (s : AV) (n : Nat) (f : FuncId) (i : Nat) : Env := (((Env.upd (fun _ => .junk) 8 (.val (.int .i64 i))).upd 7 (.val (.int .i64 n))).upd 1 (.clo (.func f) [] [])).upd 0 s

theorem IndexFunc_ok (s : AV) (l : List Id) (f : FuncId) (q : Id → Bool) (hs : IsL 2 s (l.map Id.av)) (hl : l.length ≤ 1048576) (hq : ∀ x, PureA Try.prog f [x.av] (.val (.bool (q x)))) :
    PureA Try.prog 57 [s, .clo (.func f) [] []] (.val (.int .i64 (idxOf q l))) := by
  intro O
  have h1 := hs.len
  rw [List.length_map] at h1
  refine k57.call mix ?_
  unfold c57
  (repeat' first
    | simp (contextual := true) (maxSteps := 4000000) only [fwc, fwe, fww, reduceIte, ↓reduceIte, Nat.reduceAdd, Nat.reduceLeDiff, Nat.reduceEqDiff, Nat.reduceLT, Nat.reduceSub, reduceCtorEq, Int.reduceEq, Int.reduceLT, Int.reduceLE, Int.reduceNeg, Int.reduceToNat, Int.reduceAdd, Int.reduceSub, Nat.reduceMul, *]
    | (refine seqK_now ?_)
    | (refine retK_now ?_)
    | (refine retK_now' ?_)
    | (intro q hq)
    | (refine cond_intro (fun hc => ?_) (fun hc => ?_)))
  obtain ⟨I, hI⟩ := hideI (fun m e O' => ∃ i : Nat, i ≤ l.length ∧ m = l.length - i ∧ (∀ j (h : j < l.length), j < i → q l[j] = false) ∧ O' = O ∧ e = env52 s l.length f i)
  refine cmd_loop I l.length (by rw [hI.out]; exact ⟨0, by omega, rfl, fun j h hj => by omega, rfl, rfl⟩) ?_
  intro m e O' hh
  rw [hI.out] at hh
  obtain ⟨i, h3, rfl, h2, rfl, rfl⟩ := hh
  replace h2 := (show Aside _ from h2)
  unfold env52
  (repeat' first
    | simp (contextual := true) (maxSteps := 4000000) only [fwc, fwe, fww, reduceIte, ↓reduceIte, Nat.reduceAdd, Nat.reduceLeDiff, Nat.reduceEqDiff, Nat.reduceLT, Nat.reduceSub, reduceCtorEq, Int.reduceEq, Int.reduceLT, Int.reduceLE, Int.reduceNeg, Int.reduceToNat, Int.reduceAdd, Int.reduceSub, Nat.reduceMul, ilt_nat, *]
    | (refine seqK_now ?_)
    | (refine retK_now ?_)
    | (refine retK_now' ?_)
    | (intro q hq)
    | (refine cond_intro (fun hc => ?_) (fun hc => ?_)))
  · have hi : i < l.length := of_decide_eq_true hc
    clear hc
    have hia := hs.ia (i := i) (by rw [List.length_map]; exact hi)
    rw [List.getElem_map] at hia
    have hq' := hq l[i]
    obtain ⟨p, hp⟩ : ∃ p, l[i] = p := ⟨_, rfl⟩
    rw [hp] at hia hq'
    replace hp := (show Aside _ from hp)
    have hp2 : partA p.av 0 2 true = some p.av := part_flat ⟨_, rfl, rfl⟩
    have hw : i < 4611686018427387904 := by omega
    (repeat' first
    | simp (contextual := true) (maxSteps := 4000000) only [fwc, fwe, fww, reduceIte, ↓reduceIte, Nat.reduceAdd, Nat.reduceLeDiff, Nat.reduceEqDiff, Nat.reduceLT, Nat.reduceSub, reduceCtorEq, Int.reduceEq, Int.reduceLT, Int.reduceLE, Int.reduceNeg, Int.reduceToNat, Int.reduceAdd, Int.reduceSub, Nat.reduceMul, *]
    | (refine seqK_now ?_)
    | (refine retK_now ?_)
    | (refine retK_now' ?_)
    | (intro q hq)
    | (refine cond_intro (fun hc => ?_) (fun hc => ?_)))
    refine hq'.use ?_
    (repeat' first
    | simp (contextual := true) (maxSteps := 4000000) only [fwc, fwe, fww, reduceIte, ↓reduceIte, Nat.reduceAdd, Nat.reduceLeDiff, Nat.reduceEqDiff, Nat.reduceLT, Nat.reduceSub, reduceCtorEq, Int.reduceEq, Int.reduceLT, Int.reduceLE, Int.reduceNeg, Int.reduceToNat, Int.reduceAdd, Int.reduceSub, Nat.reduceMul, wrap_succ, *]
    | (refine seqK_now ?_)
    | (refine retK_now ?_)
    | (refine retK_now' ?_)
    | (intro q hq)
    | (refine cond_intro (fun hc => ?_) (fun hc => ?_)))
    · exact WeakR.pure (Heap.sub_refl _) (by rw [idx_some hi (by rw [hp.out]; exact hc) h2.out])
    · refine loopK_now (l.length - (i + 1)) (by omega) ?_
      rw [hI.out]
      refine ⟨i + 1, by omega, rfl, fun j h hj => ?_, rfl, ?_⟩
      · rcases Nat.lt_or_ge j i with h' | h'
        · exact h2.out j h h'
        · have : j = i := by omega
          subst this
          rw [hp.out]
          exact hc
      · simp (contextual := true) (maxSteps := 4000000) only [fwc, fwe, fww, reduceIte, ↓reduceIte, Nat.reduceAdd, Nat.reduceLeDiff, Nat.reduceEqDiff, Nat.reduceLT, Nat.reduceSub, reduceCtorEq, Int.reduceEq, Int.reduceLT, Int.reduceLE, Int.reduceNeg, Int.reduceToNat, Int.reduceAdd, Int.reduceSub, Nat.reduceMul, env52, wrap_succ, *]
  · have hi : ¬ i < l.length := of_decide_eq_false hc
    refine WeakR.pure (by repeat (first | exact Heap.sub_refl _ | refine sub_upd (by simp only [*]) ?_)) ?_
    rw [idx_none (fun j h => h2.out j h (by omega))]

theorem ContainsFunc_ok (s : AV) (l : List Id) (f : FuncId) (q : Id → Bool) (hs : IsL 2 s (l.map Id.av)) (hl : l.length ≤ 1048576) (hq : ∀ x, PureA Try.prog f [x.av] (.val (.bool (q x)))) :
    PureA Try.prog 50 [s, .clo (.func f) [] []] (.val (.bool (l.any q))) := by
  intro O
  refine k50.call mix ?_
  unfold c50
  (repeat' first
    | simp (contextual := true) (maxSteps := 4000000) only [fwc, fwe, fww, reduceIte, ↓reduceIte, Nat.reduceAdd, Nat.reduceLeDiff, Nat.reduceEqDiff, Nat.reduceLT, Nat.reduceSub, reduceCtorEq, Int.reduceEq, Int.reduceLT, Int.reduceLE, Int.reduceNeg, Int.reduceToNat, Int.reduceAdd, Int.reduceSub, Nat.reduceMul, *]
    | (refine seqK_now ?_)
    | (refine retK_now ?_)
    | (refine retK_now' ?_)
    | (intro q hq)
    | (refine cond_intro (fun hc => ?_) (fun hc => ?_)))
  refine (IndexFunc_ok s l f q hs hl hq).use ?_
  (repeat' first
    | simp (contextual := true) (maxSteps := 4000000) only [fwc, fwe, fww, reduceIte, ↓reduceIte, Nat.reduceAdd, Nat.reduceLeDiff, Nat.reduceEqDiff, Nat.reduceLT, Nat.reduceSub, reduceCtorEq, Int.reduceEq, Int.reduceLT, Int.reduceLE, Int.reduceNeg, Int.reduceToNat, Int.reduceAdd, Int.reduceSub, Nat.reduceMul, *]
    | (refine seqK_now ?_)
    | (refine retK_now ?_)
    | (refine retK_now' ?_)
    | (intro q hq)
    | (refine cond_intro (fun hc => ?_) (fun hc => ?_)))
  refine WeakR.pure (by repeat (first | exact Heap.sub_refl _ | refine sub_upd (by simp only [*]) ?_)) ?_
  rw [idx_any]

theorem bad1_ok (p : Id) : PureA Try.prog 51 [p.av] (.val (.bool (!named p))) := by
  intro O
  have h := Named_ok p
  unfold Id.av at h
  refine k51.call mix ?_
  unfold c51 Id.av
  (repeat' first
    | simp (contextual := true) (maxSteps := 4000000) only [fwc, fwe, fww, reduceIte, ↓reduceIte, Nat.reduceAdd, Nat.reduceLeDiff, Nat.reduceEqDiff, Nat.reduceLT, Nat.reduceSub, reduceCtorEq, Int.reduceEq, Int.reduceLT, Int.reduceLE, Int.reduceNeg, Int.reduceToNat, Int.reduceAdd, Int.reduceSub, Nat.reduceMul, *]
    | (refine seqK_now ?_)
    | (refine retK_now ?_)
    | (refine retK_now' ?_)
    | (intro q hq)
    | (refine cond_intro (fun hc => ?_) (fun hc => ?_)))
  refine h.use ?_
  (repeat' first
    | simp (contextual := true) (maxSteps := 4000000) only [fwc, fwe, fww, reduceIte, ↓reduceIte, Nat.reduceAdd, Nat.reduceLeDiff, Nat.reduceEqDiff, Nat.reduceLT, Nat.reduceSub, reduceCtorEq, Int.reduceEq, Int.reduceLT, Int.reduceLE, Int.reduceNeg, Int.reduceToNat, Int.reduceAdd, Int.reduceSub, Nat.reduceMul, *]
    | (refine seqK_now ?_)
    | (refine retK_now ?_)
    | (refine retK_now' ?_)
    | (intro q hq)
    | (refine cond_intro (fun hc => ?_) (fun hc => ?_)))
  refine WeakR.pure (by repeat (first | exact Heap.sub_refl _ | refine sub_upd (by simp only [*]) ?_)) ?_
  rfl

theorem sub_updel {O A : Heap} {i r : Nat} {x : AObj} (h : O i = none) (hs : O.sub (A.del r)) : O.sub ((A.upd i x).del r) := by
  intro j o hj
  have h1 := hs j o hj
  have hji : ¬ j = i := fun e => by rw [e, h] at hj; cases hj
  rw [Heap.del_apply] at h1 ⊢
  split at h1
  · cases h1
  · rename_i hr
    rw [if_neg hr, Heap.upd_ne _ _ hji]
    exact h1

def badNames (l : List Id) : Bool := l.any fun p => !named p
def checkL (F B : List (List Id)) : Int := if (decide (40 < F.length) || decide (40 < B.length)) = true then 9 else if (visL F B).any (fun l => decide (4 < l.length)) = true then 9 else if badNames (namesL F B) = true then 1 else if (!decide (namesL F B).Nodup) = true then 8 else 0

set_option maxHeartbeats 2000000 in
theorem Check_ok (f b : AV) (es fs : List AV) (F B : List (List Id)) (hf : IsB f es F) (hb : IsB b fs B) :
    PureA Try.prog 35 [.agg [f, b]] (.val (.int .i64 (checkL F B))) := by
  intro O
  have hf1 := hf.1.cells
  have hb1 := hb.1.cells
  have hf2 := hf.1.stor
  have hb2 := hb.1.stor
  have hf3 := hf.1.len
  have hb3 := hb.1.len
  rw [hf.2.1] at hf3
  rw [hb.2.1] at hb3
  have d1 : decide ((40 : Int) < (F.length : Int)) = decide (40 < F.length) := decide_eq_decide.2 (by omega)
  have d2 : decide ((40 : Int) < (B.length : Int)) = decide (40 < B.length) := decide_eq_decide.2 (by omega)
  refine k35.call mix ?_
  unfold c35
  (repeat' first
    | simp (contextual := true) (maxSteps := 4000000) only [fwc, fwe, fww, reduceIte, ↓reduceIte, Nat.reduceAdd, Nat.reduceLeDiff, Nat.reduceEqDiff, Nat.reduceLT, Nat.reduceSub, reduceCtorEq, Int.reduceEq, Int.reduceLT, Int.reduceLE, Int.reduceNeg, Int.reduceToNat, Int.reduceAdd, Int.reduceSub, Nat.reduceMul, part_cell, *]
    | (refine seqK_now ?_)
    | (refine retK_now ?_)
    | (refine retK_now' ?_)
    | (intro q hq)
    | (refine cond_intro (fun hc => ?_) (fun hc => ?_)))
  · refine WeakR.pure (by repeat (first | exact Heap.sub_refl _ | refine sub_upd (by simp only [*]) ?_)) ?_
    rw [checkL, if_pos hc]
  replace hc := (show Aside _ from hc)
  refine (all_ok f b hf1 hb1 hf2 hb2).use ?_
  (repeat' first
    | simp (contextual := true) (maxSteps := 4000000) only [fwc, fwe, fww, reduceIte, ↓reduceIte, Nat.reduceAdd, Nat.reduceLeDiff, Nat.reduceEqDiff, Nat.reduceLT, Nat.reduceSub, reduceCtorEq, Int.reduceEq, Int.reduceLT, Int.reduceLE, Int.reduceNeg, Int.reduceToNat, Int.reduceAdd, Int.reduceSub, Nat.reduceMul, *]
    | (refine seqK_now ?_)
    | (refine retK_now ?_)
    | (refine retK_now' ?_)
    | (intro q hq)
    | (refine cond_intro (fun hc => ?_) (fun hc => ?_)))
  refine cmd_range rfl ?_
  intro rid RR BB DD hid hY
  replace hY := (show Aside _ from hY)
  rename_i q1 hq1
  rw [upd_none, upd_none] at hid
  obtain ⟨hq2, hq3, hq4⟩ := hq
  obtain ⟨hid1, hid2, hid3, hid4, hid5⟩ := hid
  obtain ⟨hv1, hv2⟩ := vis_is hf hb
  have hvl := vis_le F B
  let J : Nat → Heap → Prop := fun j O' => (∀ i (h : i < (visL F B).length), i < j → (visL F B)[i].length ≤ 4) ∧ O' rid = some RR ∧ O' q1 = some (.arr 26 2 [.agg [f, b]]) ∧ O' q = some (.arr 29 1 [.val (.int .i64 0)]) ∧ O.sub (O'.del rid)
  let Z : Heap → Prop := fun O' => (∃ i, ∃ (h : i < (visL F B).length), 4 < (visL F B)[i].length) ∧ O' rid = some (DD .ret) ∧ O' q = some (.arr 29 1 [.val (.int .i64 9)]) ∧ O.sub (O'.del rid)
  refine CallA.mono (all1_ok rid f b es fs hf.1 hb.1 hf.stk hb.stk _ J Z ?_ ?_) ?_
  · refine ⟨fun i h h' => by omega, Heap.upd_same _ _ _, ?_, ?_, ?_⟩
    · rw [Heap.upd_ne _ _ hid4, Heap.upd_ne _ _ hq3, Heap.upd_same]
    · rw [Heap.upd_ne _ _ hid2, Heap.upd_same]
    · rw [del_upd_new (by rw [upd_none, upd_none]; exact ⟨hid1, hid2, hid3, hid4, hid5⟩)]
      exact sub_upd hq4 (sub_upd hq1 (Heap.sub_refl _))
  · intro j hj O1 hJ
    obtain ⟨g1, g2, g3, g4, g5⟩ := hJ
    have hj' : j < (visL F B).length := by rw [← hv1]; exact hj
    have hx := hv2 j hj hj'
    generalize (es.take 40 ++ fs.take 40)[j] = x at hx
    have hx1 := hx.len
    rw [List.length_map] at hx1
    have d3 : decide ((4 : Int) < ((visL F B)[j].length : Int)) = decide (4 < (visL F B)[j].length) := decide_eq_decide.2 (by omega)
    replace g1 := (show Aside _ from g1)
    refine hY.out [_, x] O1 _ g2 rfl ?_
    (repeat' first
    | simp (contextual := true) (maxSteps := 4000000) only [fwc, fwe, fww, reduceIte, ↓reduceIte, Nat.reduceAdd, Nat.reduceLeDiff, Nat.reduceEqDiff, Nat.reduceLT, Nat.reduceSub, reduceCtorEq, Int.reduceEq, Int.reduceLT, Int.reduceLE, Int.reduceNeg, Int.reduceToNat, Int.reduceAdd, Int.reduceSub, Nat.reduceMul, *]
    | (refine seqK_now ?_)
    | (refine retK_now ?_)
    | (refine retK_now' ?_)
    | (intro q hq)
    | (refine cond_intro (fun hc => ?_) (fun hc => ?_)))
    · refine .inr ⟨⟨j, hj', of_decide_eq_true hc⟩, Heap.upd_same _ _ _, ?_, sub_updel hid5 (sub_updel hq4 (sub_updel hid5 g5))⟩
      rw [Heap.upd_ne _ _ hid2, Heap.upd_same]
    · refine .inl ⟨?_, Heap.upd_same _ _ _, ?_, ?_, sub_updel hid5 g5⟩
      · intro i h h'
        rcases Nat.lt_or_ge i j with h2 | h2
        · exact g1.out i h h2
        · have : i = j := by omega
          subst this
          have := of_decide_eq_false hc
          omega
      · rw [Heap.upd_ne _ _ hid4]; exact g3
      · rw [Heap.upd_ne _ _ hid2]; exact g4
  · intro r O' h
    rcases h with ⟨g1, g2, g3, g4, g5⟩ | ⟨g1, g2, g3, g4⟩
    · rw [hv1] at g1
      have h4 : (visL F B).any (fun l => decide (4 < l.length)) = false := by
        rw [List.any_eq_false]
        intro l hl
        obtain ⟨i, hi, rfl⟩ := List.mem_iff_getElem.1 hl
        have := g1 i hi hi
        simp; omega
      have hle : ∀ l ∈ visL F B, l.length ≤ 1000 := fun l hl => by
        obtain ⟨i, hi, rfl⟩ := List.mem_iff_getElem.1 hl
        have := g1 i hi hi
        omega
      clear g1
      refine .inl ⟨g2, ?_⟩
      have hn := names_ok f b es fs F B hf hb hle
      have hL := frA_L 2 ((namesL F B).map Id.av)
      have hnl : (namesL F B).length ≤ 1048576 := by
        have := flat_len hle
        unfold namesL
        omega
      have hcf := ContainsFunc_ok _ (namesL F B) 51 (fun p => !named p) hL hnl (fun x => bad1_ok x)
      have htw := twice_ok _ _ hL hnl
      generalize frA 2 ((namesL F B).map Id.av) = nm at hn hcf htw
      replace g5 := (show Aside _ from g5)
      replace hle := (show Aside _ from hle)
      replace h4 := (show Aside _ from h4)
      have g6 : (O'.del rid) q1 = some (.arr 26 2 [.agg [f, b]]) := by rw [Heap.del_ne _ hid4]; exact g3
      have g7 : (O'.del rid) q = some (.arr 29 1 [.val (.int .i64 0)]) := by rw [Heap.del_ne _ hid2]; exact g4
      generalize O'.del rid = O2 at g5 g6 g7
      clear g2 g3 g4 O'
      (repeat' first
    | simp (contextual := true) (maxSteps := 4000000) only [fwc, fwe, fww, reduceIte, ↓reduceIte, Nat.reduceAdd, Nat.reduceLeDiff, Nat.reduceEqDiff, Nat.reduceLT, Nat.reduceSub, reduceCtorEq, Int.reduceEq, Int.reduceLT, Int.reduceLE, Int.reduceNeg, Int.reduceToNat, Int.reduceAdd, Int.reduceSub, Nat.reduceMul, part_cell, part_agg, *]
    | (refine seqK_now ?_)
    | (refine retK_now ?_)
    | (refine retK_now' ?_)
    | (intro q hq)
    | (refine cond_intro (fun hc => ?_) (fun hc => ?_)))
      refine hn.use ?_
      (repeat' first
    | simp (contextual := true) (maxSteps := 4000000) only [fwc, fwe, fww, reduceIte, ↓reduceIte, Nat.reduceAdd, Nat.reduceLeDiff, Nat.reduceEqDiff, Nat.reduceLT, Nat.reduceSub, reduceCtorEq, Int.reduceEq, Int.reduceLT, Int.reduceLE, Int.reduceNeg, Int.reduceToNat, Int.reduceAdd, Int.reduceSub, Nat.reduceMul, *]
    | (refine seqK_now ?_)
    | (refine retK_now ?_)
    | (refine retK_now' ?_)
    | (intro q hq)
    | (refine cond_intro (fun hc => ?_) (fun hc => ?_)))
      refine hcf.use ?_
      (repeat' first
    | simp (contextual := true) (maxSteps := 4000000) only [fwc, fwe, fww, reduceIte, ↓reduceIte, Nat.reduceAdd, Nat.reduceLeDiff, Nat.reduceEqDiff, Nat.reduceLT, Nat.reduceSub, reduceCtorEq, Int.reduceEq, Int.reduceLT, Int.reduceLE, Int.reduceNeg, Int.reduceToNat, Int.reduceAdd, Int.reduceSub, Nat.reduceMul, *]
    | (refine seqK_now ?_)
    | (refine retK_now ?_)
    | (refine retK_now' ?_)
    | (intro q hq)
    | (refine cond_intro (fun hc => ?_) (fun hc => ?_)))
      · refine WeakR.pure (sub_upd hq4 g5.out) ?_
        rename_i hc2
        rw [checkL, if_neg (by rw [hc2.out]; simp), if_neg (by rw [h4.out]; simp), if_pos (by exact hc)]
      replace hc := (show Aside _ from hc)
      refine htw.use ?_
      rename_i hc2
      (repeat' first
    | simp (contextual := true) (maxSteps := 4000000) only [fwc, fwe, fww, reduceIte, ↓reduceIte, Nat.reduceAdd, Nat.reduceLeDiff, Nat.reduceEqDiff, Nat.reduceLT, Nat.reduceSub, reduceCtorEq, Int.reduceEq, Int.reduceLT, Int.reduceLE, Int.reduceNeg, Int.reduceToNat, Int.reduceAdd, Int.reduceSub, Nat.reduceMul, *]
    | (refine seqK_now ?_)
    | (refine retK_now ?_)
    | (refine retK_now' ?_)
    | (intro q hq)
    | (refine cond_intro (fun hc => ?_) (fun hc => ?_)))
      · refine WeakR.pure (sub_upd hq4 g5.out) ?_
        rename_i hc3
        rw [checkL, if_neg (by rw [hc2.out]; simp), if_neg (by rw [h4.out]; simp), if_neg (by rw [show badNames (namesL F B) = false from hc3.out]; simp), if_pos hc]
      · refine WeakR.pure (sub_upd hq4 g5.out) ?_
        rename_i hc3
        rw [checkL, if_neg (by rw [hc2.out]; simp), if_neg (by rw [h4.out]; simp), if_neg (by rw [show badNames (namesL F B) = false from hc3.out]; simp), if_neg (by rw [hc]; simp)]
    · refine .inr ⟨.ret, by simp, g2, ?_⟩
      have g6 : (O'.del rid) q = some (.arr 29 1 [.val (.int .i64 9)]) := by rw [Heap.del_ne _ hid2]; exact g3
      obtain ⟨i, h1, h2⟩ := g1
      have h4 : (visL F B).any (fun l => decide (4 < l.length)) = true := List.any_eq_true.2 ⟨_, List.getElem_mem h1, by simpa using h2⟩
      rw [checkL, if_neg (by rw [hc.out]; simp), if_pos h4]
      clear h4 h2
      (repeat' first
    | simp (contextual := true) (maxSteps := 4000000) only [fwc, fwe, fww, reduceIte, ↓reduceIte, Nat.reduceAdd, Nat.reduceLeDiff, Nat.reduceEqDiff, Nat.reduceLT, Nat.reduceSub, reduceCtorEq, Int.reduceEq, Int.reduceLT, Int.reduceLE, Int.reduceNeg, Int.reduceToNat, Int.reduceAdd, Int.reduceSub, Nat.reduceMul, part_cell, *]
    | (refine seqK_now ?_)
    | (refine retK_now ?_)
    | (refine retK_now' ?_)
    | (intro q hq)
    | (refine cond_intro (fun hc => ?_) (fun hc => ?_)))
      exact WeakR.pure g4 rfl
end Go.Proofs.Ytembkknplmcamaa

namespace Go.Proofs.Ytembkknplmcamaa
open Go.Ab
attribute [local irreducible] WeakR WeakE CallA YieldA

def env53 (s : AV) (n q i : Nat) : Env := (((Env.upd (fun _ => .junk) 8 (.val (.int .i64 i))).upd 7 (.val (.int .i64 n))).upd 3 (.optr q 2 0 0)).upd 0 s

def env39 (s t : AV) (n i : Nat) : Env := (((Env.upd (fun _ => .junk) 13 (.val (.int .i64 i))).upd 12 (.val (.int .i64 n))).upd 1 t).upd 0 s

def env21 (s t : AV) (i : Nat) : Env := ((Env.upd (fun _ => .junk) 5 (.val (.int .i64 i))).upd 1 t).upd 0 s

def needleL (i : Nat) : Ndl := ⟨((i % 80 / 40 : Nat) : Int), ((1 + i % 40 : Nat) : Int)⟩
end Go.Proofs.Ytembkknplmcamaa

namespace Go.Proofs.Ytembkknplmcamaa
open Go.Ab
attribute [local irreducible] WeakR WeakE CallA YieldA

def atL (F B : List (List Id)) (n : Ndl) : List Id := if n.bad = true then [] else (if n.bed = 1 then B else F).getD (n.at_ - 1).toNat []
def atA (es fs : List AV) (n : Ndl) : AV := if n.bad = true then .val (.slice none 0 0) else cpS (getA (if n.bed = 1 then fs else es) (n.at_ - 1).toNat)

theorem getA_L {s : AV} {es : List AV} {F : List (List Id)} (h : IsB s es F) (i : Nat) : IsL 2 (getA es i) ((F.getD i []).map Id.av) := by
  unfold getA
  by_cases hi : i < es.length
  · have hi' : i < F.length := by rw [← h.2.1]; exact hi
    rw [List.getD_eq_getElem?_getD, List.getD_eq_getElem?_getD, List.getElem?_eq_getElem hi, List.getElem?_eq_getElem hi']
    exact h.2.2 i hi hi'
  · rw [List.getD_eq_getElem?_getD, List.getD_eq_getElem?_getD, List.getElem?_eq_none (by omega), List.getElem?_eq_none (by rw [← h.2.1]; omega)]
    exact .nil

/-- How long a bed may be, and its stacks. -/
def Sm (F : List (List Id)) : Prop := F.length ≤ 1000 ∧ ∀ l ∈ F, l.length ≤ 1000
theorem Sm.getD {F : List (List Id)} (h : Sm F) (i : Nat) : (F.getD i []).length ≤ 1000 := by
  rw [List.getD_eq_getElem?_getD]
  by_cases hi : i < F.length
  · rw [List.getElem?_eq_getElem hi]; exact h.2 _ (List.getElem_mem hi)
  · rw [List.getElem?_eq_none (by omega)]; simp
theorem getOK {s : AV} {es : List AV} {F : List (List Id)} (h : IsB s es F) (hs : Sm F) (i : Nat) : PureA Try.prog 46 [s, .val (.int .i64 i)] (getA es i) :=
  get_ok h.1 i (by have := h.2.1; have := hs.1; omega) (fun x hx => by obtain ⟨L, hL⟩ := h.stk x hx; exact ⟨_, hL⟩)

theorem At_ok (f b : AV) (es fs : List AV) (F B : List (List Id)) (n : Ndl) (hf : IsB f es F) (hb : IsB b fs B) (hF : Sm F) (hB : Sm B) :
    PureA Try.prog 25 [.agg [f, b], n.av] (atA es fs n) := by
  intro O
  have hf1 := hf.1.cells
  have hb1 := hb.1.cells
  have hf2 := hf.1.stor
  have hb2 := hb.1.stor
  have hck := NdlCheck_ok n
  rw [show n.av = .agg [.val (.int .u8 n.bed), .val (.int .i64 n.at_)] from rfl] at hck ⊢
  refine k25.call mix ?_
  unfold c25
  (repeat' first
    | simp (contextual := true) (maxSteps := 4000000) only [fwc, fwe, fww, reduceIte, ↓reduceIte, Nat.reduceAdd, Nat.reduceLeDiff, Nat.reduceEqDiff, Nat.reduceLT, Nat.reduceSub, reduceCtorEq, Int.reduceEq, Int.reduceLT, Int.reduceLE, Int.reduceNeg, Int.reduceToNat, Int.reduceAdd, Int.reduceSub, Nat.reduceMul, *]
    | (refine seqK_now ?_)
    | (refine retK_now ?_)
    | (refine retK_now' ?_)
    | (intro q hq)
    | (refine cond_intro (fun hc => ?_) (fun hc => ?_)))
  refine hck.use ?_
  by_cases hbad : n.bad = true
  · have hA : atA es fs n = .val (.slice none 0 0) := by rw [atA, if_pos hbad]
    rw [if_pos hbad]
    rw [hA]
    (repeat' first
    | simp (contextual := true) (maxSteps := 4000000) only [fwc, fwe, fww, reduceIte, ↓reduceIte, Nat.reduceAdd, Nat.reduceLeDiff, Nat.reduceEqDiff, Nat.reduceLT, Nat.reduceSub, reduceCtorEq, Int.reduceEq, Int.reduceLT, Int.reduceLE, Int.reduceNeg, Int.reduceToNat, Int.reduceAdd, Int.reduceSub, Nat.reduceMul, *]
    | (refine seqK_now ?_)
    | (refine retK_now ?_)
    | (refine retK_now' ?_)
    | (intro q hq)
    | (refine cond_intro (fun hc => ?_) (fun hc => ?_)))
    refine WeakR.pure (by repeat (first | exact Heap.sub_refl _ | refine sub_upd (by simp only [*]) ?_)) ?_
    rfl
  · have hA : atA es fs n = cpS (getA (if n.bed = 1 then fs else es) (n.at_ - 1).toNat) := by rw [atA, if_neg hbad]
    rw [if_neg hbad, hA]
    have hw : IntKind.i64.wrap (n.at_ - 1) = (((n.at_ - 1).toNat : Nat) : Int) ∧ 0 ≤ n.at_ - 1 := by
      have h := hbad
      unfold Ndl.bad at h
      simp only [Bool.or_eq_true, decide_eq_true_eq, not_or, Int.not_lt] at h
      rw [wrap_i64 (by omega) (by omega)]
      omega
    obtain ⟨hw, _⟩ := hw
    generalize (n.at_ - 1).toNat = i at hw
    clear hA hbad hck
    have hgF := getOK hf hF i
    have hgB := getOK hb hB i
    have hLF := getA_L hf i
    have hLB := getA_L hb i
    have hlF := hF.getD i
    have hlB := hB.getD i
    (repeat' first
    | simp (contextual := true) (maxSteps := 4000000) only [fwc, fwe, fww, reduceIte, ↓reduceIte, Nat.reduceAdd, Nat.reduceLeDiff, Nat.reduceEqDiff, Nat.reduceLT, Nat.reduceSub, reduceCtorEq, Int.reduceEq, Int.reduceLT, Int.reduceLE, Int.reduceNeg, Int.reduceToNat, Int.reduceAdd, Int.reduceSub, Nat.reduceMul, part_cell, *]
    | (refine seqK_now ?_)
    | (refine retK_now ?_)
    | (refine retK_now' ?_)
    | (intro q hq)
    | (refine cond_intro (fun hc => ?_) (fun hc => ?_)))
    · have hbed : n.bed = 1 := of_decide_eq_true hc
      rw [if_pos hbed]
      clear hc hbed
      refine hgB.use ?_
      (repeat' first
    | simp (contextual := true) (maxSteps := 4000000) only [fwc, fwe, fww, reduceIte, ↓reduceIte, Nat.reduceAdd, Nat.reduceLeDiff, Nat.reduceEqDiff, Nat.reduceLT, Nat.reduceSub, reduceCtorEq, Int.reduceEq, Int.reduceLT, Int.reduceLE, Int.reduceNeg, Int.reduceToNat, Int.reduceAdd, Int.reduceSub, Nat.reduceMul, *]
    | (refine seqK_now ?_)
    | (refine retK_now ?_)
    | (refine retK_now' ?_)
    | (intro q hq)
    | (refine cond_intro (fun hc => ?_) (fun hc => ?_)))
      refine (Clone_ok hLB (by simp only [List.length_map]; omega)).use ?_
      (repeat' first
    | simp (contextual := true) (maxSteps := 4000000) only [fwc, fwe, fww, reduceIte, ↓reduceIte, Nat.reduceAdd, Nat.reduceLeDiff, Nat.reduceEqDiff, Nat.reduceLT, Nat.reduceSub, reduceCtorEq, Int.reduceEq, Int.reduceLT, Int.reduceLE, Int.reduceNeg, Int.reduceToNat, Int.reduceAdd, Int.reduceSub, Nat.reduceMul, *]
    | (refine seqK_now ?_)
    | (refine retK_now ?_)
    | (refine retK_now' ?_)
    | (intro q hq)
    | (refine cond_intro (fun hc => ?_) (fun hc => ?_)))
      refine (Clip_ok hLB).use ?_
      (repeat' first
    | simp (contextual := true) (maxSteps := 4000000) only [fwc, fwe, fww, reduceIte, ↓reduceIte, Nat.reduceAdd, Nat.reduceLeDiff, Nat.reduceEqDiff, Nat.reduceLT, Nat.reduceSub, reduceCtorEq, Int.reduceEq, Int.reduceLT, Int.reduceLE, Int.reduceNeg, Int.reduceToNat, Int.reduceAdd, Int.reduceSub, Nat.reduceMul, *]
    | (refine seqK_now ?_)
    | (refine retK_now ?_)
    | (refine retK_now' ?_)
    | (intro q hq)
    | (refine cond_intro (fun hc => ?_) (fun hc => ?_)))
      refine WeakR.pure (by repeat (first | exact Heap.sub_refl _ | refine sub_upd (by simp only [*]) ?_)) ?_
      rfl
    · have hbed : ¬ n.bed = 1 := of_decide_eq_false hc
      rw [if_neg hbed]
      clear hc hbed
      refine hgF.use ?_
      (repeat' first
    | simp (contextual := true) (maxSteps := 4000000) only [fwc, fwe, fww, reduceIte, ↓reduceIte, Nat.reduceAdd, Nat.reduceLeDiff, Nat.reduceEqDiff, Nat.reduceLT, Nat.reduceSub, reduceCtorEq, Int.reduceEq, Int.reduceLT, Int.reduceLE, Int.reduceNeg, Int.reduceToNat, Int.reduceAdd, Int.reduceSub, Nat.reduceMul, *]
    | (refine seqK_now ?_)
    | (refine retK_now ?_)
    | (refine retK_now' ?_)
    | (intro q hq)
    | (refine cond_intro (fun hc => ?_) (fun hc => ?_)))
      refine (Clone_ok hLF (by simp only [List.length_map]; omega)).use ?_
      (repeat' first
    | simp (contextual := true) (maxSteps := 4000000) only [fwc, fwe, fww, reduceIte, ↓reduceIte, Nat.reduceAdd, Nat.reduceLeDiff, Nat.reduceEqDiff, Nat.reduceLT, Nat.reduceSub, reduceCtorEq, Int.reduceEq, Int.reduceLT, Int.reduceLE, Int.reduceNeg, Int.reduceToNat, Int.reduceAdd, Int.reduceSub, Nat.reduceMul, *]
    | (refine seqK_now ?_)
    | (refine retK_now ?_)
    | (refine retK_now' ?_)
    | (intro q hq)
    | (refine cond_intro (fun hc => ?_) (fun hc => ?_)))
      refine (Clip_ok hLF).use ?_
      (repeat' first
    | simp (contextual := true) (maxSteps := 4000000) only [fwc, fwe, fww, reduceIte, ↓reduceIte, Nat.reduceAdd, Nat.reduceLeDiff, Nat.reduceEqDiff, Nat.reduceLT, Nat.reduceSub, reduceCtorEq, Int.reduceEq, Int.reduceLT, Int.reduceLE, Int.reduceNeg, Int.reduceToNat, Int.reduceAdd, Int.reduceSub, Nat.reduceMul, *]
    | (refine seqK_now ?_)
    | (refine retK_now ?_)
    | (refine retK_now' ?_)
    | (intro q hq)
    | (refine cond_intro (fun hc => ?_) (fun hc => ?_)))
      refine WeakR.pure (by repeat (first | exact Heap.sub_refl _ | refine sub_upd (by simp only [*]) ?_)) ?_
      rfl
theorem atA_T {f b : AV} {es fs : List AV} {F B : List (List Id)} (n : Ndl) (hf : IsB f es F) (hb : IsB b fs B) : IsT 2 (atA es fs n) ((atL F B n).map Id.av) := by
  unfold atA atL
  split
  · exact .nil
  · refine cpS_T ?_
    split
    · exact getA_L hb _
    · exact getA_L hf _

def findL (F B : List (List Id)) (p : Id) : Option Nat := (visL F B).findIdx? (fun l => decide (p ∈ l))
def foundN (n0 : Nat) : Option Nat → Ndl
  | some j => nd n0 j
  | none => ⟨0, 0⟩
def foundE : Option Nat → Int
  | some _ => 0
  | none => 7

end Go.Proofs.Ytembkknplmcamaa

namespace Go.Proofs.Ytembkknplmcamaa
open Go.Ab
attribute [local irreducible] WeakR WeakE CallA YieldA

/-- Nil where there is nothing to come; else an array of one's own. -/
def OwG (n : Nat) (O0 O' : Heap) (s : AV) (L : List AV) : Prop := (n = 0 ∧ s = .val (.slice none 0 0) ∧ L = [] ∧ O' = O0) ∨ (n ≠ 0 ∧ ∃ id c elems, O0 id = none ∧ s = .own id 2 0 L.length c ∧ O' = O0.upd id (.arr 35 2 elems) ∧ elems.take L.length = L ∧ L.length ≤ elems.length)

theorem OwG.pure {n : Nat} {O0 O' : Heap} {s R : AV} {L : List AV} (h : OwG n O0 O' s L) (hn : L.length = n) (hr : frA 2 L = R) : WeakR (fun r' O' => r' = R ∧ O' = O0) s O' := by
  rcases h with ⟨rfl, rfl, rfl, rfl⟩ | ⟨hne, id, c, elems, h0, rfl, rfl, h1, h2⟩
  · exact WeakR.pure (Heap.sub_refl _) hr
  · have hz := Fz.own (id := id) (sz := 2) (elems := elems) 0 L.length c false (by omega) (fun h => by cases h)
    rw [List.drop_zero, h1] at hz
    refine WeakR.pureF id 2 35 elems (Heap.upd_same _ _ _) hz (by rw [del_upd_new h0]; exact Heap.sub_refl _) ?_
    rw [← hr, frA, if_neg (fun e => hne (by rw [← hn, e]; rfl))]

def env40 (s : AV) (n k m : Nat) : Env := (((((Env.upd (fun _ => .junk) 11 (.val (.int .i64 k))).upd 10 (.val (.int .i64 n))).upd 9 s).upd 3 (.val (.int .i64 m))).upd 0 s)
def env40b (s v : AV) (n k : Nat) : Env := ((((Env.upd (fun _ => .junk) 27 (.val (.int .i64 k))).upd 26 (.val (.int .i64 n))).upd 25 s).upd 6 v)

end Go.Proofs.Ytembkknplmcamaa

namespace Go.Proofs.Ytembkknplmcamaa
open Go.Ab
attribute [local irreducible] WeakR WeakE CallA YieldA

def trimN (l : List (List Id)) : Nat → Nat
  | 0 => 0
  | n + 1 => if l.getD n [] = [] then trimN l n else n + 1
theorem trimN_le (l : List (List Id)) : ∀ n, trimN l n ≤ n
  | 0 => Nat.le_refl _
  | n + 1 => by
    unfold trimN
    split
    · have := trimN_le l n; omega
    · exact Nat.le_refl _
def trimL (l : List (List Id)) : List (List Id) := l.take (trimN l l.length)
def fullL (F : List (List Id)) (at_ : Nat) (X : List Id) : List (List Id) := (List.range (max F.length at_)).map fun i => if i + 1 = at_ then X else F.getD i []
def withL (F : List (List Id)) (at_ : Nat) (X : List Id) : List (List Id) := trimL (fullL F at_ X)
def fullA (es : List AV) (n at_ : Nat) (x : AV) : List AV := (List.range n).map fun i => cpS (if i + 1 = at_ then x else getA es i)
def withA (es : List AV) (F : List (List Id)) (at_ : Nat) (x : AV) (X : List Id) : List AV := (fullA es (max F.length at_) at_ x).take (withL F at_ X).length

def nilS : AV := .val (.slice none 0 0)
def elW (es : List AV) (n at_ : Nat) (x : AV) (k : Nat) : List AV := (fullA es n at_ x).take k ++ List.replicate (n - k) nilS
def env54 (s x : AV) (at_ id n k : Nat) : Env := (((((Env.upd (fun _ => .junk) 17 (.val (.int .i64 k))).upd 16 (.val (.int .i64 n))).upd 7 (.own id 1 0 n (some n))).upd 2 x).upd 1 (.val (.int .i64 at_))).upd 0 s
def env54b (id n j : Nat) : Env := Env.upd (fun _ => .junk) 7 (.own id 1 0 j (some n))

end Go.Proofs.Ytembkknplmcamaa

namespace Go.Proofs.Ytembkknplmcamaa
open Go.Ab
attribute [local irreducible] WeakR WeakE CallA YieldA

/-- The front bed, and the back bed, behind a put. -/
def putLF (F : List (List Id)) (n : Ndl) (X : List Id) : List (List Id) := if n.bed = 1 then withL F 1 (F.getD 0 []) else withL F n.at_.toNat X
def putLB (B : List (List Id)) (n : Ndl) (X : List Id) : List (List Id) := if n.bed = 1 then withL B n.at_.toNat X else withL B 1 (B.getD 0 [])
def putAF (es : List AV) (F : List (List Id)) (n : Ndl) (x : AV) (X : List Id) : List AV := if n.bed = 1 then withA es F 1 (getA es 0) (F.getD 0 []) else withA es F n.at_.toNat x X
def putAB (fs : List AV) (B : List (List Id)) (n : Ndl) (x : AV) (X : List Id) : List AV := if n.bed = 1 then withA fs B n.at_.toNat x X else withA fs B 1 (getA fs 0) (B.getD 0 [])

end Go.Proofs.Ytembkknplmcamaa

namespace Go.Proofs.Ytembkknplmcamaa
open Go.Ab
attribute [local irreducible] WeakR WeakE CallA YieldA

def noBeds : AV := .agg [.val (.slice none 0 0), .val (.slice none 0 0)]
def setE (F B : List (List Id)) (n : Ndl) (X : List Id) : Int := if checkL F B = 0 then (if (n.bad || badNames X) = true then 1 else if 4 < X.length then 9 else if (namesL (putLF F n X) (putLB B n X)).Nodup then 0 else 8) else checkL F B
def setA (es fs : List AV) (F B : List (List Id)) (n : Ndl) (x : AV) (X : List Id) : AV := if setE F B n X = 0 then .agg [.list 1 true (putAF es F n x X), .list 1 true (putAB fs B n x X)] else noBeds

end Go.Proofs.Ytembkknplmcamaa

namespace Go.Proofs.Ytembkknplmcamaa
open Go.Ab
attribute [local irreducible] WeakR WeakE CallA YieldA

def joinedL (F B : List (List Id)) (u v : Ndl) : List Id := if v.bed = 0 then atL F B u ++ atL F B v else atL F B v ++ atL F B u
def joinE (F B : List (List Id)) (u v : Ndl) : Int := if checkL F B = 0 then (if (u.bad || v.bad || decide (u.bed = v.bed)) = true then 1 else if atL F B u = [] then 13 else if 4 < (joinedL F B u v).length then 9 else 0) else checkL F B
def joinF (F B : List (List Id)) (u v : Ndl) : List (List Id) := putLF (putLF F u []) v (joinedL F B u v)
def joinB (F B : List (List Id)) (u v : Ndl) : List (List Id) := putLB (putLB B u []) v (joinedL F B u v)
def joinAF (es : List AV) (F B : List (List Id)) (u v : Ndl) : List AV := putAF (putAF es F u nilS []) (putLF F u []) v (frA 2 ((joinedL F B u v).map Id.av)) (joinedL F B u v)
def joinAB (fs : List AV) (F B : List (List Id)) (u v : Ndl) : List AV := putAB (putAB fs B u nilS []) (putLB B u []) v (frA 2 ((joinedL F B u v).map Id.av)) (joinedL F B u v)
def joinA (es fs : List AV) (F B : List (List Id)) (u v : Ndl) : AV := if joinE F B u v = 0 then .agg [.list 1 true (joinAF es F B u v), .list 1 true (joinAB fs F B u v)] else noBeds

end Go.Proofs.Ytembkknplmcamaa

namespace Go.Proofs.Ytembkknplmcamaa
open Go.Ab
attribute [local irreducible] WeakR WeakE CallA YieldA

def sameL (F B F' B' : List (List Id)) : Bool := decide (∀ i, i < max (max (max F.length F'.length) B.length) B'.length → F.getD i [] = F'.getD i [] ∧ B.getD i [] = B'.getD i [])
theorem getD_nil {F : List (List Id)} {i : Nat} (h : F.length ≤ i) : F.getD i [] = [] := by
  rw [List.getD_eq_getElem?_getD, List.getElem?_eq_none h]; rfl
def env19 (q2 q3 n i : Nat) : Env := (((Env.upd (fun _ => .junk) 19 (.val (.int .i64 i))).upd 18 (.val (.int .i64 n))).upd 3 (.optr q3 2 0 0)).upd 2 (.optr q2 2 0 0)

end Go.Proofs.Ytembkknplmcamaa

namespace Go.Proofs.Ytembkknplmcamaa
open Go.Ab
attribute [local irreducible] WeakR WeakE CallA YieldA

structure Put where
  needle : Nat
  many : Nat
def Put.av (p : Put) : AV := .agg [.val (.int .u8 p.needle), .val (.int .u8 p.many)]
def Put.ok (p : Put) : Prop := p.needle < 256 ∧ p.many < 256

def idn (n : Nat) : Id := ⟨((1 + n % 3 : Nat) : Int), ((n / 3 : Nat) : Int)⟩
def inner (at_ : Nat) : Nat → List (List Id) → Nat → List (List Id) × Nat
  | 0, T, n => (T, n)
  | r + 1, T, n => if (T.getD at_ []).length < 4 then inner at_ r (T.set at_ (T.getD at_ [] ++ [idn n])) (n + 1) else (T, n)
def ofN (P : List Put) : List (List Id) × Nat := (P.take 40).foldl (fun s p => inner (p.needle % 80) (p.many % 5) s.1 s.2) (List.replicate 80 [], 0)
def ofL (P : List Put) : List (List Id) := (ofN P).1

/-- What is known of a table. -/
structure TabOK (T : List (List Id)) (n : Nat) : Prop where
  len : T.length = 80
  le : ∀ l ∈ T, l.length ≤ 4
  mem : ∀ p ∈ T.flatten, ∃ j, j < n ∧ p = idn j
  nd : T.flatten.Nodup

theorem idn_inj {i j : Nat} (h : idn i = idn j) : i = j := by
  unfold idn at h
  simp only [Id.mk.injEq] at h
  omega

theorem flat_set_perm {T : List (List Id)} {i : Nat} (h : i < T.length) (x : Id) : (T.set i (T.getD i [] ++ [x])).flatten.Perm (x :: T.flatten) := by
  induction T generalizing i with
  | nil => simp at h
  | cons l T ih =>
    cases i with
    | zero =>
      simp only [List.set_cons_zero, List.flatten_cons, List.getD_cons_zero, List.append_assoc]
      exact (List.perm_middle (l₁ := l) (a := x) (l₂ := T.flatten))
    | succ i =>
      simp only [List.set_cons_succ, List.flatten_cons, List.getD_cons_succ]
      refine (List.Perm.append_left l (ih (by simpa using h))).trans ?_
      exact List.perm_middle

theorem TabOK.add {T : List (List Id)} {n at_ : Nat} (h : TabOK T n) (ha : at_ < 80) (hl : (T.getD at_ []).length < 4) : TabOK (T.set at_ (T.getD at_ [] ++ [idn n])) (n + 1) := by
  have hp := flat_set_perm (T := T) (i := at_) (by rw [h.len]; exact ha) (idn n)
  refine ⟨by simp [h.len], fun l hm => ?_, fun p hm => ?_, ?_⟩
  · rcases List.mem_or_eq_of_mem_set hm with hm | rfl
    · exact h.le l hm
    · rw [List.length_append]; show _ + 1 ≤ 4; omega
  · rcases List.mem_cons.1 (hp.mem_iff.1 hm) with rfl | hm
    · exact ⟨n, by omega, rfl⟩
    · obtain ⟨j, hj, e⟩ := h.mem p hm
      exact ⟨j, by omega, e⟩
  · rw [hp.nodup_iff, List.nodup_cons]
    refine ⟨fun hm => ?_, h.nd⟩
    obtain ⟨j, hj, e⟩ := h.mem _ hm
    have := idn_inj e
    omega

theorem inner_ok {at_ : Nat} (ha : at_ < 80) : ∀ (r : Nat) (T : List (List Id)) (n : Nat), TabOK T n → TabOK (inner at_ r T n).1 (inner at_ r T n).2 ∧ (inner at_ r T n).2 ≤ n + r
  | 0, T, n, h => ⟨h, Nat.le_refl _⟩
  | r + 1, T, n, h => by
    unfold inner
    split
    · rename_i hl
      obtain ⟨h1, h2⟩ := inner_ok ha r _ (n + 1) (h.add ha hl)
      exact ⟨h1, by omega⟩
    · exact ⟨h, by omega⟩

theorem tab0 : TabOK (List.replicate 80 []) 0 := by
  refine ⟨by simp, fun l hl => ?_, fun p hp => ?_, ?_⟩
  · rw [List.eq_of_mem_replicate hl]; simp
  · simp at hp
  · simp

theorem fold_ok : ∀ (P : List Put) (T : List (List Id)) (n : Nat), TabOK T n → TabOK (P.foldl (fun s p => inner (p.needle % 80) (p.many % 5) s.1 s.2) (T, n)).1 (P.foldl (fun s p => inner (p.needle % 80) (p.many % 5) s.1 s.2) (T, n)).2 ∧ (P.foldl (fun s p => inner (p.needle % 80) (p.many % 5) s.1 s.2) (T, n)).2 ≤ n + 5 * P.length
  | [], T, n, h => ⟨h, by simp⟩
  | p :: P, T, n, h => by
    obtain ⟨h1, h2⟩ := inner_ok (at_ := p.needle % 80) (Nat.mod_lt _ (by omega)) (p.many % 5) T n h
    obtain ⟨h3, h4⟩ := fold_ok P _ _ h1
    refine ⟨h3, ?_⟩
    have h4 := Nat.le_trans h4 (Nat.add_le_add_right h2 _)
    simp only [List.foldl_cons, List.length_cons]
    have : p.many % 5 < 5 := Nat.mod_lt _ (by omega)
    refine Nat.le_trans h4 ?_
    omega
theorem ofN_ok (P : List Put) : TabOK (ofN P).1 (ofN P).2 ∧ (ofN P).2 ≤ 200 := by
  obtain ⟨h1, h2⟩ := fold_ok (P.take 40) _ _ tab0
  refine ⟨h1, Nat.le_trans h2 ?_⟩
  have := List.length_take_le 40 P
  omega

/-- A table of slices, each with an array of its own. -/
structure TabA (fr : Nat → Prop) (O : Heap) (ts : List AV) (T : List (List Id)) : Prop where
  len : ts.length = T.length
  el : ∀ (i : Nat) (h : i < ts.length) (h' : i < T.length), (ts[i] = nilS ∧ T[i] = []) ∨ (T[i] ≠ [] ∧ ∃ id c elems, ts[i] = .own id 2 0 T[i].length c ∧ fr id ∧ O id = some (.arr 35 2 elems) ∧ elems.take T[i].length = T[i].map Id.av ∧ T[i].length ≤ elems.length)
  inj : ∀ (i j : Nat) (h : i < ts.length) (h' : j < ts.length) (id a b c d : Nat) (e f : Option Nat), ts[i] = .own id 2 a b e → ts[j] = .own id 2 c d f → i = j

theorem TabA.len1 {fr : Nat → Prop} {O : Heap} {ts : List AV} {T : List (List Id)} (h : TabA fr O ts T) (i : Nat) (h1 : i < ts.length) (h2 : i < T.length) : lenA ts[i] = some (.val (.int .i64 T[i].length)) ∧ ts[i].cells = [ts[i]] ∧ ts[i].stor = true := by
  rcases h.el i h1 h2 with ⟨e1, e2⟩ | ⟨_, id, c, elems, e, _⟩
  · rw [e1, e2]; exact ⟨rfl, rfl, rfl⟩
  · rw [e]; exact ⟨rfl, rfl, rfl⟩

theorem TabA.mono {fr : Nat → Prop} {O O' : Heap} {ts : List AV} {T : List (List Id)} (h : TabA fr O ts T) (hs : ∀ id, fr id → O' id = O id) : TabA fr O' ts T :=
  ⟨h.len, fun i h1 h2 => (h.el i h1 h2).imp id fun ⟨h3, q, c, elems, e1, e2, e3, e4, e5⟩ => ⟨h3, q, c, elems, e1, e2, by rw [hs _ e2]; exact e3, e4, e5⟩, h.inj⟩

theorem append_tab {fr : Nat → Prop} {O : Heap} {ts : List AV} {T : List (List Id)} (h : TabA fr O ts T) (hfr : ∀ id, O id = none → fr id) (i : Nat) (h1 : i < ts.length) (h2 : i < T.length) (x : Id) (hlt : T[i].length < 100) {y : AV} (hy : y = .list 2 true [x.av]) {K : AV → Heap → Prop}
    (hk : ∀ v O', v.cells = [v] → v.stor = true → (∀ q, ¬ fr q → O' q = O q) → TabA fr O' (ts.set i v) (T.set i (T[i] ++ [x])) → K v O') : AppendSem true 35 2 16 ts[i] y O K := by
  subst hy
  have key : ∀ (id : Nat) (c : Option Nat) (elems : List AV) (O' : Heap), fr id → O' id = some (.arr 35 2 elems) → elems.take (T[i].length + 1) = (T[i] ++ [x]).map Id.av → T[i].length + 1 ≤ elems.length → (∀ j (hj : j < ts.length) q a b c, j ≠ i → ts[j] = .own q 2 a b c → fr q → q ≠ id ∧ O' q = O q) →
      TabA fr O' (ts.set i (.own id 2 0 (T[i].length + 1) c)) (T.set i (T[i] ++ [x])) := by
    intro id c elems O' k1 k2 k3 k4 k5
    refine ⟨by simp [h.len], fun j hj hj' => ?_, fun j k hj hk q a b c' d e f e1 e2 => ?_⟩
    · simp only [List.length_set] at hj hj'
      rw [List.getElem_set, List.getElem_set]
      by_cases hji : i = j
      · simp only [if_pos hji]
        refine .inr ⟨by simp, id, c, elems, by rw [List.length_append]; rfl, k1, k2, by rw [List.length_append]; exact k3, by rw [List.length_append]; exact k4⟩
      · simp only [if_neg hji]
        rcases h.el j hj hj' with e | ⟨e0, q, c', el, e1, e2, e3, e4, e5⟩
        · exact .inl e
        · exact .inr ⟨e0, q, c', el, e1, e2, by rw [(k5 j hj q _ _ _ (Ne.symm hji) e1 e2).2]; exact e3, e4, e5⟩
    · simp only [List.length_set] at hj hk
      rw [List.getElem_set] at e1 e2
      have hfrq : ∀ m (hm : m < ts.length) q a b c, ts[m] = .own q 2 a b c → fr q := fun m hm q a b c em => by
        rcases h.el m hm (by rw [← h.len]; exact hm) with ⟨e, _⟩ | ⟨_, q', c', el, e1, e2, _⟩
        · rw [em] at e; cases e
        · rw [em] at e1; cases e1; exact e2
      by_cases hji : i = j
      · by_cases hki : i = k
        · omega
        · rw [if_pos hji] at e1
          rw [if_neg hki] at e2
          cases e1
          exact absurd rfl (k5 k hk id _ _ _ (Ne.symm hki) e2 (hfrq k hk _ _ _ _ e2)).1
      · rw [if_neg hji] at e1
        by_cases hki : i = k
        · rw [if_pos hki] at e2
          cases e2
          exact absurd rfl (k5 j hj id _ _ _ (Ne.symm hji) e1 (hfrq j hj _ _ _ _ e1)).1
        · rw [if_neg hki] at e2
          exact h.inj j k hj hk q a b c' d e f e1 e2
  rcases h.el i h1 h2 with ⟨e1, e2⟩ | ⟨_, id, c, elems, e1, e2, e3, e4, e5⟩
  · rw [e1]
    refine app_nil_own (el_list _ _ _ _) (fits_of (by simp) (by omega)) (by simp) fun id hid => ?_
    refine hk _ _ rfl rfl (fun q hq => Heap.upd_ne _ _ (fun e => by rw [e] at hq; exact hq (hfr id hid))) ?_
    have := key id none [x.av] (O.upd id (.arr 35 2 [x.av])) (hfr id hid) (Heap.upd_same _ _ _) (by rw [e2]; rfl) (by rw [e2]; simp) (fun j hj q a b c hji e hq => by
      have hne : q ≠ id := fun e' => by
        rcases h.el j hj (by rw [← h.len]; exact hj) with ⟨e'', _⟩ | ⟨_, q', c', el, e1', e2', e3', _⟩
        · rw [e] at e''; cases e''
        · rw [e] at e1'; cases e1'; rw [e', hid] at e3'; cases e3'
      exact ⟨hne, Heap.upd_ne _ _ hne⟩)
    rw [e2] at this ⊢
    exact this
  · rw [e1]
    refine app_move (el_list _ _ _ _) e3 e5 (fits_of (by simp; omega) (by omega)) fun id' hid' => ?_
    have hne' : id' ≠ id := fun e => by rw [e, e3] at hid'; cases hid'
    refine hk _ _ rfl rfl (fun q hq => ?_) ?_
    · have g1 : q ≠ id' := fun e => by rw [e] at hq; exact hq (hfr id' hid')
      have g2 : q ≠ id := fun e => by rw [e] at hq; exact hq e2
      rw [Heap.upd_ne _ _ g1, Heap.del_ne _ g2]
    · refine key id' none _ _ (hfr id' hid') (Heap.upd_same _ _ _) ?_ ?_ ?_
      · rw [e4, List.map_append, List.take_of_length_le (by simp)]
        rfl
      · rw [e4]; simp
      · intro j hj q a b c hji e hq
        have hq1 : q ≠ id' := fun e' => by
          rcases h.el j hj (by rw [← h.len]; exact hj) with ⟨e'', _⟩ | ⟨_, q', c', el, e1', e2', e3', _⟩
          · rw [e] at e''; cases e''
          · rw [e] at e1'; cases e1'; rw [e', hid'] at e3'; cases e3'
        have hq2 : q ≠ id := fun e' => hji (h.inj j i hj h1 id _ _ _ _ _ _ (e' ▸ e) e1)
        exact ⟨hq1, by rw [Heap.upd_ne _ _ hq1, Heap.del_ne _ hq2]⟩
end Go.Proofs.Ytembkknplmcamaa

namespace Go.Proofs.Ytembkknplmcamaa
open Go.Ab
attribute [local irreducible] WeakR WeakE CallA YieldA

/-- The same, of which the first ones are lists. -/
structure TabB (fr : Nat → Prop) (m : Nat) (O : Heap) (ts : List AV) (T : List (List Id)) : Prop where
  len : ts.length = T.length
  dn : ∀ (i : Nat) (h : i < ts.length) (h' : i < T.length), i < m → ts[i] = frA 2 (T[i].map Id.av)
  el : ∀ (i : Nat) (h : i < ts.length) (h' : i < T.length), m ≤ i → (ts[i] = nilS ∧ T[i] = []) ∨ (T[i] ≠ [] ∧ ∃ id c elems, ts[i] = .own id 2 0 T[i].length c ∧ fr id ∧ O id = some (.arr 35 2 elems) ∧ elems.take T[i].length = T[i].map Id.av ∧ T[i].length ≤ elems.length)
  inj : ∀ (i j : Nat) (h : i < ts.length) (h' : j < ts.length) (id a b c d : Nat) (e f : Option Nat), m ≤ i → m ≤ j → ts[i] = .own id 2 a b e → ts[j] = .own id 2 c d f → i = j

def tabA (T : List (List Id)) : List AV := T.map fun l => frA 2 (l.map Id.av)

theorem frz_tab {fr : Nat → Prop} {K : AV → Heap → Prop} {T : List (List Id)} : ∀ (r m : Nat) (O : Heap) (ts : List AV), m + r = T.length → TabB fr m O ts T → (∀ O2, (∀ q, ¬ fr q → O2 q = O q) → WeakR K (.agg (tabA T)) O2) → WeakR K (.agg ts) O
  | 0, m, O, ts, hm, h, hk => by
    have : ts = tabA T := List.ext_getElem (by simp [tabA, h.len]) fun i h1 h2 => by
      rw [h.dn i h1 (by rw [← h.len]; exact h1) (by rw [h.len] at h1; omega)]
      simp [tabA]
    rw [this]
    exact hk O fun _ _ => rfl
  | r + 1, m, O, ts, hm, h, hk => by
    have h1 : m < ts.length := by rw [h.len]; omega
    have h2 : m < T.length := by omega
    rcases h.el m h1 h2 (Nat.le_refl _) with ⟨e1, e2⟩ | ⟨e0, id, c, elems, e1, e2, e3, e4, e5⟩
    · refine frz_tab r (m + 1) O ts (by omega) ⟨h.len, fun i hi hi' him => ?_, fun i hi hi' him => h.el i hi hi' (by omega), fun i j hi hj id a b c d e f k1 k2 => h.inj i j hi hj id a b c d e f (by omega) (by omega)⟩ hk
      rcases Nat.lt_or_ge i m with h' | h'
      · exact h.dn i hi hi' h'
      · have : i = m := by omega
        subst this
        rw [e1, e2]
        rfl
    · have hz := Fz.own (id := id) (sz := 2) (elems := elems) 0 T[m].length c false (by omega) (fun h => by cases h)
      rw [List.drop_zero, e4] at hz
      have hf : frA 2 (T[m].map Id.av) = .list 2 false (T[m].map Id.av) := by rw [frA, if_neg (by simpa using e0)]
      rw [← hf, ← e1] at hz
      refine WeakR.freeze e3 (.agg ts (ts.set m (frA 2 (T[m].map Id.av))) (by simp) fun i x y hx hy => ?_) (frz_tab (fr := fr) r (m + 1) (O.del id) _ (by omega) ⟨by simp [h.len], fun i hi hi' him => ?_, fun i hi hi' him => ?_, fun i j hi hj q a b c d e f k1 k2 k3 k4 => ?_⟩ fun O2 hO2 => hk O2 fun q hq => ?_)
      · have hi : i < ts.length := (List.getElem?_eq_some_iff.1 hx).1
        rw [List.getElem?_set] at hy
        rw [List.getElem?_eq_getElem hi] at hx
        cases hx
        by_cases him : m = i
        · subst him
          rw [if_pos rfl, if_pos h1] at hy
          cases hy
          exact hz
        · rw [if_neg him, List.getElem?_eq_getElem hi] at hy
          cases hy
          exact .same _
      · rw [List.getElem_set]
        split
        · rename_i e; subst e; rfl
        · exact h.dn i (by simpa using hi) hi' (by omega)
      · simp only [List.length_set] at hi
        rw [List.getElem_set, if_neg (by omega)]
        refine (h.el i hi hi' (by omega)).imp (fun x => x) fun ⟨k0, q, c', el, k1, k2, k3, k4, k5⟩ => ⟨k0, q, c', el, k1, k2, ?_, k4, k5⟩
        have hne : q ≠ id := fun e' => by
          have := h.inj i m hi h1 id _ _ _ _ _ _ (by omega) (Nat.le_refl _) (e' ▸ k1) e1
          omega
        rw [Heap.del_ne _ hne]; exact k3
      · simp only [List.length_set] at hi hj
        rw [List.getElem_set, if_neg (by omega)] at k3 k4
        exact h.inj i j hi hj q a b c d e f (by omega) (by omega) k3 k4
      · have hne : q ≠ id := fun e' => hq (e' ▸ e2)
        rw [hO2 q hq, Heap.del_ne _ hne]

theorem TabA.frz {fr : Nat → Prop} {K : AV → Heap → Prop} {T : List (List Id)} {O : Heap} {ts : List AV} (h : TabA fr O ts T) (hk : ∀ O2, (∀ q, ¬ fr q → O2 q = O q) → WeakR K (.agg (tabA T)) O2) : WeakR K (.agg ts) O :=
  frz_tab T.length 0 O ts (by omega) ⟨h.len, fun i _ _ h => by omega, fun i h1 h2 _ => h.el i h1 h2, fun i j h1 h2 id a b c d e f _ _ => h.inj i j h1 h2 id a b c d e f⟩ hk

theorem tabA_get (T : List (List Id)) (i : Nat) (h : i < T.length) : (tabA T)[i]? = some (frA 2 (T[i].map Id.av)) := by
  unfold tabA
  rw [List.getElem?_map, List.getElem?_eq_getElem h]
  rfl

def env9 (s : AV) (q2 q3 n i : Nat) : Env := ((((Env.upd (fun _ => .junk) 5 (.val (.int .i64 i))).upd 4 (.val (.int .i64 n))).upd 3 (.optr q3 80 0 0)).upd 2 (.optr q2 80 0 0)).upd 0 s
def env9b (s : AV) (q2 q3 n i at_ k : Nat) : Env := ((((((Env.upd (fun _ => .junk) 7 (.val (.int .i64 k))).upd 6 (.val (.int .u8 at_))).upd 5 (.val (.int .i64 i))).upd 4 (.val (.int .i64 n))).upd 3 (.optr q3 80 0 0)).upd 2 (.optr q2 80 0 0)).upd 0 s

/-- The state of the making of a table. -/
structure St9 (O O' : Heap) (q2 q3 : Nat) (ts : List AV) (T : List (List Id)) (n : Nat) : Prop where
  ok : TabOK T n
  nn : n ≤ 1000
  h2 : O' q2 = some (.arr 62 80 [.agg (List.replicate 80 nilS)])
  h3 : O' q3 = some (.arr 62 80 [.agg ts])
  sub : O.sub O'
  tab : TabA (fun id => O id = none ∧ id ≠ q2 ∧ id ≠ q3) O' ts T

set_option maxHeartbeats 4000000 in
theorem of_ok (s : AV) (P : List Put) (hs : IsL 2 s (P.map Put.av)) (hP : ∀ p ∈ P, p.ok) : PureA Try.prog 16 [s] (.agg (tabA (ofL P))) := by
  intro O
  have h1 := hs.len
  rw [List.length_map] at h1
  refine k16.call mix ?_
  unfold c16
  (repeat' first
    | simp (contextual := true) (maxSteps := 4000000) only [fwc, fwe, fww, reduceIte, ↓reduceIte, Nat.reduceAdd, Nat.reduceLeDiff, Nat.reduceEqDiff, Nat.reduceLT, Nat.reduceSub, reduceCtorEq, Int.reduceEq, Int.reduceLT, Int.reduceLE, Int.reduceNeg, Int.reduceToNat, Int.reduceAdd, Int.reduceSub, Nat.reduceMul, *]
    | (refine seqK_now ?_)
    | (refine retK_now ?_)
    | (refine retK_now' ?_)
    | (intro q hq)
    | (refine cond_intro (fun hc => ?_) (fun hc => ?_)))
  rename_i q2 hq2
  revert q
  intro q3 hq3
  have hO3 : O q3 = none := hq3.2.2
  obtain ⟨a1, a2, _⟩ := hq3
  obtain ⟨fin, hfin⟩ : ∃ X, ofN P = X := ⟨_, rfl⟩
  let step : List (List Id) × Nat → Put → List (List Id) × Nat := fun s p => inner (p.needle % 80) (p.many % 5) s.1 s.2
  obtain ⟨I, hI⟩ := hideI (fun m e O' => ∃ (i : Nat) (ts : List AV) (T : List (List Id)) (n : Nat), i ≤ min P.length 40 ∧ m = min P.length 40 - i ∧ n ≤ 5 * i ∧ ((P.take 40).drop i).foldl step (T, n) = fin ∧ St9 O O' q2 q3 ts T n ∧ e = env9 s q2 q3 n i)
  have hmem : ∀ p ∈ P, p.ok := hP
  replace hmem := (show Aside _ from hmem)
  clear hP
  have hst0 : St9 O ((O.upd q2 (.arr 62 80 [.agg (List.replicate 80 nilS)])).upd q3 (.arr 62 80 [.agg (List.replicate 80 nilS)])) q2 q3 (List.replicate 80 nilS) (List.replicate 80 []) 0 :=
    ⟨tab0, by omega, by rw [Heap.upd_ne _ _ a2, Heap.upd_same], Heap.upd_same _ _ _, sub_upd hO3 (sub_upd hq2 (Heap.sub_refl _)),
      ⟨by rw [List.length_replicate, List.length_replicate], fun i h h' => .inl ⟨by rw [List.getElem_replicate], by rw [List.getElem_replicate]⟩, fun i j h h' id a b c d e f k1 k2 => by rw [List.getElem_replicate] at k1; cases k1⟩⟩
  refine cmd_loop I (min P.length 40) (by
    rw [hI.out]
    exact ⟨0, _, _, 0, by omega, rfl, by omega, hfin, hst0, rfl⟩) ?_
  clear hst0
  intro m e O' hh
  rw [hI.out] at hh
  obtain ⟨i, ts, T, n, h3, rfl, hn, hfd, hst, rfl⟩ := hh
  unfold env9
  have d2 : decide ((i : Int) < 40) = decide (i < 40) := decide_eq_decide.2 (by omega)
  by_cases hi : i < P.length ∧ i < 40
  · obtain ⟨hi1, hi2⟩ := hi
    have d3 : decide (i < P.length) = true := decide_eq_true hi1
    have d4 : decide (i < 40) = true := decide_eq_true hi2
    have hia := hs.ia (i := i) (by rw [List.length_map]; exact hi1)
    rw [List.getElem_map] at hia
    have hok := hmem.out _ (List.getElem_mem hi1)
    have hdr : (P.take 40).drop i = P[i] :: (P.take 40).drop (i + 1) := by
      rw [List.drop_eq_getElem_cons (by simp; omega)]
      simp
    rw [hdr, List.foldl_cons] at hfd
    generalize P[i] = p at hia hok hfd
    clear hdr
    rw [show p.av = .agg [.val (.int .u8 p.needle), .val (.int .u8 p.many)] from rfl] at hia
    obtain ⟨hk1, hk2⟩ := hok
    have hfd : ((P.take 40).drop (i + 1)).foldl step (inner (p.needle % 80) (p.many % 5) T n) = fin := hfd
    have r1 : Int.tmod (p.needle : Int) 80 = ((p.needle % 80 : Nat) : Int) := by rw [Int.tmod_eq_emod_of_nonneg (by omega)]; omega
    have r2 : Int.tmod (p.many : Int) 5 = ((p.many % 5 : Nat) : Int) := by rw [Int.tmod_eq_emod_of_nonneg (by omega)]; omega
    have hc5 : p.many % 5 < 5 := Nat.mod_lt _ (by omega)
    have ha80 : p.needle % 80 < 80 := Nat.mod_lt _ (by omega)
    obtain ⟨at_, hat⟩ : ∃ a, p.needle % 80 = a := ⟨_, rfl⟩
    obtain ⟨c, hcc⟩ : ∃ a, p.many % 5 = a := ⟨_, rfl⟩
    rw [hat] at r1 hfd ha80
    rw [hcc] at r2 hfd hc5
    clear hat hcc
    have hwi : i < 4611686018427387904 := by omega
    replace hfd := (show Aside _ from hfd)
    replace hst := (show Aside _ from hst)
    (repeat' first
    | simp (contextual := true) (maxSteps := 4000000) only [fwc, fwe, fww, reduceIte, ↓reduceIte, Nat.reduceAdd, Nat.reduceLeDiff, Nat.reduceEqDiff, Nat.reduceLT, Nat.reduceSub, reduceCtorEq, Int.reduceEq, Int.reduceLT, Int.reduceLE, Int.reduceNeg, Int.reduceToNat, Int.reduceAdd, Int.reduceSub, Nat.reduceMul, ilt_nat, part_cell, *]
    | (refine seqK_now ?_)
    | (refine retK_now ?_)
    | (refine retK_now' ?_)
    | (intro q hq)
    | (refine cond_intro (fun hc => ?_) (fun hc => ?_)))
    obtain ⟨I2, hI2⟩ := hideI (fun m e O' => ∃ (k : Nat) (ts : List AV) (T2 : List (List Id)) (n2 : Nat), k ≤ c ∧ m = c - k ∧ n2 ≤ 5 * i + k ∧ inner at_ (c - k) T2 n2 = inner at_ c T n ∧ St9 O O' q2 q3 ts T2 n2 ∧ e = env9b s q2 q3 n2 i at_ k)
    refine cmd_loop I2 c (by
      rw [hI2.out]
      exact ⟨0, ts, T, n, by omega, rfl, by omega, rfl, hst.out, rfl⟩) ?_
    clear hst
    intro m e O' hh
    rw [hI2.out] at hh
    obtain ⟨k, ts, T2, n2, h4, rfl, hn2, hin, hst, rfl⟩ := hh
    unfold env9b
    have hokt := hst.ok
    have hT : at_ < T2.length := by rw [hokt.len]; exact ha80
    have hts : at_ < ts.length := by rw [hst.tab.len]; exact hT
    obtain ⟨v1, v2, v3⟩ := hst.tab.len1 at_ hts hT
    have hq3 := hst.h3
    have hge : ts[at_]? = some ts[at_] := List.getElem?_eq_getElem hts
    have hgd : T2.getD at_ [] = T2[at_] := by rw [List.getD_eq_getElem?_getD, List.getElem?_eq_getElem hT]; rfl
    have hix : indexPtrA 80 1 false (at_ : Int) (.optr q3 80 0 0) = some (.optr q3 80 0 at_) := by
      rw [ixp_optr, if_pos (by omega)]
      simp
    have hw4 : IntKind.i64.wrap (c : Int) = c := wrap_nat (by omega)
    have hle80 : at_ + 1 ≤ 80 := by omega
    by_cases hk : k < c
    · have e1 : decide (k < c) = true := decide_eq_true hk
      have e2 : decide ((T2[at_].length : Int) < 4) = decide (T2[at_].length < 4) := decide_eq_decide.2 (by omega)
      by_cases hl4 : T2[at_].length < 4
      · have e3 : decide (T2[at_].length < 4) = true := decide_eq_true hl4
        have u1 : Int.tmod (n2 : Int) 3 = ((n2 % 3 : Nat) : Int) := by rw [Int.tmod_eq_emod_of_nonneg (by omega)]; omega
        have u2 : IntKind.u8.wrap ((n2 % 3 : Nat) : Int) = ((n2 % 3 : Nat) : Int) := wrap_u8 (by omega) (by omega)
        have u3 : IntKind.u8.wrap (1 + ((n2 % 3 : Nat) : Int)) = ((1 + n2 % 3 : Nat) : Int) := by rw [wrap_u8 (by omega) (by omega)]; omega
        have u4 : IntKind.i64.wrap (Int.tdiv (n2 : Int) 3) = ((n2 / 3 : Nat) : Int) := by rw [Int.tdiv_eq_ediv_of_nonneg (by omega), wrap_i64 (by omega) (by omega)]; omega
        have htab := hst.tab
        have hh2 := hst.h2
        have hsub := hst.sub
        replace hst := (show Aside _ from hst)
        replace hl4 := (show Aside _ from hl4)
        replace hin := (show Aside _ from hin)
        have hwn : n2 < 4611686018427387904 := by omega
        have hwk : k < 4611686018427387904 := by omega
        have hle1 : at_ + 1 ≤ ts.length := hts
        (repeat' first
    | simp (contextual := true) (maxSteps := 4000000) only [fwc, fwe, fww, reduceIte, ↓reduceIte, Nat.reduceAdd, Nat.reduceLeDiff, Nat.reduceEqDiff, Nat.reduceLT, Nat.reduceSub, reduceCtorEq, Int.reduceEq, Int.reduceLT, Int.reduceLE, Int.reduceNeg, Int.reduceToNat, Int.reduceAdd, Int.reduceSub, Nat.reduceMul, ilt_nat, part_cell, *]
    | (refine seqK_now ?_)
    | (refine retK_now ?_)
    | (refine retK_now' ?_)
    | (intro q hq)
    | (refine cond_intro (fun hc => ?_) (fun hc => ?_)))
        refine append_tab htab ?_ at_ hts hT (idn n2) (by have := hl4.out; omega) rfl ?_
        · intro id hid
          show O id = none ∧ id ≠ q2 ∧ id ≠ q3
          refine ⟨?_, fun e => (by rw [e, hh2] at hid; cases hid), fun e => (by rw [e, hq3] at hid; cases hid)⟩
          cases ho : O id with
          | none => rfl
          | some o => rw [hsub _ _ ho] at hid; cases hid
        intro v O2 w1 w2 w3 w4
        have g2 := (w3 q2 (fun h => h.2.1 rfl)).trans hh2
        have g3 := (w3 q3 (fun h => h.2.2 rfl)).trans hq3
        have hsp : ts.take at_ ++ [v] ++ ts.drop (at_ + 1) = ts.set at_ v := by rw [List.set_eq_take_append_cons_drop, if_pos hts]; simp
        replace w4 := (show Aside _ from w4)
        replace w3 := (show Aside _ from w3)
        replace hsub := (show Aside _ from hsub)
        (repeat' first
    | simp (contextual := true) (maxSteps := 4000000) only [fwc, fwe, fww, reduceIte, ↓reduceIte, Nat.reduceAdd, Nat.reduceLeDiff, Nat.reduceEqDiff, Nat.reduceLT, Nat.reduceSub, reduceCtorEq, Int.reduceEq, Int.reduceLT, Int.reduceLE, Int.reduceNeg, Int.reduceToNat, Int.reduceAdd, Int.reduceSub, Nat.reduceMul, wrap_succ, and_false, *]
    | (refine seqK_now ?_)
    | (refine retK_now ?_)
    | (refine retK_now' ?_)
    | (intro q hq)
    | (refine cond_intro (fun hc => ?_) (fun hc => ?_)))
        refine loopK_now (c - (k + 1)) (by omega) ?_
        rw [hI2.out]
        refine ⟨k + 1, ts.set at_ v, T2.set at_ (T2[at_] ++ [idn n2]), n2 + 1, by omega, rfl, by omega, ?_, ?_, ?_⟩
        · rw [← hin.out, show c - k = (c - (k + 1)) + 1 by omega, inner, if_pos (by rw [hgd]; exact hl4.out), hgd]
        · refine ⟨?_, by omega, ?_, ?_, ?_, ?_⟩
          · have := hokt.add (at_ := at_) ha80 (by rw [hgd]; exact hl4.out)
            rwa [hgd] at this
          · rw [Heap.upd_ne _ _ a2]; exact g2
          · exact Heap.upd_same _ _ _
          · refine fun j o hj => ?_
            rw [Heap.upd_ne _ _ (fun e => by rw [e, hO3] at hj; cases hj), w3.out j (fun h => by rw [hj] at h; cases h.1)]
            exact hsub.out j o hj
          · exact w4.out.mono fun id hid => Heap.upd_ne _ _ hid.2.2
        · simp (contextual := true) (maxSteps := 4000000) only [fwc, fwe, fww, reduceIte, ↓reduceIte, Nat.reduceAdd, Nat.reduceLeDiff, Nat.reduceEqDiff, Nat.reduceLT, Nat.reduceSub, reduceCtorEq, Int.reduceEq, Int.reduceLT, Int.reduceLE, Int.reduceNeg, Int.reduceToNat, Int.reduceAdd, Int.reduceSub, Nat.reduceMul, env9b, wrap_succ, *]
      · have e3 : decide (T2[at_].length < 4) = false := decide_eq_false hl4
        have hfin2 : inner at_ c T n = (T2, n2) := by
          rw [← hin, show c - k = (c - (k + 1)) + 1 by omega, inner, if_neg (by rw [hgd]; exact hl4)]
        rw [hfin2] at hfd
        clear hin hfin2
        replace hst := (show Aside _ from hst)
        replace hl4 := (show Aside _ from hl4)
        have hle1 : at_ + 1 ≤ ts.length := hts
        (repeat' first
    | simp (contextual := true) (maxSteps := 4000000) only [fwc, fwe, fww, reduceIte, ↓reduceIte, Nat.reduceAdd, Nat.reduceLeDiff, Nat.reduceEqDiff, Nat.reduceLT, Nat.reduceSub, reduceCtorEq, Int.reduceEq, Int.reduceLT, Int.reduceLE, Int.reduceNeg, Int.reduceToNat, Int.reduceAdd, Int.reduceSub, Nat.reduceMul, ilt_nat, part_cell, wrap_succ, *]
    | (refine seqK_now ?_)
    | (refine retK_now ?_)
    | (refine retK_now' ?_)
    | (intro q hq)
    | (refine cond_intro (fun hc => ?_) (fun hc => ?_)))
        refine loopK_now (min P.length 40 - (i + 1)) (by omega) ?_
        rw [hI.out]
        exact ⟨i + 1, ts, T2, n2, by omega, rfl, by omega, hfd.out, hst.out, rfl⟩
    · have e1 : decide (k < c) = false := decide_eq_false hk
      have hkc : k = c := by omega
      have hfin2 : inner at_ c T n = (T2, n2) := by
        rw [← hin, show c - k = 0 by omega, inner]
      rw [hfin2] at hfd
      clear hin hfin2
      replace hkc := (show Aside _ from hkc)
      replace hst := (show Aside _ from hst)
      have hle1 : at_ + 1 ≤ ts.length := hts
      (repeat' first
    | simp (contextual := true) (maxSteps := 4000000) only [fwc, fwe, fww, reduceIte, ↓reduceIte, Nat.reduceAdd, Nat.reduceLeDiff, Nat.reduceEqDiff, Nat.reduceLT, Nat.reduceSub, reduceCtorEq, Int.reduceEq, Int.reduceLT, Int.reduceLE, Int.reduceNeg, Int.reduceToNat, Int.reduceAdd, Int.reduceSub, Nat.reduceMul, ilt_nat, part_cell, wrap_succ, *]
    | (refine seqK_now ?_)
    | (refine retK_now ?_)
    | (refine retK_now' ?_)
    | (intro q hq)
    | (refine cond_intro (fun hc => ?_) (fun hc => ?_)))
      refine loopK_now (min P.length 40 - (i + 1)) (by omega) ?_
      rw [hI.out]
      exact ⟨i + 1, ts, T2, n2, by omega, rfl, by omega, hfd.out, hst.out, rfl⟩
  · have hi4 : i = min P.length 40 := by omega
    have hnil : (P.take 40).drop i = [] := by rw [List.drop_eq_nil_iff]; simp; omega
    rw [hnil, List.foldl_nil] at hfd
    have hT : T = ofL P := by unfold ofL; rw [hfin, ← hfd]
    have hq3 := hst.h3
    have hh2 := hst.h2
    have htl : ts.length = 80 := by rw [hst.tab.len, hst.ok.len]
    have htk : ts.take 80 = ts := List.take_of_length_le (by omega)
    have hle : (80 : Nat) ≤ ts.length := by omega
    have hcond : (decide (i < P.length) && decide (i < 40)) = false := by
      cases h1 : decide (i < P.length) with
      | false => rfl
      | true =>
        cases h2 : decide (i < 40) with
        | false => rfl
        | true => exact absurd ⟨of_decide_eq_true h1, of_decide_eq_true h2⟩ hi
    replace hst := (show Aside _ from hst)
    clear hi hnil hfd
    subst hT
    replace hi4 := (show Aside _ from hi4)
    (repeat' first
    | simp (contextual := true) (maxSteps := 4000000) only [fwc, fwe, fww, reduceIte, ↓reduceIte, Nat.reduceAdd, Nat.reduceLeDiff, Nat.reduceEqDiff, Nat.reduceLT, Nat.reduceSub, reduceCtorEq, Int.reduceEq, Int.reduceLT, Int.reduceLE, Int.reduceNeg, Int.reduceToNat, Int.reduceAdd, Int.reduceSub, Nat.reduceMul, ilt_nat, part_agg, *]
    | (refine seqK_now ?_)
    | (refine retK_now ?_)
    | (refine retK_now' ?_)
    | (intro q hq)
    | (refine cond_intro (fun hc => ?_) (fun hc => ?_)))
    refine (hst.out.tab.mono (O' := O'.upd q2 (.arr 62 80 [.agg ts])) fun id hid => Heap.upd_ne _ _ hid.2.1).frz fun O2 hO2 => ?_
    refine WeakR.pure ?_ rfl
    intro j o hj
    rw [hO2 j (fun h => by rw [hj] at h; cases h.1), Heap.upd_ne _ _ (fun e => by rw [e, hq2] at hj; cases hj)]
    exact hst.out.sub j o hj
end Go.Proofs.Ytembkknplmcamaa

namespace Go.Proofs.Ytembkknplmcamaa
open Go.Ab
attribute [local irreducible] WeakR WeakE CallA YieldA

theorem trim_hi (l : List (List Id)) : ∀ (n j : Nat), trimN l n ≤ j → j < n → l.getD j [] = []
  | 0, j, _, h => by omega
  | n + 1, j, h1, h2 => by
    unfold trimN at h1
    split at h1
    · rename_i h
      rcases Nat.lt_or_ge j n with h' | h'
      · exact trim_hi l n j h1 h'
      · rw [show j = n by omega]; exact h
    · omega
theorem trim_lo (l : List (List Id)) : ∀ (n : Nat), 0 < trimN l n → l.getD (trimN l n - 1) [] ≠ []
  | 0, h => by cases h
  | n + 1, h => by
    unfold trimN at h ⊢
    split
    · rename_i h'
      rw [if_pos h'] at h
      exact trim_lo l n h
    · rename_i h'
      exact h'

/-- How long the front bed is, and the back bed. -/
def trF (T : List (List Id)) : Nat := trimN (T.take 40) 40
def trB (T : List (List Id)) : Nat := trimN (T.drop 40) 40
theorem trF_hi {T : List (List Id)} {j : Nat} (h : trF T ≤ j) (hj : j < 40) : T.getD j [] = [] := by
  have := trim_hi (T.take 40) 40 j h hj
  rw [List.getD_eq_getElem?_getD, List.getElem?_take, if_pos hj, ← List.getD_eq_getElem?_getD] at this
  exact this
theorem trF_lo {T : List (List Id)} (h : 0 < trF T) : T.getD (trF T - 1) [] ≠ [] := by
  have := trim_lo (T.take 40) 40 h
  have hle := trimN_le (T.take 40) 40
  change (T.take 40).getD (trF T - 1) [] ≠ [] at this
  change trF T ≤ 40 at hle
  rw [List.getD_eq_getElem?_getD, List.getElem?_take, if_pos (by omega), ← List.getD_eq_getElem?_getD] at this
  exact this
theorem trB_hi {T : List (List Id)} {j : Nat} (h : trB T ≤ j) (hj : j < 40) : T.getD (40 + j) [] = [] := by
  have := trim_hi (T.drop 40) 40 j h hj
  rw [List.getD_eq_getElem?_getD, List.getElem?_drop, ← List.getD_eq_getElem?_getD] at this
  exact this
theorem trB_lo {T : List (List Id)} (h : 0 < trB T) : T.getD (40 + (trB T - 1)) [] ≠ [] := by
  have := trim_lo (T.drop 40) 40 h
  change (T.drop 40).getD (trB T - 1) [] ≠ [] at this
  rw [List.getD_eq_getElem?_getD, List.getElem?_drop, ← List.getD_eq_getElem?_getD] at this
  exact this
theorem trF_le (T : List (List Id)) : trF T ≤ 40 := trimN_le _ _
theorem trB_le (T : List (List Id)) : trB T ≤ 40 := trimN_le _ _
def nAt (tr k : Nat) : Nat := if k < tr then tr else 0

def bedsF (T : List (List Id)) : List (List Id) := (List.range (trF T)).map fun i => T.getD i []
def bedsB (T : List (List Id)) : List (List Id) := (List.range (trB T)).map fun i => T.getD (40 + i) []
def stk (l : List Id) : AV := .list 2 false (l.map Id.av)
def bedA (F : List (List Id)) : AV := if F = [] then nilS else .list 1 true (F.map stk)
theorem bedA_is (F : List (List Id)) : IsB (bedA F) (F.map stk) F ∧ IsT 1 (bedA F) (F.map stk) := by
  unfold bedA
  split
  · rename_i h; subst h
    exact ⟨⟨.nil, rfl, fun i h => by simp at h⟩, .nil⟩
  · refine ⟨⟨.list, by simp, fun i h h' => ?_⟩, .list⟩
    simp only [List.getElem_map]
    exact .list

/-- A row of a bed: nil, or an array of one's own. -/
def FA (fr : Nat → Prop) (O' : Heap) (s : AV) (n : Nat) (els : List AV) : Prop := (n = 0 ∧ s = nilS ∧ els = []) ∨ (0 < n ∧ ∃ id, s = .own id 1 0 n (some n) ∧ fr id ∧ O' id = some (.arr 60 1 els) ∧ els.length = n)
theorem FA.len {fr : Nat → Prop} {O' : Heap} {s : AV} {n : Nat} {els : List AV} (h : FA fr O' s n els) : lenA s = some (.val (.int .i64 n)) ∧ s.cells = [s] ∧ s.stor = true := by
  rcases h with ⟨rfl, rfl, _⟩ | ⟨_, id, rfl, _⟩ <;> exact ⟨rfl, rfl, rfl⟩
theorem FA.mono {fr : Nat → Prop} {O' O2 : Heap} {s : AV} {n : Nat} {els : List AV} (h : FA fr O' s n els) (hs : ∀ id a b c, s = .own id 1 a b c → fr id → O' id ≠ none → O2 id = O' id) : FA fr O2 s n els :=
  h.imp (fun h => h) fun ⟨h1, id, h2, h3, h4, h5⟩ => ⟨h1, id, h2, h3, (hs id _ _ _ h2 h3 (by rw [h4]; simp)).trans h4, h5⟩
theorem FA.at_ {fr : Nat → Prop} {O' : Heap} {s : AV} {n : Nat} {els : List AV} (h : FA fr O' s n els) {id a b : Nat} {c : Option Nat} (e : s = .own id 1 a b c) : O' id ≠ none := by
  rcases h with ⟨_, e', _⟩ | ⟨_, id', e', _, h4, _⟩
  · rw [e] at e'; cases e'
  · rw [e] at e'; cases e'; rw [h4]; simp
theorem nAt_make {tr j : Nat} {x : List Id} (hi : tr ≤ j → x = []) (h : (decide (nAt tr (j + 1) = 0) && decide (0 < x.length)) = true) : nAt tr j = j + 1 := by
  simp only [Bool.and_eq_true, decide_eq_true_eq] at h
  obtain ⟨h1, h2⟩ := h
  have : j < tr := Nat.lt_of_not_le fun h => by rw [hi h] at h2; cases h2
  unfold nAt at h1 ⊢
  rw [if_pos this]
  split at h1 <;> omega
theorem nAt_keep {tr j : Nat} {x : List Id} (lo : tr = j + 1 → x ≠ []) (h : ¬ (decide (nAt tr (j + 1) = 0) && decide (0 < x.length)) = true) : nAt tr j = nAt tr (j + 1) := by
  simp only [Bool.and_eq_true, decide_eq_true_eq, not_and] at h
  unfold nAt at h ⊢
  by_cases h1 : j + 1 < tr
  · rw [if_pos h1, if_pos (by omega)]
  · rw [if_neg h1] at h ⊢
    have hx := h rfl
    by_cases h2 : tr = j + 1
    · exact absurd (List.eq_nil_of_length_eq_zero (by omega)) (lo h2)
    · rw [if_neg (by omega)]

/-- The state of the making of beds. -/
structure St10 (O O' : Heap) (q1 q2 q3 : Nat) (T : List (List Id)) (fr bk : AV) (n m : Nat) (ef eb : List AV) : Prop where
  h1 : O' q1 = some (.arr 62 80 [.agg (tabA T)])
  h2 : O' q2 = some (.arr 26 2 [noBeds])
  h3 : O' q3 = some (.arr 26 2 [.agg [fr, bk]])
  sub : O.sub O'
  f : FA (fun id => O id = none ∧ id ≠ q1 ∧ id ≠ q2 ∧ id ≠ q3) O' fr n ef
  b : FA (fun id => O id = none ∧ id ≠ q1 ∧ id ≠ q2 ∧ id ≠ q3) O' bk m eb
  ne : ∀ id a b c a' b' c', fr = .own id 1 a b c → bk = .own id 1 a' b' c' → False

def elF (G : List (List Id)) (i : Nat) : List AV := (G.map stk).take i ++ List.replicate (G.length - i) nilS
theorem elF_zero (G : List (List Id)) : elF G 0 = List.replicate G.length nilS := by simp [elF]
theorem elF_get {G : List (List Id)} {i : Nat} (h : i < G.length) : (elF G i)[i]? = some nilS := by
  unfold elF
  rw [List.getElem?_append_right (by simp; omega), List.getElem?_replicate, if_pos (by simp; omega)]
theorem elF_set {G : List (List Id)} {i : Nat} (h : i < G.length) : (elF G i).set i (stk G[i]) = elF G (i + 1) := by
  unfold elF
  rw [List.set_append_right _ _ (by simp; omega), List.take_succ_eq_append_getElem (by simpa using h), show G.length - i = (G.length - (i + 1)) + 1 by omega, List.replicate_succ]
  have : i - ((G.map stk).take i).length = 0 := by simp; omega
  rw [this, List.set_cons_zero]
  simp
theorem elF_all (G : List (List Id)) : elF G G.length = G.map stk := by
  unfold elF
  rw [Nat.sub_self, List.replicate_zero, List.append_nil, List.take_of_length_le (by simp)]

theorem frz_bed {fr : Nat → Prop} {O' : Heap} {s : AV} {n : Nat} {G : List (List Id)} (h : FA fr O' s n (elF G n)) (hn : n = G.length) : s = bedA G ∨ ∃ id els, O' id = some (.arr 60 1 els) ∧ fr id ∧ Fz id 1 els s (bedA G) ∧ ∃ a b c, s = .own id 1 a b c := by
  rcases h with ⟨rfl, rfl, _⟩ | ⟨h0, id, rfl, h1, h2, h3⟩
  · refine .inl ?_
    rw [bedA, if_pos (List.eq_nil_of_length_eq_zero hn.symm)]
  · refine .inr ⟨id, _, h2, h1, ?_, _, _, _, rfl⟩
    have hz := Fz.own (id := id) (sz := 1) (elems := elF G n) 0 n (some n) true (by omega) (fun _ => rfl)
    rw [List.drop_zero, List.take_of_length_le (by omega)] at hz
    rw [bedA, if_neg (fun e => by rw [e] at hn; simp at hn; omega), ← elF_all, ← hn]
    exact hz

def env10b (q1 q2 q3 i : Nat) : Env := (((Env.upd (fun _ => .junk) 5 (.val (.int .i64 i))).upd 3 (.optr q3 2 0 0)).upd 2 (.optr q2 2 0 0)).upd 1 (.optr q1 80 0 0)
def env10c (q1 q2 q3 i : Nat) : Env := (((Env.upd (fun _ => .junk) 6 (.val (.int .i64 i))).upd 3 (.optr q3 2 0 0)).upd 2 (.optr q2 2 0 0)).upd 1 (.optr q1 80 0 0)
def env10 (q1 q2 q3 : Nat) (z : Int) : Env := (((Env.upd (fun _ => .junk) 4 (.val (.int .i64 z))).upd 3 (.optr q3 2 0 0)).upd 2 (.optr q2 2 0 0)).upd 1 (.optr q1 80 0 0)

set_option maxHeartbeats 4000000 in
theorem beds_ok (T : List (List Id)) (hT : T.length = 80) (hs : ∀ l ∈ T, l.length ≤ 1000) : PureA Try.prog 17 [.agg (tabA T)] (.agg [bedA (bedsF T), bedA (bedsB T)]) := by
  intro O
  have htl : (tabA T).length = 80 := by simp [tabA, hT]
  have htk : (tabA T).take 80 = tabA T := List.take_of_length_le (by omega)
  have hle : (80 : Nat) ≤ (tabA T).length := by omega
  refine k17.call mix ?_
  unfold c17
  (repeat' first
    | simp (contextual := true) (maxSteps := 4000000) only [fwc, fwe, fww, reduceIte, ↓reduceIte, Nat.reduceAdd, Nat.reduceLeDiff, Nat.reduceEqDiff, Nat.reduceLT, Nat.reduceSub, reduceCtorEq, Int.reduceEq, Int.reduceLT, Int.reduceLE, Int.reduceNeg, Int.reduceToNat, Int.reduceAdd, Int.reduceSub, Nat.reduceMul, *]
    | (refine seqK_now ?_)
    | (refine retK_now ?_)
    | (refine retK_now' ?_)
    | (intro q hq)
    | (refine cond_intro (fun hc => ?_) (fun hc => ?_)))
  rename_i q1 hq1 q2 hq2
  revert q
  intro q3 hq3
  have hO2 : O q2 = none := hq2.2.2
  have hO3 : O q3 = none := hq3.2.2.2.2
  obtain ⟨a1, a2, _⟩ := hq2
  obtain ⟨a3, a4, a5, a6, _⟩ := hq3
  have hst0 : St10 O (((O.upd q1 (.arr 62 80 [.agg (tabA T)])).upd q2 (.arr 26 2 [noBeds])).upd q3 (.arr 26 2 [.agg [nilS, nilS]])) q1 q2 q3 T nilS nilS 0 0 [] [] :=
    ⟨by rw [Heap.upd_ne _ _ a6, Heap.upd_ne _ _ a2, Heap.upd_same], by rw [Heap.upd_ne _ _ a4, Heap.upd_same], Heap.upd_same _ _ _, sub_upd hO3 (sub_upd hO2 (sub_upd hq1 (Heap.sub_refl _))), .inl ⟨rfl, rfl, rfl⟩, .inl ⟨rfl, rfl, rfl⟩, fun id a b c a' b' c' h => by cases h⟩
  obtain ⟨I, hI⟩ := hideI (fun m e O' => ∃ (k : Nat) (z : Int) (fr bk : AV), k ≤ 40 ∧ z = (k : Int) - 1 ∧ m = k ∧ St10 O O' q1 q2 q3 T fr bk (nAt (trF T) k) (nAt (trB T) k) (List.replicate (nAt (trF T) k) nilS) (List.replicate (nAt (trB T) k) nilS) ∧ e = env10 q1 q2 q3 z)
  refine cmd_loop I 40 (by
    rw [hI.out]
    refine ⟨40, 39, nilS, nilS, by omega, by omega, rfl, ?_, rfl⟩
    have e1 : nAt (trF T) 40 = 0 := by unfold nAt; rw [if_neg (by have := trF_le T; omega)]
    have e2 : nAt (trB T) 40 = 0 := by unfold nAt; rw [if_neg (by have := trB_le T; omega)]
    rw [e1, e2]
    exact hst0) ?_
  clear hst0
  intro m e O' hh
  rw [hI.out] at hh
  obtain ⟨k, z, fr, bk, h3, hz, hm, hst, rfl⟩ := hh
  subst m
  unfold env10
  have d1 : decide ((0 : Int) ≤ z) = decide (1 ≤ k) := decide_eq_decide.2 (by omega)
  obtain ⟨l1, l2, l3⟩ := hst.f.len
  obtain ⟨l4, l5, l6⟩ := hst.b.len
  have hh1 := hst.h1
  have hh2 := hst.h2
  have hh3 := hst.h3
  have hsub := hst.sub
  rcases Nat.eq_zero_or_pos k with hk | hk
  · subst hk
    have hz' : z = -1 := by omega
    subst hz'
    clear hz h3
    have n1 : nAt (trF T) 0 = trF T := by unfold nAt; split <;> omega
    have n2 : nAt (trB T) 0 = trB T := by unfold nAt; split <;> omega
    rw [n1, n2] at hst
    clear l1 l4 hh1 hh2 hh3 hsub l2 l3 l5 l6 d1 n1 n2
    have hst0 : St10 O O' q1 q2 q3 T fr bk (trF T) (trB T) (elF (bedsF T) 0) (elF (bedsB T) 0) := by
      rw [elF_zero, elF_zero, show (bedsF T).length = trF T by simp [bedsF], show (bedsB T).length = trB T by simp [bedsB]]
      exact hst
    clear hst
    obtain ⟨I2, hI2⟩ := hideI (fun m e O' => ∃ i, i ≤ trF T ∧ m = trF T - i ∧ St10 O O' q1 q2 q3 T fr bk (trF T) (trB T) (elF (bedsF T) i) (elF (bedsB T) 0) ∧ e = env10b q1 q2 q3 i)
    clear hI
    replace hst0 := (show Aside _ from hst0)
    replace hs := (show Aside _ from hs)
    (repeat' first
    | simp (contextual := true) (maxSteps := 4000000) only [fwc, fwe, fww, reduceIte, ↓reduceIte, Nat.reduceAdd, Nat.reduceLeDiff, Nat.reduceEqDiff, Nat.reduceLT, Nat.reduceSub, reduceCtorEq, Int.reduceEq, Int.reduceLT, Int.reduceLE, Int.reduceNeg, Int.reduceToNat, Int.reduceAdd, Int.reduceSub, Nat.reduceMul, *]
    | (refine seqK_now ?_)
    | (refine retK_now ?_)
    | (refine retK_now' ?_)
    | (intro q hq)
    | (refine cond_intro (fun hc => ?_) (fun hc => ?_)))
    refine cmd_loop I2 (trF T) (by rw [hI2.out]; exact ⟨0, by omega, rfl, hst0.out, rfl⟩) ?_
    clear hst0
    intro m e O' hh
    rw [hI2.out] at hh
    obtain ⟨i, h3, rfl, hst, rfl⟩ := hh
    unfold env10b
    obtain ⟨l1, l2, l3⟩ := hst.f.len
    obtain ⟨l4, l5, l6⟩ := hst.b.len
    have hh1 := hst.h1
    have hh2 := hst.h2
    have hh3 := hst.h3
    by_cases hi : i < trF T
    · have hil : decide (i < trF T) = true := decide_eq_true hi
      have htr := trF_le T
      have hix1 : indexPtrA 80 1 false (i : Int) (.optr q1 80 0 0) = some (.optr q1 80 0 (i)) := by
        rw [ixp_optr, if_pos (by omega)]
        simp
        try omega
      have hw40 : IntKind.i64.wrap (40 + (i : Int)) = ((40 + i : Nat) : Int) := by rw [wrap_i64 (by omega) (by omega)]; omega
      have g1 := tabA_get T (i) (by omega)
      have hX := frA_L 2 (T[i].map Id.av)
      have t2 := hX.cells
      have hlx := hs.out T[i] (List.getElem_mem (by omega))
      have hGl : (bedsF T).length = trF T := by simp [bedsF]
      have hGi : (bedsF T)[i]'(by omega) = T[i] := by simp [bedsF, List.getElem?_eq_getElem (show i < T.length by omega)]
      have hge := elF_get (G := bedsF T) (i := i) (by omega)
      have hse := elF_set (G := bedsF T) (i := i) (by omega)
      rw [hGi] at hse
      clear hGi
      generalize T[i] = X at g1 hX t2 hlx hse
      rcases hst.f with ⟨h0, _⟩ | ⟨h0, id, hid, hfr, hob, hle2⟩
      · omega
      subst hid
      have hio : indexAddrA 1 (i : Int) (.own id 1 0 (trF T) (some (trF T))) = some (.optr id 1 i 0) := by rw [ia_onat hi, Nat.zero_add]
      have hc1 : i + 1 ≤ 80 := by omega
      have hc2 : 40 + i + 1 ≤ 80 := by omega
      have hwi : i < 4611686018427387904 := by omega
      have hel : ∀ O, elemsA O 2 (frA 2 (X.map Id.av)) = some (X.map Id.av) := fun O => hX.el O
      have hfit : fits (([] : List AV).length + (X.map Id.av).length) 16 := fits_of (by simp; omega) (by omega)
      replace hst := (show Aside _ from hst)
      replace hfr := (show Aside _ from hfr)
      (repeat' first
    | simp (contextual := true) (maxSteps := 4000000) only [fwc, fwe, fww, reduceIte, ↓reduceIte, Nat.reduceAdd, Nat.reduceLeDiff, Nat.reduceEqDiff, Nat.reduceLT, Nat.reduceSub, reduceCtorEq, Int.reduceEq, Int.reduceLT, Int.reduceLE, Int.reduceNeg, Int.reduceToNat, Int.reduceAdd, Int.reduceSub, Nat.reduceMul, part_cell, ilt_nat, *]
    | (refine seqK_now ?_)
    | (refine retK_now ?_)
    | (refine retK_now' ?_)
    | (intro q hq)
    | (refine cond_intro (fun hc => ?_) (fun hc => ?_)))
      refine drawW_append (stk X) ⟨X.map Id.av, hel _, rfl, hfit, rfl⟩ ?_
      have hsc : (stk X).cells = [stk X] := rfl
      have hss : (stk X).stor = true := rfl
      (repeat' first
    | simp (contextual := true) (maxSteps := 4000000) only [fwc, fwe, fww, reduceIte, ↓reduceIte, Nat.reduceAdd, Nat.reduceLeDiff, Nat.reduceEqDiff, Nat.reduceLT, Nat.reduceSub, reduceCtorEq, Int.reduceEq, Int.reduceLT, Int.reduceLE, Int.reduceNeg, Int.reduceToNat, Int.reduceAdd, Int.reduceSub, Nat.reduceMul, part_cell, wrap_succ, *]
    | (refine seqK_now ?_)
    | (refine retK_now ?_)
    | (refine retK_now' ?_)
    | (intro q hq)
    | (refine cond_intro (fun hc => ?_) (fun hc => ?_)))
      refine loopK_now (trF T - (i + 1)) (by omega) ?_
      rw [hI2.out]
      have y1 : q1 ≠ id := fun e => hfr.out.2.1 e.symm
      have y2 : q2 ≠ id := fun e => hfr.out.2.2.1 e.symm
      have y3 : q3 ≠ id := fun e => hfr.out.2.2.2 e.symm
      refine ⟨i + 1, by omega, rfl, ⟨?_, ?_, ?_, ?_, ?_, ?_, ?_⟩, ?_⟩
      · rw [Heap.upd_ne _ _ y1]; exact hh1
      · rw [Heap.upd_ne _ _ y2]; exact hh2
      · rw [Heap.upd_ne _ _ y3]; exact hh3
      · intro i' o ho
        rw [Heap.upd_ne _ _ (fun e => by rw [e, hfr.out.1] at ho; cases ho)]
        exact hst.out.sub i' o ho
      · refine .inr ⟨h0, id, rfl, hfr.out, Heap.upd_same _ _ _, ?_⟩
        simp only [elF, List.length_append, List.length_take, List.length_map, List.length_replicate, hGl]
        omega
      · exact hst.out.b.mono fun i' a b c e1 h h' => Heap.upd_ne _ _ (fun e => hst.out.ne id _ _ _ a b c rfl (by rw [← e]; exact e1))
      · exact hst.out.ne
      · simp (contextual := true) (maxSteps := 4000000) only [fwc, fwe, fww, reduceIte, ↓reduceIte, Nat.reduceAdd, Nat.reduceLeDiff, Nat.reduceEqDiff, Nat.reduceLT, Nat.reduceSub, reduceCtorEq, Int.reduceEq, Int.reduceLT, Int.reduceLE, Int.reduceNeg, Int.reduceToNat, Int.reduceAdd, Int.reduceSub, Nat.reduceMul, env10b, wrap_succ, *]
    · have hi' : i = trF T := by omega
      have hil : decide (i < trF T) = false := decide_eq_false hi
      obtain ⟨I3, hI3⟩ := hideI (fun m e O' => ∃ i, i ≤ trB T ∧ m = trB T - i ∧ St10 O O' q1 q2 q3 T fr bk (trF T) (trB T) (elF (bedsF T) (trF T)) (elF (bedsB T) i) ∧ e = env10c q1 q2 q3 i)
      clear hI2
      replace hi' := (show Aside _ from hi')
      replace hst := (show Aside _ from hst)
      (repeat' first
    | simp (contextual := true) (maxSteps := 4000000) only [fwc, fwe, fww, reduceIte, ↓reduceIte, Nat.reduceAdd, Nat.reduceLeDiff, Nat.reduceEqDiff, Nat.reduceLT, Nat.reduceSub, reduceCtorEq, Int.reduceEq, Int.reduceLT, Int.reduceLE, Int.reduceNeg, Int.reduceToNat, Int.reduceAdd, Int.reduceSub, Nat.reduceMul, part_cell, ilt_nat, *]
    | (refine seqK_now ?_)
    | (refine retK_now ?_)
    | (refine retK_now' ?_)
    | (intro q hq)
    | (refine cond_intro (fun hc => ?_) (fun hc => ?_)))
      refine cmd_loop I3 (trB T) (by rw [hI3.out]; exact ⟨0, by omega, rfl, by have := hst.out; rwa [hi'.out] at this, rfl⟩) ?_
      clear hst l1 l2 l3 l4 l5 l6 hh1 hh2 hh3 hil hi hi' h3
      intro m e O' hh
      rw [hI3.out] at hh
      obtain ⟨i, h3, rfl, hst, rfl⟩ := hh
      unfold env10c
      obtain ⟨l1, l2, l3⟩ := hst.f.len
      obtain ⟨l4, l5, l6⟩ := hst.b.len
      have hh1 := hst.h1
      have hh2 := hst.h2
      have hh3 := hst.h3
      by_cases hi : i < trB T
      · have hil : decide (i < trB T) = true := decide_eq_true hi
        have htr := trB_le T
        have hix1 : indexPtrA 80 1 false ((40 + i : Nat) : Int) (.optr q1 80 0 0) = some (.optr q1 80 0 (40 + i)) := by
          rw [ixp_optr, if_pos (by omega)]
          simp
          try omega
        have hw40 : IntKind.i64.wrap (40 + (i : Int)) = ((40 + i : Nat) : Int) := by rw [wrap_i64 (by omega) (by omega)]; omega
        have g1 := tabA_get T (40 + i) (by omega)
        have hX := frA_L 2 (T[40 + i].map Id.av)
        have t2 := hX.cells
        have hlx := hs.out T[40 + i] (List.getElem_mem (by omega))
        have hGl : (bedsB T).length = trB T := by simp [bedsB]
        have hGi : (bedsB T)[i]'(by omega) = T[40 + i] := by simp [bedsB, List.getElem?_eq_getElem (show 40 + i < T.length by omega)]
        have hge := elF_get (G := bedsB T) (i := i) (by omega)
        have hse := elF_set (G := bedsB T) (i := i) (by omega)
        rw [hGi] at hse
        clear hGi
        generalize T[40 + i] = X at g1 hX t2 hlx hse
        rcases hst.b with ⟨h0, _⟩ | ⟨h0, id, hid, hfr, hob, hle2⟩
        · omega
        subst hid
        have hio : indexAddrA 1 (i : Int) (.own id 1 0 (trB T) (some (trB T))) = some (.optr id 1 i 0) := by rw [ia_onat hi, Nat.zero_add]
        have hc1 : i + 1 ≤ 80 := by omega
        have hc2 : 40 + i + 1 ≤ 80 := by omega
        have hwi : i < 4611686018427387904 := by omega
        have hel : ∀ O, elemsA O 2 (frA 2 (X.map Id.av)) = some (X.map Id.av) := fun O => hX.el O
        have hfit : fits (([] : List AV).length + (X.map Id.av).length) 16 := fits_of (by simp; omega) (by omega)
        replace hst := (show Aside _ from hst)
        replace hfr := (show Aside _ from hfr)
        (repeat' first
    | simp (contextual := true) (maxSteps := 4000000) only [fwc, fwe, fww, reduceIte, ↓reduceIte, Nat.reduceAdd, Nat.reduceLeDiff, Nat.reduceEqDiff, Nat.reduceLT, Nat.reduceSub, reduceCtorEq, Int.reduceEq, Int.reduceLT, Int.reduceLE, Int.reduceNeg, Int.reduceToNat, Int.reduceAdd, Int.reduceSub, Nat.reduceMul, part_cell, ilt_nat, *]
    | (refine seqK_now ?_)
    | (refine retK_now ?_)
    | (refine retK_now' ?_)
    | (intro q hq)
    | (refine cond_intro (fun hc => ?_) (fun hc => ?_)))
        refine drawW_append (stk X) ⟨X.map Id.av, hel _, rfl, hfit, rfl⟩ ?_
        have hsc : (stk X).cells = [stk X] := rfl
        have hss : (stk X).stor = true := rfl
        (repeat' first
    | simp (contextual := true) (maxSteps := 4000000) only [fwc, fwe, fww, reduceIte, ↓reduceIte, Nat.reduceAdd, Nat.reduceLeDiff, Nat.reduceEqDiff, Nat.reduceLT, Nat.reduceSub, reduceCtorEq, Int.reduceEq, Int.reduceLT, Int.reduceLE, Int.reduceNeg, Int.reduceToNat, Int.reduceAdd, Int.reduceSub, Nat.reduceMul, part_cell, wrap_succ, *]
    | (refine seqK_now ?_)
    | (refine retK_now ?_)
    | (refine retK_now' ?_)
    | (intro q hq)
    | (refine cond_intro (fun hc => ?_) (fun hc => ?_)))
        refine loopK_now (trB T - (i + 1)) (by omega) ?_
        rw [hI3.out]
        have y1 : q1 ≠ id := fun e => hfr.out.2.1 e.symm
        have y2 : q2 ≠ id := fun e => hfr.out.2.2.1 e.symm
        have y3 : q3 ≠ id := fun e => hfr.out.2.2.2 e.symm
        refine ⟨i + 1, by omega, rfl, ⟨?_, ?_, ?_, ?_, ?_, ?_, ?_⟩, ?_⟩
        · rw [Heap.upd_ne _ _ y1]; exact hh1
        · rw [Heap.upd_ne _ _ y2]; exact hh2
        · rw [Heap.upd_ne _ _ y3]; exact hh3
        · intro i' o ho
          rw [Heap.upd_ne _ _ (fun e => by rw [e, hfr.out.1] at ho; cases ho)]
          exact hst.out.sub i' o ho
        · exact hst.out.f.mono fun i' a b c e1 h h' => Heap.upd_ne _ _ (fun e => hst.out.ne id a b c _ _ _ (by rw [← e]; exact e1) rfl)
        · refine .inr ⟨h0, id, rfl, hfr.out, Heap.upd_same _ _ _, ?_⟩
          simp only [elF, List.length_append, List.length_take, List.length_map, List.length_replicate, hGl]
          omega
        · exact hst.out.ne
        · simp (contextual := true) (maxSteps := 4000000) only [fwc, fwe, fww, reduceIte, ↓reduceIte, Nat.reduceAdd, Nat.reduceLeDiff, Nat.reduceEqDiff, Nat.reduceLT, Nat.reduceSub, reduceCtorEq, Int.reduceEq, Int.reduceLT, Int.reduceLE, Int.reduceNeg, Int.reduceToNat, Int.reduceAdd, Int.reduceSub, Nat.reduceMul, env10c, wrap_succ, *]
      · have hi' : i = trB T := by omega
        have hil : decide (i < trB T) = false := decide_eq_false hi
        replace hi' := (show Aside _ from hi')
        replace hst := (show Aside _ from hst)
        (repeat' first
    | simp (contextual := true) (maxSteps := 4000000) only [fwc, fwe, fww, reduceIte, ↓reduceIte, Nat.reduceAdd, Nat.reduceLeDiff, Nat.reduceEqDiff, Nat.reduceLT, Nat.reduceSub, reduceCtorEq, Int.reduceEq, Int.reduceLT, Int.reduceLE, Int.reduceNeg, Int.reduceToNat, Int.reduceAdd, Int.reduceSub, Nat.reduceMul, part_cell, part_agg, ilt_nat, *]
    | (refine seqK_now ?_)
    | (refine retK_now ?_)
    | (refine retK_now' ?_)
    | (intro q hq)
    | (refine cond_intro (fun hc => ?_) (fun hc => ?_)))
        have hst := hst.out
        rw [hi'.out] at hst
        have kf := frz_bed hst.f (by simp [bedsF])
        have kb := frz_bed hst.b (by simp [bedsB])
        have hsb : O.sub (O'.upd q2 (.arr 26 2 [.agg [fr, bk]])) := fun i o ho => by
          rw [Heap.upd_ne _ _ (fun e => by rw [e, hO2] at ho; cases ho)]
          exact hst.sub i o ho
        rcases kf with rfl | ⟨id1, e1, x1, x2, x3, u1, u2, u3, rfl⟩
        · rcases kb with rfl | ⟨id2, e2, y1, y2, y3, v1, v2, v3, rfl⟩
          · exact WeakR.pure hsb rfl
          · refine WeakR.freeze (r' := .agg [bedA (bedsF T), bedA (bedsB T)]) (id := id2) (by rw [Heap.upd_ne _ _ y2.2.2.1]; exact y1) (.agg _ _ rfl fun i x y hx hy => ?_) (WeakR.pure ?_ rfl)
            · match i, hx, hy with
              | 0, hx, hy => simp at hx hy; subst hx hy; exact .same _
              | 1, hx, hy => simp at hx hy; subst hx hy; exact y3
            · intro i o ho
              rw [Heap.del_ne _ (fun e => by rw [e, y2.1] at ho; cases ho)]
              exact hsb i o ho
        · refine WeakR.freeze (r' := .agg [bedA (bedsF T), bk]) (id := id1) (by rw [Heap.upd_ne _ _ x2.2.2.1]; exact x1) (.agg _ _ rfl fun i x y hx hy => ?_) ?_
          · match i, hx, hy with
            | 0, hx, hy => simp at hx hy; subst hx hy; exact x3
            | 1, hx, hy => simp at hx hy; subst hx hy; exact .same _
          have hsb2 : O.sub ((O'.upd q2 (.arr 26 2 [.agg [.own id1 1 u1 u2 u3, bk]])).del id1) := fun i o ho => by
            rw [Heap.del_ne _ (fun e => by rw [e, x2.1] at ho; cases ho)]
            exact hsb i o ho
          rcases kb with rfl | ⟨id2, e2, y1, y2, y3, v1, v2, v3, rfl⟩
          · exact WeakR.pure hsb2 rfl
          · have hne : id2 ≠ id1 := fun e => hst.ne id1 u1 u2 u3 v1 v2 v3 rfl (by rw [e])
            refine WeakR.freeze (r' := .agg [bedA (bedsF T), bedA (bedsB T)]) (id := id2) (by rw [Heap.del_ne _ hne, Heap.upd_ne _ _ y2.2.2.1]; exact y1) (.agg _ _ rfl fun i x y hx hy => ?_) (WeakR.pure ?_ rfl)
            · match i, hx, hy with
              | 0, hx, hy => simp at hx hy; subst hx hy; exact .same _
              | 1, hx, hy => simp at hx hy; subst hx hy; exact y3
            · intro i o ho
              rw [Heap.del_ne _ (fun e => by rw [e, y2.1] at ho; cases ho)]
              exact hsb2 i o ho
  · obtain ⟨j, rfl⟩ : ∃ j, k = j + 1 := ⟨k - 1, by omega⟩
    have hz' : z = (j : Int) := by omega
    subst hz'
    clear hz
    have d2 : decide (1 ≤ j + 1) = true := decide_eq_true (by omega)
    have hj : j < 40 := by omega
    have hwj : IntKind.i64.wrap ((j : Int) + 1) = ((j + 1 : Nat) : Int) := wrap_succ (by omega)
    have hwm : IntKind.i64.wrap ((j : Int) - 1) = (j : Int) - 1 := wrap_i64 (by omega) (by omega)
    have hw40 : IntKind.i64.wrap (40 + (j : Int)) = ((40 + j : Nat) : Int) := by rw [wrap_i64 (by omega) (by omega)]; omega
    have hix1 : indexPtrA 80 1 false (j : Int) (.optr q1 80 0 0) = some (.optr q1 80 0 j) := by
      rw [ixp_optr, if_pos (by omega)]
      simp
    have hix2 : indexPtrA 80 1 false ((40 + j : Nat) : Int) (.optr q1 80 0 0) = some (.optr q1 80 0 (40 + j)) := by
      rw [ixp_optr, if_pos (by omega)]
      simp
      omega
    have g1 := tabA_get T j (by omega)
    have g2 := tabA_get T (40 + j) (by omega)
    have t1 := (frA_L 2 (T[j].map Id.av)).len
    have t2 := (frA_L 2 (T[40 + j].map Id.av)).len
    rw [List.length_map] at t1 t2
    have hgF : T.getD j [] = T[j] := by rw [List.getD_eq_getElem?_getD, List.getElem?_eq_getElem (by omega)]; rfl
    have hgB : T.getD (40 + j) [] = T[40 + j] := by rw [List.getD_eq_getElem?_getD, List.getElem?_eq_getElem (by omega)]; rfl
    replace hgF := (show Aside _ from hgF)
    replace hgB := (show Aside _ from hgB)
    have hc1 : j + 1 ≤ 80 := by omega
    have hc2 : 40 + j + 1 ≤ 80 := by omega
    have p1 : decide (((nAt (trF T) (j + 1) : Nat) : Int) = 0) = decide (nAt (trF T) (j + 1) = 0) := decide_eq_decide.2 (by omega)
    have p2 : decide (((nAt (trB T) (j + 1) : Nat) : Int) = 0) = decide (nAt (trB T) (j + 1) = 0) := decide_eq_decide.2 (by omega)
    have p3 : decide ((0 : Int) < (T[j].length : Int)) = decide (0 < T[j].length) := decide_eq_decide.2 (by omega)
    have p4 : decide ((0 : Int) < (T[40 + j].length : Int)) = decide (0 < T[40 + j].length) := decide_eq_decide.2 (by omega)
    replace hst := (show Aside _ from hst)
    have hex : decide ((0 : Int) ≤ (j : Int)) = true := decide_eq_true (by omega)
    refine seq_go ?_
    refine seq_go ?_
    (repeat' first
    | simp (contextual := true) (maxSteps := 4000000) only [fwc, fwe, fww, reduceIte, ↓reduceIte, Nat.reduceAdd, Nat.reduceLeDiff, Nat.reduceEqDiff, Nat.reduceLT, Nat.reduceSub, reduceCtorEq, Int.reduceEq, Int.reduceLT, Int.reduceLE, Int.reduceNeg, Int.reduceToNat, Int.reduceAdd, Int.reduceSub, Nat.reduceMul, part_cell, *]
    | (refine retK_now ?_)
    | (refine retK_now' ?_)
    | (intro q hq)
    | (refine cond_intro (fun hc => ?_) (fun hc => ?_)))
    refine seqK_now ?_
    (repeat' first
    | simp (contextual := true) (maxSteps := 4000000) only [fwc, fwe, fww, reduceIte, ↓reduceIte, Nat.reduceAdd, Nat.reduceLeDiff, Nat.reduceEqDiff, Nat.reduceLT, Nat.reduceSub, reduceCtorEq, Int.reduceEq, Int.reduceLT, Int.reduceLE, Int.reduceNeg, Int.reduceToNat, Int.reduceAdd, Int.reduceSub, Nat.reduceMul, part_cell, *]
    | (refine retK_now ?_)
    | (refine retK_now' ?_)
    | (intro q hq)
    | (refine cond_intro (fun hc => ?_) (fun hc => ?_)))
    refine seqK_now ?_
    refine seq_go ?_
    simp only [cmd_block]
    refine seq_post (fun e1 O1 => (∃ fr', St10 O O1 q1 q2 q3 T fr' bk (nAt (trF T) j) (nAt (trB T) (j + 1)) (List.replicate (nAt (trF T) j) nilS) (List.replicate (nAt (trB T) (j + 1)) nilS)) ∧ e1 = env10 q1 q2 q3 j) ?_ ?_
    · clear hst hh1 hh2 hh3 hsub l1 l2 l3 l4 l5 l6
      intro e1 O1 hQ
      obtain ⟨⟨fr', hst⟩, rfl⟩ := hQ
      obtain ⟨l1, l2, l3⟩ := hst.f.len
      obtain ⟨l4, l5, l6⟩ := hst.b.len
      have hh1 := hst.h1
      have hh2 := hst.h2
      have hh3 := hst.h3
      have hsub := hst.sub
      replace hst := (show Aside _ from hst)
      unfold env10
      by_cases hmk : (decide (nAt (trB T) (j + 1) = 0) && decide (0 < T[40 + j].length)) = true
      · have hn := nAt_make (fun h => by have := trB_hi h hj; rwa [hgB.out] at this) hmk
        (repeat' first
    | simp (contextual := true) (maxSteps := 4000000) only [fwc, fwe, fww, reduceIte, ↓reduceIte, Nat.reduceAdd, Nat.reduceLeDiff, Nat.reduceEqDiff, Nat.reduceLT, Nat.reduceSub, reduceCtorEq, Int.reduceEq, Int.reduceLT, Int.reduceLE, Int.reduceNeg, Int.reduceToNat, Int.reduceAdd, Int.reduceSub, Nat.reduceMul, part_cell, *]
    | (refine seqK_now ?_)
    | (refine retK_now ?_)
    | (refine retK_now' ?_)
    | (intro q hq)
    | (refine cond_intro (fun hc => ?_) (fun hc => ?_)))
        refine make_own (j + 1) (j + 1) rfl rfl (Nat.le_refl _) (by omega) (by omega) fun id hid => ?_
        have x1 : ¬ id = q1 := fun e => by rw [e, hh1] at hid; cases hid
        have x2 : ¬ id = q2 := fun e => by rw [e, hh2] at hid; cases hid
        have x3 : ¬ id = q3 := fun e => by rw [e, hh3] at hid; cases hid
        have x4 : ¬ q1 = id := fun e => x1 e.symm
        have x5 : ¬ q2 = id := fun e => x2 e.symm
        have x6 : ¬ q3 = id := fun e => x3 e.symm
        have x7 : O id = none := by
          cases ho : O id with
          | none => rfl
          | some o => rw [hsub _ _ ho] at hid; cases hid
        replace hsub := (show Aside _ from hsub)
        replace hn := (show Aside _ from hn)
        (repeat' first
    | simp (contextual := true) (maxSteps := 4000000) only [fwc, fwe, fww, reduceIte, ↓reduceIte, Nat.reduceAdd, Nat.reduceLeDiff, Nat.reduceEqDiff, Nat.reduceLT, Nat.reduceSub, reduceCtorEq, Int.reduceEq, Int.reduceLT, Int.reduceLE, Int.reduceNeg, Int.reduceToNat, Int.reduceAdd, Int.reduceSub, Nat.reduceMul, *]
    | (refine seqK_now ?_)
    | (refine retK_now ?_)
    | (refine retK_now' ?_)
    | (intro q hq)
    | (refine cond_intro (fun hc => ?_) (fun hc => ?_)))
        refine loopK_now j (by omega) ?_
        rw [hI.out]
        refine ⟨j, _, fr', .own id 1 0 (j + 1) (some (j + 1)), by omega, rfl, rfl, ⟨?_, ?_, ?_, ?_, ?_, ?_, ?_⟩, ?_⟩
        · simp only [Heap.upd_apply, *, if_false]
        · simp only [Heap.upd_apply, *, if_false]
        · simp only [Heap.upd_apply, *, if_true]
        · intro i o ho
          rw [Heap.upd_ne _ _ (fun e => by rw [e, hO3] at ho; cases ho), Heap.upd_ne _ _ (fun e => by rw [e, x7] at ho; cases ho)]
          exact hsub.out i o ho
        · refine hst.out.f.mono fun i _ _ _ _ h h' => ?_
          rw [Heap.upd_ne _ _ h.2.2.2, Heap.upd_ne _ _ (fun e => h' (by rw [e]; exact hid))]
        · rw [hn.out]
          refine .inr ⟨by omega, id, rfl, ⟨x7, x1, x2, x3⟩, ?_, by simp⟩
          rw [Heap.upd_ne _ _ x3, Heap.upd_same]
          rfl
        · intro i a b c a' b' c' e1 e2
          cases e2
          exact hst.out.f.at_ e1 hid
        · simp (contextual := true) (maxSteps := 4000000) only [fwc, fwe, fww, reduceIte, ↓reduceIte, Nat.reduceAdd, Nat.reduceLeDiff, Nat.reduceEqDiff, Nat.reduceLT, Nat.reduceSub, reduceCtorEq, Int.reduceEq, Int.reduceLT, Int.reduceLE, Int.reduceNeg, Int.reduceToNat, Int.reduceAdd, Int.reduceSub, Nat.reduceMul, env10, *]
      · have hn := nAt_keep (fun h => by have := trB_lo (T := T) (by omega); rwa [show trB T - 1 = j by omega, hgB.out] at this) hmk
        replace hn := (show Aside _ from hn)
        have hmk' : (decide (nAt (trB T) (j + 1) = 0) && decide (0 < T[40 + j].length)) = false := by simpa using hmk
        clear hmk
        (repeat' first
    | simp (contextual := true) (maxSteps := 4000000) only [fwc, fwe, fww, reduceIte, ↓reduceIte, Nat.reduceAdd, Nat.reduceLeDiff, Nat.reduceEqDiff, Nat.reduceLT, Nat.reduceSub, reduceCtorEq, Int.reduceEq, Int.reduceLT, Int.reduceLE, Int.reduceNeg, Int.reduceToNat, Int.reduceAdd, Int.reduceSub, Nat.reduceMul, part_cell, *]
    | (refine seqK_now ?_)
    | (refine retK_now ?_)
    | (refine retK_now' ?_)
    | (intro q hq)
    | (refine cond_intro (fun hc => ?_) (fun hc => ?_)))
        refine loopK_now j (by omega) ?_
        rw [hI.out]
        refine ⟨j, _, fr', bk, by omega, rfl, rfl, ?_, ?_⟩
        · rw [hn.out]; exact hst.out
        · simp (contextual := true) (maxSteps := 4000000) only [fwc, fwe, fww, reduceIte, ↓reduceIte, Nat.reduceAdd, Nat.reduceLeDiff, Nat.reduceEqDiff, Nat.reduceLT, Nat.reduceSub, reduceCtorEq, Int.reduceEq, Int.reduceLT, Int.reduceLE, Int.reduceNeg, Int.reduceToNat, Int.reduceAdd, Int.reduceSub, Nat.reduceMul, env10, *]
    · intro F hQ
      replace hQ := (show Aside _ from hQ)
      by_cases hmk : (decide (nAt (trF T) (j + 1) = 0) && decide (0 < T[j].length)) = true
      · have hn := nAt_make (fun h => by have := trF_hi h hj; rwa [hgF.out] at this) hmk
        (repeat' first
    | simp (contextual := true) (maxSteps := 4000000) only [fwc, fwe, fww, reduceIte, ↓reduceIte, Nat.reduceAdd, Nat.reduceLeDiff, Nat.reduceEqDiff, Nat.reduceLT, Nat.reduceSub, reduceCtorEq, Int.reduceEq, Int.reduceLT, Int.reduceLE, Int.reduceNeg, Int.reduceToNat, Int.reduceAdd, Int.reduceSub, Nat.reduceMul, part_cell, *]
    | (refine seqK_now ?_)
    | (refine retK_now ?_)
    | (refine retK_now' ?_)
    | (intro q hq)
    | (refine cond_intro (fun hc => ?_) (fun hc => ?_)))
        refine make_own (j + 1) (j + 1) rfl rfl (Nat.le_refl _) (by omega) (by omega) fun id hid => ?_
        have x1 : ¬ id = q1 := fun e => by rw [e, hh1] at hid; cases hid
        have x2 : ¬ id = q2 := fun e => by rw [e, hh2] at hid; cases hid
        have x3 : ¬ id = q3 := fun e => by rw [e, hh3] at hid; cases hid
        have x4 : ¬ q1 = id := fun e => x1 e.symm
        have x5 : ¬ q2 = id := fun e => x2 e.symm
        have x6 : ¬ q3 = id := fun e => x3 e.symm
        have x7 : O id = none := by
          cases ho : O id with
          | none => rfl
          | some o => rw [hsub _ _ ho] at hid; cases hid
        replace hsub := (show Aside _ from hsub)
        replace hn := (show Aside _ from hn)
        (repeat' first
    | simp (contextual := true) (maxSteps := 4000000) only [fwc, fwe, fww, reduceIte, ↓reduceIte, Nat.reduceAdd, Nat.reduceLeDiff, Nat.reduceEqDiff, Nat.reduceLT, Nat.reduceSub, reduceCtorEq, Int.reduceEq, Int.reduceLT, Int.reduceLE, Int.reduceNeg, Int.reduceToNat, Int.reduceAdd, Int.reduceSub, Nat.reduceMul, *]
    | (refine seqK_now ?_)
    | (refine retK_now ?_)
    | (refine retK_now' ?_)
    | (intro q hq)
    | (refine cond_intro (fun hc => ?_) (fun hc => ?_)))
        refine hQ.out _ _ ⟨⟨.own id 1 0 (j + 1) (some (j + 1)), ?_, ?_, ?_, ?_, ?_, ?_, ?_⟩, ?_⟩
        · simp only [Heap.upd_apply, *, if_false]
        · simp only [Heap.upd_apply, *, if_false]
        · simp only [Heap.upd_apply, *, if_true]
        · intro i o ho
          rw [Heap.upd_ne _ _ (fun e => by rw [e, hO3] at ho; cases ho), Heap.upd_ne _ _ (fun e => by rw [e, x7] at ho; cases ho)]
          exact hsub.out i o ho
        · rw [hn.out]
          refine .inr ⟨by omega, id, rfl, ⟨x7, x1, x2, x3⟩, ?_, by simp⟩
          rw [Heap.upd_ne _ _ x3, Heap.upd_same]
          rfl
        · refine hst.out.b.mono fun i _ _ _ _ h h' => ?_
          rw [Heap.upd_ne _ _ h.2.2.2, Heap.upd_ne _ _ (fun e => h' (by rw [e]; exact hid))]
        · intro i a b c a' b' c' e1 e2
          cases e1
          exact hst.out.b.at_ e2 hid
        · simp (contextual := true) (maxSteps := 4000000) only [fwc, fwe, fww, reduceIte, ↓reduceIte, Nat.reduceAdd, Nat.reduceLeDiff, Nat.reduceEqDiff, Nat.reduceLT, Nat.reduceSub, reduceCtorEq, Int.reduceEq, Int.reduceLT, Int.reduceLE, Int.reduceNeg, Int.reduceToNat, Int.reduceAdd, Int.reduceSub, Nat.reduceMul, env10, *]
      · have hn := nAt_keep (fun h => by have := trF_lo (T := T) (by omega); rwa [show trF T - 1 = j by omega, hgF.out] at this) hmk
        replace hn := (show Aside _ from hn)
        have hmk' : (decide (nAt (trF T) (j + 1) = 0) && decide (0 < T[j].length)) = false := by simpa using hmk
        clear hmk
        (repeat' first
    | simp (contextual := true) (maxSteps := 4000000) only [fwc, fwe, fww, reduceIte, ↓reduceIte, Nat.reduceAdd, Nat.reduceLeDiff, Nat.reduceEqDiff, Nat.reduceLT, Nat.reduceSub, reduceCtorEq, Int.reduceEq, Int.reduceLT, Int.reduceLE, Int.reduceNeg, Int.reduceToNat, Int.reduceAdd, Int.reduceSub, Nat.reduceMul, part_cell, *]
    | (refine seqK_now ?_)
    | (refine retK_now ?_)
    | (refine retK_now' ?_)
    | (intro q hq)
    | (refine cond_intro (fun hc => ?_) (fun hc => ?_)))
        refine hQ.out _ _ ⟨⟨fr, ?_⟩, ?_⟩
        · rw [hn.out]; exact hst.out
        · simp (contextual := true) (maxSteps := 4000000) only [fwc, fwe, fww, reduceIte, ↓reduceIte, Nat.reduceAdd, Nat.reduceLeDiff, Nat.reduceEqDiff, Nat.reduceLT, Nat.reduceSub, reduceCtorEq, Int.reduceEq, Int.reduceLT, Int.reduceLE, Int.reduceNeg, Int.reduceToNat, Int.reduceAdd, Int.reduceSub, Nat.reduceMul, env10, *]
end Go.Proofs.Ytembkknplmcamaa

namespace Go.Proofs.Ytembkknplmcamaa
open Go.Ab
attribute [local irreducible] WeakR WeakE CallA YieldA

theorem needleL_ok (i : Nat) : (needleL i).bad = false ∧ 0 ≤ (needleL i).bed := by
  unfold needleL Ndl.bad
  simp only [Bool.or_eq_false_iff, decide_eq_false_iff_not]
  omega
/-- A table of slices. -/
structure IsTab (ts : List AV) (T : List (List Id)) : Prop where
  len : ts.length = 80
  tlen : T.length = 80
  el : ∀ (i : Nat) (h : i < ts.length) (h' : i < T.length), IsL 2 ts[i] (T[i].map Id.av)
  le : ∀ l ∈ T, l.length ≤ 1000
def diffAt (T F B : List (List Id)) (i : Nat) : Bool := decide (atL F B (needleL i) = T.getD i [])
def longN (F : List (List Id)) : Nat := if 0 < F.length ∧ F.getD (F.length - 1) [] = [] then 1 else 0
def differsL (T F B : List (List Id)) : Nat := (List.range 80).countP (fun i => !diffAt T F B i) + longN F + longN B
def env12 (q2 q3 n i : Nat) : Env := (((Env.upd (fun _ => .junk) 6 (.val (.int .i64 i))).upd 5 (.val (.int .i64 n))).upd 3 (.optr q3 2 0 0)).upd 2 (.optr q2 80 0 0)

end Go.Proofs.Ytembkknplmcamaa

namespace Go.Proofs.Ytembkknplmcamaa
open Go.Ab
attribute [local irreducible] WeakR WeakE CallA YieldA

/-- Beds as a value. -/
structure IsBeds (x : AV) (F B : List (List Id)) : Prop where
  ex : ∃ f b es fs, x = .agg [f, b] ∧ IsB f es F ∧ IsB b fs B ∧ IsT 1 f es ∧ IsT 1 b fs
  sF : Sm F
  sB : Sm B

theorem IsBeds.check {x : AV} {F B : List (List Id)} (h : IsBeds x F B) : PureA Try.prog 35 [x] (.val (.int .i64 (checkL F B))) := by
  obtain ⟨f, b, es, fs, rfl, h1, h2, _, _⟩ := h.ex
  exact Check_ok f b es fs F B h1 h2
theorem IsBeds.at_ {x : AV} {F B : List (List Id)} (h : IsBeds x F B) (n : Ndl) : ∃ r, PureA Try.prog 25 [x, n.av] r ∧ IsT 2 r ((atL F B n).map Id.av) := by
  obtain ⟨f, b, es, fs, rfl, h1, h2, _, _⟩ := h.ex
  exact ⟨_, At_ok f b es fs F B n h1 h2 h.sF h.sB, atA_T n h1 h2⟩
theorem Of_tab_ok (P : List Put) : TabOK (ofL P) (ofN P).2 := (ofN_ok P).1
theorem bedsF_sm {T : List (List Id)} (h : ∀ l ∈ T, l.length ≤ 1000) : Sm (bedsF T) := by
  refine ⟨by have := trF_le T; simp [bedsF]; omega, fun l hl => ?_⟩
  obtain ⟨i, _, rfl⟩ := List.mem_map.1 hl
  rw [List.getD_eq_getElem?_getD]
  by_cases hi : i < T.length
  · rw [List.getElem?_eq_getElem hi]; exact h _ (List.getElem_mem hi)
  · rw [List.getElem?_eq_none (by omega)]; simp
theorem bedsB_sm {T : List (List Id)} (h : ∀ l ∈ T, l.length ≤ 1000) : Sm (bedsB T) := by
  refine ⟨by have := trB_le T; simp [bedsB]; omega, fun l hl => ?_⟩
  obtain ⟨i, _, rfl⟩ := List.mem_map.1 hl
  rw [List.getD_eq_getElem?_getD]
  by_cases hi : 40 + i < T.length
  · rw [List.getElem?_eq_getElem hi]; exact h _ (List.getElem_mem hi)
  · rw [List.getElem?_eq_none (by omega)]; simp
theorem beds_is {T : List (List Id)} (h : ∀ l ∈ T, l.length ≤ 1000) : IsBeds (.agg [bedA (bedsF T), bedA (bedsB T)]) (bedsF T) (bedsB T) :=
  ⟨⟨_, _, _, _, rfl, (bedA_is _).1, (bedA_is _).1, (bedA_is _).2, (bedA_is _).2⟩, bedsF_sm h, bedsB_sm h⟩

/-- The example of the chapter. -/
def exA : Id := ⟨1, 0⟩
def exB : Id := ⟨1, 1⟩
def exC : Id := ⟨2, 0⟩
def exF : List (List Id) := [[], [exA, exB]]
def exK : List (List Id) := [[], [exC]]
def exX : AV := .agg [.list 1 true [nilS, .list 2 true [exA.av, exB.av]], .list 1 true [nilS, .list 2 true [exC.av]]]
end Go.Proofs.Ytembkknplmcamaa

namespace Go.Proofs.Ytembkknplmcamaa
open Go.Ab
attribute [local irreducible] WeakR WeakE CallA YieldA

theorem IsBeds.cells {x : AV} {F B : List (List Id)} (h : IsBeds x F B) : ∃ f b, x = .agg [f, b] ∧ f.cells = [f] ∧ b.cells = [b] ∧ f.stor = true ∧ b.stor = true ∧ lenA f = some (.val (.int .i64 F.length)) ∧ lenA b = some (.val (.int .i64 B.length)) := by
  obtain ⟨f, b, es, fs, rfl, h1, h2, _, _⟩ := h.ex
  have l1 := h1.1.len
  have l2 := h2.1.len
  rw [h1.2.1] at l1
  rw [h2.2.1] at l2
  exact ⟨f, b, rfl, h1.1.cells, h2.1.cells, h1.1.stor, h2.1.stor, l1, l2⟩

theorem upd_keep {H : Heap} {q i : Nat} {v o : AObj} (hq : H q = none) (h : H i = some o) : (H.upd q v) i = some o := by
  rw [Heap.upd_ne _ _ (fun e => by rw [e, hq] at h; cases h)]; exact h
theorem sub_new {O H : Heap} {q : Nat} {v : AObj} (hs : O.sub H) (hq : H q = none) : O.sub (H.upd q v) := fun i o hi => upd_keep hq (hs i o hi)
theorem none_of_sub {O H : Heap} {q : Nat} (hs : O.sub H) (hq : H q = none) : O q = none := by
  cases h : O q with
  | none => rfl
  | some o => rw [hs _ _ h] at hq; cases hq
theorem ne_of {H : Heap} {i q : Nat} {o : AObj} (h : H i = some o) (hq : H q = none) : ¬ i = q := fun e => by rw [e, hq] at h; cases h

def nF1 : Ndl := ⟨0, 1⟩
def nF2 : Ndl := ⟨0, 2⟩
def nB1 : Ndl := ⟨1, 1⟩
def nB2 : Ndl := ⟨1, 2⟩
def nF3 : Ndl := ⟨0, 3⟩

end Go.Proofs.Ytembkknplmcamaa

namespace Go.Proofs.Ytembkknplmcamaa
open Go.Ab
attribute [local irreducible] WeakR WeakE CallA YieldA

theorem part_of {G : List (List Id)} {tr n : Nat} (hle : tr ≤ n) (hn : G.length = n) (hi : ∀ j, tr ≤ j → j < n → G.getD j [] = []) : G = (List.range tr).map (fun i => G.getD i []) ++ List.replicate (n - tr) [] := by
  refine List.ext_getElem (by simp; omega) fun i h1 h2 => ?_
  by_cases h : i < tr
  · rw [List.getElem_append_left (by simpa using h)]
    simp [List.getD_eq_getElem?_getD, List.getElem?_eq_getElem h1]
  · rw [List.getElem_append_right (by simp; omega), List.getElem_replicate]
    have := hi i (by omega) (by omega)
    rw [List.getD_eq_getElem?_getD, List.getElem?_eq_getElem h1] at this
    exact this
theorem flat_rep (n : Nat) : (List.replicate n ([] : List Id)).flatten = [] := by
  induction n with
  | zero => rfl
  | succ n ih => rw [List.replicate_succ, List.flatten_cons, ih]; rfl

theorem bedsF_flat {T : List (List Id)} (h : T.length = 80) : (T.take 40).flatten = (bedsF T).flatten := by
  have := part_of (G := T.take 40) (tr := trF T) (n := 40) (trF_le T) (by simp [h]) (fun j h1 h2 => trim_hi _ 40 j h1 h2)
  rw [this, List.flatten_append, flat_rep, List.append_nil]
  congr 1
  unfold bedsF
  refine List.map_congr_left fun i hi => ?_
  have hi : i < trF T := List.mem_range.1 hi
  have := trF_le T
  rw [List.getD_eq_getElem?_getD, List.getElem?_take, if_pos (by omega), ← List.getD_eq_getElem?_getD]
theorem bedsB_flat {T : List (List Id)} (h : T.length = 80) : (T.drop 40).flatten = (bedsB T).flatten := by
  have := part_of (G := T.drop 40) (tr := trB T) (n := 40) (trB_le T) (by simp [h]) (fun j h1 h2 => trim_hi _ 40 j h1 h2)
  rw [this, List.flatten_append, flat_rep, List.append_nil]
  congr 1
  unfold bedsB
  refine List.map_congr_left fun i hi => ?_
  rw [List.getD_eq_getElem?_getD, List.getElem?_drop, ← List.getD_eq_getElem?_getD]
theorem bedsF_len (T : List (List Id)) : (bedsF T).length = trF T := by simp [bedsF]
theorem bedsB_len (T : List (List Id)) : (bedsB T).length = trB T := by simp [bedsB]
theorem vis_beds (T : List (List Id)) : visL (bedsF T) (bedsB T) = bedsF T ++ bedsB T := by
  have h1 := trF_le T
  have h2 := trB_le T
  unfold visL
  rw [List.take_of_length_le (by rw [bedsF_len]; exact h1), List.take_of_length_le (by rw [bedsB_len]; exact h2)]
theorem names_beds {T : List (List Id)} (h : T.length = 80) : namesL (bedsF T) (bedsB T) = T.flatten := by
  unfold namesL
  rw [vis_beds, List.flatten_append, ← bedsF_flat h, ← bedsB_flat h, ← List.flatten_append, List.take_append_drop]

theorem at_needle (F B : List (List Id)) (i : Nat) (hi : i < 80) : atL F B (needleL i) = if i < 40 then F.getD i [] else B.getD (i - 40) [] := by
  unfold atL
  rw [if_neg (by rw [(needleL_ok i).1]; simp)]
  by_cases h : i < 40
  · rw [if_pos h, if_neg (by unfold needleL; simp only; omega)]
    congr 1
    unfold needleL
    simp only
    omega
  · rw [if_neg h, if_pos (by unfold needleL; simp only; omega)]
    congr 1
    unfold needleL
    simp only
    omega
theorem idn_named {j : Nat} (h : j < 1000) : named (idn j) = true := by
  unfold named idn
  simp only [Bool.and_eq_true, decide_eq_true_eq]
  omega

/-- The beds of a table are valid. -/
theorem check_beds {T : List (List Id)} {n : Nat} (h : TabOK T n) (hn : n ≤ 1000) : checkL (bedsF T) (bedsB T) = 0 := by
  have h1 := trF_le T
  have h2 := trB_le T
  unfold checkL
  rw [if_neg, if_neg, if_neg, if_neg]
  · rw [names_beds h.len]
    simp [h.nd]
  · rw [names_beds h.len]
    unfold badNames
    simp only [List.any_eq_true, not_exists, not_and]
    intro p hp
    obtain ⟨j, hj, rfl⟩ := h.mem p hp
    simp [idn_named (show j < 1000 by omega)]
  · rw [vis_beds]
    simp only [List.any_eq_true, not_exists, not_and, decide_eq_true_eq, Nat.not_lt]
    intro l hl
    have key : ∀ i, (T.getD i []).length ≤ 4 := fun i => by
      rw [List.getD_eq_getElem?_getD]
      by_cases hi : i < T.length
      · rw [List.getElem?_eq_getElem hi]; exact h.le _ (List.getElem_mem hi)
      · rw [List.getElem?_eq_none (by omega)]; simp
    rcases List.mem_append.1 hl with hl | hl
    · obtain ⟨i, _, rfl⟩ := List.mem_map.1 hl; exact key i
    · obtain ⟨i, _, rfl⟩ := List.mem_map.1 hl; exact key _
  · rw [bedsF_len, bedsB_len]
    simp
    omega

theorem Of_ok (s : AV) (P : List Put) (hs : IsL 2 s (P.map Put.av)) (hP : ∀ p ∈ P, p.ok) : PureA Try.prog 7 [s] (.agg [bedA (bedsF (ofL P)), bedA (bedsB (ofL P))]) := by
  intro O
  have h1 := of_ok s P hs hP
  have hT := Of_tab_ok P
  have h2 := beds_ok (ofL P) hT.len (fun l hl => by have := hT.le l hl; omega)
  have c1 := (bedA_is (bedsF (ofL P))).2.isL.cells
  have c2 := (bedA_is (bedsB (ofL P))).2.isL.cells
  refine k7.call mix ?_
  unfold c7
  (repeat' first
    | simp (contextual := true) (maxSteps := 4000000) only [fwc, fwe, fww, reduceIte, ↓reduceIte, Nat.reduceAdd, Nat.reduceLeDiff, Nat.reduceEqDiff, Nat.reduceLT, Nat.reduceSub, reduceCtorEq, Int.reduceEq, Int.reduceLT, Int.reduceLE, Int.reduceNeg, Int.reduceToNat, Int.reduceAdd, Int.reduceSub, Nat.reduceMul, *]
    | (refine seqK_now ?_)
    | (refine retK_now ?_)
    | (refine retK_now' ?_)
    | (intro q hq)
    | (refine cond_intro (fun hc => ?_) (fun hc => ?_)))
  refine h1.use ?_
  (repeat' first
    | simp (contextual := true) (maxSteps := 4000000) only [fwc, fwe, fww, reduceIte, ↓reduceIte, Nat.reduceAdd, Nat.reduceLeDiff, Nat.reduceEqDiff, Nat.reduceLT, Nat.reduceSub, reduceCtorEq, Int.reduceEq, Int.reduceLT, Int.reduceLE, Int.reduceNeg, Int.reduceToNat, Int.reduceAdd, Int.reduceSub, Nat.reduceMul, *]
    | (refine seqK_now ?_)
    | (refine retK_now ?_)
    | (refine retK_now' ?_)
    | (intro q hq)
    | (refine cond_intro (fun hc => ?_) (fun hc => ?_)))
  refine h2.use ?_
  (repeat' first
    | simp (contextual := true) (maxSteps := 4000000) only [fwc, fwe, fww, reduceIte, ↓reduceIte, Nat.reduceAdd, Nat.reduceLeDiff, Nat.reduceEqDiff, Nat.reduceLT, Nat.reduceSub, reduceCtorEq, Int.reduceEq, Int.reduceLT, Int.reduceLE, Int.reduceNeg, Int.reduceToNat, Int.reduceAdd, Int.reduceSub, Nat.reduceMul, part_agg, *]
    | (refine seqK_now ?_)
    | (refine retK_now ?_)
    | (refine retK_now' ?_)
    | (intro q hq)
    | (refine cond_intro (fun hc => ?_) (fun hc => ?_)))
  refine WeakR.pure (by repeat (first | exact Heap.sub_refl _ | refine sub_upd (by simp only [*]) ?_)) ?_
  rfl
end Go.Proofs.Ytembkknplmcamaa

namespace Go.Proofs.Ytembkknplmcamaa
open Go.Ab
attribute [local irreducible] WeakR WeakE CallA YieldA

end Go.Proofs.Ytembkknplmcamaa

namespace Go.Proofs.Ytembkknplmcamaa
open Go.Ab
attribute [local irreducible] WeakR WeakE CallA YieldA

/-- All needles of beds as a table. -/
def tabOf (F B : List (List Id)) : List (List Id) := (List.range 40).map (fun i => F.getD i []) ++ (List.range 40).map (fun i => B.getD i [])
end Go.Proofs.Ytembkknplmcamaa

namespace Go.Proofs.Ytembkknplmcamaa
open Go.Ab
attribute [local irreducible] WeakR WeakE CallA YieldA

def ix (n : Ndl) : Nat := if n.bed = 1 then 40 + (n.at_.toNat - 1) else n.at_.toNat - 1
/-- A needle of the machine. -/
structure Ndl.Good (n : Ndl) : Prop where
  bad : n.bad = false
  nn : 0 ≤ n.bed
theorem Ndl.ext' (m n : Ndl) : m = n ↔ m.bed = n.bed ∧ m.at_ = n.at_ := by cases m; cases n; simp
end Go.Proofs.Ytembkknplmcamaa

namespace Go.Proofs.Ytembkknplmcamaa
open Go.Ab
attribute [local irreducible] WeakR WeakE CallA YieldA

def spotL (n : Ndl) (r : Int) : Int := if n.bed = 1 then 4 * (n.at_ + r) else 4 * n.at_ + 2
def rackOK (r : Int) : Bool := decide (-4 ≤ r) && decide (r ≤ 4)
theorem racked_ok (r : Int) : PureA Try.prog 42 [.val (.int .i64 r)] (.val (.bool (rackOK r))) := by
  intro O
  refine k42.call mix ?_
  unfold c42
  (repeat' first
    | simp (contextual := true) (maxSteps := 4000000) only [fwc, fwe, fww, reduceIte, ↓reduceIte, Nat.reduceAdd, Nat.reduceLeDiff, Nat.reduceEqDiff, Nat.reduceLT, Nat.reduceSub, reduceCtorEq, Int.reduceEq, Int.reduceLT, Int.reduceLE, Int.reduceNeg, Int.reduceToNat, Int.reduceAdd, Int.reduceSub, Nat.reduceMul, *]
    | (refine seqK_now ?_)
    | (refine retK_now ?_)
    | (refine retK_now' ?_)
    | (intro q hq)
    | (refine cond_intro (fun hc => ?_) (fun hc => ?_)))
  refine WeakR.pure (by repeat (first | exact Heap.sub_refl _ | refine sub_upd (by simp only [*]) ?_)) ?_
  unfold rackOK
  simp
theorem spot_ok (n : Ndl) (r : Int) (h1 : -1000 ≤ n.at_) (h2 : n.at_ ≤ 1000) (h3 : -1000 ≤ r) (h4 : r ≤ 1000) : PureA Try.prog 43 [n.av, .val (.int .i64 r)] (.val (.int .i64 (spotL n r))) := by
  intro O
  have w1 : IntKind.i64.wrap (n.at_ + r) = n.at_ + r := wrap_i64 (by omega) (by omega)
  have w2 : IntKind.i64.wrap (4 * (n.at_ + r)) = 4 * (n.at_ + r) := wrap_i64 (by omega) (by omega)
  have w3 : IntKind.i64.wrap (4 * n.at_) = 4 * n.at_ := wrap_i64 (by omega) (by omega)
  have w4 : IntKind.i64.wrap (4 * n.at_ + 2) = 4 * n.at_ + 2 := wrap_i64 (by omega) (by omega)
  rw [show n.av = .agg [.val (.int .u8 n.bed), .val (.int .i64 n.at_)] from rfl]
  unfold spotL
  by_cases hb : n.bed = 1
  · have d : decide (n.bed = 1) = true := decide_eq_true hb
    rw [if_pos hb]
    clear h1 h2 h3 h4
    replace hb := (show Aside _ from hb)
    refine k43.call mix ?_
    unfold c43
    (repeat' first
    | simp (contextual := true) (maxSteps := 4000000) only [fwc, fwe, fww, reduceIte, ↓reduceIte, Nat.reduceAdd, Nat.reduceLeDiff, Nat.reduceEqDiff, Nat.reduceLT, Nat.reduceSub, reduceCtorEq, Int.reduceEq, Int.reduceLT, Int.reduceLE, Int.reduceNeg, Int.reduceToNat, Int.reduceAdd, Int.reduceSub, Nat.reduceMul, part_cell, part_agg, *]
    | (refine seqK_now ?_)
    | (refine retK_now ?_)
    | (refine retK_now' ?_)
    | (intro q hq)
    | (refine cond_intro (fun hc => ?_) (fun hc => ?_)))
    refine WeakR.pure (by repeat (first | exact Heap.sub_refl _ | refine sub_upd (by simp only [*]) ?_)) ?_
    rfl
  · have d : decide (n.bed = 1) = false := decide_eq_false hb
    rw [if_neg hb]
    clear h1 h2 h3 h4
    replace hb := (show Aside _ from hb)
    refine k43.call mix ?_
    unfold c43
    (repeat' first
    | simp (contextual := true) (maxSteps := 4000000) only [fwc, fwe, fww, reduceIte, ↓reduceIte, Nat.reduceAdd, Nat.reduceLeDiff, Nat.reduceEqDiff, Nat.reduceLT, Nat.reduceSub, reduceCtorEq, Int.reduceEq, Int.reduceLT, Int.reduceLE, Int.reduceNeg, Int.reduceToNat, Int.reduceAdd, Int.reduceSub, Nat.reduceMul, part_cell, part_agg, *]
    | (refine seqK_now ?_)
    | (refine retK_now ?_)
    | (refine retK_now' ?_)
    | (intro q hq)
    | (refine cond_intro (fun hc => ?_) (fun hc => ?_)))
    refine WeakR.pure (by repeat (first | exact Heap.sub_refl _ | refine sub_upd (by simp only [*]) ?_)) ?_
    rfl
theorem Spot_ok (n : Ndl) (r : Int) : PureA Try.prog 24 [n.av, .val (.int .i64 r)] (.val (.int .i64 (if n.bad = true ∨ rackOK r = false then 0 else spotL n r))) := by
  intro O
  have hc := NdlCheck_ok n
  have hr := racked_ok r
  rw [show n.av = .agg [.val (.int .u8 n.bed), .val (.int .i64 n.at_)] from rfl] at hc ⊢
  refine k24.call mix ?_
  unfold c24
  cases hb : n.bad with
  | true =>
    rw [hb] at hc
    rw [if_pos (.inl rfl)]
    have d : decide ((1 : Int) = 0) = false := by decide
    rw [if_pos rfl] at hc
    (repeat' first
    | simp (contextual := true) (maxSteps := 4000000) only [fwc, fwe, fww, reduceIte, ↓reduceIte, Nat.reduceAdd, Nat.reduceLeDiff, Nat.reduceEqDiff, Nat.reduceLT, Nat.reduceSub, reduceCtorEq, Int.reduceEq, Int.reduceLT, Int.reduceLE, Int.reduceNeg, Int.reduceToNat, Int.reduceAdd, Int.reduceSub, Nat.reduceMul, part_cell, part_agg, *]
    | (refine seqK_now ?_)
    | (refine retK_now ?_)
    | (refine retK_now' ?_)
    | (intro q hq)
    | (refine cond_intro (fun hc => ?_) (fun hc => ?_)))
    refine hc.use ?_
    (repeat' first
    | simp (contextual := true) (maxSteps := 4000000) only [fwc, fwe, fww, reduceIte, ↓reduceIte, Nat.reduceAdd, Nat.reduceLeDiff, Nat.reduceEqDiff, Nat.reduceLT, Nat.reduceSub, reduceCtorEq, Int.reduceEq, Int.reduceLT, Int.reduceLE, Int.reduceNeg, Int.reduceToNat, Int.reduceAdd, Int.reduceSub, Nat.reduceMul, part_cell, part_agg, *]
    | (refine seqK_now ?_)
    | (refine retK_now ?_)
    | (refine retK_now' ?_)
    | (intro q hq)
    | (refine cond_intro (fun hc => ?_) (fun hc => ?_)))
    refine WeakR.pure (by repeat (first | exact Heap.sub_refl _ | refine sub_upd (by simp only [*]) ?_)) ?_
    rfl
  | false =>
    rw [hb] at hc
    rw [if_neg (by simp)] at hc
    have d : decide ((0 : Int) = 0) = true := by decide
    cases hk : rackOK r with
    | false =>
      rw [hk] at hr
      rw [if_pos (.inr rfl)]
      (repeat' first
    | simp (contextual := true) (maxSteps := 4000000) only [fwc, fwe, fww, reduceIte, ↓reduceIte, Nat.reduceAdd, Nat.reduceLeDiff, Nat.reduceEqDiff, Nat.reduceLT, Nat.reduceSub, reduceCtorEq, Int.reduceEq, Int.reduceLT, Int.reduceLE, Int.reduceNeg, Int.reduceToNat, Int.reduceAdd, Int.reduceSub, Nat.reduceMul, part_cell, part_agg, *]
    | (refine seqK_now ?_)
    | (refine retK_now ?_)
    | (refine retK_now' ?_)
    | (intro q hq)
    | (refine cond_intro (fun hc => ?_) (fun hc => ?_)))
      refine hc.use ?_
      (repeat' first
    | simp (contextual := true) (maxSteps := 4000000) only [fwc, fwe, fww, reduceIte, ↓reduceIte, Nat.reduceAdd, Nat.reduceLeDiff, Nat.reduceEqDiff, Nat.reduceLT, Nat.reduceSub, reduceCtorEq, Int.reduceEq, Int.reduceLT, Int.reduceLE, Int.reduceNeg, Int.reduceToNat, Int.reduceAdd, Int.reduceSub, Nat.reduceMul, part_cell, part_agg, *]
    | (refine seqK_now ?_)
    | (refine retK_now ?_)
    | (refine retK_now' ?_)
    | (intro q hq)
    | (refine cond_intro (fun hc => ?_) (fun hc => ?_)))
      refine hr.use ?_
      (repeat' first
    | simp (contextual := true) (maxSteps := 4000000) only [fwc, fwe, fww, reduceIte, ↓reduceIte, Nat.reduceAdd, Nat.reduceLeDiff, Nat.reduceEqDiff, Nat.reduceLT, Nat.reduceSub, reduceCtorEq, Int.reduceEq, Int.reduceLT, Int.reduceLE, Int.reduceNeg, Int.reduceToNat, Int.reduceAdd, Int.reduceSub, Nat.reduceMul, part_cell, part_agg, *]
    | (refine seqK_now ?_)
    | (refine retK_now ?_)
    | (refine retK_now' ?_)
    | (intro q hq)
    | (refine cond_intro (fun hc => ?_) (fun hc => ?_)))
      refine WeakR.pure (by repeat (first | exact Heap.sub_refl _ | refine sub_upd (by simp only [*]) ?_)) ?_
      rfl
    | true =>
      rw [hk] at hr
      rw [if_neg (by simp)]
      have hs := spot_ok n r (by unfold Ndl.bad at hb; simp at hb; omega) (by unfold Ndl.bad at hb; simp at hb; omega) (by unfold rackOK at hk; simp at hk; omega) (by unfold rackOK at hk; simp at hk; omega)
      rw [show n.av = .agg [.val (.int .u8 n.bed), .val (.int .i64 n.at_)] from rfl] at hs
      (repeat' first
    | simp (contextual := true) (maxSteps := 4000000) only [fwc, fwe, fww, reduceIte, ↓reduceIte, Nat.reduceAdd, Nat.reduceLeDiff, Nat.reduceEqDiff, Nat.reduceLT, Nat.reduceSub, reduceCtorEq, Int.reduceEq, Int.reduceLT, Int.reduceLE, Int.reduceNeg, Int.reduceToNat, Int.reduceAdd, Int.reduceSub, Nat.reduceMul, part_cell, part_agg, *]
    | (refine seqK_now ?_)
    | (refine retK_now ?_)
    | (refine retK_now' ?_)
    | (intro q hq)
    | (refine cond_intro (fun hc => ?_) (fun hc => ?_)))
      refine hc.use ?_
      (repeat' first
    | simp (contextual := true) (maxSteps := 4000000) only [fwc, fwe, fww, reduceIte, ↓reduceIte, Nat.reduceAdd, Nat.reduceLeDiff, Nat.reduceEqDiff, Nat.reduceLT, Nat.reduceSub, reduceCtorEq, Int.reduceEq, Int.reduceLT, Int.reduceLE, Int.reduceNeg, Int.reduceToNat, Int.reduceAdd, Int.reduceSub, Nat.reduceMul, part_cell, part_agg, *]
    | (refine seqK_now ?_)
    | (refine retK_now ?_)
    | (refine retK_now' ?_)
    | (intro q hq)
    | (refine cond_intro (fun hc => ?_) (fun hc => ?_)))
      refine hr.use ?_
      (repeat' first
    | simp (contextual := true) (maxSteps := 4000000) only [fwc, fwe, fww, reduceIte, ↓reduceIte, Nat.reduceAdd, Nat.reduceLeDiff, Nat.reduceEqDiff, Nat.reduceLT, Nat.reduceSub, reduceCtorEq, Int.reduceEq, Int.reduceLT, Int.reduceLE, Int.reduceNeg, Int.reduceToNat, Int.reduceAdd, Int.reduceSub, Nat.reduceMul, part_cell, part_agg, *]
    | (refine seqK_now ?_)
    | (refine retK_now ?_)
    | (refine retK_now' ?_)
    | (intro q hq)
    | (refine cond_intro (fun hc => ?_) (fun hc => ?_)))
      refine hs.use ?_
      (repeat' first
    | simp (contextual := true) (maxSteps := 4000000) only [fwc, fwe, fww, reduceIte, ↓reduceIte, Nat.reduceAdd, Nat.reduceLeDiff, Nat.reduceEqDiff, Nat.reduceLT, Nat.reduceSub, reduceCtorEq, Int.reduceEq, Int.reduceLT, Int.reduceLE, Int.reduceNeg, Int.reduceToNat, Int.reduceAdd, Int.reduceSub, Nat.reduceMul, part_cell, part_agg, *]
    | (refine seqK_now ?_)
    | (refine retK_now ?_)
    | (refine retK_now' ?_)
    | (intro q hq)
    | (refine cond_intro (fun hc => ?_) (fun hc => ?_)))
      refine WeakR.pure (by repeat (first | exact Heap.sub_refl _ | refine sub_upd (by simp only [*]) ?_)) ?_
      rfl

/-- The needle at a spot. -/
def atSpot (a r : Int) : Option Nat := (List.range 80).find? fun i => decide (spotL (needleL i) r = a)
def atN (a r : Int) : Ndl := if rackOK r = true then (match atSpot a r with | some i => needleL i | none => ⟨0, 0⟩) else ⟨0, 0⟩
def atE (a r : Int) : Int := if rackOK r = true then (match atSpot a r with | some _ => 0 | none => 7) else 11
def env62 (a r : Int) (q4 q6 j : Nat) : Env := ((((((Env.upd (fun _ => .junk) 16 (.val (.int .i64 j))).upd 15 (.val (.int .i64 2))).upd 14 (.list 1 true [.val (.int .u8 0), .val (.int .u8 1)])).upd 6 (.optr q6 2 0 0)).upd 4 (.optr q4 2 0 0)).upd 1 (.val (.int .i64 r))).upd 0 (.val (.int .i64 a))
def env62b (a r : Int) (q4 q6 j i : Nat) : Env := ((((((((Env.upd (fun _ => .junk) 20 (.val (.int .i64 i))).upd 16 (.val (.int .i64 j))).upd 15 (.val (.int .i64 2))).upd 14 (.list 1 true [.val (.int .u8 0), .val (.int .u8 1)])).upd 8 (.val (.int .u8 j))).upd 6 (.optr q6 2 0 0)).upd 4 (.optr q4 2 0 0)).upd 1 (.val (.int .i64 r))).upd 0 (.val (.int .i64 a))
theorem at_none {a r : Int} (h : ∀ i, i < 80 → spotL (needleL i) r ≠ a) : atSpot a r = none := by
  unfold atSpot
  rw [List.find?_eq_none]
  intro i hi
  simpa using h i (List.mem_range.1 hi)
theorem at_some {a r : Int} {i : Nat} (hi : i < 80) (h : ∀ j, j < i → spotL (needleL j) r ≠ a) (he : spotL (needleL i) r = a) : atSpot a r = some i := by
  unfold atSpot
  rw [List.find?_range_eq_some]
  exact ⟨by simpa using he, List.mem_range.2 hi, fun j hj => by simpa using h j hj⟩
theorem needle_lo {i : Nat} (h : i < 40) : needleL (40 * 0 + i) = ⟨0, ((i + 1 : Nat) : Int)⟩ := by
  unfold needleL
  congr 1 <;> omega
theorem needle_hi {i : Nat} (h : i < 40) : needleL (40 * 1 + i) = ⟨1, ((i + 1 : Nat) : Int)⟩ := by
  unfold needleL
  congr 1 <;> omega
set_option maxHeartbeats 4000000 in
theorem NAt_ok (a r : Int) : PureA Try.prog 27 [.val (.int .i64 a), .val (.int .i64 r)] (.tup [(atN a r).av, .val (.int .i64 (atE a r))]) := by
  intro O
  have hr := racked_ok r
  refine k27.call mix ?_
  unfold c27
  refine seq_go ?_
  (repeat' first
    | simp (contextual := true) (maxSteps := 4000000) only [fwc, fwe, fww, reduceIte, ↓reduceIte, Nat.reduceAdd, Nat.reduceLeDiff, Nat.reduceEqDiff, Nat.reduceLT, Nat.reduceSub, reduceCtorEq, Int.reduceEq, Int.reduceLT, Int.reduceLE, Int.reduceNeg, Int.reduceToNat, Int.reduceAdd, Int.reduceSub, Nat.reduceMul, part_cell, part_agg, *]
    | (refine retK_now ?_)
    | (refine retK_now' ?_)
    | (intro q hq)
    | (refine cond_intro (fun hc => ?_) (fun hc => ?_)))
  revert q
  intro q4 hq4
  refine seqK_now ?_
  refine seq_go ?_
  cases hk : rackOK r with
  | false =>
    rw [hk] at hr
    have e1 : atN a r = ⟨0, 0⟩ := by unfold atN; rw [if_neg (by simp [hk])]
    have e2 : atE a r = 11 := by unfold atE; rw [if_neg (by simp [hk])]
    rw [e1, e2]
    clear e1 e2 hk
    (repeat' first
    | simp (contextual := true) (maxSteps := 4000000) only [fwc, fwe, fww, reduceIte, ↓reduceIte, Nat.reduceAdd, Nat.reduceLeDiff, Nat.reduceEqDiff, Nat.reduceLT, Nat.reduceSub, reduceCtorEq, Int.reduceEq, Int.reduceLT, Int.reduceLE, Int.reduceNeg, Int.reduceToNat, Int.reduceAdd, Int.reduceSub, Nat.reduceMul, part_cell, part_agg, *]
    | (refine seqK_now ?_)
    | (refine retK_now ?_)
    | (refine retK_now' ?_)
    | (intro q hq)
    | (refine cond_intro (fun hc => ?_) (fun hc => ?_)))
    refine hr.use ?_
    (repeat' first
    | simp (contextual := true) (maxSteps := 4000000) only [fwc, fwe, fww, reduceIte, ↓reduceIte, Nat.reduceAdd, Nat.reduceLeDiff, Nat.reduceEqDiff, Nat.reduceLT, Nat.reduceSub, reduceCtorEq, Int.reduceEq, Int.reduceLT, Int.reduceLE, Int.reduceNeg, Int.reduceToNat, Int.reduceAdd, Int.reduceSub, Nat.reduceMul, part_cell, part_agg, *]
    | (refine seqK_now ?_)
    | (refine retK_now ?_)
    | (refine retK_now' ?_)
    | (intro q hq)
    | (refine cond_intro (fun hc => ?_) (fun hc => ?_)))
    refine WeakR.pure (by repeat (first | exact Heap.sub_refl _ | refine sub_upd (by simp only [*]) ?_)) ?_
    rfl
  | true =>
    rw [hk] at hr
    have e1 : atN a r = (match atSpot a r with | some i => needleL i | none => ⟨0, 0⟩) := by unfold atN; rw [if_pos hk]
    have e2 : atE a r = (match atSpot a r with | some _ => 0 | none => 7) := by unfold atE; rw [if_pos hk]
    rw [e1, e2]
    clear e1 e2
    have hrk : -4 ≤ r ∧ r ≤ 4 := by unfold rackOK at hk; simpa using hk
    replace hrk := (show Aside _ from hrk)
    clear hk
    refine seq_go ?_
    (repeat' first
    | simp (contextual := true) (maxSteps := 4000000) only [fwc, fwe, fww, reduceIte, ↓reduceIte, Nat.reduceAdd, Nat.reduceLeDiff, Nat.reduceEqDiff, Nat.reduceLT, Nat.reduceSub, reduceCtorEq, Int.reduceEq, Int.reduceLT, Int.reduceLE, Int.reduceNeg, Int.reduceToNat, Int.reduceAdd, Int.reduceSub, Nat.reduceMul, part_cell, part_agg, *]
    | (refine retK_now ?_)
    | (refine retK_now' ?_)
    | (intro q hq)
    | (refine cond_intro (fun hc => ?_) (fun hc => ?_)))
    refine hr.use ?_
    clear hr
    (repeat' first
    | simp (contextual := true) (maxSteps := 4000000) only [fwc, fwe, fww, reduceIte, ↓reduceIte, Nat.reduceAdd, Nat.reduceLeDiff, Nat.reduceEqDiff, Nat.reduceLT, Nat.reduceSub, reduceCtorEq, Int.reduceEq, Int.reduceLT, Int.reduceLE, Int.reduceNeg, Int.reduceToNat, Int.reduceAdd, Int.reduceSub, Nat.reduceMul, part_cell, part_agg, *]
    | (refine retK_now ?_)
    | (refine retK_now' ?_)
    | (intro q hq)
    | (refine cond_intro (fun hc => ?_) (fun hc => ?_)))
    refine seqK_now ?_
    (repeat' first
    | simp (contextual := true) (maxSteps := 4000000) only [fwc, fwe, fww, reduceIte, ↓reduceIte, Nat.reduceAdd, Nat.reduceLeDiff, Nat.reduceEqDiff, Nat.reduceLT, Nat.reduceSub, reduceCtorEq, Int.reduceEq, Int.reduceLT, Int.reduceLE, Int.reduceNeg, Int.reduceToNat, Int.reduceAdd, Int.reduceSub, Nat.reduceMul, part_cell, part_agg, *]
    | (refine retK_now ?_)
    | (refine retK_now' ?_)
    | (intro q hq)
    | (refine cond_intro (fun hc => ?_) (fun hc => ?_)))
    refine seqK_now ?_
    refine seq_go ?_
    (repeat' first
    | simp (contextual := true) (maxSteps := 4000000) only [fwc, fwe, fww, reduceIte, ↓reduceIte, Nat.reduceAdd, Nat.reduceLeDiff, Nat.reduceEqDiff, Nat.reduceLT, Nat.reduceSub, reduceCtorEq, Int.reduceEq, Int.reduceLT, Int.reduceLE, Int.reduceNeg, Int.reduceToNat, Int.reduceAdd, Int.reduceSub, Nat.reduceMul, part_cell, part_agg, *]
    | (refine retK_now ?_)
    | (refine retK_now' ?_)
    | (intro q hq)
    | (refine cond_intro (fun hc => ?_) (fun hc => ?_)))
    revert q
    intro q6 hq6
    refine seqK_now ?_
    refine seq_go ?_
    (repeat' first
    | simp (contextual := true) (maxSteps := 4000000) only [fwc, fwe, fww, reduceIte, ↓reduceIte, Nat.reduceAdd, Nat.reduceLeDiff, Nat.reduceEqDiff, Nat.reduceLT, Nat.reduceSub, reduceCtorEq, Int.reduceEq, Int.reduceLT, Int.reduceLE, Int.reduceNeg, Int.reduceToNat, Int.reduceAdd, Int.reduceSub, Nat.reduceMul, part_cell, part_agg, *]
    | (refine retK_now ?_)
    | (refine retK_now' ?_)
    | (intro q hq)
    | (refine cond_intro (fun hc => ?_) (fun hc => ?_)))
    refine seqK_now ?_
    obtain ⟨h61, h62, h63⟩ : ¬ q6 = q4 ∧ ¬ q4 = q6 ∧ O q6 = none := by simpa only [upd_none] using hq6
    clear hq6
    refine seq_post (fun e1 O1 => (∃ z : Ndl, O1 = (O.upd q4 (.arr 38 2 [.agg [.val (.int .u8 0), .val (.int .i64 0)]])).upd q6 (.arr 38 2 [z.av]) ∧ ((∃ i, atSpot a r = some i ∧ z = needleL i ∧ i < 80) ∨ (atSpot a r = none ∧ z = ⟨0, 0⟩))) ∧ e1 = (Env.upd (fun _ => .junk) 6 (.optr q6 2 0 0)).upd 4 (.optr q4 2 0 0)) ?_ ?_
    · intro e1 O1 hQ
      obtain ⟨⟨z, rfl, hz⟩, rfl⟩ := hQ
      rw [show z.av = .agg [.val (.int .u8 z.bed), .val (.int .i64 z.at_)] from rfl]
      rcases hz with ⟨i, h1, rfl, hi⟩ | ⟨h1, rfl⟩
      · have hat : decide ((needleL i).at_ = 0) = false := decide_eq_false (by unfold needleL; simp only; omega)
        rw [h1]
        simp only []
        generalize needleL i = u at hat ⊢
        (repeat' first
    | simp (contextual := true) (maxSteps := 4000000) only [fwc, fwe, fww, reduceIte, ↓reduceIte, Nat.reduceAdd, Nat.reduceLeDiff, Nat.reduceEqDiff, Nat.reduceLT, Nat.reduceSub, reduceCtorEq, Int.reduceEq, Int.reduceLT, Int.reduceLE, Int.reduceNeg, Int.reduceToNat, Int.reduceAdd, Int.reduceSub, Nat.reduceMul, part_cell, part_agg, *]
    | (refine seqK_now ?_)
    | (refine retK_now ?_)
    | (refine retK_now' ?_)
    | (intro q hq)
    | (refine cond_intro (fun hc => ?_) (fun hc => ?_)))
        refine WeakR.pure (by repeat (first | exact Heap.sub_refl _ | refine sub_upd (by simp only [*]) ?_)) ?_
        rfl
      · have hat : decide ((0 : Int) = 0) = true := by decide
        rw [h1]
        (repeat' first
    | simp (contextual := true) (maxSteps := 4000000) only [fwc, fwe, fww, reduceIte, ↓reduceIte, Nat.reduceAdd, Nat.reduceLeDiff, Nat.reduceEqDiff, Nat.reduceLT, Nat.reduceSub, reduceCtorEq, Int.reduceEq, Int.reduceLT, Int.reduceLE, Int.reduceNeg, Int.reduceToNat, Int.reduceAdd, Int.reduceSub, Nat.reduceMul, part_cell, part_agg, *]
    | (refine seqK_now ?_)
    | (refine retK_now ?_)
    | (refine retK_now' ?_)
    | (intro q hq)
    | (refine cond_intro (fun hc => ?_) (fun hc => ?_)))
        refine WeakR.pure (by repeat (first | exact Heap.sub_refl _ | refine sub_upd (by simp only [*]) ?_)) ?_
        rfl
    · intro F hF
      replace hF := (show Aside _ from hF)
      obtain ⟨I, hI⟩ := hideI (fun m e O' => ∃ j : Nat, j ≤ 2 ∧ m = 2 - j ∧ (∀ i, i < 40 * j → spotL (needleL i) r ≠ a) ∧ O' = (O.upd q4 (.arr 38 2 [.agg [.val (.int .u8 0), .val (.int .i64 0)]])).upd q6 (.arr 38 2 [.agg [.val (.int .u8 0), .val (.int .i64 0)]]) ∧ e = env62 a r q4 q6 j)
      refine seq_go ?_
      (repeat' first
    | simp (contextual := true) (maxSteps := 4000000) only [fwc, fwe, fww, reduceIte, ↓reduceIte, Nat.reduceAdd, Nat.reduceLeDiff, Nat.reduceEqDiff, Nat.reduceLT, Nat.reduceSub, reduceCtorEq, Int.reduceEq, Int.reduceLT, Int.reduceLE, Int.reduceNeg, Int.reduceToNat, Int.reduceAdd, Int.reduceSub, Nat.reduceMul, part_cell, part_agg, *]
    | (refine retK_now ?_)
    | (refine retK_now' ?_)
    | (intro q hq)
    | (refine cond_intro (fun hc => ?_) (fun hc => ?_)))
      refine seqK_now ?_
      (repeat' first
    | simp (contextual := true) (maxSteps := 4000000) only [fwc, fwe, fww, reduceIte, ↓reduceIte, Nat.reduceAdd, Nat.reduceLeDiff, Nat.reduceEqDiff, Nat.reduceLT, Nat.reduceSub, reduceCtorEq, Int.reduceEq, Int.reduceLT, Int.reduceLE, Int.reduceNeg, Int.reduceToNat, Int.reduceAdd, Int.reduceSub, Nat.reduceMul, part_cell, part_agg, *]
    | (refine retK_now ?_)
    | (refine retK_now' ?_)
    | (intro q hq)
    | (refine cond_intro (fun hc => ?_) (fun hc => ?_)))
      refine cmd_loop I 2 (by
        rw [hI.out]
        exact ⟨0, by omega, rfl, fun i hi => by omega, rfl, rfl⟩) ?_
      intro m e O' hh
      rw [hI.out] at hh
      obtain ⟨j, hj2, rfl, hlo, rfl, rfl⟩ := hh
      unfold env62
      have dj : decide ((j : Int) < 2) = decide (j < 2) := decide_eq_decide.2 (by omega)
      by_cases hj : j < 2
      · have e1 : decide (j < 2) = true := decide_eq_true hj
        have hbed : indexAddrA 1 (j : Int) (.list 1 true [.val (.int .u8 0), .val (.int .u8 1)]) = some (.ref (.val (.int .u8 (j : Int)))) := by
          match j, hj with
          | 0, _ => rfl
          | 1, _ => rfl
        have hnd : ∀ i : Nat, i < 40 → needleL (40 * j + i) = ⟨(j : Int), ((i + 1 : Nat) : Int)⟩ := fun i hi => by
          match j, hj with
          | 0, _ => exact needle_lo hi
          | 1, _ => exact needle_hi hi
        have hwj : j < 4611686018427387904 := by omega
        obtain ⟨J, hJ⟩ := hideI (fun m e O' => ∃ (i : Nat) (z : Ndl), i ≤ 40 ∧ m = 40 - i ∧ (∀ k, k < 40 * j + i → spotL (needleL k) r ≠ a) ∧ O' = (O.upd q4 (.arr 38 2 [.agg [.val (.int .u8 0), .val (.int .i64 0)]])).upd q6 (.arr 38 2 [z.av]) ∧ e = env62b a r q4 q6 j i)
        replace hlo := (show Aside _ from hlo)
        replace hnd := (show Aside _ from hnd)
        (repeat' first
    | simp (contextual := true) (maxSteps := 4000000) only [fwc, fwe, fww, reduceIte, ↓reduceIte, Nat.reduceAdd, Nat.reduceLeDiff, Nat.reduceEqDiff, Nat.reduceLT, Nat.reduceSub, reduceCtorEq, Int.reduceEq, Int.reduceLT, Int.reduceLE, Int.reduceNeg, Int.reduceToNat, Int.reduceAdd, Int.reduceSub, Nat.reduceMul, part_cell, part_agg, *]
    | (refine seqK_now ?_)
    | (refine retK_now ?_)
    | (refine retK_now' ?_)
    | (intro q hq)
    | (refine cond_intro (fun hc => ?_) (fun hc => ?_)))
        refine cmd_loop J 40 (by
          rw [hJ.out]
          exact ⟨0, ⟨0, 0⟩, by omega, rfl, fun k hk => hlo.out k (by omega), rfl, rfl⟩) ?_
        intro m e O' hh
        rw [hJ.out] at hh
        obtain ⟨i, z, hi40, rfl, hlo2, rfl, rfl⟩ := hh
        unfold env62b
        rw [show z.av = .agg [.val (.int .u8 z.bed), .val (.int .i64 z.at_)] from rfl]
        have di : decide ((i : Int) < 40) = decide (i < 40) := decide_eq_decide.2 (by omega)
        by_cases hi : i < 40
        · have e2 : decide (i < 40) = true := decide_eq_true hi
          have hwi : i < 4611686018427387904 := by omega
          have hsp := spot_ok (needleL (40 * j + i)) r (by rw [hnd.out i hi]; simp only; omega) (by rw [hnd.out i hi]; simp only; omega) (by have := hrk.out; omega) (by have := hrk.out; omega)
          have hn := hnd.out i hi
          rw [hn, show (⟨(j : Int), ((i + 1 : Nat) : Int)⟩ : Ndl).av = .agg [.val (.int .u8 (j : Int)), .val (.int .i64 ((i + 1 : Nat) : Int))] from rfl] at hsp
          replace hlo2 := (show Aside _ from hlo2)
          obtain ⟨s, hs⟩ : ∃ s, spotL ⟨(j : Int), ((i + 1 : Nat) : Int)⟩ r = s := ⟨_, rfl⟩
          rw [hs] at hsp
          rw [← hn] at hs
          replace hs := (show Aside _ from hs)
          replace hn := (show Aside _ from hn)
          by_cases hsa : s = a
          · have e3 : decide (s = a) = true := decide_eq_true hsa
            replace hsa := (show Aside _ from hsa)
            (repeat' first
    | simp (contextual := true) (maxSteps := 4000000) only [fwc, fwe, fww, reduceIte, ↓reduceIte, Nat.reduceAdd, Nat.reduceLeDiff, Nat.reduceEqDiff, Nat.reduceLT, Nat.reduceSub, reduceCtorEq, Int.reduceEq, Int.reduceLT, Int.reduceLE, Int.reduceNeg, Int.reduceToNat, Int.reduceAdd, Int.reduceSub, Nat.reduceMul, part_cell, part_agg, wrap_succ, *]
    | (refine seqK_now ?_)
    | (refine retK_now ?_)
    | (refine retK_now' ?_)
    | (intro q hq)
    | (refine cond_intro (fun hc => ?_) (fun hc => ?_)))
            refine hsp.use ?_
            (repeat' first
    | simp (contextual := true) (maxSteps := 4000000) only [fwc, fwe, fww, reduceIte, ↓reduceIte, Nat.reduceAdd, Nat.reduceLeDiff, Nat.reduceEqDiff, Nat.reduceLT, Nat.reduceSub, reduceCtorEq, Int.reduceEq, Int.reduceLT, Int.reduceLE, Int.reduceNeg, Int.reduceToNat, Int.reduceAdd, Int.reduceSub, Nat.reduceMul, part_cell, part_agg, wrap_succ, *]
    | (refine seqK_now ?_)
    | (refine retK_now ?_)
    | (refine retK_now' ?_)
    | (intro q hq)
    | (refine cond_intro (fun hc => ?_) (fun hc => ?_)))
            refine hF.out _ _ ⟨⟨needleL (40 * j + i), ?_, .inl ⟨40 * j + i, at_some (by omega) (fun k hk => hlo2.out k hk) (by rw [hs.out]; exact hsa.out), rfl, by omega⟩⟩, ?_⟩
            · rw [hn.out]; rfl
            · rfl
          · have e3 : decide (s = a) = false := decide_eq_false hsa
            replace hsa := (show Aside _ from hsa)
            (repeat' first
    | simp (contextual := true) (maxSteps := 4000000) only [fwc, fwe, fww, reduceIte, ↓reduceIte, Nat.reduceAdd, Nat.reduceLeDiff, Nat.reduceEqDiff, Nat.reduceLT, Nat.reduceSub, reduceCtorEq, Int.reduceEq, Int.reduceLT, Int.reduceLE, Int.reduceNeg, Int.reduceToNat, Int.reduceAdd, Int.reduceSub, Nat.reduceMul, part_cell, part_agg, wrap_succ, *]
    | (refine seqK_now ?_)
    | (refine retK_now ?_)
    | (refine retK_now' ?_)
    | (intro q hq)
    | (refine cond_intro (fun hc => ?_) (fun hc => ?_)))
            refine hsp.use ?_
            (repeat' first
    | simp (contextual := true) (maxSteps := 4000000) only [fwc, fwe, fww, reduceIte, ↓reduceIte, Nat.reduceAdd, Nat.reduceLeDiff, Nat.reduceEqDiff, Nat.reduceLT, Nat.reduceSub, reduceCtorEq, Int.reduceEq, Int.reduceLT, Int.reduceLE, Int.reduceNeg, Int.reduceToNat, Int.reduceAdd, Int.reduceSub, Nat.reduceMul, part_cell, part_agg, wrap_succ, *]
    | (refine seqK_now ?_)
    | (refine retK_now ?_)
    | (refine retK_now' ?_)
    | (intro q hq)
    | (refine cond_intro (fun hc => ?_) (fun hc => ?_)))
            refine loopK_now (40 - (i + 1)) (by omega) ?_
            rw [hJ.out]
            refine ⟨i + 1, ⟨(j : Int), ((i + 1 : Nat) : Int)⟩, by omega, rfl, fun k hk => ?_, rfl, rfl⟩
            rcases Nat.lt_or_ge k (40 * j + i) with h | h
            · exact hlo2.out k h
            · have : k = 40 * j + i := by omega
              rw [this, hs.out]
              exact hsa.out
        · have e2 : decide (i < 40) = false := decide_eq_false hi
          have hi4 : i = 40 := by omega
          replace hlo2 := (show Aside _ from hlo2)
          replace hi := (show Aside _ from hi)
          replace hi4 := (show Aside _ from hi4)
          (repeat' first
    | simp (contextual := true) (maxSteps := 4000000) only [fwc, fwe, fww, reduceIte, ↓reduceIte, Nat.reduceAdd, Nat.reduceLeDiff, Nat.reduceEqDiff, Nat.reduceLT, Nat.reduceSub, reduceCtorEq, Int.reduceEq, Int.reduceLT, Int.reduceLE, Int.reduceNeg, Int.reduceToNat, Int.reduceAdd, Int.reduceSub, Nat.reduceMul, part_cell, part_agg, wrap_succ, *]
    | (refine seqK_now ?_)
    | (refine retK_now ?_)
    | (refine retK_now' ?_)
    | (intro q hq)
    | (refine cond_intro (fun hc => ?_) (fun hc => ?_)))
          refine loopK_now (2 - (j + 1)) (by omega) ?_
          rw [hI.out]
          exact ⟨j + 1, by omega, rfl, fun k hk => hlo2.out k (by have := hi4.out; omega), rfl, rfl⟩
      · have e1 : decide (j < 2) = false := decide_eq_false hj
        have hj3 : j = 2 := by omega
        replace hj := (show Aside _ from hj)
        replace hlo := (show Aside _ from hlo)
        replace hj3 := (show Aside _ from hj3)
        (repeat' first
    | simp (contextual := true) (maxSteps := 4000000) only [fwc, fwe, fww, reduceIte, ↓reduceIte, Nat.reduceAdd, Nat.reduceLeDiff, Nat.reduceEqDiff, Nat.reduceLT, Nat.reduceSub, reduceCtorEq, Int.reduceEq, Int.reduceLT, Int.reduceLE, Int.reduceNeg, Int.reduceToNat, Int.reduceAdd, Int.reduceSub, Nat.reduceMul, part_cell, part_agg, *]
    | (refine seqK_now ?_)
    | (refine retK_now ?_)
    | (refine retK_now' ?_)
    | (intro q hq)
    | (refine cond_intro (fun hc => ?_) (fun hc => ?_)))
        refine hF.out _ _ ⟨⟨⟨0, 0⟩, rfl, .inr ⟨at_none fun i hi => hlo.out i (by have := hj3.out; omega), rfl⟩⟩, rfl⟩
/-- The same, told by arithmetic. -/
def atFast (a r : Int) : Option Int :=
  if (a - 2) % 4 = 0 ∧ 1 ≤ (a - 2) / 4 ∧ (a - 2) / 4 ≤ 40 then some ((a - 2) / 4 - 1)
  else if a % 4 = 0 ∧ 1 ≤ a / 4 - r ∧ a / 4 - r ≤ 40 then some (39 + (a / 4 - r)) else none
theorem spot_lo {i : Nat} (r : Int) (h : i < 40) : spotL (needleL i) r = 4 * ((i : Int) + 1) + 2 := by
  have := needle_lo h
  rw [show 40 * 0 + i = i by omega] at this
  rw [this]
  unfold spotL
  rw [if_neg (by simp)]
  simp only
  omega
theorem spot_hi {i : Nat} (r : Int) (h : 40 ≤ i) (h2 : i < 80) : spotL (needleL i) r = 4 * ((i : Int) - 39 + r) := by
  have := needle_hi (show i - 40 < 40 by omega)
  rw [show 40 * 1 + (i - 40) = i by omega] at this
  rw [this]
  unfold spotL
  rw [if_pos rfl]
  simp only
  omega
theorem at_fast (a r : Int) : atSpot a r = (atFast a r).map Int.toNat := by
  unfold atFast
  split
  · rename_i h
    refine at_some (by omega) (fun j hj => ?_) ?_
    · rw [spot_lo r (by omega)]; omega
    · rw [spot_lo r (by omega)]; omega
  · rename_i h
    split
    · rename_i h2
      refine at_some (by omega) (fun j hj => ?_) ?_
      · by_cases h40 : j < 40
        · rw [spot_lo r h40]; omega
        · rw [spot_hi r (by omega) (by omega)]; omega
      · rw [spot_hi r (by omega) (by omega)]; omega
    · rename_i h2
      refine at_none fun i hi => ?_
      by_cases h40 : i < 40
      · rw [spot_lo r h40]; omega
      · rw [spot_hi r (by omega) (by omega)]; omega
def natNAt : List AV → Option AV
  | [.val (.int .i64 a), .val (.int .i64 r)] => match rackOK r with
    | false => some (.tup [(⟨0, 0⟩ : Ndl).av, .val (.int .i64 11)])
    | true => match (atFast a r).map Int.toNat with
      | some i => some (.tup [(needleL i).av, .val (.int .i64 0)])
      | none => some (.tup [(⟨0, 0⟩ : Ndl).av, .val (.int .i64 7)])
  | _ => none
theorem natNAt_ok (args : List AV) (r : AV) (h : natNAt args = some r) : PureA Try.prog 27 args r := by
  unfold natNAt at h
  split at h
  · rename_i a r0
    have key := NAt_ok a r0
    unfold atN atE at key
    rw [at_fast] at key
    split at h
    · rename_i hk; cases h; rw [if_neg (by simp [hk]), if_neg (by simp [hk])] at key; exact key
    · rename_i hk
      rw [if_pos hk, if_pos hk] at key
      split at h
      · rename_i i hi; cases h; rw [hi] at key; exact key
      · rename_i hi; cases h; rw [hi] at key; exact key
  · cases h
end Go.Proofs.Ytembkknplmcamaa

namespace Go.Proofs.Ytembkknplmcamaa
open Go.Ab
attribute [local irreducible] WeakR WeakE CallA YieldA

/-- Names, stacks and beds read off values. -/
def decId : AV → Option Id
  | .agg [.val (.int .u8 y), .val (.int .i64 n)] => some ⟨y, n⟩
  | _ => none
def decIds : List AV → Option (List Id)
  | [] => some []
  | x :: l => match decId x, decIds l with
    | some p, some L => some (p :: L)
    | _, _ => none
def decS : AV → Option (List Id)
  | .list 2 _ l => decIds l
  | .val (.slice none 0 0) => some []
  | _ => none
def decSs : List AV → Option (List (List Id))
  | [] => some []
  | x :: l => match decS x, decSs l with
    | some p, some L => some (p :: L)
    | _, _ => none
def decB : AV → Option (List AV × List (List Id))
  | .list 1 _ l => match decSs l with
    | some F => some (l, F)
    | none => none
  | .val (.slice none 0 0) => some ([], [])
  | _ => none
theorem decId_ok {x : AV} {p : Id} (h : decId x = some p) : x = p.av := by
  unfold decId at h
  split at h
  · cases h; rfl
  · cases h
theorem decIds_ok : ∀ {l : List AV} {L : List Id}, decIds l = some L → l = L.map Id.av
  | [], L, h => by cases h; rfl
  | x :: l, L, h => by
    simp only [decIds] at h
    split at h
    · rename_i p M hp hM
      cases h
      rw [decId_ok hp, decIds_ok hM]
      rfl
    · cases h
theorem decS_ok {x : AV} {L : List Id} (h : decS x = some L) : IsL 2 x (L.map Id.av) := by
  unfold decS at h
  split at h
  · rw [decIds_ok h]; exact .list
  · cases h; exact .nil
  · cases h
theorem decSs_ok : ∀ {l : List AV} {F : List (List Id)}, decSs l = some F → l.length = F.length ∧ ∀ (i : Nat) (h : i < l.length) (h' : i < F.length), IsL 2 l[i] (F[i].map Id.av)
  | [], F, h => by cases h; exact ⟨rfl, fun i h => by simp at h⟩
  | x :: l, F, h => by
    simp only [decSs] at h
    split at h
    · rename_i p M hp hM
      cases h
      obtain ⟨h1, h2⟩ := decSs_ok hM
      refine ⟨by simp [h1], fun i hi hi' => ?_⟩
      cases i with
      | zero => exact decS_ok hp
      | succ i => exact h2 i (by simpa using hi) (by simpa using hi')
    · cases h
theorem decB_ok {x : AV} {es : List AV} {F : List (List Id)} (h : decB x = some (es, F)) : IsB x es F := by
  unfold decB at h
  split at h
  · split at h
    · rename_i hF
      cases h
      obtain ⟨h1, h2⟩ := decSs_ok hF
      exact ⟨.list, h1, h2⟩
    · cases h
  · cases h; exact ⟨.nil, rfl, fun i h => by simp at h⟩
  · cases h

def natCheck : List AV → Option AV
  | [.agg [f, b]] => match decB f, decB b with
    | some (_, F), some (_, B) => some (.val (.int .i64 (checkL F B)))
    | _, _ => none
  | _ => none
theorem natCheck_ok (args : List AV) (r : AV) (h : natCheck args = some r) : PureA Try.prog 35 args r := by
  unfold natCheck at h
  split at h
  · split at h
    · rename_i es F fs B hF hB
      cases h
      exact Check_ok _ _ _ _ F B (decB_ok hF) (decB_ok hB)
    · cases h
  · cases h

def exBeds : AV := (.agg [(.list 1 true [(.val (.slice none 0 0)), (.list 2 true [(.agg [(.val (.int .u8 1)), (.val (.int .i64 0))]), (.agg [(.val (.int .u8 1)), (.val (.int .i64 1))])])]), (.list 1 true [(.val (.slice none 0 0)), (.list 2 true [(.agg [(.val (.int .u8 2)), (.val (.int .i64 0))]), (.agg [(.val (.int .u8 2)), (.val (.int .i64 1))])]), (.val (.slice none 0 0)), (.list 2 true [(.agg [(.val (.int .u8 2)), (.val (.int .i64 2))])])])])
def tb4s : List (FuncId × Fe) := [(8, .code c8 [.tmp 4, .tmp 5] 2),
  (11, .code c11 [.tmp 6, .tmp 7] 3),
  (12, .code c12 [.tmp 8, .tmp 9] 4),
  (18, .code c18 [.tmp 4] 2),
  (19, .code c19 [.tmp 4] 2),
  (26, .code c26 [.tmp 6] 3),
  (24, .code c24 [.tmp 4] 2),
  (28, .code c28 [.tmp 2] 1),
  (27, .nat natNAt),
  (25, .code c25 [.tmp 4] 2),
  (29, .code c29 [.tmp 4] 2),
  (30, .code c30 [.tmp 2] 1),
  (31, .code c31 [.tmp 2] 1),
  (35, .nat natCheck),
  (36, .code c36 [.tmp 2] 1),
  (37, .code c37 [] 2),
  (38, .code c38 [.tmp 4] 2),
  (40, .code c40 [.tmp 2] 1),
  (41, .code c41 [.tmp 2] 1),
  (42, .code c42 [.tmp 2] 1),
  (43, .code c43 [.tmp 4] 2),
  (46, .code c46 [.tmp 4] 2),
  (45, .code c45w [.tmp 2] 1),
  (44, .code c44 [.tmp 2] 1),
  (47, .code c47 [] 1),
  (54, .code c54 [] 3),
  (39, .code c39 [.tmp 4] 2),
  (58, .code c58 [] 4),
  (59, .code c59 [] 5),
  (55, .code c55 [.tmp 2] 1),
  (60, .code c60 [] 5),
  (61, .code c61 [] 5)]
theorem tb4s_ok : TabOK' Try.prog (lookT tb4s) := lookT_ok fun p hp => by
  simp only [tb4s, List.mem_cons, List.not_mem_nil, or_false] at hp
  rcases hp with rfl | rfl | rfl | rfl | rfl | rfl | rfl | rfl | rfl | rfl | rfl | rfl | rfl | rfl | rfl | rfl | rfl | rfl | rfl | rfl | rfl | rfl | rfl | rfl | rfl | rfl | rfl | rfl | rfl | rfl | rfl | rfl
  · exact ⟨k8, by kernel_rfl⟩
  · exact ⟨k11, by kernel_rfl⟩
  · exact ⟨k12, by kernel_rfl⟩
  · exact ⟨k18, by kernel_rfl⟩
  · exact ⟨k19, by kernel_rfl⟩
  · exact ⟨k26, by kernel_rfl⟩
  · exact ⟨k24, by kernel_rfl⟩
  · exact ⟨k28, by kernel_rfl⟩
  · exact natNAt_ok
  · exact ⟨k25, by kernel_rfl⟩
  · exact ⟨k29, by kernel_rfl⟩
  · exact ⟨k30, by kernel_rfl⟩
  · exact ⟨k31, by kernel_rfl⟩
  · exact natCheck_ok
  · exact ⟨k36, by kernel_rfl⟩
  · exact ⟨k37, by kernel_rfl⟩
  · exact ⟨k38, by kernel_rfl⟩
  · exact ⟨k40, by kernel_rfl⟩
  · exact ⟨k41, by kernel_rfl⟩
  · exact ⟨k42, by kernel_rfl⟩
  · exact ⟨k43, by kernel_rfl⟩
  · exact ⟨k46, by kernel_rfl⟩
  · exact ⟨k45w, by kernel_rfl⟩
  · exact ⟨k44, by kernel_rfl⟩
  · exact ⟨k47, by kernel_rfl⟩
  · exact ⟨k54, by kernel_rfl⟩
  · exact ⟨k39, by kernel_rfl⟩
  · exact ⟨k58, by kernel_rfl⟩
  · exact ⟨k59, by kernel_rfl⟩
  · exact ⟨k55, by kernel_rfl⟩
  · exact ⟨k60, by kernel_rfl⟩
  · exact ⟨k61, by kernel_rfl⟩

theorem cr0 : pureWith (lookT tb4s) (cmdR (lookT tb4s) 100000) 8 [exBeds, .val (.int .i64 0)] ⟨.em, 0⟩ = some (.tup [(.list 5 true [(.agg [(.val (.int .u8 2)), (.val (.int .i64 0)), (.val (.int .u8 1)), (.val (.int .i64 2)), (.val (.int .i64 8))]), (.agg [(.val (.int .u8 2)), (.val (.int .i64 1)), (.val (.int .u8 1)), (.val (.int .i64 2)), (.val (.int .i64 8))]), (.agg [(.val (.int .u8 1)), (.val (.int .i64 0)), (.val (.int .u8 0)), (.val (.int .i64 2)), (.val (.int .i64 10))]), (.agg [(.val (.int .u8 1)), (.val (.int .i64 1)), (.val (.int .u8 0)), (.val (.int .i64 2)), (.val (.int .i64 10))]), (.agg [(.val (.int .u8 2)), (.val (.int .i64 2)), (.val (.int .u8 1)), (.val (.int .i64 4)), (.val (.int .i64 16))])]), (.val (.int .i64 0))]) := by kernel_rfl
theorem cr1 : pureWith (lookT tb4s) (cmdR (lookT tb4s) 100000) 8 [exBeds, .val (.int .i64 1)] ⟨.em, 0⟩ = some (.tup [(.list 5 true [(.agg [(.val (.int .u8 1)), (.val (.int .i64 0)), (.val (.int .u8 0)), (.val (.int .i64 2)), (.val (.int .i64 10))]), (.agg [(.val (.int .u8 1)), (.val (.int .i64 1)), (.val (.int .u8 0)), (.val (.int .i64 2)), (.val (.int .i64 10))]), (.agg [(.val (.int .u8 2)), (.val (.int .i64 0)), (.val (.int .u8 1)), (.val (.int .i64 2)), (.val (.int .i64 12))]), (.agg [(.val (.int .u8 2)), (.val (.int .i64 1)), (.val (.int .u8 1)), (.val (.int .i64 2)), (.val (.int .i64 12))]), (.agg [(.val (.int .u8 2)), (.val (.int .i64 2)), (.val (.int .u8 1)), (.val (.int .i64 4)), (.val (.int .i64 20))])]), (.val (.int .i64 0))]) := by kernel_rfl
theorem cr2 : pureWith (lookT tb4s) (cmdR (lookT tb4s) 100000) 11 [exBeds, .val (.int .i64 0), .val (.int .u8 1)] ⟨.em, 0⟩ = some (.tup [(.list 5 true [(.agg [(.val (.int .u8 2)), (.val (.int .i64 1)), (.val (.int .u8 1)), (.val (.int .i64 0)), (.val (.int .i64 (-1)))]), (.agg [(.val (.int .u8 2)), (.val (.int .i64 1)), (.val (.int .u8 1)), (.val (.int .i64 1)), (.val (.int .i64 (-1)))]), (.agg [(.val (.int .u8 2)), (.val (.int .i64 0)), (.val (.int .u8 1)), (.val (.int .i64 0)), (.val (.int .i64 (-1)))]), (.agg [(.val (.int .u8 2)), (.val (.int .i64 0)), (.val (.int .u8 1)), (.val (.int .i64 1)), (.val (.int .i64 (-1)))])]), (.val (.int .i64 0))]) := by kernel_rfl
theorem cr3 : pureWith (lookT tb4s) (cmdR (lookT tb4s) 100000) 11 [exBeds, .val (.int .i64 1), .val (.int .u8 0)] ⟨.em, 0⟩ = some (.tup [(.list 5 true [(.agg [(.val (.int .u8 1)), (.val (.int .i64 1)), (.val (.int .u8 2)), (.val (.int .i64 0)), (.val (.int .i64 1))]), (.agg [(.val (.int .u8 1)), (.val (.int .i64 0)), (.val (.int .u8 2)), (.val (.int .i64 0)), (.val (.int .i64 1))]), (.agg [(.val (.int .u8 1)), (.val (.int .i64 1)), (.val (.int .u8 2)), (.val (.int .i64 1)), (.val (.int .i64 1))]), (.agg [(.val (.int .u8 1)), (.val (.int .i64 0)), (.val (.int .u8 2)), (.val (.int .i64 1)), (.val (.int .i64 1))])]), (.val (.int .i64 0))]) := by kernel_rfl
theorem cr4 : pureWith (lookT tb4s) (cmdR (lookT tb4s) 100000) 11 [exBeds, .val (.int .i64 4), .val (.int .u8 1)] ⟨.em, 0⟩ = some (.tup [(.val (.slice none 0 0)), (.val (.int .i64 11))]) := by kernel_rfl
theorem cr5 : pureWith (lookT tb4s) (cmdR (lookT tb4s) 100000) 12 [exBeds, .val (.int .i64 0), .val (.int .u8 1), .val (.int .i64 9)] ⟨.em, 0⟩ = some (.tup [(.list 4 true [(.agg [(.val (.int .u8 2)), (.val (.int .i64 1)), (.val (.bool true)), (.val (.int .u8 0))]), (.agg [(.val (.int .u8 2)), (.val (.int .i64 0)), (.val (.bool true)), (.val (.int .u8 0))])]), (.val (.int .i64 0))]) := by kernel_rfl
theorem cr6 : pureWith (lookT tb4s) (cmdR (lookT tb4s) 100000) 12 [exBeds, .val (.int .i64 0), .val (.int .u8 1), .val (.int .i64 11)] ⟨.em, 0⟩ = some (.tup [(.list 4 true [(.agg [(.val (.int .u8 2)), (.val (.int .i64 1)), (.val (.bool true)), (.val (.int .u8 0))]), (.agg [(.val (.int .u8 2)), (.val (.int .i64 0)), (.val (.bool true)), (.val (.int .u8 0))])]), (.val (.int .i64 0))]) := by kernel_rfl
theorem cr7 : pureWith (lookT tb4s) (cmdR (lookT tb4s) 100000) 12 [exBeds, .val (.int .i64 0), .val (.int .u8 1), .val (.int .i64 13)] ⟨.em, 0⟩ = some (.tup [(.val (.slice none 0 0)), (.val (.int .i64 0))]) := by kernel_rfl
def natList : List AV → Option AV := natTab [([exBeds, .val (.int .i64 0)], (.tup [(.list 5 true [(.agg [(.val (.int .u8 2)), (.val (.int .i64 0)), (.val (.int .u8 1)), (.val (.int .i64 2)), (.val (.int .i64 8))]), (.agg [(.val (.int .u8 2)), (.val (.int .i64 1)), (.val (.int .u8 1)), (.val (.int .i64 2)), (.val (.int .i64 8))]), (.agg [(.val (.int .u8 1)), (.val (.int .i64 0)), (.val (.int .u8 0)), (.val (.int .i64 2)), (.val (.int .i64 10))]), (.agg [(.val (.int .u8 1)), (.val (.int .i64 1)), (.val (.int .u8 0)), (.val (.int .i64 2)), (.val (.int .i64 10))]), (.agg [(.val (.int .u8 2)), (.val (.int .i64 2)), (.val (.int .u8 1)), (.val (.int .i64 4)), (.val (.int .i64 16))])]), (.val (.int .i64 0))])), ([exBeds, .val (.int .i64 1)], (.tup [(.list 5 true [(.agg [(.val (.int .u8 1)), (.val (.int .i64 0)), (.val (.int .u8 0)), (.val (.int .i64 2)), (.val (.int .i64 10))]), (.agg [(.val (.int .u8 1)), (.val (.int .i64 1)), (.val (.int .u8 0)), (.val (.int .i64 2)), (.val (.int .i64 10))]), (.agg [(.val (.int .u8 2)), (.val (.int .i64 0)), (.val (.int .u8 1)), (.val (.int .i64 2)), (.val (.int .i64 12))]), (.agg [(.val (.int .u8 2)), (.val (.int .i64 1)), (.val (.int .u8 1)), (.val (.int .i64 2)), (.val (.int .i64 12))]), (.agg [(.val (.int .u8 2)), (.val (.int .i64 2)), (.val (.int .u8 1)), (.val (.int .i64 4)), (.val (.int .i64 20))])]), (.val (.int .i64 0))]))]
theorem natList_ok : ∀ (args : List AV) (r : AV), natList args = some r → PureA Try.prog 8 args r := natTab_ok fun p hp => by
  simp only [List.mem_cons, List.not_mem_nil, or_false] at hp
  rcases hp with rfl | rfl
  · exact run_ok mix tb4s_ok 100000 (by kernel_rfl) cr0
  · exact run_ok mix tb4s_ok 100000 (by kernel_rfl) cr1
def natStep : List AV → Option AV := natTab [([exBeds, .val (.int .i64 0), .val (.int .u8 1)], (.tup [(.list 5 true [(.agg [(.val (.int .u8 2)), (.val (.int .i64 1)), (.val (.int .u8 1)), (.val (.int .i64 0)), (.val (.int .i64 (-1)))]), (.agg [(.val (.int .u8 2)), (.val (.int .i64 1)), (.val (.int .u8 1)), (.val (.int .i64 1)), (.val (.int .i64 (-1)))]), (.agg [(.val (.int .u8 2)), (.val (.int .i64 0)), (.val (.int .u8 1)), (.val (.int .i64 0)), (.val (.int .i64 (-1)))]), (.agg [(.val (.int .u8 2)), (.val (.int .i64 0)), (.val (.int .u8 1)), (.val (.int .i64 1)), (.val (.int .i64 (-1)))])]), (.val (.int .i64 0))])), ([exBeds, .val (.int .i64 1), .val (.int .u8 0)], (.tup [(.list 5 true [(.agg [(.val (.int .u8 1)), (.val (.int .i64 1)), (.val (.int .u8 2)), (.val (.int .i64 0)), (.val (.int .i64 1))]), (.agg [(.val (.int .u8 1)), (.val (.int .i64 0)), (.val (.int .u8 2)), (.val (.int .i64 0)), (.val (.int .i64 1))]), (.agg [(.val (.int .u8 1)), (.val (.int .i64 1)), (.val (.int .u8 2)), (.val (.int .i64 1)), (.val (.int .i64 1))]), (.agg [(.val (.int .u8 1)), (.val (.int .i64 0)), (.val (.int .u8 2)), (.val (.int .i64 1)), (.val (.int .i64 1))])]), (.val (.int .i64 0))])), ([exBeds, .val (.int .i64 4), .val (.int .u8 1)], (.tup [(.val (.slice none 0 0)), (.val (.int .i64 11))]))]
theorem natStep_ok : ∀ (args : List AV) (r : AV), natStep args = some r → PureA Try.prog 11 args r := natTab_ok fun p hp => by
  simp only [List.mem_cons, List.not_mem_nil, or_false] at hp
  rcases hp with rfl | rfl | rfl
  · exact run_ok mix tb4s_ok 100000 (by kernel_rfl) cr2
  · exact run_ok mix tb4s_ok 100000 (by kernel_rfl) cr3
  · exact run_ok mix tb4s_ok 100000 (by kernel_rfl) cr4
def natMeets : List AV → Option AV := natTab [([exBeds, .val (.int .i64 0), .val (.int .u8 1), .val (.int .i64 9)], (.tup [(.list 4 true [(.agg [(.val (.int .u8 2)), (.val (.int .i64 1)), (.val (.bool true)), (.val (.int .u8 0))]), (.agg [(.val (.int .u8 2)), (.val (.int .i64 0)), (.val (.bool true)), (.val (.int .u8 0))])]), (.val (.int .i64 0))])), ([exBeds, .val (.int .i64 0), .val (.int .u8 1), .val (.int .i64 11)], (.tup [(.list 4 true [(.agg [(.val (.int .u8 2)), (.val (.int .i64 1)), (.val (.bool true)), (.val (.int .u8 0))]), (.agg [(.val (.int .u8 2)), (.val (.int .i64 0)), (.val (.bool true)), (.val (.int .u8 0))])]), (.val (.int .i64 0))])), ([exBeds, .val (.int .i64 0), .val (.int .u8 1), .val (.int .i64 13)], (.tup [(.val (.slice none 0 0)), (.val (.int .i64 0))]))]
theorem natMeets_ok : ∀ (args : List AV) (r : AV), natMeets args = some r → PureA Try.prog 12 args r := natTab_ok fun p hp => by
  simp only [List.mem_cons, List.not_mem_nil, or_false] at hp
  rcases hp with rfl | rfl | rfl
  · exact run_ok mix tb4s_ok 100000 (by kernel_rfl) cr5
  · exact run_ok mix tb4s_ok 100000 (by kernel_rfl) cr6
  · exact run_ok mix tb4s_ok 100000 (by kernel_rfl) cr7
def tb4 : List (FuncId × Fe) := [(9, .code c9 [.tmp 0] 0),
  (20, .code c20 [.cell true 2 0] 0),
  (8, .nat natList),
  (11, .nat natStep),
  (22, .code c22 [.tmp 2] 1),
  (21, .code c21 [.tmp 2] 1),
  (13, .code c13 [.tmp 6] 3),
  (14, .code c14 [.tmp 2] 1),
  (12, .nat natMeets),
  (32, .code c32 [] 1),
  (31, .code c31 [.tmp 2] 1)]
theorem tb4_ok : TabOK' Try.prog (lookT tb4) := lookT_ok fun p hp => by
  simp only [tb4, List.mem_cons, List.not_mem_nil, or_false] at hp
  rcases hp with rfl | rfl | rfl | rfl | rfl | rfl | rfl | rfl | rfl | rfl | rfl
  · exact ⟨k9, by kernel_rfl⟩
  · exact ⟨k20, by kernel_rfl⟩
  · exact natList_ok
  · exact natStep_ok
  · exact ⟨k22, by kernel_rfl⟩
  · exact ⟨k21, by kernel_rfl⟩
  · exact ⟨k13, by kernel_rfl⟩
  · exact ⟨k14, by kernel_rfl⟩
  · exact natMeets_ok
  · exact ⟨k32, by kernel_rfl⟩
  · exact ⟨k31, by kernel_rfl⟩

theorem lives4_run : pureWith (lookT tb4) (cmdR (lookT tb4) 100000) 9 [] ⟨.em, 0⟩ = some (.val (.bool true)) := by kernel_rfl
theorem lives4_ok : PureA Try.prog 9 [] (.val (.bool true)) := run_ok mix tb4_ok 100000 rfl lives4_run
end Go.Proofs.Ytembkknplmcamaa

namespace Go.Proofs.Ytembkknplmcamaa
open Go.Ab
attribute [local irreducible] WeakR WeakE CallA YieldA

/-- Two cells that stand for themselves. -/
structure Two (f b : AV) (es fs : List AV) (F B : List (List Id)) : Prop where
  f : IsB f es F
  b : IsB b fs B

def env5 (k q : Nat) (rack : Int) (i : Nat) : Env := ((Env.upd (fun _ => .junk) k (.val (.int .i64 i))).upd 2 (.optr q 2 0 0)).upd 1 (.val (.int .i64 rack))

end Go.Proofs.Ytembkknplmcamaa

namespace Go.Proofs.Ytembkknplmcamaa
open Go.Ab
attribute [local irreducible] WeakR WeakE CallA YieldA

/-! Clone into an array of one's own, Reverse of it, and inOrder. -/
def OwR (O0 O' : Heap) (s : AV) (L : List AV) : Prop :=
  (L = [] ∧ s = .list 2 true [] ∧ O' = O0) ∨ (L ≠ [] ∧ ∃ id, O0 id = none ∧ s = .own id 2 0 L.length none ∧ O' = O0.upd id (.arr 35 2 L))

def rv (L : List Id) (k : Nat) : List Id := (List.range L.length).map fun j => if j < k ∨ L.length ≤ j + k then L.getD (L.length - 1 - j) ⟨0, 0⟩ else L.getD j ⟨0, 0⟩
def env47 (s : AV) (k m : Nat) : Env := ((Env.upd (fun _ => .junk) 3 (.val (.int .i64 m))).upd 2 (.val (.int .i64 k))).upd 0 s

def endA (L : List AV) : AV := if L = [] then .list 2 true [] else .list 2 false L
theorem OwR.pure {O0 O' : Heap} {s R : AV} {L : List AV} (h : OwR O0 O' s L) (hr : endA L = R) : WeakR (fun r' O' => r' = R ∧ O' = O0) s O' := by
  rcases h with ⟨rfl, rfl, rfl⟩ | ⟨hne, id, h0, rfl, rfl⟩
  · exact WeakR.pure (Heap.sub_refl _) hr
  · have hz := Fz.own (id := id) (sz := 2) (elems := L) 0 L.length none false (by omega) (fun h => by cases h)
    rw [List.drop_zero, List.take_length] at hz
    refine WeakR.pureF id 2 35 L (Heap.upd_same _ _ _) hz (by rw [del_upd_new h0]; exact Heap.sub_refl _) ?_
    rw [← hr, endA, if_neg hne]
theorem OwR.cells {O0 O' : Heap} {s : AV} {L : List AV} (h : OwR O0 O' s L) : s.cells = [s] ∧ s.stor = true := by
  rcases h with ⟨rfl, rfl, rfl⟩ | ⟨hne, id, h0, rfl, rfl⟩ <;> exact ⟨rfl, rfl⟩

def ordL (d : Int) (L : List Id) : List Id := if d = 0 then L.reverse else L
end Go.Proofs.Ytembkknplmcamaa

namespace Go.Proofs.Ytembkknplmcamaa
open Go.Ab
attribute [local irreducible] WeakR WeakE CallA YieldA

theorem oracked_ok (r : Int) : PureA Try.prog 36 [.val (.int .i64 r)] (.val (.bool (rackOK r))) := by
  intro O
  refine k36.call mix ?_
  unfold c36
  (repeat' first
    | simp (contextual := true) (maxSteps := 4000000) only [fwc, fwe, fww, reduceIte, ↓reduceIte, Nat.reduceAdd, Nat.reduceLeDiff, Nat.reduceEqDiff, Nat.reduceLT, Nat.reduceSub, reduceCtorEq, Int.reduceEq, Int.reduceLT, Int.reduceLE, Int.reduceNeg, Int.reduceToNat, Int.reduceAdd, Int.reduceSub, Nat.reduceMul, *]
    | (refine seqK_now ?_)
    | (refine retK_now ?_)
    | (refine retK_now' ?_)
    | (intro q hq)
    | (refine cond_intro (fun hc => ?_) (fun hc => ?_)))
  refine WeakR.pure (by repeat (first | exact Heap.sub_refl _ | refine sub_upd (by simp only [*]) ?_)) ?_
  unfold rackOK
  simp
def shL (d : Int) : Int := if d = 1 then 1 else -1
theorem usual_ok {x : AV} {F B : List (List Id)} (h : IsBeds x F B) (hc : checkL F B = 0) (r : Int) : PureA Try.prog 18 [x, .val (.int .i64 r)] (.val (.int .i64 (if rackOK r = true then 0 else 11))) := by
  have hk := h.check
  rw [hc] at hk
  obtain ⟨f, b, rfl, c1, c2, s1, s2, _, _⟩ := h.cells
  clear h
  have hr := oracked_ok r
  replace hc := (show Aside _ from hc)
  have d0 : decide ((0 : Int) = 0) = true := by decide
  intro O
  refine k18.call mix ?_
  unfold c18
  cases hb : rackOK r
  · rw [hb] at hr
    replace hb := (show Aside _ from hb)
    (repeat' first
    | simp (contextual := true) (maxSteps := 4000000) only [fwc, fwe, fww, reduceIte, ↓reduceIte, Nat.reduceAdd, Nat.reduceLeDiff, Nat.reduceEqDiff, Nat.reduceLT, Nat.reduceSub, reduceCtorEq, Int.reduceEq, Int.reduceLT, Int.reduceLE, Int.reduceNeg, Int.reduceToNat, Int.reduceAdd, Int.reduceSub, Nat.reduceMul, part_cell, part_agg, *]
    | (refine seqK_now ?_)
    | (refine retK_now ?_)
    | (refine retK_now' ?_)
    | (intro q hq)
    | (refine cond_intro (fun hc => ?_) (fun hc => ?_)))
    refine hk.use ?_
    (repeat' first
    | simp (contextual := true) (maxSteps := 4000000) only [fwc, fwe, fww, reduceIte, ↓reduceIte, Nat.reduceAdd, Nat.reduceLeDiff, Nat.reduceEqDiff, Nat.reduceLT, Nat.reduceSub, reduceCtorEq, Int.reduceEq, Int.reduceLT, Int.reduceLE, Int.reduceNeg, Int.reduceToNat, Int.reduceAdd, Int.reduceSub, Nat.reduceMul, part_cell, part_agg, *]
    | (refine seqK_now ?_)
    | (refine retK_now ?_)
    | (refine retK_now' ?_)
    | (intro q hq)
    | (refine cond_intro (fun hc => ?_) (fun hc => ?_)))
    refine hr.use ?_
    (repeat' first
    | simp (contextual := true) (maxSteps := 4000000) only [fwc, fwe, fww, reduceIte, ↓reduceIte, Nat.reduceAdd, Nat.reduceLeDiff, Nat.reduceEqDiff, Nat.reduceLT, Nat.reduceSub, reduceCtorEq, Int.reduceEq, Int.reduceLT, Int.reduceLE, Int.reduceNeg, Int.reduceToNat, Int.reduceAdd, Int.reduceSub, Nat.reduceMul, part_cell, part_agg, *]
    | (refine seqK_now ?_)
    | (refine retK_now ?_)
    | (refine retK_now' ?_)
    | (intro q hq)
    | (refine cond_intro (fun hc => ?_) (fun hc => ?_)))
    refine WeakR.pure (sub_upd hq (Heap.sub_refl _)) ?_
    rfl
  · rw [hb] at hr
    replace hb := (show Aside _ from hb)
    (repeat' first
    | simp (contextual := true) (maxSteps := 4000000) only [fwc, fwe, fww, reduceIte, ↓reduceIte, Nat.reduceAdd, Nat.reduceLeDiff, Nat.reduceEqDiff, Nat.reduceLT, Nat.reduceSub, reduceCtorEq, Int.reduceEq, Int.reduceLT, Int.reduceLE, Int.reduceNeg, Int.reduceToNat, Int.reduceAdd, Int.reduceSub, Nat.reduceMul, part_cell, part_agg, *]
    | (refine seqK_now ?_)
    | (refine retK_now ?_)
    | (refine retK_now' ?_)
    | (intro q hq)
    | (refine cond_intro (fun hc => ?_) (fun hc => ?_)))
    refine hk.use ?_
    (repeat' first
    | simp (contextual := true) (maxSteps := 4000000) only [fwc, fwe, fww, reduceIte, ↓reduceIte, Nat.reduceAdd, Nat.reduceLeDiff, Nat.reduceEqDiff, Nat.reduceLT, Nat.reduceSub, reduceCtorEq, Int.reduceEq, Int.reduceLT, Int.reduceLE, Int.reduceNeg, Int.reduceToNat, Int.reduceAdd, Int.reduceSub, Nat.reduceMul, part_cell, part_agg, *]
    | (refine seqK_now ?_)
    | (refine retK_now ?_)
    | (refine retK_now' ?_)
    | (intro q hq)
    | (refine cond_intro (fun hc => ?_) (fun hc => ?_)))
    refine hr.use ?_
    (repeat' first
    | simp (contextual := true) (maxSteps := 4000000) only [fwc, fwe, fww, reduceIte, ↓reduceIte, Nat.reduceAdd, Nat.reduceLeDiff, Nat.reduceEqDiff, Nat.reduceLT, Nat.reduceSub, reduceCtorEq, Int.reduceEq, Int.reduceLT, Int.reduceLE, Int.reduceNeg, Int.reduceToNat, Int.reduceAdd, Int.reduceSub, Nat.reduceMul, part_cell, part_agg, *]
    | (refine seqK_now ?_)
    | (refine retK_now ?_)
    | (refine retK_now' ?_)
    | (intro q hq)
    | (refine cond_intro (fun hc => ?_) (fun hc => ?_)))
    refine WeakR.pure (sub_upd hq (Heap.sub_refl _)) ?_
    rfl
def moveE (r d : Int) : Int := if rackOK r = true then (if rackOK (r + shL d) = true then 0 else 11) else 11
end Go.Proofs.Ytembkknplmcamaa

namespace Go.Proofs.Ytembkknplmcamaa
open Go.Ab
attribute [local irreducible] WeakR WeakE CallA YieldA

/-! Meets. -/
theorem own_new {E : TypeId} {sz : Nat} {O0 O' : Heap} {s : AV} {L : List AV} (h : OwN E sz O0 O' s L) {q : Nat} {x : AObj} (hq : O' q = none) : OwN E sz (O0.upd q x) (O'.upd q x) s L := by
  rcases h with ⟨rfl, rfl, rfl⟩ | ⟨hne, id, c, elems, h0, rfl, rfl, h1, h2⟩
  · exact .inl ⟨rfl, rfl, rfl⟩
  · have hq' : ¬ id = q := fun e => by rw [← e, Heap.upd_same] at hq; cases hq
    refine .inr ⟨hne, id, c, elems, by rw [Heap.upd_ne _ _ hq']; exact h0, rfl, ?_, h1, h2⟩
    funext j
    simp only [Heap.upd_apply]
    by_cases hj : j = q
    · subst hj; rw [if_pos rfl, if_neg (Ne.symm hq'), if_pos rfl]
    · rw [if_neg hj, if_neg hj]
def tA (sz : Nat) (L : List AV) : AV := if L = [] then .val (.slice none 0 0) else .list sz true L
theorem tA_T (sz : Nat) (L : List AV) : IsT sz (tA sz L) L := by
  unfold tA
  split
  · rename_i h; exact .inl ⟨rfl, h⟩
  · exact .inr rfl
theorem ClipP_fz (s : AV) (L : List AV) (O0 O' : Heap) (h : OwN 54 4 O0 O' s L) (K : AV → Heap → Prop) (hk : K (tA 4 L) O0) : CallA Try.prog 31 [s] O' K := by
  refine k31.call mix ?_
  unfold c31
  rcases h with ⟨rfl, rfl, rfl⟩ | ⟨hne, id, c, elems, h0, rfl, rfl, h1, h2⟩
  · have e1 : sliceA 4 (.val (.slice none 0 0)) none (some (.val (.int .i64 0))) (some (.val (.int .i64 0))) = some (.val (.slice none 0 0)) := rfl
    (repeat' first
    | simp (contextual := true) (maxSteps := 4000000) only [fwc, fwe, fww, reduceIte, ↓reduceIte, Nat.reduceAdd, Nat.reduceLeDiff, Nat.reduceEqDiff, Nat.reduceLT, Nat.reduceSub, reduceCtorEq, Int.reduceEq, Int.reduceLT, Int.reduceLE, Int.reduceNeg, Int.reduceToNat, Int.reduceAdd, Int.reduceSub, Nat.reduceMul, *]
    | (refine seqK_now ?_)
    | (refine retK_now ?_)
    | (refine retK_now' ?_)
    | (intro q hq)
    | (refine cond_intro (fun hc => ?_) (fun hc => ?_)))
    exact WeakR.now hk
  · have e1 : sliceA 4 (.own id 4 0 L.length c) none (some (.val (.int .i64 L.length))) (some (.val (.int .i64 L.length))) = some (.own id 4 0 L.length (some L.length)) := by
      rw [slice_own_mx (a := 0) (b := L.length) (d := L.length) rfl (by simp [bound_int]) (by simp [bound_int]) (by omega) (by simp [leCap]) (by omega) (by simp [leCap])]
      simp
    have hz := Fz.own (id := id) (sz := 4) (elems := elems) 0 L.length (some L.length) true (by omega) (fun _ => rfl)
    rw [List.drop_zero, h1] at hz
    have hk2 : K (.list 4 true L) O0 := by rw [tA, if_neg hne] at hk; exact hk
    replace hz := (show Aside _ from hz)
    replace hne := (show Aside _ from hne)
    replace h1 := (show Aside _ from h1)
    (repeat' first
    | simp (contextual := true) (maxSteps := 4000000) only [fwc, fwe, fww, reduceIte, ↓reduceIte, Nat.reduceAdd, Nat.reduceLeDiff, Nat.reduceEqDiff, Nat.reduceLT, Nat.reduceSub, reduceCtorEq, Int.reduceEq, Int.reduceLT, Int.reduceLE, Int.reduceNeg, Int.reduceToNat, Int.reduceAdd, Int.reduceSub, Nat.reduceMul, *]
    | (refine seqK_now ?_)
    | (refine retK_now ?_)
    | (refine retK_now' ?_)
    | (intro q hq)
    | (refine cond_intro (fun hc => ?_) (fun hc => ?_)))
    refine WeakR.freeze (Heap.upd_same _ _ _) hz.out (WeakR.now ?_)
    rw [del_upd_new h0]
    exact hk2
theorem own_none {E : TypeId} {sz : Nat} {O0 O' : Heap} {s : AV} {L : List AV} (h : OwN E sz O0 O' s L) {q : Nat} (hq : O' q = none) : O0 q = none := none_of_sub h.sub hq
structure Ps where
  id : Id
  f : Bool
  d : Int
def Ps.av (p : Ps) : AV := .agg [.val (.int .u8 p.id.y), .val (.int .i64 p.id.n), .val (.bool p.f), .val (.int .u8 p.d)]
def meetAt (F B : List (List Id)) (r d pl : Int) (i : Nat) : List Ps :=
  if pl < (if spotL ⟨1, ((i + 1 : Nat) : Int)⟩ r + 4 * shL d < spotL ⟨1, ((i + 1 : Nat) : Int)⟩ r then spotL ⟨1, ((i + 1 : Nat) : Int)⟩ r + 4 * shL d else spotL ⟨1, ((i + 1 : Nat) : Int)⟩ r) ∨
    (if spotL ⟨1, ((i + 1 : Nat) : Int)⟩ r < spotL ⟨1, ((i + 1 : Nat) : Int)⟩ r + 4 * shL d then spotL ⟨1, ((i + 1 : Nat) : Int)⟩ r + 4 * shL d else spotL ⟨1, ((i + 1 : Nat) : Int)⟩ r) < pl then []
  else (ordL (1 - d) (atL F B ⟨1, ((i + 1 : Nat) : Int)⟩)).map fun p => ⟨p, true, 1 - d⟩
def meetTo (F B : List (List Id)) (r d pl : Int) (n : Nat) : List Ps := (List.range n).flatMap (meetAt F B r d pl)
def env12n (q4 : Nat) (r d pl : Int) (s ro : AV) (i n k : Nat) : Env := ((((((((((Env.upd (fun _ => .junk) 63 (.val (.int .i64 k))).upd 62 (.val (.int .i64 n))).upd 61 ro).upd 31 (.val (.int .i64 i))).upd 12 (.val (.int .u8 (1 - d)))).upd 11 s).upd 4 (.optr q4 2 0 0)).upd 3 (.val (.int .i64 pl))).upd 2 (.val (.int .u8 d))).upd 1 (.val (.int .i64 r)))
def env12m (q4 : Nat) (r d pl : Int) (s : AV) (i : Nat) : Env := (((((((Env.upd (fun _ => .junk) 31 (.val (.int .i64 i))).upd 12 (.val (.int .u8 (1 - d)))).upd 11 s).upd 4 (.optr q4 2 0 0)).upd 3 (.val (.int .i64 pl))).upd 2 (.val (.int .u8 d))).upd 1 (.val (.int .i64 r)))

end Go.Proofs.Ytembkknplmcamaa

namespace Go.Proofs.Ytembkknplmcamaa
open Go.Ab
attribute [local irreducible] WeakR WeakE CallA YieldA

/-! Step. -/
structure Cr where
  a : Id
  b : Id
  s : Int
def Cr.av (p : Cr) : AV := .agg [.val (.int .u8 p.a.y), .val (.int .i64 p.a.n), .val (.int .u8 p.b.y), .val (.int .i64 p.b.n), .val (.int .i64 p.s)]
def crs (d : Int) (x y : Id) : Cr := if d = 1 then ⟨x, y, -1⟩ else ⟨y, x, 1⟩
def stepN (d : Int) (i : Nat) : Ndl := ⟨1, if d = 1 then 40 - (i : Int) else (i : Int) + 1⟩
def stepA (r d : Int) (i : Nat) : Int := spotL (stepN d i) r + 2 * shL d
def crossL (d : Int) (xs ys : List Id) : List Cr := xs.flatMap fun x => ys.map (crs d x)
def stepAt (F B : List (List Id)) (r d : Int) (i : Nat) : List Cr :=
  if atE (stepA r d i) r = 0 then crossL d (ordL (1 - d) (atL F B (stepN d i))) (ordL d (atL F B (atN (stepA r d i) r))) else []
def stepTo (F B : List (List Id)) (r d : Int) (n : Nat) : List Cr := (List.range n).flatMap (stepAt F B r d)
def env9h (q3 : Nat) (r d : Int) (s : AV) (i : Nat) : Env := ((((((Env.upd (fun _ => .junk) 28 (.val (.int .i64 i))).upd 10 (.val (.int .u8 (1 - d)))).upd 9 s).upd 3 (.optr q3 2 0 0)).upd 2 (.val (.int .u8 d))).upd 1 (.val (.int .i64 r)))
def env9q (q3 q12 : Nat) (r d : Int) (s : AV) (i : Nat) : Env := (((((((Env.upd (fun _ => .junk) 28 (.val (.int .i64 i))).upd 12 (.optr q12 2 0 0)).upd 10 (.val (.int .u8 (1 - d)))).upd 9 s).upd 3 (.optr q3 2 0 0)).upd 2 (.val (.int .u8 d))).upd 1 (.val (.int .i64 r)))
def env9k (q3 q13 : Nat) (r d : Int) (s ro : AV) (i n k : Nat) : Env := ((((((((((Env.upd (fun _ => .junk) 59 (.val (.int .i64 k))).upd 58 (.val (.int .i64 n))).upd 57 ro).upd 28 (.val (.int .i64 i))).upd 13 (.optr q13 2 0 0)).upd 10 (.val (.int .u8 (1 - d)))).upd 9 s).upd 3 (.optr q3 2 0 0)).upd 2 (.val (.int .u8 d))).upd 1 (.val (.int .i64 r)))
def env9l (q3 q13 q16 : Nat) (r d : Int) (s ro rp : AV) (i n k m j : Nat) : Env := ((((((((((((((Env.upd (fun _ => .junk) 69 (.val (.int .i64 j))).upd 68 (.val (.int .i64 m))).upd 67 rp).upd 59 (.val (.int .i64 k))).upd 58 (.val (.int .i64 n))).upd 57 ro).upd 28 (.val (.int .i64 i))).upd 16 (.optr q16 2 0 0)).upd 13 (.optr q13 2 0 0)).upd 10 (.val (.int .u8 (1 - d)))).upd 9 s).upd 3 (.optr q3 2 0 0)).upd 2 (.val (.int .u8 d))).upd 1 (.val (.int .i64 r)))

end Go.Proofs.Ytembkknplmcamaa

namespace Go.Proofs.Ytembkknplmcamaa
open Go.Ab

/-! The plain law of the step back. -/
def sw (c : Cr) : Cr := ⟨c.b, c.a, -c.s⟩
def pb (p : Ps) : Ps := ⟨p.id, p.f, if p.d = 1 then 0 else 1⟩
end Go.Proofs.Ytembkknplmcamaa

namespace Go.Proofs.Ytembkknplmcamaa
open Go.Ab
attribute [local irreducible] WeakR WeakE CallA YieldA

theorem back_ok (p : Ps) : PureA Try.prog 33 [p.av] (pb p).av := by
  intro O
  rw [show p.av = .agg [.val (.int .u8 p.id.y), .val (.int .i64 p.id.n), .val (.bool p.f), .val (.int .u8 p.d)] from rfl]
  by_cases hd : p.d = 1
  · have e1 : decide (p.d = 1) = true := decide_eq_true hd
    have hb : (pb p).av = .agg [.val (.int .u8 p.id.y), .val (.int .i64 p.id.n), .val (.bool p.f), .val (.int .u8 0)] := by unfold pb Ps.av; simp only [if_pos hd]
    rw [hb]
    replace hd := (show Aside _ from hd)
    replace hb := (show Aside _ from hb)
    refine k33.call mix ?_
    unfold c33
    (repeat' first
    | simp (contextual := true) (maxSteps := 4000000) only [fwc, fwe, fww, reduceIte, ↓reduceIte, Nat.reduceAdd, Nat.reduceLeDiff, Nat.reduceEqDiff, Nat.reduceLT, Nat.reduceSub, reduceCtorEq, Int.reduceEq, Int.reduceLT, Int.reduceLE, Int.reduceNeg, Int.reduceToNat, Int.reduceAdd, Int.reduceSub, Nat.reduceMul, part_cell, part_agg, *]
    | (refine seqK_now ?_)
    | (refine retK_now ?_)
    | (refine retK_now' ?_)
    | (intro q hq)
    | (refine cond_intro (fun hc => ?_) (fun hc => ?_)))
    refine WeakR.pure (by repeat (first | exact Heap.sub_refl _ | refine sub_upd (by simp only [*]) ?_)) ?_
    rfl
  · have e1 : decide (p.d = 1) = false := decide_eq_false hd
    have hb : (pb p).av = .agg [.val (.int .u8 p.id.y), .val (.int .i64 p.id.n), .val (.bool p.f), .val (.int .u8 1)] := by unfold pb Ps.av; simp only [if_neg hd]
    rw [hb]
    replace hd := (show Aside _ from hd)
    replace hb := (show Aside _ from hb)
    refine k33.call mix ?_
    unfold c33
    (repeat' first
    | simp (contextual := true) (maxSteps := 4000000) only [fwc, fwe, fww, reduceIte, ↓reduceIte, Nat.reduceAdd, Nat.reduceLeDiff, Nat.reduceEqDiff, Nat.reduceLT, Nat.reduceSub, reduceCtorEq, Int.reduceEq, Int.reduceLT, Int.reduceLE, Int.reduceNeg, Int.reduceToNat, Int.reduceAdd, Int.reduceSub, Nat.reduceMul, part_cell, part_agg, *]
    | (refine seqK_now ?_)
    | (refine retK_now ?_)
    | (refine retK_now' ?_)
    | (intro q hq)
    | (refine cond_intro (fun hc => ?_) (fun hc => ?_)))
    refine WeakR.pure (by repeat (first | exact Heap.sub_refl _ | refine sub_upd (by simp only [*]) ?_)) ?_
    rfl

def zP : AV := .agg [.val (.int .u8 0), .val (.int .i64 0), .val (.bool false), .val (.int .u8 0)]
def elI (L : List Ps) (i : Nat) : List AV := List.replicate (L.length - i) zP ++ (((L.take i).map pb).reverse).map Ps.av
def env14i (s : AV) (id n i : Nat) : Env := (((((Env.upd (fun _ => .junk) 11 (.val (.int .i64 i))).upd 10 (.val (.int .i64 n))).upd 9 s).upd 3 (.own id 4 0 n (some n))).upd 0 s)

end Go.Proofs.Ytembkknplmcamaa

namespace Go.Proofs.Ytembkknplmcamaa
open Go.Ab

/-! Lists of held loops: exchanges, rotations, the stable order. Plain lists, no program. -/
structure Hd where
  id : Id
  bed : Int
  at_ : Int
  spot : Int
def Hd.av (h : Hd) : AV := .agg [.val (.int .u8 h.id.y), .val (.int .i64 h.id.n), .val (.int .u8 h.bed), .val (.int .i64 h.at_), .val (.int .i64 h.spot)]
def hd0 : Hd := ⟨⟨0, 0⟩, 0, 0, 0⟩
def gt (L : List Hd) (i : Nat) : Hd := L.getD i hd0
theorem gt_get {L : List Hd} {i : Nat} (h : i < L.length) : gt L i = L[i] := by
  unfold gt
  rw [List.getD_eq_getElem?_getD, List.getElem?_eq_getElem h]
  rfl
theorem gt_ext {L L' : List Hd} (hl : L'.length = L.length) (h : ∀ i, i < L.length → gt L' i = gt L i) : L' = L := by
  refine List.ext_getElem hl fun i h1 h2 => ?_
  rw [← gt_get h1, ← gt_get h2]
  exact h i h2
def swp (L : List Hd) (i j : Nat) : List Hd := (L.set i (gt L j)).set j (gt L i)
theorem sw_len (L : List Hd) (i j : Nat) : (swp L i j).length = L.length := by simp [swp]
theorem gt_sw {L : List Hd} {i j : Nat} (hi : i < L.length) (hj : j < L.length) (k : Nat) : gt (swp L i j) k = if k = j then gt L i else if k = i then gt L j else gt L k := by
  unfold swp
  have e : ∀ (M : List Hd) (i : Nat) (x : Hd) (k : Nat), i < M.length → gt (M.set i x) k = if k = i then x else gt M k := fun M i x k h => by
    unfold gt
    rw [List.getD_eq_getElem?_getD, List.getElem?_set, List.getD_eq_getElem?_getD]
    by_cases hk : k = i
    · subst hk; rw [if_pos rfl, if_pos h, if_pos rfl]; rfl
    · rw [if_neg (fun h => hk h.symm), if_neg hk]
  rw [e _ _ _ _ (by simpa using hj), e _ _ _ _ hi]
def Flt (L L' : List Hd) : Prop := ∀ s : Int, L'.filter (fun x => decide (x.spot = s)) = L.filter (fun x => decide (x.spot = s))
theorem Flt.refl (L : List Hd) : Flt L L := fun _ => rfl
theorem Flt.trans {L M N : List Hd} (h : Flt L M) (k : Flt M N) : Flt L N := fun s => (k s).trans (h s)
theorem split2 {L : List Hd} {i : Nat} (h : i + 1 < L.length) : ∃ X Y, L = X ++ gt L i :: gt L (i + 1) :: Y ∧ X.length = i :=
  ⟨L.take i, L.drop (i + 2), by
    rw [gt_get (by omega), gt_get h, ← List.drop_eq_getElem_cons h, ← List.drop_eq_getElem_cons (by omega), List.take_append_drop], by simp; omega⟩
theorem sw_app (X Y : List Hd) (x y : Hd) : swp (X ++ x :: y :: Y) X.length (X.length + 1) = X ++ y :: x :: Y := by
  have h1 : gt (X ++ x :: y :: Y) X.length = x := by rw [gt_get (by simp)]; simp
  have h2 : gt (X ++ x :: y :: Y) (X.length + 1) = y := by rw [gt_get (by simp)]; simp
  unfold swp
  rw [h1, h2]
  simp [List.set_append]
theorem sw_flt {L : List Hd} {i : Nat} (h : i + 1 < L.length) (hne : (gt L i).spot ≠ (gt L (i + 1)).spot) : Flt L (swp L i (i + 1)) := by
  obtain ⟨X, Y, hL, hX⟩ := split2 h
  intro s
  generalize gt L i = x at *
  generalize gt L (i + 1) = y at *
  subst hX
  rw [hL, sw_app]
  simp only [List.filter_append, List.filter_cons]
  by_cases h1 : x.spot = s
  · have h2 : ¬ y.spot = s := fun h => hne (h1.trans h.symm)
    simp [h1, h2]
  · simp [h1]
theorem sw_comm {L : List Hd} {i j : Nat} (hi : i < L.length) (hj : j < L.length) : swp L i j = swp L j i := by
  refine gt_ext (by rw [sw_len, sw_len]) fun k _ => ?_
  rw [gt_sw hi hj, gt_sw hj hi]
  by_cases h1 : k = j
  · subst h1
    by_cases h2 : k = i
    · subst h2; simp
    · simp [h2]
  · by_cases h2 : k = i
    · subst h2; simp [h1]
    · simp [h1, h2]

/-- What a step on the part from a to b keeps. -/
structure Keeps (L L' : List Hd) (a b : Nat) : Prop where
  len : L'.length = L.length
  out : ∀ i, i < a ∨ b ≤ i → gt L' i = gt L i
  mem : ∀ i, a ≤ i → i < b → ∃ j, a ≤ j ∧ j < b ∧ gt L' i = gt L j
  flt : Flt L L'
theorem Keeps.refl (L : List Hd) (a b : Nat) : Keeps L L a b := ⟨rfl, fun _ _ => rfl, fun i h1 h2 => ⟨i, h1, h2, rfl⟩, Flt.refl L⟩
theorem Keeps.trans {L M N : List Hd} {a b : Nat} (h : Keeps L M a b) (k : Keeps M N a b) : Keeps L N a b :=
  ⟨k.len.trans h.len, fun i hi => (k.out i hi).trans (h.out i hi), fun i h1 h2 => by
    obtain ⟨j, j1, j2, e⟩ := k.mem i h1 h2
    obtain ⟨l, l1, l2, e2⟩ := h.mem j j1 j2
    exact ⟨l, l1, l2, e.trans e2⟩, h.flt.trans k.flt⟩
theorem Keeps.wide {L M : List Hd} {a b c d : Nat} (h : Keeps L M a b) (h1 : c ≤ a) (h2 : b ≤ d) : Keeps L M c d :=
  ⟨h.len, fun i hi => h.out i (by omega), fun i j1 j2 => by
    by_cases hc : a ≤ i ∧ i < b
    · obtain ⟨l, l1, l2, e⟩ := h.mem i hc.1 hc.2
      exact ⟨l, by omega, by omega, e⟩
    · exact ⟨i, j1, j2, h.out i (by omega)⟩, h.flt⟩
theorem sw_keeps {L : List Hd} {i : Nat} (h : i + 1 < L.length) (hne : (gt L i).spot ≠ (gt L (i + 1)).spot) : Keeps L (swp L i (i + 1)) i (i + 2) :=
  ⟨sw_len _ _ _, fun k hk => by rw [gt_sw (by omega) h, if_neg (by omega), if_neg (by omega)], fun k h1 h2 => by
    rw [gt_sw (by omega) h]
    by_cases e : k = i + 1
    · exact ⟨i, by omega, by omega, by rw [if_pos e]⟩
    · exact ⟨i + 1, by omega, by omega, by rw [if_neg e, if_pos (by omega)]⟩, sw_flt h hne⟩

def Srt (L : List Hd) (a b : Nat) : Prop := ∀ i j, a ≤ i → i ≤ j → j < b → (gt L i).spot ≤ (gt L j).spot
theorem Srt.part {L : List Hd} {a b c d : Nat} (h : Srt L a b) (h1 : a ≤ c) (h2 : d ≤ b) : Srt L c d := fun i j a1 a2 a3 => h i j (by omega) a2 (by omega)
theorem Srt.join {L : List Hd} {a m b : Nat} (h1 : Srt L a m) (h2 : Srt L m b) (h : ∀ i j, a ≤ i → i < m → m ≤ j → j < b → (gt L i).spot ≤ (gt L j).spot) : Srt L a b := fun i j a1 a2 a3 => by
  by_cases c1 : j < m
  · exact h1 i j a1 a2 c1
  · by_cases c2 : i < m
    · exact h i j a1 c2 (by omega) a3
    · exact h2 i j (by omega) a2 a3
theorem Srt.same {L M : List Hd} {a b : Nat} (h : Srt L a b) (e : ∀ i, a ≤ i → i < b → gt M i = gt L i) : Srt M a b := fun i j a1 a2 a3 => by
  rw [e i a1 (by omega), e j (by omega) a3]
  exact h i j a1 a2 a3

/-! Insertion. -/
def Ins (L : List Hd) (a j i : Nat) : Prop := ∀ p q, a ≤ p → p ≤ q → q ≤ i → q ≠ j → (gt L p).spot ≤ (gt L q).spot
theorem Ins.start {L : List Hd} {a i : Nat} (h : Srt L a i) : Ins L a i i := fun p q h1 h2 h3 h4 => h p q h1 h2 (by omega)
theorem Ins.stop {L : List Hd} {a j i : Nat} (h : Ins L a j i) (hj : a ≤ j) (hji : j ≤ i) (hs : j = a ∨ (gt L (j - 1)).spot ≤ (gt L j).spot) : Srt L a (i + 1) := fun p q h1 h2 h3 => by
  by_cases hq : q = j
  · subst hq
    by_cases hp : p = q
    · subst hp; exact Int.le_refl _
    · rcases hs with h0 | h0
      · omega
      · exact Int.le_trans (h p (q - 1) h1 (by omega) (by omega) (by omega)) h0
  · exact h p q h1 h2 (by omega) hq
theorem Ins.step {L : List Hd} {a j i : Nat} (h : Ins L a (j + 1) i) (hj : a ≤ j) (hji : j + 1 ≤ i) (hi : i < L.length) (hs : (gt L (j + 1)).spot < (gt L j).spot) : Ins (swp L j (j + 1)) a j i := fun p q h1 h2 h3 h4 => by
  rw [gt_sw (by omega) (by omega), gt_sw (by omega) (by omega)]
  by_cases q1 : q = j + 1
  · rw [if_pos q1]
    by_cases p1 : p = j + 1
    · rw [if_pos p1]; exact Int.le_refl _
    · rw [if_neg p1]
      by_cases p2 : p = j
      · rw [if_pos p2]; omega
      · rw [if_neg p2]; exact h p j h1 (by omega) (by omega) (by omega)
  · rw [if_neg q1, if_neg h4]
    by_cases p1 : p = j + 1
    · rw [if_pos p1]; exact h j q (by omega) (by omega) h3 q1
    · rw [if_neg p1]
      by_cases p2 : p = j
      · rw [if_pos p2]; exact h (j + 1) q (by omega) (by omega) h3 q1
      · rw [if_neg p2]; exact h p q h1 h2 h3 q1

/-! Exchange of two stretches; rotation. -/
structure SwR (L L' : List Hd) (a b n : Nat) : Prop where
  len : L'.length = L.length
  at_ : ∀ i, gt L' i = if a ≤ i ∧ i < a + n then gt L (i - a + b) else if b ≤ i ∧ i < b + n then gt L (i - b + a) else gt L i
theorem SwR.zero (L : List Hd) (a b : Nat) : SwR L L a b 0 := ⟨rfl, fun i => by rw [if_neg (by omega), if_neg (by omega)]⟩
theorem SwR.step {L M : List Hd} {a b n : Nat} (h : SwR L M a b n) (hab : a + n < b) (hb : b + n < L.length) : SwR L (swp M (a + n) (b + n)) a b (n + 1) :=
  ⟨by rw [sw_len]; exact h.len, fun i => by
    have hl := h.len
    rw [gt_sw (by omega) (by omega), h.at_ i, h.at_ (a + n), h.at_ (b + n)]
    repeat' split
    all_goals first
      | rfl
      | (exfalso; omega)
      | (congr 1; omega)⟩
structure RotP (L L' : List Hd) (a m b : Nat) : Prop where
  len : L'.length = L.length
  at_ : ∀ i, gt L' i = if a ≤ i ∧ i < a + (b - m) then gt L (i + (m - a)) else if a + (b - m) ≤ i ∧ i < b then gt L (i - (b - m)) else gt L i
theorem RotP.last {L L' : List Hd} {m i : Nat} (hi : i ≤ m) (h : SwR L L' (m - i) m i) : RotP L L' (m - i) m (m + i) :=
  ⟨h.len, fun k => by
    rw [h.at_]
    repeat' split
    all_goals first
      | rfl
      | (exfalso; omega)
      | (congr 1; omega)⟩
theorem RotP.left {L M L' : List Hd} {m i j : Nat} (hi : i ≤ m) (hji : j < i) (hj : 0 < j) (hs : SwR L M (m - i) m j) (h : RotP M L' (m - (i - j)) m (m + j)) : RotP L L' (m - i) m (m + j) :=
  ⟨h.len.trans hs.len, fun k => by
    rw [h.at_ k, hs.at_, hs.at_, hs.at_]
    repeat' split
    all_goals first
      | rfl
      | (exfalso; omega)
      | (congr 1; omega)⟩
theorem RotP.right {L M L' : List Hd} {m i j : Nat} (hi : i ≤ m) (hij : i < j) (h0 : 0 < i) (hs : SwR L M (m - i) (m + j - i) i) (h : RotP M L' (m - i) m (m + (j - i))) : RotP L L' (m - i) m (m + j) :=
  ⟨h.len.trans hs.len, fun k => by
    rw [h.at_ k, hs.at_, hs.at_, hs.at_]
    repeat' split
    all_goals first
      | rfl
      | (exfalso; omega)
      | (congr 1; omega)⟩
theorem rot_list {L L' : List Hd} {a m b : Nat} (h : RotP L L' a m b) (h1 : a ≤ m) (h2 : m ≤ b) (h3 : b ≤ L.length) : ∃ X U V Y, L = X ++ U ++ V ++ Y ∧ L' = X ++ V ++ U ++ Y ∧ (∀ x ∈ U, ∃ i, a ≤ i ∧ i < m ∧ x = gt L i) ∧ (∀ x ∈ V, ∃ i, m ≤ i ∧ i < b ∧ x = gt L i) := by
  have e : ∀ (M : List Hd) (n : Nat) (f : Nat → Hd), M.length = n → (∀ i, i < n → gt M i = f i) → M = (List.range n).map f := fun M n f h1 h2 => by
    refine List.ext_getElem (by simp [h1]) fun i a1 a2 => ?_
    rw [← gt_get a1, h2 i (by omega)]
    simp
  refine ⟨(List.range a).map (gt L), (List.range (m - a)).map (fun i => gt L (a + i)), (List.range (b - m)).map (fun i => gt L (m + i)), (List.range (L.length - b)).map (fun i => gt L (b + i)), ?_, ?_, ?_, ?_⟩
  · refine List.ext_getElem (by simp; omega) fun i a1 a2 => ?_
    rw [← gt_get a1]
    simp only [List.getElem_append, List.getElem_map, List.getElem_range, List.length_map, List.length_range, List.length_append]
    repeat' split
    all_goals first
      | rfl
      | (exfalso; omega)
      | (congr 1; omega)
  · refine List.ext_getElem (by simp [h.len]; omega) fun i a1 a2 => ?_
    rw [← gt_get a1, h.at_ i]
    have := h.len
    simp only [List.getElem_append, List.getElem_map, List.getElem_range, List.length_map, List.length_range, List.length_append]
    repeat' split
    all_goals first
      | rfl
      | (exfalso; omega)
      | (congr 1; omega)
  · intro x hx
    simp only [List.mem_map, List.mem_range] at hx
    obtain ⟨i, hi, rfl⟩ := hx
    exact ⟨a + i, by omega, by omega, rfl⟩
  · intro x hx
    simp only [List.mem_map, List.mem_range] at hx
    obtain ⟨i, hi, rfl⟩ := hx
    exact ⟨m + i, by omega, by omega, rfl⟩
theorem RotP.keeps {L L' : List Hd} {a m b : Nat} (h : RotP L L' a m b) (h1 : a ≤ m) (h2 : m ≤ b) (h3 : b ≤ L.length) (hlt : ∀ i j, a ≤ i → i < m → m ≤ j → j < b → (gt L j).spot < (gt L i).spot) : Keeps L L' a b where
  len := h.len
  out := fun i hi => by rw [h.at_ i, if_neg (by omega), if_neg (by omega)]
  mem := fun i g1 g2 => by
    rw [h.at_ i]
    by_cases c : a ≤ i ∧ i < a + (b - m)
    · rw [if_pos c]; exact ⟨_, by omega, by omega, rfl⟩
    · rw [if_neg c, if_pos (by omega)]; exact ⟨_, by omega, by omega, rfl⟩
  flt := fun s => by
    obtain ⟨X, U, V, Y, e1, e2, hU, hV⟩ := rot_list h h1 h2 h3
    have key : U.filter (fun x => decide (x.spot = s)) = [] ∨ V.filter (fun x => decide (x.spot = s)) = [] := by
      cases hu : U.filter (fun x => decide (x.spot = s)) with
      | nil => exact .inl rfl
      | cons u us =>
        refine .inr (List.filter_eq_nil_iff.2 fun v hv hs => ?_)
        have hm : u ∈ U.filter (fun x => decide (x.spot = s)) := by rw [hu]; exact List.mem_cons_self
        obtain ⟨hm1, hm2⟩ := List.mem_filter.1 hm
        obtain ⟨i, i1, i2, rfl⟩ := hU u hm1
        obtain ⟨j, j1, j2, rfl⟩ := hV v hv
        have := hlt i j i1 i2 j1 j2
        simp only [decide_eq_true_eq] at hs hm2
        omega
    rw [e1, e2]
    simp only [List.filter_append]
    rcases key with k | k <;> rw [k] <;> simp
end Go.Proofs.Ytembkknplmcamaa

namespace Go.Proofs.Ytembkknplmcamaa
open Go.Ab

/-! The merge of two sorted stretches, plain lists. -/
structure MovR (L M : List Hd) (a k : Nat) : Prop where
  len : M.length = L.length
  at_ : ∀ t, gt M t = if a ≤ t ∧ t < k then gt L (t + 1) else if t = k then gt L a else gt L t
  flt : Flt L M
theorem MovR.zero (L : List Hd) (a : Nat) : MovR L L a a := ⟨rfl, fun t => by
  rw [if_neg (by omega)]
  by_cases h : t = a
  · rw [if_pos h, h]
  · rw [if_neg h], Flt.refl L⟩
theorem MovR.step {L M : List Hd} {a k : Nat} (h : MovR L M a k) (hk : k + 1 < L.length) (ha : a ≤ k) (hlt : (gt L (k + 1)).spot < (gt L a).spot) : MovR L (swp M k (k + 1)) a (k + 1) :=
  ⟨by rw [sw_len]; exact h.len, fun t => by
    have hl := h.len
    rw [gt_sw (by omega) (by omega), h.at_ k, h.at_ (k + 1), h.at_ t]
    repeat' split
    all_goals first
      | rfl
      | (exfalso; omega)
      | (congr 1; omega), by
    have hl := h.len
    refine h.flt.trans (sw_flt (by omega) ?_)
    rw [h.at_ k, h.at_ (k + 1), if_neg (by omega), if_pos rfl, if_neg (by omega), if_neg (by omega)]
    omega⟩
theorem MovR.a1 {L M : List Hd} {a k : Nat} (h : MovR L M a k) {t : Nat} (h1 : a ≤ t) (h2 : t < k) : gt M t = gt L (t + 1) := by rw [h.at_ t, if_pos ⟨h1, h2⟩]
theorem MovR.a2 {L M : List Hd} {a k : Nat} (h : MovR L M a k) {t : Nat} (h1 : t = k) : gt M t = gt L a := by rw [h.at_ t, if_neg (by omega), if_pos h1]
theorem MovR.a3 {L M : List Hd} {a k : Nat} (h : MovR L M a k) {t : Nat} (h1 : t < a ∨ k < t) (h2 : a ≤ k) : gt M t = gt L t := by rw [h.at_ t, if_neg (by omega), if_neg (by omega)]
theorem MovR.done {L M : List Hd} {a i b : Nat} (h : MovR L M a (i - 1)) (hi : a + 1 ≤ i) (hib : i ≤ b) (hs : Srt L (a + 1) b) (h1 : ∀ k, a + 1 ≤ k → k < i → (gt L k).spot < (gt L a).spot) (h2 : ∀ k, i ≤ k → k < b → (gt L a).spot ≤ (gt L k).spot) : Srt M a b ∧ Keeps L M a b := by
  refine ⟨fun p q p1 p2 p3 => ?_, h.len, fun t ht => ?_, fun t t1 t2 => ?_, h.flt⟩
  · by_cases c1 : p < i - 1
    · rw [h.a1 p1 c1]
      by_cases d1 : q < i - 1
      · rw [h.a1 (by omega) d1]; exact hs _ _ (by omega) (by omega) (by omega)
      · have := h1 (p + 1) (by omega) (by omega)
        by_cases d2 : q = i - 1
        · rw [h.a2 d2]; omega
        · rw [h.a3 (by omega) (by omega)]
          have := h2 q (by omega) p3
          omega
    · by_cases c2 : p = i - 1
      · rw [h.a2 c2]
        by_cases d2 : q = i - 1
        · rw [h.a2 d2]; exact Int.le_refl _
        · rw [h.a3 (by omega) (by omega)]; exact h2 q (by omega) p3
      · rw [h.a3 (by omega) (by omega), h.a3 (by omega) (by omega)]
        exact hs p q (by omega) p2 p3
  · by_cases c : t = i - 1
    · omega
    · rw [h.a3 (by omega) (by omega)]
  · by_cases c1 : t < i - 1
    · rw [h.a1 t1 c1]; exact ⟨t + 1, by omega, by omega, rfl⟩
    · by_cases c2 : t = i - 1
      · rw [h.a2 c2]; exact ⟨a, by omega, by omega, rfl⟩
      · rw [h.a3 (by omega) (by omega)]; exact ⟨t, by omega, by omega, rfl⟩
structure MovL (L M : List Hd) (m k : Nat) : Prop where
  len : M.length = L.length
  at_ : ∀ t, gt M t = if t = k then gt L m else if k < t ∧ t ≤ m then gt L (t - 1) else gt L t
  flt : Flt L M
theorem MovL.zero (L : List Hd) (m : Nat) : MovL L L m m := ⟨rfl, fun t => by
  by_cases h : t = m
  · rw [if_pos h, h]
  · rw [if_neg h, if_neg (by omega)], Flt.refl L⟩
theorem MovL.step {L M : List Hd} {m k : Nat} (h : MovL L M m (k + 1)) (hk : m < L.length) (ha : k + 1 ≤ m) (hlt : (gt L m).spot < (gt L k).spot) : MovL L (swp M k (k + 1)) m k :=
  ⟨by rw [sw_len]; exact h.len, fun t => by
    have hl := h.len
    rw [gt_sw (by omega) (by omega), h.at_ k, h.at_ (k + 1), h.at_ t]
    repeat' split
    all_goals first
      | rfl
      | (exfalso; omega)
      | (congr 1; omega), by
    have hl := h.len
    refine h.flt.trans (sw_flt (by omega) ?_)
    rw [h.at_ k, h.at_ (k + 1), if_neg (by omega), if_neg (by omega), if_pos rfl]
    omega⟩
theorem MovL.a1 {L M : List Hd} {m k : Nat} (h : MovL L M m k) {t : Nat} (h1 : k < t) (h2 : t ≤ m) : gt M t = gt L (t - 1) := by rw [h.at_ t, if_neg (by omega), if_pos ⟨h1, h2⟩]
theorem MovL.a2 {L M : List Hd} {m k : Nat} (h : MovL L M m k) {t : Nat} (h1 : t = k) : gt M t = gt L m := by rw [h.at_ t, if_pos h1]
theorem MovL.a3 {L M : List Hd} {m k : Nat} (h : MovL L M m k) {t : Nat} (h1 : t < k ∨ m < t) (h2 : k ≤ m) : gt M t = gt L t := by rw [h.at_ t, if_neg (by omega), if_neg (by omega)]
theorem MovL.done {L M : List Hd} {a i m : Nat} (h : MovL L M m i) (hi : a ≤ i) (hib : i ≤ m) (hs : Srt L a m) (h1 : ∀ k, a ≤ k → k < i → (gt L k).spot ≤ (gt L m).spot) (h2 : ∀ k, i ≤ k → k < m → (gt L m).spot < (gt L k).spot) : Srt M a (m + 1) ∧ Keeps L M a (m + 1) := by
  refine ⟨fun p q p1 p2 p3 => ?_, h.len, fun t ht => ?_, fun t t1 t2 => ?_, h.flt⟩
  · by_cases c1 : p = i
    · rw [h.a2 c1]
      by_cases d1 : q = i
      · rw [h.a2 d1]; exact Int.le_refl _
      · rw [h.a1 (by omega) (by omega)]
        have := h2 (q - 1) (by omega) (by omega)
        omega
    · by_cases c2 : i < p
      · rw [h.a1 c2 (by omega), h.a1 (by omega) (by omega)]
        exact hs _ _ (by omega) (by omega) (by omega)
      · rw [h.a3 (by omega) hib]
        by_cases d1 : q = i
        · rw [h.a2 d1]; exact h1 p p1 (by omega)
        · by_cases d2 : i < q
          · rw [h.a1 d2 (by omega)]; exact hs _ _ p1 (by omega) (by omega)
          · rw [h.a3 (by omega) hib]; exact hs _ _ p1 p2 (by omega)
  · by_cases c : t = i
    · omega
    · rw [h.a3 (by omega) hib]
  · by_cases c1 : t = i
    · rw [h.a2 c1]; exact ⟨m, by omega, by omega, rfl⟩
    · by_cases c2 : i < t
      · rw [h.a1 c2 (by omega)]; exact ⟨t - 1, by omega, by omega, rfl⟩
      · rw [h.a3 (by omega) hib]; exact ⟨t, by omega, by omega, rfl⟩

def loM (a m b : Nat) : Nat := if (a + b) / 2 < m then (a + b) / 2 + m - b else a
def hiM (a m b : Nat) : Nat := if (a + b) / 2 < m then (a + b) / 2 else m
/-- Where the search of the merge stands. -/
structure Sea (L : List Hd) (a m b s r : Nat) : Prop where
  lo : loM a m b ≤ s
  mid : s ≤ r
  hi : r ≤ hiM a m b
  low : s = loM a m b ∨ (gt L (s - 1)).spot ≤ (gt L ((a + b) / 2 + m - s)).spot
  up : r = hiM a m b ∨ (gt L ((a + b) / 2 + m - 1 - r)).spot < (gt L r).spot
theorem Sea.start {L : List Hd} {a m b : Nat} (h1 : a < m) (h2 : m < b) : Sea L a m b (loM a m b) (hiM a m b) :=
  ⟨Nat.le_refl _, by unfold loM hiM; split <;> omega, Nat.le_refl _, .inl rfl, .inl rfl⟩
theorem Sea.less {L : List Hd} {a m b s r c : Nat} (h : Sea L a m b s r) (h1 : s ≤ c) (h2 : c < r) (hc : ¬ (gt L ((a + b) / 2 + m - 1 - c)).spot < (gt L c).spot) : Sea L a m b (c + 1) r :=
  ⟨by have := h.lo; omega, by omega, h.hi, .inr (by
    rw [show c + 1 - 1 = c by omega, show (a + b) / 2 + m - (c + 1) = (a + b) / 2 + m - 1 - c by omega]
    omega), h.up⟩
theorem Sea.more {L : List Hd} {a m b s r c : Nat} (h : Sea L a m b s r) (h1 : s ≤ c) (h2 : c < r) (hc : (gt L ((a + b) / 2 + m - 1 - c)).spot < (gt L c).spot) : Sea L a m b s c :=
  ⟨h.lo, h1, by have := h.hi; omega, h.low, .inr hc⟩
theorem Sea.bound {L : List Hd} {a m b s r : Nat} (h : Sea L a m b s r) (h1 : a < m) (h2 : m < b) : a ≤ s ∧ r ≤ m ∧ r ≤ (a + b) / 2 ∧ (a + b) / 2 + m - s ≤ b ∧ m ≤ (a + b) / 2 + m - r := by
  have x1 := h.lo
  have x2 := h.mid
  have x3 := h.hi
  unfold loM at x1
  unfold hiM at x3
  split at x1 <;> rename_i c
  · rw [if_pos c] at x3; omega
  · rw [if_neg c] at x3; omega
structure Cut (L M : List Hd) (a s m e b : Nat) : Prop where
  keep : Keeps L M a b
  s1 : Srt M a s
  s2 : Srt M s ((a + b) / 2)
  s3 : Srt M ((a + b) / 2) e
  s4 : Srt M e b
  mid : ∀ i j, a ≤ i → i < (a + b) / 2 → (a + b) / 2 ≤ j → j < b → (gt M i).spot ≤ (gt M j).spot
theorem Sea.cut {L M : List Hd} {a m b s : Nat} (h : Sea L a m b s s) (h1 : a < m) (h2 : m < b) (hb : b ≤ L.length) (hs1 : Srt L a m) (hs2 : Srt L m b) (hr : RotP L M s m ((a + b) / 2 + m - s)) : Cut L M a s m ((a + b) / 2 + m - s) b := by
  obtain ⟨b1, b2, b3, b4, b5⟩ := h.bound h1 h2
  have hlo := h.low
  have hup := h.up
  have e1 : s + ((a + b) / 2 + m - s - m) = (a + b) / 2 := by omega
  have at_ := hr.at_
  rw [e1] at at_
  have r1 : ∀ i, s ≤ i → i < (a + b) / 2 → gt M i = gt L (i + (m - s)) := fun i i1 i2 => by rw [at_ i, if_pos ⟨i1, i2⟩]
  have r2 : ∀ i, (a + b) / 2 ≤ i → i < (a + b) / 2 + m - s → gt M i = gt L (i - ((a + b) / 2 - s)) := fun i i1 i2 => by rw [at_ i, if_neg (by omega), if_pos ⟨i1, i2⟩]; congr 1; omega
  have r3 : ∀ i, i < s ∨ (a + b) / 2 + m - s ≤ i → gt M i = gt L i := fun i i1 => by rw [at_ i, if_neg (by omega), if_neg (by omega)]
  clear at_
  have hlt : ∀ i j, s ≤ i → i < m → m ≤ j → j < (a + b) / 2 + m - s → (gt L j).spot < (gt L i).spot := fun i j i1 i2 j1 j2 => by
    rcases hup with g | g
    · exfalso
      unfold hiM at g
      split at g <;> omega
    · have := hs2 j ((a + b) / 2 + m - 1 - s) j1 (by omega) (by omega)
      have := hs1 s i b1 i1 i2
      omega
  have hle : ∀ i j, a ≤ i → i < s → (a + b) / 2 + m - s ≤ j → j < b → (gt L i).spot ≤ (gt L j).spot := fun i j i1 i2 j1 j2 => by
    rcases hlo with g | g
    · exfalso
      unfold loM at g
      split at g <;> omega
    · have := hs1 i (s - 1) i1 (by omega) (by omega)
      have := hs2 ((a + b) / 2 + m - s) j (by omega) j1 j2
      omega
  refine ⟨(hr.keeps b2 (by omega) (by omega) hlt).wide b1 b4, ?_, ?_, ?_, ?_, ?_⟩
  · exact (hs1.part (c := a) (d := s) (by omega) b2).same fun i i1 i2 => r3 i (.inl i2)
  · intro i j i1 i2 i3
    rw [r1 i (by omega) (by omega), r1 j (by omega) (by omega)]
    exact hs2 _ _ (by omega) (by omega) (by omega)
  · intro i j i1 i2 i3
    rw [r2 i (by omega) (by omega), r2 j (by omega) (by omega)]
    exact hs1 _ _ (by omega) (by omega) (by omega)
  · exact (hs2.part (c := (a + b) / 2 + m - s) (d := b) (by omega) (by omega)).same fun i i1 i2 => r3 i (.inr i1)
  · intro i j i1 i2 j1 j2
    by_cases c1 : s ≤ i
    · rw [r1 i c1 i2]
      by_cases c2 : j < (a + b) / 2 + m - s
      · rw [r2 j j1 c2]
        have := hlt (j - ((a + b) / 2 - s)) (i + (m - s)) (by omega) (by omega) (by omega) (by omega)
        omega
      · rw [r3 j (by omega)]
        exact hs2 _ _ (by omega) (by omega) j2
    · rw [r3 i (by omega)]
      by_cases c2 : j < (a + b) / 2 + m - s
      · rw [r2 j j1 c2]
        exact hs1 _ _ i1 (by omega) (by omega)
      · rw [r3 j (by omega)]
        exact hle i j i1 (by omega) (by omega) j2
theorem Cut.done {L M N R : List Hd} {a s m e b : Nat} (h : Cut L M a s m e b) (hab : a < b) (h1 : Keeps M N a ((a + b) / 2)) (s1 : Srt N a ((a + b) / 2)) (h2 : Keeps N R ((a + b) / 2) b) (s2 : Srt R ((a + b) / 2) b) : Srt R a b ∧ Keeps L R a b := by
  refine ⟨Srt.join (m := (a + b) / 2) (s1.same fun i i1 i2 => h2.out i (.inl i2)) s2 fun i j i1 i2 j1 j2 => ?_, (h.keep.trans (h1.wide (by omega) (by omega))).trans (h2.wide (by omega) (by omega))⟩
  obtain ⟨k, k1, k2, e1⟩ := h1.mem i i1 i2
  obtain ⟨l, l1, l2, e2⟩ := h2.mem j j1 j2
  rw [h2.out i (.inl i2), e1, e2, h1.out l (.inr l1)]
  exact h.mid k l k1 k2 l1 l2

/-! Blocks. -/
def Blk (L : List Hd) (s lo hi n : Nat) : Prop := ∀ c, s ∣ c → lo ≤ c → c < hi → Srt L c (min (c + s) n)
theorem dvd_next {s c a : Nat} (h1 : s ∣ c) (h2 : s ∣ a) (h : c < a) : c + s ≤ a := by
  have h3 : s ∣ a - c := Nat.dvd_sub h2 h1
  have := Nat.le_of_dvd (by omega) h3
  omega
theorem Blk.first {L : List Hd} {s n : Nat} : Blk L s 0 0 n := fun c _ _ h => by omega
theorem Blk.all {L : List Hd} {s n : Nat} (h : Blk L s 0 n n) (hs : n ≤ s) : Srt L 0 n := by
  by_cases h0 : n = 0
  · intro i j _ _ h3; omega
  · have := h 0 (Nat.dvd_zero s) (Nat.le_refl _) (by omega)
    rwa [Nat.zero_add, Nat.min_eq_right hs] at this
theorem Blk.more {L M : List Hd} {s a n : Nat} (h : Blk L s 0 a n) (hd : s ∣ a) (hs0 : 0 < s) (hk : Keeps L M a (min (a + s) n)) (hs : Srt M a (min (a + s) n)) : Blk M s 0 (a + s) n := fun c c1 c2 c3 => by
  by_cases h1 : c < a
  · have := dvd_next c1 hd h1
    exact (h c c1 c2 h1).same fun i i1 i2 => hk.out i (.inl (by omega))
  · have : c = a := by
      rcases Nat.lt_or_ge a c with g | g
      · have := dvd_next hd c1 g; omega
      · omega
    subst this
    exact hs
theorem Blk.rest {L M : List Hd} {s a n : Nat} (h : Blk L s a n n) (hk : Keeps L M a (a + s + s)) : Blk M s (a + s + s) n n := fun c c1 c2 c3 => by
  exact (h c c1 (by omega) c3).same fun i i1 i2 => hk.out i (.inr (by omega))
end Go.Proofs.Ytembkknplmcamaa

namespace Go.Proofs.Ytembkknplmcamaa
open Go.Ab
attribute [local irreducible] WeakR WeakE CallA YieldA

/-! swapRange and rotate on an array of held loops. -/
/-- A call of a closure in a region that draws. -/
def callvF (P : Program) (x : AV) (args : List AV) (O : Heap) (F : AV → Prop) : Prop := match x with
  | .clo (.func f) a b => callF P f (a ++ args ++ b) O F
  | _ => False
theorem callvF_clo {P : Program} {f : FuncId} {a b args : List AV} {O : Heap} {F : AV → Prop} : callvF P (.clo (.func f) a b) args O F = callF P f (a ++ args ++ b) O F := rfl
theorem drawFun_callv {P : Program} {fx : Operand} {args : List Operand} {e : Env} {O : Heap} {F : AV → Prop} : (∃ V, drawFun P (.callv fx args) e O V ∧ F V) ↔ callvF P (e.opd fx) (args.map e.opd) O F := by
  constructor
  · rintro ⟨V, ⟨f, a, b, h1, h2⟩, h3⟩
    rw [h1]
    exact ⟨V, h2, h3⟩
  · intro h
    unfold callvF at h
    split at h
    · rename_i f a b hx
      obtain ⟨V, h1, h2⟩ := h
      exact ⟨V, ⟨f, a, b, hx, h1⟩, h2⟩
    · exact h.elim
theorem drawW_cv {P : Program} {d : Option Nat} {fx : Operand} {args : List Operand} {rest : List RIns} {K : Env → Prop} {e : Env} {O : Heap} :
    drawW P ((d, none, .callv fx args) :: rest) K e O = callvF P (e.opd fx) (args.map e.opd) O (drF P d rest K e O) := propext drawFun_callv
theorem drawW_gcv {P : Program} {d : Option Nat} {s : Nat} {want : Bool} {fx : Operand} {args : List Operand} {rest : List RIns} {K : Env → Prop} {e : Env} {O : Heap} :
    drawW P ((d, some (s, want), .callv fx args) :: rest) K e O = guardW (e s) want (callvF P (e.opd fx) (args.map e.opd) O (drF P d rest K e O)) (drF P d rest K e O (.val undef)) := by
  show guardW _ _ _ _ = _
  rw [propext (drawFun_callv (F := fun V => drawW P rest K (e.put d V) O))]
  rfl

def arE (L : List Hd) (R : List AV) : List AV := L.map Hd.av ++ R
def stH (O : Heap) (id : Nat) (L : List Hd) (R : List AV) : Heap := O.upd id (.arr 40 5 (arE L R))
def oS (id n : Nat) (c : Option Nat) : AV := .own id 5 0 n c
theorem arE_get {L : List Hd} {R : List AV} {k : Nat} (h : k < L.length) : (arE L R)[k]? = some (gt L k).av := by
  unfold arE
  rw [List.getElem?_append_left (by simpa using h), List.getElem?_map, List.getElem?_eq_getElem h, gt_get h]
  rfl
theorem arE_set {L : List Hd} {R : List AV} {k : Nat} {x : Hd} (h : k < L.length) : (arE L R).set k x.av = arE (L.set k x) R := by
  unfold arE
  rw [List.set_append_left _ _ (by simpa using h), List.map_set]
theorem arE_len (L : List Hd) (R : List AV) : (arE L R).length = L.length + R.length := by simp [arE]
theorem arE_sw {L : List Hd} {R : List AV} {i j : Nat} (hi : i < L.length) (hj : j < L.length) : ((arE L R).set i (gt L j).av).set j (gt L i).av = arE (swp L i j) R := by
  rw [arE_set hi, arE_set (by simpa using hj)]
  rfl

def env61 (s : AV) (a b k : Nat) (f : AV) (i : Nat) : Env := ((((Env.upd (fun _ => .junk) 10 (.val (.int .i64 i))).upd 3 (.val (.int .i64 k))).upd 2 (.val (.int .i64 b))).upd 1 (.val (.int .i64 a))).upd 0 s
theorem SwapR_ok (id n : Nat) (c : Option Nat) (R : List AV) (O : Heap) (fv : AV) (L : List Hd) (hn : L.length = n) (hn2 : n ≤ 100000) (a b k : Nat) (hab : a + k ≤ b) (hb : b + k ≤ n) (K : AV → Heap → Prop) (hk : ∀ M r, SwR L M a b k → K r (stH O id M R)) :
    CallA Try.prog 61 [oS id n c, .val (.int .i64 a), .val (.int .i64 b), .val (.int .i64 k), fv] (stH O id L R) K := by
  refine k61.call mix ?_
  unfold c61
  obtain ⟨I, hI⟩ := hideI (fun m e O' => ∃ (i : Nat) (M : List Hd), i ≤ k ∧ m = k - i ∧ SwR L M a b i ∧ O' = stH O id M R ∧ e = env61 (oS id n c) a b k fv i)
  replace hab := (show Aside _ from hab)
  replace hb := (show Aside _ from hb)
  replace hn := (show Aside _ from hn)
  replace hn2 := (show Aside _ from hn2)
  (repeat' first
    | simp (contextual := true) (maxSteps := 4000000) only [fwc, fwe, fww, reduceIte, ↓reduceIte, Nat.reduceAdd, Nat.reduceLeDiff, Nat.reduceEqDiff, Nat.reduceLT, Nat.reduceSub, reduceCtorEq, Int.reduceEq, Int.reduceLT, Int.reduceLE, Int.reduceNeg, Int.reduceToNat, Int.reduceAdd, Int.reduceSub, Nat.reduceMul, *]
    | (refine seqK_now ?_)
    | (refine retK_now ?_)
    | (refine retK_now' ?_)
    | (intro q hq)
    | (refine cond_intro (fun hc => ?_) (fun hc => ?_)))
  refine cmd_loop I k (by
    rw [hI.out]
    exact ⟨0, L, by omega, by omega, SwR.zero _ _ _, rfl, rfl⟩) ?_
  intro m e O' hh
  rw [hI.out] at hh
  obtain ⟨i, M, hik, rfl, hM, hOH, rfl⟩ := hh
  rw [hOH]
  clear hOH O'
  unfold env61
  replace hM := (show Aside _ from hM)
  by_cases hc : i < k
  rotate_left
  · have e0 : decide (i < k) = false := decide_eq_false hc
    have hki : i = k := by omega
    replace hc := (show Aside _ from hc)
    replace hki := (show Aside _ from hki)
    (repeat' first
    | simp (contextual := true) (maxSteps := 4000000) only [fwc, fwe, fww, reduceIte, ↓reduceIte, Nat.reduceAdd, Nat.reduceLeDiff, Nat.reduceEqDiff, Nat.reduceLT, Nat.reduceSub, reduceCtorEq, Int.reduceEq, Int.reduceLT, Int.reduceLE, Int.reduceNeg, Int.reduceToNat, Int.reduceAdd, Int.reduceSub, Nat.reduceMul, ilt_nat, *]
    | (refine seqK_now ?_)
    | (refine retK_now ?_)
    | (refine retK_now' ?_)
    | (intro q hq)
    | (refine cond_intro (fun hc => ?_) (fun hc => ?_)))
    exact WeakR.now (hk _ _ (by rw [← hki.out]; exact hM.out))
  have e0 : decide (i < k) = true := decide_eq_true hc
  have hl : M.length = n := hM.out.len.trans hn.out
  have h1 : a + i < n := by have := hab.out; have := hb.out; omega
  have h2 : b + i < n := by have := hb.out; omega
  have wa : IntKind.i64.wrap ((a : Int) + (i : Int)) = ((a + i : Nat) : Int) := by have := hn2.out; rw [wrap_i64 (by omega) (by omega)]; omega
  have wb : IntKind.i64.wrap ((b : Int) + (i : Int)) = ((b + i : Nat) : Int) := by have := hn2.out; rw [wrap_i64 (by omega) (by omega)]; omega
  have a1 : indexAddrA 5 ((a + i : Nat) : Int) (.own id 5 0 n c) = some (.optr id 5 (a + i) 0) := by rw [ia_onat h1, Nat.zero_add]
  have a2 : indexAddrA 5 ((b + i : Nat) : Int) (.own id 5 0 n c) = some (.optr id 5 (b + i) 0) := by rw [ia_onat h2, Nat.zero_add]
  have g1 : (arE M R)[a + i]? = some (gt M (a + i)).av := arE_get (by omega)
  have g2 : (arE M R)[b + i]? = some (gt M (b + i)).av := arE_get (by omega)
  have hst := arE_sw (L := M) (R := R) (i := a + i) (j := b + i) (by omega) (by omega)
  have hne : a + i ≠ b + i := by have := hab.out; omega
  have hl1 : a + i + 1 ≤ (arE M R).length := by rw [arE_len]; omega
  have hl2 : b + i + 1 ≤ (arE M R).length := by rw [arE_len]; omega
  have hwi : i < 4611686018427387904 := by have := hn2.out; omega
  generalize gt M (a + i) = x at *
  generalize gt M (b + i) = y at *
  unfold stH oS
  rw [show x.av = .agg [.val (.int .u8 x.id.y), .val (.int .i64 x.id.n), .val (.int .u8 x.bed), .val (.int .i64 x.at_), .val (.int .i64 x.spot)] from rfl] at g1 hst
  rw [show y.av = .agg [.val (.int .u8 y.id.y), .val (.int .i64 y.id.n), .val (.int .u8 y.bed), .val (.int .i64 y.at_), .val (.int .i64 y.spot)] from rfl] at g2 hst
  have hnx : SwR L (swp M (a + i) (b + i)) a b (i + 1) := hM.out.step (by have := hab.out; omega) (by have := hb.out; have := hn.out; omega)
  generalize arE M R = E at *
  generalize a + i = p at *
  generalize b + i = q at *
  have s1 : E.take p ++ [AV.agg [.val (.int .u8 y.id.y), .val (.int .i64 y.id.n), .val (.int .u8 y.bed), .val (.int .i64 y.at_), .val (.int .i64 y.spot)]] ++ E.drop (p + 1) = E.set p (.agg [.val (.int .u8 y.id.y), .val (.int .i64 y.id.n), .val (.int .u8 y.bed), .val (.int .i64 y.at_), .val (.int .i64 y.spot)]) := by rw [List.set_eq_take_append_cons_drop, if_pos (by omega)]; simp
  have g3 : (E.set p (AV.agg [.val (.int .u8 y.id.y), .val (.int .i64 y.id.n), .val (.int .u8 y.bed), .val (.int .i64 y.at_), .val (.int .i64 y.spot)]))[q]? = some (.agg [.val (.int .u8 y.id.y), .val (.int .i64 y.id.n), .val (.int .u8 y.bed), .val (.int .i64 y.at_), .val (.int .i64 y.spot)]) := by rw [List.getElem?_set, if_neg hne]; exact g2
  replace h1 := (show Aside _ from h1)
  replace h2 := (show Aside _ from h2)
  replace hc := (show Aside _ from hc)
  replace hne := (show Aside _ from hne)
  replace hl := (show Aside _ from hl)
  replace hnx := (show Aside _ from hnx)
  refine seq_go ?_
  refine seq_go ?_
  (repeat' first
    | simp (contextual := true) (maxSteps := 4000000) only [fwc, fwe, fww, reduceIte, ↓reduceIte, Nat.reduceAdd, Nat.reduceLeDiff, Nat.reduceEqDiff, Nat.reduceLT, Nat.reduceSub, reduceCtorEq, Int.reduceEq, Int.reduceLT, Int.reduceLE, Int.reduceNeg, Int.reduceToNat, Int.reduceAdd, Int.reduceSub, Nat.reduceMul, ilt_nat, part_cell, part_agg, *]
    | (refine retK_now ?_)
    | (refine retK_now' ?_)
    | (intro q hq)
    | (refine cond_intro (fun hc => ?_) (fun hc => ?_)))
  refine seqK_now ?_
  (repeat' first
    | simp (contextual := true) (maxSteps := 4000000) only [fwc, fwe, fww, reduceIte, ↓reduceIte, Nat.reduceAdd, Nat.reduceLeDiff, Nat.reduceEqDiff, Nat.reduceLT, Nat.reduceSub, reduceCtorEq, Int.reduceEq, Int.reduceLT, Int.reduceLE, Int.reduceNeg, Int.reduceToNat, Int.reduceAdd, Int.reduceSub, Nat.reduceMul, ilt_nat, part_cell, part_agg, *]
    | (refine retK_now ?_)
    | (refine retK_now' ?_)
    | (intro q hq)
    | (refine cond_intro (fun hc => ?_) (fun hc => ?_)))
  refine seqK_now ?_
  refine seq_go ?_
  (repeat' first
    | simp (contextual := true) (maxSteps := 4000000) only [fwc, fwe, fww, reduceIte, ↓reduceIte, Nat.reduceAdd, Nat.reduceLeDiff, Nat.reduceEqDiff, Nat.reduceLT, Nat.reduceSub, reduceCtorEq, Int.reduceEq, Int.reduceLT, Int.reduceLE, Int.reduceNeg, Int.reduceToNat, Int.reduceAdd, Int.reduceSub, Nat.reduceMul, ilt_nat, part_cell, part_agg, *]
    | (refine retK_now ?_)
    | (refine retK_now' ?_)
    | (intro q hq)
    | (refine cond_intro (fun hc => ?_) (fun hc => ?_)))
  refine seqK_now ?_
  (repeat' first
    | simp (contextual := true) (maxSteps := 4000000) only [fwc, fwe, fww, reduceIte, ↓reduceIte, Nat.reduceAdd, Nat.reduceLeDiff, Nat.reduceEqDiff, Nat.reduceLT, Nat.reduceSub, reduceCtorEq, Int.reduceEq, Int.reduceLT, Int.reduceLE, Int.reduceNeg, Int.reduceToNat, Int.reduceAdd, Int.reduceSub, Nat.reduceMul, ilt_nat, part_cell, part_agg, wrap_succ, *]
    | (refine seqK_now ?_)
    | (refine retK_now ?_)
    | (refine retK_now' ?_)
    | (intro q hq)
    | (refine cond_intro (fun hc => ?_) (fun hc => ?_)))
  refine loopK_now (k - (i + 1)) (by have := hc.out; omega) ?_
  rw [hI.out]
  exact ⟨i + 1, _, by have := hc.out; omega, rfl, hnx.out, rfl, rfl⟩
end Go.Proofs.Ytembkknplmcamaa

namespace Go.Proofs.Ytembkknplmcamaa
open Go.Ab
attribute [local irreducible] WeakR WeakE CallA YieldA

def env60 (s : AV) (m : Nat) (f : AV) (i j : Nat) : Env := ((((Env.upd (fun _ => .junk) 11 (.val (.int .i64 j))).upd 10 (.val (.int .i64 i))).upd 4 f).upd 2 (.val (.int .i64 m))).upd 0 s
theorem Rot_ok (id n : Nat) (c : Option Nat) (R : List AV) (O : Heap) (L : List Hd) (hn : L.length = n) (hn2 : n ≤ 100000) (a m b : Nat) (ham : a < m) (hmb : m < b) (hb : b ≤ n) (K : AV → Heap → Prop) (hk : ∀ M r, RotP L M a m b → K r (stH O id M R)) :
    CallA Try.prog 60 [oS id n c, .val (.int .i64 a), .val (.int .i64 m), .val (.int .i64 b), .clo (.func 38) [] []] (stH O id L R) K := by
  refine k60.call mix ?_
  unfold c60
  obtain ⟨I, hI⟩ := hideI (fun t e O' => ∃ (i j : Nat) (M : List Hd), 0 < i ∧ 0 < j ∧ i ≤ m ∧ m + j ≤ n ∧ t = i + j ∧ M.length = n ∧ (∀ M', RotP M M' (m - i) m (m + j) → RotP L M' a m b) ∧ O' = stH O id M R ∧ e = env60 (oS id n c) m (.clo (.func 38) [] []) i j)
  have w1 : IntKind.i64.wrap ((m : Int) - (a : Int)) = ((m - a : Nat) : Int) := by rw [wrap_i64 (by omega) (by omega)]; omega
  have w2 : IntKind.i64.wrap ((b : Int) - (m : Int)) = ((b - m : Nat) : Int) := by rw [wrap_i64 (by omega) (by omega)]; omega
  replace ham := (show Aside _ from ham)
  replace hmb := (show Aside _ from hmb)
  replace hb := (show Aside _ from hb)
  replace hn := (show Aside _ from hn)
  replace hn2 := (show Aside _ from hn2)
  refine seq_go ?_
  (repeat' first
    | simp (contextual := true) (maxSteps := 4000000) only [fwc, fwe, fww, reduceIte, ↓reduceIte, Nat.reduceAdd, Nat.reduceLeDiff, Nat.reduceEqDiff, Nat.reduceLT, Nat.reduceSub, reduceCtorEq, Int.reduceEq, Int.reduceLT, Int.reduceLE, Int.reduceNeg, Int.reduceToNat, Int.reduceAdd, Int.reduceSub, Nat.reduceMul, *]
    | (refine retK_now ?_)
    | (refine retK_now' ?_)
    | (intro q hq)
    | (refine cond_intro (fun hc => ?_) (fun hc => ?_)))
  refine seqK_now ?_
  refine seq_go ?_
  (repeat' first
    | simp (contextual := true) (maxSteps := 4000000) only [fwc, fwe, fww, reduceIte, ↓reduceIte, Nat.reduceAdd, Nat.reduceLeDiff, Nat.reduceEqDiff, Nat.reduceLT, Nat.reduceSub, reduceCtorEq, Int.reduceEq, Int.reduceLT, Int.reduceLE, Int.reduceNeg, Int.reduceToNat, Int.reduceAdd, Int.reduceSub, Nat.reduceMul, *]
    | (refine retK_now ?_)
    | (refine retK_now' ?_)
    | (intro q hq)
    | (refine cond_intro (fun hc => ?_) (fun hc => ?_)))
  refine seqK_now ?_
  refine seq_go ?_
  (repeat' first
    | simp (contextual := true) (maxSteps := 4000000) only [fwc, fwe, fww, reduceIte, ↓reduceIte, Nat.reduceAdd, Nat.reduceLeDiff, Nat.reduceEqDiff, Nat.reduceLT, Nat.reduceSub, reduceCtorEq, Int.reduceEq, Int.reduceLT, Int.reduceLE, Int.reduceNeg, Int.reduceToNat, Int.reduceAdd, Int.reduceSub, Nat.reduceMul, *]
    | (refine retK_now ?_)
    | (refine retK_now' ?_)
    | (intro q hq)
    | (refine cond_intro (fun hc => ?_) (fun hc => ?_)))
  refine cmd_loop I (m - a + (b - m)) (by
    have := ham.out
    have := hmb.out
    have := hb.out
    rw [hI.out]
    exact ⟨m - a, b - m, L, by omega, by omega, by omega, by omega, rfl, hn.out, fun M' h => by rw [show m - (m - a) = a by omega, show m + (b - m) = b by omega] at h; exact h, rfl, rfl⟩) ?_
  clear w1 w2
  intro t e O' hh
  rw [hI.out] at hh
  obtain ⟨i, j, M, i0, j0, him, hmj, rfl, hM, hrot, hOH, rfl⟩ := hh
  rw [hOH]
  clear hOH O'
  unfold env60
  have hn2' := hn2.out
  have wi : IntKind.i64.wrap ((m : Int) - (i : Int)) = ((m - i : Nat) : Int) := by rw [wrap_i64 (by omega) (by omega)]; omega
  have wj : IntKind.i64.wrap ((m : Int) + (j : Int)) = ((m + j : Nat) : Int) := by rw [wrap_i64 (by omega) (by omega)]; omega
  have dij : decide ((i : Int) = (j : Int)) = decide (i = j) := decide_eq_decide.2 (by omega)
  have dji : decide ((j : Int) < (i : Int)) = decide (j < i) := decide_eq_decide.2 (by omega)
  replace i0 := (show Aside _ from i0)
  replace j0 := (show Aside _ from j0)
  replace him := (show Aside _ from him)
  replace hmj := (show Aside _ from hmj)
  replace hM := (show Aside _ from hM)
  replace hrot := (show Aside _ from hrot)
  by_cases hij : i = j
  · have e0 : decide (i = j) = true := decide_eq_true hij
    replace hij := (show Aside _ from hij)
    (repeat' first
    | simp (contextual := true) (maxSteps := 4000000) only [fwc, fwe, fww, reduceIte, ↓reduceIte, Nat.reduceAdd, Nat.reduceLeDiff, Nat.reduceEqDiff, Nat.reduceLT, Nat.reduceSub, reduceCtorEq, Int.reduceEq, Int.reduceLT, Int.reduceLE, Int.reduceNeg, Int.reduceToNat, Int.reduceAdd, Int.reduceSub, Nat.reduceMul, *]
    | (refine seqK_now ?_)
    | (refine retK_now ?_)
    | (refine retK_now' ?_)
    | (intro q hq)
    | (refine cond_intro (fun hc => ?_) (fun hc => ?_)))
    refine SwapR_ok id n c R O _ M hM.out hn2' (m - i) m i (by have := him.out; omega) (by have := hij.out; have := hmj.out; omega) _ fun N r hN => ?_
    replace hN := (show Aside _ from hN)
    (repeat' first
    | simp (contextual := true) (maxSteps := 4000000) only [fwc, fwe, fww, reduceIte, ↓reduceIte, Nat.reduceAdd, Nat.reduceLeDiff, Nat.reduceEqDiff, Nat.reduceLT, Nat.reduceSub, reduceCtorEq, Int.reduceEq, Int.reduceLT, Int.reduceLE, Int.reduceNeg, Int.reduceToNat, Int.reduceAdd, Int.reduceSub, Nat.reduceMul, *]
    | (refine seqK_now ?_)
    | (refine retK_now ?_)
    | (refine retK_now' ?_)
    | (intro q hq)
    | (refine cond_intro (fun hc => ?_) (fun hc => ?_)))
    exact WeakR.now (hk _ _ (hrot.out _ (by have := hij.out; subst this; exact RotP.last him.out hN.out)))
  have e0 : decide (i = j) = false := decide_eq_false hij
  by_cases hlt : j < i
  · have e1 : decide (j < i) = true := decide_eq_true hlt
    have w3 : IntKind.i64.wrap ((i : Int) - (j : Int)) = ((i - j : Nat) : Int) := by have := him.out; have := hmj.out; rw [wrap_i64 (by omega) (by omega)]; omega
    replace hij := (show Aside _ from hij)
    replace hlt := (show Aside _ from hlt)
    (repeat' first
    | simp (contextual := true) (maxSteps := 4000000) only [fwc, fwe, fww, reduceIte, ↓reduceIte, Nat.reduceAdd, Nat.reduceLeDiff, Nat.reduceEqDiff, Nat.reduceLT, Nat.reduceSub, reduceCtorEq, Int.reduceEq, Int.reduceLT, Int.reduceLE, Int.reduceNeg, Int.reduceToNat, Int.reduceAdd, Int.reduceSub, Nat.reduceMul, *]
    | (refine seqK_now ?_)
    | (refine retK_now ?_)
    | (refine retK_now' ?_)
    | (intro q hq)
    | (refine cond_intro (fun hc => ?_) (fun hc => ?_)))
    refine SwapR_ok id n c R O _ M hM.out hn2' (m - i) m j (by have := him.out; have := hlt.out; omega) (by have := hmj.out; omega) _ fun N r hN => ?_
    replace hN := (show Aside _ from hN)
    (repeat' first
    | simp (contextual := true) (maxSteps := 4000000) only [fwc, fwe, fww, reduceIte, ↓reduceIte, Nat.reduceAdd, Nat.reduceLeDiff, Nat.reduceEqDiff, Nat.reduceLT, Nat.reduceSub, reduceCtorEq, Int.reduceEq, Int.reduceLT, Int.reduceLE, Int.reduceNeg, Int.reduceToNat, Int.reduceAdd, Int.reduceSub, Nat.reduceMul, *]
    | (refine seqK_now ?_)
    | (refine retK_now ?_)
    | (refine retK_now' ?_)
    | (intro q hq)
    | (refine cond_intro (fun hc => ?_) (fun hc => ?_)))
    refine loopK_now (i - j + j) (by have := j0.out; have := hlt.out; omega) ?_
    rw [hI.out]
    have := hlt.out
    have := j0.out
    have := him.out
    exact ⟨i - j, j, N, by omega, j0.out, by omega, hmj.out, rfl, hN.out.len.trans hM.out, fun M' h => hrot.out _ (RotP.left him.out hlt.out j0.out hN.out h), rfl, rfl⟩
  · have e1 : decide (j < i) = false := decide_eq_false hlt
    have hlt : i < j := by omega
    have w3 : IntKind.i64.wrap ((j : Int) - (i : Int)) = ((j - i : Nat) : Int) := by have := him.out; have := hmj.out; rw [wrap_i64 (by omega) (by omega)]; omega
    have w4 : IntKind.i64.wrap (((m + j : Nat) : Int) - (i : Int)) = ((m + j - i : Nat) : Int) := by have := him.out; have := hmj.out; rw [wrap_i64 (by omega) (by omega)]; omega
    replace hij := (show Aside _ from hij)
    replace hlt := (show Aside _ from hlt)
    (repeat' first
    | simp (contextual := true) (maxSteps := 4000000) only [fwc, fwe, fww, reduceIte, ↓reduceIte, Nat.reduceAdd, Nat.reduceLeDiff, Nat.reduceEqDiff, Nat.reduceLT, Nat.reduceSub, reduceCtorEq, Int.reduceEq, Int.reduceLT, Int.reduceLE, Int.reduceNeg, Int.reduceToNat, Int.reduceAdd, Int.reduceSub, Nat.reduceMul, *]
    | (refine seqK_now ?_)
    | (refine retK_now ?_)
    | (refine retK_now' ?_)
    | (intro q hq)
    | (refine cond_intro (fun hc => ?_) (fun hc => ?_)))
    refine SwapR_ok id n c R O _ M hM.out hn2' (m - i) (m + j - i) i (by have := him.out; have := hlt.out; omega) (by have := hmj.out; have := hlt.out; omega) _ fun N r hN => ?_
    replace hN := (show Aside _ from hN)
    (repeat' first
    | simp (contextual := true) (maxSteps := 4000000) only [fwc, fwe, fww, reduceIte, ↓reduceIte, Nat.reduceAdd, Nat.reduceLeDiff, Nat.reduceEqDiff, Nat.reduceLT, Nat.reduceSub, reduceCtorEq, Int.reduceEq, Int.reduceLT, Int.reduceLE, Int.reduceNeg, Int.reduceToNat, Int.reduceAdd, Int.reduceSub, Nat.reduceMul, *]
    | (refine seqK_now ?_)
    | (refine retK_now ?_)
    | (refine retK_now' ?_)
    | (intro q hq)
    | (refine cond_intro (fun hc => ?_) (fun hc => ?_)))
    have := hlt.out
    have := i0.out
    have := him.out
    have := hmj.out
    refine loopK_now (i + (j - i)) (by omega) ?_
    rw [hI.out]
    exact ⟨i, j - i, N, i0.out, by omega, him.out, by omega, rfl, hN.out.len.trans hM.out, fun M' h => hrot.out _ (RotP.right him.out hlt.out i0.out hN.out h), rfl, rfl⟩

def cmpL (x y : Int) : Int := if x < y then -1 else if y < x then 1 else 0
theorem cmpL_neg (x y : Int) : decide (cmpL x y < 0) = decide (x < y) := by
  unfold cmpL
  by_cases h : x < y
  · simp [h]
  · rw [if_neg h]
    by_cases h2 : y < x
    · simp [h, h2]
    · simp [h, h2]
theorem isNaN_ok (x : Int) : PureA Try.prog 55 [.val (.int .i64 x)] (.val (.bool false)) := by
  intro O
  refine k55.call mix ?_
  unfold c55
  have : decide (x = x) = true := decide_eq_true rfl
  (repeat' first
    | simp (contextual := true) (maxSteps := 4000000) only [fwc, fwe, fww, reduceIte, ↓reduceIte, Nat.reduceAdd, Nat.reduceLeDiff, Nat.reduceEqDiff, Nat.reduceLT, Nat.reduceSub, reduceCtorEq, Int.reduceEq, Int.reduceLT, Int.reduceLE, Int.reduceNeg, Int.reduceToNat, Int.reduceAdd, Int.reduceSub, Nat.reduceMul, *]
    | (refine seqK_now ?_)
    | (refine retK_now ?_)
    | (refine retK_now' ?_)
    | (intro q hq)
    | (refine cond_intro (fun hc => ?_) (fun hc => ?_)))
  refine WeakR.pure (by repeat (first | exact Heap.sub_refl _ | refine sub_upd (by simp only [*]) ?_)) ?_
  rfl
theorem Compare_ok (x y : Int) : PureA Try.prog 39 [.val (.int .i64 x), .val (.int .i64 y)] (.val (.int .i64 (cmpL x y))) := by
  intro O
  have h1 := isNaN_ok x
  have h2 := isNaN_ok y
  refine k39.call mix ?_
  unfold c39
  by_cases c1 : x < y
  · have e1 : decide (x < y) = true := decide_eq_true c1
    have hr : cmpL x y = -1 := if_pos c1
    rw [hr]
    replace c1 := (show Aside _ from c1)
    (repeat' first
    | simp (contextual := true) (maxSteps := 4000000) only [fwc, fwe, fww, reduceIte, ↓reduceIte, Nat.reduceAdd, Nat.reduceLeDiff, Nat.reduceEqDiff, Nat.reduceLT, Nat.reduceSub, reduceCtorEq, Int.reduceEq, Int.reduceLT, Int.reduceLE, Int.reduceNeg, Int.reduceToNat, Int.reduceAdd, Int.reduceSub, Nat.reduceMul, *]
    | (refine seqK_now ?_)
    | (refine retK_now ?_)
    | (refine retK_now' ?_)
    | (intro q hq)
    | (refine cond_intro (fun hc => ?_) (fun hc => ?_)))
    refine h1.use ?_
    (repeat' first
    | simp (contextual := true) (maxSteps := 4000000) only [fwc, fwe, fww, reduceIte, ↓reduceIte, Nat.reduceAdd, Nat.reduceLeDiff, Nat.reduceEqDiff, Nat.reduceLT, Nat.reduceSub, reduceCtorEq, Int.reduceEq, Int.reduceLT, Int.reduceLE, Int.reduceNeg, Int.reduceToNat, Int.reduceAdd, Int.reduceSub, Nat.reduceMul, *]
    | (refine seqK_now ?_)
    | (refine retK_now ?_)
    | (refine retK_now' ?_)
    | (intro q hq)
    | (refine cond_intro (fun hc => ?_) (fun hc => ?_)))
    refine h2.use ?_
    (repeat' first
    | simp (contextual := true) (maxSteps := 4000000) only [fwc, fwe, fww, reduceIte, ↓reduceIte, Nat.reduceAdd, Nat.reduceLeDiff, Nat.reduceEqDiff, Nat.reduceLT, Nat.reduceSub, reduceCtorEq, Int.reduceEq, Int.reduceLT, Int.reduceLE, Int.reduceNeg, Int.reduceToNat, Int.reduceAdd, Int.reduceSub, Nat.reduceMul, *]
    | (refine seqK_now ?_)
    | (refine retK_now ?_)
    | (refine retK_now' ?_)
    | (intro q hq)
    | (refine cond_intro (fun hc => ?_) (fun hc => ?_)))
    refine WeakR.pure (by repeat (first | exact Heap.sub_refl _ | refine sub_upd (by simp only [*]) ?_)) ?_
    rfl
  · have e1 : decide (x < y) = false := decide_eq_false c1
    by_cases c2 : y < x
    · have e2 : decide (y < x) = true := decide_eq_true c2
      have hr : cmpL x y = 1 := by unfold cmpL; rw [if_neg c1, if_pos c2]
      rw [hr]
      replace c1 := (show Aside _ from c1)
      replace c2 := (show Aside _ from c2)
      (repeat' first
    | simp (contextual := true) (maxSteps := 4000000) only [fwc, fwe, fww, reduceIte, ↓reduceIte, Nat.reduceAdd, Nat.reduceLeDiff, Nat.reduceEqDiff, Nat.reduceLT, Nat.reduceSub, reduceCtorEq, Int.reduceEq, Int.reduceLT, Int.reduceLE, Int.reduceNeg, Int.reduceToNat, Int.reduceAdd, Int.reduceSub, Nat.reduceMul, *]
    | (refine seqK_now ?_)
    | (refine retK_now ?_)
    | (refine retK_now' ?_)
    | (intro q hq)
    | (refine cond_intro (fun hc => ?_) (fun hc => ?_)))
      refine h1.use ?_
      (repeat' first
    | simp (contextual := true) (maxSteps := 4000000) only [fwc, fwe, fww, reduceIte, ↓reduceIte, Nat.reduceAdd, Nat.reduceLeDiff, Nat.reduceEqDiff, Nat.reduceLT, Nat.reduceSub, reduceCtorEq, Int.reduceEq, Int.reduceLT, Int.reduceLE, Int.reduceNeg, Int.reduceToNat, Int.reduceAdd, Int.reduceSub, Nat.reduceMul, *]
    | (refine seqK_now ?_)
    | (refine retK_now ?_)
    | (refine retK_now' ?_)
    | (intro q hq)
    | (refine cond_intro (fun hc => ?_) (fun hc => ?_)))
      refine h2.use ?_
      (repeat' first
    | simp (contextual := true) (maxSteps := 4000000) only [fwc, fwe, fww, reduceIte, ↓reduceIte, Nat.reduceAdd, Nat.reduceLeDiff, Nat.reduceEqDiff, Nat.reduceLT, Nat.reduceSub, reduceCtorEq, Int.reduceEq, Int.reduceLT, Int.reduceLE, Int.reduceNeg, Int.reduceToNat, Int.reduceAdd, Int.reduceSub, Nat.reduceMul, *]
    | (refine seqK_now ?_)
    | (refine retK_now ?_)
    | (refine retK_now' ?_)
    | (intro q hq)
    | (refine cond_intro (fun hc => ?_) (fun hc => ?_)))
      refine WeakR.pure (by repeat (first | exact Heap.sub_refl _ | refine sub_upd (by simp only [*]) ?_)) ?_
      rfl
    · have e2 : decide (y < x) = false := decide_eq_false c2
      have hr : cmpL x y = 0 := by unfold cmpL; rw [if_neg c1, if_neg c2]
      rw [hr]
      replace c1 := (show Aside _ from c1)
      replace c2 := (show Aside _ from c2)
      (repeat' first
    | simp (contextual := true) (maxSteps := 4000000) only [fwc, fwe, fww, reduceIte, ↓reduceIte, Nat.reduceAdd, Nat.reduceLeDiff, Nat.reduceEqDiff, Nat.reduceLT, Nat.reduceSub, reduceCtorEq, Int.reduceEq, Int.reduceLT, Int.reduceLE, Int.reduceNeg, Int.reduceToNat, Int.reduceAdd, Int.reduceSub, Nat.reduceMul, *]
    | (refine seqK_now ?_)
    | (refine retK_now ?_)
    | (refine retK_now' ?_)
    | (intro q hq)
    | (refine cond_intro (fun hc => ?_) (fun hc => ?_)))
      refine h1.use ?_
      (repeat' first
    | simp (contextual := true) (maxSteps := 4000000) only [fwc, fwe, fww, reduceIte, ↓reduceIte, Nat.reduceAdd, Nat.reduceLeDiff, Nat.reduceEqDiff, Nat.reduceLT, Nat.reduceSub, reduceCtorEq, Int.reduceEq, Int.reduceLT, Int.reduceLE, Int.reduceNeg, Int.reduceToNat, Int.reduceAdd, Int.reduceSub, Nat.reduceMul, *]
    | (refine seqK_now ?_)
    | (refine retK_now ?_)
    | (refine retK_now' ?_)
    | (intro q hq)
    | (refine cond_intro (fun hc => ?_) (fun hc => ?_)))
      refine h2.use ?_
      (repeat' first
    | simp (contextual := true) (maxSteps := 4000000) only [fwc, fwe, fww, reduceIte, ↓reduceIte, Nat.reduceAdd, Nat.reduceLeDiff, Nat.reduceEqDiff, Nat.reduceLT, Nat.reduceSub, reduceCtorEq, Int.reduceEq, Int.reduceLT, Int.reduceLE, Int.reduceNeg, Int.reduceToNat, Int.reduceAdd, Int.reduceSub, Nat.reduceMul, *]
    | (refine seqK_now ?_)
    | (refine retK_now ?_)
    | (refine retK_now' ?_)
    | (intro q hq)
    | (refine cond_intro (fun hc => ?_) (fun hc => ?_)))
      refine WeakR.pure (by repeat (first | exact Heap.sub_refl _ | refine sub_upd (by simp only [*]) ?_)) ?_
      rfl
theorem cmp_ok (x y : Hd) : PureA Try.prog 38 [x.av, y.av] (.val (.int .i64 (cmpL x.spot y.spot))) := by
  intro O
  have h := Compare_ok x.spot y.spot
  refine k38.call mix ?_
  unfold c38 Hd.av
  (repeat' first
    | simp (contextual := true) (maxSteps := 4000000) only [fwc, fwe, fww, reduceIte, ↓reduceIte, Nat.reduceAdd, Nat.reduceLeDiff, Nat.reduceEqDiff, Nat.reduceLT, Nat.reduceSub, reduceCtorEq, Int.reduceEq, Int.reduceLT, Int.reduceLE, Int.reduceNeg, Int.reduceToNat, Int.reduceAdd, Int.reduceSub, Nat.reduceMul, part_cell, part_agg, *]
    | (refine seqK_now ?_)
    | (refine retK_now ?_)
    | (refine retK_now' ?_)
    | (intro q hq)
    | (refine cond_intro (fun hc => ?_) (fun hc => ?_)))
  refine h.use ?_
  (repeat' first
    | simp (contextual := true) (maxSteps := 4000000) only [fwc, fwe, fww, reduceIte, ↓reduceIte, Nat.reduceAdd, Nat.reduceLeDiff, Nat.reduceEqDiff, Nat.reduceLT, Nat.reduceSub, reduceCtorEq, Int.reduceEq, Int.reduceLT, Int.reduceLE, Int.reduceNeg, Int.reduceToNat, Int.reduceAdd, Int.reduceSub, Nat.reduceMul, *]
    | (refine seqK_now ?_)
    | (refine retK_now ?_)
    | (refine retK_now' ?_)
    | (intro q hq)
    | (refine cond_intro (fun hc => ?_) (fun hc => ?_)))
  refine WeakR.pure (by repeat (first | exact Heap.sub_refl _ | refine sub_upd (by simp only [*]) ?_)) ?_
  rfl
end Go.Proofs.Ytembkknplmcamaa
