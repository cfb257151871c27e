/- The law OrdersMeets of the given program: for every input the call returns true, and its arguments read as before. Here: contracts of functions, and the law. -/
import Derived.Test.YtembkknplmcamaaFd
import Derived.Test.YtembkknplmcamaaFc
set_option linter.unusedSimpArgs false
set_option linter.unusedVariables false
namespace Go.Proofs.Ytembkknplmcamaa
open Go.Ab
attribute [local irreducible] WeakR WeakE CallA YieldA

theorem mix : Try.prog.follows .mixedOrders = true := by kernel_rfl

structure Id where
  y : Int
  n : Int
deriving DecidableEq
def Id.av (p : Id) : AV := .agg [.val (.int .u8 p.y), .val (.int .i64 p.n)]
def named (p : Id) : Bool := decide (1 ≤ p.y) && decide (p.y ≤ 6) && decide (0 ≤ p.n) && decide (p.n < 2048)

theorem Named_ok (p : Id) : PureA Try.prog 52 [p.av] (.val (.bool (named p))) := by
  intro O
  refine k52.call mix ?_
  unfold c52 Id.av
  (repeat' first
    | simp (contextual := true) (maxSteps := 4000000) only [fwc, fwe, fww, reduceIte, ↓reduceIte, Nat.reduceAdd, Nat.reduceLeDiff, Nat.reduceEqDiff, Nat.reduceLT, Nat.reduceSub, reduceCtorEq, Int.reduceEq, Int.reduceLT, Int.reduceLE, Int.reduceNeg, Int.reduceToNat, Int.reduceAdd, Int.reduceSub, Nat.reduceMul, *]
    | (refine seqK_now ?_)
    | (refine retK_now ?_)
    | (refine retK_now' ?_)
    | (intro q hq)
    | (refine cond_intro (fun hc => ?_) (fun hc => ?_)))
  refine WeakR.pure (by repeat (first | exact Heap.sub_refl _ | refine sub_upd (by simp only [*]) ?_)) ?_
  rfl

structure Ndl where
  bed : Int
  at_ : Int
deriving DecidableEq
def Ndl.av (n : Ndl) : AV := .agg [.val (.int .u8 n.bed), .val (.int .i64 n.at_)]
def Ndl.bad (n : Ndl) : Bool := decide (1 < n.bed) || decide (n.at_ < 1) || decide (40 < n.at_)

theorem NdlCheck_ok (n : Ndl) : PureA Try.prog 41 [n.av] (.val (.int .i64 (if n.bad = true then 1 else 0))) := by
  intro O
  refine k41.call mix ?_
  unfold c41 Ndl.av
  (repeat' first
    | simp (contextual := true) (maxSteps := 4000000) only [fwc, fwe, fww, reduceIte, ↓reduceIte, Nat.reduceAdd, Nat.reduceLeDiff, Nat.reduceEqDiff, Nat.reduceLT, Nat.reduceSub, reduceCtorEq, Int.reduceEq, Int.reduceLT, Int.reduceLE, Int.reduceNeg, Int.reduceToNat, Int.reduceAdd, Int.reduceSub, Nat.reduceMul, *]
    | (refine seqK_now ?_)
    | (refine retK_now ?_)
    | (refine retK_now' ?_)
    | (intro q hq)
    | (refine cond_intro (fun hc => ?_) (fun hc => ?_)))
  all_goals
    have hb : n.bad = _ := hc
    refine WeakR.pure (by repeat (first | exact Heap.sub_refl _ | refine sub_upd (by simp only [*]) ?_)) ?_
    simp only [hb, if_true, Bool.false_eq_true, if_false]

theorem Clip_list (t : Bool) (l : List AV) : PureA Try.prog 44 [.list 2 t l] (.list 2 true l) := by
  intro O
  refine k44.call mix ?_
  unfold c44
  (repeat' first
    | simp (contextual := true) (maxSteps := 4000000) only [fwc, fwe, fww, reduceIte, ↓reduceIte, Nat.reduceAdd, Nat.reduceLeDiff, Nat.reduceEqDiff, Nat.reduceLT, Nat.reduceSub, reduceCtorEq, Int.reduceEq, Int.reduceLT, Int.reduceLE, Int.reduceNeg, Int.reduceToNat, Int.reduceAdd, Int.reduceSub, Nat.reduceMul, *]
    | (refine seqK_now ?_)
    | (refine retK_now ?_)
    | (refine retK_now' ?_)
    | (intro q hq)
    | (refine cond_intro (fun hc => ?_) (fun hc => ?_)))
  rw [slice_list_mx (a := 0) (b := l.length) (c := l.length) (by simp [bound_none]) (by simp [bound_int]) (by simp [bound_int]) (by omega) (by omega) (by omega)]
  (repeat' first
    | simp (contextual := true) (maxSteps := 4000000) only [fwc, fwe, fww, reduceIte, ↓reduceIte, Nat.reduceAdd, Nat.reduceLeDiff, Nat.reduceEqDiff, Nat.reduceLT, Nat.reduceSub, reduceCtorEq, Int.reduceEq, Int.reduceLT, Int.reduceLE, Int.reduceNeg, Int.reduceToNat, Int.reduceAdd, Int.reduceSub, Nat.reduceMul, *]
    | (refine seqK_now ?_)
    | (refine retK_now ?_)
    | (refine retK_now' ?_)
    | (intro q hq)
    | (refine cond_intro (fun hc => ?_) (fun hc => ?_)))
  refine WeakR.pure (by repeat (first | exact Heap.sub_refl _ | refine sub_upd (by simp only [*]) ?_)) ?_
  simp
theorem Clip_nil : PureA Try.prog 44 [.val (.slice none 0 0)] (.val (.slice none 0 0)) := by
  intro O
  refine k44.call mix ?_
  unfold c44
  (repeat' first
    | simp (contextual := true) (maxSteps := 4000000) only [fwc, fwe, fww, reduceIte, ↓reduceIte, Nat.reduceAdd, Nat.reduceLeDiff, Nat.reduceEqDiff, Nat.reduceLT, Nat.reduceSub, reduceCtorEq, Int.reduceEq, Int.reduceLT, Int.reduceLE, Int.reduceNeg, Int.reduceToNat, Int.reduceAdd, Int.reduceSub, Nat.reduceMul, *]
    | (refine seqK_now ?_)
    | (refine retK_now ?_)
    | (refine retK_now' ?_)
    | (intro q hq)
    | (refine cond_intro (fun hc => ?_) (fun hc => ?_)))
  have h : sliceA 2 (.val (.slice none 0 0)) none (some (.val (.int .i64 0))) (some (.val (.int .i64 0))) = some (.val (.slice none 0 0)) := rfl
  rw [h]
  (repeat' first
    | simp (contextual := true) (maxSteps := 4000000) only [fwc, fwe, fww, reduceIte, ↓reduceIte, Nat.reduceAdd, Nat.reduceLeDiff, Nat.reduceEqDiff, Nat.reduceLT, Nat.reduceSub, reduceCtorEq, Int.reduceEq, Int.reduceLT, Int.reduceLE, Int.reduceNeg, Int.reduceToNat, Int.reduceAdd, Int.reduceSub, Nat.reduceMul, *]
    | (refine seqK_now ?_)
    | (refine retK_now ?_)
    | (refine retK_now' ?_)
    | (intro q hq)
    | (refine cond_intro (fun hc => ?_) (fun hc => ?_)))
  refine WeakR.pure (by repeat (first | exact Heap.sub_refl _ | refine sub_upd (by simp only [*]) ?_)) ?_
  rfl
theorem Clone_nil : PureA Try.prog 45 [.val (.slice none 0 0)] (.val (.slice none 0 0)) := by
  intro O
  refine k45.call mix ?_
  unfold c45
  (repeat' first
    | simp (contextual := true) (maxSteps := 4000000) only [fwc, fwe, fww, reduceIte, ↓reduceIte, Nat.reduceAdd, Nat.reduceLeDiff, Nat.reduceEqDiff, Nat.reduceLT, Nat.reduceSub, reduceCtorEq, Int.reduceEq, Int.reduceLT, Int.reduceLE, Int.reduceNeg, Int.reduceToNat, Int.reduceAdd, Int.reduceSub, Nat.reduceMul, *]
    | (refine seqK_now ?_)
    | (refine retK_now ?_)
    | (refine retK_now' ?_)
    | (intro q hq)
    | (refine cond_intro (fun hc => ?_) (fun hc => ?_)))
  refine WeakR.pure (by repeat (first | exact Heap.sub_refl _ | refine sub_upd (by simp only [*]) ?_)) ?_
  rfl
theorem Clone_list (t : Bool) (l : List AV) (hl : l.length ≤ 1048576) : PureA Try.prog 45 [.list 2 t l] (.list 2 false l) := by
  intro O
  refine k45.call mix ?_
  unfold c45
  (repeat' first
    | simp (contextual := true) (maxSteps := 4000000) only [fwc, fwe, fww, reduceIte, ↓reduceIte, Nat.reduceAdd, Nat.reduceLeDiff, Nat.reduceEqDiff, Nat.reduceLT, Nat.reduceSub, reduceCtorEq, Int.reduceEq, Int.reduceLT, Int.reduceLE, Int.reduceNeg, Int.reduceToNat, Int.reduceAdd, Int.reduceSub, Nat.reduceMul, *]
    | (refine seqK_now ?_)
    | (refine retK_now ?_)
    | (refine retK_now' ?_)
    | (intro q hq)
    | (refine cond_intro (fun hc => ?_) (fun hc => ?_)))
  refine app_list (el_list _ _ _ _) ?_ ?_
  · exact fits_of (by simp only [List.length_nil, List.length_cons, Nat.zero_add, List.length_map, List.length_append, List.length_take, List.length_drop]; omega) (by omega)
  (repeat' first
    | simp (contextual := true) (maxSteps := 4000000) only [fwc, fwe, fww, reduceIte, ↓reduceIte, Nat.reduceAdd, Nat.reduceLeDiff, Nat.reduceEqDiff, Nat.reduceLT, Nat.reduceSub, reduceCtorEq, Int.reduceEq, Int.reduceLT, Int.reduceLE, Int.reduceNeg, Int.reduceToNat, Int.reduceAdd, Int.reduceSub, Nat.reduceMul, *]
    | (refine seqK_now ?_)
    | (refine retK_now ?_)
    | (refine retK_now' ?_)
    | (intro q hq)
    | (refine cond_intro (fun hc => ?_) (fun hc => ?_)))
  refine WeakR.pure (by repeat (first | exact Heap.sub_refl _ | refine sub_upd (by simp only [*]) ?_)) ?_
  rfl
def cpS : AV → AV
  | .list s _ l => .list s true l
  | x => x
theorem cpS_T {sz : Nat} {s : AV} {L : List AV} (h : IsL sz s L) : IsT sz (cpS s) L := by
  rcases h with ⟨rfl, rfl⟩ | ⟨t, rfl⟩
  · exact IsT.nil
  · exact IsT.list
def cl2 : AV → AV
  | .list s _ l => .list s false l
  | x => x
theorem Clone_ok {s : AV} {L : List AV} (h : IsL 2 s L) (hl : L.length ≤ 1048576) : PureA Try.prog 45 [s] (cl2 s) := by
  rcases h with ⟨rfl, rfl⟩ | ⟨t, rfl⟩
  · exact Clone_nil
  · exact Clone_list t L hl
theorem Clip_ok {s : AV} {L : List AV} (h : IsL 2 s L) : PureA Try.prog 44 [cl2 s] (cpS s) := by
  rcases h with ⟨rfl, rfl⟩ | ⟨t, rfl⟩
  · exact Clip_nil
  · exact Clip_list false L

/-- The slice with an index, or nil. -/
def getA (l : List AV) (i : Nat) : AV := l.getD i (.val (.slice none 0 0))
theorem get_ok {s : AV} {l : List AV} (h : IsL 1 s l) (i : Nat) (hl : l.length ≤ 1048576) (hs : ∀ x ∈ l, ∃ L, IsL 2 x L) : PureA Try.prog 46 [s, .val (.int .i64 i)] (getA l i) := by
  intro O
  have h1 := h.len
  refine k46.call mix ?_
  unfold c46
  (repeat' first
    | simp (contextual := true) (maxSteps := 4000000) only [fwc, fwe, fww, reduceIte, ↓reduceIte, Nat.reduceAdd, Nat.reduceLeDiff, Nat.reduceEqDiff, Nat.reduceLT, Nat.reduceSub, reduceCtorEq, Int.reduceEq, Int.reduceLT, Int.reduceLE, Int.reduceNeg, Int.reduceToNat, Int.reduceAdd, Int.reduceSub, Nat.reduceMul, ilt_nat, *]
    | (refine seqK_now ?_)
    | (refine retK_now ?_)
    | (refine retK_now' ?_)
    | (intro q hq)
    | (refine cond_intro (fun hc => ?_) (fun hc => ?_)))
  · have hi : i < l.length := of_decide_eq_true hc
    clear hc
    have hia := h.ia hi
    obtain ⟨L, hL⟩ := hs _ (List.getElem_mem hi)
    have hcl := hL.cells
    (repeat' first
    | simp (contextual := true) (maxSteps := 4000000) only [fwc, fwe, fww, reduceIte, ↓reduceIte, Nat.reduceAdd, Nat.reduceLeDiff, Nat.reduceEqDiff, Nat.reduceLT, Nat.reduceSub, reduceCtorEq, Int.reduceEq, Int.reduceLT, Int.reduceLE, Int.reduceNeg, Int.reduceToNat, Int.reduceAdd, Int.reduceSub, Nat.reduceMul, part_cell, *]
    | (refine seqK_now ?_)
    | (refine retK_now ?_)
    | (refine retK_now' ?_)
    | (intro q hq)
    | (refine cond_intro (fun hc => ?_) (fun hc => ?_)))
    refine WeakR.pure (by repeat (first | exact Heap.sub_refl _ | refine sub_upd (by simp only [*]) ?_)) ?_
    rw [getA, List.getD_eq_getElem?_getD, List.getElem?_eq_getElem hi]
    rfl
  · have hi : ¬ i < l.length := of_decide_eq_false hc
    refine WeakR.pure (by repeat (first | exact Heap.sub_refl _ | refine sub_upd (by simp only [*]) ?_)) ?_
    rw [getA, List.getD_eq_getElem?_getD, List.getElem?_eq_none (by omega)]
    rfl
end Go.Proofs.Ytembkknplmcamaa

namespace Go.Proofs.Ytembkknplmcamaa
open Go.Ab
attribute [local irreducible] WeakR WeakE CallA YieldA

/-- Slices of names. -/
def StkAll (es : List AV) : Prop := ∀ x ∈ es, ∃ L : List Id, IsL 2 x (L.map Id.av)

theorem all_ok (f b : AV) (hf : f.cells = [f]) (hb : b.cells = [b]) (hf' : f.stor = true) (hb' : b.stor = true) : PureA Try.prog 48 [.agg [f, b]] (.clo (.func 56) [] [.ref (.agg [f, b])]) := by
  intro O
  refine k48.call mix ?_
  unfold c48
  (repeat' first
    | simp (contextual := true) (maxSteps := 4000000) only [fwc, fwe, fww, reduceIte, ↓reduceIte, Nat.reduceAdd, Nat.reduceLeDiff, Nat.reduceEqDiff, Nat.reduceLT, Nat.reduceSub, reduceCtorEq, Int.reduceEq, Int.reduceLT, Int.reduceLE, Int.reduceNeg, Int.reduceToNat, Int.reduceAdd, Int.reduceSub, Nat.reduceMul, *]
    | (refine seqK_now ?_)
    | (refine retK_now ?_)
    | (refine retK_now' ?_)
    | (intro q hq)
    | (refine cond_intro (fun hc => ?_) (fun hc => ?_)))
  refine WeakR.pureF q 2 26 [.agg [f, b]] (Heap.upd_same _ _ _) (.clo _ [] [] [.optr q 2 0 0] [.ref (.agg [f, b])] rfl rfl (fun i x y hx => by simp at hx) (fun i x y hx hy => ?_)) (by rw [del_upd_new hq]; exact Heap.sub_refl _) rfl
  match i, hx, hy with
  | 0, hx, hy => simp at hx hy; subst hx hy; exact .optr 0 _ rfl

def nd (n0 j : Nat) : Ndl := if j < n0 then ⟨0, j + 1⟩ else ⟨1, ((j - n0 + 1 : Nat) : Int)⟩

def envO (id : Nat) (f b : AV) (k : Nat) : Env := ((((Env.upd (fun _ => .junk) 12 (.val (.int .i64 k))).upd 11 (.val (.int .i64 2))).upd 10 (.list 1 true [f, b])).upd 0 (.yld id))
def envIn (id : Nat) (f b : AV) (k : Nat) (x : AV) (m i : Nat) : Env := (((((((Env.upd (fun _ => .junk) 20 (.val (.int .i64 i))).upd 19 (.val (.int .i64 m))).upd 12 (.val (.int .i64 k))).upd 11 (.val (.int .i64 2))).upd 10 (.list 1 true [f, b])).upd 4 x).upd 3 (.val (.int .i64 k))).upd 0 (.yld id)

theorem wrap_u8n {k : Nat} (h : k < 256) : IntKind.u8.wrap (k : Int) = (k : Int) := wrap_u8 (by omega) (by omega)
theorem min40 (n : Nat) : (if (40 : Int) < (n : Int) then (40 : Int) else (n : Int)) = ((min n 40 : Nat) : Int) := by
  split <;> omega

set_option maxHeartbeats 4000000 in
theorem all1_ok (id : Nat) (f b : AV) (es fs : List AV) (hf : IsL 1 f es) (hb : IsL 1 b fs) (he : StkAll es) (hfs : StkAll fs) (O : Heap) (J : Nat → Heap → Prop) (Z : Heap → Prop)
    (h0 : J 0 O)
    (hy : ∀ j (h : j < (es.take 40 ++ fs.take 40).length) O, J j O → YieldA Try.prog id [(nd (min es.length 40) j).av, (es.take 40 ++ fs.take 40)[j]] O fun r O' => (r = .val (.bool true) ∧ J (j + 1) O') ∨ (r = .val (.bool false) ∧ Z O')) :
    CallA Try.prog 56 [.yld id, .ref (.agg [f, b])] O fun _ O' => J (es.take 40 ++ fs.take 40).length O' ∨ Z O' := by
  have hf1 := hf.cells
  have hb1 := hb.cells
  have hf2 := hf.stor
  have hb2 := hb.stor
  replace h0 := (show Aside _ from h0)
  replace hy := (show Aside _ from hy)
  have hln : (es.take 40 ++ fs.take 40).length = min es.length 40 + min fs.length 40 := by simp; omega
  refine k56.call mix ?_
  unfold c56
  refine seq_go ?_
  (repeat' first
    | simp (contextual := true) (maxSteps := 4000000) only [fwc, fwe, fww, reduceIte, ↓reduceIte, Nat.reduceAdd, Nat.reduceLeDiff, Nat.reduceEqDiff, Nat.reduceLT, Nat.reduceSub, reduceCtorEq, Int.reduceEq, Int.reduceLT, Int.reduceLE, Int.reduceNeg, Int.reduceToNat, Int.reduceAdd, Int.reduceSub, Nat.reduceMul, *]
    | (refine retK_now ?_)
    | (refine retK_now' ?_)
    | (intro q hq)
    | (refine cond_intro (fun hc => ?_) (fun hc => ?_)))
  refine seqK_now ?_
  (repeat' first
    | simp (contextual := true) (maxSteps := 4000000) only [fwc, fwe, fww, reduceIte, ↓reduceIte, Nat.reduceAdd, Nat.reduceLeDiff, Nat.reduceEqDiff, Nat.reduceLT, Nat.reduceSub, reduceCtorEq, Int.reduceEq, Int.reduceLT, Int.reduceLE, Int.reduceNeg, Int.reduceToNat, Int.reduceAdd, Int.reduceSub, Nat.reduceMul, *]
    | (refine retK_now ?_)
    | (refine retK_now' ?_)
    | (intro q hq)
    | (refine cond_intro (fun hc => ?_) (fun hc => ?_)))
  obtain ⟨I, hI⟩ := hideI (fun m e O' => ∃ k : Nat, k ≤ 2 ∧ m = 2 - k ∧ J (if k = 0 then 0 else if k = 1 then min es.length 40 else min es.length 40 + min fs.length 40) O' ∧ e = envO id f b k)
  refine cmd_loop I 2 (by
    rw [hI.out]
    exact ⟨0, by omega, rfl, h0.out, rfl⟩) ?_
  intro m e O' hh
  rw [hI.out] at hh
  obtain ⟨k, h1, rfl, h2, rfl⟩ := hh
  replace h2 := (show Aside _ from h2)
  have hk2 : decide ((k : Int) < 2) = decide (k < 2) := decide_eq_decide.2 (by omega)
  unfold envO
  refine seq_go ?_
  (repeat' first
    | simp (contextual := true) (maxSteps := 4000000) only [fwc, fwe, fww, reduceIte, ↓reduceIte, Nat.reduceAdd, Nat.reduceLeDiff, Nat.reduceEqDiff, Nat.reduceLT, Nat.reduceSub, reduceCtorEq, Int.reduceEq, Int.reduceLT, Int.reduceLE, Int.reduceNeg, Int.reduceToNat, Int.reduceAdd, Int.reduceSub, Nat.reduceMul, hk2, *]
    | (refine retK_now ?_)
    | (refine retK_now' ?_)
    | (intro q hq)
    | (refine cond_intro (fun hc => ?_) (fun hc => ?_)))
  refine seqK_now ?_
  refine seq_go ?_
  (repeat' first
    | simp (contextual := true) (maxSteps := 4000000) only [fwc, fwe, fww, reduceIte, ↓reduceIte, Nat.reduceAdd, Nat.reduceLeDiff, Nat.reduceEqDiff, Nat.reduceLT, Nat.reduceSub, reduceCtorEq, Int.reduceEq, Int.reduceLT, Int.reduceLE, Int.reduceNeg, Int.reduceToNat, Int.reduceAdd, Int.reduceSub, Nat.reduceMul, *]
    | (refine retK_now ?_)
    | (refine retK_now' ?_)
    | (intro q hq)
    | (refine cond_intro (fun hc => ?_) (fun hc => ?_)))
  · have hk : k < 2 := of_decide_eq_true hc
    clear hc
    obtain ⟨x, xs, off, hx, hst, hnx, hel, hia, hxs⟩ : ∃ (x : AV) (xs : List AV) (off : Nat), IsL 1 x xs ∧ (if k = 0 then 0 else if k = 1 then min es.length 40 else min es.length 40 + min fs.length 40) = off ∧
        (if k + 1 = 0 then 0 else if k + 1 = 1 then min es.length 40 else min es.length 40 + min fs.length 40) = off + min xs.length 40 ∧
        (∀ i, i < min xs.length 40 → ∃ (h' : off + i < (es.take 40 ++ fs.take 40).length) (h'' : i < xs.length), (es.take 40 ++ fs.take 40)[off + i]'h' = xs[i]'h'' ∧ nd (min es.length 40) (off + i) = ⟨k, ((i + 1 : Nat) : Int)⟩) ∧
        indexAddrA 1 (k : Int) (.list 1 true [f, b]) = some (.ref x) ∧ StkAll xs := by
      rcases Nat.lt_or_ge k 1 with hk' | hk'
      · have : k = 0 := by omega
        subst this
        refine ⟨f, es, 0, hf, by simp, by simp, fun i hi => ⟨by rw [hln]; omega, by omega, ?_, ?_⟩, ia_nat (by simp), he⟩
        · rw [List.getElem_append_left (by simp; omega)]; simp
        · simp only [nd, Nat.zero_add]
          rw [if_pos (by omega)]
          rfl
      · have : k = 1 := by omega
        subst this
        refine ⟨b, fs, min es.length 40, hb, by simp, by simp, fun i hi => ⟨by rw [hln]; omega, by omega, ?_, ?_⟩, ia_nat (by simp), hfs⟩
        · rw [List.getElem_append_right (by simp; omega)]
          simp only [List.length_take, List.getElem_take]
          congr 1
          omega
        · simp only [nd]
          rw [if_neg (by omega), show min es.length 40 + i - min es.length 40 = i by omega]
          rfl
    rw [hst] at h2
    have hx1 := hx.cells
    have hx2 := hx.len
    have hx3 := hx.stor
    have hh4 := (show Aside _ from hel)
    clear hel
    (repeat' first
    | simp (contextual := true) (maxSteps := 4000000) only [fwc, fwe, fww, reduceIte, ↓reduceIte, Nat.reduceAdd, Nat.reduceLeDiff, Nat.reduceEqDiff, Nat.reduceLT, Nat.reduceSub, reduceCtorEq, Int.reduceEq, Int.reduceLT, Int.reduceLE, Int.reduceNeg, Int.reduceToNat, Int.reduceAdd, Int.reduceSub, Nat.reduceMul, hia, part_cell, min40, *]
    | (refine seqK_now ?_)
    | (refine retK_now ?_)
    | (refine retK_now' ?_)
    | (intro q hq)
    | (refine cond_intro (fun hc => ?_) (fun hc => ?_)))
    obtain ⟨I2, hI2⟩ := hideI (fun m e O' => ∃ i : Nat, i ≤ min xs.length 40 ∧ m = min xs.length 40 - i ∧ J (off + i) O' ∧ e = envIn id f b k x (min xs.length 40) i)
    refine cmd_loop I2 (min xs.length 40) (by
      rw [hI2.out]
      exact ⟨0, by omega, rfl, h2.out, rfl⟩) ?_
    intro m2 e2 O2 hh2
    rw [hI2.out] at hh2
    obtain ⟨i, h3, rfl, h5, rfl⟩ := hh2
    replace h5 := (show Aside _ from h5)
    unfold envIn
    (repeat' first
    | simp (contextual := true) (maxSteps := 4000000) only [fwc, fwe, fww, reduceIte, ↓reduceIte, Nat.reduceAdd, Nat.reduceLeDiff, Nat.reduceEqDiff, Nat.reduceLT, Nat.reduceSub, reduceCtorEq, Int.reduceEq, Int.reduceLT, Int.reduceLE, Int.reduceNeg, Int.reduceToNat, Int.reduceAdd, Int.reduceSub, Nat.reduceMul, ilt_nat, *]
    | (refine seqK_now ?_)
    | (refine retK_now ?_)
    | (refine retK_now' ?_)
    | (intro q hq)
    | (refine cond_intro (fun hc => ?_) (fun hc => ?_)))
    · have hi : i < min xs.length 40 := of_decide_eq_true hc
      clear hc
      obtain ⟨g1, g2, g3, g4⟩ := hh4.out i hi
      have hxi := hx.ia g2
      obtain ⟨L, hL⟩ := hxs _ (List.getElem_mem g2)
      have hL1 := hL.cells
      have hw : i < 4611686018427387904 := by omega
      have hw8 : k < 256 := by omega
      have hY := hy.out (off + i) g1 O2 h5.out
      rw [g3, g4, show Ndl.av ⟨k, ((i + 1 : Nat) : Int)⟩ = .agg [.val (.int .u8 k), .val (.int .i64 ((i + 1 : Nat) : Int))] from rfl] at hY
      replace hY := (show Aside _ from hY)
      clear g3 g4
      (repeat' first
    | simp (contextual := true) (maxSteps := 4000000) only [fwc, fwe, fww, reduceIte, ↓reduceIte, Nat.reduceAdd, Nat.reduceLeDiff, Nat.reduceEqDiff, Nat.reduceLT, Nat.reduceSub, reduceCtorEq, Int.reduceEq, Int.reduceLT, Int.reduceLE, Int.reduceNeg, Int.reduceToNat, Int.reduceAdd, Int.reduceSub, Nat.reduceMul, hxi, part_cell, wrap_u8n, wrap_succ, *]
    | (refine seqK_now ?_)
    | (refine retK_now ?_)
    | (refine retK_now' ?_)
    | (intro q hq)
    | (refine cond_intro (fun hc => ?_) (fun hc => ?_)))
      refine YieldA.mono hY.out fun r O3 h => ?_
      clear hY
      rcases h with ⟨rfl, h6⟩ | ⟨rfl, h6⟩
      · have h6 := (show Aside _ from h6)
        (repeat' first
    | simp (contextual := true) (maxSteps := 4000000) only [fwc, fwe, fww, reduceIte, ↓reduceIte, Nat.reduceAdd, Nat.reduceLeDiff, Nat.reduceEqDiff, Nat.reduceLT, Nat.reduceSub, reduceCtorEq, Int.reduceEq, Int.reduceLT, Int.reduceLE, Int.reduceNeg, Int.reduceToNat, Int.reduceAdd, Int.reduceSub, Nat.reduceMul, wrap_succ, *]
    | (refine seqK_now ?_)
    | (refine retK_now ?_)
    | (refine retK_now' ?_)
    | (intro q hq)
    | (refine cond_intro (fun hc => ?_) (fun hc => ?_)))
        refine loopK_now (min xs.length 40 - (i + 1)) (by omega) ?_
        rw [hI2.out]
        refine ⟨i + 1, by omega, rfl, h6.out, ?_⟩
        simp (contextual := true) (maxSteps := 4000000) only [fwc, fwe, fww, reduceIte, ↓reduceIte, Nat.reduceAdd, Nat.reduceLeDiff, Nat.reduceEqDiff, Nat.reduceLT, Nat.reduceSub, reduceCtorEq, Int.reduceEq, Int.reduceLT, Int.reduceLE, Int.reduceNeg, Int.reduceToNat, Int.reduceAdd, Int.reduceSub, Nat.reduceMul, envIn, *]
      · have h6 := (show Aside _ from h6)
        (repeat' first
    | simp (contextual := true) (maxSteps := 4000000) only [fwc, fwe, fww, reduceIte, ↓reduceIte, Nat.reduceAdd, Nat.reduceLeDiff, Nat.reduceEqDiff, Nat.reduceLT, Nat.reduceSub, reduceCtorEq, Int.reduceEq, Int.reduceLT, Int.reduceLE, Int.reduceNeg, Int.reduceToNat, Int.reduceAdd, Int.reduceSub, Nat.reduceMul, *]
    | (refine seqK_now ?_)
    | (refine retK_now ?_)
    | (refine retK_now' ?_)
    | (intro q hq)
    | (refine cond_intro (fun hc => ?_) (fun hc => ?_)))
        exact WeakR.now (.inr h6.out)
    · have hi : i = min xs.length 40 := by have := of_decide_eq_false hc; omega
      have hw : k < 4611686018427387904 := by omega
      subst hi
      have hk1 := (show Aside _ from hnx)
      clear hnx
      (repeat' first
    | simp (contextual := true) (maxSteps := 4000000) only [fwc, fwe, fww, reduceIte, ↓reduceIte, Nat.reduceAdd, Nat.reduceLeDiff, Nat.reduceEqDiff, Nat.reduceLT, Nat.reduceSub, reduceCtorEq, Int.reduceEq, Int.reduceLT, Int.reduceLE, Int.reduceNeg, Int.reduceToNat, Int.reduceAdd, Int.reduceSub, Nat.reduceMul, wrap_succ, *]
    | (refine seqK_now ?_)
    | (refine retK_now ?_)
    | (refine retK_now' ?_)
    | (intro q hq)
    | (refine cond_intro (fun hc => ?_) (fun hc => ?_)))
      refine loopK_now (2 - (k + 1)) (by omega) ?_
      rw [hI.out]
      refine ⟨k + 1, by omega, rfl, ?_, ?_⟩
      · rw [hk1.out]; exact h5.out
      · simp (contextual := true) (maxSteps := 4000000) only [fwc, fwe, fww, reduceIte, ↓reduceIte, Nat.reduceAdd, Nat.reduceLeDiff, Nat.reduceEqDiff, Nat.reduceLT, Nat.reduceSub, reduceCtorEq, Int.reduceEq, Int.reduceLT, Int.reduceLE, Int.reduceNeg, Int.reduceToNat, Int.reduceAdd, Int.reduceSub, Nat.reduceMul, envO, *]
  · have hk : k = 2 := by have := of_decide_eq_false hc; omega
    subst hk
    (repeat' first
    | simp (contextual := true) (maxSteps := 4000000) only [fwc, fwe, fww, reduceIte, ↓reduceIte, Nat.reduceAdd, Nat.reduceLeDiff, Nat.reduceEqDiff, Nat.reduceLT, Nat.reduceSub, reduceCtorEq, Int.reduceEq, Int.reduceLT, Int.reduceLE, Int.reduceNeg, Int.reduceToNat, Int.reduceAdd, Int.reduceSub, Nat.reduceMul, *]
    | (refine seqK_now ?_)
    | (refine retK_now ?_)
    | (refine retK_now' ?_)
    | (intro q hq)
    | (refine cond_intro (fun hc => ?_) (fun hc => ?_)))
    refine WeakR.now (.inl ?_)
    exact h2.out
end Go.Proofs.Ytembkknplmcamaa

namespace Go.Proofs.Ytembkknplmcamaa
open Go.Ab
attribute [local irreducible] WeakR WeakE CallA YieldA

/-- A bed. -/
def IsB (s : AV) (es : List AV) (F : List (List Id)) : Prop := IsL 1 s es ∧ es.length = F.length ∧ ∀ (i : Nat) (h : i < es.length) (h' : i < F.length), IsL 2 es[i] (F[i].map Id.av)
theorem IsB.stk {s : AV} {es : List AV} {F : List (List Id)} (h : IsB s es F) : StkAll es := by
  intro x hx
  obtain ⟨i, hi, rfl⟩ := List.mem_iff_getElem.1 hx
  exact ⟨_, h.2.2 i hi (by rw [← h.2.1]; exact hi)⟩

/-- All needles that are visited. -/
def visL (F B : List (List Id)) : List (List Id) := F.take 40 ++ B.take 40
def namesL (F B : List (List Id)) : List Id := (visL F B).flatten

theorem vis_is {f b : AV} {es fs : List AV} {F B : List (List Id)} (hf : IsB f es F) (hb : IsB b fs B) : (es.take 40 ++ fs.take 40).length = (visL F B).length ∧
    ∀ j (h : j < (es.take 40 ++ fs.take 40).length) (h' : j < (visL F B).length), IsL 2 (es.take 40 ++ fs.take 40)[j] ((visL F B)[j].map Id.av) := by
  have h1 := hf.2.1
  have h2 := hb.2.1
  refine ⟨by simp [visL, h1, h2], fun j h h' => ?_⟩
  unfold visL at h' ⊢
  by_cases hj : j < min 40 es.length
  · have e1 := List.getElem_append_left («as» := es.take 40) (bs := fs.take 40) (i := j) (by simp; omega) (h' := h)
    have e2 := List.getElem_append_left («as» := F.take 40) (bs := B.take 40) (i := j) (by simp; omega) (h' := h')
    rw [e1, e2, List.getElem_take, List.getElem_take]
    exact hf.2.2 j _ _
  · have e1 := List.getElem_append_right («as» := es.take 40) (bs := fs.take 40) (i := j) (by simp; omega) (h₂ := h)
    have e2 := List.getElem_append_right («as» := F.take 40) (bs := B.take 40) (i := j) (by simp; omega) (h₂ := h')
    rw [e1, e2, List.getElem_take, List.getElem_take]
    have : (List.take 40 es).length = (List.take 40 F).length := by simp [h1]
    simp only [this]
    exact hb.2.2 _ _ _

theorem flat_len {G : List (List Id)} (h : ∀ l ∈ G, l.length ≤ 1000) : G.flatten.length ≤ G.length * 1000 := by
  induction G with
  | nil => simp
  | cons l G ih =>
    have := h l (by simp)
    have := ih (fun l hl => h l (by simp [hl]))
    simp only [List.flatten_cons, List.length_append, List.length_cons]
    omega
theorem vis_le (F B : List (List Id)) : (visL F B).length ≤ 80 := by simp [visL]; omega
theorem take_flat (G : List (List Id)) (j : Nat) (h : j < G.length) : (G.take (j + 1)).flatten = (G.take j).flatten ++ G[j] := by
  rw [List.take_succ_eq_append_getElem h, List.flatten_append]
  simp

set_option maxHeartbeats 2000000 in
theorem names_ok (f b : AV) (es fs : List AV) (F B : List (List Id)) (hf : IsB f es F) (hb : IsB b fs B) (hs : ∀ l ∈ visL F B, l.length ≤ 1000) :
    PureA Try.prog 49 [.agg [f, b]] (frA 2 ((namesL F B).map Id.av)) := by
  intro O
  have hf1 := hf.1.cells
  have hb1 := hb.1.cells
  have hf2 := hf.1.stor
  have hb2 := hb.1.stor
  refine k49.call mix ?_
  unfold c49
  (repeat' first
    | simp (contextual := true) (maxSteps := 4000000) only [fwc, fwe, fww, reduceIte, ↓reduceIte, Nat.reduceAdd, Nat.reduceLeDiff, Nat.reduceEqDiff, Nat.reduceLT, Nat.reduceSub, reduceCtorEq, Int.reduceEq, Int.reduceLT, Int.reduceLE, Int.reduceNeg, Int.reduceToNat, Int.reduceAdd, Int.reduceSub, Nat.reduceMul, *]
    | (refine seqK_now ?_)
    | (refine retK_now ?_)
    | (refine retK_now' ?_)
    | (intro q hq)
    | (refine cond_intro (fun hc => ?_) (fun hc => ?_)))
  refine (all_ok f b hf1 hb1 hf2 hb2).use ?_
  (repeat' first
    | simp (contextual := true) (maxSteps := 4000000) only [fwc, fwe, fww, reduceIte, ↓reduceIte, Nat.reduceAdd, Nat.reduceLeDiff, Nat.reduceEqDiff, Nat.reduceLT, Nat.reduceSub, reduceCtorEq, Int.reduceEq, Int.reduceLT, Int.reduceLE, Int.reduceNeg, Int.reduceToNat, Int.reduceAdd, Int.reduceSub, Nat.reduceMul, *]
    | (refine seqK_now ?_)
    | (refine retK_now ?_)
    | (refine retK_now' ?_)
    | (intro q hq)
    | (refine cond_intro (fun hc => ?_) (fun hc => ?_)))
  refine cmd_range rfl ?_
  intro rid RR BB DD hid hY
  replace hY := (show Aside _ from hY)
  rename_i q1 hq1
  rw [upd_none, upd_none] at hid
  obtain ⟨hq2, hq3, hq4⟩ := hq
  obtain ⟨hid1, hid2, hid3, hid4, hid5⟩ := hid
  obtain ⟨hv1, hv2⟩ := vis_is hf hb
  have hvl := vis_le F B
  replace hs := (show Aside _ from hs)
  let J : Nat → Heap → Prop := fun j O' => ∃ s O0, O.sub (O0.del rid) ∧ O0 q = some (.arr 60 1 [s]) ∧ O0 rid = some RR ∧ OwN 35 2 O0 O' s ((((visL F B).take j).flatten).map Id.av)
  refine CallA.mono (all1_ok rid f b es fs hf.1 hb.1 hf.stk hb.stk _ J (fun _ => False) ?_ ?_) ?_
  · refine ⟨_, _, ?_, ?_, ?_, OwN.nil⟩
    · rw [del_upd_new (by rw [upd_none, upd_none]; exact ⟨hid1, hid2, hid3, hid4, hid5⟩)]
      exact sub_upd hq4 (sub_upd hq1 (Heap.sub_refl _))
    · rw [Heap.upd_ne _ _ hid2, Heap.upd_same]
    · exact Heap.upd_same _ _ _
  · intro j hj O1 hJ
    obtain ⟨s, O0, g1, g2, g3, g4⟩ := hJ
    have hj' : j < (visL F B).length := by rw [← hv1]; exact hj
    have hx := hv2 j hj hj'
    generalize (es.take 40 ++ fs.take 40)[j] = x at hx
    have g5 := g4.at_ g3
    have g6 := g4.at_ g2
    have g7 := g4.cells
    have hx1 := hx.cells
    refine hY.out [_, x] O1 _ g5 rfl ?_
    (repeat' first
    | simp (contextual := true) (maxSteps := 4000000) only [fwc, fwe, fww, reduceIte, ↓reduceIte, Nat.reduceAdd, Nat.reduceLeDiff, Nat.reduceEqDiff, Nat.reduceLT, Nat.reduceSub, reduceCtorEq, Int.reduceEq, Int.reduceLT, Int.reduceLE, Int.reduceNeg, Int.reduceToNat, Int.reduceAdd, Int.reduceSub, Nat.reduceMul, part_cell, *]
    | (refine seqK_now ?_)
    | (refine retK_now ?_)
    | (refine retK_now' ?_)
    | (intro q hq)
    | (refine cond_intro (fun hc => ?_) (fun hc => ?_)))
    have g8 := g4.put (x := BB) (show O0 rid ≠ none by rw [g3]; simp)
    refine own_app g8 hx ?_ ?_
    · have e1 := flat_len (G := (visL F B).take j) (fun l hl => hs.out l (List.mem_of_mem_take hl))
      have e2 := hs.out _ (List.getElem_mem hj')
      have e3 : ((visL F B).take j).length ≤ 80 := by simp; omega
      exact fits_of (by simp only [List.length_map]; omega) (by omega)
    intro s2 O2 h2
    have h3 := h2.at_ (q := q) (by rw [Heap.upd_ne _ _ hid2]; exact g2)
    have h4 := h2.at_ (q := rid) (Heap.upd_same _ _ _)
    have h5 := h2.cells
    have h6 := h2.stor
    clear g7 hx1
    (repeat' first
    | simp (contextual := true) (maxSteps := 4000000) only [fwc, fwe, fww, reduceIte, ↓reduceIte, Nat.reduceAdd, Nat.reduceLeDiff, Nat.reduceEqDiff, Nat.reduceLT, Nat.reduceSub, reduceCtorEq, Int.reduceEq, Int.reduceLT, Int.reduceLE, Int.reduceNeg, Int.reduceToNat, Int.reduceAdd, Int.reduceSub, Nat.reduceMul, *]
    | (refine seqK_now ?_)
    | (refine retK_now ?_)
    | (refine retK_now' ?_)
    | (intro q hq)
    | (refine cond_intro (fun hc => ?_) (fun hc => ?_)))
    refine .inl ⟨s2, ((O0.upd rid BB).upd q (.arr 60 1 [s2])).upd rid RR, ?_, ?_, ?_, ?_⟩
    · intro i o ho
      have := g1 i o ho
      rw [Heap.del_apply] at this ⊢
      split at this
      · cases this
      · rename_i hi
        rw [if_neg hi, Heap.upd_ne _ _ hi]
        by_cases hiq : i = q
        · rw [hiq, hq4] at ho; cases ho
        · rw [Heap.upd_ne _ _ hiq, Heap.upd_ne _ _ hi]; exact this
    · rw [Heap.upd_ne _ _ hid2, Heap.upd_same]
    · exact Heap.upd_same _ _ _
    · rw [take_flat _ _ hj', List.map_append]
      exact (h2.put (by rw [Heap.upd_ne _ _ hid2, g2]; simp)).put (upd_some (by rw [Heap.upd_same]; simp))
  · intro r O' h
    rcases h with ⟨s, O0, g1, g2, g3, g4⟩ | h
    · refine .inl ⟨g4.at_ g3, ?_⟩
      rw [hv1, List.take_of_length_le (Nat.le_refl _)] at g4
      have g5 := g4.del (q := rid) (by rw [g3]; simp)
      have g6 := g5.at_ (q := q) (by rw [Heap.del_ne _ hid2]; exact g2)
      have g7 := g4.cells
      (repeat' first
    | simp (contextual := true) (maxSteps := 4000000) only [fwc, fwe, fww, reduceIte, ↓reduceIte, Nat.reduceAdd, Nat.reduceLeDiff, Nat.reduceEqDiff, Nat.reduceLT, Nat.reduceSub, reduceCtorEq, Int.reduceEq, Int.reduceLT, Int.reduceLE, Int.reduceNeg, Int.reduceToNat, Int.reduceAdd, Int.reduceSub, Nat.reduceMul, part_cell, *]
    | (refine seqK_now ?_)
    | (refine retK_now ?_)
    | (refine retK_now' ?_)
    | (intro q hq)
    | (refine cond_intro (fun hc => ?_) (fun hc => ?_)))
      exact g5.pure g1 rfl
    · exact h.elim
end Go.Proofs.Ytembkknplmcamaa

namespace Go.Proofs.Ytembkknplmcamaa
open Go.Ab
attribute [local irreducible] WeakR WeakE CallA YieldA

theorem Id.ext' {p q : Id} : p = q ↔ p.y = q.y ∧ p.n = q.n := by
  cases p; cases q; simp
theorem id_eq (p q : Id) : (decide (p.y = q.y) && (decide (p.n = q.n) && true)) = decide (p = q) := by
  rw [Bool.eq_iff_iff]
  simp [Id.ext']
theorem le_id (p q : Id) : leavesEq [true, true] [.val (.int .u8 p.y), .val (.int .i64 p.n)] [.val (.int .u8 q.y), .val (.int .i64 q.n)] = some (decide (p = q)) := by
  rw [le_int, le_int, le_nil]
  simp [← id_eq]
theorem keyEq_id (p q : Id) : keyEqA [true, true] true p.av q.av = some (decide (p = q)) := le_id p q
theorem keyOK_id (p : Id) : keyOKA [true, true] true p.av = true := by
  unfold keyOKA
  rw [keyEq_id]
  rfl

def seenA (M : List Id) : List (AV × AV) := M.map fun p => (p.av, .val (.bool true))
theorem find_not {p : Id} : ∀ {M : List Id} {k : Nat}, p ∉ M → findA [true, true] true p.av (seenA M) k = some none
  | [], k, _ => rfl
  | q :: M, k, h => by
    have h1 : p ≠ q := fun e => h (by simp [e])
    have h2 : p ∉ M := fun e => h (by simp [e])
    show (match keyEqA [true, true] true p.av q.av with | some true => some (some (k, AV.val (.bool true))) | some false => findA [true, true] true p.av (seenA M) (k + 1) | none => none) = some none
    rw [keyEq_id, decide_eq_false h1]
    exact find_not h2
theorem find_in {p : Id} : ∀ {M : List Id} {k : Nat}, p ∈ M → ∃ i, findA [true, true] true p.av (seenA M) k = some (some (i, .val (.bool true)))
  | [], k, h => by cases h
  | q :: M, k, h => by
    have e : findA [true, true] true p.av (seenA (q :: M)) k = match keyEqA [true, true] true p.av q.av with | some true => some (some (k, AV.val (.bool true))) | some false => findA [true, true] true p.av (seenA M) (k + 1) | none => none := rfl
    rw [e, keyEq_id]
    by_cases hpq : p = q
    · rw [decide_eq_true hpq]; exact ⟨k, rfl⟩
    · rw [decide_eq_false hpq]
      rcases List.mem_cons.1 h with h | h
      · exact absurd h hpq
      · exact find_in h

theorem seen_look {qm : Nat} {M : List Id} (p : Id) (O1 : Heap) (h : O1 qm = some (.mp (seenA M))) : lookupA O1 false [true, true] true (.val (.bool false)) (.mapr qm) (.agg [.val (.int .u8 p.y), .val (.int .i64 p.n)]) = some (.val (.bool (decide (p ∈ M)))) := by
  by_cases hp : p ∈ M
  · obtain ⟨i, hi⟩ := find_in (k := 0) hp
    rw [show AV.agg [.val (.int .u8 p.y), .val (.int .i64 p.n)] = p.av from rfl, lookup_at h (keyOK_id p) hi, decide_eq_true hp]
    rfl
  · rw [show AV.agg [.val (.int .u8 p.y), .val (.int .i64 p.n)] = p.av from rfl, lookup_at h (keyOK_id p) (find_not hp), decide_eq_false hp]
    rfl
theorem seen_set {qm : Nat} {M : List Id} (p : Id) (hp : p ∉ M) (O1 : Heap) (h : O1 qm = some (.mp (seenA M))) : mapsetA O1 [true, true] true (.mapr qm) (.agg [.val (.int .u8 p.y), .val (.int .i64 p.n)]) (.val (.bool true)) = some (O1.upd qm (.mp (seenA (M ++ [p])))) := by
  rw [show AV.agg [.val (.int .u8 p.y), .val (.int .i64 p.n)] = p.av from rfl, mapset_new h (keyOK_id p) (find_not hp)]
  unfold seenA
  rw [List.map_append]
  rfl

def env31 (s : AV) (n qm i : Nat) : Env := ((((Env.upd (fun _ => .junk) 9 (.val (.int .i64 i))).upd 8 (.val (.int .i64 n))).upd 7 s).upd 3 (.mapr qm))

set_option maxHeartbeats 2000000 in
theorem twice_ok (s : AV) (L : List Id) (hs : IsL 2 s (L.map Id.av)) (hl : L.length ≤ 1048576) : PureA Try.prog 53 [s] (.val (.bool (!decide L.Nodup))) := by
  intro O
  have h1 := hs.len
  have h2 := hs.cells
  rw [List.length_map] at h1
  refine k53.call mix ?_
  unfold c53
  (repeat' first
    | simp (contextual := true) (maxSteps := 4000000) only [fwc, fwe, fww, reduceIte, ↓reduceIte, Nat.reduceAdd, Nat.reduceLeDiff, Nat.reduceEqDiff, Nat.reduceLT, Nat.reduceSub, reduceCtorEq, Int.reduceEq, Int.reduceLT, Int.reduceLE, Int.reduceNeg, Int.reduceToNat, Int.reduceAdd, Int.reduceSub, Nat.reduceMul, *]
    | (refine seqK_now ?_)
    | (refine retK_now ?_)
    | (refine retK_now' ?_)
    | (intro q hq)
    | (refine cond_intro (fun hc => ?_) (fun hc => ?_)))
  revert q
  intro qm hqm
  replace hqm : Aside (O qm = none) := hqm
  obtain ⟨I, hI⟩ := hideI (fun m e O' => ∃ i : Nat, i ≤ L.length ∧ m = L.length - i ∧ (L.take i).Nodup ∧ O' = O.upd qm (.mp (seenA (L.take i))) ∧ e = env31 s L.length qm i)
  refine cmd_loop I L.length (by
    rw [hI.out]
    exact ⟨0, by omega, rfl, by simp, rfl, rfl⟩) ?_
  intro m e O' hh
  rw [hI.out] at hh
  obtain ⟨i, h3, rfl, h4, rfl, rfl⟩ := hh
  replace h4 : Aside (L.take i).Nodup := h4
  unfold env31
  (repeat' first
    | simp (contextual := true) (maxSteps := 4000000) only [fwc, fwe, fww, reduceIte, ↓reduceIte, Nat.reduceAdd, Nat.reduceLeDiff, Nat.reduceEqDiff, Nat.reduceLT, Nat.reduceSub, reduceCtorEq, Int.reduceEq, Int.reduceLT, Int.reduceLE, Int.reduceNeg, Int.reduceToNat, Int.reduceAdd, Int.reduceSub, Nat.reduceMul, ilt_nat, *]
    | (refine seqK_now ?_)
    | (refine retK_now ?_)
    | (refine retK_now' ?_)
    | (intro q hq)
    | (refine cond_intro (fun hc => ?_) (fun hc => ?_)))
  · have hi : i < L.length := of_decide_eq_true hc
    clear hc
    have hia := hs.ia (i := i) (by rw [List.length_map]; exact hi)
    rw [List.getElem_map] at hia
    have hnd : (L.take (i + 1)).Nodup ↔ L[i] ∉ L.take i := by
      rw [List.take_succ_eq_append_getElem hi, List.nodup_append]
      simp only [h4.out, true_and, List.nodup_cons, List.not_mem_nil, not_false_eq_true, List.nodup_nil, and_true, List.mem_singleton]
      constructor
      · intro h hm; exact h _ hm _ rfl rfl
      · intro h; exact fun a ha b hb hab => h (hb ▸ hab ▸ ha)
    have htk := List.take_succ_eq_append_getElem hi
    obtain ⟨p, hp⟩ : ∃ p, L[i] = p := ⟨_, rfl⟩
    rw [hp] at hia hnd htk
    rw [show p.av = .agg [.val (.int .u8 p.y), .val (.int .i64 p.n)] from rfl] at hia
    have hlk := seen_look (qm := qm) (M := L.take i) p
    replace htk := (show Aside _ from htk)
    replace hnd := (show Aside _ from hnd)
    replace hp := (show Aside _ from hp)
    have hw : i < 4611686018427387904 := by omega
    by_cases hm : p ∈ L.take i
    · (repeat' first
    | simp (contextual := true) (maxSteps := 4000000) only [fwc, fwe, fww, reduceIte, ↓reduceIte, Nat.reduceAdd, Nat.reduceLeDiff, Nat.reduceEqDiff, Nat.reduceLT, Nat.reduceSub, reduceCtorEq, Int.reduceEq, Int.reduceLT, Int.reduceLE, Int.reduceNeg, Int.reduceToNat, Int.reduceAdd, Int.reduceSub, Nat.reduceMul, part_agg, *]
    | (refine seqK_now ?_)
    | (refine retK_now ?_)
    | (refine retK_now' ?_)
    | (intro q hq)
    | (refine cond_intro (fun hc => ?_) (fun hc => ?_)))
      refine WeakR.pure ?_ ?_
      · refine sub_upd (by simp [*]) (sub_upd hqm.out (Heap.sub_refl _))
      · have : ¬ L.Nodup := fun h => by
          have h' := h.sublist (List.take_sublist (i + 1) L)
          exact (hnd.out.1 h') hm
        simp [this]
    · have hst := seen_set (qm := qm) (M := L.take i) p hm
      (repeat' first
    | simp (contextual := true) (maxSteps := 4000000) only [fwc, fwe, fww, reduceIte, ↓reduceIte, Nat.reduceAdd, Nat.reduceLeDiff, Nat.reduceEqDiff, Nat.reduceLT, Nat.reduceSub, reduceCtorEq, Int.reduceEq, Int.reduceLT, Int.reduceLE, Int.reduceNeg, Int.reduceToNat, Int.reduceAdd, Int.reduceSub, Nat.reduceMul, part_agg, *]
    | (refine seqK_now ?_)
    | (refine retK_now ?_)
    | (refine retK_now' ?_)
    | (intro q hq)
    | (refine cond_intro (fun hc => ?_) (fun hc => ?_)))
      refine loopK_drop (O.upd qm (.mp (seenA (L.take (i + 1))))) ?_ (L.length - (i + 1)) (by omega) ?_
      · rw [htk.out]
        exact sub_both (sub_upd hq.2.2 (sub_upd hqm.out (Heap.sub_refl _)))
      · rw [hI.out]
        refine ⟨i + 1, by omega, rfl, hnd.out.2 hm, rfl, ?_⟩
        simp (contextual := true) (maxSteps := 4000000) only [fwc, fwe, fww, reduceIte, ↓reduceIte, Nat.reduceAdd, Nat.reduceLeDiff, Nat.reduceEqDiff, Nat.reduceLT, Nat.reduceSub, reduceCtorEq, Int.reduceEq, Int.reduceLT, Int.reduceLE, Int.reduceNeg, Int.reduceToNat, Int.reduceAdd, Int.reduceSub, Nat.reduceMul, env31, wrap_succ, *]
  · have : i = L.length := by have := of_decide_eq_false hc; omega
    subst this
    refine WeakR.pure (sub_upd hqm.out (Heap.sub_refl _)) ?_
    have := h4.out
    rw [List.take_length] at this
    simp [this]
end Go.Proofs.Ytembkknplmcamaa

namespace Go.Proofs.Ytembkknplmcamaa
open Go.Ab
attribute [local irreducible] WeakR WeakE CallA YieldA

def idxOf (q : Id → Bool) (l : List Id) : Int := match l.findIdx? q with
  | some i => i
  | none => -1
theorem idx_some {q : Id → Bool} {l : List Id} {i : Nat} (hi : i < l.length) (h1 : q l[i] = true) (h2 : ∀ j (h : j < l.length), j < i → q l[j] = false) : idxOf q l = i := by
  have : l.findIdx? q = some i := by
    rw [List.findIdx?_eq_some_iff_getElem]
    exact ⟨hi, h1, fun j hj => by simp [h2 j (by omega) hj]⟩
  simp [idxOf, this]
theorem idx_none {q : Id → Bool} {l : List Id} (h2 : ∀ j (h : j < l.length), q l[j] = false) : idxOf q l = -1 := by
  have : l.findIdx? q = none := by
    rw [List.findIdx?_eq_none_iff]
    intro x hx
    obtain ⟨j, hj, rfl⟩ := List.mem_iff_getElem.1 hx
    exact h2 j hj
  simp [idxOf, this]
theorem idx_any (q : Id → Bool) (l : List Id) : decide (0 ≤ idxOf q l) = l.any q := by
  unfold idxOf
  cases h : l.findIdx? q with
  | none =>
    have : l.any q = false := by
      rw [List.findIdx?_eq_none_iff] at h
      simpa using h
    rw [this]; rfl
  | some i =>
    rw [List.findIdx?_eq_some_iff_getElem] at h
    obtain ⟨hi, hq, _⟩ := h
    have : l.any q = true := List.any_eq_true.2 ⟨_, List.getElem_mem hi, hq⟩
    rw [this]; simp

def env52 (s : AV) (n : Nat) (f : FuncId) (i : Nat) : Env := (((Env.upd (fun _ => .junk) 8 (.val (.int .i64 i))).upd 7 (.val (.int .i64 n))).upd 1 (.clo (.func f) [] [])).upd 0 s

theorem IndexFunc_ok (s : AV) (l : List Id) (f : FuncId) (q : Id → Bool) (hs : IsL 2 s (l.map Id.av)) (hl : l.length ≤ 1048576) (hq : ∀ x, PureA Try.prog f [x.av] (.val (.bool (q x)))) :
    PureA Try.prog 57 [s, .clo (.func f) [] []] (.val (.int .i64 (idxOf q l))) := by
  intro O
  have h1 := hs.len
  rw [List.length_map] at h1
  refine k57.call mix ?_
  unfold c57
  (repeat' first
    | simp (contextual := true) (maxSteps := 4000000) only [fwc, fwe, fww, reduceIte, ↓reduceIte, Nat.reduceAdd, Nat.reduceLeDiff, Nat.reduceEqDiff, Nat.reduceLT, Nat.reduceSub, reduceCtorEq, Int.reduceEq, Int.reduceLT, Int.reduceLE, Int.reduceNeg, Int.reduceToNat, Int.reduceAdd, Int.reduceSub, Nat.reduceMul, *]
    | (refine seqK_now ?_)
    | (refine retK_now ?_)
    | (refine retK_now' ?_)
    | (intro q hq)
    | (refine cond_intro (fun hc => ?_) (fun hc => ?_)))
  obtain ⟨I, hI⟩ := hideI (fun m e O' => ∃ i : Nat, i ≤ l.length ∧ m = l.length - i ∧ (∀ j (h : j < l.length), j < i → q l[j] = false) ∧ O' = O ∧ e = env52 s l.length f i)
  refine cmd_loop I l.length (by rw [hI.out]; exact ⟨0, by omega, rfl, fun j h hj => by omega, rfl, rfl⟩) ?_
  intro m e O' hh
  rw [hI.out] at hh
  obtain ⟨i, h3, rfl, h2, rfl, rfl⟩ := hh
  replace h2 := (show Aside _ from h2)
  unfold env52
  (repeat' first
    | simp (contextual := true) (maxSteps := 4000000) only [fwc, fwe, fww, reduceIte, ↓reduceIte, Nat.reduceAdd, Nat.reduceLeDiff, Nat.reduceEqDiff, Nat.reduceLT, Nat.reduceSub, reduceCtorEq, Int.reduceEq, Int.reduceLT, Int.reduceLE, Int.reduceNeg, Int.reduceToNat, Int.reduceAdd, Int.reduceSub, Nat.reduceMul, ilt_nat, *]
    | (refine seqK_now ?_)
    | (refine retK_now ?_)
    | (refine retK_now' ?_)
    | (intro q hq)
    | (refine cond_intro (fun hc => ?_) (fun hc => ?_)))
  · have hi : i < l.length := of_decide_eq_true hc
    clear hc
    have hia := hs.ia (i := i) (by rw [List.length_map]; exact hi)
    rw [List.getElem_map] at hia
    have hq' := hq l[i]
    obtain ⟨p, hp⟩ : ∃ p, l[i] = p := ⟨_, rfl⟩
    rw [hp] at hia hq'
    replace hp := (show Aside _ from hp)
    have hp2 : partA p.av 0 2 true = some p.av := part_flat ⟨_, rfl, rfl⟩
    have hw : i < 4611686018427387904 := by omega
    (repeat' first
    | simp (contextual := true) (maxSteps := 4000000) only [fwc, fwe, fww, reduceIte, ↓reduceIte, Nat.reduceAdd, Nat.reduceLeDiff, Nat.reduceEqDiff, Nat.reduceLT, Nat.reduceSub, reduceCtorEq, Int.reduceEq, Int.reduceLT, Int.reduceLE, Int.reduceNeg, Int.reduceToNat, Int.reduceAdd, Int.reduceSub, Nat.reduceMul, *]
    | (refine seqK_now ?_)
    | (refine retK_now ?_)
    | (refine retK_now' ?_)
    | (intro q hq)
    | (refine cond_intro (fun hc => ?_) (fun hc => ?_)))
    refine hq'.use ?_
    (repeat' first
    | simp (contextual := true) (maxSteps := 4000000) only [fwc, fwe, fww, reduceIte, ↓reduceIte, Nat.reduceAdd, Nat.reduceLeDiff, Nat.reduceEqDiff, Nat.reduceLT, Nat.reduceSub, reduceCtorEq, Int.reduceEq, Int.reduceLT, Int.reduceLE, Int.reduceNeg, Int.reduceToNat, Int.reduceAdd, Int.reduceSub, Nat.reduceMul, wrap_succ, *]
    | (refine seqK_now ?_)
    | (refine retK_now ?_)
    | (refine retK_now' ?_)
    | (intro q hq)
    | (refine cond_intro (fun hc => ?_) (fun hc => ?_)))
    · exact WeakR.pure (Heap.sub_refl _) (by rw [idx_some hi (by rw [hp.out]; exact hc) h2.out])
    · refine loopK_now (l.length - (i + 1)) (by omega) ?_
      rw [hI.out]
      refine ⟨i + 1, by omega, rfl, fun j h hj => ?_, rfl, ?_⟩
      · rcases Nat.lt_or_ge j i with h' | h'
        · exact h2.out j h h'
        · have : j = i := by omega
          subst this
          rw [hp.out]
          exact hc
      · simp (contextual := true) (maxSteps := 4000000) only [fwc, fwe, fww, reduceIte, ↓reduceIte, Nat.reduceAdd, Nat.reduceLeDiff, Nat.reduceEqDiff, Nat.reduceLT, Nat.reduceSub, reduceCtorEq, Int.reduceEq, Int.reduceLT, Int.reduceLE, Int.reduceNeg, Int.reduceToNat, Int.reduceAdd, Int.reduceSub, Nat.reduceMul, env52, wrap_succ, *]
  · have hi : ¬ i < l.length := of_decide_eq_false hc
    refine WeakR.pure (by repeat (first | exact Heap.sub_refl _ | refine sub_upd (by simp only [*]) ?_)) ?_
    rw [idx_none (fun j h => h2.out j h (by omega))]

theorem ContainsFunc_ok (s : AV) (l : List Id) (f : FuncId) (q : Id → Bool) (hs : IsL 2 s (l.map Id.av)) (hl : l.length ≤ 1048576) (hq : ∀ x, PureA Try.prog f [x.av] (.val (.bool (q x)))) :
    PureA Try.prog 50 [s, .clo (.func f) [] []] (.val (.bool (l.any q))) := by
  intro O
  refine k50.call mix ?_
  unfold c50
  (repeat' first
    | simp (contextual := true) (maxSteps := 4000000) only [fwc, fwe, fww, reduceIte, ↓reduceIte, Nat.reduceAdd, Nat.reduceLeDiff, Nat.reduceEqDiff, Nat.reduceLT, Nat.reduceSub, reduceCtorEq, Int.reduceEq, Int.reduceLT, Int.reduceLE, Int.reduceNeg, Int.reduceToNat, Int.reduceAdd, Int.reduceSub, Nat.reduceMul, *]
    | (refine seqK_now ?_)
    | (refine retK_now ?_)
    | (refine retK_now' ?_)
    | (intro q hq)
    | (refine cond_intro (fun hc => ?_) (fun hc => ?_)))
  refine (IndexFunc_ok s l f q hs hl hq).use ?_
  (repeat' first
    | simp (contextual := true) (maxSteps := 4000000) only [fwc, fwe, fww, reduceIte, ↓reduceIte, Nat.reduceAdd, Nat.reduceLeDiff, Nat.reduceEqDiff, Nat.reduceLT, Nat.reduceSub, reduceCtorEq, Int.reduceEq, Int.reduceLT, Int.reduceLE, Int.reduceNeg, Int.reduceToNat, Int.reduceAdd, Int.reduceSub, Nat.reduceMul, *]
    | (refine seqK_now ?_)
    | (refine retK_now ?_)
    | (refine retK_now' ?_)
    | (intro q hq)
    | (refine cond_intro (fun hc => ?_) (fun hc => ?_)))
  refine WeakR.pure (by repeat (first | exact Heap.sub_refl _ | refine sub_upd (by simp only [*]) ?_)) ?_
  rw [idx_any]

theorem bad1_ok (p : Id) : PureA Try.prog 51 [p.av] (.val (.bool (!named p))) := by
  intro O
  have h := Named_ok p
  unfold Id.av at h
  refine k51.call mix ?_
  unfold c51 Id.av
  (repeat' first
    | simp (contextual := true) (maxSteps := 4000000) only [fwc, fwe, fww, reduceIte, ↓reduceIte, Nat.reduceAdd, Nat.reduceLeDiff, Nat.reduceEqDiff, Nat.reduceLT, Nat.reduceSub, reduceCtorEq, Int.reduceEq, Int.reduceLT, Int.reduceLE, Int.reduceNeg, Int.reduceToNat, Int.reduceAdd, Int.reduceSub, Nat.reduceMul, *]
    | (refine seqK_now ?_)
    | (refine retK_now ?_)
    | (refine retK_now' ?_)
    | (intro q hq)
    | (refine cond_intro (fun hc => ?_) (fun hc => ?_)))
  refine h.use ?_
  (repeat' first
    | simp (contextual := true) (maxSteps := 4000000) only [fwc, fwe, fww, reduceIte, ↓reduceIte, Nat.reduceAdd, Nat.reduceLeDiff, Nat.reduceEqDiff, Nat.reduceLT, Nat.reduceSub, reduceCtorEq, Int.reduceEq, Int.reduceLT, Int.reduceLE, Int.reduceNeg, Int.reduceToNat, Int.reduceAdd, Int.reduceSub, Nat.reduceMul, *]
    | (refine seqK_now ?_)
    | (refine retK_now ?_)
    | (refine retK_now' ?_)
    | (intro q hq)
    | (refine cond_intro (fun hc => ?_) (fun hc => ?_)))
  refine WeakR.pure (by repeat (first | exact Heap.sub_refl _ | refine sub_upd (by simp only [*]) ?_)) ?_
  rfl

theorem sub_updel {O A : Heap} {i r : Nat} {x : AObj} (h : O i = none) (hs : O.sub (A.del r)) : O.sub ((A.upd i x).del r) := by
  intro j o hj
  have h1 := hs j o hj
  have hji : ¬ j = i := fun e => by rw [e, h] at hj; cases hj
  rw [Heap.del_apply] at h1 ⊢
  split at h1
  · cases h1
  · rename_i hr
    rw [if_neg hr, Heap.upd_ne _ _ hji]
    exact h1

def badNames (l : List Id) : Bool := l.any fun p => !named p
def checkL (F B : List (List Id)) : Int := if (decide (40 < F.length) || decide (40 < B.length)) = true then 9 else if (visL F B).any (fun l => decide (4 < l.length)) = true then 9 else if badNames (namesL F B) = true then 1 else if (!decide (namesL F B).Nodup) = true then 8 else 0

set_option maxHeartbeats 2000000 in
theorem Check_ok (f b : AV) (es fs : List AV) (F B : List (List Id)) (hf : IsB f es F) (hb : IsB b fs B) :
    PureA Try.prog 35 [.agg [f, b]] (.val (.int .i64 (checkL F B))) := by
  intro O
  have hf1 := hf.1.cells
  have hb1 := hb.1.cells
  have hf2 := hf.1.stor
  have hb2 := hb.1.stor
  have hf3 := hf.1.len
  have hb3 := hb.1.len
  rw [hf.2.1] at hf3
  rw [hb.2.1] at hb3
  have d1 : decide ((40 : Int) < (F.length : Int)) = decide (40 < F.length) := decide_eq_decide.2 (by omega)
  have d2 : decide ((40 : Int) < (B.length : Int)) = decide (40 < B.length) := decide_eq_decide.2 (by omega)
  refine k35.call mix ?_
  unfold c35
  (repeat' first
    | simp (contextual := true) (maxSteps := 4000000) only [fwc, fwe, fww, reduceIte, ↓reduceIte, Nat.reduceAdd, Nat.reduceLeDiff, Nat.reduceEqDiff, Nat.reduceLT, Nat.reduceSub, reduceCtorEq, Int.reduceEq, Int.reduceLT, Int.reduceLE, Int.reduceNeg, Int.reduceToNat, Int.reduceAdd, Int.reduceSub, Nat.reduceMul, part_cell, *]
    | (refine seqK_now ?_)
    | (refine retK_now ?_)
    | (refine retK_now' ?_)
    | (intro q hq)
    | (refine cond_intro (fun hc => ?_) (fun hc => ?_)))
  · refine WeakR.pure (by repeat (first | exact Heap.sub_refl _ | refine sub_upd (by simp only [*]) ?_)) ?_
    rw [checkL, if_pos hc]
  replace hc := (show Aside _ from hc)
  refine (all_ok f b hf1 hb1 hf2 hb2).use ?_
  (repeat' first
    | simp (contextual := true) (maxSteps := 4000000) only [fwc, fwe, fww, reduceIte, ↓reduceIte, Nat.reduceAdd, Nat.reduceLeDiff, Nat.reduceEqDiff, Nat.reduceLT, Nat.reduceSub, reduceCtorEq, Int.reduceEq, Int.reduceLT, Int.reduceLE, Int.reduceNeg, Int.reduceToNat, Int.reduceAdd, Int.reduceSub, Nat.reduceMul, *]
    | (refine seqK_now ?_)
    | (refine retK_now ?_)
    | (refine retK_now' ?_)
    | (intro q hq)
    | (refine cond_intro (fun hc => ?_) (fun hc => ?_)))
  refine cmd_range rfl ?_
  intro rid RR BB DD hid hY
  replace hY := (show Aside _ from hY)
  rename_i q1 hq1
  rw [upd_none, upd_none] at hid
  obtain ⟨hq2, hq3, hq4⟩ := hq
  obtain ⟨hid1, hid2, hid3, hid4, hid5⟩ := hid
  obtain ⟨hv1, hv2⟩ := vis_is hf hb
  have hvl := vis_le F B
  let J : Nat → Heap → Prop := fun j O' => (∀ i (h : i < (visL F B).length), i < j → (visL F B)[i].length ≤ 4) ∧ O' rid = some RR ∧ O' q1 = some (.arr 26 2 [.agg [f, b]]) ∧ O' q = some (.arr 29 1 [.val (.int .i64 0)]) ∧ O.sub (O'.del rid)
  let Z : Heap → Prop := fun O' => (∃ i, ∃ (h : i < (visL F B).length), 4 < (visL F B)[i].length) ∧ O' rid = some (DD .ret) ∧ O' q = some (.arr 29 1 [.val (.int .i64 9)]) ∧ O.sub (O'.del rid)
  refine CallA.mono (all1_ok rid f b es fs hf.1 hb.1 hf.stk hb.stk _ J Z ?_ ?_) ?_
  · refine ⟨fun i h h' => by omega, Heap.upd_same _ _ _, ?_, ?_, ?_⟩
    · rw [Heap.upd_ne _ _ hid4, Heap.upd_ne _ _ hq3, Heap.upd_same]
    · rw [Heap.upd_ne _ _ hid2, Heap.upd_same]
    · rw [del_upd_new (by rw [upd_none, upd_none]; exact ⟨hid1, hid2, hid3, hid4, hid5⟩)]
      exact sub_upd hq4 (sub_upd hq1 (Heap.sub_refl _))
  · intro j hj O1 hJ
    obtain ⟨g1, g2, g3, g4, g5⟩ := hJ
    have hj' : j < (visL F B).length := by rw [← hv1]; exact hj
    have hx := hv2 j hj hj'
    generalize (es.take 40 ++ fs.take 40)[j] = x at hx
    have hx1 := hx.len
    rw [List.length_map] at hx1
    have d3 : decide ((4 : Int) < ((visL F B)[j].length : Int)) = decide (4 < (visL F B)[j].length) := decide_eq_decide.2 (by omega)
    replace g1 := (show Aside _ from g1)
    refine hY.out [_, x] O1 _ g2 rfl ?_
    (repeat' first
    | simp (contextual := true) (maxSteps := 4000000) only [fwc, fwe, fww, reduceIte, ↓reduceIte, Nat.reduceAdd, Nat.reduceLeDiff, Nat.reduceEqDiff, Nat.reduceLT, Nat.reduceSub, reduceCtorEq, Int.reduceEq, Int.reduceLT, Int.reduceLE, Int.reduceNeg, Int.reduceToNat, Int.reduceAdd, Int.reduceSub, Nat.reduceMul, *]
    | (refine seqK_now ?_)
    | (refine retK_now ?_)
    | (refine retK_now' ?_)
    | (intro q hq)
    | (refine cond_intro (fun hc => ?_) (fun hc => ?_)))
    · refine .inr ⟨⟨j, hj', of_decide_eq_true hc⟩, Heap.upd_same _ _ _, ?_, sub_updel hid5 (sub_updel hq4 (sub_updel hid5 g5))⟩
      rw [Heap.upd_ne _ _ hid2, Heap.upd_same]
    · refine .inl ⟨?_, Heap.upd_same _ _ _, ?_, ?_, sub_updel hid5 g5⟩
      · intro i h h'
        rcases Nat.lt_or_ge i j with h2 | h2
        · exact g1.out i h h2
        · have : i = j := by omega
          subst this
          have := of_decide_eq_false hc
          omega
      · rw [Heap.upd_ne _ _ hid4]; exact g3
      · rw [Heap.upd_ne _ _ hid2]; exact g4
  · intro r O' h
    rcases h with ⟨g1, g2, g3, g4, g5⟩ | ⟨g1, g2, g3, g4⟩
    · rw [hv1] at g1
      have h4 : (visL F B).any (fun l => decide (4 < l.length)) = false := by
        rw [List.any_eq_false]
        intro l hl
        obtain ⟨i, hi, rfl⟩ := List.mem_iff_getElem.1 hl
        have := g1 i hi hi
        simp; omega
      have hle : ∀ l ∈ visL F B, l.length ≤ 1000 := fun l hl => by
        obtain ⟨i, hi, rfl⟩ := List.mem_iff_getElem.1 hl
        have := g1 i hi hi
        omega
      clear g1
      refine .inl ⟨g2, ?_⟩
      have hn := names_ok f b es fs F B hf hb hle
      have hL := frA_L 2 ((namesL F B).map Id.av)
      have hnl : (namesL F B).length ≤ 1048576 := by
        have := flat_len hle
        unfold namesL
        omega
      have hcf := ContainsFunc_ok _ (namesL F B) 51 (fun p => !named p) hL hnl (fun x => bad1_ok x)
      have htw := twice_ok _ _ hL hnl
      generalize frA 2 ((namesL F B).map Id.av) = nm at hn hcf htw
      replace g5 := (show Aside _ from g5)
      replace hle := (show Aside _ from hle)
      replace h4 := (show Aside _ from h4)
      have g6 : (O'.del rid) q1 = some (.arr 26 2 [.agg [f, b]]) := by rw [Heap.del_ne _ hid4]; exact g3
      have g7 : (O'.del rid) q = some (.arr 29 1 [.val (.int .i64 0)]) := by rw [Heap.del_ne _ hid2]; exact g4
      generalize O'.del rid = O2 at g5 g6 g7
      clear g2 g3 g4 O'
      (repeat' first
    | simp (contextual := true) (maxSteps := 4000000) only [fwc, fwe, fww, reduceIte, ↓reduceIte, Nat.reduceAdd, Nat.reduceLeDiff, Nat.reduceEqDiff, Nat.reduceLT, Nat.reduceSub, reduceCtorEq, Int.reduceEq, Int.reduceLT, Int.reduceLE, Int.reduceNeg, Int.reduceToNat, Int.reduceAdd, Int.reduceSub, Nat.reduceMul, part_cell, part_agg, *]
    | (refine seqK_now ?_)
    | (refine retK_now ?_)
    | (refine retK_now' ?_)
    | (intro q hq)
    | (refine cond_intro (fun hc => ?_) (fun hc => ?_)))
      refine hn.use ?_
      (repeat' first
    | simp (contextual := true) (maxSteps := 4000000) only [fwc, fwe, fww, reduceIte, ↓reduceIte, Nat.reduceAdd, Nat.reduceLeDiff, Nat.reduceEqDiff, Nat.reduceLT, Nat.reduceSub, reduceCtorEq, Int.reduceEq, Int.reduceLT, Int.reduceLE, Int.reduceNeg, Int.reduceToNat, Int.reduceAdd, Int.reduceSub, Nat.reduceMul, *]
    | (refine seqK_now ?_)
    | (refine retK_now ?_)
    | (refine retK_now' ?_)
    | (intro q hq)
    | (refine cond_intro (fun hc => ?_) (fun hc => ?_)))
      refine hcf.use ?_
      (repeat' first
    | simp (contextual := true) (maxSteps := 4000000) only [fwc, fwe, fww, reduceIte, ↓reduceIte, Nat.reduceAdd, Nat.reduceLeDiff, Nat.reduceEqDiff, Nat.reduceLT, Nat.reduceSub, reduceCtorEq, Int.reduceEq, Int.reduceLT, Int.reduceLE, Int.reduceNeg, Int.reduceToNat, Int.reduceAdd, Int.reduceSub, Nat.reduceMul, *]
    | (refine seqK_now ?_)
    | (refine retK_now ?_)
    | (refine retK_now' ?_)
    | (intro q hq)
    | (refine cond_intro (fun hc => ?_) (fun hc => ?_)))
      · refine WeakR.pure (sub_upd hq4 g5.out) ?_
        rename_i hc2
        rw [checkL, if_neg (by rw [hc2.out]; simp), if_neg (by rw [h4.out]; simp), if_pos (by exact hc)]
      replace hc := (show Aside _ from hc)
      refine htw.use ?_
      rename_i hc2
      (repeat' first
    | simp (contextual := true) (maxSteps := 4000000) only [fwc, fwe, fww, reduceIte, ↓reduceIte, Nat.reduceAdd, Nat.reduceLeDiff, Nat.reduceEqDiff, Nat.reduceLT, Nat.reduceSub, reduceCtorEq, Int.reduceEq, Int.reduceLT, Int.reduceLE, Int.reduceNeg, Int.reduceToNat, Int.reduceAdd, Int.reduceSub, Nat.reduceMul, *]
    | (refine seqK_now ?_)
    | (refine retK_now ?_)
    | (refine retK_now' ?_)
    | (intro q hq)
    | (refine cond_intro (fun hc => ?_) (fun hc => ?_)))
      · refine WeakR.pure (sub_upd hq4 g5.out) ?_
        rename_i hc3
        rw [checkL, if_neg (by rw [hc2.out]; simp), if_neg (by rw [h4.out]; simp), if_neg (by rw [show badNames (namesL F B) = false from hc3.out]; simp), if_pos hc]
      · refine WeakR.pure (sub_upd hq4 g5.out) ?_
        rename_i hc3
        rw [checkL, if_neg (by rw [hc2.out]; simp), if_neg (by rw [h4.out]; simp), if_neg (by rw [show badNames (namesL F B) = false from hc3.out]; simp), if_neg (by rw [hc]; simp)]
    · refine .inr ⟨.ret, by simp, g2, ?_⟩
      have g6 : (O'.del rid) q = some (.arr 29 1 [.val (.int .i64 9)]) := by rw [Heap.del_ne _ hid2]; exact g3
      obtain ⟨i, h1, h2⟩ := g1
      have h4 : (visL F B).any (fun l => decide (4 < l.length)) = true := List.any_eq_true.2 ⟨_, List.getElem_mem h1, by simpa using h2⟩
      rw [checkL, if_neg (by rw [hc.out]; simp), if_pos h4]
      clear h4 h2
      (repeat' first
    | simp (contextual := true) (maxSteps := 4000000) only [fwc, fwe, fww, reduceIte, ↓reduceIte, Nat.reduceAdd, Nat.reduceLeDiff, Nat.reduceEqDiff, Nat.reduceLT, Nat.reduceSub, reduceCtorEq, Int.reduceEq, Int.reduceLT, Int.reduceLE, Int.reduceNeg, Int.reduceToNat, Int.reduceAdd, Int.reduceSub, Nat.reduceMul, part_cell, *]
    | (refine seqK_now ?_)
    | (refine retK_now ?_)
    | (refine retK_now' ?_)
    | (intro q hq)
    | (refine cond_intro (fun hc => ?_) (fun hc => ?_)))
      exact WeakR.pure g4 rfl
end Go.Proofs.Ytembkknplmcamaa

namespace Go.Proofs.Ytembkknplmcamaa
open Go.Ab
attribute [local irreducible] WeakR WeakE CallA YieldA

def env53 (s : AV) (n q i : Nat) : Env := (((Env.upd (fun _ => .junk) 8 (.val (.int .i64 i))).upd 7 (.val (.int .i64 n))).upd 3 (.optr q 2 0 0)).upd 0 s

def env39 (s t : AV) (n i : Nat) : Env := (((Env.upd (fun _ => .junk) 13 (.val (.int .i64 i))).upd 12 (.val (.int .i64 n))).upd 1 t).upd 0 s

def env21 (s t : AV) (i : Nat) : Env := ((Env.upd (fun _ => .junk) 5 (.val (.int .i64 i))).upd 1 t).upd 0 s

def needleL (i : Nat) : Ndl := ⟨((i % 80 / 40 : Nat) : Int), ((1 + i % 40 : Nat) : Int)⟩
end Go.Proofs.Ytembkknplmcamaa

namespace Go.Proofs.Ytembkknplmcamaa
open Go.Ab
attribute [local irreducible] WeakR WeakE CallA YieldA

def atL (F B : List (List Id)) (n : Ndl) : List Id := if n.bad = true then [] else (if n.bed = 1 then B else F).getD (n.at_ - 1).toNat []
def atA (es fs : List AV) (n : Ndl) : AV := if n.bad = true then .val (.slice none 0 0) else cpS (getA (if n.bed = 1 then fs else es) (n.at_ - 1).toNat)

theorem getA_L {s : AV} {es : List AV} {F : List (List Id)} (h : IsB s es F) (i : Nat) : IsL 2 (getA es i) ((F.getD i []).map Id.av) := by
  unfold getA
  by_cases hi : i < es.length
  · have hi' : i < F.length := by rw [← h.2.1]; exact hi
    rw [List.getD_eq_getElem?_getD, List.getD_eq_getElem?_getD, List.getElem?_eq_getElem hi, List.getElem?_eq_getElem hi']
    exact h.2.2 i hi hi'
  · rw [List.getD_eq_getElem?_getD, List.getD_eq_getElem?_getD, List.getElem?_eq_none (by omega), List.getElem?_eq_none (by rw [← h.2.1]; omega)]
    exact .nil

/-- How long a bed may be, and its stacks. -/
def Sm (F : List (List Id)) : Prop := F.length ≤ 1000 ∧ ∀ l ∈ F, l.length ≤ 1000
theorem Sm.getD {F : List (List Id)} (h : Sm F) (i : Nat) : (F.getD i []).length ≤ 1000 := by
  rw [List.getD_eq_getElem?_getD]
  by_cases hi : i < F.length
  · rw [List.getElem?_eq_getElem hi]; exact h.2 _ (List.getElem_mem hi)
  · rw [List.getElem?_eq_none (by omega)]; simp
theorem getOK {s : AV} {es : List AV} {F : List (List Id)} (h : IsB s es F) (hs : Sm F) (i : Nat) : PureA Try.prog 46 [s, .val (.int .i64 i)] (getA es i) :=
  get_ok h.1 i (by have := h.2.1; have := hs.1; omega) (fun x hx => by obtain ⟨L, hL⟩ := h.stk x hx; exact ⟨_, hL⟩)

theorem At_ok (f b : AV) (es fs : List AV) (F B : List (List Id)) (n : Ndl) (hf : IsB f es F) (hb : IsB b fs B) (hF : Sm F) (hB : Sm B) :
    PureA Try.prog 25 [.agg [f, b], n.av] (atA es fs n) := by
  intro O
  have hf1 := hf.1.cells
  have hb1 := hb.1.cells
  have hf2 := hf.1.stor
  have hb2 := hb.1.stor
  have hck := NdlCheck_ok n
  rw [show n.av = .agg [.val (.int .u8 n.bed), .val (.int .i64 n.at_)] from rfl] at hck ⊢
  refine k25.call mix ?_
  unfold c25
  (repeat' first
    | simp (contextual := true) (maxSteps := 4000000) only [fwc, fwe, fww, reduceIte, ↓reduceIte, Nat.reduceAdd, Nat.reduceLeDiff, Nat.reduceEqDiff, Nat.reduceLT, Nat.reduceSub, reduceCtorEq, Int.reduceEq, Int.reduceLT, Int.reduceLE, Int.reduceNeg, Int.reduceToNat, Int.reduceAdd, Int.reduceSub, Nat.reduceMul, *]
    | (refine seqK_now ?_)
    | (refine retK_now ?_)
    | (refine retK_now' ?_)
    | (intro q hq)
    | (refine cond_intro (fun hc => ?_) (fun hc => ?_)))
  refine hck.use ?_
  by_cases hbad : n.bad = true
  · have hA : atA es fs n = .val (.slice none 0 0) := by rw [atA, if_pos hbad]
    rw [if_pos hbad]
    rw [hA]
    (repeat' first
    | simp (contextual := true) (maxSteps := 4000000) only [fwc, fwe, fww, reduceIte, ↓reduceIte, Nat.reduceAdd, Nat.reduceLeDiff, Nat.reduceEqDiff, Nat.reduceLT, Nat.reduceSub, reduceCtorEq, Int.reduceEq, Int.reduceLT, Int.reduceLE, Int.reduceNeg, Int.reduceToNat, Int.reduceAdd, Int.reduceSub, Nat.reduceMul, *]
    | (refine seqK_now ?_)
    | (refine retK_now ?_)
    | (refine retK_now' ?_)
    | (intro q hq)
    | (refine cond_intro (fun hc => ?_) (fun hc => ?_)))
    refine WeakR.pure (by repeat (first | exact Heap.sub_refl _ | refine sub_upd (by simp only [*]) ?_)) ?_
    rfl
  · have hA : atA es fs n = cpS (getA (if n.bed = 1 then fs else es) (n.at_ - 1).toNat) := by rw [atA, if_neg hbad]
    rw [if_neg hbad, hA]
    have hw : IntKind.i64.wrap (n.at_ - 1) = (((n.at_ - 1).toNat : Nat) : Int) ∧ 0 ≤ n.at_ - 1 := by
      have h := hbad
      unfold Ndl.bad at h
      simp only [Bool.or_eq_true, decide_eq_true_eq, not_or, Int.not_lt] at h
      rw [wrap_i64 (by omega) (by omega)]
      omega
    obtain ⟨hw, _⟩ := hw
    generalize (n.at_ - 1).toNat = i at hw
    clear hA hbad hck
    have hgF := getOK hf hF i
    have hgB := getOK hb hB i
    have hLF := getA_L hf i
    have hLB := getA_L hb i
    have hlF := hF.getD i
    have hlB := hB.getD i
    (repeat' first
    | simp (contextual := true) (maxSteps := 4000000) only [fwc, fwe, fww, reduceIte, ↓reduceIte, Nat.reduceAdd, Nat.reduceLeDiff, Nat.reduceEqDiff, Nat.reduceLT, Nat.reduceSub, reduceCtorEq, Int.reduceEq, Int.reduceLT, Int.reduceLE, Int.reduceNeg, Int.reduceToNat, Int.reduceAdd, Int.reduceSub, Nat.reduceMul, part_cell, *]
    | (refine seqK_now ?_)
    | (refine retK_now ?_)
    | (refine retK_now' ?_)
    | (intro q hq)
    | (refine cond_intro (fun hc => ?_) (fun hc => ?_)))
    · have hbed : n.bed = 1 := of_decide_eq_true hc
      rw [if_pos hbed]
      clear hc hbed
      refine hgB.use ?_
      (repeat' first
    | simp (contextual := true) (maxSteps := 4000000) only [fwc, fwe, fww, reduceIte, ↓reduceIte, Nat.reduceAdd, Nat.reduceLeDiff, Nat.reduceEqDiff, Nat.reduceLT, Nat.reduceSub, reduceCtorEq, Int.reduceEq, Int.reduceLT, Int.reduceLE, Int.reduceNeg, Int.reduceToNat, Int.reduceAdd, Int.reduceSub, Nat.reduceMul, *]
    | (refine seqK_now ?_)
    | (refine retK_now ?_)
    | (refine retK_now' ?_)
    | (intro q hq)
    | (refine cond_intro (fun hc => ?_) (fun hc => ?_)))
      refine (Clone_ok hLB (by simp only [List.length_map]; omega)).use ?_
      (repeat' first
    | simp (contextual := true) (maxSteps := 4000000) only [fwc, fwe, fww, reduceIte, ↓reduceIte, Nat.reduceAdd, Nat.reduceLeDiff, Nat.reduceEqDiff, Nat.reduceLT, Nat.reduceSub, reduceCtorEq, Int.reduceEq, Int.reduceLT, Int.reduceLE, Int.reduceNeg, Int.reduceToNat, Int.reduceAdd, Int.reduceSub, Nat.reduceMul, *]
    | (refine seqK_now ?_)
    | (refine retK_now ?_)
    | (refine retK_now' ?_)
    | (intro q hq)
    | (refine cond_intro (fun hc => ?_) (fun hc => ?_)))
      refine (Clip_ok hLB).use ?_
      (repeat' first
    | simp (contextual := true) (maxSteps := 4000000) only [fwc, fwe, fww, reduceIte, ↓reduceIte, Nat.reduceAdd, Nat.reduceLeDiff, Nat.reduceEqDiff, Nat.reduceLT, Nat.reduceSub, reduceCtorEq, Int.reduceEq, Int.reduceLT, Int.reduceLE, Int.reduceNeg, Int.reduceToNat, Int.reduceAdd, Int.reduceSub, Nat.reduceMul, *]
    | (refine seqK_now ?_)
    | (refine retK_now ?_)
    | (refine retK_now' ?_)
    | (intro q hq)
    | (refine cond_intro (fun hc => ?_) (fun hc => ?_)))
      refine WeakR.pure (by repeat (first | exact Heap.sub_refl _ | refine sub_upd (by simp only [*]) ?_)) ?_
      rfl
    · have hbed : ¬ n.bed = 1 := of_decide_eq_false hc
      rw [if_neg hbed]
      clear hc hbed
      refine hgF.use ?_
      (repeat' first
    | simp (contextual := true) (maxSteps := 4000000) only [fwc, fwe, fww, reduceIte, ↓reduceIte, Nat.reduceAdd, Nat.reduceLeDiff, Nat.reduceEqDiff, Nat.reduceLT, Nat.reduceSub, reduceCtorEq, Int.reduceEq, Int.reduceLT, Int.reduceLE, Int.reduceNeg, Int.reduceToNat, Int.reduceAdd, Int.reduceSub, Nat.reduceMul, *]
    | (refine seqK_now ?_)
    | (refine retK_now ?_)
    | (refine retK_now' ?_)
    | (intro q hq)
    | (refine cond_intro (fun hc => ?_) (fun hc => ?_)))
      refine (Clone_ok hLF (by simp only [List.length_map]; omega)).use ?_
      (repeat' first
    | simp (contextual := true) (maxSteps := 4000000) only [fwc, fwe, fww, reduceIte, ↓reduceIte, Nat.reduceAdd, Nat.reduceLeDiff, Nat.reduceEqDiff, Nat.reduceLT, Nat.reduceSub, reduceCtorEq, Int.reduceEq, Int.reduceLT, Int.reduceLE, Int.reduceNeg, Int.reduceToNat, Int.reduceAdd, Int.reduceSub, Nat.reduceMul, *]
    | (refine seqK_now ?_)
    | (refine retK_now ?_)
    | (refine retK_now' ?_)
    | (intro q hq)
    | (refine cond_intro (fun hc => ?_) (fun hc => ?_)))
      refine (Clip_ok hLF).use ?_
      (repeat' first
    | simp (contextual := true) (maxSteps := 4000000) only [fwc, fwe, fww, reduceIte, ↓reduceIte, Nat.reduceAdd, Nat.reduceLeDiff, Nat.reduceEqDiff, Nat.reduceLT, Nat.reduceSub, reduceCtorEq, Int.reduceEq, Int.reduceLT, Int.reduceLE, Int.reduceNeg, Int.reduceToNat, Int.reduceAdd, Int.reduceSub, Nat.reduceMul, *]
    | (refine seqK_now ?_)
    | (refine retK_now ?_)
    | (refine retK_now' ?_)
    | (intro q hq)
    | (refine cond_intro (fun hc => ?_) (fun hc => ?_)))
      refine WeakR.pure (by repeat (first | exact Heap.sub_refl _ | refine sub_upd (by simp only [*]) ?_)) ?_
      rfl
theorem atA_T {f b : AV} {es fs : List AV} {F B : List (List Id)} (n : Ndl) (hf : IsB f es F) (hb : IsB b fs B) : IsT 2 (atA es fs n) ((atL F B n).map Id.av) := by
  unfold atA atL
  split
  · exact .nil
  · refine cpS_T ?_
    split
    · exact getA_L hb _
    · exact getA_L hf _

def findL (F B : List (List Id)) (p : Id) : Option Nat := (visL F B).findIdx? (fun l => decide (p ∈ l))
def foundN (n0 : Nat) : Option Nat → Ndl
  | some j => nd n0 j
  | none => ⟨0, 0⟩
def foundE : Option Nat → Int
  | some _ => 0
  | none => 7

end Go.Proofs.Ytembkknplmcamaa

namespace Go.Proofs.Ytembkknplmcamaa
open Go.Ab
attribute [local irreducible] WeakR WeakE CallA YieldA

/-- Nil where there is nothing to come; else an array of one's own. -/
def OwG (n : Nat) (O0 O' : Heap) (s : AV) (L : List AV) : Prop := (n = 0 ∧ s = .val (.slice none 0 0) ∧ L = [] ∧ O' = O0) ∨ (n ≠ 0 ∧ ∃ id c elems, O0 id = none ∧ s = .own id 2 0 L.length c ∧ O' = O0.upd id (.arr 35 2 elems) ∧ elems.take L.length = L ∧ L.length ≤ elems.length)

theorem OwG.pure {n : Nat} {O0 O' : Heap} {s R : AV} {L : List AV} (h : OwG n O0 O' s L) (hn : L.length = n) (hr : frA 2 L = R) : WeakR (fun r' O' => r' = R ∧ O' = O0) s O' := by
  rcases h with ⟨rfl, rfl, rfl, rfl⟩ | ⟨hne, id, c, elems, h0, rfl, rfl, h1, h2⟩
  · exact WeakR.pure (Heap.sub_refl _) hr
  · have hz := Fz.own (id := id) (sz := 2) (elems := elems) 0 L.length c false (by omega) (fun h => by cases h)
    rw [List.drop_zero, h1] at hz
    refine WeakR.pureF id 2 35 elems (Heap.upd_same _ _ _) hz (by rw [del_upd_new h0]; exact Heap.sub_refl _) ?_
    rw [← hr, frA, if_neg (fun e => hne (by rw [← hn, e]; rfl))]

def env40 (s : AV) (n k m : Nat) : Env := (((((Env.upd (fun _ => .junk) 11 (.val (.int .i64 k))).upd 10 (.val (.int .i64 n))).upd 9 s).upd 3 (.val (.int .i64 m))).upd 0 s)
def env40b (s v : AV) (n k : Nat) : Env := ((((Env.upd (fun _ => .junk) 27 (.val (.int .i64 k))).upd 26 (.val (.int .i64 n))).upd 25 s).upd 6 v)

end Go.Proofs.Ytembkknplmcamaa

namespace Go.Proofs.Ytembkknplmcamaa
open Go.Ab
attribute [local irreducible] WeakR WeakE CallA YieldA

def trimN (l : List (List Id)) : Nat → Nat
  | 0 => 0
  | n + 1 => if l.getD n [] = [] then trimN l n else n + 1
theorem trimN_le (l : List (List Id)) : ∀ n, trimN l n ≤ n
  | 0 => Nat.le_refl _
  | n + 1 => by
    unfold trimN
    split
    · have := trimN_le l n; omega
    · exact Nat.le_refl _
def trimL (l : List (List Id)) : List (List Id) := l.take (trimN l l.length)
def fullL (F : List (List Id)) (at_ : Nat) (X : List Id) : List (List Id) := (List.range (max F.length at_)).map fun i => if i + 1 = at_ then X else F.getD i []
def withL (F : List (List Id)) (at_ : Nat) (X : List Id) : List (List Id) := trimL (fullL F at_ X)
def fullA (es : List AV) (n at_ : Nat) (x : AV) : List AV := (List.range n).map fun i => cpS (if i + 1 = at_ then x else getA es i)
def withA (es : List AV) (F : List (List Id)) (at_ : Nat) (x : AV) (X : List Id) : List AV := (fullA es (max F.length at_) at_ x).take (withL F at_ X).length

def nilS : AV := .val (.slice none 0 0)
def elW (es : List AV) (n at_ : Nat) (x : AV) (k : Nat) : List AV := (fullA es n at_ x).take k ++ List.replicate (n - k) nilS
def env54 (s x : AV) (at_ id n k : Nat) : Env := (((((Env.upd (fun _ => .junk) 17 (.val (.int .i64 k))).upd 16 (.val (.int .i64 n))).upd 7 (.own id 1 0 n (some n))).upd 2 x).upd 1 (.val (.int .i64 at_))).upd 0 s
def env54b (id n j : Nat) : Env := Env.upd (fun _ => .junk) 7 (.own id 1 0 j (some n))

end Go.Proofs.Ytembkknplmcamaa

namespace Go.Proofs.Ytembkknplmcamaa
open Go.Ab
attribute [local irreducible] WeakR WeakE CallA YieldA

/-- The front bed, and the back bed, behind a put. -/
def putLF (F : List (List Id)) (n : Ndl) (X : List Id) : List (List Id) := if n.bed = 1 then withL F 1 (F.getD 0 []) else withL F n.at_.toNat X
def putLB (B : List (List Id)) (n : Ndl) (X : List Id) : List (List Id) := if n.bed = 1 then withL B n.at_.toNat X else withL B 1 (B.getD 0 [])
def putAF (es : List AV) (F : List (List Id)) (n : Ndl) (x : AV) (X : List Id) : List AV := if n.bed = 1 then withA es F 1 (getA es 0) (F.getD 0 []) else withA es F n.at_.toNat x X
def putAB (fs : List AV) (B : List (List Id)) (n : Ndl) (x : AV) (X : List Id) : List AV := if n.bed = 1 then withA fs B n.at_.toNat x X else withA fs B 1 (getA fs 0) (B.getD 0 [])

end Go.Proofs.Ytembkknplmcamaa

namespace Go.Proofs.Ytembkknplmcamaa
open Go.Ab
attribute [local irreducible] WeakR WeakE CallA YieldA

def noBeds : AV := .agg [.val (.slice none 0 0), .val (.slice none 0 0)]
def setE (F B : List (List Id)) (n : Ndl) (X : List Id) : Int := if checkL F B = 0 then (if (n.bad || badNames X) = true then 1 else if 4 < X.length then 9 else if (namesL (putLF F n X) (putLB B n X)).Nodup then 0 else 8) else checkL F B
def setA (es fs : List AV) (F B : List (List Id)) (n : Ndl) (x : AV) (X : List Id) : AV := if setE F B n X = 0 then .agg [.list 1 true (putAF es F n x X), .list 1 true (putAB fs B n x X)] else noBeds

end Go.Proofs.Ytembkknplmcamaa

namespace Go.Proofs.Ytembkknplmcamaa
open Go.Ab
attribute [local irreducible] WeakR WeakE CallA YieldA

def joinedL (F B : List (List Id)) (u v : Ndl) : List Id := if v.bed = 0 then atL F B u ++ atL F B v else atL F B v ++ atL F B u
def joinE (F B : List (List Id)) (u v : Ndl) : Int := if checkL F B = 0 then (if (u.bad || v.bad || decide (u.bed = v.bed)) = true then 1 else if atL F B u = [] then 13 else if 4 < (joinedL F B u v).length then 9 else 0) else checkL F B
def joinF (F B : List (List Id)) (u v : Ndl) : List (List Id) := putLF (putLF F u []) v (joinedL F B u v)
def joinB (F B : List (List Id)) (u v : Ndl) : List (List Id) := putLB (putLB B u []) v (joinedL F B u v)
def joinAF (es : List AV) (F B : List (List Id)) (u v : Ndl) : List AV := putAF (putAF es F u nilS []) (putLF F u []) v (frA 2 ((joinedL F B u v).map Id.av)) (joinedL F B u v)
def joinAB (fs : List AV) (F B : List (List Id)) (u v : Ndl) : List AV := putAB (putAB fs B u nilS []) (putLB B u []) v (frA 2 ((joinedL F B u v).map Id.av)) (joinedL F B u v)
def joinA (es fs : List AV) (F B : List (List Id)) (u v : Ndl) : AV := if joinE F B u v = 0 then .agg [.list 1 true (joinAF es F B u v), .list 1 true (joinAB fs F B u v)] else noBeds

end Go.Proofs.Ytembkknplmcamaa

namespace Go.Proofs.Ytembkknplmcamaa
open Go.Ab
attribute [local irreducible] WeakR WeakE CallA YieldA

def sameL (F B F' B' : List (List Id)) : Bool := decide (∀ i, i < max (max (max F.length F'.length) B.length) B'.length → F.getD i [] = F'.getD i [] ∧ B.getD i [] = B'.getD i [])
theorem getD_nil {F : List (List Id)} {i : Nat} (h : F.length ≤ i) : F.getD i [] = [] := by
  rw [List.getD_eq_getElem?_getD, List.getElem?_eq_none h]; rfl
def env19 (q2 q3 n i : Nat) : Env := (((Env.upd (fun _ => .junk) 19 (.val (.int .i64 i))).upd 18 (.val (.int .i64 n))).upd 3 (.optr q3 2 0 0)).upd 2 (.optr q2 2 0 0)

end Go.Proofs.Ytembkknplmcamaa

namespace Go.Proofs.Ytembkknplmcamaa
open Go.Ab
attribute [local irreducible] WeakR WeakE CallA YieldA

structure Put where
  needle : Nat
  many : Nat
def Put.av (p : Put) : AV := .agg [.val (.int .u8 p.needle), .val (.int .u8 p.many)]
def Put.ok (p : Put) : Prop := p.needle < 256 ∧ p.many < 256

def idn (n : Nat) : Id := ⟨((1 + n % 3 : Nat) : Int), ((n / 3 : Nat) : Int)⟩
def inner (at_ : Nat) : Nat → List (List Id) → Nat → List (List Id) × Nat
  | 0, T, n => (T, n)
  | r + 1, T, n => if (T.getD at_ []).length < 4 then inner at_ r (T.set at_ (T.getD at_ [] ++ [idn n])) (n + 1) else (T, n)
def ofN (P : List Put) : List (List Id) × Nat := (P.take 40).foldl (fun s p => inner (p.needle % 80) (p.many % 5) s.1 s.2) (List.replicate 80 [], 0)
def ofL (P : List Put) : List (List Id) := (ofN P).1

/-- What is known of a table. -/
structure TabOK (T : List (List Id)) (n : Nat) : Prop where
  len : T.length = 80
  le : ∀ l ∈ T, l.length ≤ 4
  mem : ∀ p ∈ T.flatten, ∃ j, j < n ∧ p = idn j
  nd : T.flatten.Nodup

theorem idn_inj {i j : Nat} (h : idn i = idn j) : i = j := by
  unfold idn at h
  simp only [Id.mk.injEq] at h
  omega

theorem flat_set_perm {T : List (List Id)} {i : Nat} (h : i < T.length) (x : Id) : (T.set i (T.getD i [] ++ [x])).flatten.Perm (x :: T.flatten) := by
  induction T generalizing i with
  | nil => simp at h
  | cons l T ih =>
    cases i with
    | zero =>
      simp only [List.set_cons_zero, List.flatten_cons, List.getD_cons_zero, List.append_assoc]
      exact (List.perm_middle (l₁ := l) (a := x) (l₂ := T.flatten))
    | succ i =>
      simp only [List.set_cons_succ, List.flatten_cons, List.getD_cons_succ]
      refine (List.Perm.append_left l (ih (by simpa using h))).trans ?_
      exact List.perm_middle

theorem TabOK.add {T : List (List Id)} {n at_ : Nat} (h : TabOK T n) (ha : at_ < 80) (hl : (T.getD at_ []).length < 4) : TabOK (T.set at_ (T.getD at_ [] ++ [idn n])) (n + 1) := by
  have hp := flat_set_perm (T := T) (i := at_) (by rw [h.len]; exact ha) (idn n)
  refine ⟨by simp [h.len], fun l hm => ?_, fun p hm => ?_, ?_⟩
  · rcases List.mem_or_eq_of_mem_set hm with hm | rfl
    · exact h.le l hm
    · rw [List.length_append]; show _ + 1 ≤ 4; omega
  · rcases List.mem_cons.1 (hp.mem_iff.1 hm) with rfl | hm
    · exact ⟨n, by omega, rfl⟩
    · obtain ⟨j, hj, e⟩ := h.mem p hm
      exact ⟨j, by omega, e⟩
  · rw [hp.nodup_iff, List.nodup_cons]
    refine ⟨fun hm => ?_, h.nd⟩
    obtain ⟨j, hj, e⟩ := h.mem _ hm
    have := idn_inj e
    omega

theorem inner_ok {at_ : Nat} (ha : at_ < 80) : ∀ (r : Nat) (T : List (List Id)) (n : Nat), TabOK T n → TabOK (inner at_ r T n).1 (inner at_ r T n).2 ∧ (inner at_ r T n).2 ≤ n + r
  | 0, T, n, h => ⟨h, Nat.le_refl _⟩
  | r + 1, T, n, h => by
    unfold inner
    split
    · rename_i hl
      obtain ⟨h1, h2⟩ := inner_ok ha r _ (n + 1) (h.add ha hl)
      exact ⟨h1, by omega⟩
    · exact ⟨h, by omega⟩

theorem tab0 : TabOK (List.replicate 80 []) 0 := by
  refine ⟨by simp, fun l hl => ?_, fun p hp => ?_, ?_⟩
  · rw [List.eq_of_mem_replicate hl]; simp
  · simp at hp
  · simp

theorem fold_ok : ∀ (P : List Put) (T : List (List Id)) (n : Nat), TabOK T n → TabOK (P.foldl (fun s p => inner (p.needle % 80) (p.many % 5) s.1 s.2) (T, n)).1 (P.foldl (fun s p => inner (p.needle % 80) (p.many % 5) s.1 s.2) (T, n)).2 ∧ (P.foldl (fun s p => inner (p.needle % 80) (p.many % 5) s.1 s.2) (T, n)).2 ≤ n + 5 * P.length
  | [], T, n, h => ⟨h, by simp⟩
  | p :: P, T, n, h => by
    obtain ⟨h1, h2⟩ := inner_ok (at_ := p.needle % 80) (Nat.mod_lt _ (by omega)) (p.many % 5) T n h
    obtain ⟨h3, h4⟩ := fold_ok P _ _ h1
    refine ⟨h3, ?_⟩
    have h4 := Nat.le_trans h4 (Nat.add_le_add_right h2 _)
    simp only [List.foldl_cons, List.length_cons]
    have : p.many % 5 < 5 := Nat.mod_lt _ (by omega)
    refine Nat.le_trans h4 ?_
    omega
theorem ofN_ok (P : List Put) : TabOK (ofN P).1 (ofN P).2 ∧ (ofN P).2 ≤ 200 := by
  obtain ⟨h1, h2⟩ := fold_ok (P.take 40) _ _ tab0
  refine ⟨h1, Nat.le_trans h2 ?_⟩
  have := List.length_take_le 40 P
  omega

/-- A table of slices, each with an array of its own. -/
structure TabA (fr : Nat → Prop) (O : Heap) (ts : List AV) (T : List (List Id)) : Prop where
  len : ts.length = T.length
  el : ∀ (i : Nat) (h : i < ts.length) (h' : i < T.length), (ts[i] = nilS ∧ T[i] = []) ∨ (T[i] ≠ [] ∧ ∃ id c elems, ts[i] = .own id 2 0 T[i].length c ∧ fr id ∧ O id = some (.arr 35 2 elems) ∧ elems.take T[i].length = T[i].map Id.av ∧ T[i].length ≤ elems.length)
  inj : ∀ (i j : Nat) (h : i < ts.length) (h' : j < ts.length) (id a b c d : Nat) (e f : Option Nat), ts[i] = .own id 2 a b e → ts[j] = .own id 2 c d f → i = j

theorem TabA.len1 {fr : Nat → Prop} {O : Heap} {ts : List AV} {T : List (List Id)} (h : TabA fr O ts T) (i : Nat) (h1 : i < ts.length) (h2 : i < T.length) : lenA ts[i] = some (.val (.int .i64 T[i].length)) ∧ ts[i].cells = [ts[i]] ∧ ts[i].stor = true := by
  rcases h.el i h1 h2 with ⟨e1, e2⟩ | ⟨_, id, c, elems, e, _⟩
  · rw [e1, e2]; exact ⟨rfl, rfl, rfl⟩
  · rw [e]; exact ⟨rfl, rfl, rfl⟩

theorem TabA.mono {fr : Nat → Prop} {O O' : Heap} {ts : List AV} {T : List (List Id)} (h : TabA fr O ts T) (hs : ∀ id, fr id → O' id = O id) : TabA fr O' ts T :=
  ⟨h.len, fun i h1 h2 => (h.el i h1 h2).imp id fun ⟨h3, q, c, elems, e1, e2, e3, e4, e5⟩ => ⟨h3, q, c, elems, e1, e2, by rw [hs _ e2]; exact e3, e4, e5⟩, h.inj⟩

theorem append_tab {fr : Nat → Prop} {O : Heap} {ts : List AV} {T : List (List Id)} (h : TabA fr O ts T) (hfr : ∀ id, O id = none → fr id) (i : Nat) (h1 : i < ts.length) (h2 : i < T.length) (x : Id) (hlt : T[i].length < 100) {y : AV} (hy : y = .list 2 true [x.av]) {K : AV → Heap → Prop}
    (hk : ∀ v O', v.cells = [v] → v.stor = true → (∀ q, ¬ fr q → O' q = O q) → TabA fr O' (ts.set i v) (T.set i (T[i] ++ [x])) → K v O') : AppendSem true 35 2 16 ts[i] y O K := by
  subst hy
  have key : ∀ (id : Nat) (c : Option Nat) (elems : List AV) (O' : Heap), fr id → O' id = some (.arr 35 2 elems) → elems.take (T[i].length + 1) = (T[i] ++ [x]).map Id.av → T[i].length + 1 ≤ elems.length → (∀ j (hj : j < ts.length) q a b c, j ≠ i → ts[j] = .own q 2 a b c → fr q → q ≠ id ∧ O' q = O q) →
      TabA fr O' (ts.set i (.own id 2 0 (T[i].length + 1) c)) (T.set i (T[i] ++ [x])) := by
    intro id c elems O' k1 k2 k3 k4 k5
    refine ⟨by simp [h.len], fun j hj hj' => ?_, fun j k hj hk q a b c' d e f e1 e2 => ?_⟩
    · simp only [List.length_set] at hj hj'
      rw [List.getElem_set, List.getElem_set]
      by_cases hji : i = j
      · simp only [if_pos hji]
        refine .inr ⟨by simp, id, c, elems, by rw [List.length_append]; rfl, k1, k2, by rw [List.length_append]; exact k3, by rw [List.length_append]; exact k4⟩
      · simp only [if_neg hji]
        rcases h.el j hj hj' with e | ⟨e0, q, c', el, e1, e2, e3, e4, e5⟩
        · exact .inl e
        · exact .inr ⟨e0, q, c', el, e1, e2, by rw [(k5 j hj q _ _ _ (Ne.symm hji) e1 e2).2]; exact e3, e4, e5⟩
    · simp only [List.length_set] at hj hk
      rw [List.getElem_set] at e1 e2
      have hfrq : ∀ m (hm : m < ts.length) q a b c, ts[m] = .own q 2 a b c → fr q := fun m hm q a b c em => by
        rcases h.el m hm (by rw [← h.len]; exact hm) with ⟨e, _⟩ | ⟨_, q', c', el, e1, e2, _⟩
        · rw [em] at e; cases e
        · rw [em] at e1; cases e1; exact e2
      by_cases hji : i = j
      · by_cases hki : i = k
        · omega
        · rw [if_pos hji] at e1
          rw [if_neg hki] at e2
          cases e1
          exact absurd rfl (k5 k hk id _ _ _ (Ne.symm hki) e2 (hfrq k hk _ _ _ _ e2)).1
      · rw [if_neg hji] at e1
        by_cases hki : i = k
        · rw [if_pos hki] at e2
          cases e2
          exact absurd rfl (k5 j hj id _ _ _ (Ne.symm hji) e1 (hfrq j hj _ _ _ _ e1)).1
        · rw [if_neg hki] at e2
          exact h.inj j k hj hk q a b c' d e f e1 e2
  rcases h.el i h1 h2 with ⟨e1, e2⟩ | ⟨_, id, c, elems, e1, e2, e3, e4, e5⟩
  · rw [e1]
    refine app_nil_own (el_list _ _ _ _) (fits_of (by simp) (by omega)) (by simp) fun id hid => ?_
    refine hk _ _ rfl rfl (fun q hq => Heap.upd_ne _ _ (fun e => by rw [e] at hq; exact hq (hfr id hid))) ?_
    have := key id none [x.av] (O.upd id (.arr 35 2 [x.av])) (hfr id hid) (Heap.upd_same _ _ _) (by rw [e2]; rfl) (by rw [e2]; simp) (fun j hj q a b c hji e hq => by
      have hne : q ≠ id := fun e' => by
        rcases h.el j hj (by rw [← h.len]; exact hj) with ⟨e'', _⟩ | ⟨_, q', c', el, e1', e2', e3', _⟩
        · rw [e] at e''; cases e''
        · rw [e] at e1'; cases e1'; rw [e', hid] at e3'; cases e3'
      exact ⟨hne, Heap.upd_ne _ _ hne⟩)
    rw [e2] at this ⊢
    exact this
  · rw [e1]
    refine app_move (el_list _ _ _ _) e3 e5 (fits_of (by simp; omega) (by omega)) fun id' hid' => ?_
    have hne' : id' ≠ id := fun e => by rw [e, e3] at hid'; cases hid'
    refine hk _ _ rfl rfl (fun q hq => ?_) ?_
    · have g1 : q ≠ id' := fun e => by rw [e] at hq; exact hq (hfr id' hid')
      have g2 : q ≠ id := fun e => by rw [e] at hq; exact hq e2
      rw [Heap.upd_ne _ _ g1, Heap.del_ne _ g2]
    · refine key id' none _ _ (hfr id' hid') (Heap.upd_same _ _ _) ?_ ?_ ?_
      · rw [e4, List.map_append, List.take_of_length_le (by simp)]
        rfl
      · rw [e4]; simp
      · intro j hj q a b c hji e hq
        have hq1 : q ≠ id' := fun e' => by
          rcases h.el j hj (by rw [← h.len]; exact hj) with ⟨e'', _⟩ | ⟨_, q', c', el, e1', e2', e3', _⟩
          · rw [e] at e''; cases e''
          · rw [e] at e1'; cases e1'; rw [e', hid'] at e3'; cases e3'
        have hq2 : q ≠ id := fun e' => hji (h.inj j i hj h1 id _ _ _ _ _ _ (e' ▸ e) e1)
        exact ⟨hq1, by rw [Heap.upd_ne _ _ hq1, Heap.del_ne _ hq2]⟩
end Go.Proofs.Ytembkknplmcamaa

namespace Go.Proofs.Ytembkknplmcamaa
open Go.Ab
attribute [local irreducible] WeakR WeakE CallA YieldA

/-- The same, of which the first ones are lists. -/
structure TabB (fr : Nat → Prop) (m : Nat) (O : Heap) (ts : List AV) (T : List (List Id)) : Prop where
  len : ts.length = T.length
  dn : ∀ (i : Nat) (h : i < ts.length) (h' : i < T.length), i < m → ts[i] = frA 2 (T[i].map Id.av)
  el : ∀ (i : Nat) (h : i < ts.length) (h' : i < T.length), m ≤ i → (ts[i] = nilS ∧ T[i] = []) ∨ (T[i] ≠ [] ∧ ∃ id c elems, ts[i] = .own id 2 0 T[i].length c ∧ fr id ∧ O id = some (.arr 35 2 elems) ∧ elems.take T[i].length = T[i].map Id.av ∧ T[i].length ≤ elems.length)
  inj : ∀ (i j : Nat) (h : i < ts.length) (h' : j < ts.length) (id a b c d : Nat) (e f : Option Nat), m ≤ i → m ≤ j → ts[i] = .own id 2 a b e → ts[j] = .own id 2 c d f → i = j

def tabA (T : List (List Id)) : List AV := T.map fun l => frA 2 (l.map Id.av)

theorem frz_tab {fr : Nat → Prop} {K : AV → Heap → Prop} {T : List (List Id)} : ∀ (r m : Nat) (O : Heap) (ts : List AV), m + r = T.length → TabB fr m O ts T → (∀ O2, (∀ q, ¬ fr q → O2 q = O q) → WeakR K (.agg (tabA T)) O2) → WeakR K (.agg ts) O
  | 0, m, O, ts, hm, h, hk => by
    have : ts = tabA T := List.ext_getElem (by simp [tabA, h.len]) fun i h1 h2 => by
      rw [h.dn i h1 (by rw [← h.len]; exact h1) (by rw [h.len] at h1; omega)]
      simp [tabA]
    rw [this]
    exact hk O fun _ _ => rfl
  | r + 1, m, O, ts, hm, h, hk => by
    have h1 : m < ts.length := by rw [h.len]; omega
    have h2 : m < T.length := by omega
    rcases h.el m h1 h2 (Nat.le_refl _) with ⟨e1, e2⟩ | ⟨e0, id, c, elems, e1, e2, e3, e4, e5⟩
    · refine frz_tab r (m + 1) O ts (by omega) ⟨h.len, fun i hi hi' him => ?_, fun i hi hi' him => h.el i hi hi' (by omega), fun i j hi hj id a b c d e f k1 k2 => h.inj i j hi hj id a b c d e f (by omega) (by omega)⟩ hk
      rcases Nat.lt_or_ge i m with h' | h'
      · exact h.dn i hi hi' h'
      · have : i = m := by omega
        subst this
        rw [e1, e2]
        rfl
    · have hz := Fz.own (id := id) (sz := 2) (elems := elems) 0 T[m].length c false (by omega) (fun h => by cases h)
      rw [List.drop_zero, e4] at hz
      have hf : frA 2 (T[m].map Id.av) = .list 2 false (T[m].map Id.av) := by rw [frA, if_neg (by simpa using e0)]
      rw [← hf, ← e1] at hz
      refine WeakR.freeze e3 (.agg ts (ts.set m (frA 2 (T[m].map Id.av))) (by simp) fun i x y hx hy => ?_) (frz_tab (fr := fr) r (m + 1) (O.del id) _ (by omega) ⟨by simp [h.len], fun i hi hi' him => ?_, fun i hi hi' him => ?_, fun i j hi hj q a b c d e f k1 k2 k3 k4 => ?_⟩ fun O2 hO2 => hk O2 fun q hq => ?_)
      · have hi : i < ts.length := (List.getElem?_eq_some_iff.1 hx).1
        rw [List.getElem?_set] at hy
        rw [List.getElem?_eq_getElem hi] at hx
        cases hx
        by_cases him : m = i
        · subst him
          rw [if_pos rfl, if_pos h1] at hy
          cases hy
          exact hz
        · rw [if_neg him, List.getElem?_eq_getElem hi] at hy
          cases hy
          exact .same _
      · rw [List.getElem_set]
        split
        · rename_i e; subst e; rfl
        · exact h.dn i (by simpa using hi) hi' (by omega)
      · simp only [List.length_set] at hi
        rw [List.getElem_set, if_neg (by omega)]
        refine (h.el i hi hi' (by omega)).imp (fun x => x) fun ⟨k0, q, c', el, k1, k2, k3, k4, k5⟩ => ⟨k0, q, c', el, k1, k2, ?_, k4, k5⟩
        have hne : q ≠ id := fun e' => by
          have := h.inj i m hi h1 id _ _ _ _ _ _ (by omega) (Nat.le_refl _) (e' ▸ k1) e1
          omega
        rw [Heap.del_ne _ hne]; exact k3
      · simp only [List.length_set] at hi hj
        rw [List.getElem_set, if_neg (by omega)] at k3 k4
        exact h.inj i j hi hj q a b c d e f (by omega) (by omega) k3 k4
      · have hne : q ≠ id := fun e' => hq (e' ▸ e2)
        rw [hO2 q hq, Heap.del_ne _ hne]

theorem TabA.frz {fr : Nat → Prop} {K : AV → Heap → Prop} {T : List (List Id)} {O : Heap} {ts : List AV} (h : TabA fr O ts T) (hk : ∀ O2, (∀ q, ¬ fr q → O2 q = O q) → WeakR K (.agg (tabA T)) O2) : WeakR K (.agg ts) O :=
  frz_tab T.length 0 O ts (by omega) ⟨h.len, fun i _ _ h => by omega, fun i h1 h2 _ => h.el i h1 h2, fun i j h1 h2 id a b c d e f _ _ => h.inj i j h1 h2 id a b c d e f⟩ hk

theorem tabA_get (T : List (List Id)) (i : Nat) (h : i < T.length) : (tabA T)[i]? = some (frA 2 (T[i].map Id.av)) := by
  unfold tabA
  rw [List.getElem?_map, List.getElem?_eq_getElem h]
  rfl

def env9 (s : AV) (q2 q3 n i : Nat) : Env := ((((Env.upd (fun _ => .junk) 5 (.val (.int .i64 i))).upd 4 (.val (.int .i64 n))).upd 3 (.optr q3 80 0 0)).upd 2 (.optr q2 80 0 0)).upd 0 s
def env9b (s : AV) (q2 q3 n i at_ k : Nat) : Env := ((((((Env.upd (fun _ => .junk) 7 (.val (.int .i64 k))).upd 6 (.val (.int .u8 at_))).upd 5 (.val (.int .i64 i))).upd 4 (.val (.int .i64 n))).upd 3 (.optr q3 80 0 0)).upd 2 (.optr q2 80 0 0)).upd 0 s

/-- The state of the making of a table. -/
structure St9 (O O' : Heap) (q2 q3 : Nat) (ts : List AV) (T : List (List Id)) (n : Nat) : Prop where
  ok : TabOK T n
  nn : n ≤ 1000
  h2 : O' q2 = some (.arr 62 80 [.agg (List.replicate 80 nilS)])
  h3 : O' q3 = some (.arr 62 80 [.agg ts])
  sub : O.sub O'
  tab : TabA (fun id => O id = none ∧ id ≠ q2 ∧ id ≠ q3) O' ts T

set_option maxHeartbeats 4000000 in
theorem of_ok (s : AV) (P : List Put) (hs : IsL 2 s (P.map Put.av)) (hP : ∀ p ∈ P, p.ok) : PureA Try.prog 16 [s] (.agg (tabA (ofL P))) := by
  intro O
  have h1 := hs.len
  rw [List.length_map] at h1
  refine k16.call mix ?_
  unfold c16
  (repeat' first
    | simp (contextual := true) (maxSteps := 4000000) only [fwc, fwe, fww, reduceIte, ↓reduceIte, Nat.reduceAdd, Nat.reduceLeDiff, Nat.reduceEqDiff, Nat.reduceLT, Nat.reduceSub, reduceCtorEq, Int.reduceEq, Int.reduceLT, Int.reduceLE, Int.reduceNeg, Int.reduceToNat, Int.reduceAdd, Int.reduceSub, Nat.reduceMul, *]
    | (refine seqK_now ?_)
    | (refine retK_now ?_)
    | (refine retK_now' ?_)
    | (intro q hq)
    | (refine cond_intro (fun hc => ?_) (fun hc => ?_)))
  rename_i q2 hq2
  revert q
  intro q3 hq3
  have hO3 : O q3 = none := hq3.2.2
  obtain ⟨a1, a2, _⟩ := hq3
  obtain ⟨fin, hfin⟩ : ∃ X, ofN P = X := ⟨_, rfl⟩
  let step : List (List Id) × Nat → Put → List (List Id) × Nat := fun s p => inner (p.needle % 80) (p.many % 5) s.1 s.2
  obtain ⟨I, hI⟩ := hideI (fun m e O' => ∃ (i : Nat) (ts : List AV) (T : List (List Id)) (n : Nat), i ≤ min P.length 40 ∧ m = min P.length 40 - i ∧ n ≤ 5 * i ∧ ((P.take 40).drop i).foldl step (T, n) = fin ∧ St9 O O' q2 q3 ts T n ∧ e = env9 s q2 q3 n i)
  have hmem : ∀ p ∈ P, p.ok := hP
  replace hmem := (show Aside _ from hmem)
  clear hP
  have hst0 : St9 O ((O.upd q2 (.arr 62 80 [.agg (List.replicate 80 nilS)])).upd q3 (.arr 62 80 [.agg (List.replicate 80 nilS)])) q2 q3 (List.replicate 80 nilS) (List.replicate 80 []) 0 :=
    ⟨tab0, by omega, by rw [Heap.upd_ne _ _ a2, Heap.upd_same], Heap.upd_same _ _ _, sub_upd hO3 (sub_upd hq2 (Heap.sub_refl _)),
      ⟨by rw [List.length_replicate, List.length_replicate], fun i h h' => .inl ⟨by rw [List.getElem_replicate], by rw [List.getElem_replicate]⟩, fun i j h h' id a b c d e f k1 k2 => by rw [List.getElem_replicate] at k1; cases k1⟩⟩
  refine cmd_loop I (min P.length 40) (by
    rw [hI.out]
    exact ⟨0, _, _, 0, by omega, rfl, by omega, hfin, hst0, rfl⟩) ?_
  clear hst0
  intro m e O' hh
  rw [hI.out] at hh
  obtain ⟨i, ts, T, n, h3, rfl, hn, hfd, hst, rfl⟩ := hh
  unfold env9
  have d2 : decide ((i : Int) < 40) = decide (i < 40) := decide_eq_decide.2 (by omega)
  by_cases hi : i < P.length ∧ i < 40
  · obtain ⟨hi1, hi2⟩ := hi
    have d3 : decide (i < P.length) = true := decide_eq_true hi1
    have d4 : decide (i < 40) = true := decide_eq_true hi2
    have hia := hs.ia (i := i) (by rw [List.length_map]; exact hi1)
    rw [List.getElem_map] at hia
    have hok := hmem.out _ (List.getElem_mem hi1)
    have hdr : (P.take 40).drop i = P[i] :: (P.take 40).drop (i + 1) := by
      rw [List.drop_eq_getElem_cons (by simp; omega)]
      simp
    rw [hdr, List.foldl_cons] at hfd
    generalize P[i] = p at hia hok hfd
    clear hdr
    rw [show p.av = .agg [.val (.int .u8 p.needle), .val (.int .u8 p.many)] from rfl] at hia
    obtain ⟨hk1, hk2⟩ := hok
    have hfd : ((P.take 40).drop (i + 1)).foldl step (inner (p.needle % 80) (p.many % 5) T n) = fin := hfd
    have r1 : Int.tmod (p.needle : Int) 80 = ((p.needle % 80 : Nat) : Int) := by rw [Int.tmod_eq_emod_of_nonneg (by omega)]; omega
    have r2 : Int.tmod (p.many : Int) 5 = ((p.many % 5 : Nat) : Int) := by rw [Int.tmod_eq_emod_of_nonneg (by omega)]; omega
    have hc5 : p.many % 5 < 5 := Nat.mod_lt _ (by omega)
    have ha80 : p.needle % 80 < 80 := Nat.mod_lt _ (by omega)
    obtain ⟨at_, hat⟩ : ∃ a, p.needle % 80 = a := ⟨_, rfl⟩
    obtain ⟨c, hcc⟩ : ∃ a, p.many % 5 = a := ⟨_, rfl⟩
    rw [hat] at r1 hfd ha80
    rw [hcc] at r2 hfd hc5
    clear hat hcc
    have hwi : i < 4611686018427387904 := by omega
    replace hfd := (show Aside _ from hfd)
    replace hst := (show Aside _ from hst)
    (repeat' first
    | simp (contextual := true) (maxSteps := 4000000) only [fwc, fwe, fww, reduceIte, ↓reduceIte, Nat.reduceAdd, Nat.reduceLeDiff, Nat.reduceEqDiff, Nat.reduceLT, Nat.reduceSub, reduceCtorEq, Int.reduceEq, Int.reduceLT, Int.reduceLE, Int.reduceNeg, Int.reduceToNat, Int.reduceAdd, Int.reduceSub, Nat.reduceMul, ilt_nat, part_cell, *]
    | (refine seqK_now ?_)
    | (refine retK_now ?_)
    | (refine retK_now' ?_)
    | (intro q hq)
    | (refine cond_intro (fun hc => ?_) (fun hc => ?_)))
    obtain ⟨I2, hI2⟩ := hideI (fun m e O' => ∃ (k : Nat) (ts : List AV) (T2 : List (List Id)) (n2 : Nat), k ≤ c ∧ m = c - k ∧ n2 ≤ 5 * i + k ∧ inner at_ (c - k) T2 n2 = inner at_ c T n ∧ St9 O O' q2 q3 ts T2 n2 ∧ e = env9b s q2 q3 n2 i at_ k)
    refine cmd_loop I2 c (by
      rw [hI2.out]
      exact ⟨0, ts, T, n, by omega, rfl, by omega, rfl, hst.out, rfl⟩) ?_
    clear hst
    intro m e O' hh
    rw [hI2.out] at hh
    obtain ⟨k, ts, T2, n2, h4, rfl, hn2, hin, hst, rfl⟩ := hh
    unfold env9b
    have hokt := hst.ok
    have hT : at_ < T2.length := by rw [hokt.len]; exact ha80
    have hts : at_ < ts.length := by rw [hst.tab.len]; exact hT
    obtain ⟨v1, v2, v3⟩ := hst.tab.len1 at_ hts hT
    have hq3 := hst.h3
    have hge : ts[at_]? = some ts[at_] := List.getElem?_eq_getElem hts
    have hgd : T2.getD at_ [] = T2[at_] := by rw [List.getD_eq_getElem?_getD, List.getElem?_eq_getElem hT]; rfl
    have hix : indexPtrA 80 1 false (at_ : Int) (.optr q3 80 0 0) = some (.optr q3 80 0 at_) := by
      rw [ixp_optr, if_pos (by omega)]
      simp
    have hw4 : IntKind.i64.wrap (c : Int) = c := wrap_nat (by omega)
    have hle80 : at_ + 1 ≤ 80 := by omega
    by_cases hk : k < c
    · have e1 : decide (k < c) = true := decide_eq_true hk
      have e2 : decide ((T2[at_].length : Int) < 4) = decide (T2[at_].length < 4) := decide_eq_decide.2 (by omega)
      by_cases hl4 : T2[at_].length < 4
      · have e3 : decide (T2[at_].length < 4) = true := decide_eq_true hl4
        have u1 : Int.tmod (n2 : Int) 3 = ((n2 % 3 : Nat) : Int) := by rw [Int.tmod_eq_emod_of_nonneg (by omega)]; omega
        have u2 : IntKind.u8.wrap ((n2 % 3 : Nat) : Int) = ((n2 % 3 : Nat) : Int) := wrap_u8 (by omega) (by omega)
        have u3 : IntKind.u8.wrap (1 + ((n2 % 3 : Nat) : Int)) = ((1 + n2 % 3 : Nat) : Int) := by rw [wrap_u8 (by omega) (by omega)]; omega
        have u4 : IntKind.i64.wrap (Int.tdiv (n2 : Int) 3) = ((n2 / 3 : Nat) : Int) := by rw [Int.tdiv_eq_ediv_of_nonneg (by omega), wrap_i64 (by omega) (by omega)]; omega
        have htab := hst.tab
        have hh2 := hst.h2
        have hsub := hst.sub
        replace hst := (show Aside _ from hst)
        replace hl4 := (show Aside _ from hl4)
        replace hin := (show Aside _ from hin)
        have hwn : n2 < 4611686018427387904 := by omega
        have hwk : k < 4611686018427387904 := by omega
        have hle1 : at_ + 1 ≤ ts.length := hts
        (repeat' first
    | simp (contextual := true) (maxSteps := 4000000) only [fwc, fwe, fww, reduceIte, ↓reduceIte, Nat.reduceAdd, Nat.reduceLeDiff, Nat.reduceEqDiff, Nat.reduceLT, Nat.reduceSub, reduceCtorEq, Int.reduceEq, Int.reduceLT, Int.reduceLE, Int.reduceNeg, Int.reduceToNat, Int.reduceAdd, Int.reduceSub, Nat.reduceMul, ilt_nat, part_cell, *]
    | (refine seqK_now ?_)
    | (refine retK_now ?_)
    | (refine retK_now' ?_)
    | (intro q hq)
    | (refine cond_intro (fun hc => ?_) (fun hc => ?_)))
        refine append_tab htab ?_ at_ hts hT (idn n2) (by have := hl4.out; omega) rfl ?_
        · intro id hid
          show O id = none ∧ id ≠ q2 ∧ id ≠ q3
          refine ⟨?_, fun e => (by rw [e, hh2] at hid; cases hid), fun e => (by rw [e, hq3] at hid; cases hid)⟩
          cases ho : O id with
          | none => rfl
          | some o => rw [hsub _ _ ho] at hid; cases hid
        intro v O2 w1 w2 w3 w4
        have g2 := (w3 q2 (fun h => h.2.1 rfl)).trans hh2
        have g3 := (w3 q3 (fun h => h.2.2 rfl)).trans hq3
        have hsp : ts.take at_ ++ [v] ++ ts.drop (at_ + 1) = ts.set at_ v := by rw [List.set_eq_take_append_cons_drop, if_pos hts]; simp
        replace w4 := (show Aside _ from w4)
        replace w3 := (show Aside _ from w3)
        replace hsub := (show Aside _ from hsub)
        (repeat' first
    | simp (contextual := true) (maxSteps := 4000000) only [fwc, fwe, fww, reduceIte, ↓reduceIte, Nat.reduceAdd, Nat.reduceLeDiff, Nat.reduceEqDiff, Nat.reduceLT, Nat.reduceSub, reduceCtorEq, Int.reduceEq, Int.reduceLT, Int.reduceLE, Int.reduceNeg, Int.reduceToNat, Int.reduceAdd, Int.reduceSub, Nat.reduceMul, wrap_succ, and_false, *]
    | (refine seqK_now ?_)
    | (refine retK_now ?_)
    | (refine retK_now' ?_)
    | (intro q hq)
    | (refine cond_intro (fun hc => ?_) (fun hc => ?_)))
        refine loopK_now (c - (k + 1)) (by omega) ?_
        rw [hI2.out]
        refine ⟨k + 1, ts.set at_ v, T2.set at_ (T2[at_] ++ [idn n2]), n2 + 1, by omega, rfl, by omega, ?_, ?_, ?_⟩
        · rw [← hin.out, show c - k = (c - (k + 1)) + 1 by omega, inner, if_pos (by rw [hgd]; exact hl4.out), hgd]
        · refine ⟨?_, by omega, ?_, ?_, ?_, ?_⟩
          · have := hokt.add (at_ := at_) ha80 (by rw [hgd]; exact hl4.out)
            rwa [hgd] at this
          · rw [Heap.upd_ne _ _ a2]; exact g2
          · exact Heap.upd_same _ _ _
          · refine fun j o hj => ?_
            rw [Heap.upd_ne _ _ (fun e => by rw [e, hO3] at hj; cases hj), w3.out j (fun h => by rw [hj] at h; cases h.1)]
            exact hsub.out j o hj
          · exact w4.out.mono fun id hid => Heap.upd_ne _ _ hid.2.2
        · simp (contextual := true) (maxSteps := 4000000) only [fwc, fwe, fww, reduceIte, ↓reduceIte, Nat.reduceAdd, Nat.reduceLeDiff, Nat.reduceEqDiff, Nat.reduceLT, Nat.reduceSub, reduceCtorEq, Int.reduceEq, Int.reduceLT, Int.reduceLE, Int.reduceNeg, Int.reduceToNat, Int.reduceAdd, Int.reduceSub, Nat.reduceMul, env9b, wrap_succ, *]
      · have e3 : decide (T2[at_].length < 4) = false := decide_eq_false hl4
        have hfin2 : inner at_ c T n = (T2, n2) := by
          rw [← hin, show c - k = (c - (k + 1)) + 1 by omega, inner, if_neg (by rw [hgd]; exact hl4)]
        rw [hfin2] at hfd
        clear hin hfin2
        replace hst := (show Aside _ from hst)
        replace hl4 := (show Aside _ from hl4)
        have hle1 : at_ + 1 ≤ ts.length := hts
        (repeat' first
    | simp (contextual := true) (maxSteps := 4000000) only [fwc, fwe, fww, reduceIte, ↓reduceIte, Nat.reduceAdd, Nat.reduceLeDiff, Nat.reduceEqDiff, Nat.reduceLT, Nat.reduceSub, reduceCtorEq, Int.reduceEq, Int.reduceLT, Int.reduceLE, Int.reduceNeg, Int.reduceToNat, Int.reduceAdd, Int.reduceSub, Nat.reduceMul, ilt_nat, part_cell, wrap_succ, *]
    | (refine seqK_now ?_)
    | (refine retK_now ?_)
    | (refine retK_now' ?_)
    | (intro q hq)
    | (refine cond_intro (fun hc => ?_) (fun hc => ?_)))
        refine loopK_now (min P.length 40 - (i + 1)) (by omega) ?_
        rw [hI.out]
        exact ⟨i + 1, ts, T2, n2, by omega, rfl, by omega, hfd.out, hst.out, rfl⟩
    · have e1 : decide (k < c) = false := decide_eq_false hk
      have hkc : k = c := by omega
      have hfin2 : inner at_ c T n = (T2, n2) := by
        rw [← hin, show c - k = 0 by omega, inner]
      rw [hfin2] at hfd
      clear hin hfin2
      replace hkc := (show Aside _ from hkc)
      replace hst := (show Aside _ from hst)
      have hle1 : at_ + 1 ≤ ts.length := hts
      (repeat' first
    | simp (contextual := true) (maxSteps := 4000000) only [fwc, fwe, fww, reduceIte, ↓reduceIte, Nat.reduceAdd, Nat.reduceLeDiff, Nat.reduceEqDiff, Nat.reduceLT, Nat.reduceSub, reduceCtorEq, Int.reduceEq, Int.reduceLT, Int.reduceLE, Int.reduceNeg, Int.reduceToNat, Int.reduceAdd, Int.reduceSub, Nat.reduceMul, ilt_nat, part_cell, wrap_succ, *]
    | (refine seqK_now ?_)
    | (refine retK_now ?_)
    | (refine retK_now' ?_)
    | (intro q hq)
    | (refine cond_intro (fun hc => ?_) (fun hc => ?_)))
      refine loopK_now (min P.length 40 - (i + 1)) (by omega) ?_
      rw [hI.out]
      exact ⟨i + 1, ts, T2, n2, by omega, rfl, by omega, hfd.out, hst.out, rfl⟩
  · have hi4 : i = min P.length 40 := by omega
    have hnil : (P.take 40).drop i = [] := by rw [List.drop_eq_nil_iff]; simp; omega
    rw [hnil, List.foldl_nil] at hfd
    have hT : T = ofL P := by unfold ofL; rw [hfin, ← hfd]
    have hq3 := hst.h3
    have hh2 := hst.h2
    have htl : ts.length = 80 := by rw [hst.tab.len, hst.ok.len]
    have htk : ts.take 80 = ts := List.take_of_length_le (by omega)
    have hle : (80 : Nat) ≤ ts.length := by omega
    have hcond : (decide (i < P.length) && decide (i < 40)) = false := by
      cases h1 : decide (i < P.length) with
      | false => rfl
      | true =>
        cases h2 : decide (i < 40) with
        | false => rfl
        | true => exact absurd ⟨of_decide_eq_true h1, of_decide_eq_true h2⟩ hi
    replace hst := (show Aside _ from hst)
    clear hi hnil hfd
    subst hT
    replace hi4 := (show Aside _ from hi4)
    (repeat' first
    | simp (contextual := true) (maxSteps := 4000000) only [fwc, fwe, fww, reduceIte, ↓reduceIte, Nat.reduceAdd, Nat.reduceLeDiff, Nat.reduceEqDiff, Nat.reduceLT, Nat.reduceSub, reduceCtorEq, Int.reduceEq, Int.reduceLT, Int.reduceLE, Int.reduceNeg, Int.reduceToNat, Int.reduceAdd, Int.reduceSub, Nat.reduceMul, ilt_nat, part_agg, *]
    | (refine seqK_now ?_)
    | (refine retK_now ?_)
    | (refine retK_now' ?_)
    | (intro q hq)
    | (refine cond_intro (fun hc => ?_) (fun hc => ?_)))
    refine (hst.out.tab.mono (O' := O'.upd q2 (.arr 62 80 [.agg ts])) fun id hid => Heap.upd_ne _ _ hid.2.1).frz fun O2 hO2 => ?_
    refine WeakR.pure ?_ rfl
    intro j o hj
    rw [hO2 j (fun h => by rw [hj] at h; cases h.1), Heap.upd_ne _ _ (fun e => by rw [e, hq2] at hj; cases hj)]
    exact hst.out.sub j o hj
end Go.Proofs.Ytembkknplmcamaa

namespace Go.Proofs.Ytembkknplmcamaa
open Go.Ab
attribute [local irreducible] WeakR WeakE CallA YieldA

theorem trim_hi (l : List (List Id)) : ∀ (n j : Nat), trimN l n ≤ j → j < n → l.getD j [] = []
  | 0, j, _, h => by omega
  | n + 1, j, h1, h2 => by
    unfold trimN at h1
    split at h1
    · rename_i h
      rcases Nat.lt_or_ge j n with h' | h'
      · exact trim_hi l n j h1 h'
      · rw [show j = n by omega]; exact h
    · omega
theorem trim_lo (l : List (List Id)) : ∀ (n : Nat), 0 < trimN l n → l.getD (trimN l n - 1) [] ≠ []
  | 0, h => by cases h
  | n + 1, h => by
    unfold trimN at h ⊢
    split
    · rename_i h'
      rw [if_pos h'] at h
      exact trim_lo l n h
    · rename_i h'
      exact h'

/-- How long the front bed is, and the back bed. -/
def trF (T : List (List Id)) : Nat := trimN (T.take 40) 40
def trB (T : List (List Id)) : Nat := trimN (T.drop 40) 40
theorem trF_hi {T : List (List Id)} {j : Nat} (h : trF T ≤ j) (hj : j < 40) : T.getD j [] = [] := by
  have := trim_hi (T.take 40) 40 j h hj
  rw [List.getD_eq_getElem?_getD, List.getElem?_take, if_pos hj, ← List.getD_eq_getElem?_getD] at this
  exact this
theorem trF_lo {T : List (List Id)} (h : 0 < trF T) : T.getD (trF T - 1) [] ≠ [] := by
  have := trim_lo (T.take 40) 40 h
  have hle := trimN_le (T.take 40) 40
  change (T.take 40).getD (trF T - 1) [] ≠ [] at this
  change trF T ≤ 40 at hle
  rw [List.getD_eq_getElem?_getD, List.getElem?_take, if_pos (by omega), ← List.getD_eq_getElem?_getD] at this
  exact this
theorem trB_hi {T : List (List Id)} {j : Nat} (h : trB T ≤ j) (hj : j < 40) : T.getD (40 + j) [] = [] := by
  have := trim_hi (T.drop 40) 40 j h hj
  rw [List.getD_eq_getElem?_getD, List.getElem?_drop, ← List.getD_eq_getElem?_getD] at this
  exact this
theorem trB_lo {T : List (List Id)} (h : 0 < trB T) : T.getD (40 + (trB T - 1)) [] ≠ [] := by
  have := trim_lo (T.drop 40) 40 h
  change (T.drop 40).getD (trB T - 1) [] ≠ [] at this
  rw [List.getD_eq_getElem?_getD, List.getElem?_drop, ← List.getD_eq_getElem?_getD] at this
  exact this
theorem trF_le (T : List (List Id)) : trF T ≤ 40 := trimN_le _ _
theorem trB_le (T : List (List Id)) : trB T ≤ 40 := trimN_le _ _
def nAt (tr k : Nat) : Nat := if k < tr then tr else 0

def bedsF (T : List (List Id)) : List (List Id) := (List.range (trF T)).map fun i => T.getD i []
def bedsB (T : List (List Id)) : List (List Id) := (List.range (trB T)).map fun i => T.getD (40 + i) []
def stk (l : List Id) : AV := .list 2 false (l.map Id.av)
def bedA (F : List (List Id)) : AV := if F = [] then nilS else .list 1 true (F.map stk)
theorem bedA_is (F : List (List Id)) : IsB (bedA F) (F.map stk) F ∧ IsT 1 (bedA F) (F.map stk) := by
  unfold bedA
  split
  · rename_i h; subst h
    exact ⟨⟨.nil, rfl, fun i h => by simp at h⟩, .nil⟩
  · refine ⟨⟨.list, by simp, fun i h h' => ?_⟩, .list⟩
    simp only [List.getElem_map]
    exact .list

/-- A row of a bed: nil, or an array of one's own. -/
def FA (fr : Nat → Prop) (O' : Heap) (s : AV) (n : Nat) (els : List AV) : Prop := (n = 0 ∧ s = nilS ∧ els = []) ∨ (0 < n ∧ ∃ id, s = .own id 1 0 n (some n) ∧ fr id ∧ O' id = some (.arr 60 1 els) ∧ els.length = n)
theorem FA.len {fr : Nat → Prop} {O' : Heap} {s : AV} {n : Nat} {els : List AV} (h : FA fr O' s n els) : lenA s = some (.val (.int .i64 n)) ∧ s.cells = [s] ∧ s.stor = true := by
  rcases h with ⟨rfl, rfl, _⟩ | ⟨_, id, rfl, _⟩ <;> exact ⟨rfl, rfl, rfl⟩
theorem FA.mono {fr : Nat → Prop} {O' O2 : Heap} {s : AV} {n : Nat} {els : List AV} (h : FA fr O' s n els) (hs : ∀ id a b c, s = .own id 1 a b c → fr id → O' id ≠ none → O2 id = O' id) : FA fr O2 s n els :=
  h.imp (fun h => h) fun ⟨h1, id, h2, h3, h4, h5⟩ => ⟨h1, id, h2, h3, (hs id _ _ _ h2 h3 (by rw [h4]; simp)).trans h4, h5⟩
theorem FA.at_ {fr : Nat → Prop} {O' : Heap} {s : AV} {n : Nat} {els : List AV} (h : FA fr O' s n els) {id a b : Nat} {c : Option Nat} (e : s = .own id 1 a b c) : O' id ≠ none := by
  rcases h with ⟨_, e', _⟩ | ⟨_, id', e', _, h4, _⟩
  · rw [e] at e'; cases e'
  · rw [e] at e'; cases e'; rw [h4]; simp
theorem nAt_make {tr j : Nat} {x : List Id} (hi : tr ≤ j → x = []) (h : (decide (nAt tr (j + 1) = 0) && decide (0 < x.length)) = true) : nAt tr j = j + 1 := by
  simp only [Bool.and_eq_true, decide_eq_true_eq] at h
  obtain ⟨h1, h2⟩ := h
  have : j < tr := Nat.lt_of_not_le fun h => by rw [hi h] at h2; cases h2
  unfold nAt at h1 ⊢
  rw [if_pos this]
  split at h1 <;> omega
theorem nAt_keep {tr j : Nat} {x : List Id} (lo : tr = j + 1 → x ≠ []) (h : ¬ (decide (nAt tr (j + 1) = 0) && decide (0 < x.length)) = true) : nAt tr j = nAt tr (j + 1) := by
  simp only [Bool.and_eq_true, decide_eq_true_eq, not_and] at h
  unfold nAt at h ⊢
  by_cases h1 : j + 1 < tr
  · rw [if_pos h1, if_pos (by omega)]
  · rw [if_neg h1] at h ⊢
    have hx := h rfl
    by_cases h2 : tr = j + 1
    · exact absurd (List.eq_nil_of_length_eq_zero (by omega)) (lo h2)
    · rw [if_neg (by omega)]

/-- The state of the making of beds. -/
structure St10 (O O' : Heap) (q1 q2 q3 : Nat) (T : List (List Id)) (fr bk : AV) (n m : Nat) (ef eb : List AV) : Prop where
  h1 : O' q1 = some (.arr 62 80 [.agg (tabA T)])
  h2 : O' q2 = some (.arr 26 2 [noBeds])
  h3 : O' q3 = some (.arr 26 2 [.agg [fr, bk]])
  sub : O.sub O'
  f : FA (fun id => O id = none ∧ id ≠ q1 ∧ id ≠ q2 ∧ id ≠ q3) O' fr n ef
  b : FA (fun id => O id = none ∧ id ≠ q1 ∧ id ≠ q2 ∧ id ≠ q3) O' bk m eb
  ne : ∀ id a b c a' b' c', fr = .own id 1 a b c → bk = .own id 1 a' b' c' → False

def elF (G : List (List Id)) (i : Nat) : List AV := (G.map stk).take i ++ List.replicate (G.length - i) nilS
theorem elF_zero (G : List (List Id)) : elF G 0 = List.replicate G.length nilS := by simp [elF]
theorem elF_get {G : List (List Id)} {i : Nat} (h : i < G.length) : (elF G i)[i]? = some nilS := by
  unfold elF
  rw [List.getElem?_append_right (by simp; omega), List.getElem?_replicate, if_pos (by simp; omega)]
theorem elF_set {G : List (List Id)} {i : Nat} (h : i < G.length) : (elF G i).set i (stk G[i]) = elF G (i + 1) := by
  unfold elF
  rw [List.set_append_right _ _ (by simp; omega), List.take_succ_eq_append_getElem (by simpa using h), show G.length - i = (G.length - (i + 1)) + 1 by omega, List.replicate_succ]
  have : i - ((G.map stk).take i).length = 0 := by simp; omega
  rw [this, List.set_cons_zero]
  simp
theorem elF_all (G : List (List Id)) : elF G G.length = G.map stk := by
  unfold elF
  rw [Nat.sub_self, List.replicate_zero, List.append_nil, List.take_of_length_le (by simp)]

theorem frz_bed {fr : Nat → Prop} {O' : Heap} {s : AV} {n : Nat} {G : List (List Id)} (h : FA fr O' s n (elF G n)) (hn : n = G.length) : s = bedA G ∨ ∃ id els, O' id = some (.arr 60 1 els) ∧ fr id ∧ Fz id 1 els s (bedA G) ∧ ∃ a b c, s = .own id 1 a b c := by
  rcases h with ⟨rfl, rfl, _⟩ | ⟨h0, id, rfl, h1, h2, h3⟩
  · refine .inl ?_
    rw [bedA, if_pos (List.eq_nil_of_length_eq_zero hn.symm)]
  · refine .inr ⟨id, _, h2, h1, ?_, _, _, _, rfl⟩
    have hz := Fz.own (id := id) (sz := 1) (elems := elF G n) 0 n (some n) true (by omega) (fun _ => rfl)
    rw [List.drop_zero, List.take_of_length_le (by omega)] at hz
    rw [bedA, if_neg (fun e => by rw [e] at hn; simp at hn; omega), ← elF_all, ← hn]
    exact hz

def env10b (q1 q2 q3 i : Nat) : Env := (((Env.upd (fun _ => .junk) 5 (.val (.int .i64 i))).upd 3 (.optr q3 2 0 0)).upd 2 (.optr q2 2 0 0)).upd 1 (.optr q1 80 0 0)
def env10c (q1 q2 q3 i : Nat) : Env := (((Env.upd (fun _ => .junk) 6 (.val (.int .i64 i))).upd 3 (.optr q3 2 0 0)).upd 2 (.optr q2 2 0 0)).upd 1 (.optr q1 80 0 0)
def env10 (q1 q2 q3 : Nat) (z : Int) : Env := (((Env.upd (fun _ => .junk) 4 (.val (.int .i64 z))).upd 3 (.optr q3 2 0 0)).upd 2 (.optr q2 2 0 0)).upd 1 (.optr q1 80 0 0)

set_option maxHeartbeats 4000000 in
theorem beds_ok (T : List (List Id)) (hT : T.length = 80) (hs : ∀ l ∈ T, l.length ≤ 1000) : PureA Try.prog 17 [.agg (tabA T)] (.agg [bedA (bedsF T), bedA (bedsB T)]) := by
  intro O
  have htl : (tabA T).length = 80 := by simp [tabA, hT]
  have htk : (tabA T).take 80 = tabA T := List.take_of_length_le (by omega)
  have hle : (80 : Nat) ≤ (tabA T).length := by omega
  refine k17.call mix ?_
  unfold c17
  (repeat' first
    | simp (contextual := true) (maxSteps := 4000000) only [fwc, fwe, fww, reduceIte, ↓reduceIte, Nat.reduceAdd, Nat.reduceLeDiff, Nat.reduceEqDiff, Nat.reduceLT, Nat.reduceSub, reduceCtorEq, Int.reduceEq, Int.reduceLT, Int.reduceLE, Int.reduceNeg, Int.reduceToNat, Int.reduceAdd, Int.reduceSub, Nat.reduceMul, *]
    | (refine seqK_now ?_)
    | (refine retK_now ?_)
    | (refine retK_now' ?_)
    | (intro q hq)
    | (refine cond_intro (fun hc => ?_) (fun hc => ?_)))
  rename_i q1 hq1 q2 hq2
  revert q
  intro q3 hq3
  have hO2 : O q2 = none := hq2.2.2
  have hO3 : O q3 = none := hq3.2.2.2.2
  obtain ⟨a1, a2, _⟩ := hq2
  obtain ⟨a3, a4, a5, a6, _⟩ := hq3
  have hst0 : St10 O (((O.upd q1 (.arr 62 80 [.agg (tabA T)])).upd q2 (.arr 26 2 [noBeds])).upd q3 (.arr 26 2 [.agg [nilS, nilS]])) q1 q2 q3 T nilS nilS 0 0 [] [] :=
    ⟨by rw [Heap.upd_ne _ _ a6, Heap.upd_ne _ _ a2, Heap.upd_same], by rw [Heap.upd_ne _ _ a4, Heap.upd_same], Heap.upd_same _ _ _, sub_upd hO3 (sub_upd hO2 (sub_upd hq1 (Heap.sub_refl _))), .inl ⟨rfl, rfl, rfl⟩, .inl ⟨rfl, rfl, rfl⟩, fun id a b c a' b' c' h => by cases h⟩
  obtain ⟨I, hI⟩ := hideI (fun m e O' => ∃ (k : Nat) (z : Int) (fr bk : AV), k ≤ 40 ∧ z = (k : Int) - 1 ∧ m = k ∧ St10 O O' q1 q2 q3 T fr bk (nAt (trF T) k) (nAt (trB T) k) (List.replicate (nAt (trF T) k) nilS) (List.replicate (nAt (trB T) k) nilS) ∧ e = env10 q1 q2 q3 z)
  refine cmd_loop I 40 (by
    rw [hI.out]
    refine ⟨40, 39, nilS, nilS, by omega, by omega, rfl, ?_, rfl⟩
    have e1 : nAt (trF T) 40 = 0 := by unfold nAt; rw [if_neg (by have := trF_le T; omega)]
    have e2 : nAt (trB T) 40 = 0 := by unfold nAt; rw [if_neg (by have := trB_le T; omega)]
    rw [e1, e2]
    exact hst0) ?_
  clear hst0
  intro m e O' hh
  rw [hI.out] at hh
  obtain ⟨k, z, fr, bk, h3, hz, hm, hst, rfl⟩ := hh
  subst m
  unfold env10
  have d1 : decide ((0 : Int) ≤ z) = decide (1 ≤ k) := decide_eq_decide.2 (by omega)
  obtain ⟨l1, l2, l3⟩ := hst.f.len
  obtain ⟨l4, l5, l6⟩ := hst.b.len
  have hh1 := hst.h1
  have hh2 := hst.h2
  have hh3 := hst.h3
  have hsub := hst.sub
  rcases Nat.eq_zero_or_pos k with hk | hk
  · subst hk
    have hz' : z = -1 := by omega
    subst hz'
    clear hz h3
    have n1 : nAt (trF T) 0 = trF T := by unfold nAt; split <;> omega
    have n2 : nAt (trB T) 0 = trB T := by unfold nAt; split <;> omega
    rw [n1, n2] at hst
    clear l1 l4 hh1 hh2 hh3 hsub l2 l3 l5 l6 d1 n1 n2
    have hst0 : St10 O O' q1 q2 q3 T fr bk (trF T) (trB T) (elF (bedsF T) 0) (elF (bedsB T) 0) := by
      rw [elF_zero, elF_zero, show (bedsF T).length = trF T by simp [bedsF], show (bedsB T).length = trB T by simp [bedsB]]
      exact hst
    clear hst
    obtain ⟨I2, hI2⟩ := hideI (fun m e O' => ∃ i, i ≤ trF T ∧ m = trF T - i ∧ St10 O O' q1 q2 q3 T fr bk (trF T) (trB T) (elF (bedsF T) i) (elF (bedsB T) 0) ∧ e = env10b q1 q2 q3 i)
    clear hI
    replace hst0 := (show Aside _ from hst0)
    replace hs := (show Aside _ from hs)
    (repeat' first
    | simp (contextual := true) (maxSteps := 4000000) only [fwc, fwe, fww, reduceIte, ↓reduceIte, Nat.reduceAdd, Nat.reduceLeDiff, Nat.reduceEqDiff, Nat.reduceLT, Nat.reduceSub, reduceCtorEq, Int.reduceEq, Int.reduceLT, Int.reduceLE, Int.reduceNeg, Int.reduceToNat, Int.reduceAdd, Int.reduceSub, Nat.reduceMul, *]
    | (refine seqK_now ?_)
    | (refine retK_now ?_)
    | (refine retK_now' ?_)
    | (intro q hq)
    | (refine cond_intro (fun hc => ?_) (fun hc => ?_)))
    refine cmd_loop I2 (trF T) (by rw [hI2.out]; exact ⟨0, by omega, rfl, hst0.out, rfl⟩) ?_
    clear hst0
    intro m e O' hh
    rw [hI2.out] at hh
    obtain ⟨i, h3, rfl, hst, rfl⟩ := hh
    unfold env10b
    obtain ⟨l1, l2, l3⟩ := hst.f.len
    obtain ⟨l4, l5, l6⟩ := hst.b.len
    have hh1 := hst.h1
    have hh2 := hst.h2
    have hh3 := hst.h3
    by_cases hi : i < trF T
    · have hil : decide (i < trF T) = true := decide_eq_true hi
      have htr := trF_le T
      have hix1 : indexPtrA 80 1 false (i : Int) (.optr q1 80 0 0) = some (.optr q1 80 0 (i)) := by
        rw [ixp_optr, if_pos (by omega)]
        simp
        try omega
      have hw40 : IntKind.i64.wrap (40 + (i : Int)) = ((40 + i : Nat) : Int) := by rw [wrap_i64 (by omega) (by omega)]; omega
      have g1 := tabA_get T (i) (by omega)
      have hX := frA_L 2 (T[i].map Id.av)
      have t2 := hX.cells
      have hlx := hs.out T[i] (List.getElem_mem (by omega))
      have hGl : (bedsF T).length = trF T := by simp [bedsF]
      have hGi : (bedsF T)[i]'(by omega) = T[i] := by simp [bedsF, List.getElem?_eq_getElem (show i < T.length by omega)]
      have hge := elF_get (G := bedsF T) (i := i) (by omega)
      have hse := elF_set (G := bedsF T) (i := i) (by omega)
      rw [hGi] at hse
      clear hGi
      generalize T[i] = X at g1 hX t2 hlx hse
      rcases hst.f with ⟨h0, _⟩ | ⟨h0, id, hid, hfr, hob, hle2⟩
      · omega
      subst hid
      have hio : indexAddrA 1 (i : Int) (.own id 1 0 (trF T) (some (trF T))) = some (.optr id 1 i 0) := by rw [ia_onat hi, Nat.zero_add]
      have hc1 : i + 1 ≤ 80 := by omega
      have hc2 : 40 + i + 1 ≤ 80 := by omega
      have hwi : i < 4611686018427387904 := by omega
      have hel : ∀ O, elemsA O 2 (frA 2 (X.map Id.av)) = some (X.map Id.av) := fun O => hX.el O
      have hfit : fits (([] : List AV).length + (X.map Id.av).length) 16 := fits_of (by simp; omega) (by omega)
      replace hst := (show Aside _ from hst)
      replace hfr := (show Aside _ from hfr)
      (repeat' first
    | simp (contextual := true) (maxSteps := 4000000) only [fwc, fwe, fww, reduceIte, ↓reduceIte, Nat.reduceAdd, Nat.reduceLeDiff, Nat.reduceEqDiff, Nat.reduceLT, Nat.reduceSub, reduceCtorEq, Int.reduceEq, Int.reduceLT, Int.reduceLE, Int.reduceNeg, Int.reduceToNat, Int.reduceAdd, Int.reduceSub, Nat.reduceMul, part_cell, ilt_nat, *]
    | (refine seqK_now ?_)
    | (refine retK_now ?_)
    | (refine retK_now' ?_)
    | (intro q hq)
    | (refine cond_intro (fun hc => ?_) (fun hc => ?_)))
      refine drawW_append (stk X) ⟨X.map Id.av, hel _, rfl, hfit, rfl⟩ ?_
      have hsc : (stk X).cells = [stk X] := rfl
      have hss : (stk X).stor = true := rfl
      (repeat' first
    | simp (contextual := true) (maxSteps := 4000000) only [fwc, fwe, fww, reduceIte, ↓reduceIte, Nat.reduceAdd, Nat.reduceLeDiff, Nat.reduceEqDiff, Nat.reduceLT, Nat.reduceSub, reduceCtorEq, Int.reduceEq, Int.reduceLT, Int.reduceLE, Int.reduceNeg, Int.reduceToNat, Int.reduceAdd, Int.reduceSub, Nat.reduceMul, part_cell, wrap_succ, *]
    | (refine seqK_now ?_)
    | (refine retK_now ?_)
    | (refine retK_now' ?_)
    | (intro q hq)
    | (refine cond_intro (fun hc => ?_) (fun hc => ?_)))
      refine loopK_now (trF T - (i + 1)) (by omega) ?_
      rw [hI2.out]
      have y1 : q1 ≠ id := fun e => hfr.out.2.1 e.symm
      have y2 : q2 ≠ id := fun e => hfr.out.2.2.1 e.symm
      have y3 : q3 ≠ id := fun e => hfr.out.2.2.2 e.symm
      refine ⟨i + 1, by omega, rfl, ⟨?_, ?_, ?_, ?_, ?_, ?_, ?_⟩, ?_⟩
      · rw [Heap.upd_ne _ _ y1]; exact hh1
      · rw [Heap.upd_ne _ _ y2]; exact hh2
      · rw [Heap.upd_ne _ _ y3]; exact hh3
      · intro i' o ho
        rw [Heap.upd_ne _ _ (fun e => by rw [e, hfr.out.1] at ho; cases ho)]
        exact hst.out.sub i' o ho
      · refine .inr ⟨h0, id, rfl, hfr.out, Heap.upd_same _ _ _, ?_⟩
        simp only [elF, List.length_append, List.length_take, List.length_map, List.length_replicate, hGl]
        omega
      · exact hst.out.b.mono fun i' a b c e1 h h' => Heap.upd_ne _ _ (fun e => hst.out.ne id _ _ _ a b c rfl (by rw [← e]; exact e1))
      · exact hst.out.ne
      · simp (contextual := true) (maxSteps := 4000000) only [fwc, fwe, fww, reduceIte, ↓reduceIte, Nat.reduceAdd, Nat.reduceLeDiff, Nat.reduceEqDiff, Nat.reduceLT, Nat.reduceSub, reduceCtorEq, Int.reduceEq, Int.reduceLT, Int.reduceLE, Int.reduceNeg, Int.reduceToNat, Int.reduceAdd, Int.reduceSub, Nat.reduceMul, env10b, wrap_succ, *]
    · have hi' : i = trF T := by omega
      have hil : decide (i < trF T) = false := decide_eq_false hi
      obtain ⟨I3, hI3⟩ := hideI (fun m e O' => ∃ i, i ≤ trB T ∧ m = trB T - i ∧ St10 O O' q1 q2 q3 T fr bk (trF T) (trB T) (elF (bedsF T) (trF T)) (elF (bedsB T) i) ∧ e = env10c q1 q2 q3 i)
      clear hI2
      replace hi' := (show Aside _ from hi')
      replace hst := (show Aside _ from hst)
      (repeat' first
    | simp (contextual := true) (maxSteps := 4000000) only [fwc, fwe, fww, reduceIte, ↓reduceIte, Nat.reduceAdd, Nat.reduceLeDiff, Nat.reduceEqDiff, Nat.reduceLT, Nat.reduceSub, reduceCtorEq, Int.reduceEq, Int.reduceLT, Int.reduceLE, Int.reduceNeg, Int.reduceToNat, Int.reduceAdd, Int.reduceSub, Nat.reduceMul, part_cell, ilt_nat, *]
    | (refine seqK_now ?_)
    | (refine retK_now ?_)
    | (refine retK_now' ?_)
    | (intro q hq)
    | (refine cond_intro (fun hc => ?_) (fun hc => ?_)))
      refine cmd_loop I3 (trB T) (by rw [hI3.out]; exact ⟨0, by omega, rfl, by have := hst.out; rwa [hi'.out] at this, rfl⟩) ?_
      clear hst l1 l2 l3 l4 l5 l6 hh1 hh2 hh3 hil hi hi' h3
      intro m e O' hh
      rw [hI3.out] at hh
      obtain ⟨i, h3, rfl, hst, rfl⟩ := hh
      unfold env10c
      obtain ⟨l1, l2, l3⟩ := hst.f.len
      obtain ⟨l4, l5, l6⟩ := hst.b.len
      have hh1 := hst.h1
      have hh2 := hst.h2
      have hh3 := hst.h3
      by_cases hi : i < trB T
      · have hil : decide (i < trB T) = true := decide_eq_true hi
        have htr := trB_le T
        have hix1 : indexPtrA 80 1 false ((40 + i : Nat) : Int) (.optr q1 80 0 0) = some (.optr q1 80 0 (40 + i)) := by
          rw [ixp_optr, if_pos (by omega)]
          simp
          try omega
        have hw40 : IntKind.i64.wrap (40 + (i : Int)) = ((40 + i : Nat) : Int) := by rw [wrap_i64 (by omega) (by omega)]; omega
        have g1 := tabA_get T (40 + i) (by omega)
        have hX := frA_L 2 (T[40 + i].map Id.av)
        have t2 := hX.cells
        have hlx := hs.out T[40 + i] (List.getElem_mem (by omega))
        have hGl : (bedsB T).length = trB T := by simp [bedsB]
        have hGi : (bedsB T)[i]'(by omega) = T[40 + i] := by simp [bedsB, List.getElem?_eq_getElem (show 40 + i < T.length by omega)]
        have hge := elF_get (G := bedsB T) (i := i) (by omega)
        have hse := elF_set (G := bedsB T) (i := i) (by omega)
        rw [hGi] at hse
        clear hGi
        generalize T[40 + i] = X at g1 hX t2 hlx hse
        rcases hst.b with ⟨h0, _⟩ | ⟨h0, id, hid, hfr, hob, hle2⟩
        · omega
        subst hid
        have hio : indexAddrA 1 (i : Int) (.own id 1 0 (trB T) (some (trB T))) = some (.optr id 1 i 0) := by rw [ia_onat hi, Nat.zero_add]
        have hc1 : i + 1 ≤ 80 := by omega
        have hc2 : 40 + i + 1 ≤ 80 := by omega
        have hwi : i < 4611686018427387904 := by omega
        have hel : ∀ O, elemsA O 2 (frA 2 (X.map Id.av)) = some (X.map Id.av) := fun O => hX.el O
        have hfit : fits (([] : List AV).length + (X.map Id.av).length) 16 := fits_of (by simp; omega) (by omega)
        replace hst := (show Aside _ from hst)
        replace hfr := (show Aside _ from hfr)
        (repeat' first
    | simp (contextual := true) (maxSteps := 4000000) only [fwc, fwe, fww, reduceIte, ↓reduceIte, Nat.reduceAdd, Nat.reduceLeDiff, Nat.reduceEqDiff, Nat.reduceLT, Nat.reduceSub, reduceCtorEq, Int.reduceEq, Int.reduceLT, Int.reduceLE, Int.reduceNeg, Int.reduceToNat, Int.reduceAdd, Int.reduceSub, Nat.reduceMul, part_cell, ilt_nat, *]
    | (refine seqK_now ?_)
    | (refine retK_now ?_)
    | (refine retK_now' ?_)
    | (intro q hq)
    | (refine cond_intro (fun hc => ?_) (fun hc => ?_)))
        refine drawW_append (stk X) ⟨X.map Id.av, hel _, rfl, hfit, rfl⟩ ?_
        have hsc : (stk X).cells = [stk X] := rfl
        have hss : (stk X).stor = true := rfl
        (repeat' first
    | simp (contextual := true) (maxSteps := 4000000) only [fwc, fwe, fww, reduceIte, ↓reduceIte, Nat.reduceAdd, Nat.reduceLeDiff, Nat.reduceEqDiff, Nat.reduceLT, Nat.reduceSub, reduceCtorEq, Int.reduceEq, Int.reduceLT, Int.reduceLE, Int.reduceNeg, Int.reduceToNat, Int.reduceAdd, Int.reduceSub, Nat.reduceMul, part_cell, wrap_succ, *]
    | (refine seqK_now ?_)
    | (refine retK_now ?_)
    | (refine retK_now' ?_)
    | (intro q hq)
    | (refine cond_intro (fun hc => ?_) (fun hc => ?_)))
        refine loopK_now (trB T - (i + 1)) (by omega) ?_
        rw [hI3.out]
        have y1 : q1 ≠ id := fun e => hfr.out.2.1 e.symm
        have y2 : q2 ≠ id := fun e => hfr.out.2.2.1 e.symm
        have y3 : q3 ≠ id := fun e => hfr.out.2.2.2 e.symm
        refine ⟨i + 1, by omega, rfl, ⟨?_, ?_, ?_, ?_, ?_, ?_, ?_⟩, ?_⟩
        · rw [Heap.upd_ne _ _ y1]; exact hh1
        · rw [Heap.upd_ne _ _ y2]; exact hh2
        · rw [Heap.upd_ne _ _ y3]; exact hh3
        · intro i' o ho
          rw [Heap.upd_ne _ _ (fun e => by rw [e, hfr.out.1] at ho; cases ho)]
          exact hst.out.sub i' o ho
        · exact hst.out.f.mono fun i' a b c e1 h h' => Heap.upd_ne _ _ (fun e => hst.out.ne id a b c _ _ _ (by rw [← e]; exact e1) rfl)
        · refine .inr ⟨h0, id, rfl, hfr.out, Heap.upd_same _ _ _, ?_⟩
          simp only [elF, List.length_append, List.length_take, List.length_map, List.length_replicate, hGl]
          omega
        · exact hst.out.ne
        · simp (contextual := true) (maxSteps := 4000000) only [fwc, fwe, fww, reduceIte, ↓reduceIte, Nat.reduceAdd, Nat.reduceLeDiff, Nat.reduceEqDiff, Nat.reduceLT, Nat.reduceSub, reduceCtorEq, Int.reduceEq, Int.reduceLT, Int.reduceLE, Int.reduceNeg, Int.reduceToNat, Int.reduceAdd, Int.reduceSub, Nat.reduceMul, env10c, wrap_succ, *]
      · have hi' : i = trB T := by omega
        have hil : decide (i < trB T) = false := decide_eq_false hi
        replace hi' := (show Aside _ from hi')
        replace hst := (show Aside _ from hst)
        (repeat' first
    | simp (contextual := true) (maxSteps := 4000000) only [fwc, fwe, fww, reduceIte, ↓reduceIte, Nat.reduceAdd, Nat.reduceLeDiff, Nat.reduceEqDiff, Nat.reduceLT, Nat.reduceSub, reduceCtorEq, Int.reduceEq, Int.reduceLT, Int.reduceLE, Int.reduceNeg, Int.reduceToNat, Int.reduceAdd, Int.reduceSub, Nat.reduceMul, part_cell, part_agg, ilt_nat, *]
    | (refine seqK_now ?_)
    | (refine retK_now ?_)
    | (refine retK_now' ?_)
    | (intro q hq)
    | (refine cond_intro (fun hc => ?_) (fun hc => ?_)))
        have hst := hst.out
        rw [hi'.out] at hst
        have kf := frz_bed hst.f (by simp [bedsF])
        have kb := frz_bed hst.b (by simp [bedsB])
        have hsb : O.sub (O'.upd q2 (.arr 26 2 [.agg [fr, bk]])) := fun i o ho => by
          rw [Heap.upd_ne _ _ (fun e => by rw [e, hO2] at ho; cases ho)]
          exact hst.sub i o ho
        rcases kf with rfl | ⟨id1, e1, x1, x2, x3, u1, u2, u3, rfl⟩
        · rcases kb with rfl | ⟨id2, e2, y1, y2, y3, v1, v2, v3, rfl⟩
          · exact WeakR.pure hsb rfl
          · refine WeakR.freeze (r' := .agg [bedA (bedsF T), bedA (bedsB T)]) (id := id2) (by rw [Heap.upd_ne _ _ y2.2.2.1]; exact y1) (.agg _ _ rfl fun i x y hx hy => ?_) (WeakR.pure ?_ rfl)
            · match i, hx, hy with
              | 0, hx, hy => simp at hx hy; subst hx hy; exact .same _
              | 1, hx, hy => simp at hx hy; subst hx hy; exact y3
            · intro i o ho
              rw [Heap.del_ne _ (fun e => by rw [e, y2.1] at ho; cases ho)]
              exact hsb i o ho
        · refine WeakR.freeze (r' := .agg [bedA (bedsF T), bk]) (id := id1) (by rw [Heap.upd_ne _ _ x2.2.2.1]; exact x1) (.agg _ _ rfl fun i x y hx hy => ?_) ?_
          · match i, hx, hy with
            | 0, hx, hy => simp at hx hy; subst hx hy; exact x3
            | 1, hx, hy => simp at hx hy; subst hx hy; exact .same _
          have hsb2 : O.sub ((O'.upd q2 (.arr 26 2 [.agg [.own id1 1 u1 u2 u3, bk]])).del id1) := fun i o ho => by
            rw [Heap.del_ne _ (fun e => by rw [e, x2.1] at ho; cases ho)]
            exact hsb i o ho
          rcases kb with rfl | ⟨id2, e2, y1, y2, y3, v1, v2, v3, rfl⟩
          · exact WeakR.pure hsb2 rfl
          · have hne : id2 ≠ id1 := fun e => hst.ne id1 u1 u2 u3 v1 v2 v3 rfl (by rw [e])
            refine WeakR.freeze (r' := .agg [bedA (bedsF T), bedA (bedsB T)]) (id := id2) (by rw [Heap.del_ne _ hne, Heap.upd_ne _ _ y2.2.2.1]; exact y1) (.agg _ _ rfl fun i x y hx hy => ?_) (WeakR.pure ?_ rfl)
            · match i, hx, hy with
              | 0, hx, hy => simp at hx hy; subst hx hy; exact .same _
              | 1, hx, hy => simp at hx hy; subst hx hy; exact y3
            · intro i o ho
              rw [Heap.del_ne _ (fun e => by rw [e, y2.1] at ho; cases ho)]
              exact hsb2 i o ho
  · obtain ⟨j, rfl⟩ : ∃ j, k = j + 1 := ⟨k - 1, by omega⟩
    have hz' : z = (j : Int) := by omega
    subst hz'
    clear hz
    have d2 : decide (1 ≤ j + 1) = true := decide_eq_true (by omega)
    have hj : j < 40 := by omega
    have hwj : IntKind.i64.wrap ((j : Int) + 1) = ((j + 1 : Nat) : Int) := wrap_succ (by omega)
    have hwm : IntKind.i64.wrap ((j : Int) - 1) = (j : Int) - 1 := wrap_i64 (by omega) (by omega)
    have hw40 : IntKind.i64.wrap (40 + (j : Int)) = ((40 + j : Nat) : Int) := by rw [wrap_i64 (by omega) (by omega)]; omega
    have hix1 : indexPtrA 80 1 false (j : Int) (.optr q1 80 0 0) = some (.optr q1 80 0 j) := by
      rw [ixp_optr, if_pos (by omega)]
      simp
    have hix2 : indexPtrA 80 1 false ((40 + j : Nat) : Int) (.optr q1 80 0 0) = some (.optr q1 80 0 (40 + j)) := by
      rw [ixp_optr, if_pos (by omega)]
      simp
      omega
    have g1 := tabA_get T j (by omega)
    have g2 := tabA_get T (40 + j) (by omega)
    have t1 := (frA_L 2 (T[j].map Id.av)).len
    have t2 := (frA_L 2 (T[40 + j].map Id.av)).len
    rw [List.length_map] at t1 t2
    have hgF : T.getD j [] = T[j] := by rw [List.getD_eq_getElem?_getD, List.getElem?_eq_getElem (by omega)]; rfl
    have hgB : T.getD (40 + j) [] = T[40 + j] := by rw [List.getD_eq_getElem?_getD, List.getElem?_eq_getElem (by omega)]; rfl
    replace hgF := (show Aside _ from hgF)
    replace hgB := (show Aside _ from hgB)
    have hc1 : j + 1 ≤ 80 := by omega
    have hc2 : 40 + j + 1 ≤ 80 := by omega
    have p1 : decide (((nAt (trF T) (j + 1) : Nat) : Int) = 0) = decide (nAt (trF T) (j + 1) = 0) := decide_eq_decide.2 (by omega)
    have p2 : decide (((nAt (trB T) (j + 1) : Nat) : Int) = 0) = decide (nAt (trB T) (j + 1) = 0) := decide_eq_decide.2 (by omega)
    have p3 : decide ((0 : Int) < (T[j].length : Int)) = decide (0 < T[j].length) := decide_eq_decide.2 (by omega)
    have p4 : decide ((0 : Int) < (T[40 + j].length : Int)) = decide (0 < T[40 + j].length) := decide_eq_decide.2 (by omega)
    replace hst := (show Aside _ from hst)
    have hex : decide ((0 : Int) ≤ (j : Int)) = true := decide_eq_true (by omega)
    refine seq_go ?_
    refine seq_go ?_
    (repeat' first
    | simp (contextual := true) (maxSteps := 4000000) only [fwc, fwe, fww, reduceIte, ↓reduceIte, Nat.reduceAdd, Nat.reduceLeDiff, Nat.reduceEqDiff, Nat.reduceLT, Nat.reduceSub, reduceCtorEq, Int.reduceEq, Int.reduceLT, Int.reduceLE, Int.reduceNeg, Int.reduceToNat, Int.reduceAdd, Int.reduceSub, Nat.reduceMul, part_cell, *]
    | (refine retK_now ?_)
    | (refine retK_now' ?_)
    | (intro q hq)
    | (refine cond_intro (fun hc => ?_) (fun hc => ?_)))
    refine seqK_now ?_
    (repeat' first
    | simp (contextual := true) (maxSteps := 4000000) only [fwc, fwe, fww, reduceIte, ↓reduceIte, Nat.reduceAdd, Nat.reduceLeDiff, Nat.reduceEqDiff, Nat.reduceLT, Nat.reduceSub, reduceCtorEq, Int.reduceEq, Int.reduceLT, Int.reduceLE, Int.reduceNeg, Int.reduceToNat, Int.reduceAdd, Int.reduceSub, Nat.reduceMul, part_cell, *]
    | (refine retK_now ?_)
    | (refine retK_now' ?_)
    | (intro q hq)
    | (refine cond_intro (fun hc => ?_) (fun hc => ?_)))
    refine seqK_now ?_
    refine seq_go ?_
    simp only [cmd_block]
    refine seq_post (fun e1 O1 => (∃ fr', St10 O O1 q1 q2 q3 T fr' bk (nAt (trF T) j) (nAt (trB T) (j + 1)) (List.replicate (nAt (trF T) j) nilS) (List.replicate (nAt (trB T) (j + 1)) nilS)) ∧ e1 = env10 q1 q2 q3 j) ?_ ?_
    · clear hst hh1 hh2 hh3 hsub l1 l2 l3 l4 l5 l6
      intro e1 O1 hQ
      obtain ⟨⟨fr', hst⟩, rfl⟩ := hQ
      obtain ⟨l1, l2, l3⟩ := hst.f.len
      obtain ⟨l4, l5, l6⟩ := hst.b.len
      have hh1 := hst.h1
      have hh2 := hst.h2
      have hh3 := hst.h3
      have hsub := hst.sub
      replace hst := (show Aside _ from hst)
      unfold env10
      by_cases hmk : (decide (nAt (trB T) (j + 1) = 0) && decide (0 < T[40 + j].length)) = true
      · have hn := nAt_make (fun h => by have := trB_hi h hj; rwa [hgB.out] at this) hmk
        (repeat' first
    | simp (contextual := true) (maxSteps := 4000000) only [fwc, fwe, fww, reduceIte, ↓reduceIte, Nat.reduceAdd, Nat.reduceLeDiff, Nat.reduceEqDiff, Nat.reduceLT, Nat.reduceSub, reduceCtorEq, Int.reduceEq, Int.reduceLT, Int.reduceLE, Int.reduceNeg, Int.reduceToNat, Int.reduceAdd, Int.reduceSub, Nat.reduceMul, part_cell, *]
    | (refine seqK_now ?_)
    | (refine retK_now ?_)
    | (refine retK_now' ?_)
    | (intro q hq)
    | (refine cond_intro (fun hc => ?_) (fun hc => ?_)))
        refine make_own (j + 1) (j + 1) rfl rfl (Nat.le_refl _) (by omega) (by omega) fun id hid => ?_
        have x1 : ¬ id = q1 := fun e => by rw [e, hh1] at hid; cases hid
        have x2 : ¬ id = q2 := fun e => by rw [e, hh2] at hid; cases hid
        have x3 : ¬ id = q3 := fun e => by rw [e, hh3] at hid; cases hid
        have x4 : ¬ q1 = id := fun e => x1 e.symm
        have x5 : ¬ q2 = id := fun e => x2 e.symm
        have x6 : ¬ q3 = id := fun e => x3 e.symm
        have x7 : O id = none := by
          cases ho : O id with
          | none => rfl
          | some o => rw [hsub _ _ ho] at hid; cases hid
        replace hsub := (show Aside _ from hsub)
        replace hn := (show Aside _ from hn)
        (repeat' first
    | simp (contextual := true) (maxSteps := 4000000) only [fwc, fwe, fww, reduceIte, ↓reduceIte, Nat.reduceAdd, Nat.reduceLeDiff, Nat.reduceEqDiff, Nat.reduceLT, Nat.reduceSub, reduceCtorEq, Int.reduceEq, Int.reduceLT, Int.reduceLE, Int.reduceNeg, Int.reduceToNat, Int.reduceAdd, Int.reduceSub, Nat.reduceMul, *]
    | (refine seqK_now ?_)
    | (refine retK_now ?_)
    | (refine retK_now' ?_)
    | (intro q hq)
    | (refine cond_intro (fun hc => ?_) (fun hc => ?_)))
        refine loopK_now j (by omega) ?_
        rw [hI.out]
        refine ⟨j, _, fr', .own id 1 0 (j + 1) (some (j + 1)), by omega, rfl, rfl, ⟨?_, ?_, ?_, ?_, ?_, ?_, ?_⟩, ?_⟩
        · simp only [Heap.upd_apply, *, if_false]
        · simp only [Heap.upd_apply, *, if_false]
        · simp only [Heap.upd_apply, *, if_true]
        · intro i o ho
          rw [Heap.upd_ne _ _ (fun e => by rw [e, hO3] at ho; cases ho), Heap.upd_ne _ _ (fun e => by rw [e, x7] at ho; cases ho)]
          exact hsub.out i o ho
        · refine hst.out.f.mono fun i _ _ _ _ h h' => ?_
          rw [Heap.upd_ne _ _ h.2.2.2, Heap.upd_ne _ _ (fun e => h' (by rw [e]; exact hid))]
        · rw [hn.out]
          refine .inr ⟨by omega, id, rfl, ⟨x7, x1, x2, x3⟩, ?_, by simp⟩
          rw [Heap.upd_ne _ _ x3, Heap.upd_same]
          rfl
        · intro i a b c a' b' c' e1 e2
          cases e2
          exact hst.out.f.at_ e1 hid
        · simp (contextual := true) (maxSteps := 4000000) only [fwc, fwe, fww, reduceIte, ↓reduceIte, Nat.reduceAdd, Nat.reduceLeDiff, Nat.reduceEqDiff, Nat.reduceLT, Nat.reduceSub, reduceCtorEq, Int.reduceEq, Int.reduceLT, Int.reduceLE, Int.reduceNeg, Int.reduceToNat, Int.reduceAdd, Int.reduceSub, Nat.reduceMul, env10, *]
      · have hn := nAt_keep (fun h => by have := trB_lo (T := T) (by omega); rwa [show trB T - 1 = j by omega, hgB.out] at this) hmk
        replace hn := (show Aside _ from hn)
        have hmk' : (decide (nAt (trB T) (j + 1) = 0) && decide (0 < T[40 + j].length)) = false := by simpa using hmk
        clear hmk
        (repeat' first
    | simp (contextual := true) (maxSteps := 4000000) only [fwc, fwe, fww, reduceIte, ↓reduceIte, Nat.reduceAdd, Nat.reduceLeDiff, Nat.reduceEqDiff, Nat.reduceLT, Nat.reduceSub, reduceCtorEq, Int.reduceEq, Int.reduceLT, Int.reduceLE, Int.reduceNeg, Int.reduceToNat, Int.reduceAdd, Int.reduceSub, Nat.reduceMul, part_cell, *]
    | (refine seqK_now ?_)
    | (refine retK_now ?_)
    | (refine retK_now' ?_)
    | (intro q hq)
    | (refine cond_intro (fun hc => ?_) (fun hc => ?_)))
        refine loopK_now j (by omega) ?_
        rw [hI.out]
        refine ⟨j, _, fr', bk, by omega, rfl, rfl, ?_, ?_⟩
        · rw [hn.out]; exact hst.out
        · simp (contextual := true) (maxSteps := 4000000) only [fwc, fwe, fww, reduceIte, ↓reduceIte, Nat.reduceAdd, Nat.reduceLeDiff, Nat.reduceEqDiff, Nat.reduceLT, Nat.reduceSub, reduceCtorEq, Int.reduceEq, Int.reduceLT, Int.reduceLE, Int.reduceNeg, Int.reduceToNat, Int.reduceAdd, Int.reduceSub, Nat.reduceMul, env10, *]
    · intro F hQ
      replace hQ := (show Aside _ from hQ)
      by_cases hmk : (decide (nAt (trF T) (j + 1) = 0) && decide (0 < T[j].length)) = true
      · have hn := nAt_make (fun h => by have := trF_hi h hj; rwa [hgF.out] at this) hmk
        (repeat' first
    | simp (contextual := true) (maxSteps := 4000000) only [fwc, fwe, fww, reduceIte, ↓reduceIte, Nat.reduceAdd, Nat.reduceLeDiff, Nat.reduceEqDiff, Nat.reduceLT, Nat.reduceSub, reduceCtorEq, Int.reduceEq, Int.reduceLT, Int.reduceLE, Int.reduceNeg, Int.reduceToNat, Int.reduceAdd, Int.reduceSub, Nat.reduceMul, part_cell, *]
    | (refine seqK_now ?_)
    | (refine retK_now ?_)
    | (refine retK_now' ?_)
    | (intro q hq)
    | (refine cond_intro (fun hc => ?_) (fun hc => ?_)))
        refine make_own (j + 1) (j + 1) rfl rfl (Nat.le_refl _) (by omega) (by omega) fun id hid => ?_
        have x1 : ¬ id = q1 := fun e => by rw [e, hh1] at hid; cases hid
        have x2 : ¬ id = q2 := fun e => by rw [e, hh2] at hid; cases hid
        have x3 : ¬ id = q3 := fun e => by rw [e, hh3] at hid; cases hid
        have x4 : ¬ q1 = id := fun e => x1 e.symm
        have x5 : ¬ q2 = id := fun e => x2 e.symm
        have x6 : ¬ q3 = id := fun e => x3 e.symm
        have x7 : O id = none := by
          cases ho : O id with
          | none => rfl
          | some o => rw [hsub _ _ ho] at hid; cases hid
        replace hsub := (show Aside _ from hsub)
        replace hn := (show Aside _ from hn)
        (repeat' first
    | simp (contextual := true) (maxSteps := 4000000) only [fwc, fwe, fww, reduceIte, ↓reduceIte, Nat.reduceAdd, Nat.reduceLeDiff, Nat.reduceEqDiff, Nat.reduceLT, Nat.reduceSub, reduceCtorEq, Int.reduceEq, Int.reduceLT, Int.reduceLE, Int.reduceNeg, Int.reduceToNat, Int.reduceAdd, Int.reduceSub, Nat.reduceMul, *]
    | (refine seqK_now ?_)
    | (refine retK_now ?_)
    | (refine retK_now' ?_)
    | (intro q hq)
    | (refine cond_intro (fun hc => ?_) (fun hc => ?_)))
        refine hQ.out _ _ ⟨⟨.own id 1 0 (j + 1) (some (j + 1)), ?_, ?_, ?_, ?_, ?_, ?_, ?_⟩, ?_⟩
        · simp only [Heap.upd_apply, *, if_false]
        · simp only [Heap.upd_apply, *, if_false]
        · simp only [Heap.upd_apply, *, if_true]
        · intro i o ho
          rw [Heap.upd_ne _ _ (fun e => by rw [e, hO3] at ho; cases ho), Heap.upd_ne _ _ (fun e => by rw [e, x7] at ho; cases ho)]
          exact hsub.out i o ho
        · rw [hn.out]
          refine .inr ⟨by omega, id, rfl, ⟨x7, x1, x2, x3⟩, ?_, by simp⟩
          rw [Heap.upd_ne _ _ x3, Heap.upd_same]
          rfl
        · refine hst.out.b.mono fun i _ _ _ _ h h' => ?_
          rw [Heap.upd_ne _ _ h.2.2.2, Heap.upd_ne _ _ (fun e => h' (by rw [e]; exact hid))]
        · intro i a b c a' b' c' e1 e2
          cases e1
          exact hst.out.b.at_ e2 hid
        · simp (contextual := true) (maxSteps := 4000000) only [fwc, fwe, fww, reduceIte, ↓reduceIte, Nat.reduceAdd, Nat.reduceLeDiff, Nat.reduceEqDiff, Nat.reduceLT, Nat.reduceSub, reduceCtorEq, Int.reduceEq, Int.reduceLT, Int.reduceLE, Int.reduceNeg, Int.reduceToNat, Int.reduceAdd, Int.reduceSub, Nat.reduceMul, env10, *]
      · have hn := nAt_keep (fun h => by have := trF_lo (T := T) (by omega); rwa [show trF T - 1 = j by omega, hgF.out] at this) hmk
        replace hn := (show Aside _ from hn)
        have hmk' : (decide (nAt (trF T) (j + 1) = 0) && decide (0 < T[j].length)) = false := by simpa using hmk
        clear hmk
        (repeat' first
    | simp (contextual := true) (maxSteps := 4000000) only [fwc, fwe, fww, reduceIte, ↓reduceIte, Nat.reduceAdd, Nat.reduceLeDiff, Nat.reduceEqDiff, Nat.reduceLT, Nat.reduceSub, reduceCtorEq, Int.reduceEq, Int.reduceLT, Int.reduceLE, Int.reduceNeg, Int.reduceToNat, Int.reduceAdd, Int.reduceSub, Nat.reduceMul, part_cell, *]
    | (refine seqK_now ?_)
    | (refine retK_now ?_)
    | (refine retK_now' ?_)
    | (intro q hq)
    | (refine cond_intro (fun hc => ?_) (fun hc => ?_)))
        refine hQ.out _ _ ⟨⟨fr, ?_⟩, ?_⟩
        · rw [hn.out]; exact hst.out
        · simp (contextual := true) (maxSteps := 4000000) only [fwc, fwe, fww, reduceIte, ↓reduceIte, Nat.reduceAdd, Nat.reduceLeDiff, Nat.reduceEqDiff, Nat.reduceLT, Nat.reduceSub, reduceCtorEq, Int.reduceEq, Int.reduceLT, Int.reduceLE, Int.reduceNeg, Int.reduceToNat, Int.reduceAdd, Int.reduceSub, Nat.reduceMul, env10, *]
end Go.Proofs.Ytembkknplmcamaa

namespace Go.Proofs.Ytembkknplmcamaa
open Go.Ab
attribute [local irreducible] WeakR WeakE CallA YieldA

theorem needleL_ok (i : Nat) : (needleL i).bad = false ∧ 0 ≤ (needleL i).bed := by
  unfold needleL Ndl.bad
  simp only [Bool.or_eq_false_iff, decide_eq_false_iff_not]
  omega
/-- A table of slices. -/
structure IsTab (ts : List AV) (T : List (List Id)) : Prop where
  len : ts.length = 80
  tlen : T.length = 80
  el : ∀ (i : Nat) (h : i < ts.length) (h' : i < T.length), IsL 2 ts[i] (T[i].map Id.av)
  le : ∀ l ∈ T, l.length ≤ 1000
def diffAt (T F B : List (List Id)) (i : Nat) : Bool := decide (atL F B (needleL i) = T.getD i [])
def longN (F : List (List Id)) : Nat := if 0 < F.length ∧ F.getD (F.length - 1) [] = [] then 1 else 0
def differsL (T F B : List (List Id)) : Nat := (List.range 80).countP (fun i => !diffAt T F B i) + longN F + longN B
def env12 (q2 q3 n i : Nat) : Env := (((Env.upd (fun _ => .junk) 6 (.val (.int .i64 i))).upd 5 (.val (.int .i64 n))).upd 3 (.optr q3 2 0 0)).upd 2 (.optr q2 80 0 0)

end Go.Proofs.Ytembkknplmcamaa

namespace Go.Proofs.Ytembkknplmcamaa
open Go.Ab
attribute [local irreducible] WeakR WeakE CallA YieldA

/-- Beds as a value. -/
structure IsBeds (x : AV) (F B : List (List Id)) : Prop where
  ex : ∃ f b es fs, x = .agg [f, b] ∧ IsB f es F ∧ IsB b fs B ∧ IsT 1 f es ∧ IsT 1 b fs
  sF : Sm F
  sB : Sm B

theorem IsBeds.check {x : AV} {F B : List (List Id)} (h : IsBeds x F B) : PureA Try.prog 35 [x] (.val (.int .i64 (checkL F B))) := by
  obtain ⟨f, b, es, fs, rfl, h1, h2, _, _⟩ := h.ex
  exact Check_ok f b es fs F B h1 h2
theorem IsBeds.at_ {x : AV} {F B : List (List Id)} (h : IsBeds x F B) (n : Ndl) : ∃ r, PureA Try.prog 25 [x, n.av] r ∧ IsT 2 r ((atL F B n).map Id.av) := by
  obtain ⟨f, b, es, fs, rfl, h1, h2, _, _⟩ := h.ex
  exact ⟨_, At_ok f b es fs F B n h1 h2 h.sF h.sB, atA_T n h1 h2⟩
theorem Of_tab_ok (P : List Put) : TabOK (ofL P) (ofN P).2 := (ofN_ok P).1
theorem bedsF_sm {T : List (List Id)} (h : ∀ l ∈ T, l.length ≤ 1000) : Sm (bedsF T) := by
  refine ⟨by have := trF_le T; simp [bedsF]; omega, fun l hl => ?_⟩
  obtain ⟨i, _, rfl⟩ := List.mem_map.1 hl
  rw [List.getD_eq_getElem?_getD]
  by_cases hi : i < T.length
  · rw [List.getElem?_eq_getElem hi]; exact h _ (List.getElem_mem hi)
  · rw [List.getElem?_eq_none (by omega)]; simp
theorem bedsB_sm {T : List (List Id)} (h : ∀ l ∈ T, l.length ≤ 1000) : Sm (bedsB T) := by
  refine ⟨by have := trB_le T; simp [bedsB]; omega, fun l hl => ?_⟩
  obtain ⟨i, _, rfl⟩ := List.mem_map.1 hl
  rw [List.getD_eq_getElem?_getD]
  by_cases hi : 40 + i < T.length
  · rw [List.getElem?_eq_getElem hi]; exact h _ (List.getElem_mem hi)
  · rw [List.getElem?_eq_none (by omega)]; simp
theorem beds_is {T : List (List Id)} (h : ∀ l ∈ T, l.length ≤ 1000) : IsBeds (.agg [bedA (bedsF T), bedA (bedsB T)]) (bedsF T) (bedsB T) :=
  ⟨⟨_, _, _, _, rfl, (bedA_is _).1, (bedA_is _).1, (bedA_is _).2, (bedA_is _).2⟩, bedsF_sm h, bedsB_sm h⟩

/-- The example of the chapter. -/
def exA : Id := ⟨1, 0⟩
def exB : Id := ⟨1, 1⟩
def exC : Id := ⟨2, 0⟩
def exF : List (List Id) := [[], [exA, exB]]
def exK : List (List Id) := [[], [exC]]
def exX : AV := .agg [.list 1 true [nilS, .list 2 true [exA.av, exB.av]], .list 1 true [nilS, .list 2 true [exC.av]]]
end Go.Proofs.Ytembkknplmcamaa

namespace Go.Proofs.Ytembkknplmcamaa
open Go.Ab
attribute [local irreducible] WeakR WeakE CallA YieldA

theorem IsBeds.cells {x : AV} {F B : List (List Id)} (h : IsBeds x F B) : ∃ f b, x = .agg [f, b] ∧ f.cells = [f] ∧ b.cells = [b] ∧ f.stor = true ∧ b.stor = true ∧ lenA f = some (.val (.int .i64 F.length)) ∧ lenA b = some (.val (.int .i64 B.length)) := by
  obtain ⟨f, b, es, fs, rfl, h1, h2, _, _⟩ := h.ex
  have l1 := h1.1.len
  have l2 := h2.1.len
  rw [h1.2.1] at l1
  rw [h2.2.1] at l2
  exact ⟨f, b, rfl, h1.1.cells, h2.1.cells, h1.1.stor, h2.1.stor, l1, l2⟩

theorem upd_keep {H : Heap} {q i : Nat} {v o : AObj} (hq : H q = none) (h : H i = some o) : (H.upd q v) i = some o := by
  rw [Heap.upd_ne _ _ (fun e => by rw [e, hq] at h; cases h)]; exact h
theorem sub_new {O H : Heap} {q : Nat} {v : AObj} (hs : O.sub H) (hq : H q = none) : O.sub (H.upd q v) := fun i o hi => upd_keep hq (hs i o hi)
theorem none_of_sub {O H : Heap} {q : Nat} (hs : O.sub H) (hq : H q = none) : O q = none := by
  cases h : O q with
  | none => rfl
  | some o => rw [hs _ _ h] at hq; cases hq
theorem ne_of {H : Heap} {i q : Nat} {o : AObj} (h : H i = some o) (hq : H q = none) : ¬ i = q := fun e => by rw [e, hq] at h; cases h

def nF1 : Ndl := ⟨0, 1⟩
def nF2 : Ndl := ⟨0, 2⟩
def nB1 : Ndl := ⟨1, 1⟩
def nB2 : Ndl := ⟨1, 2⟩
def nF3 : Ndl := ⟨0, 3⟩

end Go.Proofs.Ytembkknplmcamaa

namespace Go.Proofs.Ytembkknplmcamaa
open Go.Ab
attribute [local irreducible] WeakR WeakE CallA YieldA

theorem part_of {G : List (List Id)} {tr n : Nat} (hle : tr ≤ n) (hn : G.length = n) (hi : ∀ j, tr ≤ j → j < n → G.getD j [] = []) : G = (List.range tr).map (fun i => G.getD i []) ++ List.replicate (n - tr) [] := by
  refine List.ext_getElem (by simp; omega) fun i h1 h2 => ?_
  by_cases h : i < tr
  · rw [List.getElem_append_left (by simpa using h)]
    simp [List.getD_eq_getElem?_getD, List.getElem?_eq_getElem h1]
  · rw [List.getElem_append_right (by simp; omega), List.getElem_replicate]
    have := hi i (by omega) (by omega)
    rw [List.getD_eq_getElem?_getD, List.getElem?_eq_getElem h1] at this
    exact this
theorem flat_rep (n : Nat) : (List.replicate n ([] : List Id)).flatten = [] := by
  induction n with
  | zero => rfl
  | succ n ih => rw [List.replicate_succ, List.flatten_cons, ih]; rfl

theorem bedsF_flat {T : List (List Id)} (h : T.length = 80) : (T.take 40).flatten = (bedsF T).flatten := by
  have := part_of (G := T.take 40) (tr := trF T) (n := 40) (trF_le T) (by simp [h]) (fun j h1 h2 => trim_hi _ 40 j h1 h2)
  rw [this, List.flatten_append, flat_rep, List.append_nil]
  congr 1
  unfold bedsF
  refine List.map_congr_left fun i hi => ?_
  have hi : i < trF T := List.mem_range.1 hi
  have := trF_le T
  rw [List.getD_eq_getElem?_getD, List.getElem?_take, if_pos (by omega), ← List.getD_eq_getElem?_getD]
theorem bedsB_flat {T : List (List Id)} (h : T.length = 80) : (T.drop 40).flatten = (bedsB T).flatten := by
  have := part_of (G := T.drop 40) (tr := trB T) (n := 40) (trB_le T) (by simp [h]) (fun j h1 h2 => trim_hi _ 40 j h1 h2)
  rw [this, List.flatten_append, flat_rep, List.append_nil]
  congr 1
  unfold bedsB
  refine List.map_congr_left fun i hi => ?_
  rw [List.getD_eq_getElem?_getD, List.getElem?_drop, ← List.getD_eq_getElem?_getD]
theorem bedsF_len (T : List (List Id)) : (bedsF T).length = trF T := by simp [bedsF]
theorem bedsB_len (T : List (List Id)) : (bedsB T).length = trB T := by simp [bedsB]
theorem vis_beds (T : List (List Id)) : visL (bedsF T) (bedsB T) = bedsF T ++ bedsB T := by
  have h1 := trF_le T
  have h2 := trB_le T
  unfold visL
  rw [List.take_of_length_le (by rw [bedsF_len]; exact h1), List.take_of_length_le (by rw [bedsB_len]; exact h2)]
theorem names_beds {T : List (List Id)} (h : T.length = 80) : namesL (bedsF T) (bedsB T) = T.flatten := by
  unfold namesL
  rw [vis_beds, List.flatten_append, ← bedsF_flat h, ← bedsB_flat h, ← List.flatten_append, List.take_append_drop]

theorem at_needle (F B : List (List Id)) (i : Nat) (hi : i < 80) : atL F B (needleL i) = if i < 40 then F.getD i [] else B.getD (i - 40) [] := by
  unfold atL
  rw [if_neg (by rw [(needleL_ok i).1]; simp)]
  by_cases h : i < 40
  · rw [if_pos h, if_neg (by unfold needleL; simp only; omega)]
    congr 1
    unfold needleL
    simp only
    omega
  · rw [if_neg h, if_pos (by unfold needleL; simp only; omega)]
    congr 1
    unfold needleL
    simp only
    omega
theorem idn_named {j : Nat} (h : j < 1000) : named (idn j) = true := by
  unfold named idn
  simp only [Bool.and_eq_true, decide_eq_true_eq]
  omega

/-- The beds of a table are valid. -/
theorem check_beds {T : List (List Id)} {n : Nat} (h : TabOK T n) (hn : n ≤ 1000) : checkL (bedsF T) (bedsB T) = 0 := by
  have h1 := trF_le T
  have h2 := trB_le T
  unfold checkL
  rw [if_neg, if_neg, if_neg, if_neg]
  · rw [names_beds h.len]
    simp [h.nd]
  · rw [names_beds h.len]
    unfold badNames
    simp only [List.any_eq_true, not_exists, not_and]
    intro p hp
    obtain ⟨j, hj, rfl⟩ := h.mem p hp
    simp [idn_named (show j < 1000 by omega)]
  · rw [vis_beds]
    simp only [List.any_eq_true, not_exists, not_and, decide_eq_true_eq, Nat.not_lt]
    intro l hl
    have key : ∀ i, (T.getD i []).length ≤ 4 := fun i => by
      rw [List.getD_eq_getElem?_getD]
      by_cases hi : i < T.length
      · rw [List.getElem?_eq_getElem hi]; exact h.le _ (List.getElem_mem hi)
      · rw [List.getElem?_eq_none (by omega)]; simp
    rcases List.mem_append.1 hl with hl | hl
    · obtain ⟨i, _, rfl⟩ := List.mem_map.1 hl; exact key i
    · obtain ⟨i, _, rfl⟩ := List.mem_map.1 hl; exact key _
  · rw [bedsF_len, bedsB_len]
    simp
    omega

theorem Of_ok (s : AV) (P : List Put) (hs : IsL 2 s (P.map Put.av)) (hP : ∀ p ∈ P, p.ok) : PureA Try.prog 7 [s] (.agg [bedA (bedsF (ofL P)), bedA (bedsB (ofL P))]) := by
  intro O
  have h1 := of_ok s P hs hP
  have hT := Of_tab_ok P
  have h2 := beds_ok (ofL P) hT.len (fun l hl => by have := hT.le l hl; omega)
  have c1 := (bedA_is (bedsF (ofL P))).2.isL.cells
  have c2 := (bedA_is (bedsB (ofL P))).2.isL.cells
  refine k7.call mix ?_
  unfold c7
  (repeat' first
    | simp (contextual := true) (maxSteps := 4000000) only [fwc, fwe, fww, reduceIte, ↓reduceIte, Nat.reduceAdd, Nat.reduceLeDiff, Nat.reduceEqDiff, Nat.reduceLT, Nat.reduceSub, reduceCtorEq, Int.reduceEq, Int.reduceLT, Int.reduceLE, Int.reduceNeg, Int.reduceToNat, Int.reduceAdd, Int.reduceSub, Nat.reduceMul, *]
    | (refine seqK_now ?_)
    | (refine retK_now ?_)
    | (refine retK_now' ?_)
    | (intro q hq)
    | (refine cond_intro (fun hc => ?_) (fun hc => ?_)))
  refine h1.use ?_
  (repeat' first
    | simp (contextual := true) (maxSteps := 4000000) only [fwc, fwe, fww, reduceIte, ↓reduceIte, Nat.reduceAdd, Nat.reduceLeDiff, Nat.reduceEqDiff, Nat.reduceLT, Nat.reduceSub, reduceCtorEq, Int.reduceEq, Int.reduceLT, Int.reduceLE, Int.reduceNeg, Int.reduceToNat, Int.reduceAdd, Int.reduceSub, Nat.reduceMul, *]
    | (refine seqK_now ?_)
    | (refine retK_now ?_)
    | (refine retK_now' ?_)
    | (intro q hq)
    | (refine cond_intro (fun hc => ?_) (fun hc => ?_)))
  refine h2.use ?_
  (repeat' first
    | simp (contextual := true) (maxSteps := 4000000) only [fwc, fwe, fww, reduceIte, ↓reduceIte, Nat.reduceAdd, Nat.reduceLeDiff, Nat.reduceEqDiff, Nat.reduceLT, Nat.reduceSub, reduceCtorEq, Int.reduceEq, Int.reduceLT, Int.reduceLE, Int.reduceNeg, Int.reduceToNat, Int.reduceAdd, Int.reduceSub, Nat.reduceMul, part_agg, *]
    | (refine seqK_now ?_)
    | (refine retK_now ?_)
    | (refine retK_now' ?_)
    | (intro q hq)
    | (refine cond_intro (fun hc => ?_) (fun hc => ?_)))
  refine WeakR.pure (by repeat (first | exact Heap.sub_refl _ | refine sub_upd (by simp only [*]) ?_)) ?_
  rfl
end Go.Proofs.Ytembkknplmcamaa

namespace Go.Proofs.Ytembkknplmcamaa
open Go.Ab
attribute [local irreducible] WeakR WeakE CallA YieldA

end Go.Proofs.Ytembkknplmcamaa

namespace Go.Proofs.Ytembkknplmcamaa
open Go.Ab
attribute [local irreducible] WeakR WeakE CallA YieldA

/-- All needles of beds as a table. -/
def tabOf (F B : List (List Id)) : List (List Id) := (List.range 40).map (fun i => F.getD i []) ++ (List.range 40).map (fun i => B.getD i [])
end Go.Proofs.Ytembkknplmcamaa

namespace Go.Proofs.Ytembkknplmcamaa
open Go.Ab
attribute [local irreducible] WeakR WeakE CallA YieldA

def ix (n : Ndl) : Nat := if n.bed = 1 then 40 + (n.at_.toNat - 1) else n.at_.toNat - 1
/-- A needle of the machine. -/
structure Ndl.Good (n : Ndl) : Prop where
  bad : n.bad = false
  nn : 0 ≤ n.bed
theorem Ndl.ext' (m n : Ndl) : m = n ↔ m.bed = n.bed ∧ m.at_ = n.at_ := by cases m; cases n; simp
end Go.Proofs.Ytembkknplmcamaa

namespace Go.Proofs.Ytembkknplmcamaa
open Go.Ab
attribute [local irreducible] WeakR WeakE CallA YieldA

def spotL (n : Ndl) (r : Int) : Int := if n.bed = 1 then 4 * (n.at_ + r) else 4 * n.at_ + 2
def rackOK (r : Int) : Bool := decide (-4 ≤ r) && decide (r ≤ 4)
theorem racked_ok (r : Int) : PureA Try.prog 42 [.val (.int .i64 r)] (.val (.bool (rackOK r))) := by
  intro O
  refine k42.call mix ?_
  unfold c42
  (repeat' first
    | simp (contextual := true) (maxSteps := 4000000) only [fwc, fwe, fww, reduceIte, ↓reduceIte, Nat.reduceAdd, Nat.reduceLeDiff, Nat.reduceEqDiff, Nat.reduceLT, Nat.reduceSub, reduceCtorEq, Int.reduceEq, Int.reduceLT, Int.reduceLE, Int.reduceNeg, Int.reduceToNat, Int.reduceAdd, Int.reduceSub, Nat.reduceMul, *]
    | (refine seqK_now ?_)
    | (refine retK_now ?_)
    | (refine retK_now' ?_)
    | (intro q hq)
    | (refine cond_intro (fun hc => ?_) (fun hc => ?_)))
  refine WeakR.pure (by repeat (first | exact Heap.sub_refl _ | refine sub_upd (by simp only [*]) ?_)) ?_
  unfold rackOK
  simp
theorem spot_ok (n : Ndl) (r : Int) (h1 : -1000 ≤ n.at_) (h2 : n.at_ ≤ 1000) (h3 : -1000 ≤ r) (h4 : r ≤ 1000) : PureA Try.prog 43 [n.av, .val (.int .i64 r)] (.val (.int .i64 (spotL n r))) := by
  intro O
  have w1 : IntKind.i64.wrap (n.at_ + r) = n.at_ + r := wrap_i64 (by omega) (by omega)
  have w2 : IntKind.i64.wrap (4 * (n.at_ + r)) = 4 * (n.at_ + r) := wrap_i64 (by omega) (by omega)
  have w3 : IntKind.i64.wrap (4 * n.at_) = 4 * n.at_ := wrap_i64 (by omega) (by omega)
  have w4 : IntKind.i64.wrap (4 * n.at_ + 2) = 4 * n.at_ + 2 := wrap_i64 (by omega) (by omega)
  rw [show n.av = .agg [.val (.int .u8 n.bed), .val (.int .i64 n.at_)] from rfl]
  unfold spotL
  by_cases hb : n.bed = 1
  · have d : decide (n.bed = 1) = true := decide_eq_true hb
    rw [if_pos hb]
    clear h1 h2 h3 h4
    replace hb := (show Aside _ from hb)
    refine k43.call mix ?_
    unfold c43
    (repeat' first
    | simp (contextual := true) (maxSteps := 4000000) only [fwc, fwe, fww, reduceIte, ↓reduceIte, Nat.reduceAdd, Nat.reduceLeDiff, Nat.reduceEqDiff, Nat.reduceLT, Nat.reduceSub, reduceCtorEq, Int.reduceEq, Int.reduceLT, Int.reduceLE, Int.reduceNeg, Int.reduceToNat, Int.reduceAdd, Int.reduceSub, Nat.reduceMul, part_cell, part_agg, *]
    | (refine seqK_now ?_)
    | (refine retK_now ?_)
    | (refine retK_now' ?_)
    | (intro q hq)
    | (refine cond_intro (fun hc => ?_) (fun hc => ?_)))
    refine WeakR.pure (by repeat (first | exact Heap.sub_refl _ | refine sub_upd (by simp only [*]) ?_)) ?_
    rfl
  · have d : decide (n.bed = 1) = false := decide_eq_false hb
    rw [if_neg hb]
    clear h1 h2 h3 h4
    replace hb := (show Aside _ from hb)
    refine k43.call mix ?_
    unfold c43
    (repeat' first
    | simp (contextual := true) (maxSteps := 4000000) only [fwc, fwe, fww, reduceIte, ↓reduceIte, Nat.reduceAdd, Nat.reduceLeDiff, Nat.reduceEqDiff, Nat.reduceLT, Nat.reduceSub, reduceCtorEq, Int.reduceEq, Int.reduceLT, Int.reduceLE, Int.reduceNeg, Int.reduceToNat, Int.reduceAdd, Int.reduceSub, Nat.reduceMul, part_cell, part_agg, *]
    | (refine seqK_now ?_)
    | (refine retK_now ?_)
    | (refine retK_now' ?_)
    | (intro q hq)
    | (refine cond_intro (fun hc => ?_) (fun hc => ?_)))
    refine WeakR.pure (by repeat (first | exact Heap.sub_refl _ | refine sub_upd (by simp only [*]) ?_)) ?_
    rfl
theorem Spot_ok (n : Ndl) (r : Int) : PureA Try.prog 24 [n.av, .val (.int .i64 r)] (.val (.int .i64 (if n.bad = true ∨ rackOK r = false then 0 else spotL n r))) := by
  intro O
  have hc := NdlCheck_ok n
  have hr := racked_ok r
  rw [show n.av = .agg [.val (.int .u8 n.bed), .val (.int .i64 n.at_)] from rfl] at hc ⊢
  refine k24.call mix ?_
  unfold c24
  cases hb : n.bad with
  | true =>
    rw [hb] at hc
    rw [if_pos (.inl rfl)]
    have d : decide ((1 : Int) = 0) = false := by decide
    rw [if_pos rfl] at hc
    (repeat' first
    | simp (contextual := true) (maxSteps := 4000000) only [fwc, fwe, fww, reduceIte, ↓reduceIte, Nat.reduceAdd, Nat.reduceLeDiff, Nat.reduceEqDiff, Nat.reduceLT, Nat.reduceSub, reduceCtorEq, Int.reduceEq, Int.reduceLT, Int.reduceLE, Int.reduceNeg, Int.reduceToNat, Int.reduceAdd, Int.reduceSub, Nat.reduceMul, part_cell, part_agg, *]
    | (refine seqK_now ?_)
    | (refine retK_now ?_)
    | (refine retK_now' ?_)
    | (intro q hq)
    | (refine cond_intro (fun hc => ?_) (fun hc => ?_)))
    refine hc.use ?_
    (repeat' first
    | simp (contextual := true) (maxSteps := 4000000) only [fwc, fwe, fww, reduceIte, ↓reduceIte, Nat.reduceAdd, Nat.reduceLeDiff, Nat.reduceEqDiff, Nat.reduceLT, Nat.reduceSub, reduceCtorEq, Int.reduceEq, Int.reduceLT, Int.reduceLE, Int.reduceNeg, Int.reduceToNat, Int.reduceAdd, Int.reduceSub, Nat.reduceMul, part_cell, part_agg, *]
    | (refine seqK_now ?_)
    | (refine retK_now ?_)
    | (refine retK_now' ?_)
    | (intro q hq)
    | (refine cond_intro (fun hc => ?_) (fun hc => ?_)))
    refine WeakR.pure (by repeat (first | exact Heap.sub_refl _ | refine sub_upd (by simp only [*]) ?_)) ?_
    rfl
  | false =>
    rw [hb] at hc
    rw [if_neg (by simp)] at hc
    have d : decide ((0 : Int) = 0) = true := by decide
    cases hk : rackOK r with
    | false =>
      rw [hk] at hr
      rw [if_pos (.inr rfl)]
      (repeat' first
    | simp (contextual := true) (maxSteps := 4000000) only [fwc, fwe, fww, reduceIte, ↓reduceIte, Nat.reduceAdd, Nat.reduceLeDiff, Nat.reduceEqDiff, Nat.reduceLT, Nat.reduceSub, reduceCtorEq, Int.reduceEq, Int.reduceLT, Int.reduceLE, Int.reduceNeg, Int.reduceToNat, Int.reduceAdd, Int.reduceSub, Nat.reduceMul, part_cell, part_agg, *]
    | (refine seqK_now ?_)
    | (refine retK_now ?_)
    | (refine retK_now' ?_)
    | (intro q hq)
    | (refine cond_intro (fun hc => ?_) (fun hc => ?_)))
      refine hc.use ?_
      (repeat' first
    | simp (contextual := true) (maxSteps := 4000000) only [fwc, fwe, fww, reduceIte, ↓reduceIte, Nat.reduceAdd, Nat.reduceLeDiff, Nat.reduceEqDiff, Nat.reduceLT, Nat.reduceSub, reduceCtorEq, Int.reduceEq, Int.reduceLT, Int.reduceLE, Int.reduceNeg, Int.reduceToNat, Int.reduceAdd, Int.reduceSub, Nat.reduceMul, part_cell, part_agg, *]
    | (refine seqK_now ?_)
    | (refine retK_now ?_)
    | (refine retK_now' ?_)
    | (intro q hq)
    | (refine cond_intro (fun hc => ?_) (fun hc => ?_)))
      refine hr.use ?_
      (repeat' first
    | simp (contextual := true) (maxSteps := 4000000) only [fwc, fwe, fww, reduceIte, ↓reduceIte, Nat.reduceAdd, Nat.reduceLeDiff, Nat.reduceEqDiff, Nat.reduceLT, Nat.reduceSub, reduceCtorEq, Int.reduceEq, Int.reduceLT, Int.reduceLE, Int.reduceNeg, Int.reduceToNat, Int.reduceAdd, Int.reduceSub, Nat.reduceMul, part_cell, part_agg, *]
    | (refine seqK_now ?_)
    | (refine retK_now ?_)
    | (refine retK_now' ?_)
    | (intro q hq)
    | (refine cond_intro (fun hc => ?_) (fun hc => ?_)))
      refine WeakR.pure (by repeat (first | exact Heap.sub_refl _ | refine sub_upd (by simp only [*]) ?_)) ?_
      rfl
    | true =>
      rw [hk] at hr
      rw [if_neg (by simp)]
      have hs := spot_ok n r (by unfold Ndl.bad at hb; simp at hb; omega) (by unfold Ndl.bad at hb; simp at hb; omega) (by unfold rackOK at hk; simp at hk; omega) (by unfold rackOK at hk; simp at hk; omega)
      rw [show n.av = .agg [.val (.int .u8 n.bed), .val (.int .i64 n.at_)] from rfl] at hs
      (repeat' first
    | simp (contextual := true) (maxSteps := 4000000) only [fwc, fwe, fww, reduceIte, ↓reduceIte, Nat.reduceAdd, Nat.reduceLeDiff, Nat.reduceEqDiff, Nat.reduceLT, Nat.reduceSub, reduceCtorEq, Int.reduceEq, Int.reduceLT, Int.reduceLE, Int.reduceNeg, Int.reduceToNat, Int.reduceAdd, Int.reduceSub, Nat.reduceMul, part_cell, part_agg, *]
    | (refine seqK_now ?_)
    | (refine retK_now ?_)
    | (refine retK_now' ?_)
    | (intro q hq)
    | (refine cond_intro (fun hc => ?_) (fun hc => ?_)))
      refine hc.use ?_
      (repeat' first
    | simp (contextual := true) (maxSteps := 4000000) only [fwc, fwe, fww, reduceIte, ↓reduceIte, Nat.reduceAdd, Nat.reduceLeDiff, Nat.reduceEqDiff, Nat.reduceLT, Nat.reduceSub, reduceCtorEq, Int.reduceEq, Int.reduceLT, Int.reduceLE, Int.reduceNeg, Int.reduceToNat, Int.reduceAdd, Int.reduceSub, Nat.reduceMul, part_cell, part_agg, *]
    | (refine seqK_now ?_)
    | (refine retK_now ?_)
    | (refine retK_now' ?_)
    | (intro q hq)
    | (refine cond_intro (fun hc => ?_) (fun hc => ?_)))
      refine hr.use ?_
      (repeat' first
    | simp (contextual := true) (maxSteps := 4000000) only [fwc, fwe, fww, reduceIte, ↓reduceIte, Nat.reduceAdd, Nat.reduceLeDiff, Nat.reduceEqDiff, Nat.reduceLT, Nat.reduceSub, reduceCtorEq, Int.reduceEq, Int.reduceLT, Int.reduceLE, Int.reduceNeg, Int.reduceToNat, Int.reduceAdd, Int.reduceSub, Nat.reduceMul, part_cell, part_agg, *]
    | (refine seqK_now ?_)
    | (refine retK_now ?_)
    | (refine retK_now' ?_)
    | (intro q hq)
    | (refine cond_intro (fun hc => ?_) (fun hc => ?_)))
      refine hs.use ?_
      (repeat' first
    | simp (contextual := true) (maxSteps := 4000000) only [fwc, fwe, fww, reduceIte, ↓reduceIte, Nat.reduceAdd, Nat.reduceLeDiff, Nat.reduceEqDiff, Nat.reduceLT, Nat.reduceSub, reduceCtorEq, Int.reduceEq, Int.reduceLT, Int.reduceLE, Int.reduceNeg, Int.reduceToNat, Int.reduceAdd, Int.reduceSub, Nat.reduceMul, part_cell, part_agg, *]
    | (refine seqK_now ?_)
    | (refine retK_now ?_)
    | (refine retK_now' ?_)
    | (intro q hq)
    | (refine cond_intro (fun hc => ?_) (fun hc => ?_)))
      refine WeakR.pure (by repeat (first | exact Heap.sub_refl _ | refine sub_upd (by simp only [*]) ?_)) ?_
      rfl

/-- The needle at a spot. -/
def atSpot (a r : Int) : Option Nat := (List.range 80).find? fun i => decide (spotL (needleL i) r = a)
def atN (a r : Int) : Ndl := if rackOK r = true then (match atSpot a r with | some i => needleL i | none => ⟨0, 0⟩) else ⟨0, 0⟩
def atE (a r : Int) : Int := if rackOK r = true then (match atSpot a r with | some _ => 0 | none => 7) else 11
def env62 (a r : Int) (q4 q6 j : Nat) : Env := ((((((Env.upd (fun _ => .junk) 16 (.val (.int .i64 j))).upd 15 (.val (.int .i64 2))).upd 14 (.list 1 true [.val (.int .u8 0), .val (.int .u8 1)])).upd 6 (.optr q6 2 0 0)).upd 4 (.optr q4 2 0 0)).upd 1 (.val (.int .i64 r))).upd 0 (.val (.int .i64 a))
def env62b (a r : Int) (q4 q6 j i : Nat) : Env := ((((((((Env.upd (fun _ => .junk) 20 (.val (.int .i64 i))).upd 16 (.val (.int .i64 j))).upd 15 (.val (.int .i64 2))).upd 14 (.list 1 true [.val (.int .u8 0), .val (.int .u8 1)])).upd 8 (.val (.int .u8 j))).upd 6 (.optr q6 2 0 0)).upd 4 (.optr q4 2 0 0)).upd 1 (.val (.int .i64 r))).upd 0 (.val (.int .i64 a))
theorem at_none {a r : Int} (h : ∀ i, i < 80 → spotL (needleL i) r ≠ a) : atSpot a r = none := by
  unfold atSpot
  rw [List.find?_eq_none]
  intro i hi
  simpa using h i (List.mem_range.1 hi)
theorem at_some {a r : Int} {i : Nat} (hi : i < 80) (h : ∀ j, j < i → spotL (needleL j) r ≠ a) (he : spotL (needleL i) r = a) : atSpot a r = some i := by
  unfold atSpot
  rw [List.find?_range_eq_some]
  exact ⟨by simpa using he, List.mem_range.2 hi, fun j hj => by simpa using h j hj⟩
theorem needle_lo {i : Nat} (h : i < 40) : needleL (40 * 0 + i) = ⟨0, ((i + 1 : Nat) : Int)⟩ := by
  unfold needleL
  congr 1 <;> omega
theorem needle_hi {i : Nat} (h : i < 40) : needleL (40 * 1 + i) = ⟨1, ((i + 1 : Nat) : Int)⟩ := by
  unfold needleL
  congr 1 <;> omega
set_option maxHeartbeats 4000000 in
theorem NAt_ok (a r : Int) : PureA Try.prog 27 [.val (.int .i64 a), .val (.int .i64 r)] (.tup [(atN a r).av, .val (.int .i64 (atE a r))]) := by
  intro O
  have hr := racked_ok r
  refine k27.call mix ?_
  unfold c27
  refine seq_go ?_
  (repeat' first
    | simp (contextual := true) (maxSteps := 4000000) only [fwc, fwe, fww, reduceIte, ↓reduceIte, Nat.reduceAdd, Nat.reduceLeDiff, Nat.reduceEqDiff, Nat.reduceLT, Nat.reduceSub, reduceCtorEq, Int.reduceEq, Int.reduceLT, Int.reduceLE, Int.reduceNeg, Int.reduceToNat, Int.reduceAdd, Int.reduceSub, Nat.reduceMul, part_cell, part_agg, *]
    | (refine retK_now ?_)
    | (refine retK_now' ?_)
    | (intro q hq)
    | (refine cond_intro (fun hc => ?_) (fun hc => ?_)))
  revert q
  intro q4 hq4
  refine seqK_now ?_
  refine seq_go ?_
  cases hk : rackOK r with
  | false =>
    rw [hk] at hr
    have e1 : atN a r = ⟨0, 0⟩ := by unfold atN; rw [if_neg (by simp [hk])]
    have e2 : atE a r = 11 := by unfold atE; rw [if_neg (by simp [hk])]
    rw [e1, e2]
    clear e1 e2 hk
    (repeat' first
    | simp (contextual := true) (maxSteps := 4000000) only [fwc, fwe, fww, reduceIte, ↓reduceIte, Nat.reduceAdd, Nat.reduceLeDiff, Nat.reduceEqDiff, Nat.reduceLT, Nat.reduceSub, reduceCtorEq, Int.reduceEq, Int.reduceLT, Int.reduceLE, Int.reduceNeg, Int.reduceToNat, Int.reduceAdd, Int.reduceSub, Nat.reduceMul, part_cell, part_agg, *]
    | (refine seqK_now ?_)
    | (refine retK_now ?_)
    | (refine retK_now' ?_)
    | (intro q hq)
    | (refine cond_intro (fun hc => ?_) (fun hc => ?_)))
    refine hr.use ?_
    (repeat' first
    | simp (contextual := true) (maxSteps := 4000000) only [fwc, fwe, fww, reduceIte, ↓reduceIte, Nat.reduceAdd, Nat.reduceLeDiff, Nat.reduceEqDiff, Nat.reduceLT, Nat.reduceSub, reduceCtorEq, Int.reduceEq, Int.reduceLT, Int.reduceLE, Int.reduceNeg, Int.reduceToNat, Int.reduceAdd, Int.reduceSub, Nat.reduceMul, part_cell, part_agg, *]
    | (refine seqK_now ?_)
    | (refine retK_now ?_)
    | (refine retK_now' ?_)
    | (intro q hq)
    | (refine cond_intro (fun hc => ?_) (fun hc => ?_)))
    refine WeakR.pure (by repeat (first | exact Heap.sub_refl _ | refine sub_upd (by simp only [*]) ?_)) ?_
    rfl
  | true =>
    rw [hk] at hr
    have e1 : atN a r = (match atSpot a r with | some i => needleL i | none => ⟨0, 0⟩) := by unfold atN; rw [if_pos hk]
    have e2 : atE a r = (match atSpot a r with | some _ => 0 | none => 7) := by unfold atE; rw [if_pos hk]
    rw [e1, e2]
    clear e1 e2
    have hrk : -4 ≤ r ∧ r ≤ 4 := by unfold rackOK at hk; simpa using hk
    replace hrk := (show Aside _ from hrk)
    clear hk
    refine seq_go ?_
    (repeat' first
    | simp (contextual := true) (maxSteps := 4000000) only [fwc, fwe, fww, reduceIte, ↓reduceIte, Nat.reduceAdd, Nat.reduceLeDiff, Nat.reduceEqDiff, Nat.reduceLT, Nat.reduceSub, reduceCtorEq, Int.reduceEq, Int.reduceLT, Int.reduceLE, Int.reduceNeg, Int.reduceToNat, Int.reduceAdd, Int.reduceSub, Nat.reduceMul, part_cell, part_agg, *]
    | (refine retK_now ?_)
    | (refine retK_now' ?_)
    | (intro q hq)
    | (refine cond_intro (fun hc => ?_) (fun hc => ?_)))
    refine hr.use ?_
    clear hr
    (repeat' first
    | simp (contextual := true) (maxSteps := 4000000) only [fwc, fwe, fww, reduceIte, ↓reduceIte, Nat.reduceAdd, Nat.reduceLeDiff, Nat.reduceEqDiff, Nat.reduceLT, Nat.reduceSub, reduceCtorEq, Int.reduceEq, Int.reduceLT, Int.reduceLE, Int.reduceNeg, Int.reduceToNat, Int.reduceAdd, Int.reduceSub, Nat.reduceMul, part_cell, part_agg, *]
    | (refine retK_now ?_)
    | (refine retK_now' ?_)
    | (intro q hq)
    | (refine cond_intro (fun hc => ?_) (fun hc => ?_)))
    refine seqK_now ?_
    (repeat' first
    | simp (contextual := true) (maxSteps := 4000000) only [fwc, fwe, fww, reduceIte, ↓reduceIte, Nat.reduceAdd, Nat.reduceLeDiff, Nat.reduceEqDiff, Nat.reduceLT, Nat.reduceSub, reduceCtorEq, Int.reduceEq, Int.reduceLT, Int.reduceLE, Int.reduceNeg, Int.reduceToNat, Int.reduceAdd, Int.reduceSub, Nat.reduceMul, part_cell, part_agg, *]
    | (refine retK_now ?_)
    | (refine retK_now' ?_)
    | (intro q hq)
    | (refine cond_intro (fun hc => ?_) (fun hc => ?_)))
    refine seqK_now ?_
    refine seq_go ?_
    (repeat' first
    | simp (contextual := true) (maxSteps := 4000000) only [fwc, fwe, fww, reduceIte, ↓reduceIte, Nat.reduceAdd, Nat.reduceLeDiff, Nat.reduceEqDiff, Nat.reduceLT, Nat.reduceSub, reduceCtorEq, Int.reduceEq, Int.reduceLT, Int.reduceLE, Int.reduceNeg, Int.reduceToNat, Int.reduceAdd, Int.reduceSub, Nat.reduceMul, part_cell, part_agg, *]
    | (refine retK_now ?_)
    | (refine retK_now' ?_)
    | (intro q hq)
    | (refine cond_intro (fun hc => ?_) (fun hc => ?_)))
    revert q
    intro q6 hq6
    refine seqK_now ?_
    refine seq_go ?_
    (repeat' first
    | simp (contextual := true) (maxSteps := 4000000) only [fwc, fwe, fww, reduceIte, ↓reduceIte, Nat.reduceAdd, Nat.reduceLeDiff, Nat.reduceEqDiff, Nat.reduceLT, Nat.reduceSub, reduceCtorEq, Int.reduceEq, Int.reduceLT, Int.reduceLE, Int.reduceNeg, Int.reduceToNat, Int.reduceAdd, Int.reduceSub, Nat.reduceMul, part_cell, part_agg, *]
    | (refine retK_now ?_)
    | (refine retK_now' ?_)
    | (intro q hq)
    | (refine cond_intro (fun hc => ?_) (fun hc => ?_)))
    refine seqK_now ?_
    obtain ⟨h61, h62, h63⟩ : ¬ q6 = q4 ∧ ¬ q4 = q6 ∧ O q6 = none := by simpa only [upd_none] using hq6
    clear hq6
    refine seq_post (fun e1 O1 => (∃ z : Ndl, O1 = (O.upd q4 (.arr 38 2 [.agg [.val (.int .u8 0), .val (.int .i64 0)]])).upd q6 (.arr 38 2 [z.av]) ∧ ((∃ i, atSpot a r = some i ∧ z = needleL i ∧ i < 80) ∨ (atSpot a r = none ∧ z = ⟨0, 0⟩))) ∧ e1 = (Env.upd (fun _ => .junk) 6 (.optr q6 2 0 0)).upd 4 (.optr q4 2 0 0)) ?_ ?_
    · intro e1 O1 hQ
      obtain ⟨⟨z, rfl, hz⟩, rfl⟩ := hQ
      rw [show z.av = .agg [.val (.int .u8 z.bed), .val (.int .i64 z.at_)] from rfl]
      rcases hz with ⟨i, h1, rfl, hi⟩ | ⟨h1, rfl⟩
      · have hat : decide ((needleL i).at_ = 0) = false := decide_eq_false (by unfold needleL; simp only; omega)
        rw [h1]
        simp only []
        generalize needleL i = u at hat ⊢
        (repeat' first
    | simp (contextual := true) (maxSteps := 4000000) only [fwc, fwe, fww, reduceIte, ↓reduceIte, Nat.reduceAdd, Nat.reduceLeDiff, Nat.reduceEqDiff, Nat.reduceLT, Nat.reduceSub, reduceCtorEq, Int.reduceEq, Int.reduceLT, Int.reduceLE, Int.reduceNeg, Int.reduceToNat, Int.reduceAdd, Int.reduceSub, Nat.reduceMul, part_cell, part_agg, *]
    | (refine seqK_now ?_)
    | (refine retK_now ?_)
    | (refine retK_now' ?_)
    | (intro q hq)
    | (refine cond_intro (fun hc => ?_) (fun hc => ?_)))
        refine WeakR.pure (by repeat (first | exact Heap.sub_refl _ | refine sub_upd (by simp only [*]) ?_)) ?_
        rfl
      · have hat : decide ((0 : Int) = 0) = true := by decide
        rw [h1]
        (repeat' first
    | simp (contextual := true) (maxSteps := 4000000) only [fwc, fwe, fww, reduceIte, ↓reduceIte, Nat.reduceAdd, Nat.reduceLeDiff, Nat.reduceEqDiff, Nat.reduceLT, Nat.reduceSub, reduceCtorEq, Int.reduceEq, Int.reduceLT, Int.reduceLE, Int.reduceNeg, Int.reduceToNat, Int.reduceAdd, Int.reduceSub, Nat.reduceMul, part_cell, part_agg, *]
    | (refine seqK_now ?_)
    | (refine retK_now ?_)
    | (refine retK_now' ?_)
    | (intro q hq)
    | (refine cond_intro (fun hc => ?_) (fun hc => ?_)))
        refine WeakR.pure (by repeat (first | exact Heap.sub_refl _ | refine sub_upd (by simp only [*]) ?_)) ?_
        rfl
    · intro F hF
      replace hF := (show Aside _ from hF)
      obtain ⟨I, hI⟩ := hideI (fun m e O' => ∃ j : Nat, j ≤ 2 ∧ m = 2 - j ∧ (∀ i, i < 40 * j → spotL (needleL i) r ≠ a) ∧ O' = (O.upd q4 (.arr 38 2 [.agg [.val (.int .u8 0), .val (.int .i64 0)]])).upd q6 (.arr 38 2 [.agg [.val (.int .u8 0), .val (.int .i64 0)]]) ∧ e = env62 a r q4 q6 j)
      refine seq_go ?_
      (repeat' first
    | simp (contextual := true) (maxSteps := 4000000) only [fwc, fwe, fww, reduceIte, ↓reduceIte, Nat.reduceAdd, Nat.reduceLeDiff, Nat.reduceEqDiff, Nat.reduceLT, Nat.reduceSub, reduceCtorEq, Int.reduceEq, Int.reduceLT, Int.reduceLE, Int.reduceNeg, Int.reduceToNat, Int.reduceAdd, Int.reduceSub, Nat.reduceMul, part_cell, part_agg, *]
    | (refine retK_now ?_)
    | (refine retK_now' ?_)
    | (intro q hq)
    | (refine cond_intro (fun hc => ?_) (fun hc => ?_)))
      refine seqK_now ?_
      (repeat' first
    | simp (contextual := true) (maxSteps := 4000000) only [fwc, fwe, fww, reduceIte, ↓reduceIte, Nat.reduceAdd, Nat.reduceLeDiff, Nat.reduceEqDiff, Nat.reduceLT, Nat.reduceSub, reduceCtorEq, Int.reduceEq, Int.reduceLT, Int.reduceLE, Int.reduceNeg, Int.reduceToNat, Int.reduceAdd, Int.reduceSub, Nat.reduceMul, part_cell, part_agg, *]
    | (refine retK_now ?_)
    | (refine retK_now' ?_)
    | (intro q hq)
    | (refine cond_intro (fun hc => ?_) (fun hc => ?_)))
      refine cmd_loop I 2 (by
        rw [hI.out]
        exact ⟨0, by omega, rfl, fun i hi => by omega, rfl, rfl⟩) ?_
      intro m e O' hh
      rw [hI.out] at hh
      obtain ⟨j, hj2, rfl, hlo, rfl, rfl⟩ := hh
      unfold env62
      have dj : decide ((j : Int) < 2) = decide (j < 2) := decide_eq_decide.2 (by omega)
      by_cases hj : j < 2
      · have e1 : decide (j < 2) = true := decide_eq_true hj
        have hbed : indexAddrA 1 (j : Int) (.list 1 true [.val (.int .u8 0), .val (.int .u8 1)]) = some (.ref (.val (.int .u8 (j : Int)))) := by
          match j, hj with
          | 0, _ => rfl
          | 1, _ => rfl
        have hnd : ∀ i : Nat, i < 40 → needleL (40 * j + i) = ⟨(j : Int), ((i + 1 : Nat) : Int)⟩ := fun i hi => by
          match j, hj with
          | 0, _ => exact needle_lo hi
          | 1, _ => exact needle_hi hi
        have hwj : j < 4611686018427387904 := by omega
        obtain ⟨J, hJ⟩ := hideI (fun m e O' => ∃ (i : Nat) (z : Ndl), i ≤ 40 ∧ m = 40 - i ∧ (∀ k, k < 40 * j + i → spotL (needleL k) r ≠ a) ∧ O' = (O.upd q4 (.arr 38 2 [.agg [.val (.int .u8 0), .val (.int .i64 0)]])).upd q6 (.arr 38 2 [z.av]) ∧ e = env62b a r q4 q6 j i)
        replace hlo := (show Aside _ from hlo)
        replace hnd := (show Aside _ from hnd)
        (repeat' first
    | simp (contextual := true) (maxSteps := 4000000) only [fwc, fwe, fww, reduceIte, ↓reduceIte, Nat.reduceAdd, Nat.reduceLeDiff, Nat.reduceEqDiff, Nat.reduceLT, Nat.reduceSub, reduceCtorEq, Int.reduceEq, Int.reduceLT, Int.reduceLE, Int.reduceNeg, Int.reduceToNat, Int.reduceAdd, Int.reduceSub, Nat.reduceMul, part_cell, part_agg, *]
    | (refine seqK_now ?_)
    | (refine retK_now ?_)
    | (refine retK_now' ?_)
    | (intro q hq)
    | (refine cond_intro (fun hc => ?_) (fun hc => ?_)))
        refine cmd_loop J 40 (by
          rw [hJ.out]
          exact ⟨0, ⟨0, 0⟩, by omega, rfl, fun k hk => hlo.out k (by omega), rfl, rfl⟩) ?_
        intro m e O' hh
        rw [hJ.out] at hh
        obtain ⟨i, z, hi40, rfl, hlo2, rfl, rfl⟩ := hh
        unfold env62b
        rw [show z.av = .agg [.val (.int .u8 z.bed), .val (.int .i64 z.at_)] from rfl]
        have di : decide ((i : Int) < 40) = decide (i < 40) := decide_eq_decide.2 (by omega)
        by_cases hi : i < 40
        · have e2 : decide (i < 40) = true := decide_eq_true hi
          have hwi : i < 4611686018427387904 := by omega
          have hsp := spot_ok (needleL (40 * j + i)) r (by rw [hnd.out i hi]; simp only; omega) (by rw [hnd.out i hi]; simp only; omega) (by have := hrk.out; omega) (by have := hrk.out; omega)
          have hn := hnd.out i hi
          rw [hn, show (⟨(j : Int), ((i + 1 : Nat) : Int)⟩ : Ndl).av = .agg [.val (.int .u8 (j : Int)), .val (.int .i64 ((i + 1 : Nat) : Int))] from rfl] at hsp
          replace hlo2 := (show Aside _ from hlo2)
          obtain ⟨s, hs⟩ : ∃ s, spotL ⟨(j : Int), ((i + 1 : Nat) : Int)⟩ r = s := ⟨_, rfl⟩
          rw [hs] at hsp
          rw [← hn] at hs
          replace hs := (show Aside _ from hs)
          replace hn := (show Aside _ from hn)
          by_cases hsa : s = a
          · have e3 : decide (s = a) = true := decide_eq_true hsa
            replace hsa := (show Aside _ from hsa)
            (repeat' first
    | simp (contextual := true) (maxSteps := 4000000) only [fwc, fwe, fww, reduceIte, ↓reduceIte, Nat.reduceAdd, Nat.reduceLeDiff, Nat.reduceEqDiff, Nat.reduceLT, Nat.reduceSub, reduceCtorEq, Int.reduceEq, Int.reduceLT, Int.reduceLE, Int.reduceNeg, Int.reduceToNat, Int.reduceAdd, Int.reduceSub, Nat.reduceMul, part_cell, part_agg, wrap_succ, *]
    | (refine seqK_now ?_)
    | (refine retK_now ?_)
    | (refine retK_now' ?_)
    | (intro q hq)
    | (refine cond_intro (fun hc => ?_) (fun hc => ?_)))
            refine hsp.use ?_
            (repeat' first
    | simp (contextual := true) (maxSteps := 4000000) only [fwc, fwe, fww, reduceIte, ↓reduceIte, Nat.reduceAdd, Nat.reduceLeDiff, Nat.reduceEqDiff, Nat.reduceLT, Nat.reduceSub, reduceCtorEq, Int.reduceEq, Int.reduceLT, Int.reduceLE, Int.reduceNeg, Int.reduceToNat, Int.reduceAdd, Int.reduceSub, Nat.reduceMul, part_cell, part_agg, wrap_succ, *]
    | (refine seqK_now ?_)
    | (refine retK_now ?_)
    | (refine retK_now' ?_)
    | (intro q hq)
    | (refine cond_intro (fun hc => ?_) (fun hc => ?_)))
            refine hF.out _ _ ⟨⟨needleL (40 * j + i), ?_, .inl ⟨40 * j + i, at_some (by omega) (fun k hk => hlo2.out k hk) (by rw [hs.out]; exact hsa.out), rfl, by omega⟩⟩, ?_⟩
            · rw [hn.out]; rfl
            · rfl
          · have e3 : decide (s = a) = false := decide_eq_false hsa
            replace hsa := (show Aside _ from hsa)
            (repeat' first
    | simp (contextual := true) (maxSteps := 4000000) only [fwc, fwe, fww, reduceIte, ↓reduceIte, Nat.reduceAdd, Nat.reduceLeDiff, Nat.reduceEqDiff, Nat.reduceLT, Nat.reduceSub, reduceCtorEq, Int.reduceEq, Int.reduceLT, Int.reduceLE, Int.reduceNeg, Int.reduceToNat, Int.reduceAdd, Int.reduceSub, Nat.reduceMul, part_cell, part_agg, wrap_succ, *]
    | (refine seqK_now ?_)
    | (refine retK_now ?_)
    | (refine retK_now' ?_)
    | (intro q hq)
    | (refine cond_intro (fun hc => ?_) (fun hc => ?_)))
            refine hsp.use ?_
            (repeat' first
    | simp (contextual := true) (maxSteps := 4000000) only [fwc, fwe, fww, reduceIte, ↓reduceIte, Nat.reduceAdd, Nat.reduceLeDiff, Nat.reduceEqDiff, Nat.reduceLT, Nat.reduceSub, reduceCtorEq, Int.reduceEq, Int.reduceLT, Int.reduceLE, Int.reduceNeg, Int.reduceToNat, Int.reduceAdd, Int.reduceSub, Nat.reduceMul, part_cell, part_agg, wrap_succ, *]
    | (refine seqK_now ?_)
    | (refine retK_now ?_)
    | (refine retK_now' ?_)
    | (intro q hq)
    | (refine cond_intro (fun hc => ?_) (fun hc => ?_)))
            refine loopK_now (40 - (i + 1)) (by omega) ?_
            rw [hJ.out]
            refine ⟨i + 1, ⟨(j : Int), ((i + 1 : Nat) : Int)⟩, by omega, rfl, fun k hk => ?_, rfl, rfl⟩
            rcases Nat.lt_or_ge k (40 * j + i) with h | h
            · exact hlo2.out k h
            · have : k = 40 * j + i := by omega
              rw [this, hs.out]
              exact hsa.out
        · have e2 : decide (i < 40) = false := decide_eq_false hi
          have hi4 : i = 40 := by omega
          replace hlo2 := (show Aside _ from hlo2)
          replace hi := (show Aside _ from hi)
          replace hi4 := (show Aside _ from hi4)
          (repeat' first
    | simp (contextual := true) (maxSteps := 4000000) only [fwc, fwe, fww, reduceIte, ↓reduceIte, Nat.reduceAdd, Nat.reduceLeDiff, Nat.reduceEqDiff, Nat.reduceLT, Nat.reduceSub, reduceCtorEq, Int.reduceEq, Int.reduceLT, Int.reduceLE, Int.reduceNeg, Int.reduceToNat, Int.reduceAdd, Int.reduceSub, Nat.reduceMul, part_cell, part_agg, wrap_succ, *]
    | (refine seqK_now ?_)
    | (refine retK_now ?_)
    | (refine retK_now' ?_)
    | (intro q hq)
    | (refine cond_intro (fun hc => ?_) (fun hc => ?_)))
          refine loopK_now (2 - (j + 1)) (by omega) ?_
          rw [hI.out]
          exact ⟨j + 1, by omega, rfl, fun k hk => hlo2.out k (by have := hi4.out; omega), rfl, rfl⟩
      · have e1 : decide (j < 2) = false := decide_eq_false hj
        have hj3 : j = 2 := by omega
        replace hj := (show Aside _ from hj)
        replace hlo := (show Aside _ from hlo)
        replace hj3 := (show Aside _ from hj3)
        (repeat' first
    | simp (contextual := true) (maxSteps := 4000000) only [fwc, fwe, fww, reduceIte, ↓reduceIte, Nat.reduceAdd, Nat.reduceLeDiff, Nat.reduceEqDiff, Nat.reduceLT, Nat.reduceSub, reduceCtorEq, Int.reduceEq, Int.reduceLT, Int.reduceLE, Int.reduceNeg, Int.reduceToNat, Int.reduceAdd, Int.reduceSub, Nat.reduceMul, part_cell, part_agg, *]
    | (refine seqK_now ?_)
    | (refine retK_now ?_)
    | (refine retK_now' ?_)
    | (intro q hq)
    | (refine cond_intro (fun hc => ?_) (fun hc => ?_)))
        refine hF.out _ _ ⟨⟨⟨0, 0⟩, rfl, .inr ⟨at_none fun i hi => hlo.out i (by have := hj3.out; omega), rfl⟩⟩, rfl⟩
/-- The same, told by arithmetic. -/
def atFast (a r : Int) : Option Int :=
  if (a - 2) % 4 = 0 ∧ 1 ≤ (a - 2) / 4 ∧ (a - 2) / 4 ≤ 40 then some ((a - 2) / 4 - 1)
  else if a % 4 = 0 ∧ 1 ≤ a / 4 - r ∧ a / 4 - r ≤ 40 then some (39 + (a / 4 - r)) else none
theorem spot_lo {i : Nat} (r : Int) (h : i < 40) : spotL (needleL i) r = 4 * ((i : Int) + 1) + 2 := by
  have := needle_lo h
  rw [show 40 * 0 + i = i by omega] at this
  rw [this]
  unfold spotL
  rw [if_neg (by simp)]
  simp only
  omega
theorem spot_hi {i : Nat} (r : Int) (h : 40 ≤ i) (h2 : i < 80) : spotL (needleL i) r = 4 * ((i : Int) - 39 + r) := by
  have := needle_hi (show i - 40 < 40 by omega)
  rw [show 40 * 1 + (i - 40) = i by omega] at this
  rw [this]
  unfold spotL
  rw [if_pos rfl]
  simp only
  omega
theorem at_fast (a r : Int) : atSpot a r = (atFast a r).map Int.toNat := by
  unfold atFast
  split
  · rename_i h
    refine at_some (by omega) (fun j hj => ?_) ?_
    · rw [spot_lo r (by omega)]; omega
    · rw [spot_lo r (by omega)]; omega
  · rename_i h
    split
    · rename_i h2
      refine at_some (by omega) (fun j hj => ?_) ?_
      · by_cases h40 : j < 40
        · rw [spot_lo r h40]; omega
        · rw [spot_hi r (by omega) (by omega)]; omega
      · rw [spot_hi r (by omega) (by omega)]; omega
    · rename_i h2
      refine at_none fun i hi => ?_
      by_cases h40 : i < 40
      · rw [spot_lo r h40]; omega
      · rw [spot_hi r (by omega) (by omega)]; omega
def natNAt : List AV → Option AV
  | [.val (.int .i64 a), .val (.int .i64 r)] => match rackOK r with
    | false => some (.tup [(⟨0, 0⟩ : Ndl).av, .val (.int .i64 11)])
    | true => match (atFast a r).map Int.toNat with
      | some i => some (.tup [(needleL i).av, .val (.int .i64 0)])
      | none => some (.tup [(⟨0, 0⟩ : Ndl).av, .val (.int .i64 7)])
  | _ => none
theorem natNAt_ok (args : List AV) (r : AV) (h : natNAt args = some r) : PureA Try.prog 27 args r := by
  unfold natNAt at h
  split at h
  · rename_i a r0
    have key := NAt_ok a r0
    unfold atN atE at key
    rw [at_fast] at key
    split at h
    · rename_i hk; cases h; rw [if_neg (by simp [hk]), if_neg (by simp [hk])] at key; exact key
    · rename_i hk
      rw [if_pos hk, if_pos hk] at key
      split at h
      · rename_i i hi; cases h; rw [hi] at key; exact key
      · rename_i hi; cases h; rw [hi] at key; exact key
  · cases h
end Go.Proofs.Ytembkknplmcamaa

namespace Go.Proofs.Ytembkknplmcamaa
open Go.Ab
attribute [local irreducible] WeakR WeakE CallA YieldA

/-- Names, stacks and beds read off values. -/
def decId : AV → Option Id
  | .agg [.val (.int .u8 y), .val (.int .i64 n)] => some ⟨y, n⟩
  | _ => none
def decIds : List AV → Option (List Id)
  | [] => some []
  | x :: l => match decId x, decIds l with
    | some p, some L => some (p :: L)
    | _, _ => none
def decS : AV → Option (List Id)
  | .list 2 _ l => decIds l
  | .val (.slice none 0 0) => some []
  | _ => none
def decSs : List AV → Option (List (List Id))
  | [] => some []
  | x :: l => match decS x, decSs l with
    | some p, some L => some (p :: L)
    | _, _ => none
def decB : AV → Option (List AV × List (List Id))
  | .list 1 _ l => match decSs l with
    | some F => some (l, F)
    | none => none
  | .val (.slice none 0 0) => some ([], [])
  | _ => none
theorem decId_ok {x : AV} {p : Id} (h : decId x = some p) : x = p.av := by
  unfold decId at h
  split at h
  · cases h; rfl
  · cases h
theorem decIds_ok : ∀ {l : List AV} {L : List Id}, decIds l = some L → l = L.map Id.av
  | [], L, h => by cases h; rfl
  | x :: l, L, h => by
    simp only [decIds] at h
    split at h
    · rename_i p M hp hM
      cases h
      rw [decId_ok hp, decIds_ok hM]
      rfl
    · cases h
theorem decS_ok {x : AV} {L : List Id} (h : decS x = some L) : IsL 2 x (L.map Id.av) := by
  unfold decS at h
  split at h
  · rw [decIds_ok h]; exact .list
  · cases h; exact .nil
  · cases h
theorem decSs_ok : ∀ {l : List AV} {F : List (List Id)}, decSs l = some F → l.length = F.length ∧ ∀ (i : Nat) (h : i < l.length) (h' : i < F.length), IsL 2 l[i] (F[i].map Id.av)
  | [], F, h => by cases h; exact ⟨rfl, fun i h => by simp at h⟩
  | x :: l, F, h => by
    simp only [decSs] at h
    split at h
    · rename_i p M hp hM
      cases h
      obtain ⟨h1, h2⟩ := decSs_ok hM
      refine ⟨by simp [h1], fun i hi hi' => ?_⟩
      cases i with
      | zero => exact decS_ok hp
      | succ i => exact h2 i (by simpa using hi) (by simpa using hi')
    · cases h
theorem decB_ok {x : AV} {es : List AV} {F : List (List Id)} (h : decB x = some (es, F)) : IsB x es F := by
  unfold decB at h
  split at h
  · split at h
    · rename_i hF
      cases h
      obtain ⟨h1, h2⟩ := decSs_ok hF
      exact ⟨.list, h1, h2⟩
    · cases h
  · cases h; exact ⟨.nil, rfl, fun i h => by simp at h⟩
  · cases h

def natCheck : List AV → Option AV
  | [.agg [f, b]] => match decB f, decB b with
    | some (_, F), some (_, B) => some (.val (.int .i64 (checkL F B)))
    | _, _ => none
  | _ => none
theorem natCheck_ok (args : List AV) (r : AV) (h : natCheck args = some r) : PureA Try.prog 35 args r := by
  unfold natCheck at h
  split at h
  · split at h
    · rename_i es F fs B hF hB
      cases h
      exact Check_ok _ _ _ _ F B (decB_ok hF) (decB_ok hB)
    · cases h
  · cases h

def exBeds : AV := (.agg [(.list 1 true [(.val (.slice none 0 0)), (.list 2 true [(.agg [(.val (.int .u8 1)), (.val (.int .i64 0))]), (.agg [(.val (.int .u8 1)), (.val (.int .i64 1))])])]), (.list 1 true [(.val (.slice none 0 0)), (.list 2 true [(.agg [(.val (.int .u8 2)), (.val (.int .i64 0))]), (.agg [(.val (.int .u8 2)), (.val (.int .i64 1))])]), (.val (.slice none 0 0)), (.list 2 true [(.agg [(.val (.int .u8 2)), (.val (.int .i64 2))])])])])
def tb4s : List (FuncId × Fe) := [(8, .code c8 [.tmp 4, .tmp 5] 2),
  (11, .code c11 [.tmp 6, .tmp 7] 3),
  (12, .code c12 [.tmp 8, .tmp 9] 4),
  (18, .code c18 [.tmp 4] 2),
  (19, .code c19 [.tmp 4] 2),
  (26, .code c26 [.tmp 6] 3),
  (24, .code c24 [.tmp 4] 2),
  (28, .code c28 [.tmp 2] 1),
  (27, .nat natNAt),
  (25, .code c25 [.tmp 4] 2),
  (29, .code c29 [.tmp 4] 2),
  (30, .code c30 [.tmp 2] 1),
  (31, .code c31 [.tmp 2] 1),
  (35, .nat natCheck),
  (36, .code c36 [.tmp 2] 1),
  (37, .code c37 [] 2),
  (38, .code c38 [.tmp 4] 2),
  (40, .code c40 [.tmp 2] 1),
  (41, .code c41 [.tmp 2] 1),
  (42, .code c42 [.tmp 2] 1),
  (43, .code c43 [.tmp 4] 2),
  (46, .code c46 [.tmp 4] 2),
  (45, .code c45w [.tmp 2] 1),
  (44, .code c44 [.tmp 2] 1),
  (47, .code c47 [] 1),
  (54, .code c54 [] 3),
  (39, .code c39 [.tmp 4] 2),
  (58, .code c58 [] 4),
  (59, .code c59 [] 5),
  (55, .code c55 [.tmp 2] 1),
  (60, .code c60 [] 5),
  (61, .code c61 [] 5)]
theorem tb4s_ok : TabOK' Try.prog (lookT tb4s) := lookT_ok fun p hp => by
  simp only [tb4s, List.mem_cons, List.not_mem_nil, or_false] at hp
  rcases hp with rfl | rfl | rfl | rfl | rfl | rfl | rfl | rfl | rfl | rfl | rfl | rfl | rfl | rfl | rfl | rfl | rfl | rfl | rfl | rfl | rfl | rfl | rfl | rfl | rfl | rfl | rfl | rfl | rfl | rfl | rfl | rfl
  · exact ⟨k8, by kernel_rfl⟩
  · exact ⟨k11, by kernel_rfl⟩
  · exact ⟨k12, by kernel_rfl⟩
  · exact ⟨k18, by kernel_rfl⟩
  · exact ⟨k19, by kernel_rfl⟩
  · exact ⟨k26, by kernel_rfl⟩
  · exact ⟨k24, by kernel_rfl⟩
  · exact ⟨k28, by kernel_rfl⟩
  · exact natNAt_ok
  · exact ⟨k25, by kernel_rfl⟩
  · exact ⟨k29, by kernel_rfl⟩
  · exact ⟨k30, by kernel_rfl⟩
  · exact ⟨k31, by kernel_rfl⟩
  · exact natCheck_ok
  · exact ⟨k36, by kernel_rfl⟩
  · exact ⟨k37, by kernel_rfl⟩
  · exact ⟨k38, by kernel_rfl⟩
  · exact ⟨k40, by kernel_rfl⟩
  · exact ⟨k41, by kernel_rfl⟩
  · exact ⟨k42, by kernel_rfl⟩
  · exact ⟨k43, by kernel_rfl⟩
  · exact ⟨k46, by kernel_rfl⟩
  · exact ⟨k45w, by kernel_rfl⟩
  · exact ⟨k44, by kernel_rfl⟩
  · exact ⟨k47, by kernel_rfl⟩
  · exact ⟨k54, by kernel_rfl⟩
  · exact ⟨k39, by kernel_rfl⟩
  · exact ⟨k58, by kernel_rfl⟩
  · exact ⟨k59, by kernel_rfl⟩
  · exact ⟨k55, by kernel_rfl⟩
  · exact ⟨k60, by kernel_rfl⟩
  · exact ⟨k61, by kernel_rfl⟩

theorem cr0 : pureWith (lookT tb4s) (cmdR (lookT tb4s) 100000) 8 [exBeds, .val (.int .i64 0)] ⟨.em, 0⟩ = some (.tup [(.list 5 true [(.agg [(.val (.int .u8 2)), (.val (.int .i64 0)), (.val (.int .u8 1)), (.val (.int .i64 2)), (.val (.int .i64 8))]), (.agg [(.val (.int .u8 2)), (.val (.int .i64 1)), (.val (.int .u8 1)), (.val (.int .i64 2)), (.val (.int .i64 8))]), (.agg [(.val (.int .u8 1)), (.val (.int .i64 0)), (.val (.int .u8 0)), (.val (.int .i64 2)), (.val (.int .i64 10))]), (.agg [(.val (.int .u8 1)), (.val (.int .i64 1)), (.val (.int .u8 0)), (.val (.int .i64 2)), (.val (.int .i64 10))]), (.agg [(.val (.int .u8 2)), (.val (.int .i64 2)), (.val (.int .u8 1)), (.val (.int .i64 4)), (.val (.int .i64 16))])]), (.val (.int .i64 0))]) := by kernel_rfl
theorem cr1 : pureWith (lookT tb4s) (cmdR (lookT tb4s) 100000) 8 [exBeds, .val (.int .i64 1)] ⟨.em, 0⟩ = some (.tup [(.list 5 true [(.agg [(.val (.int .u8 1)), (.val (.int .i64 0)), (.val (.int .u8 0)), (.val (.int .i64 2)), (.val (.int .i64 10))]), (.agg [(.val (.int .u8 1)), (.val (.int .i64 1)), (.val (.int .u8 0)), (.val (.int .i64 2)), (.val (.int .i64 10))]), (.agg [(.val (.int .u8 2)), (.val (.int .i64 0)), (.val (.int .u8 1)), (.val (.int .i64 2)), (.val (.int .i64 12))]), (.agg [(.val (.int .u8 2)), (.val (.int .i64 1)), (.val (.int .u8 1)), (.val (.int .i64 2)), (.val (.int .i64 12))]), (.agg [(.val (.int .u8 2)), (.val (.int .i64 2)), (.val (.int .u8 1)), (.val (.int .i64 4)), (.val (.int .i64 20))])]), (.val (.int .i64 0))]) := by kernel_rfl
theorem cr2 : pureWith (lookT tb4s) (cmdR (lookT tb4s) 100000) 11 [exBeds, .val (.int .i64 0), .val (.int .u8 1)] ⟨.em, 0⟩ = some (.tup [(.list 5 true [(.agg [(.val (.int .u8 2)), (.val (.int .i64 1)), (.val (.int .u8 1)), (.val (.int .i64 0)), (.val (.int .i64 (-1)))]), (.agg [(.val (.int .u8 2)), (.val (.int .i64 1)), (.val (.int .u8 1)), (.val (.int .i64 1)), (.val (.int .i64 (-1)))]), (.agg [(.val (.int .u8 2)), (.val (.int .i64 0)), (.val (.int .u8 1)), (.val (.int .i64 0)), (.val (.int .i64 (-1)))]), (.agg [(.val (.int .u8 2)), (.val (.int .i64 0)), (.val (.int .u8 1)), (.val (.int .i64 1)), (.val (.int .i64 (-1)))])]), (.val (.int .i64 0))]) := by kernel_rfl
theorem cr3 : pureWith (lookT tb4s) (cmdR (lookT tb4s) 100000) 11 [exBeds, .val (.int .i64 1), .val (.int .u8 0)] ⟨.em, 0⟩ = some (.tup [(.list 5 true [(.agg [(.val (.int .u8 1)), (.val (.int .i64 1)), (.val (.int .u8 2)), (.val (.int .i64 0)), (.val (.int .i64 1))]), (.agg [(.val (.int .u8 1)), (.val (.int .i64 0)), (.val (.int .u8 2)), (.val (.int .i64 0)), (.val (.int .i64 1))]), (.agg [(.val (.int .u8 1)), (.val (.int .i64 1)), (.val (.int .u8 2)), (.val (.int .i64 1)), (.val (.int .i64 1))]), (.agg [(.val (.int .u8 1)), (.val (.int .i64 0)), (.val (.int .u8 2)), (.val (.int .i64 1)), (.val (.int .i64 1))])]), (.val (.int .i64 0))]) := by kernel_rfl
theorem cr4 : pureWith (lookT tb4s) (cmdR (lookT tb4s) 100000) 11 [exBeds, .val (.int .i64 4), .val (.int .u8 1)] ⟨.em, 0⟩ = some (.tup [(.val (.slice none 0 0)), (.val (.int .i64 11))]) := by kernel_rfl
theorem cr5 : pureWith (lookT tb4s) (cmdR (lookT tb4s) 100000) 12 [exBeds, .val (.int .i64 0), .val (.int .u8 1), .val (.int .i64 9)] ⟨.em, 0⟩ = some (.tup [(.list 4 true [(.agg [(.val (.int .u8 2)), (.val (.int .i64 1)), (.val (.bool true)), (.val (.int .u8 0))]), (.agg [(.val (.int .u8 2)), (.val (.int .i64 0)), (.val (.bool true)), (.val (.int .u8 0))])]), (.val (.int .i64 0))]) := by kernel_rfl
theorem cr6 : pureWith (lookT tb4s) (cmdR (lookT tb4s) 100000) 12 [exBeds, .val (.int .i64 0), .val (.int .u8 1), .val (.int .i64 11)] ⟨.em, 0⟩ = some (.tup [(.list 4 true [(.agg [(.val (.int .u8 2)), (.val (.int .i64 1)), (.val (.bool true)), (.val (.int .u8 0))]), (.agg [(.val (.int .u8 2)), (.val (.int .i64 0)), (.val (.bool true)), (.val (.int .u8 0))])]), (.val (.int .i64 0))]) := by kernel_rfl
theorem cr7 : pureWith (lookT tb4s) (cmdR (lookT tb4s) 100000) 12 [exBeds, .val (.int .i64 0), .val (.int .u8 1), .val (.int .i64 13)] ⟨.em, 0⟩ = some (.tup [(.val (.slice none 0 0)), (.val (.int .i64 0))]) := by kernel_rfl
def natList : List AV → Option AV := natTab [([exBeds, .val (.int .i64 0)], (.tup [(.list 5 true [(.agg [(.val (.int .u8 2)), (.val (.int .i64 0)), (.val (.int .u8 1)), (.val (.int .i64 2)), (.val (.int .i64 8))]), (.agg [(.val (.int .u8 2)), (.val (.int .i64 1)), (.val (.int .u8 1)), (.val (.int .i64 2)), (.val (.int .i64 8))]), (.agg [(.val (.int .u8 1)), (.val (.int .i64 0)), (.val (.int .u8 0)), (.val (.int .i64 2)), (.val (.int .i64 10))]), (.agg [(.val (.int .u8 1)), (.val (.int .i64 1)), (.val (.int .u8 0)), (.val (.int .i64 2)), (.val (.int .i64 10))]), (.agg [(.val (.int .u8 2)), (.val (.int .i64 2)), (.val (.int .u8 1)), (.val (.int .i64 4)), (.val (.int .i64 16))])]), (.val (.int .i64 0))])), ([exBeds, .val (.int .i64 1)], (.tup [(.list 5 true [(.agg [(.val (.int .u8 1)), (.val (.int .i64 0)), (.val (.int .u8 0)), (.val (.int .i64 2)), (.val (.int .i64 10))]), (.agg [(.val (.int .u8 1)), (.val (.int .i64 1)), (.val (.int .u8 0)), (.val (.int .i64 2)), (.val (.int .i64 10))]), (.agg [(.val (.int .u8 2)), (.val (.int .i64 0)), (.val (.int .u8 1)), (.val (.int .i64 2)), (.val (.int .i64 12))]), (.agg [(.val (.int .u8 2)), (.val (.int .i64 1)), (.val (.int .u8 1)), (.val (.int .i64 2)), (.val (.int .i64 12))]), (.agg [(.val (.int .u8 2)), (.val (.int .i64 2)), (.val (.int .u8 1)), (.val (.int .i64 4)), (.val (.int .i64 20))])]), (.val (.int .i64 0))]))]
theorem natList_ok : ∀ (args : List AV) (r : AV), natList args = some r → PureA Try.prog 8 args r := natTab_ok fun p hp => by
  simp only [List.mem_cons, List.not_mem_nil, or_false] at hp
  rcases hp with rfl | rfl
  · exact run_ok mix tb4s_ok 100000 (by kernel_rfl) cr0
  · exact run_ok mix tb4s_ok 100000 (by kernel_rfl) cr1
def natStep : List AV → Option AV := natTab [([exBeds, .val (.int .i64 0), .val (.int .u8 1)], (.tup [(.list 5 true [(.agg [(.val (.int .u8 2)), (.val (.int .i64 1)), (.val (.int .u8 1)), (.val (.int .i64 0)), (.val (.int .i64 (-1)))]), (.agg [(.val (.int .u8 2)), (.val (.int .i64 1)), (.val (.int .u8 1)), (.val (.int .i64 1)), (.val (.int .i64 (-1)))]), (.agg [(.val (.int .u8 2)), (.val (.int .i64 0)), (.val (.int .u8 1)), (.val (.int .i64 0)), (.val (.int .i64 (-1)))]), (.agg [(.val (.int .u8 2)), (.val (.int .i64 0)), (.val (.int .u8 1)), (.val (.int .i64 1)), (.val (.int .i64 (-1)))])]), (.val (.int .i64 0))])), ([exBeds, .val (.int .i64 1), .val (.int .u8 0)], (.tup [(.list 5 true [(.agg [(.val (.int .u8 1)), (.val (.int .i64 1)), (.val (.int .u8 2)), (.val (.int .i64 0)), (.val (.int .i64 1))]), (.agg [(.val (.int .u8 1)), (.val (.int .i64 0)), (.val (.int .u8 2)), (.val (.int .i64 0)), (.val (.int .i64 1))]), (.agg [(.val (.int .u8 1)), (.val (.int .i64 1)), (.val (.int .u8 2)), (.val (.int .i64 1)), (.val (.int .i64 1))]), (.agg [(.val (.int .u8 1)), (.val (.int .i64 0)), (.val (.int .u8 2)), (.val (.int .i64 1)), (.val (.int .i64 1))])]), (.val (.int .i64 0))])), ([exBeds, .val (.int .i64 4), .val (.int .u8 1)], (.tup [(.val (.slice none 0 0)), (.val (.int .i64 11))]))]
theorem natStep_ok : ∀ (args : List AV) (r : AV), natStep args = some r → PureA Try.prog 11 args r := natTab_ok fun p hp => by
  simp only [List.mem_cons, List.not_mem_nil, or_false] at hp
  rcases hp with rfl | rfl | rfl
  · exact run_ok mix tb4s_ok 100000 (by kernel_rfl) cr2
  · exact run_ok mix tb4s_ok 100000 (by kernel_rfl) cr3
  · exact run_ok mix tb4s_ok 100000 (by kernel_rfl) cr4
def natMeets : List AV → Option AV := natTab [([exBeds, .val (.int .i64 0), .val (.int .u8 1), .val (.int .i64 9)], (.tup [(.list 4 true [(.agg [(.val (.int .u8 2)), (.val (.int .i64 1)), (.val (.bool true)), (.val (.int .u8 0))]), (.agg [(.val (.int .u8 2)), (.val (.int .i64 0)), (.val (.bool true)), (.val (.int .u8 0))])]), (.val (.int .i64 0))])), ([exBeds, .val (.int .i64 0), .val (.int .u8 1), .val (.int .i64 11)], (.tup [(.list 4 true [(.agg [(.val (.int .u8 2)), (.val (.int .i64 1)), (.val (.bool true)), (.val (.int .u8 0))]), (.agg [(.val (.int .u8 2)), (.val (.int .i64 0)), (.val (.bool true)), (.val (.int .u8 0))])]), (.val (.int .i64 0))])), ([exBeds, .val (.int .i64 0), .val (.int .u8 1), .val (.int .i64 13)], (.tup [(.val (.slice none 0 0)), (.val (.int .i64 0))]))]
theorem natMeets_ok : ∀ (args : List AV) (r : AV), natMeets args = some r → PureA Try.prog 12 args r := natTab_ok fun p hp => by
  simp only [List.mem_cons, List.not_mem_nil, or_false] at hp
  rcases hp with rfl | rfl | rfl
  · exact run_ok mix tb4s_ok 100000 (by kernel_rfl) cr5
  · exact run_ok mix tb4s_ok 100000 (by kernel_rfl) cr6
  · exact run_ok mix tb4s_ok 100000 (by kernel_rfl) cr7
def tb4 : List (FuncId × Fe) := [(9, .code c9 [.tmp 0] 0),
  (20, .code c20 [.cell true 2 0] 0),
  (8, .nat natList),
  (11, .nat natStep),
  (22, .code c22 [.tmp 2] 1),
  (21, .code c21 [.tmp 2] 1),
  (13, .code c13 [.tmp 6] 3),
  (14, .code c14 [.tmp 2] 1),
  (12, .nat natMeets),
  (32, .code c32 [] 1),
  (31, .code c31 [.tmp 2] 1)]
theorem tb4_ok : TabOK' Try.prog (lookT tb4) := lookT_ok fun p hp => by
  simp only [tb4, List.mem_cons, List.not_mem_nil, or_false] at hp
  rcases hp with rfl | rfl | rfl | rfl | rfl | rfl | rfl | rfl | rfl | rfl | rfl
  · exact ⟨k9, by kernel_rfl⟩
  · exact ⟨k20, by kernel_rfl⟩
  · exact natList_ok
  · exact natStep_ok
  · exact ⟨k22, by kernel_rfl⟩
  · exact ⟨k21, by kernel_rfl⟩
  · exact ⟨k13, by kernel_rfl⟩
  · exact ⟨k14, by kernel_rfl⟩
  · exact natMeets_ok
  · exact ⟨k32, by kernel_rfl⟩
  · exact ⟨k31, by kernel_rfl⟩

theorem lives4_run : pureWith (lookT tb4) (cmdR (lookT tb4) 100000) 9 [] ⟨.em, 0⟩ = some (.val (.bool true)) := by kernel_rfl
theorem lives4_ok : PureA Try.prog 9 [] (.val (.bool true)) := run_ok mix tb4_ok 100000 rfl lives4_run
end Go.Proofs.Ytembkknplmcamaa

namespace Go.Proofs.Ytembkknplmcamaa
open Go.Ab
attribute [local irreducible] WeakR WeakE CallA YieldA

/-- Two cells that stand for themselves. -/
structure Two (f b : AV) (es fs : List AV) (F B : List (List Id)) : Prop where
  f : IsB f es F
  b : IsB b fs B

def env5 (k q : Nat) (rack : Int) (i : Nat) : Env := ((Env.upd (fun _ => .junk) k (.val (.int .i64 i))).upd 2 (.optr q 2 0 0)).upd 1 (.val (.int .i64 rack))

end Go.Proofs.Ytembkknplmcamaa

namespace Go.Proofs.Ytembkknplmcamaa
open Go.Ab
attribute [local irreducible] WeakR WeakE CallA YieldA

/-! Clone into an array of one's own, Reverse of it, and inOrder. -/
def OwR (O0 O' : Heap) (s : AV) (L : List AV) : Prop :=
  (L = [] ∧ s = .list 2 true [] ∧ O' = O0) ∨ (L ≠ [] ∧ ∃ id, O0 id = none ∧ s = .own id 2 0 L.length none ∧ O' = O0.upd id (.arr 35 2 L))

theorem CloneW_ok (t : Bool) (L : List AV) (hl : L.length ≤ 1048576) (O : Heap) (K : AV → Heap → Prop) (hk : ∀ s' O', OwR O O' s' L → K s' O') : CallA Try.prog 45 [.list 2 t L] O K := by
  refine k45w.call mix ?_
  unfold c45w
  (repeat' first
    | simp (contextual := true) (maxSteps := 4000000) only [fwc, fwe, fww, reduceIte, ↓reduceIte, Nat.reduceAdd, Nat.reduceLeDiff, Nat.reduceEqDiff, Nat.reduceLT, Nat.reduceSub, reduceCtorEq, Int.reduceEq, Int.reduceLT, Int.reduceLE, Int.reduceNeg, Int.reduceToNat, Int.reduceAdd, Int.reduceSub, Nat.reduceMul, *]
    | (refine seqK_now ?_)
    | (refine retK_now ?_)
    | (refine retK_now' ?_)
    | (intro q hq)
    | (refine cond_intro (fun hc => ?_) (fun hc => ?_)))
  refine app_list_own (L := []) rfl (fits_of (by simp <;> omega) (by simp <;> omega)) (fun h0 => ?_) fun hne id hid => ?_
  · (repeat' first
    | simp (contextual := true) (maxSteps := 4000000) only [fwc, fwe, fww, reduceIte, ↓reduceIte, Nat.reduceAdd, Nat.reduceLeDiff, Nat.reduceEqDiff, Nat.reduceLT, Nat.reduceSub, reduceCtorEq, Int.reduceEq, Int.reduceLT, Int.reduceLE, Int.reduceNeg, Int.reduceToNat, Int.reduceAdd, Int.reduceSub, Nat.reduceMul, *]
    | (refine seqK_now ?_)
    | (refine retK_now ?_)
    | (refine retK_now' ?_)
    | (intro q hq)
    | (refine cond_intro (fun hc => ?_) (fun hc => ?_)))
    refine WeakR.now (hk _ _ (.inl ⟨h0, rfl, rfl⟩))
  · have hz : ([] : List AV).length + L.length = L.length := Nat.zero_add _
    have hn : ([] : List AV) ++ L = L := rfl
    rw [hz, hn]
    have hne := (show Aside _ from hne)
    (repeat' first
    | simp (contextual := true) (maxSteps := 4000000) only [fwc, fwe, fww, reduceIte, ↓reduceIte, Nat.reduceAdd, Nat.reduceLeDiff, Nat.reduceEqDiff, Nat.reduceLT, Nat.reduceSub, reduceCtorEq, Int.reduceEq, Int.reduceLT, Int.reduceLE, Int.reduceNeg, Int.reduceToNat, Int.reduceAdd, Int.reduceSub, Nat.reduceMul, *]
    | (refine seqK_now ?_)
    | (refine retK_now ?_)
    | (refine retK_now' ?_)
    | (intro q hq)
    | (refine cond_intro (fun hc => ?_) (fun hc => ?_)))
    refine WeakR.now (hk _ _ (.inr ⟨hne.out, id, hid, rfl, rfl⟩))

def rv (L : List Id) (k : Nat) : List Id := (List.range L.length).map fun j => if j < k ∨ L.length ≤ j + k then L.getD (L.length - 1 - j) ⟨0, 0⟩ else L.getD j ⟨0, 0⟩
theorem rv_len (L : List Id) (k : Nat) : (rv L k).length = L.length := by simp [rv]
theorem rv_at (L : List Id) (k i : Nat) (h : i < (rv L k).length) : (rv L k)[i] = if i < k ∨ L.length ≤ i + k then L.getD (L.length - 1 - i) ⟨0, 0⟩ else L.getD i ⟨0, 0⟩ := by
  simp only [rv, List.getElem_map, List.getElem_range]
theorem rv_zero (L : List Id) : rv L 0 = L := by
  refine List.ext_getElem (rv_len _ _) fun i h1 h2 => ?_
  rw [rv_at, if_neg (by omega), List.getD_eq_getElem?_getD, List.getElem?_eq_getElem h2]
  rfl
theorem rv_end (L : List Id) (k : Nat) (h : ¬ k < L.length - 1 - k) : rv L k = L.reverse := by
  refine List.ext_getElem (by simp [rv_len]) fun i h1 h2 => ?_
  rw [rv_len] at h1
  rw [rv_at, List.getElem_reverse]
  by_cases hc : i < k ∨ L.length ≤ i + k
  · rw [if_pos hc, List.getD_eq_getElem?_getD, List.getElem?_eq_getElem (by omega)]
    rfl
  · rw [if_neg hc, List.getD_eq_getElem?_getD, List.getElem?_eq_getElem h1]
    simp only [Option.getD_some]
    congr 1
    omega
theorem rv_step (L : List Id) (k : Nat) (h : k < L.length - 1 - k) (h1 : k < L.length) (h2 : L.length - 1 - k < L.length) : (((rv L k).map Id.av).set k (L[L.length - 1 - k]).av).set (L.length - 1 - k) (L[k]).av = (rv L (k + 1)).map Id.av := by
  refine List.ext_getElem (by simp [rv_len]) fun i g1 g2 => ?_
  have hi : i < L.length := by simpa [rv_len] using g2
  rw [List.getElem_set, List.getElem_set, List.getElem_map, List.getElem_map, rv_at, rv_at]
  by_cases c1 : L.length - 1 - k = i
  · rw [if_pos c1, if_pos (by omega), List.getD_eq_getElem?_getD, List.getElem?_eq_getElem (by omega)]
    simp only [Option.getD_some]
    congr 2
    omega
  · rw [if_neg c1]
    by_cases c2 : k = i
    · rw [if_pos c2, if_pos (by omega), List.getD_eq_getElem?_getD, List.getElem?_eq_getElem (by omega)]
      simp only [Option.getD_some]
      congr 2
      omega
    · rw [if_neg c2]
      congr 1
      by_cases c3 : i < k ∨ L.length ≤ i + k
      · rw [if_pos c3, if_pos (by omega)]
      · rw [if_neg c3, if_neg (by omega)]
theorem rv_get (L : List Id) (k j : Nat) (h : j < L.length) (h1 : ¬ (j < k ∨ L.length ≤ j + k)) (h2 : j < ((rv L k).map Id.av).length) : ((rv L k).map Id.av)[j] = (L[j]).av := by
  rw [List.getElem_map, rv_at, if_neg h1, List.getD_eq_getElem?_getD, List.getElem?_eq_getElem h]
  rfl
def env47 (s : AV) (k m : Nat) : Env := ((Env.upd (fun _ => .junk) 3 (.val (.int .i64 m))).upd 2 (.val (.int .i64 k))).upd 0 s

theorem Reverse_ok (s : AV) (L : List Id) (O O1 : Heap) (h : OwR O O1 s (L.map Id.av)) (hl : L.length ≤ 1048576) (K : AV → Heap → Prop) (hk : ∀ r O2, OwR O O2 s (L.reverse.map Id.av) → K r O2) : CallA Try.prog 47 [s] O1 K := by
  refine k47.call mix ?_
  unfold c47
  rcases h with ⟨hL, rfl, rfl⟩ | ⟨hL, id, hid, rfl, rfl⟩
  · have hL' : L = [] := List.map_eq_nil_iff.1 hL
    subst hL'
    obtain ⟨I, hI⟩ := hideI (fun m e O' => m = 0 ∧ O' = O1 ∧ e = ((Env.upd (fun _ => .junk) 3 (.val (.int .i64 (-1)))).upd 2 (.val (.int .i64 0))).upd 0 (.list 2 true []))
    have w0 : IntKind.i64.wrap (0 - 1) = -1 := by decide
    have w1 : IntKind.i64.wrap (-1) = -1 := by decide
    have d0 : decide ((0 : Int) < -1) = false := by decide
    (repeat' first
    | simp (contextual := true) (maxSteps := 4000000) only [fwc, fwe, fww, reduceIte, ↓reduceIte, Nat.reduceAdd, Nat.reduceLeDiff, Nat.reduceEqDiff, Nat.reduceLT, Nat.reduceSub, reduceCtorEq, Int.reduceEq, Int.reduceLT, Int.reduceLE, Int.reduceNeg, Int.reduceToNat, Int.reduceAdd, Int.reduceSub, Nat.reduceMul, *]
    | (refine seqK_now ?_)
    | (refine retK_now ?_)
    | (refine retK_now' ?_)
    | (intro q hq)
    | (refine cond_intro (fun hc => ?_) (fun hc => ?_)))
    refine cmd_loop I 0 (by rw [hI.out]; exact ⟨rfl, rfl, rfl⟩) ?_
    intro m e O' hh
    rw [hI.out] at hh
    obtain ⟨rfl, hOH, rfl⟩ := hh
    rw [hOH]
    clear hOH O'
    (repeat' first
    | simp (contextual := true) (maxSteps := 4000000) only [fwc, fwe, fww, reduceIte, ↓reduceIte, Nat.reduceAdd, Nat.reduceLeDiff, Nat.reduceEqDiff, Nat.reduceLT, Nat.reduceSub, reduceCtorEq, Int.reduceEq, Int.reduceLT, Int.reduceLE, Int.reduceNeg, Int.reduceToNat, Int.reduceAdd, Int.reduceSub, Nat.reduceMul, *]
    | (refine seqK_now ?_)
    | (refine retK_now ?_)
    | (refine retK_now' ?_)
    | (intro q hq)
    | (refine cond_intro (fun hc => ?_) (fun hc => ?_)))
    exact WeakR.now (hk _ _ (.inl ⟨rfl, rfl, rfl⟩))
  · have hn : 0 < L.length := List.length_pos_iff.2 fun e => hL (by rw [e]; rfl)
    rw [List.length_map]
    have hw1 : IntKind.i64.wrap ((L.length : Int) - 1) = ((L.length - 1 - 0 : Nat) : Int) := by rw [wrap_i64 (by omega) (by omega)]; omega
    obtain ⟨I, hI⟩ := hideI (fun m e O' => ∃ k : Nat, 2 * k ≤ L.length ∧ m = L.length - k ∧ O' = O.upd id (.arr 35 2 ((rv L k).map Id.av)) ∧ e = env47 (.own id 2 0 L.length none) k (L.length - 1 - k))
    replace hL := (show Aside _ from hL)
    (repeat' first
    | simp (contextual := true) (maxSteps := 4000000) only [fwc, fwe, fww, reduceIte, ↓reduceIte, Nat.reduceAdd, Nat.reduceLeDiff, Nat.reduceEqDiff, Nat.reduceLT, Nat.reduceSub, reduceCtorEq, Int.reduceEq, Int.reduceLT, Int.reduceLE, Int.reduceNeg, Int.reduceToNat, Int.reduceAdd, Int.reduceSub, Nat.reduceMul, *]
    | (refine seqK_now ?_)
    | (refine retK_now ?_)
    | (refine retK_now' ?_)
    | (intro q hq)
    | (refine cond_intro (fun hc => ?_) (fun hc => ?_)))
    refine cmd_loop I L.length (by
      rw [hI.out]
      exact ⟨0, by omega, by omega, by rw [rv_zero], rfl⟩) ?_
    intro m e O' hh
    rw [hI.out] at hh
    obtain ⟨k, hk2, rfl, hOH, rfl⟩ := hh
    rw [hOH]
    clear hOH O'
    unfold env47
    by_cases hc : k < L.length - 1 - k
    · have e0 : decide (k < L.length - 1 - k) = true := decide_eq_true hc
      have h1 : k < L.length := by omega
      have h2 : L.length - 1 - k < L.length := by omega
      have a1 : indexAddrA 2 (k : Int) (.own id 2 0 L.length none) = some (.optr id 2 k 0) := by rw [ia_onat h1, Nat.zero_add]
      have a2 : indexAddrA 2 ((L.length - 1 - k : Nat) : Int) (.own id 2 0 L.length none) = some (.optr id 2 (L.length - 1 - k) 0) := by rw [ia_onat h2, Nat.zero_add]
      have len : ((rv L k).map Id.av).length = L.length := by rw [List.length_map, rv_len]
      have g1 : ((rv L k).map Id.av)[k]? = some (L[k]).av := by rw [List.getElem?_eq_getElem (by omega), rv_get L k k h1 (by omega)]
      have g2 : ((rv L k).map Id.av)[L.length - 1 - k]? = some (L[L.length - 1 - k]).av := by rw [List.getElem?_eq_getElem (by omega), rv_get L k _ h2 (by omega)]
      have hst := rv_step L k hc h1 h2
      have w2 : IntKind.i64.wrap (((L.length - 1 - k : Nat) : Int) - 1) = ((L.length - 1 - (k + 1) : Nat) : Int) := by rw [wrap_i64 (by omega) (by omega)]; omega
      have hwk : k < 4611686018427387904 := by omega
      generalize L[L.length - 1 - k] = y at *
      generalize L[k] = x at *
      rw [show x.av = .agg [.val (.int .u8 x.y), .val (.int .i64 x.n)] from rfl] at g1 hst
      rw [show y.av = .agg [.val (.int .u8 y.y), .val (.int .i64 y.n)] from rfl] at g2 hst
      generalize (rv L k).map Id.av = E at *
      have s1 : E.take k ++ [AV.agg [.val (.int .u8 y.y), .val (.int .i64 y.n)]] ++ E.drop (k + 1) = E.set k (.agg [.val (.int .u8 y.y), .val (.int .i64 y.n)]) := by rw [List.set_eq_take_append_cons_drop, if_pos (by omega)]; simp
      have hsub : L.length - 1 - (k + 1) = L.length - 1 - k - 1 := by omega
      rw [hsub] at w2
      generalize hm : L.length - 1 - k = m at *
      replace hsub := (show Aside _ from hsub)
      replace hm := (show Aside _ from hm)
      replace hc := (show Aside _ from hc)
      have lk : k + 1 ≤ E.length := by omega
      have lm : m + 1 ≤ E.length := by omega
      have g3 : (E.set k (AV.agg [.val (.int .u8 y.y), .val (.int .i64 y.n)]))[m]? = some (.agg [.val (.int .u8 y.y), .val (.int .i64 y.n)]) := by rw [List.getElem?_set, if_neg (by have := hc.out; omega)]; exact g2
      replace h1 := (show Aside _ from h1)
      replace h2 := (show Aside _ from h2)
      refine seq_go ?_
      refine seq_go ?_
      (repeat' first
    | simp (contextual := true) (maxSteps := 4000000) only [fwc, fwe, fww, reduceIte, ↓reduceIte, Nat.reduceAdd, Nat.reduceLeDiff, Nat.reduceEqDiff, Nat.reduceLT, Nat.reduceSub, reduceCtorEq, Int.reduceEq, Int.reduceLT, Int.reduceLE, Int.reduceNeg, Int.reduceToNat, Int.reduceAdd, Int.reduceSub, Nat.reduceMul, ilt_nat, part_cell, part_agg, *]
    | (refine retK_now ?_)
    | (refine retK_now' ?_)
    | (intro q hq)
    | (refine cond_intro (fun hc => ?_) (fun hc => ?_)))
      refine seqK_now ?_
      (repeat' first
    | simp (contextual := true) (maxSteps := 4000000) only [fwc, fwe, fww, reduceIte, ↓reduceIte, Nat.reduceAdd, Nat.reduceLeDiff, Nat.reduceEqDiff, Nat.reduceLT, Nat.reduceSub, reduceCtorEq, Int.reduceEq, Int.reduceLT, Int.reduceLE, Int.reduceNeg, Int.reduceToNat, Int.reduceAdd, Int.reduceSub, Nat.reduceMul, ilt_nat, part_cell, part_agg, *]
    | (refine retK_now ?_)
    | (refine retK_now' ?_)
    | (intro q hq)
    | (refine cond_intro (fun hc => ?_) (fun hc => ?_)))
      refine seqK_now ?_
      refine seq_go ?_
      (repeat' first
    | simp (contextual := true) (maxSteps := 4000000) only [fwc, fwe, fww, reduceIte, ↓reduceIte, Nat.reduceAdd, Nat.reduceLeDiff, Nat.reduceEqDiff, Nat.reduceLT, Nat.reduceSub, reduceCtorEq, Int.reduceEq, Int.reduceLT, Int.reduceLE, Int.reduceNeg, Int.reduceToNat, Int.reduceAdd, Int.reduceSub, Nat.reduceMul, ilt_nat, part_cell, part_agg, *]
    | (refine retK_now ?_)
    | (refine retK_now' ?_)
    | (intro q hq)
    | (refine cond_intro (fun hc => ?_) (fun hc => ?_)))
      refine seqK_now ?_
      (repeat' first
    | simp (contextual := true) (maxSteps := 4000000) only [fwc, fwe, fww, reduceIte, ↓reduceIte, Nat.reduceAdd, Nat.reduceLeDiff, Nat.reduceEqDiff, Nat.reduceLT, Nat.reduceSub, reduceCtorEq, Int.reduceEq, Int.reduceLT, Int.reduceLE, Int.reduceNeg, Int.reduceToNat, Int.reduceAdd, Int.reduceSub, Nat.reduceMul, ilt_nat, part_cell, part_agg, wrap_succ, *]
    | (refine seqK_now ?_)
    | (refine retK_now ?_)
    | (refine retK_now' ?_)
    | (intro q hq)
    | (refine cond_intro (fun hc => ?_) (fun hc => ?_)))
      refine loopK_now (L.length - (k + 1)) (by have := h1.out; omega) ?_
      rw [hI.out]
      refine ⟨k + 1, by have := hc.out; have := hm.out; omega, rfl, rfl, ?_⟩
      rw [hsub.out]
      rfl
    · have e0 : decide (k < L.length - 1 - k) = false := decide_eq_false hc
      have hre := rv_end L k hc
      rw [hre]
      replace hc := (show Aside _ from hc)
      (repeat' first
    | simp (contextual := true) (maxSteps := 4000000) only [fwc, fwe, fww, reduceIte, ↓reduceIte, Nat.reduceAdd, Nat.reduceLeDiff, Nat.reduceEqDiff, Nat.reduceLT, Nat.reduceSub, reduceCtorEq, Int.reduceEq, Int.reduceLT, Int.reduceLE, Int.reduceNeg, Int.reduceToNat, Int.reduceAdd, Int.reduceSub, Nat.reduceMul, ilt_nat, part_cell, part_agg, *]
    | (refine seqK_now ?_)
    | (refine retK_now ?_)
    | (refine retK_now' ?_)
    | (intro q hq)
    | (refine cond_intro (fun hc => ?_) (fun hc => ?_)))
      refine WeakR.now (hk _ _ (.inr ⟨fun e => hL.out (by rw [List.map_eq_nil_iff] at e ⊢; simpa using e), id, hid, ?_, rfl⟩))
      simp

theorem ReverseE_ok (s : AV) (h : lenA s = some (.val (.int .i64 0))) (hc : s.cells = [s]) (hst : s.stor = true) : PureA Try.prog 47 [s] (.tup []) := by
  intro O
  refine k47.call mix ?_
  unfold c47
  obtain ⟨I, hI⟩ := hideI (fun m e O' => m = 0 ∧ O' = O ∧ e = ((Env.upd (fun _ => .junk) 3 (.val (.int .i64 (-1)))).upd 2 (.val (.int .i64 0))).upd 0 s)
  have w0 : IntKind.i64.wrap (0 - 1) = -1 := by decide
  have w1 : IntKind.i64.wrap (-1) = -1 := by decide
  have d0 : decide ((0 : Int) < -1) = false := by decide
  (repeat' first
    | simp (contextual := true) (maxSteps := 4000000) only [fwc, fwe, fww, reduceIte, ↓reduceIte, Nat.reduceAdd, Nat.reduceLeDiff, Nat.reduceEqDiff, Nat.reduceLT, Nat.reduceSub, reduceCtorEq, Int.reduceEq, Int.reduceLT, Int.reduceLE, Int.reduceNeg, Int.reduceToNat, Int.reduceAdd, Int.reduceSub, Nat.reduceMul, *]
    | (refine seqK_now ?_)
    | (refine retK_now ?_)
    | (refine retK_now' ?_)
    | (intro q hq)
    | (refine cond_intro (fun hc => ?_) (fun hc => ?_)))
  refine cmd_loop I 0 (by rw [hI.out]; exact ⟨rfl, rfl, rfl⟩) ?_
  intro m e O' hh
  rw [hI.out] at hh
  obtain ⟨rfl, hOH, rfl⟩ := hh
  rw [hOH]
  clear hOH O'
  (repeat' first
    | simp (contextual := true) (maxSteps := 4000000) only [fwc, fwe, fww, reduceIte, ↓reduceIte, Nat.reduceAdd, Nat.reduceLeDiff, Nat.reduceEqDiff, Nat.reduceLT, Nat.reduceSub, reduceCtorEq, Int.reduceEq, Int.reduceLT, Int.reduceLE, Int.reduceNeg, Int.reduceToNat, Int.reduceAdd, Int.reduceSub, Nat.reduceMul, *]
    | (refine seqK_now ?_)
    | (refine retK_now ?_)
    | (refine retK_now' ?_)
    | (intro q hq)
    | (refine cond_intro (fun hc => ?_) (fun hc => ?_)))
  refine WeakR.pure (Heap.sub_refl _) ?_
  rfl

def endA (L : List AV) : AV := if L = [] then .list 2 true [] else .list 2 false L
theorem endA_L (L : List AV) : IsL 2 (endA L) L := by
  unfold endA
  by_cases h : L = []
  · rw [if_pos h, h]; exact .inr ⟨true, rfl⟩
  · rw [if_neg h]; exact .inr ⟨false, rfl⟩
theorem OwR.pure {O0 O' : Heap} {s R : AV} {L : List AV} (h : OwR O0 O' s L) (hr : endA L = R) : WeakR (fun r' O' => r' = R ∧ O' = O0) s O' := by
  rcases h with ⟨rfl, rfl, rfl⟩ | ⟨hne, id, h0, rfl, rfl⟩
  · exact WeakR.pure (Heap.sub_refl _) hr
  · have hz := Fz.own (id := id) (sz := 2) (elems := L) 0 L.length none false (by omega) (fun h => by cases h)
    rw [List.drop_zero, List.take_length] at hz
    refine WeakR.pureF id 2 35 L (Heap.upd_same _ _ _) hz (by rw [del_upd_new h0]; exact Heap.sub_refl _) ?_
    rw [← hr, endA, if_neg hne]
theorem OwR.cells {O0 O' : Heap} {s : AV} {L : List AV} (h : OwR O0 O' s L) : s.cells = [s] ∧ s.stor = true := by
  rcases h with ⟨rfl, rfl, rfl⟩ | ⟨hne, id, h0, rfl, rfl⟩ <;> exact ⟨rfl, rfl⟩

def ordL (d : Int) (L : List Id) : List Id := if d = 0 then L.reverse else L
theorem inOrder_ok (s : AV) (L : List Id) (hs : IsL 2 s (L.map Id.av)) (hl : L.length ≤ 1048576) (d : Int) :
    ∃ r, PureA Try.prog 29 [s, .val (.int .u8 d)] r ∧ IsL 2 r ((ordL d L).map Id.av) := by
  rcases hs with ⟨rfl, h0⟩ | ⟨t, rfl⟩
  · have hL : L = [] := List.map_eq_nil_iff.1 h0
    subst hL
    refine ⟨.val (.slice none 0 0), ?_, .inl ⟨rfl, by unfold ordL; split <;> rfl⟩⟩
    intro O
    refine k29.call mix ?_
    unfold c29
    (repeat' first
    | simp (contextual := true) (maxSteps := 4000000) only [fwc, fwe, fww, reduceIte, ↓reduceIte, Nat.reduceAdd, Nat.reduceLeDiff, Nat.reduceEqDiff, Nat.reduceLT, Nat.reduceSub, reduceCtorEq, Int.reduceEq, Int.reduceLT, Int.reduceLE, Int.reduceNeg, Int.reduceToNat, Int.reduceAdd, Int.reduceSub, Nat.reduceMul, *]
    | (refine seqK_now ?_)
    | (refine retK_now ?_)
    | (refine retK_now' ?_)
    | (intro q hq)
    | (refine cond_intro (fun hc => ?_) (fun hc => ?_)))
    refine Clone_nil.use ?_
    (repeat' first
    | simp (contextual := true) (maxSteps := 4000000) only [fwc, fwe, fww, reduceIte, ↓reduceIte, Nat.reduceAdd, Nat.reduceLeDiff, Nat.reduceEqDiff, Nat.reduceLT, Nat.reduceSub, reduceCtorEq, Int.reduceEq, Int.reduceLT, Int.reduceLE, Int.reduceNeg, Int.reduceToNat, Int.reduceAdd, Int.reduceSub, Nat.reduceMul, *]
    | (refine seqK_now ?_)
    | (refine retK_now ?_)
    | (refine retK_now' ?_)
    | (intro q hq)
    | (refine cond_intro (fun hc => ?_) (fun hc => ?_)))
    · refine (ReverseE_ok _ rfl rfl rfl).use ?_
      (repeat' first
    | simp (contextual := true) (maxSteps := 4000000) only [fwc, fwe, fww, reduceIte, ↓reduceIte, Nat.reduceAdd, Nat.reduceLeDiff, Nat.reduceEqDiff, Nat.reduceLT, Nat.reduceSub, reduceCtorEq, Int.reduceEq, Int.reduceLT, Int.reduceLE, Int.reduceNeg, Int.reduceToNat, Int.reduceAdd, Int.reduceSub, Nat.reduceMul, *]
    | (refine seqK_now ?_)
    | (refine retK_now ?_)
    | (refine retK_now' ?_)
    | (intro q hq)
    | (refine cond_intro (fun hc => ?_) (fun hc => ?_)))
      refine WeakR.pure (Heap.sub_refl _) ?_
      rfl
    · refine WeakR.pure (Heap.sub_refl _) ?_
      rfl
  · refine ⟨endA ((ordL d L).map Id.av), ?_, endA_L _⟩
    intro O
    refine k29.call mix ?_
    unfold c29
    (repeat' first
    | simp (contextual := true) (maxSteps := 4000000) only [fwc, fwe, fww, reduceIte, ↓reduceIte, Nat.reduceAdd, Nat.reduceLeDiff, Nat.reduceEqDiff, Nat.reduceLT, Nat.reduceSub, reduceCtorEq, Int.reduceEq, Int.reduceLT, Int.reduceLE, Int.reduceNeg, Int.reduceToNat, Int.reduceAdd, Int.reduceSub, Nat.reduceMul, *]
    | (refine seqK_now ?_)
    | (refine retK_now ?_)
    | (refine retK_now' ?_)
    | (intro q hq)
    | (refine cond_intro (fun hc => ?_) (fun hc => ?_)))
    refine CloneW_ok t _ (by rw [List.length_map]; exact hl) O _ fun v O1 hv => ?_
    obtain ⟨v1, v2⟩ := hv.cells
    replace hv := (show Aside _ from hv)
    by_cases hd : d = 0
    · have e0 : decide (d = 0) = true := decide_eq_true hd
      have ho : ordL d L = L.reverse := if_pos hd
      rw [ho]
      replace hd := (show Aside _ from hd)
      replace ho := (show Aside _ from ho)
      (repeat' first
    | simp (contextual := true) (maxSteps := 4000000) only [fwc, fwe, fww, reduceIte, ↓reduceIte, Nat.reduceAdd, Nat.reduceLeDiff, Nat.reduceEqDiff, Nat.reduceLT, Nat.reduceSub, reduceCtorEq, Int.reduceEq, Int.reduceLT, Int.reduceLE, Int.reduceNeg, Int.reduceToNat, Int.reduceAdd, Int.reduceSub, Nat.reduceMul, *]
    | (refine seqK_now ?_)
    | (refine retK_now ?_)
    | (refine retK_now' ?_)
    | (intro q hq)
    | (refine cond_intro (fun hc => ?_) (fun hc => ?_)))
      refine Reverse_ok v L O O1 hv.out hl _ fun r O2 h2 => ?_
      replace h2 := (show Aside _ from h2)
      (repeat' first
    | simp (contextual := true) (maxSteps := 4000000) only [fwc, fwe, fww, reduceIte, ↓reduceIte, Nat.reduceAdd, Nat.reduceLeDiff, Nat.reduceEqDiff, Nat.reduceLT, Nat.reduceSub, reduceCtorEq, Int.reduceEq, Int.reduceLT, Int.reduceLE, Int.reduceNeg, Int.reduceToNat, Int.reduceAdd, Int.reduceSub, Nat.reduceMul, *]
    | (refine seqK_now ?_)
    | (refine retK_now ?_)
    | (refine retK_now' ?_)
    | (intro q hq)
    | (refine cond_intro (fun hc => ?_) (fun hc => ?_)))
      exact OwR.pure h2.out rfl
    · have e0 : decide (d = 0) = false := decide_eq_false hd
      have ho : ordL d L = L := if_neg hd
      rw [ho]
      replace hd := (show Aside _ from hd)
      replace ho := (show Aside _ from ho)
      (repeat' first
    | simp (contextual := true) (maxSteps := 4000000) only [fwc, fwe, fww, reduceIte, ↓reduceIte, Nat.reduceAdd, Nat.reduceLeDiff, Nat.reduceEqDiff, Nat.reduceLT, Nat.reduceSub, reduceCtorEq, Int.reduceEq, Int.reduceLT, Int.reduceLE, Int.reduceNeg, Int.reduceToNat, Int.reduceAdd, Int.reduceSub, Nat.reduceMul, *]
    | (refine seqK_now ?_)
    | (refine retK_now ?_)
    | (refine retK_now' ?_)
    | (intro q hq)
    | (refine cond_intro (fun hc => ?_) (fun hc => ?_)))
      exact OwR.pure hv.out rfl
end Go.Proofs.Ytembkknplmcamaa

namespace Go.Proofs.Ytembkknplmcamaa
open Go.Ab
attribute [local irreducible] WeakR WeakE CallA YieldA

theorem oracked_ok (r : Int) : PureA Try.prog 36 [.val (.int .i64 r)] (.val (.bool (rackOK r))) := by
  intro O
  refine k36.call mix ?_
  unfold c36
  (repeat' first
    | simp (contextual := true) (maxSteps := 4000000) only [fwc, fwe, fww, reduceIte, ↓reduceIte, Nat.reduceAdd, Nat.reduceLeDiff, Nat.reduceEqDiff, Nat.reduceLT, Nat.reduceSub, reduceCtorEq, Int.reduceEq, Int.reduceLT, Int.reduceLE, Int.reduceNeg, Int.reduceToNat, Int.reduceAdd, Int.reduceSub, Nat.reduceMul, *]
    | (refine seqK_now ?_)
    | (refine retK_now ?_)
    | (refine retK_now' ?_)
    | (intro q hq)
    | (refine cond_intro (fun hc => ?_) (fun hc => ?_)))
  refine WeakR.pure (by repeat (first | exact Heap.sub_refl _ | refine sub_upd (by simp only [*]) ?_)) ?_
  unfold rackOK
  simp
theorem ci_idx2 {e : Env} {O : Heap} {K : AV → Heap → Prop} (x i : Operand) (a b v : AV) (n : Int) (hx : e.opd x = .agg [a, b]) (hi : intOfA (e.opd i) = some n) (hv : (n = 0 ∧ a = v) ∨ (n = 1 ∧ b = v)) (hk : K v O) : CiSem Try.prog (.index 2 1 false x i) e O K := by
  refine ⟨v, ?_, hk⟩
  show (intOfA (e.opd i)).bind _ = _
  rw [hi, hx]
  rcases hv with ⟨rfl, rfl⟩ | ⟨rfl, rfl⟩ <;> rfl
def shL (d : Int) : Int := if d = 1 then 1 else -1
theorem shift_ok (d : Int) (h : d = 0 ∨ d = 1) : PureA Try.prog 28 [.val (.int .u8 d)] (.val (.int .i64 (shL d))) := by
  intro O
  refine k28.call mix ?_
  unfold c28
  rcases h with rfl | rfl
  · (repeat' first
    | simp (contextual := true) (maxSteps := 4000000) only [fwc, fwe, fww, reduceIte, ↓reduceIte, Nat.reduceAdd, Nat.reduceLeDiff, Nat.reduceEqDiff, Nat.reduceLT, Nat.reduceSub, reduceCtorEq, Int.reduceEq, Int.reduceLT, Int.reduceLE, Int.reduceNeg, Int.reduceToNat, Int.reduceAdd, Int.reduceSub, Nat.reduceMul, *]
    | (refine seqK_now ?_)
    | (refine retK_now ?_)
    | (refine retK_now' ?_)
    | (intro q hq)
    | (refine cond_intro (fun hc => ?_) (fun hc => ?_)))
    refine ci_idx2 _ _ (.val (.int .i64 (-1))) (.val (.int .i64 1)) (.val (.int .i64 (-1))) 0 rfl rfl (.inl ⟨rfl, rfl⟩) ?_
    (repeat' first
    | simp (contextual := true) (maxSteps := 4000000) only [fwc, fwe, fww, reduceIte, ↓reduceIte, Nat.reduceAdd, Nat.reduceLeDiff, Nat.reduceEqDiff, Nat.reduceLT, Nat.reduceSub, reduceCtorEq, Int.reduceEq, Int.reduceLT, Int.reduceLE, Int.reduceNeg, Int.reduceToNat, Int.reduceAdd, Int.reduceSub, Nat.reduceMul, *]
    | (refine seqK_now ?_)
    | (refine retK_now ?_)
    | (refine retK_now' ?_)
    | (intro q hq)
    | (refine cond_intro (fun hc => ?_) (fun hc => ?_)))
    refine WeakR.pure (by repeat (first | exact Heap.sub_refl _ | refine sub_upd (by simp only [*]) ?_)) ?_
    rfl
  · (repeat' first
    | simp (contextual := true) (maxSteps := 4000000) only [fwc, fwe, fww, reduceIte, ↓reduceIte, Nat.reduceAdd, Nat.reduceLeDiff, Nat.reduceEqDiff, Nat.reduceLT, Nat.reduceSub, reduceCtorEq, Int.reduceEq, Int.reduceLT, Int.reduceLE, Int.reduceNeg, Int.reduceToNat, Int.reduceAdd, Int.reduceSub, Nat.reduceMul, *]
    | (refine seqK_now ?_)
    | (refine retK_now ?_)
    | (refine retK_now' ?_)
    | (intro q hq)
    | (refine cond_intro (fun hc => ?_) (fun hc => ?_)))
    refine ci_idx2 _ _ (.val (.int .i64 (-1))) (.val (.int .i64 1)) (.val (.int .i64 1)) 1 rfl rfl (.inr ⟨rfl, rfl⟩) ?_
    (repeat' first
    | simp (contextual := true) (maxSteps := 4000000) only [fwc, fwe, fww, reduceIte, ↓reduceIte, Nat.reduceAdd, Nat.reduceLeDiff, Nat.reduceEqDiff, Nat.reduceLT, Nat.reduceSub, reduceCtorEq, Int.reduceEq, Int.reduceLT, Int.reduceLE, Int.reduceNeg, Int.reduceToNat, Int.reduceAdd, Int.reduceSub, Nat.reduceMul, *]
    | (refine seqK_now ?_)
    | (refine retK_now ?_)
    | (refine retK_now' ?_)
    | (intro q hq)
    | (refine cond_intro (fun hc => ?_) (fun hc => ?_)))
    refine WeakR.pure (by repeat (first | exact Heap.sub_refl _ | refine sub_upd (by simp only [*]) ?_)) ?_
    rfl
theorem usual_ok {x : AV} {F B : List (List Id)} (h : IsBeds x F B) (hc : checkL F B = 0) (r : Int) : PureA Try.prog 18 [x, .val (.int .i64 r)] (.val (.int .i64 (if rackOK r = true then 0 else 11))) := by
  have hk := h.check
  rw [hc] at hk
  obtain ⟨f, b, rfl, c1, c2, s1, s2, _, _⟩ := h.cells
  clear h
  have hr := oracked_ok r
  replace hc := (show Aside _ from hc)
  have d0 : decide ((0 : Int) = 0) = true := by decide
  intro O
  refine k18.call mix ?_
  unfold c18
  cases hb : rackOK r
  · rw [hb] at hr
    replace hb := (show Aside _ from hb)
    (repeat' first
    | simp (contextual := true) (maxSteps := 4000000) only [fwc, fwe, fww, reduceIte, ↓reduceIte, Nat.reduceAdd, Nat.reduceLeDiff, Nat.reduceEqDiff, Nat.reduceLT, Nat.reduceSub, reduceCtorEq, Int.reduceEq, Int.reduceLT, Int.reduceLE, Int.reduceNeg, Int.reduceToNat, Int.reduceAdd, Int.reduceSub, Nat.reduceMul, part_cell, part_agg, *]
    | (refine seqK_now ?_)
    | (refine retK_now ?_)
    | (refine retK_now' ?_)
    | (intro q hq)
    | (refine cond_intro (fun hc => ?_) (fun hc => ?_)))
    refine hk.use ?_
    (repeat' first
    | simp (contextual := true) (maxSteps := 4000000) only [fwc, fwe, fww, reduceIte, ↓reduceIte, Nat.reduceAdd, Nat.reduceLeDiff, Nat.reduceEqDiff, Nat.reduceLT, Nat.reduceSub, reduceCtorEq, Int.reduceEq, Int.reduceLT, Int.reduceLE, Int.reduceNeg, Int.reduceToNat, Int.reduceAdd, Int.reduceSub, Nat.reduceMul, part_cell, part_agg, *]
    | (refine seqK_now ?_)
    | (refine retK_now ?_)
    | (refine retK_now' ?_)
    | (intro q hq)
    | (refine cond_intro (fun hc => ?_) (fun hc => ?_)))
    refine hr.use ?_
    (repeat' first
    | simp (contextual := true) (maxSteps := 4000000) only [fwc, fwe, fww, reduceIte, ↓reduceIte, Nat.reduceAdd, Nat.reduceLeDiff, Nat.reduceEqDiff, Nat.reduceLT, Nat.reduceSub, reduceCtorEq, Int.reduceEq, Int.reduceLT, Int.reduceLE, Int.reduceNeg, Int.reduceToNat, Int.reduceAdd, Int.reduceSub, Nat.reduceMul, part_cell, part_agg, *]
    | (refine seqK_now ?_)
    | (refine retK_now ?_)
    | (refine retK_now' ?_)
    | (intro q hq)
    | (refine cond_intro (fun hc => ?_) (fun hc => ?_)))
    refine WeakR.pure (sub_upd hq (Heap.sub_refl _)) ?_
    rfl
  · rw [hb] at hr
    replace hb := (show Aside _ from hb)
    (repeat' first
    | simp (contextual := true) (maxSteps := 4000000) only [fwc, fwe, fww, reduceIte, ↓reduceIte, Nat.reduceAdd, Nat.reduceLeDiff, Nat.reduceEqDiff, Nat.reduceLT, Nat.reduceSub, reduceCtorEq, Int.reduceEq, Int.reduceLT, Int.reduceLE, Int.reduceNeg, Int.reduceToNat, Int.reduceAdd, Int.reduceSub, Nat.reduceMul, part_cell, part_agg, *]
    | (refine seqK_now ?_)
    | (refine retK_now ?_)
    | (refine retK_now' ?_)
    | (intro q hq)
    | (refine cond_intro (fun hc => ?_) (fun hc => ?_)))
    refine hk.use ?_
    (repeat' first
    | simp (contextual := true) (maxSteps := 4000000) only [fwc, fwe, fww, reduceIte, ↓reduceIte, Nat.reduceAdd, Nat.reduceLeDiff, Nat.reduceEqDiff, Nat.reduceLT, Nat.reduceSub, reduceCtorEq, Int.reduceEq, Int.reduceLT, Int.reduceLE, Int.reduceNeg, Int.reduceToNat, Int.reduceAdd, Int.reduceSub, Nat.reduceMul, part_cell, part_agg, *]
    | (refine seqK_now ?_)
    | (refine retK_now ?_)
    | (refine retK_now' ?_)
    | (intro q hq)
    | (refine cond_intro (fun hc => ?_) (fun hc => ?_)))
    refine hr.use ?_
    (repeat' first
    | simp (contextual := true) (maxSteps := 4000000) only [fwc, fwe, fww, reduceIte, ↓reduceIte, Nat.reduceAdd, Nat.reduceLeDiff, Nat.reduceEqDiff, Nat.reduceLT, Nat.reduceSub, reduceCtorEq, Int.reduceEq, Int.reduceLT, Int.reduceLE, Int.reduceNeg, Int.reduceToNat, Int.reduceAdd, Int.reduceSub, Nat.reduceMul, part_cell, part_agg, *]
    | (refine seqK_now ?_)
    | (refine retK_now ?_)
    | (refine retK_now' ?_)
    | (intro q hq)
    | (refine cond_intro (fun hc => ?_) (fun hc => ?_)))
    refine WeakR.pure (sub_upd hq (Heap.sub_refl _)) ?_
    rfl
def moveE (r d : Int) : Int := if rackOK r = true then (if rackOK (r + shL d) = true then 0 else 11) else 11
theorem movable_ok {x : AV} {F B : List (List Id)} (h : IsBeds x F B) (hc : checkL F B = 0) (r d : Int) (hd : d = 0 ∨ d = 1) : PureA Try.prog 26 [x, .val (.int .i64 r), .val (.int .u8 d)] (.val (.int .i64 (moveE r d))) := by
  have hu := usual_ok h hc r
  obtain ⟨f, b, rfl, c1, c2, s1, s2, _, _⟩ := h.cells
  clear h
  have hs := shift_ok d hd
  have d0 : decide ((0 : Int) = 0) = true := by decide
  have d11 : decide ((11 : Int) = 0) = false := by decide
  have d1 : decide (1 < d) = false := decide_eq_false (by omega)
  replace hc := (show Aside _ from hc)
  intro O
  refine k26.call mix ?_
  unfold c26
  cases hb : rackOK r
  · have hm : moveE r d = 11 := by unfold moveE; rw [if_neg (by rw [hb]; simp)]
    rw [hm]
    rw [hb] at hu
    replace hu : PureA Try.prog 18 [.agg [f, b], .val (.int .i64 r)] (.val (.int .i64 11)) := hu
    replace hb := (show Aside _ from hb)
    replace hm := (show Aside _ from hm)
    (repeat' first
    | simp (contextual := true) (maxSteps := 4000000) only [fwc, fwe, fww, reduceIte, ↓reduceIte, Nat.reduceAdd, Nat.reduceLeDiff, Nat.reduceEqDiff, Nat.reduceLT, Nat.reduceSub, reduceCtorEq, Int.reduceEq, Int.reduceLT, Int.reduceLE, Int.reduceNeg, Int.reduceToNat, Int.reduceAdd, Int.reduceSub, Nat.reduceMul, part_cell, part_agg, *]
    | (refine seqK_now ?_)
    | (refine retK_now ?_)
    | (refine retK_now' ?_)
    | (intro q hq)
    | (refine cond_intro (fun hc => ?_) (fun hc => ?_)))
    refine hu.use ?_
    (repeat' first
    | simp (contextual := true) (maxSteps := 4000000) only [fwc, fwe, fww, reduceIte, ↓reduceIte, Nat.reduceAdd, Nat.reduceLeDiff, Nat.reduceEqDiff, Nat.reduceLT, Nat.reduceSub, reduceCtorEq, Int.reduceEq, Int.reduceLT, Int.reduceLE, Int.reduceNeg, Int.reduceToNat, Int.reduceAdd, Int.reduceSub, Nat.reduceMul, part_cell, part_agg, *]
    | (refine seqK_now ?_)
    | (refine retK_now ?_)
    | (refine retK_now' ?_)
    | (intro q hq)
    | (refine cond_intro (fun hc => ?_) (fun hc => ?_)))
    refine WeakR.pure (sub_upd hq (Heap.sub_refl _)) ?_
    rfl
  · have hm : moveE r d = if rackOK (r + shL d) = true then 0 else 11 := by unfold moveE; rw [if_pos hb]
    rw [hm]
    rw [hb] at hu
    replace hu : PureA Try.prog 18 [.agg [f, b], .val (.int .i64 r)] (.val (.int .i64 0)) := hu
    have hrr : -4 ≤ r ∧ r ≤ 4 := by unfold rackOK at hb; simpa using hb
    have hsl : shL d = 1 ∨ shL d = -1 := by unfold shL; split <;> simp
    have hw : IntKind.i64.wrap (r + shL d) = r + shL d := by rw [wrap_i64 (by omega) (by omega)]
    have ho := oracked_ok (r + shL d)
    generalize shL d = sh at *
    replace hb := (show Aside _ from hb)
    replace hm := (show Aside _ from hm)
    replace hrr := (show Aside _ from hrr)
    replace hsl := (show Aside _ from hsl)
    cases hb2 : rackOK (r + sh)
    · rw [hb2] at ho
      replace hb2 := (show Aside _ from hb2)
      (repeat' first
    | simp (contextual := true) (maxSteps := 4000000) only [fwc, fwe, fww, reduceIte, ↓reduceIte, Nat.reduceAdd, Nat.reduceLeDiff, Nat.reduceEqDiff, Nat.reduceLT, Nat.reduceSub, reduceCtorEq, Int.reduceEq, Int.reduceLT, Int.reduceLE, Int.reduceNeg, Int.reduceToNat, Int.reduceAdd, Int.reduceSub, Nat.reduceMul, part_cell, part_agg, *]
    | (refine seqK_now ?_)
    | (refine retK_now ?_)
    | (refine retK_now' ?_)
    | (intro q hq)
    | (refine cond_intro (fun hc => ?_) (fun hc => ?_)))
      refine hu.use ?_
      (repeat' first
    | simp (contextual := true) (maxSteps := 4000000) only [fwc, fwe, fww, reduceIte, ↓reduceIte, Nat.reduceAdd, Nat.reduceLeDiff, Nat.reduceEqDiff, Nat.reduceLT, Nat.reduceSub, reduceCtorEq, Int.reduceEq, Int.reduceLT, Int.reduceLE, Int.reduceNeg, Int.reduceToNat, Int.reduceAdd, Int.reduceSub, Nat.reduceMul, part_cell, part_agg, *]
    | (refine seqK_now ?_)
    | (refine retK_now ?_)
    | (refine retK_now' ?_)
    | (intro q hq)
    | (refine cond_intro (fun hc => ?_) (fun hc => ?_)))
      refine hs.use ?_
      (repeat' first
    | simp (contextual := true) (maxSteps := 4000000) only [fwc, fwe, fww, reduceIte, ↓reduceIte, Nat.reduceAdd, Nat.reduceLeDiff, Nat.reduceEqDiff, Nat.reduceLT, Nat.reduceSub, reduceCtorEq, Int.reduceEq, Int.reduceLT, Int.reduceLE, Int.reduceNeg, Int.reduceToNat, Int.reduceAdd, Int.reduceSub, Nat.reduceMul, part_cell, part_agg, *]
    | (refine seqK_now ?_)
    | (refine retK_now ?_)
    | (refine retK_now' ?_)
    | (intro q hq)
    | (refine cond_intro (fun hc => ?_) (fun hc => ?_)))
      refine ho.use ?_
      (repeat' first
    | simp (contextual := true) (maxSteps := 4000000) only [fwc, fwe, fww, reduceIte, ↓reduceIte, Nat.reduceAdd, Nat.reduceLeDiff, Nat.reduceEqDiff, Nat.reduceLT, Nat.reduceSub, reduceCtorEq, Int.reduceEq, Int.reduceLT, Int.reduceLE, Int.reduceNeg, Int.reduceToNat, Int.reduceAdd, Int.reduceSub, Nat.reduceMul, part_cell, part_agg, *]
    | (refine seqK_now ?_)
    | (refine retK_now ?_)
    | (refine retK_now' ?_)
    | (intro q hq)
    | (refine cond_intro (fun hc => ?_) (fun hc => ?_)))
      refine WeakR.pure (sub_upd hq (Heap.sub_refl _)) ?_
      rfl
    · rw [hb2] at ho
      replace hb2 := (show Aside _ from hb2)
      (repeat' first
    | simp (contextual := true) (maxSteps := 4000000) only [fwc, fwe, fww, reduceIte, ↓reduceIte, Nat.reduceAdd, Nat.reduceLeDiff, Nat.reduceEqDiff, Nat.reduceLT, Nat.reduceSub, reduceCtorEq, Int.reduceEq, Int.reduceLT, Int.reduceLE, Int.reduceNeg, Int.reduceToNat, Int.reduceAdd, Int.reduceSub, Nat.reduceMul, part_cell, part_agg, *]
    | (refine seqK_now ?_)
    | (refine retK_now ?_)
    | (refine retK_now' ?_)
    | (intro q hq)
    | (refine cond_intro (fun hc => ?_) (fun hc => ?_)))
      refine hu.use ?_
      (repeat' first
    | simp (contextual := true) (maxSteps := 4000000) only [fwc, fwe, fww, reduceIte, ↓reduceIte, Nat.reduceAdd, Nat.reduceLeDiff, Nat.reduceEqDiff, Nat.reduceLT, Nat.reduceSub, reduceCtorEq, Int.reduceEq, Int.reduceLT, Int.reduceLE, Int.reduceNeg, Int.reduceToNat, Int.reduceAdd, Int.reduceSub, Nat.reduceMul, part_cell, part_agg, *]
    | (refine seqK_now ?_)
    | (refine retK_now ?_)
    | (refine retK_now' ?_)
    | (intro q hq)
    | (refine cond_intro (fun hc => ?_) (fun hc => ?_)))
      refine hs.use ?_
      (repeat' first
    | simp (contextual := true) (maxSteps := 4000000) only [fwc, fwe, fww, reduceIte, ↓reduceIte, Nat.reduceAdd, Nat.reduceLeDiff, Nat.reduceEqDiff, Nat.reduceLT, Nat.reduceSub, reduceCtorEq, Int.reduceEq, Int.reduceLT, Int.reduceLE, Int.reduceNeg, Int.reduceToNat, Int.reduceAdd, Int.reduceSub, Nat.reduceMul, part_cell, part_agg, *]
    | (refine seqK_now ?_)
    | (refine retK_now ?_)
    | (refine retK_now' ?_)
    | (intro q hq)
    | (refine cond_intro (fun hc => ?_) (fun hc => ?_)))
      refine ho.use ?_
      (repeat' first
    | simp (contextual := true) (maxSteps := 4000000) only [fwc, fwe, fww, reduceIte, ↓reduceIte, Nat.reduceAdd, Nat.reduceLeDiff, Nat.reduceEqDiff, Nat.reduceLT, Nat.reduceSub, reduceCtorEq, Int.reduceEq, Int.reduceLT, Int.reduceLE, Int.reduceNeg, Int.reduceToNat, Int.reduceAdd, Int.reduceSub, Nat.reduceMul, part_cell, part_agg, *]
    | (refine seqK_now ?_)
    | (refine retK_now ?_)
    | (refine retK_now' ?_)
    | (intro q hq)
    | (refine cond_intro (fun hc => ?_) (fun hc => ?_)))
      refine WeakR.pure (sub_upd hq (Heap.sub_refl _)) ?_
      rfl
end Go.Proofs.Ytembkknplmcamaa
