/- The law StacksSet of the given program: for every input the call returns true, and its arguments read as before. Here: contracts of functions, and the law. -/
import Derived.Test.YtlpngkeegjickaaFd
import Derived.Test.YtlpngkeegjickaaFc
set_option linter.unusedSimpArgs false
set_option linter.unusedVariables false
namespace Go.Proofs.Ytlpngkeegjickaa
open Go.Ab
attribute [local irreducible] WeakR WeakE CallA YieldA

theorem mix : Try.prog.follows .mixedOrders = true := by kernel_rfl

structure Id where
  y : Int
  n : Int
deriving DecidableEq
def Id.av (p : Id) : AV := .agg [.val (.int .u8 p.y), .val (.int .i64 p.n)]
def named (p : Id) : Bool := decide (1 ≤ p.y) && decide (p.y ≤ 6) && decide (0 ≤ p.n) && decide (p.n < 2048)

theorem Named_ok (p : Id) : PureA Try.prog 30 [p.av] (.val (.bool (named p))) := by
  intro O
  refine k30.call mix ?_
  unfold c30 Id.av
  (repeat' first
    | simp (contextual := true) (maxSteps := 4000000) only [fwc, fwe, fww, reduceIte, ↓reduceIte, Nat.reduceAdd, Nat.reduceLeDiff, Nat.reduceEqDiff, Nat.reduceLT, Nat.reduceSub, reduceCtorEq, Int.reduceEq, Int.reduceLT, Int.reduceLE, Int.reduceNeg, Int.reduceToNat, Int.reduceAdd, Int.reduceSub, Nat.reduceMul, *]
    | (refine seqK_now ?_)
    | (refine retK_now ?_)
    | (refine retK_now' ?_)
    | (intro q hq)
    | (refine cond_intro (fun hc => ?_) (fun hc => ?_)))
  refine WeakR.pure (by repeat (first | exact Heap.sub_refl _ | refine sub_upd (by simp only [*]) ?_)) ?_
  rfl

structure Ndl where
  bed : Int
  at_ : Int
deriving DecidableEq
def Ndl.av (n : Ndl) : AV := .agg [.val (.int .u8 n.bed), .val (.int .i64 n.at_)]
def Ndl.bad (n : Ndl) : Bool := decide (1 < n.bed) || decide (n.at_ < 1) || decide (40 < n.at_)

theorem NdlCheck_ok (n : Ndl) : PureA Try.prog 32 [n.av] (.val (.int .i64 (if n.bad = true then 1 else 0))) := by
  intro O
  refine k32.call mix ?_
  unfold c32 Ndl.av
  (repeat' first
    | simp (contextual := true) (maxSteps := 4000000) only [fwc, fwe, fww, reduceIte, ↓reduceIte, Nat.reduceAdd, Nat.reduceLeDiff, Nat.reduceEqDiff, Nat.reduceLT, Nat.reduceSub, reduceCtorEq, Int.reduceEq, Int.reduceLT, Int.reduceLE, Int.reduceNeg, Int.reduceToNat, Int.reduceAdd, Int.reduceSub, Nat.reduceMul, *]
    | (refine seqK_now ?_)
    | (refine retK_now ?_)
    | (refine retK_now' ?_)
    | (intro q hq)
    | (refine cond_intro (fun hc => ?_) (fun hc => ?_)))
  all_goals
    have hb : n.bad = _ := hc
    refine WeakR.pure (by repeat (first | exact Heap.sub_refl _ | refine sub_upd (by simp only [*]) ?_)) ?_
    simp only [hb, if_true, Bool.false_eq_true, if_false]

theorem Clip_list (t : Bool) (l : List AV) : PureA Try.prog 33 [.list 2 t l] (.list 2 true l) := by
  intro O
  refine k33.call mix ?_
  unfold c33
  (repeat' first
    | simp (contextual := true) (maxSteps := 4000000) only [fwc, fwe, fww, reduceIte, ↓reduceIte, Nat.reduceAdd, Nat.reduceLeDiff, Nat.reduceEqDiff, Nat.reduceLT, Nat.reduceSub, reduceCtorEq, Int.reduceEq, Int.reduceLT, Int.reduceLE, Int.reduceNeg, Int.reduceToNat, Int.reduceAdd, Int.reduceSub, Nat.reduceMul, *]
    | (refine seqK_now ?_)
    | (refine retK_now ?_)
    | (refine retK_now' ?_)
    | (intro q hq)
    | (refine cond_intro (fun hc => ?_) (fun hc => ?_)))
  rw [slice_list_mx (a := 0) (b := l.length) (c := l.length) (by simp [bound_none]) (by simp [bound_int]) (by simp [bound_int]) (by omega) (by omega) (by omega)]
  (repeat' first
    | simp (contextual := true) (maxSteps := 4000000) only [fwc, fwe, fww, reduceIte, ↓reduceIte, Nat.reduceAdd, Nat.reduceLeDiff, Nat.reduceEqDiff, Nat.reduceLT, Nat.reduceSub, reduceCtorEq, Int.reduceEq, Int.reduceLT, Int.reduceLE, Int.reduceNeg, Int.reduceToNat, Int.reduceAdd, Int.reduceSub, Nat.reduceMul, *]
    | (refine seqK_now ?_)
    | (refine retK_now ?_)
    | (refine retK_now' ?_)
    | (intro q hq)
    | (refine cond_intro (fun hc => ?_) (fun hc => ?_)))
  refine WeakR.pure (by repeat (first | exact Heap.sub_refl _ | refine sub_upd (by simp only [*]) ?_)) ?_
  simp
theorem Clip_nil : PureA Try.prog 33 [.val (.slice none 0 0)] (.val (.slice none 0 0)) := by
  intro O
  refine k33.call mix ?_
  unfold c33
  (repeat' first
    | simp (contextual := true) (maxSteps := 4000000) only [fwc, fwe, fww, reduceIte, ↓reduceIte, Nat.reduceAdd, Nat.reduceLeDiff, Nat.reduceEqDiff, Nat.reduceLT, Nat.reduceSub, reduceCtorEq, Int.reduceEq, Int.reduceLT, Int.reduceLE, Int.reduceNeg, Int.reduceToNat, Int.reduceAdd, Int.reduceSub, Nat.reduceMul, *]
    | (refine seqK_now ?_)
    | (refine retK_now ?_)
    | (refine retK_now' ?_)
    | (intro q hq)
    | (refine cond_intro (fun hc => ?_) (fun hc => ?_)))
  have h : sliceA 2 (.val (.slice none 0 0)) none (some (.val (.int .i64 0))) (some (.val (.int .i64 0))) = some (.val (.slice none 0 0)) := rfl
  rw [h]
  (repeat' first
    | simp (contextual := true) (maxSteps := 4000000) only [fwc, fwe, fww, reduceIte, ↓reduceIte, Nat.reduceAdd, Nat.reduceLeDiff, Nat.reduceEqDiff, Nat.reduceLT, Nat.reduceSub, reduceCtorEq, Int.reduceEq, Int.reduceLT, Int.reduceLE, Int.reduceNeg, Int.reduceToNat, Int.reduceAdd, Int.reduceSub, Nat.reduceMul, *]
    | (refine seqK_now ?_)
    | (refine retK_now ?_)
    | (refine retK_now' ?_)
    | (intro q hq)
    | (refine cond_intro (fun hc => ?_) (fun hc => ?_)))
  refine WeakR.pure (by repeat (first | exact Heap.sub_refl _ | refine sub_upd (by simp only [*]) ?_)) ?_
  rfl
theorem Clone_nil : PureA Try.prog 34 [.val (.slice none 0 0)] (.val (.slice none 0 0)) := by
  intro O
  refine k34.call mix ?_
  unfold c34
  (repeat' first
    | simp (contextual := true) (maxSteps := 4000000) only [fwc, fwe, fww, reduceIte, ↓reduceIte, Nat.reduceAdd, Nat.reduceLeDiff, Nat.reduceEqDiff, Nat.reduceLT, Nat.reduceSub, reduceCtorEq, Int.reduceEq, Int.reduceLT, Int.reduceLE, Int.reduceNeg, Int.reduceToNat, Int.reduceAdd, Int.reduceSub, Nat.reduceMul, *]
    | (refine seqK_now ?_)
    | (refine retK_now ?_)
    | (refine retK_now' ?_)
    | (intro q hq)
    | (refine cond_intro (fun hc => ?_) (fun hc => ?_)))
  refine WeakR.pure (by repeat (first | exact Heap.sub_refl _ | refine sub_upd (by simp only [*]) ?_)) ?_
  rfl
theorem Clone_list (t : Bool) (l : List AV) (hl : l.length ≤ 1048576) : PureA Try.prog 34 [.list 2 t l] (.list 2 false l) := by
  intro O
  refine k34.call mix ?_
  unfold c34
  (repeat' first
    | simp (contextual := true) (maxSteps := 4000000) only [fwc, fwe, fww, reduceIte, ↓reduceIte, Nat.reduceAdd, Nat.reduceLeDiff, Nat.reduceEqDiff, Nat.reduceLT, Nat.reduceSub, reduceCtorEq, Int.reduceEq, Int.reduceLT, Int.reduceLE, Int.reduceNeg, Int.reduceToNat, Int.reduceAdd, Int.reduceSub, Nat.reduceMul, *]
    | (refine seqK_now ?_)
    | (refine retK_now ?_)
    | (refine retK_now' ?_)
    | (intro q hq)
    | (refine cond_intro (fun hc => ?_) (fun hc => ?_)))
  refine app_list (el_list _ _ _ _) ?_ ?_
  · exact fits_of (by simp only [List.length_nil, List.length_cons, Nat.zero_add, List.length_map, List.length_append, List.length_take, List.length_drop]; omega) (by omega)
  (repeat' first
    | simp (contextual := true) (maxSteps := 4000000) only [fwc, fwe, fww, reduceIte, ↓reduceIte, Nat.reduceAdd, Nat.reduceLeDiff, Nat.reduceEqDiff, Nat.reduceLT, Nat.reduceSub, reduceCtorEq, Int.reduceEq, Int.reduceLT, Int.reduceLE, Int.reduceNeg, Int.reduceToNat, Int.reduceAdd, Int.reduceSub, Nat.reduceMul, *]
    | (refine seqK_now ?_)
    | (refine retK_now ?_)
    | (refine retK_now' ?_)
    | (intro q hq)
    | (refine cond_intro (fun hc => ?_) (fun hc => ?_)))
  refine WeakR.pure (by repeat (first | exact Heap.sub_refl _ | refine sub_upd (by simp only [*]) ?_)) ?_
  rfl
def cpS : AV → AV
  | .list s _ l => .list s true l
  | x => x
theorem cpS_T {sz : Nat} {s : AV} {L : List AV} (h : IsL sz s L) : IsT sz (cpS s) L := by
  rcases h with ⟨rfl, rfl⟩ | ⟨t, rfl⟩
  · exact IsT.nil
  · exact IsT.list
def cl2 : AV → AV
  | .list s _ l => .list s false l
  | x => x
theorem cl2_L {sz : Nat} {s : AV} {L : List AV} (h : IsL sz s L) : IsL sz (cl2 s) L := by
  rcases h with ⟨rfl, rfl⟩ | ⟨t, rfl⟩
  · exact IsL.nil
  · exact IsL.list
theorem Clone_ok {s : AV} {L : List AV} (h : IsL 2 s L) (hl : L.length ≤ 1048576) : PureA Try.prog 34 [s] (cl2 s) := by
  rcases h with ⟨rfl, rfl⟩ | ⟨t, rfl⟩
  · exact Clone_nil
  · exact Clone_list t L hl
theorem Clip_ok {s : AV} {L : List AV} (h : IsL 2 s L) : PureA Try.prog 33 [cl2 s] (cpS s) := by
  rcases h with ⟨rfl, rfl⟩ | ⟨t, rfl⟩
  · exact Clip_nil
  · exact Clip_list false L

theorem ClipB_ok {s : AV} {L : List AV} (h : IsL 1 s L) : PureA Try.prog 70 [cl2 s] (cpS s) := by
  rcases h with ⟨rfl, rfl⟩ | ⟨t, rfl⟩
  · intro O
    refine k70.call mix ?_
    unfold c70 cl2
    (repeat' first
    | simp (contextual := true) (maxSteps := 4000000) only [fwc, fwe, fww, reduceIte, ↓reduceIte, Nat.reduceAdd, Nat.reduceLeDiff, Nat.reduceEqDiff, Nat.reduceLT, Nat.reduceSub, reduceCtorEq, Int.reduceEq, Int.reduceLT, Int.reduceLE, Int.reduceNeg, Int.reduceToNat, Int.reduceAdd, Int.reduceSub, Nat.reduceMul, *]
    | (refine seqK_now ?_)
    | (refine retK_now ?_)
    | (refine retK_now' ?_)
    | (intro q hq)
    | (refine cond_intro (fun hc => ?_) (fun hc => ?_)))
    have h : sliceA 1 (.val (.slice none 0 0)) none (some (.val (.int .i64 0))) (some (.val (.int .i64 0))) = some (.val (.slice none 0 0)) := rfl
    rw [h]
    (repeat' first
    | simp (contextual := true) (maxSteps := 4000000) only [fwc, fwe, fww, reduceIte, ↓reduceIte, Nat.reduceAdd, Nat.reduceLeDiff, Nat.reduceEqDiff, Nat.reduceLT, Nat.reduceSub, reduceCtorEq, Int.reduceEq, Int.reduceLT, Int.reduceLE, Int.reduceNeg, Int.reduceToNat, Int.reduceAdd, Int.reduceSub, Nat.reduceMul, *]
    | (refine seqK_now ?_)
    | (refine retK_now ?_)
    | (refine retK_now' ?_)
    | (intro q hq)
    | (refine cond_intro (fun hc => ?_) (fun hc => ?_)))
    refine WeakR.pure (by repeat (first | exact Heap.sub_refl _ | refine sub_upd (by simp only [*]) ?_)) ?_
    rfl
  · intro O
    refine k70.call mix ?_
    unfold c70 cl2
    (repeat' first
    | simp (contextual := true) (maxSteps := 4000000) only [fwc, fwe, fww, reduceIte, ↓reduceIte, Nat.reduceAdd, Nat.reduceLeDiff, Nat.reduceEqDiff, Nat.reduceLT, Nat.reduceSub, reduceCtorEq, Int.reduceEq, Int.reduceLT, Int.reduceLE, Int.reduceNeg, Int.reduceToNat, Int.reduceAdd, Int.reduceSub, Nat.reduceMul, *]
    | (refine seqK_now ?_)
    | (refine retK_now ?_)
    | (refine retK_now' ?_)
    | (intro q hq)
    | (refine cond_intro (fun hc => ?_) (fun hc => ?_)))
    rw [slice_list_mx (a := 0) (b := L.length) (c := L.length) (by simp [bound_none]) (by simp [bound_int]) (by simp [bound_int]) (by omega) (by omega) (by omega)]
    (repeat' first
    | simp (contextual := true) (maxSteps := 4000000) only [fwc, fwe, fww, reduceIte, ↓reduceIte, Nat.reduceAdd, Nat.reduceLeDiff, Nat.reduceEqDiff, Nat.reduceLT, Nat.reduceSub, reduceCtorEq, Int.reduceEq, Int.reduceLT, Int.reduceLE, Int.reduceNeg, Int.reduceToNat, Int.reduceAdd, Int.reduceSub, Nat.reduceMul, *]
    | (refine seqK_now ?_)
    | (refine retK_now ?_)
    | (refine retK_now' ?_)
    | (intro q hq)
    | (refine cond_intro (fun hc => ?_) (fun hc => ?_)))
    refine WeakR.pure (by repeat (first | exact Heap.sub_refl _ | refine sub_upd (by simp only [*]) ?_)) ?_
    simp [cpS]
theorem CloneB_ok {s : AV} {L : List AV} (h : IsL 1 s L) (hl : L.length ≤ 1048576) : PureA Try.prog 71 [s] (cl2 s) := by
  rcases h with ⟨rfl, rfl⟩ | ⟨t, rfl⟩
  · intro O
    refine k71.call mix ?_
    unfold c71
    (repeat' first
    | simp (contextual := true) (maxSteps := 4000000) only [fwc, fwe, fww, reduceIte, ↓reduceIte, Nat.reduceAdd, Nat.reduceLeDiff, Nat.reduceEqDiff, Nat.reduceLT, Nat.reduceSub, reduceCtorEq, Int.reduceEq, Int.reduceLT, Int.reduceLE, Int.reduceNeg, Int.reduceToNat, Int.reduceAdd, Int.reduceSub, Nat.reduceMul, *]
    | (refine seqK_now ?_)
    | (refine retK_now ?_)
    | (refine retK_now' ?_)
    | (intro q hq)
    | (refine cond_intro (fun hc => ?_) (fun hc => ?_)))
    refine WeakR.pure (by repeat (first | exact Heap.sub_refl _ | refine sub_upd (by simp only [*]) ?_)) ?_
    rfl
  · intro O
    refine k71.call mix ?_
    unfold c71
    (repeat' first
    | simp (contextual := true) (maxSteps := 4000000) only [fwc, fwe, fww, reduceIte, ↓reduceIte, Nat.reduceAdd, Nat.reduceLeDiff, Nat.reduceEqDiff, Nat.reduceLT, Nat.reduceSub, reduceCtorEq, Int.reduceEq, Int.reduceLT, Int.reduceLE, Int.reduceNeg, Int.reduceToNat, Int.reduceAdd, Int.reduceSub, Nat.reduceMul, *]
    | (refine seqK_now ?_)
    | (refine retK_now ?_)
    | (refine retK_now' ?_)
    | (intro q hq)
    | (refine cond_intro (fun hc => ?_) (fun hc => ?_)))
    refine app_list (el_list _ _ _ _) ?_ ?_
    · exact fits_of (by simp only [List.length_nil, List.length_cons, Nat.zero_add, List.length_map, List.length_append, List.length_take, List.length_drop]; omega) (by omega)
    (repeat' first
    | simp (contextual := true) (maxSteps := 4000000) only [fwc, fwe, fww, reduceIte, ↓reduceIte, Nat.reduceAdd, Nat.reduceLeDiff, Nat.reduceEqDiff, Nat.reduceLT, Nat.reduceSub, reduceCtorEq, Int.reduceEq, Int.reduceLT, Int.reduceLE, Int.reduceNeg, Int.reduceToNat, Int.reduceAdd, Int.reduceSub, Nat.reduceMul, *]
    | (refine seqK_now ?_)
    | (refine retK_now ?_)
    | (refine retK_now' ?_)
    | (intro q hq)
    | (refine cond_intro (fun hc => ?_) (fun hc => ?_)))
    refine WeakR.pure (by repeat (first | exact Heap.sub_refl _ | refine sub_upd (by simp only [*]) ?_)) ?_
    rfl

/-- The slice with an index, or nil. -/
def getA (l : List AV) (i : Nat) : AV := l.getD i (.val (.slice none 0 0))
theorem get_ok {s : AV} {l : List AV} (h : IsL 1 s l) (i : Nat) (hl : l.length ≤ 1048576) (hs : ∀ x ∈ l, ∃ L, IsL 2 x L) : PureA Try.prog 35 [s, .val (.int .i64 i)] (getA l i) := by
  intro O
  have h1 := h.len
  refine k35.call mix ?_
  unfold c35
  (repeat' first
    | simp (contextual := true) (maxSteps := 4000000) only [fwc, fwe, fww, reduceIte, ↓reduceIte, Nat.reduceAdd, Nat.reduceLeDiff, Nat.reduceEqDiff, Nat.reduceLT, Nat.reduceSub, reduceCtorEq, Int.reduceEq, Int.reduceLT, Int.reduceLE, Int.reduceNeg, Int.reduceToNat, Int.reduceAdd, Int.reduceSub, Nat.reduceMul, ilt_nat, *]
    | (refine seqK_now ?_)
    | (refine retK_now ?_)
    | (refine retK_now' ?_)
    | (intro q hq)
    | (refine cond_intro (fun hc => ?_) (fun hc => ?_)))
  · have hi : i < l.length := of_decide_eq_true hc
    clear hc
    have hia := h.ia hi
    obtain ⟨L, hL⟩ := hs _ (List.getElem_mem hi)
    have hcl := hL.cells
    (repeat' first
    | simp (contextual := true) (maxSteps := 4000000) only [fwc, fwe, fww, reduceIte, ↓reduceIte, Nat.reduceAdd, Nat.reduceLeDiff, Nat.reduceEqDiff, Nat.reduceLT, Nat.reduceSub, reduceCtorEq, Int.reduceEq, Int.reduceLT, Int.reduceLE, Int.reduceNeg, Int.reduceToNat, Int.reduceAdd, Int.reduceSub, Nat.reduceMul, part_cell, *]
    | (refine seqK_now ?_)
    | (refine retK_now ?_)
    | (refine retK_now' ?_)
    | (intro q hq)
    | (refine cond_intro (fun hc => ?_) (fun hc => ?_)))
    refine WeakR.pure (by repeat (first | exact Heap.sub_refl _ | refine sub_upd (by simp only [*]) ?_)) ?_
    rw [getA, List.getD_eq_getElem?_getD, List.getElem?_eq_getElem hi]
    rfl
  · have hi : ¬ i < l.length := of_decide_eq_false hc
    refine WeakR.pure (by repeat (first | exact Heap.sub_refl _ | refine sub_upd (by simp only [*]) ?_)) ?_
    rw [getA, List.getD_eq_getElem?_getD, List.getElem?_eq_none (by omega)]
    rfl
end Go.Proofs.Ytlpngkeegjickaa

namespace Go.Proofs.Ytlpngkeegjickaa
open Go.Ab
attribute [local irreducible] WeakR WeakE CallA YieldA

/-- Slices of names. -/
def StkAll (es : List AV) : Prop := ∀ x ∈ es, ∃ L : List Id, IsL 2 x (L.map Id.av)

theorem all_ok (f b : AV) (hf : f.cells = [f]) (hb : b.cells = [b]) (hf' : f.stor = true) (hb' : b.stor = true) : PureA Try.prog 26 [.agg [f, b]] (.clo (.func 51) [] [.ref (.agg [f, b])]) := by
  intro O
  refine k26.call mix ?_
  unfold c26
  (repeat' first
    | simp (contextual := true) (maxSteps := 4000000) only [fwc, fwe, fww, reduceIte, ↓reduceIte, Nat.reduceAdd, Nat.reduceLeDiff, Nat.reduceEqDiff, Nat.reduceLT, Nat.reduceSub, reduceCtorEq, Int.reduceEq, Int.reduceLT, Int.reduceLE, Int.reduceNeg, Int.reduceToNat, Int.reduceAdd, Int.reduceSub, Nat.reduceMul, *]
    | (refine seqK_now ?_)
    | (refine retK_now ?_)
    | (refine retK_now' ?_)
    | (intro q hq)
    | (refine cond_intro (fun hc => ?_) (fun hc => ?_)))
  refine WeakR.pureF q 2 35 [.agg [f, b]] (Heap.upd_same _ _ _) (.clo _ [] [] [.optr q 2 0 0] [.ref (.agg [f, b])] rfl rfl (fun i x y hx => by simp at hx) (fun i x y hx hy => ?_)) (by rw [del_upd_new hq]; exact Heap.sub_refl _) rfl
  match i, hx, hy with
  | 0, hx, hy => simp at hx hy; subst hx hy; exact .optr 0 _ rfl

def nd (n0 j : Nat) : Ndl := if j < n0 then ⟨0, j + 1⟩ else ⟨1, ((j - n0 + 1 : Nat) : Int)⟩

def envO (id : Nat) (f b : AV) (k : Nat) : Env := ((((Env.upd (fun _ => .junk) 12 (.val (.int .i64 k))).upd 11 (.val (.int .i64 2))).upd 10 (.list 1 true [f, b])).upd 0 (.yld id))
def envIn (id : Nat) (f b : AV) (k : Nat) (x : AV) (m i : Nat) : Env := (((((((Env.upd (fun _ => .junk) 20 (.val (.int .i64 i))).upd 19 (.val (.int .i64 m))).upd 12 (.val (.int .i64 k))).upd 11 (.val (.int .i64 2))).upd 10 (.list 1 true [f, b])).upd 4 x).upd 3 (.val (.int .i64 k))).upd 0 (.yld id)

theorem wrap_u8n {k : Nat} (h : k < 256) : IntKind.u8.wrap (k : Int) = (k : Int) := wrap_u8 (by omega) (by omega)
theorem min40 (n : Nat) : (if (40 : Int) < (n : Int) then (40 : Int) else (n : Int)) = ((min n 40 : Nat) : Int) := by
  split <;> omega

set_option maxHeartbeats 4000000 in
theorem all1_ok (id : Nat) (f b : AV) (es fs : List AV) (hf : IsL 1 f es) (hb : IsL 1 b fs) (he : StkAll es) (hfs : StkAll fs) (O : Heap) (J : Nat → Heap → Prop) (Z : Heap → Prop)
    (h0 : J 0 O)
    (hy : ∀ j (h : j < (es.take 40 ++ fs.take 40).length) O, J j O → YieldA Try.prog id [(nd (min es.length 40) j).av, (es.take 40 ++ fs.take 40)[j]] O fun r O' => (r = .val (.bool true) ∧ J (j + 1) O') ∨ (r = .val (.bool false) ∧ Z O')) :
    CallA Try.prog 51 [.yld id, .ref (.agg [f, b])] O fun _ O' => J (es.take 40 ++ fs.take 40).length O' ∨ Z O' := by
  have hf1 := hf.cells
  have hb1 := hb.cells
  have hf2 := hf.stor
  have hb2 := hb.stor
  replace h0 := (show Aside _ from h0)
  replace hy := (show Aside _ from hy)
  have hln : (es.take 40 ++ fs.take 40).length = min es.length 40 + min fs.length 40 := by simp; omega
  refine k51.call mix ?_
  unfold c51
  refine seq_go ?_
  (repeat' first
    | simp (contextual := true) (maxSteps := 4000000) only [fwc, fwe, fww, reduceIte, ↓reduceIte, Nat.reduceAdd, Nat.reduceLeDiff, Nat.reduceEqDiff, Nat.reduceLT, Nat.reduceSub, reduceCtorEq, Int.reduceEq, Int.reduceLT, Int.reduceLE, Int.reduceNeg, Int.reduceToNat, Int.reduceAdd, Int.reduceSub, Nat.reduceMul, *]
    | (refine retK_now ?_)
    | (refine retK_now' ?_)
    | (intro q hq)
    | (refine cond_intro (fun hc => ?_) (fun hc => ?_)))
  refine seqK_now ?_
  (repeat' first
    | simp (contextual := true) (maxSteps := 4000000) only [fwc, fwe, fww, reduceIte, ↓reduceIte, Nat.reduceAdd, Nat.reduceLeDiff, Nat.reduceEqDiff, Nat.reduceLT, Nat.reduceSub, reduceCtorEq, Int.reduceEq, Int.reduceLT, Int.reduceLE, Int.reduceNeg, Int.reduceToNat, Int.reduceAdd, Int.reduceSub, Nat.reduceMul, *]
    | (refine retK_now ?_)
    | (refine retK_now' ?_)
    | (intro q hq)
    | (refine cond_intro (fun hc => ?_) (fun hc => ?_)))
  obtain ⟨I, hI⟩ := hideI (fun m e O' => ∃ k : Nat, k ≤ 2 ∧ m = 2 - k ∧ J (if k = 0 then 0 else if k = 1 then min es.length 40 else min es.length 40 + min fs.length 40) O' ∧ e = envO id f b k)
  refine cmd_loop I 2 (by
    rw [hI.out]
    exact ⟨0, by omega, rfl, h0.out, rfl⟩) ?_
  intro m e O' hh
  rw [hI.out] at hh
  obtain ⟨k, h1, rfl, h2, rfl⟩ := hh
  replace h2 := (show Aside _ from h2)
  have hk2 : decide ((k : Int) < 2) = decide (k < 2) := decide_eq_decide.2 (by omega)
  unfold envO
  refine seq_go ?_
  (repeat' first
    | simp (contextual := true) (maxSteps := 4000000) only [fwc, fwe, fww, reduceIte, ↓reduceIte, Nat.reduceAdd, Nat.reduceLeDiff, Nat.reduceEqDiff, Nat.reduceLT, Nat.reduceSub, reduceCtorEq, Int.reduceEq, Int.reduceLT, Int.reduceLE, Int.reduceNeg, Int.reduceToNat, Int.reduceAdd, Int.reduceSub, Nat.reduceMul, hk2, *]
    | (refine retK_now ?_)
    | (refine retK_now' ?_)
    | (intro q hq)
    | (refine cond_intro (fun hc => ?_) (fun hc => ?_)))
  refine seqK_now ?_
  refine seq_go ?_
  (repeat' first
    | simp (contextual := true) (maxSteps := 4000000) only [fwc, fwe, fww, reduceIte, ↓reduceIte, Nat.reduceAdd, Nat.reduceLeDiff, Nat.reduceEqDiff, Nat.reduceLT, Nat.reduceSub, reduceCtorEq, Int.reduceEq, Int.reduceLT, Int.reduceLE, Int.reduceNeg, Int.reduceToNat, Int.reduceAdd, Int.reduceSub, Nat.reduceMul, *]
    | (refine retK_now ?_)
    | (refine retK_now' ?_)
    | (intro q hq)
    | (refine cond_intro (fun hc => ?_) (fun hc => ?_)))
  · have hk : k < 2 := of_decide_eq_true hc
    clear hc
    obtain ⟨x, xs, off, hx, hst, hnx, hel, hia, hxs⟩ : ∃ (x : AV) (xs : List AV) (off : Nat), IsL 1 x xs ∧ (if k = 0 then 0 else if k = 1 then min es.length 40 else min es.length 40 + min fs.length 40) = off ∧
        (if k + 1 = 0 then 0 else if k + 1 = 1 then min es.length 40 else min es.length 40 + min fs.length 40) = off + min xs.length 40 ∧
        (∀ i, i < min xs.length 40 → ∃ (h' : off + i < (es.take 40 ++ fs.take 40).length) (h'' : i < xs.length), (es.take 40 ++ fs.take 40)[off + i]'h' = xs[i]'h'' ∧ nd (min es.length 40) (off + i) = ⟨k, ((i + 1 : Nat) : Int)⟩) ∧
        indexAddrA 1 (k : Int) (.list 1 true [f, b]) = some (.ref x) ∧ StkAll xs := by
      rcases Nat.lt_or_ge k 1 with hk' | hk'
      · have : k = 0 := by omega
        subst this
        refine ⟨f, es, 0, hf, by simp, by simp, fun i hi => ⟨by rw [hln]; omega, by omega, ?_, ?_⟩, ia_nat (by simp), he⟩
        · rw [List.getElem_append_left (by simp; omega)]; simp
        · simp only [nd, Nat.zero_add]
          rw [if_pos (by omega)]
          rfl
      · have : k = 1 := by omega
        subst this
        refine ⟨b, fs, min es.length 40, hb, by simp, by simp, fun i hi => ⟨by rw [hln]; omega, by omega, ?_, ?_⟩, ia_nat (by simp), hfs⟩
        · rw [List.getElem_append_right (by simp; omega)]
          simp only [List.length_take, List.getElem_take]
          congr 1
          omega
        · simp only [nd]
          rw [if_neg (by omega), show min es.length 40 + i - min es.length 40 = i by omega]
          rfl
    rw [hst] at h2
    have hx1 := hx.cells
    have hx2 := hx.len
    have hx3 := hx.stor
    have hh4 := (show Aside _ from hel)
    clear hel
    (repeat' first
    | simp (contextual := true) (maxSteps := 4000000) only [fwc, fwe, fww, reduceIte, ↓reduceIte, Nat.reduceAdd, Nat.reduceLeDiff, Nat.reduceEqDiff, Nat.reduceLT, Nat.reduceSub, reduceCtorEq, Int.reduceEq, Int.reduceLT, Int.reduceLE, Int.reduceNeg, Int.reduceToNat, Int.reduceAdd, Int.reduceSub, Nat.reduceMul, hia, part_cell, min40, *]
    | (refine seqK_now ?_)
    | (refine retK_now ?_)
    | (refine retK_now' ?_)
    | (intro q hq)
    | (refine cond_intro (fun hc => ?_) (fun hc => ?_)))
    obtain ⟨I2, hI2⟩ := hideI (fun m e O' => ∃ i : Nat, i ≤ min xs.length 40 ∧ m = min xs.length 40 - i ∧ J (off + i) O' ∧ e = envIn id f b k x (min xs.length 40) i)
    refine cmd_loop I2 (min xs.length 40) (by
      rw [hI2.out]
      exact ⟨0, by omega, rfl, h2.out, rfl⟩) ?_
    intro m2 e2 O2 hh2
    rw [hI2.out] at hh2
    obtain ⟨i, h3, rfl, h5, rfl⟩ := hh2
    replace h5 := (show Aside _ from h5)
    unfold envIn
    (repeat' first
    | simp (contextual := true) (maxSteps := 4000000) only [fwc, fwe, fww, reduceIte, ↓reduceIte, Nat.reduceAdd, Nat.reduceLeDiff, Nat.reduceEqDiff, Nat.reduceLT, Nat.reduceSub, reduceCtorEq, Int.reduceEq, Int.reduceLT, Int.reduceLE, Int.reduceNeg, Int.reduceToNat, Int.reduceAdd, Int.reduceSub, Nat.reduceMul, ilt_nat, *]
    | (refine seqK_now ?_)
    | (refine retK_now ?_)
    | (refine retK_now' ?_)
    | (intro q hq)
    | (refine cond_intro (fun hc => ?_) (fun hc => ?_)))
    · have hi : i < min xs.length 40 := of_decide_eq_true hc
      clear hc
      obtain ⟨g1, g2, g3, g4⟩ := hh4.out i hi
      have hxi := hx.ia g2
      obtain ⟨L, hL⟩ := hxs _ (List.getElem_mem g2)
      have hL1 := hL.cells
      have hw : i < 4611686018427387904 := by omega
      have hw8 : k < 256 := by omega
      have hY := hy.out (off + i) g1 O2 h5.out
      rw [g3, g4, show Ndl.av ⟨k, ((i + 1 : Nat) : Int)⟩ = .agg [.val (.int .u8 k), .val (.int .i64 ((i + 1 : Nat) : Int))] from rfl] at hY
      replace hY := (show Aside _ from hY)
      clear g3 g4
      (repeat' first
    | simp (contextual := true) (maxSteps := 4000000) only [fwc, fwe, fww, reduceIte, ↓reduceIte, Nat.reduceAdd, Nat.reduceLeDiff, Nat.reduceEqDiff, Nat.reduceLT, Nat.reduceSub, reduceCtorEq, Int.reduceEq, Int.reduceLT, Int.reduceLE, Int.reduceNeg, Int.reduceToNat, Int.reduceAdd, Int.reduceSub, Nat.reduceMul, hxi, part_cell, wrap_u8n, wrap_succ, *]
    | (refine seqK_now ?_)
    | (refine retK_now ?_)
    | (refine retK_now' ?_)
    | (intro q hq)
    | (refine cond_intro (fun hc => ?_) (fun hc => ?_)))
      refine YieldA.mono hY.out fun r O3 h => ?_
      clear hY
      rcases h with ⟨rfl, h6⟩ | ⟨rfl, h6⟩
      · have h6 := (show Aside _ from h6)
        (repeat' first
    | simp (contextual := true) (maxSteps := 4000000) only [fwc, fwe, fww, reduceIte, ↓reduceIte, Nat.reduceAdd, Nat.reduceLeDiff, Nat.reduceEqDiff, Nat.reduceLT, Nat.reduceSub, reduceCtorEq, Int.reduceEq, Int.reduceLT, Int.reduceLE, Int.reduceNeg, Int.reduceToNat, Int.reduceAdd, Int.reduceSub, Nat.reduceMul, wrap_succ, *]
    | (refine seqK_now ?_)
    | (refine retK_now ?_)
    | (refine retK_now' ?_)
    | (intro q hq)
    | (refine cond_intro (fun hc => ?_) (fun hc => ?_)))
        refine loopK_now (min xs.length 40 - (i + 1)) (by omega) ?_
        rw [hI2.out]
        refine ⟨i + 1, by omega, rfl, h6.out, ?_⟩
        simp (contextual := true) (maxSteps := 4000000) only [fwc, fwe, fww, reduceIte, ↓reduceIte, Nat.reduceAdd, Nat.reduceLeDiff, Nat.reduceEqDiff, Nat.reduceLT, Nat.reduceSub, reduceCtorEq, Int.reduceEq, Int.reduceLT, Int.reduceLE, Int.reduceNeg, Int.reduceToNat, Int.reduceAdd, Int.reduceSub, Nat.reduceMul, envIn, *]
      · have h6 := (show Aside _ from h6)
        (repeat' first
    | simp (contextual := true) (maxSteps := 4000000) only [fwc, fwe, fww, reduceIte, ↓reduceIte, Nat.reduceAdd, Nat.reduceLeDiff, Nat.reduceEqDiff, Nat.reduceLT, Nat.reduceSub, reduceCtorEq, Int.reduceEq, Int.reduceLT, Int.reduceLE, Int.reduceNeg, Int.reduceToNat, Int.reduceAdd, Int.reduceSub, Nat.reduceMul, *]
    | (refine seqK_now ?_)
    | (refine retK_now ?_)
    | (refine retK_now' ?_)
    | (intro q hq)
    | (refine cond_intro (fun hc => ?_) (fun hc => ?_)))
        exact WeakR.now (.inr h6.out)
    · have hi : i = min xs.length 40 := by have := of_decide_eq_false hc; omega
      have hw : k < 4611686018427387904 := by omega
      subst hi
      have hk1 := (show Aside _ from hnx)
      clear hnx
      (repeat' first
    | simp (contextual := true) (maxSteps := 4000000) only [fwc, fwe, fww, reduceIte, ↓reduceIte, Nat.reduceAdd, Nat.reduceLeDiff, Nat.reduceEqDiff, Nat.reduceLT, Nat.reduceSub, reduceCtorEq, Int.reduceEq, Int.reduceLT, Int.reduceLE, Int.reduceNeg, Int.reduceToNat, Int.reduceAdd, Int.reduceSub, Nat.reduceMul, wrap_succ, *]
    | (refine seqK_now ?_)
    | (refine retK_now ?_)
    | (refine retK_now' ?_)
    | (intro q hq)
    | (refine cond_intro (fun hc => ?_) (fun hc => ?_)))
      refine loopK_now (2 - (k + 1)) (by omega) ?_
      rw [hI.out]
      refine ⟨k + 1, by omega, rfl, ?_, ?_⟩
      · rw [hk1.out]; exact h5.out
      · simp (contextual := true) (maxSteps := 4000000) only [fwc, fwe, fww, reduceIte, ↓reduceIte, Nat.reduceAdd, Nat.reduceLeDiff, Nat.reduceEqDiff, Nat.reduceLT, Nat.reduceSub, reduceCtorEq, Int.reduceEq, Int.reduceLT, Int.reduceLE, Int.reduceNeg, Int.reduceToNat, Int.reduceAdd, Int.reduceSub, Nat.reduceMul, envO, *]
  · have hk : k = 2 := by have := of_decide_eq_false hc; omega
    subst hk
    (repeat' first
    | simp (contextual := true) (maxSteps := 4000000) only [fwc, fwe, fww, reduceIte, ↓reduceIte, Nat.reduceAdd, Nat.reduceLeDiff, Nat.reduceEqDiff, Nat.reduceLT, Nat.reduceSub, reduceCtorEq, Int.reduceEq, Int.reduceLT, Int.reduceLE, Int.reduceNeg, Int.reduceToNat, Int.reduceAdd, Int.reduceSub, Nat.reduceMul, *]
    | (refine seqK_now ?_)
    | (refine retK_now ?_)
    | (refine retK_now' ?_)
    | (intro q hq)
    | (refine cond_intro (fun hc => ?_) (fun hc => ?_)))
    refine WeakR.now (.inl ?_)
    exact h2.out
end Go.Proofs.Ytlpngkeegjickaa

namespace Go.Proofs.Ytlpngkeegjickaa
open Go.Ab
attribute [local irreducible] WeakR WeakE CallA YieldA

/-- A bed. -/
def IsB (s : AV) (es : List AV) (F : List (List Id)) : Prop := IsL 1 s es ∧ es.length = F.length ∧ ∀ (i : Nat) (h : i < es.length) (h' : i < F.length), IsL 2 es[i] (F[i].map Id.av)
theorem IsB.stk {s : AV} {es : List AV} {F : List (List Id)} (h : IsB s es F) : StkAll es := by
  intro x hx
  obtain ⟨i, hi, rfl⟩ := List.mem_iff_getElem.1 hx
  exact ⟨_, h.2.2 i hi (by rw [← h.2.1]; exact hi)⟩

/-- All needles that are visited. -/
def visL (F B : List (List Id)) : List (List Id) := F.take 40 ++ B.take 40
def namesL (F B : List (List Id)) : List Id := (visL F B).flatten

theorem vis_is {f b : AV} {es fs : List AV} {F B : List (List Id)} (hf : IsB f es F) (hb : IsB b fs B) : (es.take 40 ++ fs.take 40).length = (visL F B).length ∧
    ∀ j (h : j < (es.take 40 ++ fs.take 40).length) (h' : j < (visL F B).length), IsL 2 (es.take 40 ++ fs.take 40)[j] ((visL F B)[j].map Id.av) := by
  have h1 := hf.2.1
  have h2 := hb.2.1
  refine ⟨by simp [visL, h1, h2], fun j h h' => ?_⟩
  unfold visL at h' ⊢
  by_cases hj : j < min 40 es.length
  · have e1 := List.getElem_append_left («as» := es.take 40) (bs := fs.take 40) (i := j) (by simp; omega) (h' := h)
    have e2 := List.getElem_append_left («as» := F.take 40) (bs := B.take 40) (i := j) (by simp; omega) (h' := h')
    rw [e1, e2, List.getElem_take, List.getElem_take]
    exact hf.2.2 j _ _
  · have e1 := List.getElem_append_right («as» := es.take 40) (bs := fs.take 40) (i := j) (by simp; omega) (h₂ := h)
    have e2 := List.getElem_append_right («as» := F.take 40) (bs := B.take 40) (i := j) (by simp; omega) (h₂ := h')
    rw [e1, e2, List.getElem_take, List.getElem_take]
    have : (List.take 40 es).length = (List.take 40 F).length := by simp [h1]
    simp only [this]
    exact hb.2.2 _ _ _

theorem flat_len {G : List (List Id)} (h : ∀ l ∈ G, l.length ≤ 1000) : G.flatten.length ≤ G.length * 1000 := by
  induction G with
  | nil => simp
  | cons l G ih =>
    have := h l (by simp)
    have := ih (fun l hl => h l (by simp [hl]))
    simp only [List.flatten_cons, List.length_append, List.length_cons]
    omega
theorem vis_le (F B : List (List Id)) : (visL F B).length ≤ 80 := by simp [visL]; omega
theorem take_flat (G : List (List Id)) (j : Nat) (h : j < G.length) : (G.take (j + 1)).flatten = (G.take j).flatten ++ G[j] := by
  rw [List.take_succ_eq_append_getElem h, List.flatten_append]
  simp

set_option maxHeartbeats 2000000 in
theorem names_ok (f b : AV) (es fs : List AV) (F B : List (List Id)) (hf : IsB f es F) (hb : IsB b fs B) (hs : ∀ l ∈ visL F B, l.length ≤ 1000) :
    PureA Try.prog 27 [.agg [f, b]] (frA 2 ((namesL F B).map Id.av)) := by
  intro O
  have hf1 := hf.1.cells
  have hb1 := hb.1.cells
  have hf2 := hf.1.stor
  have hb2 := hb.1.stor
  refine k27.call mix ?_
  unfold c27
  (repeat' first
    | simp (contextual := true) (maxSteps := 4000000) only [fwc, fwe, fww, reduceIte, ↓reduceIte, Nat.reduceAdd, Nat.reduceLeDiff, Nat.reduceEqDiff, Nat.reduceLT, Nat.reduceSub, reduceCtorEq, Int.reduceEq, Int.reduceLT, Int.reduceLE, Int.reduceNeg, Int.reduceToNat, Int.reduceAdd, Int.reduceSub, Nat.reduceMul, *]
    | (refine seqK_now ?_)
    | (refine retK_now ?_)
    | (refine retK_now' ?_)
    | (intro q hq)
    | (refine cond_intro (fun hc => ?_) (fun hc => ?_)))
  refine (all_ok f b hf1 hb1 hf2 hb2).use ?_
  (repeat' first
    | simp (contextual := true) (maxSteps := 4000000) only [fwc, fwe, fww, reduceIte, ↓reduceIte, Nat.reduceAdd, Nat.reduceLeDiff, Nat.reduceEqDiff, Nat.reduceLT, Nat.reduceSub, reduceCtorEq, Int.reduceEq, Int.reduceLT, Int.reduceLE, Int.reduceNeg, Int.reduceToNat, Int.reduceAdd, Int.reduceSub, Nat.reduceMul, *]
    | (refine seqK_now ?_)
    | (refine retK_now ?_)
    | (refine retK_now' ?_)
    | (intro q hq)
    | (refine cond_intro (fun hc => ?_) (fun hc => ?_)))
  refine cmd_range rfl ?_
  intro rid RR BB DD hid hY
  replace hY := (show Aside _ from hY)
  rename_i q1 hq1
  rw [upd_none, upd_none] at hid
  obtain ⟨hq2, hq3, hq4⟩ := hq
  obtain ⟨hid1, hid2, hid3, hid4, hid5⟩ := hid
  obtain ⟨hv1, hv2⟩ := vis_is hf hb
  have hvl := vis_le F B
  replace hs := (show Aside _ from hs)
  let J : Nat → Heap → Prop := fun j O' => ∃ s O0, O.sub (O0.del rid) ∧ O0 q = some (.arr 29 1 [s]) ∧ O0 rid = some RR ∧ OwN 28 2 O0 O' s ((((visL F B).take j).flatten).map Id.av)
  refine CallA.mono (all1_ok rid f b es fs hf.1 hb.1 hf.stk hb.stk _ J (fun _ => False) ?_ ?_) ?_
  · refine ⟨_, _, ?_, ?_, ?_, OwN.nil⟩
    · rw [del_upd_new (by rw [upd_none, upd_none]; exact ⟨hid1, hid2, hid3, hid4, hid5⟩)]
      exact sub_upd hq4 (sub_upd hq1 (Heap.sub_refl _))
    · rw [Heap.upd_ne _ _ hid2, Heap.upd_same]
    · exact Heap.upd_same _ _ _
  · intro j hj O1 hJ
    obtain ⟨s, O0, g1, g2, g3, g4⟩ := hJ
    have hj' : j < (visL F B).length := by rw [← hv1]; exact hj
    have hx := hv2 j hj hj'
    generalize (es.take 40 ++ fs.take 40)[j] = x at hx
    have g5 := g4.at_ g3
    have g6 := g4.at_ g2
    have g7 := g4.cells
    have hx1 := hx.cells
    refine hY.out [_, x] O1 _ g5 rfl ?_
    (repeat' first
    | simp (contextual := true) (maxSteps := 4000000) only [fwc, fwe, fww, reduceIte, ↓reduceIte, Nat.reduceAdd, Nat.reduceLeDiff, Nat.reduceEqDiff, Nat.reduceLT, Nat.reduceSub, reduceCtorEq, Int.reduceEq, Int.reduceLT, Int.reduceLE, Int.reduceNeg, Int.reduceToNat, Int.reduceAdd, Int.reduceSub, Nat.reduceMul, part_cell, *]
    | (refine seqK_now ?_)
    | (refine retK_now ?_)
    | (refine retK_now' ?_)
    | (intro q hq)
    | (refine cond_intro (fun hc => ?_) (fun hc => ?_)))
    have g8 := g4.put (x := BB) (show O0 rid ≠ none by rw [g3]; simp)
    refine own_app g8 hx ?_ ?_
    · have e1 := flat_len (G := (visL F B).take j) (fun l hl => hs.out l (List.mem_of_mem_take hl))
      have e2 := hs.out _ (List.getElem_mem hj')
      have e3 : ((visL F B).take j).length ≤ 80 := by simp; omega
      exact fits_of (by simp only [List.length_map]; omega) (by omega)
    intro s2 O2 h2
    have h3 := h2.at_ (q := q) (by rw [Heap.upd_ne _ _ hid2]; exact g2)
    have h4 := h2.at_ (q := rid) (Heap.upd_same _ _ _)
    have h5 := h2.cells
    have h6 := h2.stor
    clear g7 hx1
    (repeat' first
    | simp (contextual := true) (maxSteps := 4000000) only [fwc, fwe, fww, reduceIte, ↓reduceIte, Nat.reduceAdd, Nat.reduceLeDiff, Nat.reduceEqDiff, Nat.reduceLT, Nat.reduceSub, reduceCtorEq, Int.reduceEq, Int.reduceLT, Int.reduceLE, Int.reduceNeg, Int.reduceToNat, Int.reduceAdd, Int.reduceSub, Nat.reduceMul, *]
    | (refine seqK_now ?_)
    | (refine retK_now ?_)
    | (refine retK_now' ?_)
    | (intro q hq)
    | (refine cond_intro (fun hc => ?_) (fun hc => ?_)))
    refine .inl ⟨s2, ((O0.upd rid BB).upd q (.arr 29 1 [s2])).upd rid RR, ?_, ?_, ?_, ?_⟩
    · intro i o ho
      have := g1 i o ho
      rw [Heap.del_apply] at this ⊢
      split at this
      · cases this
      · rename_i hi
        rw [if_neg hi, Heap.upd_ne _ _ hi]
        by_cases hiq : i = q
        · rw [hiq, hq4] at ho; cases ho
        · rw [Heap.upd_ne _ _ hiq, Heap.upd_ne _ _ hi]; exact this
    · rw [Heap.upd_ne _ _ hid2, Heap.upd_same]
    · exact Heap.upd_same _ _ _
    · rw [take_flat _ _ hj', List.map_append]
      exact (h2.put (by rw [Heap.upd_ne _ _ hid2, g2]; simp)).put (upd_some (by rw [Heap.upd_same]; simp))
  · intro r O' h
    rcases h with ⟨s, O0, g1, g2, g3, g4⟩ | h
    · refine .inl ⟨g4.at_ g3, ?_⟩
      rw [hv1, List.take_of_length_le (Nat.le_refl _)] at g4
      have g5 := g4.del (q := rid) (by rw [g3]; simp)
      have g6 := g5.at_ (q := q) (by rw [Heap.del_ne _ hid2]; exact g2)
      have g7 := g4.cells
      (repeat' first
    | simp (contextual := true) (maxSteps := 4000000) only [fwc, fwe, fww, reduceIte, ↓reduceIte, Nat.reduceAdd, Nat.reduceLeDiff, Nat.reduceEqDiff, Nat.reduceLT, Nat.reduceSub, reduceCtorEq, Int.reduceEq, Int.reduceLT, Int.reduceLE, Int.reduceNeg, Int.reduceToNat, Int.reduceAdd, Int.reduceSub, Nat.reduceMul, part_cell, *]
    | (refine seqK_now ?_)
    | (refine retK_now ?_)
    | (refine retK_now' ?_)
    | (intro q hq)
    | (refine cond_intro (fun hc => ?_) (fun hc => ?_)))
      exact g5.pure g1 rfl
    · exact h.elim
end Go.Proofs.Ytlpngkeegjickaa

namespace Go.Proofs.Ytlpngkeegjickaa
open Go.Ab
attribute [local irreducible] WeakR WeakE CallA YieldA

theorem Id.ext' {p q : Id} : p = q ↔ p.y = q.y ∧ p.n = q.n := by
  cases p; cases q; simp
theorem id_eq (p q : Id) : (decide (p.y = q.y) && (decide (p.n = q.n) && true)) = decide (p = q) := by
  rw [Bool.eq_iff_iff]
  simp [Id.ext']
theorem le_id (p q : Id) : leavesEq [true, true] [.val (.int .u8 p.y), .val (.int .i64 p.n)] [.val (.int .u8 q.y), .val (.int .i64 q.n)] = some (decide (p = q)) := by
  rw [le_int, le_int, le_nil]
  simp [← id_eq]
theorem keyEq_id (p q : Id) : keyEqA [true, true] true p.av q.av = some (decide (p = q)) := le_id p q
theorem keyOK_id (p : Id) : keyOKA [true, true] true p.av = true := by
  unfold keyOKA
  rw [keyEq_id]
  rfl

def seenA (M : List Id) : List (AV × AV) := M.map fun p => (p.av, .val (.bool true))
theorem find_not {p : Id} : ∀ {M : List Id} {k : Nat}, p ∉ M → findA [true, true] true p.av (seenA M) k = some none
  | [], k, _ => rfl
  | q :: M, k, h => by
    have h1 : p ≠ q := fun e => h (by simp [e])
    have h2 : p ∉ M := fun e => h (by simp [e])
    show (match keyEqA [true, true] true p.av q.av with | some true => some (some (k, AV.val (.bool true))) | some false => findA [true, true] true p.av (seenA M) (k + 1) | none => none) = some none
    rw [keyEq_id, decide_eq_false h1]
    exact find_not h2
theorem find_in {p : Id} : ∀ {M : List Id} {k : Nat}, p ∈ M → ∃ i, findA [true, true] true p.av (seenA M) k = some (some (i, .val (.bool true)))
  | [], k, h => by cases h
  | q :: M, k, h => by
    have e : findA [true, true] true p.av (seenA (q :: M)) k = match keyEqA [true, true] true p.av q.av with | some true => some (some (k, AV.val (.bool true))) | some false => findA [true, true] true p.av (seenA M) (k + 1) | none => none := rfl
    rw [e, keyEq_id]
    by_cases hpq : p = q
    · rw [decide_eq_true hpq]; exact ⟨k, rfl⟩
    · rw [decide_eq_false hpq]
      rcases List.mem_cons.1 h with h | h
      · exact absurd h hpq
      · exact find_in h

theorem seen_look {qm : Nat} {M : List Id} (p : Id) (O1 : Heap) (h : O1 qm = some (.mp (seenA M))) : lookupA O1 false [true, true] true (.val (.bool false)) (.mapr qm) (.agg [.val (.int .u8 p.y), .val (.int .i64 p.n)]) = some (.val (.bool (decide (p ∈ M)))) := by
  by_cases hp : p ∈ M
  · obtain ⟨i, hi⟩ := find_in (k := 0) hp
    rw [show AV.agg [.val (.int .u8 p.y), .val (.int .i64 p.n)] = p.av from rfl, lookup_at h (keyOK_id p) hi, decide_eq_true hp]
    rfl
  · rw [show AV.agg [.val (.int .u8 p.y), .val (.int .i64 p.n)] = p.av from rfl, lookup_at h (keyOK_id p) (find_not hp), decide_eq_false hp]
    rfl
theorem seen_set {qm : Nat} {M : List Id} (p : Id) (hp : p ∉ M) (O1 : Heap) (h : O1 qm = some (.mp (seenA M))) : mapsetA O1 [true, true] true (.mapr qm) (.agg [.val (.int .u8 p.y), .val (.int .i64 p.n)]) (.val (.bool true)) = some (O1.upd qm (.mp (seenA (M ++ [p])))) := by
  rw [show AV.agg [.val (.int .u8 p.y), .val (.int .i64 p.n)] = p.av from rfl, mapset_new h (keyOK_id p) (find_not hp)]
  unfold seenA
  rw [List.map_append]
  rfl

def env31 (s : AV) (n qm i : Nat) : Env := ((((Env.upd (fun _ => .junk) 9 (.val (.int .i64 i))).upd 8 (.val (.int .i64 n))).upd 7 s).upd 3 (.mapr qm))

set_option maxHeartbeats 2000000 in
theorem twice_ok (s : AV) (L : List Id) (hs : IsL 2 s (L.map Id.av)) (hl : L.length ≤ 1048576) : PureA Try.prog 31 [s] (.val (.bool (!decide L.Nodup))) := by
  intro O
  have h1 := hs.len
  have h2 := hs.cells
  rw [List.length_map] at h1
  refine k31.call mix ?_
  unfold c31
  (repeat' first
    | simp (contextual := true) (maxSteps := 4000000) only [fwc, fwe, fww, reduceIte, ↓reduceIte, Nat.reduceAdd, Nat.reduceLeDiff, Nat.reduceEqDiff, Nat.reduceLT, Nat.reduceSub, reduceCtorEq, Int.reduceEq, Int.reduceLT, Int.reduceLE, Int.reduceNeg, Int.reduceToNat, Int.reduceAdd, Int.reduceSub, Nat.reduceMul, *]
    | (refine seqK_now ?_)
    | (refine retK_now ?_)
    | (refine retK_now' ?_)
    | (intro q hq)
    | (refine cond_intro (fun hc => ?_) (fun hc => ?_)))
  revert q
  intro qm hqm
  replace hqm : Aside (O qm = none) := hqm
  obtain ⟨I, hI⟩ := hideI (fun m e O' => ∃ i : Nat, i ≤ L.length ∧ m = L.length - i ∧ (L.take i).Nodup ∧ O' = O.upd qm (.mp (seenA (L.take i))) ∧ e = env31 s L.length qm i)
  refine cmd_loop I L.length (by
    rw [hI.out]
    exact ⟨0, by omega, rfl, by simp, rfl, rfl⟩) ?_
  intro m e O' hh
  rw [hI.out] at hh
  obtain ⟨i, h3, rfl, h4, rfl, rfl⟩ := hh
  replace h4 : Aside (L.take i).Nodup := h4
  unfold env31
  (repeat' first
    | simp (contextual := true) (maxSteps := 4000000) only [fwc, fwe, fww, reduceIte, ↓reduceIte, Nat.reduceAdd, Nat.reduceLeDiff, Nat.reduceEqDiff, Nat.reduceLT, Nat.reduceSub, reduceCtorEq, Int.reduceEq, Int.reduceLT, Int.reduceLE, Int.reduceNeg, Int.reduceToNat, Int.reduceAdd, Int.reduceSub, Nat.reduceMul, ilt_nat, *]
    | (refine seqK_now ?_)
    | (refine retK_now ?_)
    | (refine retK_now' ?_)
    | (intro q hq)
    | (refine cond_intro (fun hc => ?_) (fun hc => ?_)))
  · have hi : i < L.length := of_decide_eq_true hc
    clear hc
    have hia := hs.ia (i := i) (by rw [List.length_map]; exact hi)
    rw [List.getElem_map] at hia
    have hnd : (L.take (i + 1)).Nodup ↔ L[i] ∉ L.take i := by
      rw [List.take_succ_eq_append_getElem hi, List.nodup_append]
      simp only [h4.out, true_and, List.nodup_cons, List.not_mem_nil, not_false_eq_true, List.nodup_nil, and_true, List.mem_singleton]
      constructor
      · intro h hm; exact h _ hm _ rfl rfl
      · intro h; exact fun a ha b hb hab => h (hb ▸ hab ▸ ha)
    have htk := List.take_succ_eq_append_getElem hi
    obtain ⟨p, hp⟩ : ∃ p, L[i] = p := ⟨_, rfl⟩
    rw [hp] at hia hnd htk
    rw [show p.av = .agg [.val (.int .u8 p.y), .val (.int .i64 p.n)] from rfl] at hia
    have hlk := seen_look (qm := qm) (M := L.take i) p
    replace htk := (show Aside _ from htk)
    replace hnd := (show Aside _ from hnd)
    replace hp := (show Aside _ from hp)
    have hw : i < 4611686018427387904 := by omega
    by_cases hm : p ∈ L.take i
    · (repeat' first
    | simp (contextual := true) (maxSteps := 4000000) only [fwc, fwe, fww, reduceIte, ↓reduceIte, Nat.reduceAdd, Nat.reduceLeDiff, Nat.reduceEqDiff, Nat.reduceLT, Nat.reduceSub, reduceCtorEq, Int.reduceEq, Int.reduceLT, Int.reduceLE, Int.reduceNeg, Int.reduceToNat, Int.reduceAdd, Int.reduceSub, Nat.reduceMul, part_agg, *]
    | (refine seqK_now ?_)
    | (refine retK_now ?_)
    | (refine retK_now' ?_)
    | (intro q hq)
    | (refine cond_intro (fun hc => ?_) (fun hc => ?_)))
      refine WeakR.pure ?_ ?_
      · refine sub_upd (by simp [*]) (sub_upd hqm.out (Heap.sub_refl _))
      · have : ¬ L.Nodup := fun h => by
          have h' := h.sublist (List.take_sublist (i + 1) L)
          exact (hnd.out.1 h') hm
        simp [this]
    · have hst := seen_set (qm := qm) (M := L.take i) p hm
      (repeat' first
    | simp (contextual := true) (maxSteps := 4000000) only [fwc, fwe, fww, reduceIte, ↓reduceIte, Nat.reduceAdd, Nat.reduceLeDiff, Nat.reduceEqDiff, Nat.reduceLT, Nat.reduceSub, reduceCtorEq, Int.reduceEq, Int.reduceLT, Int.reduceLE, Int.reduceNeg, Int.reduceToNat, Int.reduceAdd, Int.reduceSub, Nat.reduceMul, part_agg, *]
    | (refine seqK_now ?_)
    | (refine retK_now ?_)
    | (refine retK_now' ?_)
    | (intro q hq)
    | (refine cond_intro (fun hc => ?_) (fun hc => ?_)))
      refine loopK_drop (O.upd qm (.mp (seenA (L.take (i + 1))))) ?_ (L.length - (i + 1)) (by omega) ?_
      · rw [htk.out]
        exact sub_both (sub_upd hq.2.2 (sub_upd hqm.out (Heap.sub_refl _)))
      · rw [hI.out]
        refine ⟨i + 1, by omega, rfl, hnd.out.2 hm, rfl, ?_⟩
        simp (contextual := true) (maxSteps := 4000000) only [fwc, fwe, fww, reduceIte, ↓reduceIte, Nat.reduceAdd, Nat.reduceLeDiff, Nat.reduceEqDiff, Nat.reduceLT, Nat.reduceSub, reduceCtorEq, Int.reduceEq, Int.reduceLT, Int.reduceLE, Int.reduceNeg, Int.reduceToNat, Int.reduceAdd, Int.reduceSub, Nat.reduceMul, env31, wrap_succ, *]
  · have : i = L.length := by have := of_decide_eq_false hc; omega
    subst this
    refine WeakR.pure (sub_upd hqm.out (Heap.sub_refl _)) ?_
    have := h4.out
    rw [List.take_length] at this
    simp [this]
end Go.Proofs.Ytlpngkeegjickaa

namespace Go.Proofs.Ytlpngkeegjickaa
open Go.Ab
attribute [local irreducible] WeakR WeakE CallA YieldA

def idxOf (q : Id → Bool) (l : List Id) : Int := match l.findIdx? q with
  | some i => i
  | none => -1
theorem idx_some {q : Id → Bool} {l : List Id} {i : Nat} (hi : i < l.length) (h1 : q l[i] = true) (h2 : ∀ j (h : j < l.length), j < i → q l[j] = false) : idxOf q l = i := by
  have : l.findIdx? q = some i := by
    rw [List.findIdx?_eq_some_iff_getElem]
    exact ⟨hi, h1, fun j hj => by simp [h2 j (by omega) hj]⟩
  simp [idxOf, this]
theorem idx_none {q : Id → Bool} {l : List Id} (h2 : ∀ j (h : j < l.length), q l[j] = false) : idxOf q l = -1 := by
  have : l.findIdx? q = none := by
    rw [List.findIdx?_eq_none_iff]
    intro x hx
    obtain ⟨j, hj, rfl⟩ := List.mem_iff_getElem.1 hx
    exact h2 j hj
  simp [idxOf, this]
theorem idx_any (q : Id → Bool) (l : List Id) : decide (0 ≤ idxOf q l) = l.any q := by
  unfold idxOf
  cases h : l.findIdx? q with
  | none =>
    have : l.any q = false := by
      rw [List.findIdx?_eq_none_iff] at h
      simpa using h
    rw [this]; rfl
  | some i =>
    rw [List.findIdx?_eq_some_iff_getElem] at h
    obtain ⟨hi, hq, _⟩ := h
    have : l.any q = true := List.any_eq_true.2 ⟨_, List.getElem_mem hi, hq⟩
    rw [this]; simp

def env52 (s : AV) (n : Nat) (f : FuncId) (i : Nat) : Env := (((Env.upd (fun _ => .junk) 8 (.val (.int .i64 i))).upd 7 (.val (.int .i64 n))).upd 1 (.clo (.func f) [] [])).upd 0 s

theorem IndexFunc_ok (s : AV) (l : List Id) (f : FuncId) (q : Id → Bool) (hs : IsL 2 s (l.map Id.av)) (hl : l.length ≤ 1048576) (hq : ∀ x, PureA Try.prog f [x.av] (.val (.bool (q x)))) :
    PureA Try.prog 52 [s, .clo (.func f) [] []] (.val (.int .i64 (idxOf q l))) := by
  intro O
  have h1 := hs.len
  rw [List.length_map] at h1
  refine k52.call mix ?_
  unfold c52
  (repeat' first
    | simp (contextual := true) (maxSteps := 4000000) only [fwc, fwe, fww, reduceIte, ↓reduceIte, Nat.reduceAdd, Nat.reduceLeDiff, Nat.reduceEqDiff, Nat.reduceLT, Nat.reduceSub, reduceCtorEq, Int.reduceEq, Int.reduceLT, Int.reduceLE, Int.reduceNeg, Int.reduceToNat, Int.reduceAdd, Int.reduceSub, Nat.reduceMul, *]
    | (refine seqK_now ?_)
    | (refine retK_now ?_)
    | (refine retK_now' ?_)
    | (intro q hq)
    | (refine cond_intro (fun hc => ?_) (fun hc => ?_)))
  obtain ⟨I, hI⟩ := hideI (fun m e O' => ∃ i : Nat, i ≤ l.length ∧ m = l.length - i ∧ (∀ j (h : j < l.length), j < i → q l[j] = false) ∧ O' = O ∧ e = env52 s l.length f i)
  refine cmd_loop I l.length (by rw [hI.out]; exact ⟨0, by omega, rfl, fun j h hj => by omega, rfl, rfl⟩) ?_
  intro m e O' hh
  rw [hI.out] at hh
  obtain ⟨i, h3, rfl, h2, rfl, rfl⟩ := hh
  replace h2 := (show Aside _ from h2)
  unfold env52
  (repeat' first
    | simp (contextual := true) (maxSteps := 4000000) only [fwc, fwe, fww, reduceIte, ↓reduceIte, Nat.reduceAdd, Nat.reduceLeDiff, Nat.reduceEqDiff, Nat.reduceLT, Nat.reduceSub, reduceCtorEq, Int.reduceEq, Int.reduceLT, Int.reduceLE, Int.reduceNeg, Int.reduceToNat, Int.reduceAdd, Int.reduceSub, Nat.reduceMul, ilt_nat, *]
    | (refine seqK_now ?_)
    | (refine retK_now ?_)
    | (refine retK_now' ?_)
    | (intro q hq)
    | (refine cond_intro (fun hc => ?_) (fun hc => ?_)))
  · have hi : i < l.length := of_decide_eq_true hc
    clear hc
    have hia := hs.ia (i := i) (by rw [List.length_map]; exact hi)
    rw [List.getElem_map] at hia
    have hq' := hq l[i]
    obtain ⟨p, hp⟩ : ∃ p, l[i] = p := ⟨_, rfl⟩
    rw [hp] at hia hq'
    replace hp := (show Aside _ from hp)
    have hp2 : partA p.av 0 2 true = some p.av := part_flat ⟨_, rfl, rfl⟩
    have hw : i < 4611686018427387904 := by omega
    (repeat' first
    | simp (contextual := true) (maxSteps := 4000000) only [fwc, fwe, fww, reduceIte, ↓reduceIte, Nat.reduceAdd, Nat.reduceLeDiff, Nat.reduceEqDiff, Nat.reduceLT, Nat.reduceSub, reduceCtorEq, Int.reduceEq, Int.reduceLT, Int.reduceLE, Int.reduceNeg, Int.reduceToNat, Int.reduceAdd, Int.reduceSub, Nat.reduceMul, *]
    | (refine seqK_now ?_)
    | (refine retK_now ?_)
    | (refine retK_now' ?_)
    | (intro q hq)
    | (refine cond_intro (fun hc => ?_) (fun hc => ?_)))
    refine hq'.use ?_
    (repeat' first
    | simp (contextual := true) (maxSteps := 4000000) only [fwc, fwe, fww, reduceIte, ↓reduceIte, Nat.reduceAdd, Nat.reduceLeDiff, Nat.reduceEqDiff, Nat.reduceLT, Nat.reduceSub, reduceCtorEq, Int.reduceEq, Int.reduceLT, Int.reduceLE, Int.reduceNeg, Int.reduceToNat, Int.reduceAdd, Int.reduceSub, Nat.reduceMul, wrap_succ, *]
    | (refine seqK_now ?_)
    | (refine retK_now ?_)
    | (refine retK_now' ?_)
    | (intro q hq)
    | (refine cond_intro (fun hc => ?_) (fun hc => ?_)))
    · exact WeakR.pure (Heap.sub_refl _) (by rw [idx_some hi (by rw [hp.out]; exact hc) h2.out])
    · refine loopK_now (l.length - (i + 1)) (by omega) ?_
      rw [hI.out]
      refine ⟨i + 1, by omega, rfl, fun j h hj => ?_, rfl, ?_⟩
      · rcases Nat.lt_or_ge j i with h' | h'
        · exact h2.out j h h'
        · have : j = i := by omega
          subst this
          rw [hp.out]
          exact hc
      · simp (contextual := true) (maxSteps := 4000000) only [fwc, fwe, fww, reduceIte, ↓reduceIte, Nat.reduceAdd, Nat.reduceLeDiff, Nat.reduceEqDiff, Nat.reduceLT, Nat.reduceSub, reduceCtorEq, Int.reduceEq, Int.reduceLT, Int.reduceLE, Int.reduceNeg, Int.reduceToNat, Int.reduceAdd, Int.reduceSub, Nat.reduceMul, env52, wrap_succ, *]
  · have hi : ¬ i < l.length := of_decide_eq_false hc
    refine WeakR.pure (by repeat (first | exact Heap.sub_refl _ | refine sub_upd (by simp only [*]) ?_)) ?_
    rw [idx_none (fun j h => h2.out j h (by omega))]

theorem ContainsFunc_ok (s : AV) (l : List Id) (f : FuncId) (q : Id → Bool) (hs : IsL 2 s (l.map Id.av)) (hl : l.length ≤ 1048576) (hq : ∀ x, PureA Try.prog f [x.av] (.val (.bool (q x)))) :
    PureA Try.prog 28 [s, .clo (.func f) [] []] (.val (.bool (l.any q))) := by
  intro O
  refine k28.call mix ?_
  unfold c28
  (repeat' first
    | simp (contextual := true) (maxSteps := 4000000) only [fwc, fwe, fww, reduceIte, ↓reduceIte, Nat.reduceAdd, Nat.reduceLeDiff, Nat.reduceEqDiff, Nat.reduceLT, Nat.reduceSub, reduceCtorEq, Int.reduceEq, Int.reduceLT, Int.reduceLE, Int.reduceNeg, Int.reduceToNat, Int.reduceAdd, Int.reduceSub, Nat.reduceMul, *]
    | (refine seqK_now ?_)
    | (refine retK_now ?_)
    | (refine retK_now' ?_)
    | (intro q hq)
    | (refine cond_intro (fun hc => ?_) (fun hc => ?_)))
  refine (IndexFunc_ok s l f q hs hl hq).use ?_
  (repeat' first
    | simp (contextual := true) (maxSteps := 4000000) only [fwc, fwe, fww, reduceIte, ↓reduceIte, Nat.reduceAdd, Nat.reduceLeDiff, Nat.reduceEqDiff, Nat.reduceLT, Nat.reduceSub, reduceCtorEq, Int.reduceEq, Int.reduceLT, Int.reduceLE, Int.reduceNeg, Int.reduceToNat, Int.reduceAdd, Int.reduceSub, Nat.reduceMul, *]
    | (refine seqK_now ?_)
    | (refine retK_now ?_)
    | (refine retK_now' ?_)
    | (intro q hq)
    | (refine cond_intro (fun hc => ?_) (fun hc => ?_)))
  refine WeakR.pure (by repeat (first | exact Heap.sub_refl _ | refine sub_upd (by simp only [*]) ?_)) ?_
  rw [idx_any]

theorem bad1_ok (p : Id) : PureA Try.prog 29 [p.av] (.val (.bool (!named p))) := by
  intro O
  have h := Named_ok p
  unfold Id.av at h
  refine k29.call mix ?_
  unfold c29 Id.av
  (repeat' first
    | simp (contextual := true) (maxSteps := 4000000) only [fwc, fwe, fww, reduceIte, ↓reduceIte, Nat.reduceAdd, Nat.reduceLeDiff, Nat.reduceEqDiff, Nat.reduceLT, Nat.reduceSub, reduceCtorEq, Int.reduceEq, Int.reduceLT, Int.reduceLE, Int.reduceNeg, Int.reduceToNat, Int.reduceAdd, Int.reduceSub, Nat.reduceMul, *]
    | (refine seqK_now ?_)
    | (refine retK_now ?_)
    | (refine retK_now' ?_)
    | (intro q hq)
    | (refine cond_intro (fun hc => ?_) (fun hc => ?_)))
  refine h.use ?_
  (repeat' first
    | simp (contextual := true) (maxSteps := 4000000) only [fwc, fwe, fww, reduceIte, ↓reduceIte, Nat.reduceAdd, Nat.reduceLeDiff, Nat.reduceEqDiff, Nat.reduceLT, Nat.reduceSub, reduceCtorEq, Int.reduceEq, Int.reduceLT, Int.reduceLE, Int.reduceNeg, Int.reduceToNat, Int.reduceAdd, Int.reduceSub, Nat.reduceMul, *]
    | (refine seqK_now ?_)
    | (refine retK_now ?_)
    | (refine retK_now' ?_)
    | (intro q hq)
    | (refine cond_intro (fun hc => ?_) (fun hc => ?_)))
  refine WeakR.pure (by repeat (first | exact Heap.sub_refl _ | refine sub_upd (by simp only [*]) ?_)) ?_
  rfl

theorem sub_updel {O A : Heap} {i r : Nat} {x : AObj} (h : O i = none) (hs : O.sub (A.del r)) : O.sub ((A.upd i x).del r) := by
  intro j o hj
  have h1 := hs j o hj
  have hji : ¬ j = i := fun e => by rw [e, h] at hj; cases hj
  rw [Heap.del_apply] at h1 ⊢
  split at h1
  · cases h1
  · rename_i hr
    rw [if_neg hr, Heap.upd_ne _ _ hji]
    exact h1

def badNames (l : List Id) : Bool := l.any fun p => !named p
def checkL (F B : List (List Id)) : Int := if (decide (40 < F.length) || decide (40 < B.length)) = true then 9 else if (visL F B).any (fun l => decide (4 < l.length)) = true then 9 else if badNames (namesL F B) = true then 1 else if (!decide (namesL F B).Nodup) = true then 8 else 0

set_option maxHeartbeats 2000000 in
theorem Check_ok (f b : AV) (es fs : List AV) (F B : List (List Id)) (hf : IsB f es F) (hb : IsB b fs B) :
    PureA Try.prog 11 [.agg [f, b]] (.val (.int .i64 (checkL F B))) := by
  intro O
  have hf1 := hf.1.cells
  have hb1 := hb.1.cells
  have hf2 := hf.1.stor
  have hb2 := hb.1.stor
  have hf3 := hf.1.len
  have hb3 := hb.1.len
  rw [hf.2.1] at hf3
  rw [hb.2.1] at hb3
  have d1 : decide ((40 : Int) < (F.length : Int)) = decide (40 < F.length) := decide_eq_decide.2 (by omega)
  have d2 : decide ((40 : Int) < (B.length : Int)) = decide (40 < B.length) := decide_eq_decide.2 (by omega)
  refine k11.call mix ?_
  unfold c11
  (repeat' first
    | simp (contextual := true) (maxSteps := 4000000) only [fwc, fwe, fww, reduceIte, ↓reduceIte, Nat.reduceAdd, Nat.reduceLeDiff, Nat.reduceEqDiff, Nat.reduceLT, Nat.reduceSub, reduceCtorEq, Int.reduceEq, Int.reduceLT, Int.reduceLE, Int.reduceNeg, Int.reduceToNat, Int.reduceAdd, Int.reduceSub, Nat.reduceMul, part_cell, *]
    | (refine seqK_now ?_)
    | (refine retK_now ?_)
    | (refine retK_now' ?_)
    | (intro q hq)
    | (refine cond_intro (fun hc => ?_) (fun hc => ?_)))
  · refine WeakR.pure (by repeat (first | exact Heap.sub_refl _ | refine sub_upd (by simp only [*]) ?_)) ?_
    rw [checkL, if_pos hc]
  replace hc := (show Aside _ from hc)
  refine (all_ok f b hf1 hb1 hf2 hb2).use ?_
  (repeat' first
    | simp (contextual := true) (maxSteps := 4000000) only [fwc, fwe, fww, reduceIte, ↓reduceIte, Nat.reduceAdd, Nat.reduceLeDiff, Nat.reduceEqDiff, Nat.reduceLT, Nat.reduceSub, reduceCtorEq, Int.reduceEq, Int.reduceLT, Int.reduceLE, Int.reduceNeg, Int.reduceToNat, Int.reduceAdd, Int.reduceSub, Nat.reduceMul, *]
    | (refine seqK_now ?_)
    | (refine retK_now ?_)
    | (refine retK_now' ?_)
    | (intro q hq)
    | (refine cond_intro (fun hc => ?_) (fun hc => ?_)))
  refine cmd_range rfl ?_
  intro rid RR BB DD hid hY
  replace hY := (show Aside _ from hY)
  rename_i q1 hq1
  rw [upd_none, upd_none] at hid
  obtain ⟨hq2, hq3, hq4⟩ := hq
  obtain ⟨hid1, hid2, hid3, hid4, hid5⟩ := hid
  obtain ⟨hv1, hv2⟩ := vis_is hf hb
  have hvl := vis_le F B
  let J : Nat → Heap → Prop := fun j O' => (∀ i (h : i < (visL F B).length), i < j → (visL F B)[i].length ≤ 4) ∧ O' rid = some RR ∧ O' q1 = some (.arr 35 2 [.agg [f, b]]) ∧ O' q = some (.arr 37 1 [.val (.int .i64 0)]) ∧ O.sub (O'.del rid)
  let Z : Heap → Prop := fun O' => (∃ i, ∃ (h : i < (visL F B).length), 4 < (visL F B)[i].length) ∧ O' rid = some (DD .ret) ∧ O' q = some (.arr 37 1 [.val (.int .i64 9)]) ∧ O.sub (O'.del rid)
  refine CallA.mono (all1_ok rid f b es fs hf.1 hb.1 hf.stk hb.stk _ J Z ?_ ?_) ?_
  · refine ⟨fun i h h' => by omega, Heap.upd_same _ _ _, ?_, ?_, ?_⟩
    · rw [Heap.upd_ne _ _ hid4, Heap.upd_ne _ _ hq3, Heap.upd_same]
    · rw [Heap.upd_ne _ _ hid2, Heap.upd_same]
    · rw [del_upd_new (by rw [upd_none, upd_none]; exact ⟨hid1, hid2, hid3, hid4, hid5⟩)]
      exact sub_upd hq4 (sub_upd hq1 (Heap.sub_refl _))
  · intro j hj O1 hJ
    obtain ⟨g1, g2, g3, g4, g5⟩ := hJ
    have hj' : j < (visL F B).length := by rw [← hv1]; exact hj
    have hx := hv2 j hj hj'
    generalize (es.take 40 ++ fs.take 40)[j] = x at hx
    have hx1 := hx.len
    rw [List.length_map] at hx1
    have d3 : decide ((4 : Int) < ((visL F B)[j].length : Int)) = decide (4 < (visL F B)[j].length) := decide_eq_decide.2 (by omega)
    replace g1 := (show Aside _ from g1)
    refine hY.out [_, x] O1 _ g2 rfl ?_
    (repeat' first
    | simp (contextual := true) (maxSteps := 4000000) only [fwc, fwe, fww, reduceIte, ↓reduceIte, Nat.reduceAdd, Nat.reduceLeDiff, Nat.reduceEqDiff, Nat.reduceLT, Nat.reduceSub, reduceCtorEq, Int.reduceEq, Int.reduceLT, Int.reduceLE, Int.reduceNeg, Int.reduceToNat, Int.reduceAdd, Int.reduceSub, Nat.reduceMul, *]
    | (refine seqK_now ?_)
    | (refine retK_now ?_)
    | (refine retK_now' ?_)
    | (intro q hq)
    | (refine cond_intro (fun hc => ?_) (fun hc => ?_)))
    · refine .inr ⟨⟨j, hj', of_decide_eq_true hc⟩, Heap.upd_same _ _ _, ?_, sub_updel hid5 (sub_updel hq4 (sub_updel hid5 g5))⟩
      rw [Heap.upd_ne _ _ hid2, Heap.upd_same]
    · refine .inl ⟨?_, Heap.upd_same _ _ _, ?_, ?_, sub_updel hid5 g5⟩
      · intro i h h'
        rcases Nat.lt_or_ge i j with h2 | h2
        · exact g1.out i h h2
        · have : i = j := by omega
          subst this
          have := of_decide_eq_false hc
          omega
      · rw [Heap.upd_ne _ _ hid4]; exact g3
      · rw [Heap.upd_ne _ _ hid2]; exact g4
  · intro r O' h
    rcases h with ⟨g1, g2, g3, g4, g5⟩ | ⟨g1, g2, g3, g4⟩
    · rw [hv1] at g1
      have h4 : (visL F B).any (fun l => decide (4 < l.length)) = false := by
        rw [List.any_eq_false]
        intro l hl
        obtain ⟨i, hi, rfl⟩ := List.mem_iff_getElem.1 hl
        have := g1 i hi hi
        simp; omega
      have hle : ∀ l ∈ visL F B, l.length ≤ 1000 := fun l hl => by
        obtain ⟨i, hi, rfl⟩ := List.mem_iff_getElem.1 hl
        have := g1 i hi hi
        omega
      clear g1
      refine .inl ⟨g2, ?_⟩
      have hn := names_ok f b es fs F B hf hb hle
      have hL := frA_L 2 ((namesL F B).map Id.av)
      have hnl : (namesL F B).length ≤ 1048576 := by
        have := flat_len hle
        unfold namesL
        omega
      have hcf := ContainsFunc_ok _ (namesL F B) 29 (fun p => !named p) hL hnl (fun x => bad1_ok x)
      have htw := twice_ok _ _ hL hnl
      generalize frA 2 ((namesL F B).map Id.av) = nm at hn hcf htw
      replace g5 := (show Aside _ from g5)
      replace hle := (show Aside _ from hle)
      replace h4 := (show Aside _ from h4)
      have g6 : (O'.del rid) q1 = some (.arr 35 2 [.agg [f, b]]) := by rw [Heap.del_ne _ hid4]; exact g3
      have g7 : (O'.del rid) q = some (.arr 37 1 [.val (.int .i64 0)]) := by rw [Heap.del_ne _ hid2]; exact g4
      generalize O'.del rid = O2 at g5 g6 g7
      clear g2 g3 g4 O'
      (repeat' first
    | simp (contextual := true) (maxSteps := 4000000) only [fwc, fwe, fww, reduceIte, ↓reduceIte, Nat.reduceAdd, Nat.reduceLeDiff, Nat.reduceEqDiff, Nat.reduceLT, Nat.reduceSub, reduceCtorEq, Int.reduceEq, Int.reduceLT, Int.reduceLE, Int.reduceNeg, Int.reduceToNat, Int.reduceAdd, Int.reduceSub, Nat.reduceMul, part_cell, part_agg, *]
    | (refine seqK_now ?_)
    | (refine retK_now ?_)
    | (refine retK_now' ?_)
    | (intro q hq)
    | (refine cond_intro (fun hc => ?_) (fun hc => ?_)))
      refine hn.use ?_
      (repeat' first
    | simp (contextual := true) (maxSteps := 4000000) only [fwc, fwe, fww, reduceIte, ↓reduceIte, Nat.reduceAdd, Nat.reduceLeDiff, Nat.reduceEqDiff, Nat.reduceLT, Nat.reduceSub, reduceCtorEq, Int.reduceEq, Int.reduceLT, Int.reduceLE, Int.reduceNeg, Int.reduceToNat, Int.reduceAdd, Int.reduceSub, Nat.reduceMul, *]
    | (refine seqK_now ?_)
    | (refine retK_now ?_)
    | (refine retK_now' ?_)
    | (intro q hq)
    | (refine cond_intro (fun hc => ?_) (fun hc => ?_)))
      refine hcf.use ?_
      (repeat' first
    | simp (contextual := true) (maxSteps := 4000000) only [fwc, fwe, fww, reduceIte, ↓reduceIte, Nat.reduceAdd, Nat.reduceLeDiff, Nat.reduceEqDiff, Nat.reduceLT, Nat.reduceSub, reduceCtorEq, Int.reduceEq, Int.reduceLT, Int.reduceLE, Int.reduceNeg, Int.reduceToNat, Int.reduceAdd, Int.reduceSub, Nat.reduceMul, *]
    | (refine seqK_now ?_)
    | (refine retK_now ?_)
    | (refine retK_now' ?_)
    | (intro q hq)
    | (refine cond_intro (fun hc => ?_) (fun hc => ?_)))
      · refine WeakR.pure (sub_upd hq4 g5.out) ?_
        rename_i hc2
        rw [checkL, if_neg (by rw [hc2.out]; simp), if_neg (by rw [h4.out]; simp), if_pos (by exact hc)]
      replace hc := (show Aside _ from hc)
      refine htw.use ?_
      rename_i hc2
      (repeat' first
    | simp (contextual := true) (maxSteps := 4000000) only [fwc, fwe, fww, reduceIte, ↓reduceIte, Nat.reduceAdd, Nat.reduceLeDiff, Nat.reduceEqDiff, Nat.reduceLT, Nat.reduceSub, reduceCtorEq, Int.reduceEq, Int.reduceLT, Int.reduceLE, Int.reduceNeg, Int.reduceToNat, Int.reduceAdd, Int.reduceSub, Nat.reduceMul, *]
    | (refine seqK_now ?_)
    | (refine retK_now ?_)
    | (refine retK_now' ?_)
    | (intro q hq)
    | (refine cond_intro (fun hc => ?_) (fun hc => ?_)))
      · refine WeakR.pure (sub_upd hq4 g5.out) ?_
        rename_i hc3
        rw [checkL, if_neg (by rw [hc2.out]; simp), if_neg (by rw [h4.out]; simp), if_neg (by rw [show badNames (namesL F B) = false from hc3.out]; simp), if_pos hc]
      · refine WeakR.pure (sub_upd hq4 g5.out) ?_
        rename_i hc3
        rw [checkL, if_neg (by rw [hc2.out]; simp), if_neg (by rw [h4.out]; simp), if_neg (by rw [show badNames (namesL F B) = false from hc3.out]; simp), if_neg (by rw [hc]; simp)]
    · refine .inr ⟨.ret, by simp, g2, ?_⟩
      have g6 : (O'.del rid) q = some (.arr 37 1 [.val (.int .i64 9)]) := by rw [Heap.del_ne _ hid2]; exact g3
      obtain ⟨i, h1, h2⟩ := g1
      have h4 : (visL F B).any (fun l => decide (4 < l.length)) = true := List.any_eq_true.2 ⟨_, List.getElem_mem h1, by simpa using h2⟩
      rw [checkL, if_neg (by rw [hc.out]; simp), if_pos h4]
      clear h4 h2
      (repeat' first
    | simp (contextual := true) (maxSteps := 4000000) only [fwc, fwe, fww, reduceIte, ↓reduceIte, Nat.reduceAdd, Nat.reduceLeDiff, Nat.reduceEqDiff, Nat.reduceLT, Nat.reduceSub, reduceCtorEq, Int.reduceEq, Int.reduceLT, Int.reduceLE, Int.reduceNeg, Int.reduceToNat, Int.reduceAdd, Int.reduceSub, Nat.reduceMul, part_cell, *]
    | (refine seqK_now ?_)
    | (refine retK_now ?_)
    | (refine retK_now' ?_)
    | (intro q hq)
    | (refine cond_intro (fun hc => ?_) (fun hc => ?_)))
      exact WeakR.pure g4 rfl
end Go.Proofs.Ytlpngkeegjickaa

namespace Go.Proofs.Ytlpngkeegjickaa
open Go.Ab
attribute [local irreducible] WeakR WeakE CallA YieldA

def env53 (s : AV) (n q i : Nat) : Env := (((Env.upd (fun _ => .junk) 8 (.val (.int .i64 i))).upd 7 (.val (.int .i64 n))).upd 3 (.optr q 2 0 0)).upd 0 s

theorem Index_ok (s : AV) (l : List Id) (p : Id) (hs : IsL 2 s (l.map Id.av)) (hl : l.length ≤ 1048576) :
    PureA Try.prog 53 [s, p.av] (.val (.int .i64 (idxOf (fun x => decide (p = x)) l))) := by
  intro O
  have h1 := hs.len
  rw [List.length_map] at h1
  rw [show p.av = .agg [.val (.int .u8 p.y), .val (.int .i64 p.n)] from rfl]
  refine k53.call mix ?_
  unfold c53
  (repeat' first
    | simp (contextual := true) (maxSteps := 4000000) only [fwc, fwe, fww, reduceIte, ↓reduceIte, Nat.reduceAdd, Nat.reduceLeDiff, Nat.reduceEqDiff, Nat.reduceLT, Nat.reduceSub, reduceCtorEq, Int.reduceEq, Int.reduceLT, Int.reduceLE, Int.reduceNeg, Int.reduceToNat, Int.reduceAdd, Int.reduceSub, Nat.reduceMul, *]
    | (refine seqK_now ?_)
    | (refine retK_now ?_)
    | (refine retK_now' ?_)
    | (intro q hq)
    | (refine cond_intro (fun hc => ?_) (fun hc => ?_)))
  revert q
  intro q hq
  obtain ⟨I, hI⟩ := hideI (fun m e O' => ∃ i : Nat, i ≤ l.length ∧ m = l.length - i ∧ (∀ j (h : j < l.length), j < i → decide (p = l[j]) = false) ∧ O' = O.upd q (.arr 28 2 [.agg [.val (.int .u8 p.y), .val (.int .i64 p.n)]]) ∧ e = env53 s l.length q i)
  refine cmd_loop I l.length (by rw [hI.out]; exact ⟨0, by omega, rfl, fun j h hj => by omega, rfl, rfl⟩) ?_
  intro m e O' hh
  rw [hI.out] at hh
  obtain ⟨i, h3, rfl, h2, rfl, rfl⟩ := hh
  replace h2 := (show Aside _ from h2)
  unfold env53
  (repeat' first
    | simp (contextual := true) (maxSteps := 4000000) only [fwc, fwe, fww, reduceIte, ↓reduceIte, Nat.reduceAdd, Nat.reduceLeDiff, Nat.reduceEqDiff, Nat.reduceLT, Nat.reduceSub, reduceCtorEq, Int.reduceEq, Int.reduceLT, Int.reduceLE, Int.reduceNeg, Int.reduceToNat, Int.reduceAdd, Int.reduceSub, Nat.reduceMul, ilt_nat, *]
    | (refine seqK_now ?_)
    | (refine retK_now ?_)
    | (refine retK_now' ?_)
    | (intro q hq)
    | (refine cond_intro (fun hc => ?_) (fun hc => ?_)))
  · have hi : i < l.length := of_decide_eq_true hc
    clear hc
    have hia := hs.ia (i := i) (by rw [List.length_map]; exact hi)
    rw [List.getElem_map] at hia
    obtain ⟨x, hx⟩ : ∃ x, l[i] = x := ⟨_, rfl⟩
    rw [hx] at hia
    rw [show x.av = .agg [.val (.int .u8 x.y), .val (.int .i64 x.n)] from rfl] at hia
    replace hx := (show Aside _ from hx)
    have hle := le_id p x
    have hw : i < 4611686018427387904 := by omega
    (repeat' first
    | simp (contextual := true) (maxSteps := 4000000) only [fwc, fwe, fww, reduceIte, ↓reduceIte, Nat.reduceAdd, Nat.reduceLeDiff, Nat.reduceEqDiff, Nat.reduceLT, Nat.reduceSub, reduceCtorEq, Int.reduceEq, Int.reduceLT, Int.reduceLE, Int.reduceNeg, Int.reduceToNat, Int.reduceAdd, Int.reduceSub, Nat.reduceMul, part_agg, wrap_succ, *]
    | (refine seqK_now ?_)
    | (refine retK_now ?_)
    | (refine retK_now' ?_)
    | (intro q hq)
    | (refine cond_intro (fun hc => ?_) (fun hc => ?_)))
    · exact WeakR.pure (sub_upd hq (Heap.sub_refl _)) (by rw [idx_some hi (by rw [hx.out]; exact hc) h2.out])
    · refine loopK_now (l.length - (i + 1)) (by omega) ?_
      rw [hI.out]
      refine ⟨i + 1, by omega, rfl, fun j h hj => ?_, rfl, ?_⟩
      · rcases Nat.lt_or_ge j i with h' | h'
        · exact h2.out j h h'
        · have : j = i := by omega
          subst this
          rw [hx.out]
          exact hc
      · simp (contextual := true) (maxSteps := 4000000) only [fwc, fwe, fww, reduceIte, ↓reduceIte, Nat.reduceAdd, Nat.reduceLeDiff, Nat.reduceEqDiff, Nat.reduceLT, Nat.reduceSub, reduceCtorEq, Int.reduceEq, Int.reduceLT, Int.reduceLE, Int.reduceNeg, Int.reduceToNat, Int.reduceAdd, Int.reduceSub, Nat.reduceMul, env53, wrap_succ, *]
  · have hi : ¬ i < l.length := of_decide_eq_false hc
    refine WeakR.pure (by repeat (first | exact Heap.sub_refl _ | refine sub_upd (by simp only [*]) ?_)) ?_
    rw [idx_none (fun j h => h2.out j h (by omega))]

theorem Contains_ok (s : AV) (l : List Id) (p : Id) (hs : IsL 2 s (l.map Id.av)) (hl : l.length ≤ 1048576) :
    PureA Try.prog 36 [s, p.av] (.val (.bool (decide (p ∈ l)))) := by
  intro O
  have h := Index_ok s l p hs hl
  rw [show p.av = .agg [.val (.int .u8 p.y), .val (.int .i64 p.n)] from rfl] at h ⊢
  refine k36.call mix ?_
  unfold c36
  (repeat' first
    | simp (contextual := true) (maxSteps := 4000000) only [fwc, fwe, fww, reduceIte, ↓reduceIte, Nat.reduceAdd, Nat.reduceLeDiff, Nat.reduceEqDiff, Nat.reduceLT, Nat.reduceSub, reduceCtorEq, Int.reduceEq, Int.reduceLT, Int.reduceLE, Int.reduceNeg, Int.reduceToNat, Int.reduceAdd, Int.reduceSub, Nat.reduceMul, *]
    | (refine seqK_now ?_)
    | (refine retK_now ?_)
    | (refine retK_now' ?_)
    | (intro q hq)
    | (refine cond_intro (fun hc => ?_) (fun hc => ?_)))
  refine h.use ?_
  (repeat' first
    | simp (contextual := true) (maxSteps := 4000000) only [fwc, fwe, fww, reduceIte, ↓reduceIte, Nat.reduceAdd, Nat.reduceLeDiff, Nat.reduceEqDiff, Nat.reduceLT, Nat.reduceSub, reduceCtorEq, Int.reduceEq, Int.reduceLT, Int.reduceLE, Int.reduceNeg, Int.reduceToNat, Int.reduceAdd, Int.reduceSub, Nat.reduceMul, *]
    | (refine seqK_now ?_)
    | (refine retK_now ?_)
    | (refine retK_now' ?_)
    | (intro q hq)
    | (refine cond_intro (fun hc => ?_) (fun hc => ?_)))
  refine WeakR.pure (by repeat (first | exact Heap.sub_refl _ | refine sub_upd (by simp only [*]) ?_)) ?_
  rw [idx_any, show l.any (fun x => decide (p = x)) = decide (p ∈ l) by
    rw [Bool.eq_iff_iff, List.any_eq_true]
    simp]

def env39 (s t : AV) (n i : Nat) : Env := (((Env.upd (fun _ => .junk) 13 (.val (.int .i64 i))).upd 12 (.val (.int .i64 n))).upd 1 t).upd 0 s

theorem eq_of_all {L M : List Id} (h : L.length = M.length) (h2 : ∀ j (h : j < L.length) (h' : j < M.length), L[j] = M[j]) : L = M := List.ext_getElem h h2

theorem Equal_ok (s t : AV) (L M : List Id) (hs : IsL 2 s (L.map Id.av)) (ht : IsL 2 t (M.map Id.av)) (hl : L.length ≤ 1048576) :
    PureA Try.prog 39 [s, t] (.val (.bool (decide (L = M)))) := by
  intro O
  have h1 := hs.len
  have h2 := ht.len
  rw [List.length_map] at h1 h2
  refine k39.call mix ?_
  unfold c39
  (repeat' first
    | simp (contextual := true) (maxSteps := 4000000) only [fwc, fwe, fww, reduceIte, ↓reduceIte, Nat.reduceAdd, Nat.reduceLeDiff, Nat.reduceEqDiff, Nat.reduceLT, Nat.reduceSub, reduceCtorEq, Int.reduceEq, Int.reduceLT, Int.reduceLE, Int.reduceNeg, Int.reduceToNat, Int.reduceAdd, Int.reduceSub, Nat.reduceMul, *]
    | (refine seqK_now ?_)
    | (refine retK_now ?_)
    | (refine retK_now' ?_)
    | (intro q hq)
    | (refine cond_intro (fun hc => ?_) (fun hc => ?_)))
  · refine WeakR.pure (by repeat (first | exact Heap.sub_refl _ | refine sub_upd (by simp only [*]) ?_)) ?_
    have : ¬ (L.length : Int) = M.length := by simpa using hc
    rw [decide_eq_false (fun e => this (by rw [e]))]
  have hlen : L.length = M.length := by
    have : (L.length : Int) = M.length := by simpa using hc
    omega
  clear hc
  obtain ⟨I, hI⟩ := hideI (fun m e O' => ∃ i : Nat, i ≤ L.length ∧ m = L.length - i ∧ (∀ j (h : j < L.length) (h' : j < M.length), j < i → L[j] = M[j]) ∧ O' = O ∧ e = env39 s t L.length i)
  refine cmd_loop I L.length (by rw [hI.out]; exact ⟨0, by omega, rfl, fun j h h' hj => by omega, rfl, rfl⟩) ?_
  intro m e O' hh
  rw [hI.out] at hh
  obtain ⟨i, h3, rfl, h4, rfl, rfl⟩ := hh
  replace h4 := (show Aside _ from h4)
  replace hlen := (show Aside _ from hlen)
  unfold env39
  (repeat' first
    | simp (contextual := true) (maxSteps := 4000000) only [fwc, fwe, fww, reduceIte, ↓reduceIte, Nat.reduceAdd, Nat.reduceLeDiff, Nat.reduceEqDiff, Nat.reduceLT, Nat.reduceSub, reduceCtorEq, Int.reduceEq, Int.reduceLT, Int.reduceLE, Int.reduceNeg, Int.reduceToNat, Int.reduceAdd, Int.reduceSub, Nat.reduceMul, ilt_nat, *]
    | (refine seqK_now ?_)
    | (refine retK_now ?_)
    | (refine retK_now' ?_)
    | (intro q hq)
    | (refine cond_intro (fun hc => ?_) (fun hc => ?_)))
  · have hi : i < L.length := of_decide_eq_true hc
    have hi' : i < M.length := by have := hlen.out; omega
    clear hc
    have hia := hs.ia (i := i) (by rw [List.length_map]; exact hi)
    have hib := ht.ia (i := i) (by rw [List.length_map]; exact hi')
    rw [List.getElem_map] at hia hib
    obtain ⟨x, hx⟩ : ∃ x, L[i] = x := ⟨_, rfl⟩
    obtain ⟨y, hy⟩ : ∃ y, M[i] = y := ⟨_, rfl⟩
    rw [hx] at hia
    rw [hy] at hib
    rw [show x.av = .agg [.val (.int .u8 x.y), .val (.int .i64 x.n)] from rfl] at hia
    rw [show y.av = .agg [.val (.int .u8 y.y), .val (.int .i64 y.n)] from rfl] at hib
    replace hx := (show Aside _ from hx)
    replace hy := (show Aside _ from hy)
    have hle := le_id x y
    have hw : i < 4611686018427387904 := by omega
    (repeat' first
    | simp (contextual := true) (maxSteps := 4000000) only [fwc, fwe, fww, reduceIte, ↓reduceIte, Nat.reduceAdd, Nat.reduceLeDiff, Nat.reduceEqDiff, Nat.reduceLT, Nat.reduceSub, reduceCtorEq, Int.reduceEq, Int.reduceLT, Int.reduceLE, Int.reduceNeg, Int.reduceToNat, Int.reduceAdd, Int.reduceSub, Nat.reduceMul, part_agg, wrap_succ, *]
    | (refine seqK_now ?_)
    | (refine retK_now ?_)
    | (refine retK_now' ?_)
    | (intro q hq)
    | (refine cond_intro (fun hc => ?_) (fun hc => ?_)))
    · refine WeakR.pure (by repeat (first | exact Heap.sub_refl _ | refine sub_upd (by simp only [*]) ?_)) ?_
      have : ¬ x = y := by simpa using hc
      rw [decide_eq_false (fun e => this (by rw [← hx.out, ← hy.out]; simp [e]))]
    · refine loopK_now (L.length - (i + 1)) (by omega) ?_
      rw [hI.out]
      refine ⟨i + 1, by omega, rfl, fun j h h' hj => ?_, rfl, ?_⟩
      · rcases Nat.lt_or_ge j i with h5 | h5
        · exact h4.out j h h' h5
        · have : j = i := by omega
          subst this
          rw [hx.out, hy.out]
          simpa using hc
      · simp (contextual := true) (maxSteps := 4000000) only [fwc, fwe, fww, reduceIte, ↓reduceIte, Nat.reduceAdd, Nat.reduceLeDiff, Nat.reduceEqDiff, Nat.reduceLT, Nat.reduceSub, reduceCtorEq, Int.reduceEq, Int.reduceLT, Int.reduceLE, Int.reduceNeg, Int.reduceToNat, Int.reduceAdd, Int.reduceSub, Nat.reduceMul, env39, wrap_succ, *]
  · have hi : ¬ i < L.length := of_decide_eq_false hc
    refine WeakR.pure (by repeat (first | exact Heap.sub_refl _ | refine sub_upd (by simp only [*]) ?_)) ?_
    rw [decide_eq_true (eq_of_all hlen.out (fun j h h' => h4.out j h h' (by omega)))]

def env21 (s t : AV) (i : Nat) : Env := ((Env.upd (fun _ => .junk) 5 (.val (.int .i64 i))).upd 1 t).upd 0 s

theorem same_ok (s t : AV) (L M : List Id) (hs : IsT 2 s (L.map Id.av)) (ht : IsL 2 t (M.map Id.av)) (hl : L.length ≤ 1048576) :
    PureA Try.prog 21 [s, t] (.val (.int .i64 (if L = M then 1 else 0))) := by
  intro O
  have h1 := hs.isL.len
  have h2 := ht.len
  have hn : (!decide ((L.length : Int) = (L.length : Int))) = false := by simp
  rw [List.length_map] at h1 h2
  refine k21.call mix ?_
  unfold c21
  (repeat' first
    | simp (contextual := true) (maxSteps := 4000000) only [fwc, fwe, fww, reduceIte, ↓reduceIte, Nat.reduceAdd, Nat.reduceLeDiff, Nat.reduceEqDiff, Nat.reduceLT, Nat.reduceSub, reduceCtorEq, Int.reduceEq, Int.reduceLT, Int.reduceLE, Int.reduceNeg, Int.reduceToNat, Int.reduceAdd, Int.reduceSub, Nat.reduceMul, *]
    | (refine seqK_now ?_)
    | (refine retK_now ?_)
    | (refine retK_now' ?_)
    | (intro q hq)
    | (refine cond_intro (fun hc => ?_) (fun hc => ?_)))
  refine opsW_gcap (b := !decide ((L.length : Int) = (M.length : Int))) (sz := 2) (L := L.map Id.av) rfl (fun h => ?_) ?_
  · rw [b_eq_f] at h
    simp only [opd_tmp, Env.upd_apply, h, jn_true, if_true]
    exact hs
  rw [List.length_map]
  (repeat' first
    | simp (contextual := true) (maxSteps := 4000000) only [fwc, fwe, fww, reduceIte, ↓reduceIte, Nat.reduceAdd, Nat.reduceLeDiff, Nat.reduceEqDiff, Nat.reduceLT, Nat.reduceSub, reduceCtorEq, Int.reduceEq, Int.reduceLT, Int.reduceLE, Int.reduceNeg, Int.reduceToNat, Int.reduceAdd, Int.reduceSub, Nat.reduceMul, *]
    | (refine seqK_now ?_)
    | (refine retK_now ?_)
    | (refine retK_now' ?_)
    | (intro q hq)
    | (refine cond_intro (fun hc => ?_) (fun hc => ?_)))
  · refine WeakR.pure (by repeat (first | exact Heap.sub_refl _ | refine sub_upd (by simp only [*]) ?_)) ?_
    have : ¬ (L.length : Int) = M.length := by simpa using hc
    rw [if_neg (fun e => this (by rw [e]))]
  have hlen : L.length = M.length := by
    have : (L.length : Int) = M.length := by simpa using hc
    omega
  clear hc hn
  obtain ⟨I, hI⟩ := hideI (fun m e O' => ∃ i : Nat, i ≤ L.length ∧ m = L.length - i ∧ (∀ j (h : j < L.length) (h' : j < M.length), j < i → L[j] = M[j]) ∧ O' = O ∧ e = env21 s t i)
  refine cmd_loop I L.length (by rw [hI.out]; exact ⟨0, by omega, rfl, fun j h h' hj => by omega, rfl, rfl⟩) ?_
  intro m e O' hh
  rw [hI.out] at hh
  obtain ⟨i, h3, rfl, h4, rfl, rfl⟩ := hh
  replace h4 := (show Aside _ from h4)
  replace hlen := (show Aside _ from hlen)
  unfold env21
  (repeat' first
    | simp (contextual := true) (maxSteps := 4000000) only [fwc, fwe, fww, reduceIte, ↓reduceIte, Nat.reduceAdd, Nat.reduceLeDiff, Nat.reduceEqDiff, Nat.reduceLT, Nat.reduceSub, reduceCtorEq, Int.reduceEq, Int.reduceLT, Int.reduceLE, Int.reduceNeg, Int.reduceToNat, Int.reduceAdd, Int.reduceSub, Nat.reduceMul, ilt_nat, *]
    | (refine seqK_now ?_)
    | (refine retK_now ?_)
    | (refine retK_now' ?_)
    | (intro q hq)
    | (refine cond_intro (fun hc => ?_) (fun hc => ?_)))
  · have hi : i < L.length := of_decide_eq_true hc
    have hi' : i < M.length := by have := hlen.out; omega
    clear hc
    have hia := hs.isL.ia (i := i) (by rw [List.length_map]; exact hi)
    have hib := ht.ia (i := i) (by rw [List.length_map]; exact hi')
    rw [List.getElem_map] at hia hib
    obtain ⟨x, hx⟩ : ∃ x, L[i] = x := ⟨_, rfl⟩
    obtain ⟨y, hy⟩ : ∃ y, M[i] = y := ⟨_, rfl⟩
    rw [hx] at hia
    rw [hy] at hib
    rw [show x.av = .agg [.val (.int .u8 x.y), .val (.int .i64 x.n)] from rfl] at hia
    rw [show y.av = .agg [.val (.int .u8 y.y), .val (.int .i64 y.n)] from rfl] at hib
    replace hx := (show Aside _ from hx)
    replace hy := (show Aside _ from hy)
    have hle := le_id x y
    have hw : i < 4611686018427387904 := by omega
    (repeat' first
    | simp (contextual := true) (maxSteps := 4000000) only [fwc, fwe, fww, reduceIte, ↓reduceIte, Nat.reduceAdd, Nat.reduceLeDiff, Nat.reduceEqDiff, Nat.reduceLT, Nat.reduceSub, reduceCtorEq, Int.reduceEq, Int.reduceLT, Int.reduceLE, Int.reduceNeg, Int.reduceToNat, Int.reduceAdd, Int.reduceSub, Nat.reduceMul, part_agg, wrap_succ, *]
    | (refine seqK_now ?_)
    | (refine retK_now ?_)
    | (refine retK_now' ?_)
    | (intro q hq)
    | (refine cond_intro (fun hc => ?_) (fun hc => ?_)))
    · refine WeakR.pure (by repeat (first | exact Heap.sub_refl _ | refine sub_upd (by simp only [*]) ?_)) ?_
      have : ¬ x = y := by simpa using hc
      rw [if_neg (fun e => this (by rw [← hx.out, ← hy.out]; simp [e]))]
    · refine loopK_now (L.length - (i + 1)) (by omega) ?_
      rw [hI.out]
      refine ⟨i + 1, by omega, rfl, fun j h h' hj => ?_, rfl, ?_⟩
      · rcases Nat.lt_or_ge j i with h5 | h5
        · exact h4.out j h h' h5
        · have : j = i := by omega
          subst this
          rw [hx.out, hy.out]
          simpa using hc
      · simp (contextual := true) (maxSteps := 4000000) only [fwc, fwe, fww, reduceIte, ↓reduceIte, Nat.reduceAdd, Nat.reduceLeDiff, Nat.reduceEqDiff, Nat.reduceLT, Nat.reduceSub, reduceCtorEq, Int.reduceEq, Int.reduceLT, Int.reduceLE, Int.reduceNeg, Int.reduceToNat, Int.reduceAdd, Int.reduceSub, Nat.reduceMul, env21, wrap_succ, *]
  · have hi : ¬ i < L.length := of_decide_eq_false hc
    refine WeakR.pure (by repeat (first | exact Heap.sub_refl _ | refine sub_upd (by simp only [*]) ?_)) ?_
    rw [if_pos (eq_of_all hlen.out (fun j h h' => h4.out j h h' (by omega)))]

def needleL (i : Nat) : Ndl := ⟨((i % 80 / 40 : Nat) : Int), ((1 + i % 40 : Nat) : Int)⟩
theorem Needle_ok (i : Nat) (hi : i < 256) : PureA Try.prog 14 [.val (.int .u8 i)] (needleL i).av := by
  intro O
  have d1 : Int.tmod (i : Int) 80 = ((i % 80 : Nat) : Int) := by rw [Int.tmod_eq_emod_of_nonneg (by omega)]; omega
  have d2 : IntKind.u8.wrap (Int.tdiv ((i % 80 : Nat) : Int) 40) = ((i % 80 / 40 : Nat) : Int) := by
    rw [Int.tdiv_eq_ediv_of_nonneg (by omega), wrap_u8 (by omega) (by omega)]; omega
  have d3 : Int.tmod (i : Int) 40 = ((i % 40 : Nat) : Int) := by rw [Int.tmod_eq_emod_of_nonneg (by omega)]; omega
  have d4 : IntKind.i64.wrap ((i % 40 : Nat) : Int) = ((i % 40 : Nat) : Int) := wrap_nat (by omega)
  have d5 : IntKind.i64.wrap (1 + ((i % 40 : Nat) : Int)) = ((1 + i % 40 : Nat) : Int) := by rw [wrap_i64 (by omega) (by omega)]; omega
  refine k14.call mix ?_
  unfold c14
  (repeat' first
    | simp (contextual := true) (maxSteps := 4000000) only [fwc, fwe, fww, reduceIte, ↓reduceIte, Nat.reduceAdd, Nat.reduceLeDiff, Nat.reduceEqDiff, Nat.reduceLT, Nat.reduceSub, reduceCtorEq, Int.reduceEq, Int.reduceLT, Int.reduceLE, Int.reduceNeg, Int.reduceToNat, Int.reduceAdd, Int.reduceSub, Nat.reduceMul, *]
    | (refine seqK_now ?_)
    | (refine retK_now ?_)
    | (refine retK_now' ?_)
    | (intro q hq)
    | (refine cond_intro (fun hc => ?_) (fun hc => ?_)))
  refine WeakR.pure (by repeat (first | exact Heap.sub_refl _ | refine sub_upd (by simp only [*]) ?_)) ?_
  rfl

theorem Count_ok (f b : AV) (es fs : List AV) (F B : List (List Id)) (hf : IsB f es F) (hb : IsB b fs B) (hs : ∀ l ∈ visL F B, l.length ≤ 1000) :
    PureA Try.prog 16 [.agg [f, b]] (.val (.int .i64 (namesL F B).length)) := by
  intro O
  have hf1 := hf.1.cells
  have hb1 := hb.1.cells
  have hf2 := hf.1.stor
  have hb2 := hb.1.stor
  have hn := names_ok f b es fs F B hf hb hs
  have hL := (frA_L 2 ((namesL F B).map Id.av)).len
  rw [List.length_map] at hL
  refine k16.call mix ?_
  unfold c16
  (repeat' first
    | simp (contextual := true) (maxSteps := 4000000) only [fwc, fwe, fww, reduceIte, ↓reduceIte, Nat.reduceAdd, Nat.reduceLeDiff, Nat.reduceEqDiff, Nat.reduceLT, Nat.reduceSub, reduceCtorEq, Int.reduceEq, Int.reduceLT, Int.reduceLE, Int.reduceNeg, Int.reduceToNat, Int.reduceAdd, Int.reduceSub, Nat.reduceMul, *]
    | (refine seqK_now ?_)
    | (refine retK_now ?_)
    | (refine retK_now' ?_)
    | (intro q hq)
    | (refine cond_intro (fun hc => ?_) (fun hc => ?_)))
  refine hn.use ?_
  (repeat' first
    | simp (contextual := true) (maxSteps := 4000000) only [fwc, fwe, fww, reduceIte, ↓reduceIte, Nat.reduceAdd, Nat.reduceLeDiff, Nat.reduceEqDiff, Nat.reduceLT, Nat.reduceSub, reduceCtorEq, Int.reduceEq, Int.reduceLT, Int.reduceLE, Int.reduceNeg, Int.reduceToNat, Int.reduceAdd, Int.reduceSub, Nat.reduceMul, *]
    | (refine seqK_now ?_)
    | (refine retK_now ?_)
    | (refine retK_now' ?_)
    | (intro q hq)
    | (refine cond_intro (fun hc => ?_) (fun hc => ?_)))
  refine WeakR.pure (by repeat (first | exact Heap.sub_refl _ | refine sub_upd (by simp only [*]) ?_)) ?_
  rfl
end Go.Proofs.Ytlpngkeegjickaa

namespace Go.Proofs.Ytlpngkeegjickaa
open Go.Ab
attribute [local irreducible] WeakR WeakE CallA YieldA

def atL (F B : List (List Id)) (n : Ndl) : List Id := if n.bad = true then [] else (if n.bed = 1 then B else F).getD (n.at_ - 1).toNat []
def atA (es fs : List AV) (n : Ndl) : AV := if n.bad = true then .val (.slice none 0 0) else cpS (getA (if n.bed = 1 then fs else es) (n.at_ - 1).toNat)

theorem getA_L {s : AV} {es : List AV} {F : List (List Id)} (h : IsB s es F) (i : Nat) : IsL 2 (getA es i) ((F.getD i []).map Id.av) := by
  unfold getA
  by_cases hi : i < es.length
  · have hi' : i < F.length := by rw [← h.2.1]; exact hi
    rw [List.getD_eq_getElem?_getD, List.getD_eq_getElem?_getD, List.getElem?_eq_getElem hi, List.getElem?_eq_getElem hi']
    exact h.2.2 i hi hi'
  · rw [List.getD_eq_getElem?_getD, List.getD_eq_getElem?_getD, List.getElem?_eq_none (by omega), List.getElem?_eq_none (by rw [← h.2.1]; omega)]
    exact .nil

/-- How long a bed may be, and its stacks. -/
def Sm (F : List (List Id)) : Prop := F.length ≤ 1000 ∧ ∀ l ∈ F, l.length ≤ 1000
theorem Sm.getD {F : List (List Id)} (h : Sm F) (i : Nat) : (F.getD i []).length ≤ 1000 := by
  rw [List.getD_eq_getElem?_getD]
  by_cases hi : i < F.length
  · rw [List.getElem?_eq_getElem hi]; exact h.2 _ (List.getElem_mem hi)
  · rw [List.getElem?_eq_none (by omega)]; simp
theorem Sm.vis {F B : List (List Id)} (hF : Sm F) (hB : Sm B) : ∀ l ∈ visL F B, l.length ≤ 1000 := by
  intro l hl
  rcases List.mem_append.1 hl with h | h
  · exact hF.2 l (List.mem_of_mem_take h)
  · exact hB.2 l (List.mem_of_mem_take h)

theorem getOK {s : AV} {es : List AV} {F : List (List Id)} (h : IsB s es F) (hs : Sm F) (i : Nat) : PureA Try.prog 35 [s, .val (.int .i64 i)] (getA es i) :=
  get_ok h.1 i (by have := h.2.1; have := hs.1; omega) (fun x hx => by obtain ⟨L, hL⟩ := h.stk x hx; exact ⟨_, hL⟩)

theorem At_ok (f b : AV) (es fs : List AV) (F B : List (List Id)) (n : Ndl) (hf : IsB f es F) (hb : IsB b fs B) (hF : Sm F) (hB : Sm B) :
    PureA Try.prog 13 [.agg [f, b], n.av] (atA es fs n) := by
  intro O
  have hf1 := hf.1.cells
  have hb1 := hb.1.cells
  have hf2 := hf.1.stor
  have hb2 := hb.1.stor
  have hck := NdlCheck_ok n
  rw [show n.av = .agg [.val (.int .u8 n.bed), .val (.int .i64 n.at_)] from rfl] at hck ⊢
  refine k13.call mix ?_
  unfold c13
  (repeat' first
    | simp (contextual := true) (maxSteps := 4000000) only [fwc, fwe, fww, reduceIte, ↓reduceIte, Nat.reduceAdd, Nat.reduceLeDiff, Nat.reduceEqDiff, Nat.reduceLT, Nat.reduceSub, reduceCtorEq, Int.reduceEq, Int.reduceLT, Int.reduceLE, Int.reduceNeg, Int.reduceToNat, Int.reduceAdd, Int.reduceSub, Nat.reduceMul, *]
    | (refine seqK_now ?_)
    | (refine retK_now ?_)
    | (refine retK_now' ?_)
    | (intro q hq)
    | (refine cond_intro (fun hc => ?_) (fun hc => ?_)))
  refine hck.use ?_
  by_cases hbad : n.bad = true
  · have hA : atA es fs n = .val (.slice none 0 0) := by rw [atA, if_pos hbad]
    rw [if_pos hbad]
    rw [hA]
    (repeat' first
    | simp (contextual := true) (maxSteps := 4000000) only [fwc, fwe, fww, reduceIte, ↓reduceIte, Nat.reduceAdd, Nat.reduceLeDiff, Nat.reduceEqDiff, Nat.reduceLT, Nat.reduceSub, reduceCtorEq, Int.reduceEq, Int.reduceLT, Int.reduceLE, Int.reduceNeg, Int.reduceToNat, Int.reduceAdd, Int.reduceSub, Nat.reduceMul, *]
    | (refine seqK_now ?_)
    | (refine retK_now ?_)
    | (refine retK_now' ?_)
    | (intro q hq)
    | (refine cond_intro (fun hc => ?_) (fun hc => ?_)))
    refine WeakR.pure (by repeat (first | exact Heap.sub_refl _ | refine sub_upd (by simp only [*]) ?_)) ?_
    rfl
  · have hA : atA es fs n = cpS (getA (if n.bed = 1 then fs else es) (n.at_ - 1).toNat) := by rw [atA, if_neg hbad]
    rw [if_neg hbad, hA]
    have hw : IntKind.i64.wrap (n.at_ - 1) = (((n.at_ - 1).toNat : Nat) : Int) ∧ 0 ≤ n.at_ - 1 := by
      have h := hbad
      unfold Ndl.bad at h
      simp only [Bool.or_eq_true, decide_eq_true_eq, not_or, Int.not_lt] at h
      rw [wrap_i64 (by omega) (by omega)]
      omega
    obtain ⟨hw, _⟩ := hw
    generalize (n.at_ - 1).toNat = i at hw
    clear hA hbad hck
    have hgF := getOK hf hF i
    have hgB := getOK hb hB i
    have hLF := getA_L hf i
    have hLB := getA_L hb i
    have hlF := hF.getD i
    have hlB := hB.getD i
    (repeat' first
    | simp (contextual := true) (maxSteps := 4000000) only [fwc, fwe, fww, reduceIte, ↓reduceIte, Nat.reduceAdd, Nat.reduceLeDiff, Nat.reduceEqDiff, Nat.reduceLT, Nat.reduceSub, reduceCtorEq, Int.reduceEq, Int.reduceLT, Int.reduceLE, Int.reduceNeg, Int.reduceToNat, Int.reduceAdd, Int.reduceSub, Nat.reduceMul, part_cell, *]
    | (refine seqK_now ?_)
    | (refine retK_now ?_)
    | (refine retK_now' ?_)
    | (intro q hq)
    | (refine cond_intro (fun hc => ?_) (fun hc => ?_)))
    · have hbed : n.bed = 1 := of_decide_eq_true hc
      rw [if_pos hbed]
      clear hc hbed
      refine hgB.use ?_
      (repeat' first
    | simp (contextual := true) (maxSteps := 4000000) only [fwc, fwe, fww, reduceIte, ↓reduceIte, Nat.reduceAdd, Nat.reduceLeDiff, Nat.reduceEqDiff, Nat.reduceLT, Nat.reduceSub, reduceCtorEq, Int.reduceEq, Int.reduceLT, Int.reduceLE, Int.reduceNeg, Int.reduceToNat, Int.reduceAdd, Int.reduceSub, Nat.reduceMul, *]
    | (refine seqK_now ?_)
    | (refine retK_now ?_)
    | (refine retK_now' ?_)
    | (intro q hq)
    | (refine cond_intro (fun hc => ?_) (fun hc => ?_)))
      refine (Clone_ok hLB (by simp only [List.length_map]; omega)).use ?_
      (repeat' first
    | simp (contextual := true) (maxSteps := 4000000) only [fwc, fwe, fww, reduceIte, ↓reduceIte, Nat.reduceAdd, Nat.reduceLeDiff, Nat.reduceEqDiff, Nat.reduceLT, Nat.reduceSub, reduceCtorEq, Int.reduceEq, Int.reduceLT, Int.reduceLE, Int.reduceNeg, Int.reduceToNat, Int.reduceAdd, Int.reduceSub, Nat.reduceMul, *]
    | (refine seqK_now ?_)
    | (refine retK_now ?_)
    | (refine retK_now' ?_)
    | (intro q hq)
    | (refine cond_intro (fun hc => ?_) (fun hc => ?_)))
      refine (Clip_ok hLB).use ?_
      (repeat' first
    | simp (contextual := true) (maxSteps := 4000000) only [fwc, fwe, fww, reduceIte, ↓reduceIte, Nat.reduceAdd, Nat.reduceLeDiff, Nat.reduceEqDiff, Nat.reduceLT, Nat.reduceSub, reduceCtorEq, Int.reduceEq, Int.reduceLT, Int.reduceLE, Int.reduceNeg, Int.reduceToNat, Int.reduceAdd, Int.reduceSub, Nat.reduceMul, *]
    | (refine seqK_now ?_)
    | (refine retK_now ?_)
    | (refine retK_now' ?_)
    | (intro q hq)
    | (refine cond_intro (fun hc => ?_) (fun hc => ?_)))
      refine WeakR.pure (by repeat (first | exact Heap.sub_refl _ | refine sub_upd (by simp only [*]) ?_)) ?_
      rfl
    · have hbed : ¬ n.bed = 1 := of_decide_eq_false hc
      rw [if_neg hbed]
      clear hc hbed
      refine hgF.use ?_
      (repeat' first
    | simp (contextual := true) (maxSteps := 4000000) only [fwc, fwe, fww, reduceIte, ↓reduceIte, Nat.reduceAdd, Nat.reduceLeDiff, Nat.reduceEqDiff, Nat.reduceLT, Nat.reduceSub, reduceCtorEq, Int.reduceEq, Int.reduceLT, Int.reduceLE, Int.reduceNeg, Int.reduceToNat, Int.reduceAdd, Int.reduceSub, Nat.reduceMul, *]
    | (refine seqK_now ?_)
    | (refine retK_now ?_)
    | (refine retK_now' ?_)
    | (intro q hq)
    | (refine cond_intro (fun hc => ?_) (fun hc => ?_)))
      refine (Clone_ok hLF (by simp only [List.length_map]; omega)).use ?_
      (repeat' first
    | simp (contextual := true) (maxSteps := 4000000) only [fwc, fwe, fww, reduceIte, ↓reduceIte, Nat.reduceAdd, Nat.reduceLeDiff, Nat.reduceEqDiff, Nat.reduceLT, Nat.reduceSub, reduceCtorEq, Int.reduceEq, Int.reduceLT, Int.reduceLE, Int.reduceNeg, Int.reduceToNat, Int.reduceAdd, Int.reduceSub, Nat.reduceMul, *]
    | (refine seqK_now ?_)
    | (refine retK_now ?_)
    | (refine retK_now' ?_)
    | (intro q hq)
    | (refine cond_intro (fun hc => ?_) (fun hc => ?_)))
      refine (Clip_ok hLF).use ?_
      (repeat' first
    | simp (contextual := true) (maxSteps := 4000000) only [fwc, fwe, fww, reduceIte, ↓reduceIte, Nat.reduceAdd, Nat.reduceLeDiff, Nat.reduceEqDiff, Nat.reduceLT, Nat.reduceSub, reduceCtorEq, Int.reduceEq, Int.reduceLT, Int.reduceLE, Int.reduceNeg, Int.reduceToNat, Int.reduceAdd, Int.reduceSub, Nat.reduceMul, *]
    | (refine seqK_now ?_)
    | (refine retK_now ?_)
    | (refine retK_now' ?_)
    | (intro q hq)
    | (refine cond_intro (fun hc => ?_) (fun hc => ?_)))
      refine WeakR.pure (by repeat (first | exact Heap.sub_refl _ | refine sub_upd (by simp only [*]) ?_)) ?_
      rfl
theorem atA_T {f b : AV} {es fs : List AV} {F B : List (List Id)} (n : Ndl) (hf : IsB f es F) (hb : IsB b fs B) : IsT 2 (atA es fs n) ((atL F B n).map Id.av) := by
  unfold atA atL
  split
  · exact .nil
  · refine cpS_T ?_
    split
    · exact getA_L hb _
    · exact getA_L hf _

def findL (F B : List (List Id)) (p : Id) : Option Nat := (visL F B).findIdx? (fun l => decide (p ∈ l))
def foundN (n0 : Nat) : Option Nat → Ndl
  | some j => nd n0 j
  | none => ⟨0, 0⟩
def foundE : Option Nat → Int
  | some _ => 0
  | none => 7

set_option maxHeartbeats 2000000 in
theorem Find_ok (f b : AV) (es fs : List AV) (F B : List (List Id)) (p : Id) (hf : IsB f es F) (hb : IsB b fs B) (hF : Sm F) (hB : Sm B) :
    PureA Try.prog 15 [.agg [f, b], p.av] (.tup [(foundN (min F.length 40) (findL F B p)).av, .val (.int .i64 (foundE (findL F B p)))]) := by
  intro O
  have hf1 := hf.1.cells
  have hb1 := hb.1.cells
  have hf2 := hf.1.stor
  have hb2 := hb.1.stor
  have hsv := hF.vis hB
  have hpa : p.av = .agg [.val (.int .u8 p.y), .val (.int .i64 p.n)] := rfl
  rw [hpa]
  refine k15.call mix ?_
  unfold c15
  (repeat' first
    | simp (contextual := true) (maxSteps := 4000000) only [fwc, fwe, fww, reduceIte, ↓reduceIte, Nat.reduceAdd, Nat.reduceLeDiff, Nat.reduceEqDiff, Nat.reduceLT, Nat.reduceSub, reduceCtorEq, Int.reduceEq, Int.reduceLT, Int.reduceLE, Int.reduceNeg, Int.reduceToNat, Int.reduceAdd, Int.reduceSub, Nat.reduceMul, *]
    | (refine seqK_now ?_)
    | (refine retK_now ?_)
    | (refine retK_now' ?_)
    | (intro q hq)
    | (refine cond_intro (fun hc => ?_) (fun hc => ?_)))
  refine (all_ok f b hf1 hb1 hf2 hb2).use ?_
  (repeat' first
    | simp (contextual := true) (maxSteps := 4000000) only [fwc, fwe, fww, reduceIte, ↓reduceIte, Nat.reduceAdd, Nat.reduceLeDiff, Nat.reduceEqDiff, Nat.reduceLT, Nat.reduceSub, reduceCtorEq, Int.reduceEq, Int.reduceLT, Int.reduceLE, Int.reduceNeg, Int.reduceToNat, Int.reduceAdd, Int.reduceSub, Nat.reduceMul, *]
    | (refine seqK_now ?_)
    | (refine retK_now ?_)
    | (refine retK_now' ?_)
    | (intro q hq)
    | (refine cond_intro (fun hc => ?_) (fun hc => ?_)))
  refine cmd_range rfl ?_
  intro rid RR BB DD hid hY
  replace hY := (show Aside _ from hY)
  rename_i q2 hq2 q3 hq3 q4 hq4
  revert q
  intro q5 hq5 hid hY
  have hOr : O rid = none := by
    have h := hid
    simp only [Heap.upd_apply, ite_none] at h
    exact h.2.2.2.2.2.2.2.2
  have hO5 : O q5 = none := hq5.2.2.2.2.2.2
  have hO4 : O q4 = none := hq4.2.2.2.2
  have hO3 : O q3 = none := hq3.2.2
  simp only [Heap.upd_apply, ite_none] at hid
  have hid' := hid
  obtain ⟨i1, i2, i3, i4, i5, i6, i7, i8, _⟩ := hid'
  obtain ⟨a1, a2, a3, a4, _⟩ := hq5
  obtain ⟨a5, a6, _⟩ := hq4
  obtain ⟨hv1, hv2⟩ := vis_is hf hb
  have hvl := vis_le F B
  replace hsv := (show Aside _ from hsv)
  let J : Nat → Heap → Prop := fun j O' => (∀ i (h : i < (visL F B).length), i < j → p ∉ (visL F B)[i]) ∧ O' rid = some RR ∧ O' q3 = some (.arr 28 2 [.agg [.val (.int .u8 p.y), .val (.int .i64 p.n)]]) ∧ O' q4 = some (.arr 26 2 [.agg [.val (.int .u8 0), .val (.int .i64 0)]]) ∧ O' q5 = some (.arr 37 1 [.val (.int .i64 0)]) ∧ O.sub (O'.del rid)
  let Z : Heap → Prop := fun O' => (∃ i, ∃ (h : i < (visL F B).length), p ∈ (visL F B)[i] ∧ (∀ k (hk : k < (visL F B).length), k < i → p ∉ (visL F B)[k]) ∧ O' q4 = some (.arr 26 2 [(nd (min F.length 40) i).av])) ∧ O' rid = some (DD .ret) ∧ O' q5 = some (.arr 37 1 [.val (.int .i64 0)]) ∧ O.sub (O'.del rid)
  refine CallA.mono (all1_ok rid f b es fs hf.1 hb.1 hf.stk hb.stk _ J Z ?_ ?_) ?_
  · refine ⟨fun i h h' => by omega, Heap.upd_same _ _ _, ?_, ?_, ?_, ?_⟩
    · simp only [Heap.upd_apply, *, if_true, if_false]
    · simp only [Heap.upd_apply, *, if_true, if_false]
    · simp only [Heap.upd_apply, *, if_true, if_false]
    · rw [del_upd_new (by simp only [Heap.upd_apply, *, if_true, if_false])]
      exact sub_upd hO5 (sub_upd hO4 (sub_upd hO3 (sub_upd hq2 (Heap.sub_refl _))))
  · intro j hj O1 hJ
    obtain ⟨g1, g2, g3, g4, g5, g6⟩ := hJ
    have hj' : j < (visL F B).length := by rw [← hv1]; exact hj
    have hx := hv2 j hj hj'
    generalize (es.take 40 ++ fs.take 40)[j] = x at hx
    have hct := Contains_ok x _ p hx (by have := hsv.out _ (List.getElem_mem hj'); omega)
    rw [hpa] at hct
    have hes : min es.length 40 = min F.length 40 := by rw [hf.2.1]
    rw [hes]
    have hN : ∃ m, (nd (min F.length 40) j).av = .agg m ∧ m.length = 2 := ⟨_, rfl, rfl⟩
    replace g1 := (show Aside _ from g1)
    obtain ⟨N, hNe⟩ : ∃ N, (nd (min F.length 40) j).av = N := ⟨_, rfl⟩
    rw [hNe] at hN ⊢
    replace hNe := (show Aside _ from hNe)
    obtain ⟨n1, rfl, hn1⟩ := hN
    have ht2 : n1.take 2 = n1 := List.take_of_length_le (by omega)
    refine hY.out [_, x] O1 _ g2 rfl ?_
    (repeat' first
    | simp (contextual := true) (maxSteps := 4000000) only [fwc, fwe, fww, reduceIte, ↓reduceIte, Nat.reduceAdd, Nat.reduceLeDiff, Nat.reduceEqDiff, Nat.reduceLT, Nat.reduceSub, reduceCtorEq, Int.reduceEq, Int.reduceLT, Int.reduceLE, Int.reduceNeg, Int.reduceToNat, Int.reduceAdd, Int.reduceSub, Nat.reduceMul, *]
    | (refine seqK_now ?_)
    | (refine retK_now ?_)
    | (refine retK_now' ?_)
    | (intro q hq)
    | (refine cond_intro (fun hc => ?_) (fun hc => ?_)))
    have b1 : ¬ rid = q := fun e => by rw [← e, g2] at hq; cases hq
    have b2 : ¬ q3 = q := fun e => by rw [← e, g3] at hq; cases hq
    have b3 : ¬ q4 = q := fun e => by rw [← e, g4] at hq; cases hq
    have b4 : ¬ q5 = q := fun e => by rw [← e, g5] at hq; cases hq
    have b5 : ¬ q = rid := fun e => b1 e.symm
    replace hq := (show Aside _ from hq)
    (repeat' first
    | simp (contextual := true) (maxSteps := 4000000) only [fwc, fwe, fww, reduceIte, ↓reduceIte, Nat.reduceAdd, Nat.reduceLeDiff, Nat.reduceEqDiff, Nat.reduceLT, Nat.reduceSub, reduceCtorEq, Int.reduceEq, Int.reduceLT, Int.reduceLE, Int.reduceNeg, Int.reduceToNat, Int.reduceAdd, Int.reduceSub, Nat.reduceMul, part_agg, *]
    | (refine seqK_now ?_)
    | (refine retK_now ?_)
    | (refine retK_now' ?_)
    | (intro q hq)
    | (refine cond_intro (fun hc => ?_) (fun hc => ?_)))
    refine hct.use ?_
    (repeat' first
    | simp (contextual := true) (maxSteps := 4000000) only [fwc, fwe, fww, reduceIte, ↓reduceIte, Nat.reduceAdd, Nat.reduceLeDiff, Nat.reduceEqDiff, Nat.reduceLT, Nat.reduceSub, reduceCtorEq, Int.reduceEq, Int.reduceLT, Int.reduceLE, Int.reduceNeg, Int.reduceToNat, Int.reduceAdd, Int.reduceSub, Nat.reduceMul, part_agg, *]
    | (refine seqK_now ?_)
    | (refine retK_now ?_)
    | (refine retK_now' ?_)
    | (intro q hq)
    | (refine cond_intro (fun hc => ?_) (fun hc => ?_)))
    · have hm : p ∈ (visL F B)[j] := of_decide_eq_true hc
      refine .inr ⟨⟨j, hj', hm, g1.out, ?_⟩, Heap.upd_same _ _ _, ?_, ?_⟩
      · rw [hNe.out]
        simp only [Heap.upd_apply, *, if_true, if_false]
      · simp only [Heap.upd_apply, *, if_true, if_false]
      · exact sub_updel hOr (sub_updel hO5 (sub_updel hO4 (sub_updel hOr (by
          intro i o ho
          have h := g6 i o ho
          rw [Heap.del_apply] at h ⊢
          split at h
          · cases h
          · rename_i hi
            rw [if_neg hi, Heap.upd_apply, if_neg (fun e => by rw [e, hq.out] at h; cases h)]
            exact h))))
    · have hm : p ∉ (visL F B)[j] := of_decide_eq_false hc
      refine .inl ⟨?_, Heap.upd_same _ _ _, ?_, ?_, ?_, ?_⟩
      · intro i h h'
        rcases Nat.lt_or_ge i j with h2 | h2
        · exact g1.out i h h2
        · have : i = j := by omega
          subst this
          exact hm
      · simp only [Heap.upd_apply, *, if_true, if_false]
      · simp only [Heap.upd_apply, *, if_true, if_false]
      · simp only [Heap.upd_apply, *, if_true, if_false]
      · exact sub_updel hOr (by
          intro i o ho
          have h := g6 i o ho
          rw [Heap.del_apply] at h ⊢
          split at h
          · cases h
          · rename_i hi
            rw [if_neg hi, Heap.upd_apply, if_neg (fun e => by rw [e, hq.out] at h; cases h)]
            exact h)
  · intro r O' h
    rcases h with ⟨g1, g2, g3, g4, g5, g6⟩ | ⟨⟨i, h1, h2, h3, g4⟩, g2, g3, g6⟩
    · rw [hv1] at g1
      have hno : findL F B p = none := by
        unfold findL
        rw [List.findIdx?_eq_none_iff]
        intro l hl
        obtain ⟨i, hi, rfl⟩ := List.mem_iff_getElem.1 hl
        exact decide_eq_false (g1 i hi hi)
      rw [hno]
      clear g1
      refine .inl ⟨g2, ?_⟩
      have g7 : (O'.del rid) q4 = some (.arr 26 2 [.agg [.val (.int .u8 0), .val (.int .i64 0)]]) := by rw [Heap.del_ne _ i4]; exact g4
      have g8 : (O'.del rid) q5 = some (.arr 37 1 [.val (.int .i64 0)]) := by rw [Heap.del_ne _ i2]; exact g5
      replace g6 := (show Aside _ from g6)
      generalize O'.del rid = O2 at g6 g7 g8
      clear g2 g3 g4 g5 O'
      (repeat' first
    | simp (contextual := true) (maxSteps := 4000000) only [fwc, fwe, fww, reduceIte, ↓reduceIte, Nat.reduceAdd, Nat.reduceLeDiff, Nat.reduceEqDiff, Nat.reduceLT, Nat.reduceSub, reduceCtorEq, Int.reduceEq, Int.reduceLT, Int.reduceLE, Int.reduceNeg, Int.reduceToNat, Int.reduceAdd, Int.reduceSub, Nat.reduceMul, part_agg, part_cell, *]
    | (refine seqK_now ?_)
    | (refine retK_now ?_)
    | (refine retK_now' ?_)
    | (intro q hq)
    | (refine cond_intro (fun hc => ?_) (fun hc => ?_)))
      exact WeakR.pure (sub_upd hO5 (sub_upd hO4 g6.out)) rfl
    · have hyes : findL F B p = some i := by
        unfold findL
        rw [List.findIdx?_eq_some_iff_getElem]
        exact ⟨h1, decide_eq_true h2, fun j hj => by simpa using h3 j (by omega) hj⟩
      rw [hyes]
      clear h2 h3 hyes
      refine .inr ⟨.ret, by simp, g2, ?_⟩
      have g7 : (O'.del rid) q4 = some (.arr 26 2 [(nd (min F.length 40) i).av]) := by rw [Heap.del_ne _ i4]; exact g4
      have g8 : (O'.del rid) q5 = some (.arr 37 1 [.val (.int .i64 0)]) := by rw [Heap.del_ne _ i2]; exact g3
      rw [show foundN (min F.length 40) (some i) = nd (min F.length 40) i from rfl]
      have hpf : partA (nd (min F.length 40) i).av 0 2 true = some (nd (min F.length 40) i).av := part_flat ⟨_, rfl, rfl⟩
      replace g6 := (show Aside _ from g6)
      generalize O'.del rid = O2 at g6 g7 g8
      generalize (nd (min F.length 40) i).av = N at g7 hpf
      clear g2 g3 g4 O'
      (repeat' first
    | simp (contextual := true) (maxSteps := 4000000) only [fwc, fwe, fww, reduceIte, ↓reduceIte, Nat.reduceAdd, Nat.reduceLeDiff, Nat.reduceEqDiff, Nat.reduceLT, Nat.reduceSub, reduceCtorEq, Int.reduceEq, Int.reduceLT, Int.reduceLE, Int.reduceNeg, Int.reduceToNat, Int.reduceAdd, Int.reduceSub, Nat.reduceMul, part_agg, part_cell, *]
    | (refine seqK_now ?_)
    | (refine retK_now ?_)
    | (refine retK_now' ?_)
    | (intro q hq)
    | (refine cond_intro (fun hc => ?_) (fun hc => ?_)))
      exact WeakR.pure g6.out rfl
end Go.Proofs.Ytlpngkeegjickaa

namespace Go.Proofs.Ytlpngkeegjickaa
open Go.Ab
attribute [local irreducible] WeakR WeakE CallA YieldA

/-- Nil where there is nothing to come; else an array of one's own. -/
def OwG (n : Nat) (O0 O' : Heap) (s : AV) (L : List AV) : Prop := (n = 0 ∧ s = .val (.slice none 0 0) ∧ L = [] ∧ O' = O0) ∨ (n ≠ 0 ∧ ∃ id c elems, O0 id = none ∧ s = .own id 2 0 L.length c ∧ O' = O0.upd id (.arr 28 2 elems) ∧ elems.take L.length = L ∧ L.length ≤ elems.length)

theorem owg_app {n : Nat} {O0 O' : Heap} {s x : AV} {L X : List AV} {K : AV → Heap → Prop} (h : OwG n O0 O' s L) (hn : n = 0 → X = []) (hX : IsL 2 x X) (hf : fits (L.length + X.length) 16) (hk : ∀ s2 O2, OwG n O0 O2 s2 (L ++ X) → K s2 O2) : AppendSem true 28 2 16 s x O' K := by
  rcases h with ⟨rfl, rfl, rfl, rfl⟩ | ⟨hne, id, c, elems, h0, rfl, rfl, h1, h2⟩
  · have := hn rfl
    subst this
    exact ⟨[], hX.el _, by simpa using hf, fun _ => hk _ _ (.inl ⟨rfl, rfl, rfl, rfl⟩), fun h => absurd rfl h⟩
  · refine app_move (hX.el _) (Heap.upd_same _ _ _) h2 hf fun id' hid' => ?_
    rw [upd_none] at hid'
    rw [del_upd_new h0]
    exact hk _ _ (.inr ⟨hne, id', none, elems.take L.length ++ X, hid'.2.2, by rw [List.length_append], rfl, by rw [h1]; exact List.take_of_length_le (Nat.le_refl _), by rw [h1]; exact Nat.le_refl _⟩)
theorem OwG.pure {n : Nat} {O0 O' : Heap} {s R : AV} {L : List AV} (h : OwG n O0 O' s L) (hn : L.length = n) (hr : frA 2 L = R) : WeakR (fun r' O' => r' = R ∧ O' = O0) s O' := by
  rcases h with ⟨rfl, rfl, rfl, rfl⟩ | ⟨hne, id, c, elems, h0, rfl, rfl, h1, h2⟩
  · exact WeakR.pure (Heap.sub_refl _) hr
  · have hz := Fz.own (id := id) (sz := 2) (elems := elems) 0 L.length c false (by omega) (fun h => by cases h)
    rw [List.drop_zero, h1] at hz
    refine WeakR.pureF id 2 28 elems (Heap.upd_same _ _ _) hz (by rw [del_upd_new h0]; exact Heap.sub_refl _) ?_
    rw [← hr, frA, if_neg (fun e => hne (by rw [← hn, e]; rfl))]

theorem Grow_ok (n : Nat) (hn : n ≤ 1048576) (O : Heap) (K : AV → Heap → Prop) (hk : ∀ s O', OwG n O O' s [] → K s O') : CallA Try.prog 55 [.val (.slice none 0 0), .val (.int .i64 n)] O K := by
  have d1 : decide ((n : Int) < 0) = false := decide_eq_false (by omega)
  have d2 : IntKind.i64.wrap 0 = 0 := by decide
  have d3 : IntKind.i64.wrap ((n : Int) - 0) = n := by rw [wrap_i64 (by omega) (by omega)]; omega
  have d4 : decide ((0 : Int) < (n : Int)) = decide (0 < n) := decide_eq_decide.2 (by omega)
  have e1 : sliceA 2 (.val (.slice none 0 0)) none (some (.val (.int .i64 0))) none = some (.val (.slice none 0 0)) := rfl
  refine k55.call mix ?_
  unfold c55
  (repeat' first
    | simp (contextual := true) (maxSteps := 4000000) only [fwc, fwe, fww, reduceIte, ↓reduceIte, Nat.reduceAdd, Nat.reduceLeDiff, Nat.reduceEqDiff, Nat.reduceLT, Nat.reduceSub, reduceCtorEq, Int.reduceEq, Int.reduceLT, Int.reduceLE, Int.reduceNeg, Int.reduceToNat, Int.reduceAdd, Int.reduceSub, Nat.reduceMul, cap_nil, *]
    | (refine seqK_now ?_)
    | (refine retK_now ?_)
    | (refine retK_now' ?_)
    | (intro q hq)
    | (refine cond_intro (fun hc => ?_) (fun hc => ?_)))
  · have h0 : 0 < n := of_decide_eq_true hc
    refine ⟨rfl, n, rfl, h0, fits_of (by omega) (by omega), fun id hid => ?_⟩
    have e2 : sliceA 2 (.own id 2 0 n none) none (some (.val (.int .i64 0))) none = some (.own id 2 0 0 none) := by
      rw [slice_own (a := 0) (b := 0) (by simp [bound_none]) (by simp [bound_int]) (by omega) (by simp [leCap])]
      rfl
    (repeat' first
    | simp (contextual := true) (maxSteps := 4000000) only [fwc, fwe, fww, reduceIte, ↓reduceIte, Nat.reduceAdd, Nat.reduceLeDiff, Nat.reduceEqDiff, Nat.reduceLT, Nat.reduceSub, reduceCtorEq, Int.reduceEq, Int.reduceLT, Int.reduceLE, Int.reduceNeg, Int.reduceToNat, Int.reduceAdd, Int.reduceSub, Nat.reduceMul, *]
    | (refine seqK_now ?_)
    | (refine retK_now ?_)
    | (refine retK_now' ?_)
    | (intro q hq)
    | (refine cond_intro (fun hc => ?_) (fun hc => ?_)))
    refine WeakR.now (hk _ _ (.inr ⟨by omega, id, none, _, hid, rfl, rfl, rfl, by simp⟩))
  · have h0 : n = 0 := by have := of_decide_eq_false hc; omega
    exact WeakR.now (hk _ _ (.inl ⟨h0, rfl, rfl, rfl⟩))

def env40 (s : AV) (n k m : Nat) : Env := (((((Env.upd (fun _ => .junk) 11 (.val (.int .i64 k))).upd 10 (.val (.int .i64 n))).upd 9 s).upd 3 (.val (.int .i64 m))).upd 0 s)
def env40b (s v : AV) (n k : Nat) : Env := ((((Env.upd (fun _ => .junk) 27 (.val (.int .i64 k))).upd 26 (.val (.int .i64 n))).upd 25 s).upd 6 v)

set_option maxHeartbeats 2000000 in
theorem Concat_ok (s : AV) (es : List AV) (F : List (List Id)) (hs : IsB s es F) (hF : Sm F) : PureA Try.prog 40 [s] (frA 2 (F.flatten.map Id.av)) := by
  intro O
  have h1 := hs.1.len
  rw [hs.2.1] at h1
  have hfl : F.flatten.length ≤ 1000000 := by have := flat_len hF.2; have := hF.1; omega
  have hpre : ∀ k, ((F.take k).flatten).length ≤ F.flatten.length := fun k => by
    have : F.flatten = (F.take k).flatten ++ (F.drop k).flatten := by rw [← List.flatten_append, List.take_append_drop]
    rw [this, List.length_append]; omega
  have hFl := hF.1
  refine k40.call mix ?_
  unfold c40
  (repeat' first
    | simp (contextual := true) (maxSteps := 4000000) only [fwc, fwe, fww, reduceIte, ↓reduceIte, Nat.reduceAdd, Nat.reduceLeDiff, Nat.reduceEqDiff, Nat.reduceLT, Nat.reduceSub, reduceCtorEq, Int.reduceEq, Int.reduceLT, Int.reduceLE, Int.reduceNeg, Int.reduceToNat, Int.reduceAdd, Int.reduceSub, Nat.reduceMul, *]
    | (refine seqK_now ?_)
    | (refine retK_now ?_)
    | (refine retK_now' ?_)
    | (intro q hq)
    | (refine cond_intro (fun hc => ?_) (fun hc => ?_)))
  obtain ⟨I, hI⟩ := hideI (fun m e O' => ∃ k : Nat, k ≤ F.length ∧ m = F.length - k ∧ O' = O ∧ e = env40 s F.length k ((F.take k).flatten).length)
  refine cmd_loop I F.length (by rw [hI.out]; exact ⟨0, by omega, rfl, rfl, rfl⟩) ?_
  intro m e O' hh
  rw [hI.out] at hh
  obtain ⟨k, h3, rfl, hO, rfl⟩ := hh
  have hO := hO.symm
  subst hO
  unfold env40
  (repeat' first
    | simp (contextual := true) (maxSteps := 4000000) only [fwc, fwe, fww, reduceIte, ↓reduceIte, Nat.reduceAdd, Nat.reduceLeDiff, Nat.reduceEqDiff, Nat.reduceLT, Nat.reduceSub, reduceCtorEq, Int.reduceEq, Int.reduceLT, Int.reduceLE, Int.reduceNeg, Int.reduceToNat, Int.reduceAdd, Int.reduceSub, Nat.reduceMul, ilt_nat, *]
    | (refine seqK_now ?_)
    | (refine retK_now ?_)
    | (refine retK_now' ?_)
    | (intro q hq)
    | (refine cond_intro (fun hc => ?_) (fun hc => ?_)))
  · have hk : k < F.length := of_decide_eq_true hc
    clear hc
    have hk' : k < es.length := by rw [hs.2.1]; exact hk
    have hia := hs.1.ia hk'
    have hx := hs.2.2 k hk' hk
    have hw : k < 4611686018427387904 := by omega
    have ht := take_flat F k hk
    have hl := hpre (k + 1)
    rw [ht, List.length_append] at hl
    generalize es[k] = x at hia hx
    have hx1 := hx.cells
    have hx2 := hx.len
    rw [List.length_map] at hx2
    have d1 : IntKind.i64.wrap ((((F.take k).flatten).length : Int) + (F[k].length : Int)) = (((F.take k).flatten.length + F[k].length : Nat) : Int) := by rw [wrap_i64 (by omega) (by omega)]; omega
    have d2 : decide ((((F.take k).flatten.length + F[k].length : Nat) : Int) < 0) = false := decide_eq_false (by omega)
    (repeat' first
    | simp (contextual := true) (maxSteps := 4000000) only [fwc, fwe, fww, reduceIte, ↓reduceIte, Nat.reduceAdd, Nat.reduceLeDiff, Nat.reduceEqDiff, Nat.reduceLT, Nat.reduceSub, reduceCtorEq, Int.reduceEq, Int.reduceLT, Int.reduceLE, Int.reduceNeg, Int.reduceToNat, Int.reduceAdd, Int.reduceSub, Nat.reduceMul, part_cell, wrap_succ, *]
    | (refine seqK_now ?_)
    | (refine retK_now ?_)
    | (refine retK_now' ?_)
    | (intro q hq)
    | (refine cond_intro (fun hc => ?_) (fun hc => ?_)))
    refine loopK_now (F.length - (k + 1)) (by omega) ?_
    rw [hI.out]
    refine ⟨k + 1, by omega, rfl, rfl, ?_⟩
    rw [ht, List.length_append]
    simp (contextual := true) (maxSteps := 4000000) only [fwc, fwe, fww, reduceIte, ↓reduceIte, Nat.reduceAdd, Nat.reduceLeDiff, Nat.reduceEqDiff, Nat.reduceLT, Nat.reduceSub, reduceCtorEq, Int.reduceEq, Int.reduceLT, Int.reduceLE, Int.reduceNeg, Int.reduceToNat, Int.reduceAdd, Int.reduceSub, Nat.reduceMul, env40, wrap_succ, *]
  · have hk : k = F.length := by have := of_decide_eq_false hc; omega
    subst hk
    rw [List.take_length]
    clear hI I hc
    (repeat' first
    | simp (contextual := true) (maxSteps := 4000000) only [fwc, fwe, fww, reduceIte, ↓reduceIte, Nat.reduceAdd, Nat.reduceLeDiff, Nat.reduceEqDiff, Nat.reduceLT, Nat.reduceSub, reduceCtorEq, Int.reduceEq, Int.reduceLT, Int.reduceLE, Int.reduceNeg, Int.reduceToNat, Int.reduceAdd, Int.reduceSub, Nat.reduceMul, *]
    | (refine seqK_now ?_)
    | (refine retK_now ?_)
    | (refine retK_now' ?_)
    | (intro q hq)
    | (refine cond_intro (fun hc => ?_) (fun hc => ?_)))
    refine Grow_ok F.flatten.length (by omega) O _ fun v O1 hv => ?_
    (repeat' first
    | simp (contextual := true) (maxSteps := 4000000) only [fwc, fwe, fww, reduceIte, ↓reduceIte, Nat.reduceAdd, Nat.reduceLeDiff, Nat.reduceEqDiff, Nat.reduceLT, Nat.reduceSub, reduceCtorEq, Int.reduceEq, Int.reduceLT, Int.reduceLE, Int.reduceNeg, Int.reduceToNat, Int.reduceAdd, Int.reduceSub, Nat.reduceMul, *]
    | (refine seqK_now ?_)
    | (refine retK_now ?_)
    | (refine retK_now' ?_)
    | (intro q hq)
    | (refine cond_intro (fun hc => ?_) (fun hc => ?_)))
    obtain ⟨I, hI⟩ := hideI (fun m e O' => ∃ (k : Nat) (v : AV), k ≤ F.length ∧ m = F.length - k ∧ OwG F.flatten.length O O' v (((F.take k).flatten).map Id.av) ∧ e = env40b s v F.length k)
    refine cmd_loop I F.length (by rw [hI.out]; exact ⟨0, v, by omega, rfl, hv, rfl⟩) ?_
    clear hv
    intro m e O' hh
    rw [hI.out] at hh
    obtain ⟨k, v, h3, rfl, hv, rfl⟩ := hh
    unfold env40b
    (repeat' first
    | simp (contextual := true) (maxSteps := 4000000) only [fwc, fwe, fww, reduceIte, ↓reduceIte, Nat.reduceAdd, Nat.reduceLeDiff, Nat.reduceEqDiff, Nat.reduceLT, Nat.reduceSub, reduceCtorEq, Int.reduceEq, Int.reduceLT, Int.reduceLE, Int.reduceNeg, Int.reduceToNat, Int.reduceAdd, Int.reduceSub, Nat.reduceMul, ilt_nat, *]
    | (refine seqK_now ?_)
    | (refine retK_now ?_)
    | (refine retK_now' ?_)
    | (intro q hq)
    | (refine cond_intro (fun hc => ?_) (fun hc => ?_)))
    · have hk : k < F.length := of_decide_eq_true hc
      clear hc
      have hk' : k < es.length := by rw [hs.2.1]; exact hk
      have hia := hs.1.ia hk'
      have hx := hs.2.2 k hk' hk
      have hw : k < 4611686018427387904 := by omega
      have ht := take_flat F k hk
      have hl := hpre (k + 1)
      rw [ht, List.length_append] at hl
      generalize es[k] = x at hia hx
      have hx1 := hx.cells
      (repeat' first
    | simp (contextual := true) (maxSteps := 4000000) only [fwc, fwe, fww, reduceIte, ↓reduceIte, Nat.reduceAdd, Nat.reduceLeDiff, Nat.reduceEqDiff, Nat.reduceLT, Nat.reduceSub, reduceCtorEq, Int.reduceEq, Int.reduceLT, Int.reduceLE, Int.reduceNeg, Int.reduceToNat, Int.reduceAdd, Int.reduceSub, Nat.reduceMul, part_cell, *]
    | (refine seqK_now ?_)
    | (refine retK_now ?_)
    | (refine retK_now' ?_)
    | (intro q hq)
    | (refine cond_intro (fun hc => ?_) (fun hc => ?_)))
      refine owg_app hv (fun h0 => ?_) hx (fits_of (by simp only [List.length_map]; omega) (by omega)) fun v2 O2 h2 => ?_
      · rw [List.map_eq_nil_iff]
        exact List.eq_nil_of_length_eq_zero (by omega)
      (repeat' first
    | simp (contextual := true) (maxSteps := 4000000) only [fwc, fwe, fww, reduceIte, ↓reduceIte, Nat.reduceAdd, Nat.reduceLeDiff, Nat.reduceEqDiff, Nat.reduceLT, Nat.reduceSub, reduceCtorEq, Int.reduceEq, Int.reduceLT, Int.reduceLE, Int.reduceNeg, Int.reduceToNat, Int.reduceAdd, Int.reduceSub, Nat.reduceMul, wrap_succ, *]
    | (refine seqK_now ?_)
    | (refine retK_now ?_)
    | (refine retK_now' ?_)
    | (intro q hq)
    | (refine cond_intro (fun hc => ?_) (fun hc => ?_)))
      refine loopK_now (F.length - (k + 1)) (by omega) ?_
      rw [hI.out]
      refine ⟨k + 1, v2, by omega, rfl, ?_, ?_⟩
      · rw [ht, List.map_append]; exact h2
      · simp (contextual := true) (maxSteps := 4000000) only [fwc, fwe, fww, reduceIte, ↓reduceIte, Nat.reduceAdd, Nat.reduceLeDiff, Nat.reduceEqDiff, Nat.reduceLT, Nat.reduceSub, reduceCtorEq, Int.reduceEq, Int.reduceLT, Int.reduceLE, Int.reduceNeg, Int.reduceToNat, Int.reduceAdd, Int.reduceSub, Nat.reduceMul, env40b, wrap_succ, *]
    · have hk : k = F.length := by have := of_decide_eq_false hc; omega
      subst hk
      rw [List.take_length] at hv
      (repeat' first
    | simp (contextual := true) (maxSteps := 4000000) only [fwc, fwe, fww, reduceIte, ↓reduceIte, Nat.reduceAdd, Nat.reduceLeDiff, Nat.reduceEqDiff, Nat.reduceLT, Nat.reduceSub, reduceCtorEq, Int.reduceEq, Int.reduceLT, Int.reduceLE, Int.reduceNeg, Int.reduceToNat, Int.reduceAdd, Int.reduceSub, Nat.reduceMul, *]
    | (refine seqK_now ?_)
    | (refine retK_now ?_)
    | (refine retK_now' ?_)
    | (intro q hq)
    | (refine cond_intro (fun hc => ?_) (fun hc => ?_)))
      exact hv.pure (List.length_map _) rfl
end Go.Proofs.Ytlpngkeegjickaa

namespace Go.Proofs.Ytlpngkeegjickaa
open Go.Ab
attribute [local irreducible] WeakR WeakE CallA YieldA

def trimN (l : List (List Id)) : Nat → Nat
  | 0 => 0
  | n + 1 => if l.getD n [] = [] then trimN l n else n + 1
theorem trimN_le (l : List (List Id)) : ∀ n, trimN l n ≤ n
  | 0 => Nat.le_refl _
  | n + 1 => by
    unfold trimN
    split
    · have := trimN_le l n; omega
    · exact Nat.le_refl _
def trimL (l : List (List Id)) : List (List Id) := l.take (trimN l l.length)
def fullL (F : List (List Id)) (at_ : Nat) (X : List Id) : List (List Id) := (List.range (max F.length at_)).map fun i => if i + 1 = at_ then X else F.getD i []
def withL (F : List (List Id)) (at_ : Nat) (X : List Id) : List (List Id) := trimL (fullL F at_ X)
def fullA (es : List AV) (n at_ : Nat) (x : AV) : List AV := (List.range n).map fun i => cpS (if i + 1 = at_ then x else getA es i)
def withA (es : List AV) (F : List (List Id)) (at_ : Nat) (x : AV) (X : List Id) : List AV := (fullA es (max F.length at_) at_ x).take (withL F at_ X).length

def nilS : AV := .val (.slice none 0 0)
def elW (es : List AV) (n at_ : Nat) (x : AV) (k : Nat) : List AV := (fullA es n at_ x).take k ++ List.replicate (n - k) nilS
theorem fullA_len (es : List AV) (n at_ : Nat) (x : AV) : (fullA es n at_ x).length = n := by simp [fullA]
theorem elW_get {es : List AV} {n at_ : Nat} {x : AV} {k : Nat} (h : k < n) : (elW es n at_ x k)[k]? = some nilS := by
  unfold elW
  have := fullA_len es n at_ x
  rw [List.getElem?_append_right (by simp; omega), List.getElem?_replicate, if_pos (by simp; omega)]
theorem elW_set {es : List AV} {n at_ : Nat} {x : AV} {k : Nat} (h : k < n) : (elW es n at_ x k).set k (cpS (if k + 1 = at_ then x else getA es k)) = elW es n at_ x (k + 1) := by
  unfold elW
  have hl := fullA_len es n at_ x
  rw [List.set_append_right _ _ (by simp; omega), List.take_succ_eq_append_getElem (by omega), show n - k = (n - (k + 1)) + 1 by omega, List.replicate_succ]
  have : k - ((fullA es n at_ x).take k).length = 0 := by simp; omega
  rw [this, List.set_cons_zero]
  simp [fullA]
theorem elW_all (es : List AV) (n at_ : Nat) (x : AV) : elW es n at_ x n = fullA es n at_ x := by
  unfold elW
  rw [Nat.sub_self, List.replicate_zero, List.append_nil, List.take_of_length_le (by rw [fullA_len]; exact Nat.le_refl _)]

theorem full_is {s x : AV} {es : List AV} {F : List (List Id)} {X : List Id} {at_ : Nat} (h : IsB s es F) (hx : IsL 2 x (X.map Id.av)) (i : Nat) (hi : i < (fullA es (max F.length at_) at_ x).length) (hi' : i < (fullL F at_ X).length) :
    IsT 2 (fullA es (max F.length at_) at_ x)[i] ((fullL F at_ X)[i].map Id.av) := by
  simp only [fullA, fullL, List.getElem_map, List.getElem_range]
  refine cpS_T ?_
  split
  · exact hx
  · exact getA_L h i
theorem with_is {s x : AV} {es : List AV} {F : List (List Id)} {X : List Id} {at_ : Nat} (h : IsB s es F) (hx : IsL 2 x (X.map Id.av)) : IsB (.list 1 true (withA es F at_ x X)) (withA es F at_ x X) (withL F at_ X) := by
  have hl := fullA_len es (max F.length at_) at_ x
  have hl2 : (fullL F at_ X).length = max F.length at_ := by simp [fullL]
  have h3 : (withL F at_ X).length ≤ max F.length at_ := by
    unfold withL trimL
    rw [List.length_take, hl2]; omega
  refine ⟨.list, by unfold withA; rw [List.length_take, hl]; omega, fun i h1 h2 => ?_⟩
  have k1 : i < (withL F at_ X).length := h2
  have e1 : (withA es F at_ x X)[i]'h1 = (fullA es (max F.length at_) at_ x)[i]'(by omega) := List.getElem_take
  have e2 : (withL F at_ X)[i]'h2 = (fullL F at_ X)[i]'(by omega) := List.getElem_take
  rw [e1, e2]
  exact (full_is h hx i (by omega) (by omega)).isL

def env54 (s x : AV) (at_ id n k : Nat) : Env := (((((Env.upd (fun _ => .junk) 17 (.val (.int .i64 k))).upd 16 (.val (.int .i64 n))).upd 7 (.own id 1 0 n (some n))).upd 2 x).upd 1 (.val (.int .i64 at_))).upd 0 s
def env54b (id n j : Nat) : Env := Env.upd (fun _ => .junk) 7 (.own id 1 0 j (some n))

set_option maxHeartbeats 4000000 in
theorem with_ok (s x : AV) (es : List AV) (F : List (List Id)) (X : List Id) (at_ : Nat) (h : IsB s es F) (hx : IsL 2 x (X.map Id.av)) (hF : Sm F) (hX : X.length ≤ 1000) (ha : 1 ≤ at_) (ha' : at_ ≤ 40) :
    PureA Try.prog 54 [s, .val (.int .i64 at_), x] (.list 1 true (withA es F at_ x X)) := by
  intro O
  have h1 := h.1.len
  rw [h.2.1] at h1
  have hFl := hF.1
  have hn1 : ∀ n, max F.length at_ = n → 1 ≤ n ∧ n ≤ 1000 := fun n e => by omega
  have hmx : (if (F.length : Int) < (at_ : Int) then (at_ : Int) else (F.length : Int)) = ((max F.length at_ : Nat) : Int) := by split <;> omega
  obtain ⟨n, hn⟩ : ∃ n, max F.length at_ = n := ⟨_, rfl⟩
  have hn1 := hn1 n hn
  rw [hn] at hmx
  replace hn := (show Aside _ from hn)
  refine k54.call mix ?_
  unfold c54
  (repeat' first
    | simp (contextual := true) (maxSteps := 4000000) only [fwc, fwe, fww, reduceIte, ↓reduceIte, Nat.reduceAdd, Nat.reduceLeDiff, Nat.reduceEqDiff, Nat.reduceLT, Nat.reduceSub, reduceCtorEq, Int.reduceEq, Int.reduceLT, Int.reduceLE, Int.reduceNeg, Int.reduceToNat, Int.reduceAdd, Int.reduceSub, Nat.reduceMul, *]
    | (refine seqK_now ?_)
    | (refine retK_now ?_)
    | (refine retK_now' ?_)
    | (intro q hq)
    | (refine cond_intro (fun hc => ?_) (fun hc => ?_)))
  refine make_own n n rfl rfl (Nat.le_refl _) (by omega) (by omega) fun id hid => ?_
  (repeat' first
    | simp (contextual := true) (maxSteps := 4000000) only [fwc, fwe, fww, reduceIte, ↓reduceIte, Nat.reduceAdd, Nat.reduceLeDiff, Nat.reduceEqDiff, Nat.reduceLT, Nat.reduceSub, reduceCtorEq, Int.reduceEq, Int.reduceLT, Int.reduceLE, Int.reduceNeg, Int.reduceToNat, Int.reduceAdd, Int.reduceSub, Nat.reduceMul, *]
    | (refine seqK_now ?_)
    | (refine retK_now ?_)
    | (refine retK_now' ?_)
    | (intro q hq)
    | (refine cond_intro (fun hc => ?_) (fun hc => ?_)))
  obtain ⟨I, hI⟩ := hideI (fun m e O' => ∃ k : Nat, k ≤ n ∧ m = n - k ∧ O' = O.upd id (.arr 29 1 (elW es n at_ x k)) ∧ e = env54 s x at_ id n k)
  refine cmd_loop I n (by
    rw [hI.out]
    refine ⟨0, by omega, rfl, ?_, rfl⟩
    simp [elW, nilS]) ?_
  intro m e O' hh
  rw [hI.out] at hh
  obtain ⟨k, h3, rfl, rfl, rfl⟩ := hh
  unfold env54
  (repeat' first
    | simp (contextual := true) (maxSteps := 4000000) only [fwc, fwe, fww, reduceIte, ↓reduceIte, Nat.reduceAdd, Nat.reduceLeDiff, Nat.reduceEqDiff, Nat.reduceLT, Nat.reduceSub, reduceCtorEq, Int.reduceEq, Int.reduceLT, Int.reduceLE, Int.reduceNeg, Int.reduceToNat, Int.reduceAdd, Int.reduceSub, Nat.reduceMul, ilt_nat, *]
    | (refine seqK_now ?_)
    | (refine retK_now ?_)
    | (refine retK_now' ?_)
    | (intro q hq)
    | (refine cond_intro (fun hc => ?_) (fun hc => ?_)))
  · have hk : k < n := of_decide_eq_true hc
    clear hc
    have hw : k < 4611686018427387904 := by omega
    have hg := getOK h hF k
    have hgL := getA_L h k
    have hgl := hF.getD k
    have d1 : IntKind.i64.wrap ((at_ : Int) - 1) = ((at_ - 1 : Nat) : Int) := by rw [wrap_i64 (by omega) (by omega)]; omega
    have d2 : decide ((k : Int) = ((at_ - 1 : Nat) : Int)) = decide (k + 1 = at_) := decide_eq_decide.2 (by omega)
    have hget := elW_get (es := es) (n := n) (at_ := at_) (x := x) hk
    have hset := elW_set (es := es) (n := n) (at_ := at_) (x := x) hk
    have hio : indexAddrA 1 (k : Int) (.own id 1 0 n (some n)) = some (.optr id 1 k 0) := by rw [ia_onat hk, Nat.zero_add]
    (repeat' first
    | simp (contextual := true) (maxSteps := 4000000) only [fwc, fwe, fww, reduceIte, ↓reduceIte, Nat.reduceAdd, Nat.reduceLeDiff, Nat.reduceEqDiff, Nat.reduceLT, Nat.reduceSub, reduceCtorEq, Int.reduceEq, Int.reduceLT, Int.reduceLE, Int.reduceNeg, Int.reduceToNat, Int.reduceAdd, Int.reduceSub, Nat.reduceMul, *]
    | (refine seqK_now ?_)
    | (refine retK_now ?_)
    | (refine retK_now' ?_)
    | (intro q hq)
    | (refine cond_intro (fun hc => ?_) (fun hc => ?_)))
    refine hg.use ?_
    (repeat' first
    | simp (contextual := true) (maxSteps := 4000000) only [fwc, fwe, fww, reduceIte, ↓reduceIte, Nat.reduceAdd, Nat.reduceLeDiff, Nat.reduceEqDiff, Nat.reduceLT, Nat.reduceSub, reduceCtorEq, Int.reduceEq, Int.reduceLT, Int.reduceLE, Int.reduceNeg, Int.reduceToNat, Int.reduceAdd, Int.reduceSub, Nat.reduceMul, *]
    | (refine seqK_now ?_)
    | (refine retK_now ?_)
    | (refine retK_now' ?_)
    | (intro q hq)
    | (refine cond_intro (fun hc => ?_) (fun hc => ?_)))
    · have hka : k + 1 = at_ := of_decide_eq_true hc
      clear hc
      rw [if_pos hka] at hset
      have hcl := (cpS_T hx).isL.cells
      have hst := (cpS_T hx).isL.stor
      refine (Clone_ok hx (by simp only [List.length_map]; omega)).use ?_
      (repeat' first
    | simp (contextual := true) (maxSteps := 4000000) only [fwc, fwe, fww, reduceIte, ↓reduceIte, Nat.reduceAdd, Nat.reduceLeDiff, Nat.reduceEqDiff, Nat.reduceLT, Nat.reduceSub, reduceCtorEq, Int.reduceEq, Int.reduceLT, Int.reduceLE, Int.reduceNeg, Int.reduceToNat, Int.reduceAdd, Int.reduceSub, Nat.reduceMul, *]
    | (refine seqK_now ?_)
    | (refine retK_now ?_)
    | (refine retK_now' ?_)
    | (intro q hq)
    | (refine cond_intro (fun hc => ?_) (fun hc => ?_)))
      refine (Clip_ok hx).use ?_
      clear d2
      replace hka := (show Aside _ from hka)
      (repeat' first
    | simp (contextual := true) (maxSteps := 4000000) only [fwc, fwe, fww, reduceIte, ↓reduceIte, Nat.reduceAdd, Nat.reduceLeDiff, Nat.reduceEqDiff, Nat.reduceLT, Nat.reduceSub, reduceCtorEq, Int.reduceEq, Int.reduceLT, Int.reduceLE, Int.reduceNeg, Int.reduceToNat, Int.reduceAdd, Int.reduceSub, Nat.reduceMul, wrap_succ, *]
    | (refine seqK_now ?_)
    | (refine retK_now ?_)
    | (refine retK_now' ?_)
    | (intro q hq)
    | (refine cond_intro (fun hc => ?_) (fun hc => ?_)))
      refine loopK_now (n - (k + 1)) (by omega) ?_
      rw [hI.out]
      refine ⟨k + 1, by omega, rfl, ?_, ?_⟩
      · first | rfl | (simp only [upd_upd])
      · simp (contextual := true) (maxSteps := 4000000) only [fwc, fwe, fww, reduceIte, ↓reduceIte, Nat.reduceAdd, Nat.reduceLeDiff, Nat.reduceEqDiff, Nat.reduceLT, Nat.reduceSub, reduceCtorEq, Int.reduceEq, Int.reduceLT, Int.reduceLE, Int.reduceNeg, Int.reduceToNat, Int.reduceAdd, Int.reduceSub, Nat.reduceMul, env54, wrap_succ, *]
    · have hka : ¬ k + 1 = at_ := of_decide_eq_false hc
      clear hc
      rw [if_neg hka] at hset
      have hcl := (cpS_T hgL).isL.cells
      have hst := (cpS_T hgL).isL.stor
      refine (Clone_ok hgL (by simp only [List.length_map]; omega)).use ?_
      (repeat' first
    | simp (contextual := true) (maxSteps := 4000000) only [fwc, fwe, fww, reduceIte, ↓reduceIte, Nat.reduceAdd, Nat.reduceLeDiff, Nat.reduceEqDiff, Nat.reduceLT, Nat.reduceSub, reduceCtorEq, Int.reduceEq, Int.reduceLT, Int.reduceLE, Int.reduceNeg, Int.reduceToNat, Int.reduceAdd, Int.reduceSub, Nat.reduceMul, *]
    | (refine seqK_now ?_)
    | (refine retK_now ?_)
    | (refine retK_now' ?_)
    | (intro q hq)
    | (refine cond_intro (fun hc => ?_) (fun hc => ?_)))
      refine (Clip_ok hgL).use ?_
      clear d2
      replace hka := (show Aside _ from hka)
      (repeat' first
    | simp (contextual := true) (maxSteps := 4000000) only [fwc, fwe, fww, reduceIte, ↓reduceIte, Nat.reduceAdd, Nat.reduceLeDiff, Nat.reduceEqDiff, Nat.reduceLT, Nat.reduceSub, reduceCtorEq, Int.reduceEq, Int.reduceLT, Int.reduceLE, Int.reduceNeg, Int.reduceToNat, Int.reduceAdd, Int.reduceSub, Nat.reduceMul, wrap_succ, *]
    | (refine seqK_now ?_)
    | (refine retK_now ?_)
    | (refine retK_now' ?_)
    | (intro q hq)
    | (refine cond_intro (fun hc => ?_) (fun hc => ?_)))
      refine loopK_now (n - (k + 1)) (by omega) ?_
      rw [hI.out]
      refine ⟨k + 1, by omega, rfl, ?_, ?_⟩
      · first | rfl | (simp only [upd_upd])
      · simp (contextual := true) (maxSteps := 4000000) only [fwc, fwe, fww, reduceIte, ↓reduceIte, Nat.reduceAdd, Nat.reduceLeDiff, Nat.reduceEqDiff, Nat.reduceLT, Nat.reduceSub, reduceCtorEq, Int.reduceEq, Int.reduceLT, Int.reduceLE, Int.reduceNeg, Int.reduceToNat, Int.reduceAdd, Int.reduceSub, Nat.reduceMul, env54, wrap_succ, *]
  · have hk : k = n := by have := of_decide_eq_false hc; omega
    subst hk
    clear hI I hc
    rw [elW_all]
    obtain ⟨I, hI⟩ := hideI (fun m e O' => ∃ j : Nat, j ≤ k ∧ m = j ∧ trimN (fullL F at_ X) k = trimN (fullL F at_ X) j ∧ O' = O.upd id (.arr 29 1 (fullA es k at_ x)) ∧ e = env54b id k j)
    (repeat' first
    | simp (contextual := true) (maxSteps := 4000000) only [fwc, fwe, fww, reduceIte, ↓reduceIte, Nat.reduceAdd, Nat.reduceLeDiff, Nat.reduceEqDiff, Nat.reduceLT, Nat.reduceSub, reduceCtorEq, Int.reduceEq, Int.reduceLT, Int.reduceLE, Int.reduceNeg, Int.reduceToNat, Int.reduceAdd, Int.reduceSub, Nat.reduceMul, *]
    | (refine seqK_now ?_)
    | (refine retK_now ?_)
    | (refine retK_now' ?_)
    | (intro q hq)
    | (refine cond_intro (fun hc => ?_) (fun hc => ?_)))
    refine cmd_loop I k (by rw [hI.out]; exact ⟨k, Nat.le_refl _, rfl, rfl, rfl, rfl⟩) ?_
    intro m e O' hh
    rw [hI.out] at hh
    obtain ⟨j, h4, hm, h5, rfl, rfl⟩ := hh
    subst m
    replace h5 := (show Aside _ from h5)
    unfold env54b
    have hll : (fullL F at_ X).length = k := by rw [← hn.out]; simp [fullL]
    have hfa := fullA_len es k at_ x
    have tail : trimN (fullL F at_ X) k = j → CallA Try.prog 71 [.own id 1 0 j (some k)] (O.upd id (.arr 29 1 (fullA es k at_ x))) (fun r O' => r = .list 1 false (withA es F at_ x X) ∧ O' = O) := fun e => by
      have hz := Fz.own (id := id) (sz := 1) (elems := fullA es k at_ x) 0 j (some k) false (by omega) (fun h => by cases h)
      rw [List.drop_zero] at hz
      have hw : (fullA es k at_ x).take j = withA es F at_ x X := by
        unfold withA withL trimL
        rw [List.length_take, hll, hn.out, e, Nat.min_eq_left h4]
      rw [hw] at hz
      refine CallA.freeze1 id 1 29 _ (Heap.upd_same _ _ _) hz ?_
      rw [del_upd_new hid]
      refine (CloneB_ok .list ?_).use ⟨rfl, rfl⟩
      rw [← hw, List.length_take]
      omega
    replace tail := (show Aside _ from tail)
    rcases Nat.eq_zero_or_pos j with hj | hj
    · subst hj
      have d0 : decide ((0 : Int) < ((0 : Nat) : Int)) = false := by decide
      (repeat' first
    | simp (contextual := true) (maxSteps := 4000000) only [fwc, fwe, fww, reduceIte, ↓reduceIte, Nat.reduceAdd, Nat.reduceLeDiff, Nat.reduceEqDiff, Nat.reduceLT, Nat.reduceSub, reduceCtorEq, Int.reduceEq, Int.reduceLT, Int.reduceLE, Int.reduceNeg, Int.reduceToNat, Int.reduceAdd, Int.reduceSub, Nat.reduceMul, *]
    | (refine seqK_now ?_)
    | (refine retK_now ?_)
    | (refine retK_now' ?_)
    | (intro q hq)
    | (refine cond_intro (fun hc => ?_) (fun hc => ?_)))
      refine CallA.mono (tail.out h5.out) fun r O1 h => ?_
      obtain ⟨rfl, rfl⟩ := h
      (repeat' first
    | simp (contextual := true) (maxSteps := 4000000) only [fwc, fwe, fww, reduceIte, ↓reduceIte, Nat.reduceAdd, Nat.reduceLeDiff, Nat.reduceEqDiff, Nat.reduceLT, Nat.reduceSub, reduceCtorEq, Int.reduceEq, Int.reduceLT, Int.reduceLE, Int.reduceNeg, Int.reduceToNat, Int.reduceAdd, Int.reduceSub, Nat.reduceMul, *]
    | (refine seqK_now ?_)
    | (refine retK_now ?_)
    | (refine retK_now' ?_)
    | (intro q hq)
    | (refine cond_intro (fun hc => ?_) (fun hc => ?_)))
      refine (ClipB_ok (IsL.list (t := true))).use ?_
      (repeat' first
    | simp (contextual := true) (maxSteps := 4000000) only [fwc, fwe, fww, reduceIte, ↓reduceIte, Nat.reduceAdd, Nat.reduceLeDiff, Nat.reduceEqDiff, Nat.reduceLT, Nat.reduceSub, reduceCtorEq, Int.reduceEq, Int.reduceLT, Int.reduceLE, Int.reduceNeg, Int.reduceToNat, Int.reduceAdd, Int.reduceSub, Nat.reduceMul, *]
    | (refine seqK_now ?_)
    | (refine retK_now ?_)
    | (refine retK_now' ?_)
    | (intro q hq)
    | (refine cond_intro (fun hc => ?_) (fun hc => ?_)))
      refine WeakR.pure (by repeat (first | exact Heap.sub_refl _ | refine sub_upd (by simp only [*]) ?_)) ?_
      rfl
    · have d1 : decide ((0 : Int) < (j : Int)) = true := decide_eq_true (by omega)
      have d2 : IntKind.i64.wrap ((j : Int) - 1) = ((j - 1 : Nat) : Int) := by rw [wrap_i64 (by omega) (by omega)]; omega
      have hio : indexAddrA 1 ((j - 1 : Nat) : Int) (.own id 1 0 j (some k)) = some (.optr id 1 (j - 1) 0) := by rw [ia_onat (by omega), Nat.zero_add]
      have hsl : sliceA 1 (.own id 1 0 j (some k)) none (some (.val (.int .i64 ((j - 1 : Nat) : Int)))) none = some (.own id 1 0 (j - 1) (some k)) := by
        rw [slice_own (a := 0) (b := j - 1) (by simp [bound_none]) (by rw [bound_int, if_pos (by omega)]; rfl) (by omega) (by simp [leCap])]
        rfl
      have hyT := full_is h hx (j - 1) (by rw [hn.out]; omega) (by omega)
      simp only [hn.out] at hyT
      have hge : (fullA es k at_ x)[j - 1]? = some (fullA es k at_ x)[j - 1] := List.getElem?_eq_getElem (by omega)
      generalize (fullA es k at_ x)[j - 1]'(by omega) = y at hge hyT
      have hy1 := hyT.isL.cells
      have hy2 := hyT.isL.len
      rw [List.length_map] at hy2
      have d3 : decide ((((fullL F at_ X)[j - 1]'(by omega)).length : Int) = 0) = decide (((fullL F at_ X)[j - 1]'(by omega)).length = 0) := decide_eq_decide.2 (by omega)
      have htr : trimN (fullL F at_ X) j = if ((fullL F at_ X)[j - 1]'(by omega)).length = 0 then trimN (fullL F at_ X) (j - 1) else j := by
        obtain ⟨i, rfl⟩ : ∃ i, j = i + 1 := ⟨j - 1, by omega⟩
        simp only [Nat.add_sub_cancel]
        rw [trimN, List.getD_eq_getElem?_getD, List.getElem?_eq_getElem (by omega)]
        simp only [Option.getD_some, List.length_eq_zero_iff]
      replace htr := (show Aside _ from htr)
      generalize ((fullL F at_ X)[j - 1]'(by omega)).length = yl at hy2 d3 htr
      (repeat' first
    | simp (contextual := true) (maxSteps := 4000000) only [fwc, fwe, fww, reduceIte, ↓reduceIte, Nat.reduceAdd, Nat.reduceLeDiff, Nat.reduceEqDiff, Nat.reduceLT, Nat.reduceSub, reduceCtorEq, Int.reduceEq, Int.reduceLT, Int.reduceLE, Int.reduceNeg, Int.reduceToNat, Int.reduceAdd, Int.reduceSub, Nat.reduceMul, part_cell, *]
    | (refine seqK_now ?_)
    | (refine retK_now ?_)
    | (refine retK_now' ?_)
    | (intro q hq)
    | (refine cond_intro (fun hc => ?_) (fun hc => ?_)))
      · have hy0 : yl = 0 := of_decide_eq_true hc
        clear hc d3
        replace hy0 := (show Aside _ from hy0)
        (repeat' first
    | simp (contextual := true) (maxSteps := 4000000) only [fwc, fwe, fww, reduceIte, ↓reduceIte, Nat.reduceAdd, Nat.reduceLeDiff, Nat.reduceEqDiff, Nat.reduceLT, Nat.reduceSub, reduceCtorEq, Int.reduceEq, Int.reduceLT, Int.reduceLE, Int.reduceNeg, Int.reduceToNat, Int.reduceAdd, Int.reduceSub, Nat.reduceMul, *]
    | (refine seqK_now ?_)
    | (refine retK_now ?_)
    | (refine retK_now' ?_)
    | (intro q hq)
    | (refine cond_intro (fun hc => ?_) (fun hc => ?_)))
        refine loopK_now (j - 1) (by omega) ?_
        rw [hI.out]
        refine ⟨j - 1, by omega, rfl, ?_, rfl, ?_⟩
        · rw [h5.out, htr.out, if_pos hy0.out]
        · simp (contextual := true) (maxSteps := 4000000) only [fwc, fwe, fww, reduceIte, ↓reduceIte, Nat.reduceAdd, Nat.reduceLeDiff, Nat.reduceEqDiff, Nat.reduceLT, Nat.reduceSub, reduceCtorEq, Int.reduceEq, Int.reduceLT, Int.reduceLE, Int.reduceNeg, Int.reduceToNat, Int.reduceAdd, Int.reduceSub, Nat.reduceMul, env54b, *]
      · have hy0 : ¬ yl = 0 := of_decide_eq_false hc
        clear hc d3
        replace hy0 := (show Aside _ from hy0)
        refine CallA.mono (tail.out (by rw [h5.out, htr.out, if_neg hy0.out])) fun r O1 h => ?_
        obtain ⟨rfl, rfl⟩ := h
        (repeat' first
    | simp (contextual := true) (maxSteps := 4000000) only [fwc, fwe, fww, reduceIte, ↓reduceIte, Nat.reduceAdd, Nat.reduceLeDiff, Nat.reduceEqDiff, Nat.reduceLT, Nat.reduceSub, reduceCtorEq, Int.reduceEq, Int.reduceLT, Int.reduceLE, Int.reduceNeg, Int.reduceToNat, Int.reduceAdd, Int.reduceSub, Nat.reduceMul, *]
    | (refine seqK_now ?_)
    | (refine retK_now ?_)
    | (refine retK_now' ?_)
    | (intro q hq)
    | (refine cond_intro (fun hc => ?_) (fun hc => ?_)))
        refine (ClipB_ok (IsL.list (t := true))).use ?_
        (repeat' first
    | simp (contextual := true) (maxSteps := 4000000) only [fwc, fwe, fww, reduceIte, ↓reduceIte, Nat.reduceAdd, Nat.reduceLeDiff, Nat.reduceEqDiff, Nat.reduceLT, Nat.reduceSub, reduceCtorEq, Int.reduceEq, Int.reduceLT, Int.reduceLE, Int.reduceNeg, Int.reduceToNat, Int.reduceAdd, Int.reduceSub, Nat.reduceMul, *]
    | (refine seqK_now ?_)
    | (refine retK_now ?_)
    | (refine retK_now' ?_)
    | (intro q hq)
    | (refine cond_intro (fun hc => ?_) (fun hc => ?_)))
        refine WeakR.pure (by repeat (first | exact Heap.sub_refl _ | refine sub_upd (by simp only [*]) ?_)) ?_
        rfl
end Go.Proofs.Ytlpngkeegjickaa

namespace Go.Proofs.Ytlpngkeegjickaa
open Go.Ab
attribute [local irreducible] WeakR WeakE CallA YieldA

/-- Beds with other loops on a needle of the front bed. -/
theorem putF_ok (f b x : AV) (es fs : List AV) (F B : List (List Id)) (X : List Id) (a : Nat) (hf : IsB f es F) (hb : IsB b fs B) (hx : IsL 2 x (X.map Id.av)) (hF : Sm F) (hB : Sm B) (hX : X.length ≤ 1000) (ha : 1 ≤ a) (ha' : a ≤ 40) :
    PureA Try.prog 38 [.agg [f, b], .agg [.val (.int .u8 0), .val (.int .i64 a)], x] (.agg [.list 1 true (withA es F a x X), .list 1 true (withA fs B 1 (getA fs 0) (B.getD 0 []))]) := by
  intro O
  have hf1 := hf.1.cells
  have hb1 := hb.1.cells
  have hf2 := hf.1.stor
  have hb2 := hb.1.stor
  have hx1 := hx.cells
  have hx2 := hx.stor
  have hgF : PureA Try.prog 35 [f, .val (.int .i64 0)] (getA es 0) := getOK hf hF 0
  have hgB : PureA Try.prog 35 [b, .val (.int .i64 0)] (getA fs 0) := getOK hb hB 0
  have hLF := getA_L hf 0
  have hLB := getA_L hb 0
  have c1 := hLF.cells
  have c2 := hLB.cells
  have c3 := hLF.stor
  have c4 := hLB.stor
  have hw1 := with_ok f x es F X a hf hx hF hX ha ha'
  have hw2 : PureA Try.prog 54 [b, .val (.int .i64 1), getA fs 0] _ := with_ok b (getA fs 0) fs B (B.getD 0 []) 1 hb hLB hB (hB.getD 0) (by omega) (by omega)
  have w1 : IntKind.u8.wrap 1 = 1 := by decide
  have w0 : IntKind.u8.wrap 0 = 0 := by decide
  refine k38.call mix ?_
  unfold c38
  have i0 : ∀ q, indexPtrA 2 1 false 0 (.optr q 2 0 0) = some (.optr q 2 0 0) := fun _ => rfl
  have i1 : ∀ q, indexPtrA 2 1 false 1 (.optr q 2 0 0) = some (.optr q 2 0 1) := fun _ => rfl
  (repeat' first
    | simp (contextual := true) (maxSteps := 4000000) only [fwc, fwe, fww, reduceIte, ↓reduceIte, Nat.reduceAdd, Nat.reduceLeDiff, Nat.reduceEqDiff, Nat.reduceLT, Nat.reduceSub, reduceCtorEq, Int.reduceEq, Int.reduceLT, Int.reduceLE, Int.reduceNeg, Int.reduceToNat, Int.reduceAdd, Int.reduceSub, Nat.reduceMul, part_cell, *]
    | (refine seqK_now ?_)
    | (refine retK_now ?_)
    | (refine retK_now' ?_)
    | (intro q hq)
    | (refine cond_intro (fun hc => ?_) (fun hc => ?_)))
  refine callF_use hgF ?_
  (repeat' first
    | simp (contextual := true) (maxSteps := 4000000) only [fwc, fwe, fww, reduceIte, ↓reduceIte, Nat.reduceAdd, Nat.reduceLeDiff, Nat.reduceEqDiff, Nat.reduceLT, Nat.reduceSub, reduceCtorEq, Int.reduceEq, Int.reduceLT, Int.reduceLE, Int.reduceNeg, Int.reduceToNat, Int.reduceAdd, Int.reduceSub, Nat.reduceMul, part_cell, *]
    | (refine seqK_now ?_)
    | (refine retK_now ?_)
    | (refine retK_now' ?_)
    | (intro q hq)
    | (refine cond_intro (fun hc => ?_) (fun hc => ?_)))
  refine callF_use hgB ?_
  (repeat' first
    | simp (contextual := true) (maxSteps := 4000000) only [fwc, fwe, fww, reduceIte, ↓reduceIte, Nat.reduceAdd, Nat.reduceLeDiff, Nat.reduceEqDiff, Nat.reduceLT, Nat.reduceSub, reduceCtorEq, Int.reduceEq, Int.reduceLT, Int.reduceLE, Int.reduceNeg, Int.reduceToNat, Int.reduceAdd, Int.reduceSub, Nat.reduceMul, part_cell, *]
    | (refine seqK_now ?_)
    | (refine retK_now ?_)
    | (refine retK_now' ?_)
    | (intro q hq)
    | (refine cond_intro (fun hc => ?_) (fun hc => ?_)))
  refine callF_use hw1 ?_
  (repeat' first
    | simp (contextual := true) (maxSteps := 4000000) only [fwc, fwe, fww, reduceIte, ↓reduceIte, Nat.reduceAdd, Nat.reduceLeDiff, Nat.reduceEqDiff, Nat.reduceLT, Nat.reduceSub, reduceCtorEq, Int.reduceEq, Int.reduceLT, Int.reduceLE, Int.reduceNeg, Int.reduceToNat, Int.reduceAdd, Int.reduceSub, Nat.reduceMul, part_cell, *]
    | (refine seqK_now ?_)
    | (refine retK_now ?_)
    | (refine retK_now' ?_)
    | (intro q hq)
    | (refine cond_intro (fun hc => ?_) (fun hc => ?_)))
  refine callF_use hw2 ?_
  (repeat' first
    | simp (contextual := true) (maxSteps := 4000000) only [fwc, fwe, fww, reduceIte, ↓reduceIte, Nat.reduceAdd, Nat.reduceLeDiff, Nat.reduceEqDiff, Nat.reduceLT, Nat.reduceSub, reduceCtorEq, Int.reduceEq, Int.reduceLT, Int.reduceLE, Int.reduceNeg, Int.reduceToNat, Int.reduceAdd, Int.reduceSub, Nat.reduceMul, part_cell, part_agg, *]
    | (refine seqK_now ?_)
    | (refine retK_now ?_)
    | (refine retK_now' ?_)
    | (intro q hq)
    | (refine cond_intro (fun hc => ?_) (fun hc => ?_)))
  refine WeakR.pure (by repeat (first | exact Heap.sub_refl _ | refine sub_upd (by simp only [*]) ?_)) ?_
  rfl
/-- Beds with other loops on a needle of the back bed. -/
theorem putB_ok (f b x : AV) (es fs : List AV) (F B : List (List Id)) (X : List Id) (a : Nat) (hf : IsB f es F) (hb : IsB b fs B) (hx : IsL 2 x (X.map Id.av)) (hF : Sm F) (hB : Sm B) (hX : X.length ≤ 1000) (ha : 1 ≤ a) (ha' : a ≤ 40) :
    PureA Try.prog 38 [.agg [f, b], .agg [.val (.int .u8 1), .val (.int .i64 a)], x] (.agg [.list 1 true (withA es F 1 (getA es 0) (F.getD 0 [])), .list 1 true (withA fs B a x X)]) := by
  intro O
  have hf1 := hf.1.cells
  have hb1 := hb.1.cells
  have hf2 := hf.1.stor
  have hb2 := hb.1.stor
  have hx1 := hx.cells
  have hx2 := hx.stor
  have hgF : PureA Try.prog 35 [f, .val (.int .i64 0)] (getA es 0) := getOK hf hF 0
  have hgB : PureA Try.prog 35 [b, .val (.int .i64 0)] (getA fs 0) := getOK hb hB 0
  have hLF := getA_L hf 0
  have hLB := getA_L hb 0
  have c1 := hLF.cells
  have c2 := hLB.cells
  have c3 := hLF.stor
  have c4 := hLB.stor
  have hw1 : PureA Try.prog 54 [f, .val (.int .i64 1), getA es 0] _ := with_ok f (getA es 0) es F (F.getD 0 []) 1 hf hLF hF (hF.getD 0) (by omega) (by omega)
  have hw2 := with_ok b x fs B X a hb hx hB hX ha ha'
  have w1 : IntKind.u8.wrap 1 = 1 := by decide
  have w0 : IntKind.u8.wrap 0 = 0 := by decide
  refine k38.call mix ?_
  unfold c38
  have i0 : ∀ q, indexPtrA 2 1 false 0 (.optr q 2 0 0) = some (.optr q 2 0 0) := fun _ => rfl
  have i1 : ∀ q, indexPtrA 2 1 false 1 (.optr q 2 0 0) = some (.optr q 2 0 1) := fun _ => rfl
  (repeat' first
    | simp (contextual := true) (maxSteps := 4000000) only [fwc, fwe, fww, reduceIte, ↓reduceIte, Nat.reduceAdd, Nat.reduceLeDiff, Nat.reduceEqDiff, Nat.reduceLT, Nat.reduceSub, reduceCtorEq, Int.reduceEq, Int.reduceLT, Int.reduceLE, Int.reduceNeg, Int.reduceToNat, Int.reduceAdd, Int.reduceSub, Nat.reduceMul, part_cell, *]
    | (refine seqK_now ?_)
    | (refine retK_now ?_)
    | (refine retK_now' ?_)
    | (intro q hq)
    | (refine cond_intro (fun hc => ?_) (fun hc => ?_)))
  refine callF_use hgF ?_
  (repeat' first
    | simp (contextual := true) (maxSteps := 4000000) only [fwc, fwe, fww, reduceIte, ↓reduceIte, Nat.reduceAdd, Nat.reduceLeDiff, Nat.reduceEqDiff, Nat.reduceLT, Nat.reduceSub, reduceCtorEq, Int.reduceEq, Int.reduceLT, Int.reduceLE, Int.reduceNeg, Int.reduceToNat, Int.reduceAdd, Int.reduceSub, Nat.reduceMul, part_cell, *]
    | (refine seqK_now ?_)
    | (refine retK_now ?_)
    | (refine retK_now' ?_)
    | (intro q hq)
    | (refine cond_intro (fun hc => ?_) (fun hc => ?_)))
  refine callF_use hgB ?_
  (repeat' first
    | simp (contextual := true) (maxSteps := 4000000) only [fwc, fwe, fww, reduceIte, ↓reduceIte, Nat.reduceAdd, Nat.reduceLeDiff, Nat.reduceEqDiff, Nat.reduceLT, Nat.reduceSub, reduceCtorEq, Int.reduceEq, Int.reduceLT, Int.reduceLE, Int.reduceNeg, Int.reduceToNat, Int.reduceAdd, Int.reduceSub, Nat.reduceMul, part_cell, *]
    | (refine seqK_now ?_)
    | (refine retK_now ?_)
    | (refine retK_now' ?_)
    | (intro q hq)
    | (refine cond_intro (fun hc => ?_) (fun hc => ?_)))
  refine callF_use hw1 ?_
  (repeat' first
    | simp (contextual := true) (maxSteps := 4000000) only [fwc, fwe, fww, reduceIte, ↓reduceIte, Nat.reduceAdd, Nat.reduceLeDiff, Nat.reduceEqDiff, Nat.reduceLT, Nat.reduceSub, reduceCtorEq, Int.reduceEq, Int.reduceLT, Int.reduceLE, Int.reduceNeg, Int.reduceToNat, Int.reduceAdd, Int.reduceSub, Nat.reduceMul, part_cell, *]
    | (refine seqK_now ?_)
    | (refine retK_now ?_)
    | (refine retK_now' ?_)
    | (intro q hq)
    | (refine cond_intro (fun hc => ?_) (fun hc => ?_)))
  refine callF_use hw2 ?_
  (repeat' first
    | simp (contextual := true) (maxSteps := 4000000) only [fwc, fwe, fww, reduceIte, ↓reduceIte, Nat.reduceAdd, Nat.reduceLeDiff, Nat.reduceEqDiff, Nat.reduceLT, Nat.reduceSub, reduceCtorEq, Int.reduceEq, Int.reduceLT, Int.reduceLE, Int.reduceNeg, Int.reduceToNat, Int.reduceAdd, Int.reduceSub, Nat.reduceMul, part_cell, part_agg, *]
    | (refine seqK_now ?_)
    | (refine retK_now ?_)
    | (refine retK_now' ?_)
    | (intro q hq)
    | (refine cond_intro (fun hc => ?_) (fun hc => ?_)))
  refine WeakR.pure (by repeat (first | exact Heap.sub_refl _ | refine sub_upd (by simp only [*]) ?_)) ?_
  rfl

/-- The front bed, and the back bed, behind a put. -/
def putLF (F : List (List Id)) (n : Ndl) (X : List Id) : List (List Id) := if n.bed = 1 then withL F 1 (F.getD 0 []) else withL F n.at_.toNat X
def putLB (B : List (List Id)) (n : Ndl) (X : List Id) : List (List Id) := if n.bed = 1 then withL B n.at_.toNat X else withL B 1 (B.getD 0 [])
def putAF (es : List AV) (F : List (List Id)) (n : Ndl) (x : AV) (X : List Id) : List AV := if n.bed = 1 then withA es F 1 (getA es 0) (F.getD 0 []) else withA es F n.at_.toNat x X
def putAB (fs : List AV) (B : List (List Id)) (n : Ndl) (x : AV) (X : List Id) : List AV := if n.bed = 1 then withA fs B n.at_.toNat x X else withA fs B 1 (getA fs 0) (B.getD 0 [])

theorem put_ok (f b x : AV) (es fs : List AV) (F B : List (List Id)) (n : Ndl) (X : List Id) (hf : IsB f es F) (hb : IsB b fs B) (hx : IsL 2 x (X.map Id.av)) (hF : Sm F) (hB : Sm B) (hX : X.length ≤ 1000) (hn : n.bad = false) (h0 : 0 ≤ n.bed) :
    PureA Try.prog 38 [.agg [f, b], n.av, x] (.agg [.list 1 true (putAF es F n x X), .list 1 true (putAB fs B n x X)]) := by
  unfold Ndl.bad at hn
  simp only [Bool.or_eq_false_iff, decide_eq_false_iff_not, Int.not_lt] at hn
  obtain ⟨⟨h1, h2⟩, h3⟩ := hn
  have ha : n.at_ = ((n.at_.toNat : Nat) : Int) := by omega
  by_cases hbed : n.bed = 1
  · have := putB_ok f b x es fs F B X n.at_.toNat hf hb hx hF hB hX (by omega) (by omega)
    rw [show n.av = .agg [.val (.int .u8 1), .val (.int .i64 (n.at_.toNat : Nat))] by unfold Ndl.av; rw [← ha, hbed], putAF, putAB, if_pos hbed, if_pos hbed]
    exact this
  · have := putF_ok f b x es fs F B X n.at_.toNat hf hb hx hF hB hX (by omega) (by omega)
    rw [show n.av = .agg [.val (.int .u8 0), .val (.int .i64 (n.at_.toNat : Nat))] by unfold Ndl.av; rw [← ha, show n.bed = 0 by omega], putAF, putAB, if_neg hbed, if_neg hbed]
    exact this
theorem putF_is {f x : AV} {es : List AV} {F : List (List Id)} {n : Ndl} {X : List Id} (hf : IsB f es F) (hx : IsL 2 x (X.map Id.av)) : IsB (.list 1 true (putAF es F n x X)) (putAF es F n x X) (putLF F n X) := by
  unfold putAF putLF
  split
  · exact with_is hf (getA_L hf 0)
  · exact with_is hf hx
theorem putB_is {b x : AV} {fs : List AV} {B : List (List Id)} {n : Ndl} {X : List Id} (hb : IsB b fs B) (hx : IsL 2 x (X.map Id.av)) : IsB (.list 1 true (putAB fs B n x X)) (putAB fs B n x X) (putLB B n X) := by
  unfold putAB putLB
  split
  · exact with_is hb hx
  · exact with_is hb (getA_L hb 0)
theorem with_sm {F : List (List Id)} {X : List Id} {a : Nat} (hF : Sm F) (hX : X.length ≤ 1000) (ha : a ≤ 40) : Sm (withL F a X) := by
  have hl : (fullL F a X).length = max F.length a := by simp [fullL]
  constructor
  · unfold withL trimL
    rw [List.length_take, hl]
    have := hF.1
    omega
  · intro l hl'
    have := List.mem_of_mem_take hl'
    unfold fullL at this
    obtain ⟨i, _, rfl⟩ := List.mem_map.1 this
    split
    · exact hX
    · exact hF.getD i
theorem putF_sm {F : List (List Id)} {n : Ndl} {X : List Id} (hF : Sm F) (hX : X.length ≤ 1000) (hn : n.at_ ≤ 40) : Sm (putLF F n X) := by
  unfold putLF
  split
  · exact with_sm hF (hF.getD 0) (by omega)
  · exact with_sm hF hX (by omega)
theorem putB_sm {B : List (List Id)} {n : Ndl} {X : List Id} (hB : Sm B) (hX : X.length ≤ 1000) (hn : n.at_ ≤ 40) : Sm (putLB B n X) := by
  unfold putLB
  split
  · exact with_sm hB hX (by omega)
  · exact with_sm hB (hB.getD 0) (by omega)
end Go.Proofs.Ytlpngkeegjickaa

namespace Go.Proofs.Ytlpngkeegjickaa
open Go.Ab
attribute [local irreducible] WeakR WeakE CallA YieldA

theorem bad2_ok (p : Id) : PureA Try.prog 37 [p.av] (.val (.bool (!named p))) := by
  intro O
  have h := Named_ok p
  unfold Id.av at h
  refine k37.call mix ?_
  unfold c37 Id.av
  (repeat' first
    | simp (contextual := true) (maxSteps := 4000000) only [fwc, fwe, fww, reduceIte, ↓reduceIte, Nat.reduceAdd, Nat.reduceLeDiff, Nat.reduceEqDiff, Nat.reduceLT, Nat.reduceSub, reduceCtorEq, Int.reduceEq, Int.reduceLT, Int.reduceLE, Int.reduceNeg, Int.reduceToNat, Int.reduceAdd, Int.reduceSub, Nat.reduceMul, *]
    | (refine seqK_now ?_)
    | (refine retK_now ?_)
    | (refine retK_now' ?_)
    | (intro q hq)
    | (refine cond_intro (fun hc => ?_) (fun hc => ?_)))
  refine h.use ?_
  (repeat' first
    | simp (contextual := true) (maxSteps := 4000000) only [fwc, fwe, fww, reduceIte, ↓reduceIte, Nat.reduceAdd, Nat.reduceLeDiff, Nat.reduceEqDiff, Nat.reduceLT, Nat.reduceSub, reduceCtorEq, Int.reduceEq, Int.reduceLT, Int.reduceLE, Int.reduceNeg, Int.reduceToNat, Int.reduceAdd, Int.reduceSub, Nat.reduceMul, *]
    | (refine seqK_now ?_)
    | (refine retK_now ?_)
    | (refine retK_now' ?_)
    | (intro q hq)
    | (refine cond_intro (fun hc => ?_) (fun hc => ?_)))
  refine WeakR.pure (by repeat (first | exact Heap.sub_refl _ | refine sub_upd (by simp only [*]) ?_)) ?_
  rfl

def noBeds : AV := .agg [.val (.slice none 0 0), .val (.slice none 0 0)]
def setE (F B : List (List Id)) (n : Ndl) (X : List Id) : Int := if checkL F B = 0 then (if (n.bad || badNames X) = true then 1 else if 4 < X.length then 9 else if (namesL (putLF F n X) (putLB B n X)).Nodup then 0 else 8) else checkL F B
def setA (es fs : List AV) (F B : List (List Id)) (n : Ndl) (x : AV) (X : List Id) : AV := if setE F B n X = 0 then .agg [.list 1 true (putAF es F n x X), .list 1 true (putAB fs B n x X)] else noBeds

set_option maxHeartbeats 4000000 in
theorem Set_ok (f b x : AV) (es fs : List AV) (F B : List (List Id)) (n : Ndl) (X : List Id) (hf : IsB f es F) (hb : IsB b fs B) (hx : IsL 2 x (X.map Id.av)) (hF : Sm F) (hB : Sm B) (hX : X.length ≤ 1000) (h0 : 0 ≤ n.bed) :
    PureA Try.prog 18 [.agg [f, b], n.av, x] (.tup [setA es fs F B n x X, .val (.int .i64 (setE F B n X))]) := by
  intro O
  have hf1 := hf.1.cells
  have hb1 := hb.1.cells
  have hf2 := hf.1.stor
  have hb2 := hb.1.stor
  have hx1 := hx.cells
  have hx2 := hx.stor
  have hx3 := hx.len
  rw [List.length_map] at hx3
  have hck := NdlCheck_ok n
  have hch := Check_ok f b es fs F B hf hb
  have hcf := ContainsFunc_ok x X 37 (fun p => !named p) hx (by omega) (fun x => bad2_ok x)
  rw [show X.any (fun p => !named p) = badNames X from rfl] at hcf
  have hput := fun h => put_ok f b x es fs F B n X hf hb hx hF hB hX h h0
  have hpF := putF_is (n := n) hf hx
  have hpB := putB_is (n := n) hb hx
  have hfin : n.bad = false → n.at_ ≤ 40 := fun h => by
    unfold Ndl.bad at h
    simp only [Bool.or_eq_false_iff, decide_eq_false_iff_not, Int.not_lt] at h
    exact h.2
  rw [show n.av = .agg [.val (.int .u8 n.bed), .val (.int .i64 n.at_)] from rfl] at hck hput ⊢
  obtain ⟨A1, hA1⟩ : ∃ A1, putAF es F n x X = A1 := ⟨_, rfl⟩
  obtain ⟨A2, hA2⟩ : ∃ A2, putAB fs B n x X = A2 := ⟨_, rfl⟩
  rw [hA1, hA2] at hput
  rw [hA1] at hpF
  rw [hA2] at hpB
  replace hput := (show Aside _ from hput)
  replace hfin := (show Aside _ from hfin)
  have hA : setA es fs F B n x X = if setE F B n X = 0 then .agg [.list 1 true A1, .list 1 true A2] else noBeds := by rw [← hA1, ← hA2]; rfl
  rw [hA]
  replace hA1 := (show Aside _ from hA1)
  replace hA2 := (show Aside _ from hA2)
  clear hA
  obtain ⟨E, hE⟩ : ∃ E, setE F B n X = E := ⟨_, rfl⟩
  rw [hE]
  unfold setE at hE
  replace hE := (show Aside _ from hE)
  have d1 : decide ((4 : Int) < (X.length : Int)) = decide (4 < X.length) := decide_eq_decide.2 (by omega)
  refine k18.call mix ?_
  unfold c18
  (repeat' first
    | simp (contextual := true) (maxSteps := 4000000) only [fwc, fwe, fww, reduceIte, ↓reduceIte, Nat.reduceAdd, Nat.reduceLeDiff, Nat.reduceEqDiff, Nat.reduceLT, Nat.reduceSub, reduceCtorEq, Int.reduceEq, Int.reduceLT, Int.reduceLE, Int.reduceNeg, Int.reduceToNat, Int.reduceAdd, Int.reduceSub, Nat.reduceMul, *]
    | (refine seqK_now ?_)
    | (refine retK_now ?_)
    | (refine retK_now' ?_)
    | (intro q hq)
    | (refine cond_intro (fun hc => ?_) (fun hc => ?_)))
  refine hch.use ?_
  by_cases h1 : checkL F B = 0
  · have hE1 : (if (n.bad || badNames X) = true then 1 else if 4 < X.length then 9 else if (namesL (putLF F n X) (putLB B n X)).Nodup then 0 else 8) = E := by have := hE.out; rwa [if_pos h1] at this
    replace hE1 := (show Aside _ from hE1)
    clear hE
    rw [h1]
    (repeat' first
    | simp (contextual := true) (maxSteps := 4000000) only [fwc, fwe, fww, reduceIte, ↓reduceIte, Nat.reduceAdd, Nat.reduceLeDiff, Nat.reduceEqDiff, Nat.reduceLT, Nat.reduceSub, reduceCtorEq, Int.reduceEq, Int.reduceLT, Int.reduceLE, Int.reduceNeg, Int.reduceToNat, Int.reduceAdd, Int.reduceSub, Nat.reduceMul, *]
    | (refine seqK_now ?_)
    | (refine retK_now ?_)
    | (refine retK_now' ?_)
    | (intro q hq)
    | (refine cond_intro (fun hc => ?_) (fun hc => ?_)))
    refine hck.use ?_
    clear hck hch
    cases hbad : n.bad
    · rw [hbad, Bool.false_or] at hE1
      simp only [Bool.false_eq_true, if_false]
      (repeat' first
    | simp (contextual := true) (maxSteps := 4000000) only [fwc, fwe, fww, reduceIte, ↓reduceIte, Nat.reduceAdd, Nat.reduceLeDiff, Nat.reduceEqDiff, Nat.reduceLT, Nat.reduceSub, reduceCtorEq, Int.reduceEq, Int.reduceLT, Int.reduceLE, Int.reduceNeg, Int.reduceToNat, Int.reduceAdd, Int.reduceSub, Nat.reduceMul, *]
    | (refine seqK_now ?_)
    | (refine retK_now ?_)
    | (refine retK_now' ?_)
    | (intro q hq)
    | (refine cond_intro (fun hc => ?_) (fun hc => ?_)))
      refine hcf.use ?_
      cases hbn : badNames X
      · rw [hbn] at hE1
        rw [if_neg (by simp)] at hE1
        (repeat' first
    | simp (contextual := true) (maxSteps := 4000000) only [fwc, fwe, fww, reduceIte, ↓reduceIte, Nat.reduceAdd, Nat.reduceLeDiff, Nat.reduceEqDiff, Nat.reduceLT, Nat.reduceSub, reduceCtorEq, Int.reduceEq, Int.reduceLT, Int.reduceLE, Int.reduceNeg, Int.reduceToNat, Int.reduceAdd, Int.reduceSub, Nat.reduceMul, *]
    | (refine seqK_now ?_)
    | (refine retK_now ?_)
    | (refine retK_now' ?_)
    | (intro q hq)
    | (refine cond_intro (fun hc => ?_) (fun hc => ?_)))
        · have h4 : 4 < X.length := of_decide_eq_true hc
          have hEE : E = 9 := by rw [← hE1.out, if_pos h4]
          subst hEE
          refine WeakR.pure (by repeat (first | exact Heap.sub_refl _ | refine sub_upd (by simp only [*]) ?_)) ?_
          rfl
        · have h4 : ¬ 4 < X.length := of_decide_eq_false hc
          have hE2 : (if (namesL (putLF F n X) (putLB B n X)).Nodup then 0 else 8) = E := by have := hE1.out; rwa [if_neg h4] at this
          clear hE1
          replace hE2 := (show Aside _ from hE2)
          replace h4 := (show Aside _ from h4)
          clear d1
          refine (hput.out hbad).use ?_
          have hvis := (putF_sm (n := n) hF hX (hfin.out hbad)).vis (putB_sm (n := n) hB hX (hfin.out hbad))
          have hnm := names_ok _ _ _ _ _ _ hpF hpB hvis
          have hnl : (namesL (putLF F n X) (putLB B n X)).length ≤ 1048576 := by
            have := flat_len hvis
            have := vis_le (putLF F n X) (putLB B n X)
            unfold namesL
            omega
          have htw := twice_ok _ _ (frA_L 2 ((namesL (putLF F n X) (putLB B n X)).map Id.av)) hnl
          generalize frA 2 ((namesL (putLF F n X) (putLB B n X)).map Id.av) = nm at hnm htw
          replace hvis := (show Aside _ from hvis)
          (repeat' first
    | simp (contextual := true) (maxSteps := 4000000) only [fwc, fwe, fww, reduceIte, ↓reduceIte, Nat.reduceAdd, Nat.reduceLeDiff, Nat.reduceEqDiff, Nat.reduceLT, Nat.reduceSub, reduceCtorEq, Int.reduceEq, Int.reduceLT, Int.reduceLE, Int.reduceNeg, Int.reduceToNat, Int.reduceAdd, Int.reduceSub, Nat.reduceMul, part_agg, *]
    | (refine seqK_now ?_)
    | (refine retK_now ?_)
    | (refine retK_now' ?_)
    | (intro q hq)
    | (refine cond_intro (fun hc => ?_) (fun hc => ?_)))
          refine hnm.use ?_
          (repeat' first
    | simp (contextual := true) (maxSteps := 4000000) only [fwc, fwe, fww, reduceIte, ↓reduceIte, Nat.reduceAdd, Nat.reduceLeDiff, Nat.reduceEqDiff, Nat.reduceLT, Nat.reduceSub, reduceCtorEq, Int.reduceEq, Int.reduceLT, Int.reduceLE, Int.reduceNeg, Int.reduceToNat, Int.reduceAdd, Int.reduceSub, Nat.reduceMul, *]
    | (refine seqK_now ?_)
    | (refine retK_now ?_)
    | (refine retK_now' ?_)
    | (intro q hq)
    | (refine cond_intro (fun hc => ?_) (fun hc => ?_)))
          refine htw.use ?_
          clear hnm htw
          by_cases hnd : (namesL (putLF F n X) (putLB B n X)).Nodup
          · have hEE : E = 0 := by rw [← hE2.out, if_pos hnd]
            subst hEE
            rw [decide_eq_true hnd]
            replace hnd := (show Aside _ from hnd)
            (repeat' first
    | simp (contextual := true) (maxSteps := 4000000) only [fwc, fwe, fww, reduceIte, ↓reduceIte, Nat.reduceAdd, Nat.reduceLeDiff, Nat.reduceEqDiff, Nat.reduceLT, Nat.reduceSub, reduceCtorEq, Int.reduceEq, Int.reduceLT, Int.reduceLE, Int.reduceNeg, Int.reduceToNat, Int.reduceAdd, Int.reduceSub, Nat.reduceMul, part_agg, *]
    | (refine seqK_now ?_)
    | (refine retK_now ?_)
    | (refine retK_now' ?_)
    | (intro q hq)
    | (refine cond_intro (fun hc => ?_) (fun hc => ?_)))
            refine WeakR.pure (by repeat (first | exact Heap.sub_refl _ | refine sub_upd (by simp only [*]) ?_)) ?_
            rfl
          · have hEE : E = 8 := by rw [← hE2.out, if_neg hnd]
            subst hEE
            rw [decide_eq_false hnd]
            replace hnd := (show Aside _ from hnd)
            (repeat' first
    | simp (contextual := true) (maxSteps := 4000000) only [fwc, fwe, fww, reduceIte, ↓reduceIte, Nat.reduceAdd, Nat.reduceLeDiff, Nat.reduceEqDiff, Nat.reduceLT, Nat.reduceSub, reduceCtorEq, Int.reduceEq, Int.reduceLT, Int.reduceLE, Int.reduceNeg, Int.reduceToNat, Int.reduceAdd, Int.reduceSub, Nat.reduceMul, part_agg, *]
    | (refine seqK_now ?_)
    | (refine retK_now ?_)
    | (refine retK_now' ?_)
    | (intro q hq)
    | (refine cond_intro (fun hc => ?_) (fun hc => ?_)))
            refine WeakR.pure (by repeat (first | exact Heap.sub_refl _ | refine sub_upd (by simp only [*]) ?_)) ?_
            rfl
      · rw [hbn] at hE1
        rw [if_pos rfl] at hE1
        have hEE := hE1.out.symm
        subst hEE
        (repeat' first
    | simp (contextual := true) (maxSteps := 4000000) only [fwc, fwe, fww, reduceIte, ↓reduceIte, Nat.reduceAdd, Nat.reduceLeDiff, Nat.reduceEqDiff, Nat.reduceLT, Nat.reduceSub, reduceCtorEq, Int.reduceEq, Int.reduceLT, Int.reduceLE, Int.reduceNeg, Int.reduceToNat, Int.reduceAdd, Int.reduceSub, Nat.reduceMul, part_agg, *]
    | (refine seqK_now ?_)
    | (refine retK_now ?_)
    | (refine retK_now' ?_)
    | (intro q hq)
    | (refine cond_intro (fun hc => ?_) (fun hc => ?_)))
        refine WeakR.pure (by repeat (first | exact Heap.sub_refl _ | refine sub_upd (by simp only [*]) ?_)) ?_
        rfl
    · rw [hbad, Bool.true_or, if_pos rfl] at hE1
      have hEE := hE1.out.symm
      subst hEE
      rw [if_pos rfl]
      (repeat' first
    | simp (contextual := true) (maxSteps := 4000000) only [fwc, fwe, fww, reduceIte, ↓reduceIte, Nat.reduceAdd, Nat.reduceLeDiff, Nat.reduceEqDiff, Nat.reduceLT, Nat.reduceSub, reduceCtorEq, Int.reduceEq, Int.reduceLT, Int.reduceLE, Int.reduceNeg, Int.reduceToNat, Int.reduceAdd, Int.reduceSub, Nat.reduceMul, part_agg, *]
    | (refine seqK_now ?_)
    | (refine retK_now ?_)
    | (refine retK_now' ?_)
    | (intro q hq)
    | (refine cond_intro (fun hc => ?_) (fun hc => ?_)))
      refine WeakR.pure (by repeat (first | exact Heap.sub_refl _ | refine sub_upd (by simp only [*]) ?_)) ?_
      rfl
  · have hEE : E = checkL F B := by have := hE.out; rw [if_neg h1] at this; exact this.symm
    clear hE
    rw [← hEE] at h1 ⊢
    clear hEE
    have d2 : decide (E = 0) = false := decide_eq_false h1
    rw [if_neg h1]
    replace h1 := (show Aside _ from h1)
    (repeat' first
    | simp (contextual := true) (maxSteps := 4000000) only [fwc, fwe, fww, reduceIte, ↓reduceIte, Nat.reduceAdd, Nat.reduceLeDiff, Nat.reduceEqDiff, Nat.reduceLT, Nat.reduceSub, reduceCtorEq, Int.reduceEq, Int.reduceLT, Int.reduceLE, Int.reduceNeg, Int.reduceToNat, Int.reduceAdd, Int.reduceSub, Nat.reduceMul, part_agg, *]
    | (refine seqK_now ?_)
    | (refine retK_now ?_)
    | (refine retK_now' ?_)
    | (intro q hq)
    | (refine cond_intro (fun hc => ?_) (fun hc => ?_)))
    refine WeakR.pure (by repeat (first | exact Heap.sub_refl _ | refine sub_upd (by simp only [*]) ?_)) ?_
    rfl
end Go.Proofs.Ytlpngkeegjickaa

namespace Go.Proofs.Ytlpngkeegjickaa
open Go.Ab
attribute [local irreducible] WeakR WeakE CallA YieldA

def joinedL (F B : List (List Id)) (u v : Ndl) : List Id := if v.bed = 0 then atL F B u ++ atL F B v else atL F B v ++ atL F B u
def joinE (F B : List (List Id)) (u v : Ndl) : Int := if checkL F B = 0 then (if (u.bad || v.bad || decide (u.bed = v.bed)) = true then 1 else if atL F B u = [] then 13 else if 4 < (joinedL F B u v).length then 9 else 0) else checkL F B
def joinF (F B : List (List Id)) (u v : Ndl) : List (List Id) := putLF (putLF F u []) v (joinedL F B u v)
def joinB (F B : List (List Id)) (u v : Ndl) : List (List Id) := putLB (putLB B u []) v (joinedL F B u v)
def joinAF (es : List AV) (F B : List (List Id)) (u v : Ndl) : List AV := putAF (putAF es F u nilS []) (putLF F u []) v (frA 2 ((joinedL F B u v).map Id.av)) (joinedL F B u v)
def joinAB (fs : List AV) (F B : List (List Id)) (u v : Ndl) : List AV := putAB (putAB fs B u nilS []) (putLB B u []) v (frA 2 ((joinedL F B u v).map Id.av)) (joinedL F B u v)
def joinA (es fs : List AV) (F B : List (List Id)) (u v : Ndl) : AV := if joinE F B u v = 0 then .agg [.list 1 true (joinAF es F B u v), .list 1 true (joinAB fs F B u v)] else noBeds

theorem two_is {a b : AV} {A B : List Id} (ha : IsL 2 a (A.map Id.av)) (hb : IsL 2 b (B.map Id.av)) : IsB (.list 1 true [a, b]) [a, b] [A, B] := by
  refine ⟨.list, rfl, fun i h h' => ?_⟩
  match i, h, h' with
  | 0, _, _ => exact ha
  | 1, _, _ => exact hb
theorem bad_le {n : Ndl} (h : n.bad = false) : n.at_ ≤ 40 := by
  unfold Ndl.bad at h
  simp only [Bool.or_eq_false_iff, decide_eq_false_iff_not, Int.not_lt] at h
  exact h.2
theorem atL_len {F B : List (List Id)} (hF : Sm F) (hB : Sm B) (n : Ndl) : (atL F B n).length ≤ 1000 := by
  unfold atL
  split
  · simp
  · split
    · exact hB.getD _
    · exact hF.getD _
theorem check_at {F B : List (List Id)} (h : checkL F B = 0) (n : Ndl) : (atL F B n).length ≤ 4 := by
  unfold checkL at h
  split at h
  · cases h
  rename_i h1
  split at h
  · cases h
  rename_i h2
  simp only [Bool.or_eq_true, decide_eq_true_eq, not_or, Nat.not_lt] at h1
  have h3 : ∀ l ∈ visL F B, l.length ≤ 4 := fun l hl => by
    rcases Nat.lt_or_ge 4 l.length with h | h
    · exact absurd (List.any_eq_true.2 ⟨l, hl, by simpa using h⟩) h2
    · exact h
  unfold visL at h3
  rw [List.take_of_length_le h1.1, List.take_of_length_le h1.2] at h3
  have key : ∀ (G : List (List Id)) i, (∀ l ∈ G, l ∈ F ++ B) → (G.getD i []).length ≤ 4 := fun G i hG => by
    rw [List.getD_eq_getElem?_getD]
    by_cases hi : i < G.length
    · rw [List.getElem?_eq_getElem hi]; exact h3 _ (hG _ (List.getElem_mem hi))
    · rw [List.getElem?_eq_none (by omega)]; simp
  unfold atL
  split
  · simp
  · split
    · exact key B _ (fun l hl => by simp [hl])
    · exact key F _ (fun l hl => by simp [hl])

set_option maxHeartbeats 4000000 in
theorem Join_ok (f b : AV) (es fs : List AV) (F B : List (List Id)) (u v : Ndl) (hf : IsB f es F) (hb : IsB b fs B) (hF : Sm F) (hB : Sm B) (hu : 0 ≤ u.bed) (hv : 0 ≤ v.bed) :
    PureA Try.prog 20 [.agg [f, b], u.av, v.av] (.tup [joinA es fs F B u v, .val (.int .i64 (joinE F B u v))]) := by
  intro O
  have hf1 := hf.1.cells
  have hb1 := hb.1.cells
  have hf2 := hf.1.stor
  have hb2 := hb.1.stor
  have hcu := NdlCheck_ok u
  have hcv := NdlCheck_ok v
  have hch := Check_ok f b es fs F B hf hb
  have hAu := At_ok f b es fs F B u hf hb hF hB
  have hAv := At_ok f b es fs F B v hf hb hF hB
  have hTu := (atA_T u hf hb).isL
  have hTv := (atA_T v hf hb).isL
  have hlu := atL_len hF hB u
  have hlv := atL_len hF hB v
  have hc1 := Concat_ok _ _ _ (two_is hTv hTu) ⟨by simp, by simp; omega⟩
  have hc2 := Concat_ok _ _ _ (two_is hTu hTv) ⟨by simp, by simp; omega⟩
  have hjl : (joinedL F B u v).length ≤ 2000 := by unfold joinedL; split <;> (rw [List.length_append]; omega)
  have hput1 := fun h => put_ok f b nilS es fs F B u [] hf hb .nil hF hB (by simp) h hu
  have hp1F := putF_is (n := u) (X := []) (x := nilS) hf .nil
  have hp1B := putB_is (n := u) (X := []) (x := nilS) hb .nil
  have hput2 := fun (h1 : u.bad = false) (h2 : v.bad = false) (h3 : (joinedL F B u v).length ≤ 1000) => put_ok _ _ (frA 2 ((joinedL F B u v).map Id.av)) _ _ _ _ v (joinedL F B u v) hp1F hp1B (frA_L _ _) (putF_sm hF (by simp) (bad_le h1)) (putB_sm hB (by simp) (bad_le h1)) h3 h2 hv
  have c1 := hTu.cells
  have c2 := hTv.cells
  have c3 := hTu.stor
  have c4 := hTv.stor
  have l1 := hTu.len
  rw [List.length_map] at l1
  have l2 := (frA_L 2 ((joinedL F B u v).map Id.av)).len
  rw [List.length_map] at l2
  have l3 := (frA_L 2 ((joinedL F B u v).map Id.av)).cells
  have l4 := (frA_L 2 ((joinedL F B u v).map Id.av)).stor
  have hj0 : v.bed = 0 → joinedL F B u v = atL F B u ++ atL F B v := fun h => by rw [joinedL, if_pos h]
  have hj1 : ¬ v.bed = 0 → joinedL F B u v = atL F B v ++ atL F B u := fun h => by rw [joinedL, if_neg h]
  have hA : joinA es fs F B u v = if joinE F B u v = 0 then .agg [.list 1 true (joinAF es F B u v), .list 1 true (joinAB fs F B u v)] else noBeds := rfl
  rw [hA]
  clear hA
  have hA1 : putAF (putAF es F u nilS []) (putLF F u []) v (frA 2 ((joinedL F B u v).map Id.av)) (joinedL F B u v) = joinAF es F B u v := rfl
  have hA2 : putAB (putAB fs B u nilS []) (putLB B u []) v (frA 2 ((joinedL F B u v).map Id.av)) (joinedL F B u v) = joinAB fs F B u v := rfl
  rw [hA1, hA2] at hput2
  clear hA1 hA2
  rw [show u.av = .agg [.val (.int .u8 u.bed), .val (.int .i64 u.at_)] from rfl] at hcu hput1 hAu ⊢
  rw [show v.av = .agg [.val (.int .u8 v.bed), .val (.int .i64 v.at_)] from rfl] at hcv hput2 hAv ⊢
  generalize joinAF es F B u v = A1 at hput2 ⊢
  generalize joinAB fs F B u v = A2 at hput2 ⊢
  generalize putAF es F u nilS [] = B1 at hput1 hput2 hp1F
  generalize putAB fs B u nilS [] = B2 at hput1 hput2 hp1B
  clear hp1F hp1B
  replace hput1 := (show Aside _ from hput1)
  replace hput2 := (show Aside _ from hput2)
  obtain ⟨E, hE⟩ : ∃ E, joinE F B u v = E := ⟨_, rfl⟩
  rw [hE]
  unfold joinE at hE
  generalize hJ : joinedL F B u v = J at hput2 hE hj0 hj1 l2 l3 l4 hjl
  rw [show [atL F B v, atL F B u].flatten = atL F B v ++ atL F B u by simp] at hc1
  rw [show [atL F B u, atL F B v].flatten = atL F B u ++ atL F B v by simp] at hc2
  have hj0' : v.bed = 0 → frA 2 ((atL F B u ++ atL F B v).map Id.av) = frA 2 (J.map Id.av) := fun h => by rw [hj0 h]
  have hj1' : ¬ v.bed = 0 → frA 2 ((atL F B v ++ atL F B u).map Id.av) = frA 2 (J.map Id.av) := fun h => by rw [hj1 h]
  have hl3 := (frA_L 2 ((atL F B v ++ atL F B u).map Id.av)).cells
  generalize frA 2 ((atL F B v ++ atL F B u).map Id.av) = r1 at hc1 hj1' hl3
  generalize frA 2 ((atL F B u ++ atL F B v).map Id.av) = r2 at hc2 hj0'
  have hJ4 : checkL F B = 0 → J.length ≤ 1000 := fun h => by
    have h1 := check_at h u
    have h2 := check_at h v
    by_cases hb : v.bed = 0
    · rw [hj0 hb, List.length_append]; omega
    · rw [hj1 hb, List.length_append]; omega
  generalize frA 2 (J.map Id.av) = jA at *
  generalize atA es fs u = au at *
  generalize atA es fs v = av at *
  clear hj0 hj1 hTu hTv hJ hlu hlv
  replace hE := (show Aside _ from hE)
  replace hj0' := (show Aside _ from hj0')
  replace hj1' := (show Aside _ from hj1')
  replace hJ4 := (show Aside _ from hJ4)
  have d1 : decide ((4 : Int) < (J.length : Int)) = decide (4 < J.length) := decide_eq_decide.2 (by omega)
  have d3 : decide ((((atL F B u).length : Nat) : Int) = 0) = decide (atL F B u = []) := decide_eq_decide.2 (by rw [← List.length_eq_zero_iff]; omega)
  refine k20.call mix ?_
  unfold c20
  (repeat' first
    | simp (contextual := true) (maxSteps := 4000000) only [fwc, fwe, fww, reduceIte, ↓reduceIte, Nat.reduceAdd, Nat.reduceLeDiff, Nat.reduceEqDiff, Nat.reduceLT, Nat.reduceSub, reduceCtorEq, Int.reduceEq, Int.reduceLT, Int.reduceLE, Int.reduceNeg, Int.reduceToNat, Int.reduceAdd, Int.reduceSub, Nat.reduceMul, *]
    | (refine seqK_now ?_)
    | (refine retK_now ?_)
    | (refine retK_now' ?_)
    | (intro q hq)
    | (refine cond_intro (fun hc => ?_) (fun hc => ?_)))
  refine hch.use ?_
  by_cases h1 : checkL F B = 0
  · have hE1 : (if (u.bad || v.bad || decide (u.bed = v.bed)) = true then 1 else if atL F B u = [] then 13 else if 4 < J.length then 9 else 0) = E := by have := hE.out; rwa [if_pos h1] at this
    replace hE1 := (show Aside _ from hE1)
    clear hE
    have hJ4 := (show Aside _ from hJ4.out h1)
    rw [h1]
    replace h1 := (show Aside _ from h1)
    (repeat' first
    | simp (contextual := true) (maxSteps := 4000000) only [fwc, fwe, fww, reduceIte, ↓reduceIte, Nat.reduceAdd, Nat.reduceLeDiff, Nat.reduceEqDiff, Nat.reduceLT, Nat.reduceSub, reduceCtorEq, Int.reduceEq, Int.reduceLT, Int.reduceLE, Int.reduceNeg, Int.reduceToNat, Int.reduceAdd, Int.reduceSub, Nat.reduceMul, *]
    | (refine seqK_now ?_)
    | (refine retK_now ?_)
    | (refine retK_now' ?_)
    | (intro q hq)
    | (refine cond_intro (fun hc => ?_) (fun hc => ?_)))
    refine hcu.use ?_
    clear hcu hch
    cases hbu : u.bad
    · simp only [Bool.false_eq_true, if_false]
      (repeat' first
    | simp (contextual := true) (maxSteps := 4000000) only [fwc, fwe, fww, reduceIte, ↓reduceIte, Nat.reduceAdd, Nat.reduceLeDiff, Nat.reduceEqDiff, Nat.reduceLT, Nat.reduceSub, reduceCtorEq, Int.reduceEq, Int.reduceLT, Int.reduceLE, Int.reduceNeg, Int.reduceToNat, Int.reduceAdd, Int.reduceSub, Nat.reduceMul, *]
    | (refine seqK_now ?_)
    | (refine retK_now ?_)
    | (refine retK_now' ?_)
    | (intro q hq)
    | (refine cond_intro (fun hc => ?_) (fun hc => ?_)))
      refine hcv.use ?_
      clear hcv
      cases hbv : v.bad
      · rw [hbu, hbv, Bool.false_or, Bool.false_or] at hE1
        simp only [Bool.false_eq_true, if_false]
        (repeat' first
    | simp (contextual := true) (maxSteps := 4000000) only [fwc, fwe, fww, reduceIte, ↓reduceIte, Nat.reduceAdd, Nat.reduceLeDiff, Nat.reduceEqDiff, Nat.reduceLT, Nat.reduceSub, reduceCtorEq, Int.reduceEq, Int.reduceLT, Int.reduceLE, Int.reduceNeg, Int.reduceToNat, Int.reduceAdd, Int.reduceSub, Nat.reduceMul, *]
    | (refine seqK_now ?_)
    | (refine retK_now ?_)
    | (refine retK_now' ?_)
    | (intro q hq)
    | (refine cond_intro (fun hc => ?_) (fun hc => ?_)))
        · rw [hc, if_pos rfl] at hE1
          have hEE := hE1.out.symm
          subst hEE
          (repeat' first
    | simp (contextual := true) (maxSteps := 4000000) only [fwc, fwe, fww, reduceIte, ↓reduceIte, Nat.reduceAdd, Nat.reduceLeDiff, Nat.reduceEqDiff, Nat.reduceLT, Nat.reduceSub, reduceCtorEq, Int.reduceEq, Int.reduceLT, Int.reduceLE, Int.reduceNeg, Int.reduceToNat, Int.reduceAdd, Int.reduceSub, Nat.reduceMul, part_agg, *]
    | (refine seqK_now ?_)
    | (refine retK_now ?_)
    | (refine retK_now' ?_)
    | (intro q hq)
    | (refine cond_intro (fun hc => ?_) (fun hc => ?_)))
          refine WeakR.pure (by repeat (first | exact Heap.sub_refl _ | refine sub_upd (by simp only [*]) ?_)) ?_
          rfl
        · rw [hc, if_neg (by simp)] at hE1
          clear hc
          replace hput1 := hput1.out hbu
          replace hput2 := hput2.out hbu hbv hJ4.out
          refine callF_use hAu ?_
          (repeat' first
    | simp (contextual := true) (maxSteps := 4000000) only [fwc, fwe, fww, reduceIte, ↓reduceIte, Nat.reduceAdd, Nat.reduceLeDiff, Nat.reduceEqDiff, Nat.reduceLT, Nat.reduceSub, reduceCtorEq, Int.reduceEq, Int.reduceLT, Int.reduceLE, Int.reduceNeg, Int.reduceToNat, Int.reduceAdd, Int.reduceSub, Nat.reduceMul, *]
    | (refine seqK_now ?_)
    | (refine retK_now ?_)
    | (refine retK_now' ?_)
    | (intro q hq)
    | (refine cond_intro (fun hc => ?_) (fun hc => ?_)))
          refine callF_use hAv ?_
          (repeat' first
    | simp (contextual := true) (maxSteps := 4000000) only [fwc, fwe, fww, reduceIte, ↓reduceIte, Nat.reduceAdd, Nat.reduceLeDiff, Nat.reduceEqDiff, Nat.reduceLT, Nat.reduceSub, reduceCtorEq, Int.reduceEq, Int.reduceLT, Int.reduceLE, Int.reduceNeg, Int.reduceToNat, Int.reduceAdd, Int.reduceSub, Nat.reduceMul, *]
    | (refine seqK_now ?_)
    | (refine retK_now ?_)
    | (refine retK_now' ?_)
    | (intro q hq)
    | (refine cond_intro (fun hc => ?_) (fun hc => ?_)))
          refine hc1.use ?_
          clear hc1 hAu hAv
          by_cases hvb : v.bed = 0
          · have hz := hj0'.out hvb
            rw [hz] at hc2
            have d4 : decide (v.bed = 0) = true := decide_eq_true hvb
            replace hvb := (show Aside _ from hvb)
            (repeat' first
    | simp (contextual := true) (maxSteps := 4000000) only [fwc, fwe, fww, reduceIte, ↓reduceIte, Nat.reduceAdd, Nat.reduceLeDiff, Nat.reduceEqDiff, Nat.reduceLT, Nat.reduceSub, reduceCtorEq, Int.reduceEq, Int.reduceLT, Int.reduceLE, Int.reduceNeg, Int.reduceToNat, Int.reduceAdd, Int.reduceSub, Nat.reduceMul, *]
    | (refine seqK_now ?_)
    | (refine retK_now ?_)
    | (refine retK_now' ?_)
    | (intro q hq)
    | (refine cond_intro (fun hc => ?_) (fun hc => ?_)))
            refine hc2.use ?_
            clear hc2 hz
            by_cases hU : atL F B u = []
            · rw [decide_eq_true hU] at d3
              rw [if_pos hU] at hE1
              have hEE := hE1.out.symm
              subst hEE
              replace hU := (show Aside _ from hU)
              (repeat' first
    | simp (contextual := true) (maxSteps := 4000000) only [fwc, fwe, fww, reduceIte, ↓reduceIte, Nat.reduceAdd, Nat.reduceLeDiff, Nat.reduceEqDiff, Nat.reduceLT, Nat.reduceSub, reduceCtorEq, Int.reduceEq, Int.reduceLT, Int.reduceLE, Int.reduceNeg, Int.reduceToNat, Int.reduceAdd, Int.reduceSub, Nat.reduceMul, part_agg, *]
    | (refine seqK_now ?_)
    | (refine retK_now ?_)
    | (refine retK_now' ?_)
    | (intro q hq)
    | (refine cond_intro (fun hc => ?_) (fun hc => ?_)))
              refine WeakR.pure (by repeat (first | exact Heap.sub_refl _ | refine sub_upd (by simp only [*]) ?_)) ?_
              rfl
            · rw [decide_eq_false hU] at d3
              rw [if_neg hU] at hE1
              replace hU := (show Aside _ from hU)
              by_cases h4 : 4 < J.length
              · rw [decide_eq_true h4] at d1
                rw [if_pos h4] at hE1
                have hEE := hE1.out.symm
                subst hEE
                replace h4 := (show Aside _ from h4)
                (repeat' first
    | simp (contextual := true) (maxSteps := 4000000) only [fwc, fwe, fww, reduceIte, ↓reduceIte, Nat.reduceAdd, Nat.reduceLeDiff, Nat.reduceEqDiff, Nat.reduceLT, Nat.reduceSub, reduceCtorEq, Int.reduceEq, Int.reduceLT, Int.reduceLE, Int.reduceNeg, Int.reduceToNat, Int.reduceAdd, Int.reduceSub, Nat.reduceMul, part_agg, *]
    | (refine seqK_now ?_)
    | (refine retK_now ?_)
    | (refine retK_now' ?_)
    | (intro q hq)
    | (refine cond_intro (fun hc => ?_) (fun hc => ?_)))
                refine WeakR.pure (by repeat (first | exact Heap.sub_refl _ | refine sub_upd (by simp only [*]) ?_)) ?_
                rfl
              · rw [decide_eq_false h4] at d1
                rw [if_neg h4] at hE1
                have hEE := hE1.out.symm
                subst hEE
                replace h4 := (show Aside _ from h4)
                (repeat' first
    | simp (contextual := true) (maxSteps := 4000000) only [fwc, fwe, fww, reduceIte, ↓reduceIte, Nat.reduceAdd, Nat.reduceLeDiff, Nat.reduceEqDiff, Nat.reduceLT, Nat.reduceSub, reduceCtorEq, Int.reduceEq, Int.reduceLT, Int.reduceLE, Int.reduceNeg, Int.reduceToNat, Int.reduceAdd, Int.reduceSub, Nat.reduceMul, part_agg, *]
    | (refine seqK_now ?_)
    | (refine retK_now ?_)
    | (refine retK_now' ?_)
    | (intro q hq)
    | (refine cond_intro (fun hc => ?_) (fun hc => ?_)))
                refine callF_use hput1 ?_
                (repeat' first
    | simp (contextual := true) (maxSteps := 4000000) only [fwc, fwe, fww, reduceIte, ↓reduceIte, Nat.reduceAdd, Nat.reduceLeDiff, Nat.reduceEqDiff, Nat.reduceLT, Nat.reduceSub, reduceCtorEq, Int.reduceEq, Int.reduceLT, Int.reduceLE, Int.reduceNeg, Int.reduceToNat, Int.reduceAdd, Int.reduceSub, Nat.reduceMul, part_agg, *]
    | (refine seqK_now ?_)
    | (refine retK_now ?_)
    | (refine retK_now' ?_)
    | (intro q hq)
    | (refine cond_intro (fun hc => ?_) (fun hc => ?_)))
                refine callF_use hput2 ?_
                (repeat' first
    | simp (contextual := true) (maxSteps := 4000000) only [fwc, fwe, fww, reduceIte, ↓reduceIte, Nat.reduceAdd, Nat.reduceLeDiff, Nat.reduceEqDiff, Nat.reduceLT, Nat.reduceSub, reduceCtorEq, Int.reduceEq, Int.reduceLT, Int.reduceLE, Int.reduceNeg, Int.reduceToNat, Int.reduceAdd, Int.reduceSub, Nat.reduceMul, part_agg, *]
    | (refine seqK_now ?_)
    | (refine retK_now ?_)
    | (refine retK_now' ?_)
    | (intro q hq)
    | (refine cond_intro (fun hc => ?_) (fun hc => ?_)))
                refine WeakR.pure (by repeat (first | exact Heap.sub_refl _ | refine sub_upd (by simp only [*]) ?_)) ?_
                rfl
          · have hz := hj1'.out hvb
            subst hz
            have d4 : decide (v.bed = 0) = false := decide_eq_false hvb
            replace hvb := (show Aside _ from hvb)
            by_cases hU : atL F B u = []
            · rw [decide_eq_true hU] at d3
              rw [if_pos hU] at hE1
              have hEE := hE1.out.symm
              subst hEE
              replace hU := (show Aside _ from hU)
              (repeat' first
    | simp (contextual := true) (maxSteps := 4000000) only [fwc, fwe, fww, reduceIte, ↓reduceIte, Nat.reduceAdd, Nat.reduceLeDiff, Nat.reduceEqDiff, Nat.reduceLT, Nat.reduceSub, reduceCtorEq, Int.reduceEq, Int.reduceLT, Int.reduceLE, Int.reduceNeg, Int.reduceToNat, Int.reduceAdd, Int.reduceSub, Nat.reduceMul, part_agg, *]
    | (refine seqK_now ?_)
    | (refine retK_now ?_)
    | (refine retK_now' ?_)
    | (intro q hq)
    | (refine cond_intro (fun hc => ?_) (fun hc => ?_)))
              refine WeakR.pure (by repeat (first | exact Heap.sub_refl _ | refine sub_upd (by simp only [*]) ?_)) ?_
              rfl
            · rw [decide_eq_false hU] at d3
              rw [if_neg hU] at hE1
              replace hU := (show Aside _ from hU)
              by_cases h4 : 4 < J.length
              · rw [decide_eq_true h4] at d1
                rw [if_pos h4] at hE1
                have hEE := hE1.out.symm
                subst hEE
                replace h4 := (show Aside _ from h4)
                (repeat' first
    | simp (contextual := true) (maxSteps := 4000000) only [fwc, fwe, fww, reduceIte, ↓reduceIte, Nat.reduceAdd, Nat.reduceLeDiff, Nat.reduceEqDiff, Nat.reduceLT, Nat.reduceSub, reduceCtorEq, Int.reduceEq, Int.reduceLT, Int.reduceLE, Int.reduceNeg, Int.reduceToNat, Int.reduceAdd, Int.reduceSub, Nat.reduceMul, part_agg, *]
    | (refine seqK_now ?_)
    | (refine retK_now ?_)
    | (refine retK_now' ?_)
    | (intro q hq)
    | (refine cond_intro (fun hc => ?_) (fun hc => ?_)))
                refine WeakR.pure (by repeat (first | exact Heap.sub_refl _ | refine sub_upd (by simp only [*]) ?_)) ?_
                rfl
              · rw [decide_eq_false h4] at d1
                rw [if_neg h4] at hE1
                have hEE := hE1.out.symm
                subst hEE
                replace h4 := (show Aside _ from h4)
                (repeat' first
    | simp (contextual := true) (maxSteps := 4000000) only [fwc, fwe, fww, reduceIte, ↓reduceIte, Nat.reduceAdd, Nat.reduceLeDiff, Nat.reduceEqDiff, Nat.reduceLT, Nat.reduceSub, reduceCtorEq, Int.reduceEq, Int.reduceLT, Int.reduceLE, Int.reduceNeg, Int.reduceToNat, Int.reduceAdd, Int.reduceSub, Nat.reduceMul, part_agg, *]
    | (refine seqK_now ?_)
    | (refine retK_now ?_)
    | (refine retK_now' ?_)
    | (intro q hq)
    | (refine cond_intro (fun hc => ?_) (fun hc => ?_)))
                refine callF_use hput1 ?_
                (repeat' first
    | simp (contextual := true) (maxSteps := 4000000) only [fwc, fwe, fww, reduceIte, ↓reduceIte, Nat.reduceAdd, Nat.reduceLeDiff, Nat.reduceEqDiff, Nat.reduceLT, Nat.reduceSub, reduceCtorEq, Int.reduceEq, Int.reduceLT, Int.reduceLE, Int.reduceNeg, Int.reduceToNat, Int.reduceAdd, Int.reduceSub, Nat.reduceMul, part_agg, *]
    | (refine seqK_now ?_)
    | (refine retK_now ?_)
    | (refine retK_now' ?_)
    | (intro q hq)
    | (refine cond_intro (fun hc => ?_) (fun hc => ?_)))
                refine callF_use hput2 ?_
                (repeat' first
    | simp (contextual := true) (maxSteps := 4000000) only [fwc, fwe, fww, reduceIte, ↓reduceIte, Nat.reduceAdd, Nat.reduceLeDiff, Nat.reduceEqDiff, Nat.reduceLT, Nat.reduceSub, reduceCtorEq, Int.reduceEq, Int.reduceLT, Int.reduceLE, Int.reduceNeg, Int.reduceToNat, Int.reduceAdd, Int.reduceSub, Nat.reduceMul, part_agg, *]
    | (refine seqK_now ?_)
    | (refine retK_now ?_)
    | (refine retK_now' ?_)
    | (intro q hq)
    | (refine cond_intro (fun hc => ?_) (fun hc => ?_)))
                refine WeakR.pure (by repeat (first | exact Heap.sub_refl _ | refine sub_upd (by simp only [*]) ?_)) ?_
                rfl
      · rw [hbu, hbv, Bool.false_or, Bool.true_or, if_pos rfl] at hE1
        have hEE := hE1.out.symm
        subst hEE
        rw [if_pos rfl]
        (repeat' first
    | simp (contextual := true) (maxSteps := 4000000) only [fwc, fwe, fww, reduceIte, ↓reduceIte, Nat.reduceAdd, Nat.reduceLeDiff, Nat.reduceEqDiff, Nat.reduceLT, Nat.reduceSub, reduceCtorEq, Int.reduceEq, Int.reduceLT, Int.reduceLE, Int.reduceNeg, Int.reduceToNat, Int.reduceAdd, Int.reduceSub, Nat.reduceMul, part_agg, *]
    | (refine seqK_now ?_)
    | (refine retK_now ?_)
    | (refine retK_now' ?_)
    | (intro q hq)
    | (refine cond_intro (fun hc => ?_) (fun hc => ?_)))
        refine WeakR.pure (by repeat (first | exact Heap.sub_refl _ | refine sub_upd (by simp only [*]) ?_)) ?_
        rfl
    · rw [hbu, Bool.true_or, Bool.true_or, if_pos rfl] at hE1
      have hEE := hE1.out.symm
      subst hEE
      rw [if_pos rfl]
      (repeat' first
    | simp (contextual := true) (maxSteps := 4000000) only [fwc, fwe, fww, reduceIte, ↓reduceIte, Nat.reduceAdd, Nat.reduceLeDiff, Nat.reduceEqDiff, Nat.reduceLT, Nat.reduceSub, reduceCtorEq, Int.reduceEq, Int.reduceLT, Int.reduceLE, Int.reduceNeg, Int.reduceToNat, Int.reduceAdd, Int.reduceSub, Nat.reduceMul, part_agg, *]
    | (refine seqK_now ?_)
    | (refine retK_now ?_)
    | (refine retK_now' ?_)
    | (intro q hq)
    | (refine cond_intro (fun hc => ?_) (fun hc => ?_)))
      refine WeakR.pure (by repeat (first | exact Heap.sub_refl _ | refine sub_upd (by simp only [*]) ?_)) ?_
      rfl
  · have hEE : E = checkL F B := by have := hE.out; rw [if_neg h1] at this; exact this.symm
    clear hE
    rw [← hEE] at h1 ⊢
    clear hEE
    have d2 : decide (E = 0) = false := decide_eq_false h1
    rw [if_neg h1]
    replace h1 := (show Aside _ from h1)
    (repeat' first
    | simp (contextual := true) (maxSteps := 4000000) only [fwc, fwe, fww, reduceIte, ↓reduceIte, Nat.reduceAdd, Nat.reduceLeDiff, Nat.reduceEqDiff, Nat.reduceLT, Nat.reduceSub, reduceCtorEq, Int.reduceEq, Int.reduceLT, Int.reduceLE, Int.reduceNeg, Int.reduceToNat, Int.reduceAdd, Int.reduceSub, Nat.reduceMul, part_agg, *]
    | (refine seqK_now ?_)
    | (refine retK_now ?_)
    | (refine retK_now' ?_)
    | (intro q hq)
    | (refine cond_intro (fun hc => ?_) (fun hc => ?_)))
    refine WeakR.pure (by repeat (first | exact Heap.sub_refl _ | refine sub_upd (by simp only [*]) ?_)) ?_
    rfl

theorem joinF_is {f : AV} {es : List AV} {F B : List (List Id)} {u v : Ndl} (hf : IsB f es F) : IsB (.list 1 true (joinAF es F B u v)) (joinAF es F B u v) (joinF F B u v) := putF_is (putF_is hf .nil) (frA_L _ _)
theorem joinB_is {b : AV} {fs : List AV} {F B : List (List Id)} {u v : Ndl} (hb : IsB b fs B) : IsB (.list 1 true (joinAB fs F B u v)) (joinAB fs F B u v) (joinB F B u v) := putB_is (putB_is hb .nil) (frA_L _ _)
end Go.Proofs.Ytlpngkeegjickaa

namespace Go.Proofs.Ytlpngkeegjickaa
open Go.Ab
attribute [local irreducible] WeakR WeakE CallA YieldA

def sameL (F B F' B' : List (List Id)) : Bool := decide (∀ i, i < max (max (max F.length F'.length) B.length) B'.length → F.getD i [] = F'.getD i [] ∧ B.getD i [] = B'.getD i [])
theorem getD_nil {F : List (List Id)} {i : Nat} (h : F.length ≤ i) : F.getD i [] = [] := by
  rw [List.getD_eq_getElem?_getD, List.getElem?_eq_none h]; rfl
theorem sameL_iff (F B F' B' : List (List Id)) : sameL F B F' B' = true ↔ ∀ i, F.getD i [] = F'.getD i [] ∧ B.getD i [] = B'.getD i [] := by
  unfold sameL
  rw [decide_eq_true_eq]
  refine ⟨fun h i => ?_, fun h i _ => h i⟩
  by_cases hi : i < max (max (max F.length F'.length) B.length) B'.length
  · exact h i hi
  · rw [getD_nil (by omega), getD_nil (by omega), getD_nil (by omega), getD_nil (by omega)]
    exact ⟨rfl, rfl⟩

def env19 (q2 q3 n i : Nat) : Env := (((Env.upd (fun _ => .junk) 19 (.val (.int .i64 i))).upd 18 (.val (.int .i64 n))).upd 3 (.optr q3 2 0 0)).upd 2 (.optr q2 2 0 0)

set_option maxHeartbeats 4000000 in
theorem Same_ok (f b f' b' : AV) (es fs es' fs' : List AV) (F B F' B' : List (List Id)) (hf : IsB f es F) (hb : IsB b fs B) (hf' : IsB f' es' F') (hb' : IsB b' fs' B') (hF : Sm F) (hB : Sm B) (hF' : Sm F') (hB' : Sm B') :
    PureA Try.prog 19 [.agg [f, b], .agg [f', b']] (.val (.bool (sameL F B F' B'))) := by
  intro O
  have m1 := hf.1.cells
  have m2 := hb.1.cells
  have m3 := hf.1.stor
  have m4 := hb.1.stor
  have m5 := hf'.1.cells
  have m6 := hb'.1.cells
  have m7 := hf'.1.stor
  have m8 := hb'.1.stor
  have n1 := hf.1.len
  have n2 := hb.1.len
  have n3 := hf'.1.len
  have n4 := hb'.1.len
  rw [hf.2.1] at n1
  rw [hb.2.1] at n2
  rw [hf'.2.1] at n3
  rw [hb'.2.1] at n4
  have b1 := hF.1
  have b2 := hB.1
  have b3 := hF'.1
  have b4 := hB'.1
  obtain ⟨M, hM⟩ : ∃ M, max (max (max F.length F'.length) B.length) B'.length = M := ⟨_, rfl⟩
  have hmx : maxlA true [.val (.int .i64 F.length), .val (.int .i64 F'.length), .val (.int .i64 B.length), .val (.int .i64 B'.length)] = some (.val (.int .i64 M)) := by
    simp only [maxl_one, maxl_cons, maxl_nil, if_true, Option.some.injEq, AV.val.injEq, Value.int.injEq, true_and]
    rw [← hM]
    repeat' split
    all_goals omega
  have hML : M ≤ 1000 := by omega
  replace hM := (show Aside _ from hM)
  refine k19.call mix ?_
  unfold c19
  (repeat' first
    | simp (contextual := true) (maxSteps := 4000000) only [fwc, fwe, fww, reduceIte, ↓reduceIte, Nat.reduceAdd, Nat.reduceLeDiff, Nat.reduceEqDiff, Nat.reduceLT, Nat.reduceSub, reduceCtorEq, Int.reduceEq, Int.reduceLT, Int.reduceLE, Int.reduceNeg, Int.reduceToNat, Int.reduceAdd, Int.reduceSub, Nat.reduceMul, part_cell, *]
    | (refine seqK_now ?_)
    | (refine retK_now ?_)
    | (refine retK_now' ?_)
    | (intro q hq)
    | (refine cond_intro (fun hc => ?_) (fun hc => ?_)))
  have hp2 : sameL F B F' B' = true ↔ ∀ i, i < M → F.getD i [] = F'.getD i [] ∧ B.getD i [] = B'.getD i [] := by
    unfold sameL
    rw [decide_eq_true_eq, hM.out]
  replace hp2 := (show Aside _ from hp2)
  rename_i q2 hq2
  revert q
  intro q3 hq3
  have hO3 : O q3 = none := hq3.2.2
  obtain ⟨a1, a2, _⟩ := hq3
  obtain ⟨I, hI⟩ := hideI (fun m e O' => ∃ i : Nat, i ≤ M ∧ m = M - i ∧ (∀ j, j < i → F.getD j [] = F'.getD j [] ∧ B.getD j [] = B'.getD j []) ∧ O' = (O.upd q2 (.arr 35 2 [.agg [f, b]])).upd q3 (.arr 35 2 [.agg [f', b']]) ∧ e = env19 q2 q3 M i)
  refine cmd_loop I M (by rw [hI.out]; exact ⟨0, by omega, rfl, fun j hj => by omega, rfl, rfl⟩) ?_
  intro m e O' hh
  rw [hI.out] at hh
  obtain ⟨i, h3, rfl, h4, rfl, rfl⟩ := hh
  replace h4 := (show Aside _ from h4)
  unfold env19
  (repeat' first
    | simp (contextual := true) (maxSteps := 4000000) only [fwc, fwe, fww, reduceIte, ↓reduceIte, Nat.reduceAdd, Nat.reduceLeDiff, Nat.reduceEqDiff, Nat.reduceLT, Nat.reduceSub, reduceCtorEq, Int.reduceEq, Int.reduceLT, Int.reduceLE, Int.reduceNeg, Int.reduceToNat, Int.reduceAdd, Int.reduceSub, Nat.reduceMul, ilt_nat, *]
    | (refine seqK_now ?_)
    | (refine retK_now ?_)
    | (refine retK_now' ?_)
    | (intro q hq)
    | (refine cond_intro (fun hc => ?_) (fun hc => ?_)))
  · have hi : i < M := of_decide_eq_true hc
    clear hc
    have hw : i < 4611686018427387904 := by omega
    have g1 := getOK hf hF i
    have g2 := getOK hb hB i
    have g3 := getOK hf' hF' i
    have g4 := getOK hb' hB' i
    have e1 := Equal_ok _ _ _ _ (getA_L hf i) (getA_L hf' i) (by have := hF.getD i; omega)
    have e2 := Equal_ok _ _ _ _ (getA_L hb i) (getA_L hb' i) (by have := hB.getD i; omega)
    (repeat' first
    | simp (contextual := true) (maxSteps := 4000000) only [fwc, fwe, fww, reduceIte, ↓reduceIte, Nat.reduceAdd, Nat.reduceLeDiff, Nat.reduceEqDiff, Nat.reduceLT, Nat.reduceSub, reduceCtorEq, Int.reduceEq, Int.reduceLT, Int.reduceLE, Int.reduceNeg, Int.reduceToNat, Int.reduceAdd, Int.reduceSub, Nat.reduceMul, part_cell, *]
    | (refine seqK_now ?_)
    | (refine retK_now ?_)
    | (refine retK_now' ?_)
    | (intro q hq)
    | (refine cond_intro (fun hc => ?_) (fun hc => ?_)))
    refine callF_use g1 ?_
    (repeat' first
    | simp (contextual := true) (maxSteps := 4000000) only [fwc, fwe, fww, reduceIte, ↓reduceIte, Nat.reduceAdd, Nat.reduceLeDiff, Nat.reduceEqDiff, Nat.reduceLT, Nat.reduceSub, reduceCtorEq, Int.reduceEq, Int.reduceLT, Int.reduceLE, Int.reduceNeg, Int.reduceToNat, Int.reduceAdd, Int.reduceSub, Nat.reduceMul, part_cell, *]
    | (refine seqK_now ?_)
    | (refine retK_now ?_)
    | (refine retK_now' ?_)
    | (intro q hq)
    | (refine cond_intro (fun hc => ?_) (fun hc => ?_)))
    refine callF_use g3 ?_
    (repeat' first
    | simp (contextual := true) (maxSteps := 4000000) only [fwc, fwe, fww, reduceIte, ↓reduceIte, Nat.reduceAdd, Nat.reduceLeDiff, Nat.reduceEqDiff, Nat.reduceLT, Nat.reduceSub, reduceCtorEq, Int.reduceEq, Int.reduceLT, Int.reduceLE, Int.reduceNeg, Int.reduceToNat, Int.reduceAdd, Int.reduceSub, Nat.reduceMul, part_cell, *]
    | (refine seqK_now ?_)
    | (refine retK_now ?_)
    | (refine retK_now' ?_)
    | (intro q hq)
    | (refine cond_intro (fun hc => ?_) (fun hc => ?_)))
    refine callF_use e1 ?_
    clear e1 g1 g3
    by_cases hF1 : F.getD i [] = F'.getD i []
    · rw [decide_eq_true hF1]
      replace hF1 := (show Aside _ from hF1)
      (repeat' first
    | simp (contextual := true) (maxSteps := 4000000) only [fwc, fwe, fww, reduceIte, ↓reduceIte, Nat.reduceAdd, Nat.reduceLeDiff, Nat.reduceEqDiff, Nat.reduceLT, Nat.reduceSub, reduceCtorEq, Int.reduceEq, Int.reduceLT, Int.reduceLE, Int.reduceNeg, Int.reduceToNat, Int.reduceAdd, Int.reduceSub, Nat.reduceMul, part_cell, *]
    | (refine seqK_now ?_)
    | (refine retK_now ?_)
    | (refine retK_now' ?_)
    | (intro q hq)
    | (refine cond_intro (fun hc => ?_) (fun hc => ?_)))
      refine callF_use g2 ?_
      (repeat' first
    | simp (contextual := true) (maxSteps := 4000000) only [fwc, fwe, fww, reduceIte, ↓reduceIte, Nat.reduceAdd, Nat.reduceLeDiff, Nat.reduceEqDiff, Nat.reduceLT, Nat.reduceSub, reduceCtorEq, Int.reduceEq, Int.reduceLT, Int.reduceLE, Int.reduceNeg, Int.reduceToNat, Int.reduceAdd, Int.reduceSub, Nat.reduceMul, part_cell, *]
    | (refine seqK_now ?_)
    | (refine retK_now ?_)
    | (refine retK_now' ?_)
    | (intro q hq)
    | (refine cond_intro (fun hc => ?_) (fun hc => ?_)))
      refine callF_use g4 ?_
      (repeat' first
    | simp (contextual := true) (maxSteps := 4000000) only [fwc, fwe, fww, reduceIte, ↓reduceIte, Nat.reduceAdd, Nat.reduceLeDiff, Nat.reduceEqDiff, Nat.reduceLT, Nat.reduceSub, reduceCtorEq, Int.reduceEq, Int.reduceLT, Int.reduceLE, Int.reduceNeg, Int.reduceToNat, Int.reduceAdd, Int.reduceSub, Nat.reduceMul, part_cell, *]
    | (refine seqK_now ?_)
    | (refine retK_now ?_)
    | (refine retK_now' ?_)
    | (intro q hq)
    | (refine cond_intro (fun hc => ?_) (fun hc => ?_)))
      refine callF_use e2 ?_
      clear e2 g2 g4
      by_cases hB1 : B.getD i [] = B'.getD i []
      · rw [decide_eq_true hB1]
        replace hB1 := (show Aside _ from hB1)
        (repeat' first
    | simp (contextual := true) (maxSteps := 4000000) only [fwc, fwe, fww, reduceIte, ↓reduceIte, Nat.reduceAdd, Nat.reduceLeDiff, Nat.reduceEqDiff, Nat.reduceLT, Nat.reduceSub, reduceCtorEq, Int.reduceEq, Int.reduceLT, Int.reduceLE, Int.reduceNeg, Int.reduceToNat, Int.reduceAdd, Int.reduceSub, Nat.reduceMul, wrap_succ, *]
    | (refine seqK_now ?_)
    | (refine retK_now ?_)
    | (refine retK_now' ?_)
    | (intro q hq)
    | (refine cond_intro (fun hc => ?_) (fun hc => ?_)))
        refine loopK_now (M - (i + 1)) (by omega) ?_
        rw [hI.out]
        refine ⟨i + 1, by omega, rfl, fun j hj => ?_, rfl, ?_⟩
        · rcases Nat.lt_or_ge j i with h5 | h5
          · exact h4.out j h5
          · have : j = i := by omega
            subst this
            exact ⟨hF1.out, hB1.out⟩
        · simp (contextual := true) (maxSteps := 4000000) only [fwc, fwe, fww, reduceIte, ↓reduceIte, Nat.reduceAdd, Nat.reduceLeDiff, Nat.reduceEqDiff, Nat.reduceLT, Nat.reduceSub, reduceCtorEq, Int.reduceEq, Int.reduceLT, Int.reduceLE, Int.reduceNeg, Int.reduceToNat, Int.reduceAdd, Int.reduceSub, Nat.reduceMul, env19, wrap_succ, *]
      · rw [decide_eq_false hB1]
        replace hB1 := (show Aside _ from hB1)
        (repeat' first
    | simp (contextual := true) (maxSteps := 4000000) only [fwc, fwe, fww, reduceIte, ↓reduceIte, Nat.reduceAdd, Nat.reduceLeDiff, Nat.reduceEqDiff, Nat.reduceLT, Nat.reduceSub, reduceCtorEq, Int.reduceEq, Int.reduceLT, Int.reduceLE, Int.reduceNeg, Int.reduceToNat, Int.reduceAdd, Int.reduceSub, Nat.reduceMul, *]
    | (refine seqK_now ?_)
    | (refine retK_now ?_)
    | (refine retK_now' ?_)
    | (intro q hq)
    | (refine cond_intro (fun hc => ?_) (fun hc => ?_)))
        refine WeakR.pure (sub_upd hO3 (sub_upd hq2 (Heap.sub_refl _))) ?_
        have : sameL F B F' B' = false := by
          cases h : sameL F B F' B' with
          | false => rfl
          | true => exact absurd (hp2.out.1 h i hi).2 hB1.out
        rw [this]
    · rw [decide_eq_false hF1]
      replace hF1 := (show Aside _ from hF1)
      (repeat' first
    | simp (contextual := true) (maxSteps := 4000000) only [fwc, fwe, fww, reduceIte, ↓reduceIte, Nat.reduceAdd, Nat.reduceLeDiff, Nat.reduceEqDiff, Nat.reduceLT, Nat.reduceSub, reduceCtorEq, Int.reduceEq, Int.reduceLT, Int.reduceLE, Int.reduceNeg, Int.reduceToNat, Int.reduceAdd, Int.reduceSub, Nat.reduceMul, *]
    | (refine seqK_now ?_)
    | (refine retK_now ?_)
    | (refine retK_now' ?_)
    | (intro q hq)
    | (refine cond_intro (fun hc => ?_) (fun hc => ?_)))
      refine WeakR.pure (sub_upd hO3 (sub_upd hq2 (Heap.sub_refl _))) ?_
      have : sameL F B F' B' = false := by
        cases h : sameL F B F' B' with
        | false => rfl
        | true => exact absurd (hp2.out.1 h i hi).1 hF1.out
      rw [this]
  · have hi : ¬ i < M := of_decide_eq_false hc
    refine WeakR.pure (sub_upd hO3 (sub_upd hq2 (Heap.sub_refl _))) ?_
    rw [hp2.out.2 (fun j hj => h4.out j (by omega))]
end Go.Proofs.Ytlpngkeegjickaa

namespace Go.Proofs.Ytlpngkeegjickaa
open Go.Ab
attribute [local irreducible] WeakR WeakE CallA YieldA

structure Put where
  needle : Nat
  many : Nat
def Put.av (p : Put) : AV := .agg [.val (.int .u8 p.needle), .val (.int .u8 p.many)]
def Put.ok (p : Put) : Prop := p.needle < 256 ∧ p.many < 256

def idn (n : Nat) : Id := ⟨((1 + n % 3 : Nat) : Int), ((n / 3 : Nat) : Int)⟩
def inner (at_ : Nat) : Nat → List (List Id) → Nat → List (List Id) × Nat
  | 0, T, n => (T, n)
  | r + 1, T, n => if (T.getD at_ []).length < 4 then inner at_ r (T.set at_ (T.getD at_ [] ++ [idn n])) (n + 1) else (T, n)
def ofN (P : List Put) : List (List Id) × Nat := (P.take 40).foldl (fun s p => inner (p.needle % 80) (p.many % 5) s.1 s.2) (List.replicate 80 [], 0)
def ofL (P : List Put) : List (List Id) := (ofN P).1

/-- What is known of a table. -/
structure TabOK (T : List (List Id)) (n : Nat) : Prop where
  len : T.length = 80
  le : ∀ l ∈ T, l.length ≤ 4
  mem : ∀ p ∈ T.flatten, ∃ j, j < n ∧ p = idn j
  nd : T.flatten.Nodup

theorem idn_inj {i j : Nat} (h : idn i = idn j) : i = j := by
  unfold idn at h
  simp only [Id.mk.injEq] at h
  omega

theorem flat_set_perm {T : List (List Id)} {i : Nat} (h : i < T.length) (x : Id) : (T.set i (T.getD i [] ++ [x])).flatten.Perm (x :: T.flatten) := by
  induction T generalizing i with
  | nil => simp at h
  | cons l T ih =>
    cases i with
    | zero =>
      simp only [List.set_cons_zero, List.flatten_cons, List.getD_cons_zero, List.append_assoc]
      exact (List.perm_middle (l₁ := l) (a := x) (l₂ := T.flatten))
    | succ i =>
      simp only [List.set_cons_succ, List.flatten_cons, List.getD_cons_succ]
      refine (List.Perm.append_left l (ih (by simpa using h))).trans ?_
      exact List.perm_middle

theorem TabOK.add {T : List (List Id)} {n at_ : Nat} (h : TabOK T n) (ha : at_ < 80) (hl : (T.getD at_ []).length < 4) : TabOK (T.set at_ (T.getD at_ [] ++ [idn n])) (n + 1) := by
  have hp := flat_set_perm (T := T) (i := at_) (by rw [h.len]; exact ha) (idn n)
  refine ⟨by simp [h.len], fun l hm => ?_, fun p hm => ?_, ?_⟩
  · rcases List.mem_or_eq_of_mem_set hm with hm | rfl
    · exact h.le l hm
    · rw [List.length_append]; show _ + 1 ≤ 4; omega
  · rcases List.mem_cons.1 (hp.mem_iff.1 hm) with rfl | hm
    · exact ⟨n, by omega, rfl⟩
    · obtain ⟨j, hj, e⟩ := h.mem p hm
      exact ⟨j, by omega, e⟩
  · rw [hp.nodup_iff, List.nodup_cons]
    refine ⟨fun hm => ?_, h.nd⟩
    obtain ⟨j, hj, e⟩ := h.mem _ hm
    have := idn_inj e
    omega

theorem inner_ok {at_ : Nat} (ha : at_ < 80) : ∀ (r : Nat) (T : List (List Id)) (n : Nat), TabOK T n → TabOK (inner at_ r T n).1 (inner at_ r T n).2 ∧ (inner at_ r T n).2 ≤ n + r
  | 0, T, n, h => ⟨h, Nat.le_refl _⟩
  | r + 1, T, n, h => by
    unfold inner
    split
    · rename_i hl
      obtain ⟨h1, h2⟩ := inner_ok ha r _ (n + 1) (h.add ha hl)
      exact ⟨h1, by omega⟩
    · exact ⟨h, by omega⟩

theorem tab0 : TabOK (List.replicate 80 []) 0 := by
  refine ⟨by simp, fun l hl => ?_, fun p hp => ?_, ?_⟩
  · rw [List.eq_of_mem_replicate hl]; simp
  · simp at hp
  · simp

theorem fold_ok : ∀ (P : List Put) (T : List (List Id)) (n : Nat), TabOK T n → TabOK (P.foldl (fun s p => inner (p.needle % 80) (p.many % 5) s.1 s.2) (T, n)).1 (P.foldl (fun s p => inner (p.needle % 80) (p.many % 5) s.1 s.2) (T, n)).2 ∧ (P.foldl (fun s p => inner (p.needle % 80) (p.many % 5) s.1 s.2) (T, n)).2 ≤ n + 5 * P.length
  | [], T, n, h => ⟨h, by simp⟩
  | p :: P, T, n, h => by
    obtain ⟨h1, h2⟩ := inner_ok (at_ := p.needle % 80) (Nat.mod_lt _ (by omega)) (p.many % 5) T n h
    obtain ⟨h3, h4⟩ := fold_ok P _ _ h1
    refine ⟨h3, ?_⟩
    have h4 := Nat.le_trans h4 (Nat.add_le_add_right h2 _)
    simp only [List.foldl_cons, List.length_cons]
    have : p.many % 5 < 5 := Nat.mod_lt _ (by omega)
    refine Nat.le_trans h4 ?_
    omega
theorem ofN_ok (P : List Put) : TabOK (ofN P).1 (ofN P).2 ∧ (ofN P).2 ≤ 200 := by
  obtain ⟨h1, h2⟩ := fold_ok (P.take 40) _ _ tab0
  refine ⟨h1, Nat.le_trans h2 ?_⟩
  have := List.length_take_le 40 P
  omega

/-- A table of slices, each with an array of its own. -/
structure TabA (fr : Nat → Prop) (O : Heap) (ts : List AV) (T : List (List Id)) : Prop where
  len : ts.length = T.length
  el : ∀ (i : Nat) (h : i < ts.length) (h' : i < T.length), (ts[i] = nilS ∧ T[i] = []) ∨ (T[i] ≠ [] ∧ ∃ id c elems, ts[i] = .own id 2 0 T[i].length c ∧ fr id ∧ O id = some (.arr 28 2 elems) ∧ elems.take T[i].length = T[i].map Id.av ∧ T[i].length ≤ elems.length)
  inj : ∀ (i j : Nat) (h : i < ts.length) (h' : j < ts.length) (id a b c d : Nat) (e f : Option Nat), ts[i] = .own id 2 a b e → ts[j] = .own id 2 c d f → i = j

theorem TabA.len1 {fr : Nat → Prop} {O : Heap} {ts : List AV} {T : List (List Id)} (h : TabA fr O ts T) (i : Nat) (h1 : i < ts.length) (h2 : i < T.length) : lenA ts[i] = some (.val (.int .i64 T[i].length)) ∧ ts[i].cells = [ts[i]] ∧ ts[i].stor = true := by
  rcases h.el i h1 h2 with ⟨e1, e2⟩ | ⟨_, id, c, elems, e, _⟩
  · rw [e1, e2]; exact ⟨rfl, rfl, rfl⟩
  · rw [e]; exact ⟨rfl, rfl, rfl⟩

theorem TabA.mono {fr : Nat → Prop} {O O' : Heap} {ts : List AV} {T : List (List Id)} (h : TabA fr O ts T) (hs : ∀ id, fr id → O' id = O id) : TabA fr O' ts T :=
  ⟨h.len, fun i h1 h2 => (h.el i h1 h2).imp id fun ⟨h3, q, c, elems, e1, e2, e3, e4, e5⟩ => ⟨h3, q, c, elems, e1, e2, by rw [hs _ e2]; exact e3, e4, e5⟩, h.inj⟩

theorem append_tab {fr : Nat → Prop} {O : Heap} {ts : List AV} {T : List (List Id)} (h : TabA fr O ts T) (hfr : ∀ id, O id = none → fr id) (i : Nat) (h1 : i < ts.length) (h2 : i < T.length) (x : Id) (hlt : T[i].length < 100) {y : AV} (hy : y = .list 2 true [x.av]) {K : AV → Heap → Prop}
    (hk : ∀ v O', v.cells = [v] → v.stor = true → (∀ q, ¬ fr q → O' q = O q) → TabA fr O' (ts.set i v) (T.set i (T[i] ++ [x])) → K v O') : AppendSem true 28 2 16 ts[i] y O K := by
  subst hy
  have key : ∀ (id : Nat) (c : Option Nat) (elems : List AV) (O' : Heap), fr id → O' id = some (.arr 28 2 elems) → elems.take (T[i].length + 1) = (T[i] ++ [x]).map Id.av → T[i].length + 1 ≤ elems.length → (∀ j (hj : j < ts.length) q a b c, j ≠ i → ts[j] = .own q 2 a b c → fr q → q ≠ id ∧ O' q = O q) →
      TabA fr O' (ts.set i (.own id 2 0 (T[i].length + 1) c)) (T.set i (T[i] ++ [x])) := by
    intro id c elems O' k1 k2 k3 k4 k5
    refine ⟨by simp [h.len], fun j hj hj' => ?_, fun j k hj hk q a b c' d e f e1 e2 => ?_⟩
    · simp only [List.length_set] at hj hj'
      rw [List.getElem_set, List.getElem_set]
      by_cases hji : i = j
      · simp only [if_pos hji]
        refine .inr ⟨by simp, id, c, elems, by rw [List.length_append]; rfl, k1, k2, by rw [List.length_append]; exact k3, by rw [List.length_append]; exact k4⟩
      · simp only [if_neg hji]
        rcases h.el j hj hj' with e | ⟨e0, q, c', el, e1, e2, e3, e4, e5⟩
        · exact .inl e
        · exact .inr ⟨e0, q, c', el, e1, e2, by rw [(k5 j hj q _ _ _ (Ne.symm hji) e1 e2).2]; exact e3, e4, e5⟩
    · simp only [List.length_set] at hj hk
      rw [List.getElem_set] at e1 e2
      have hfrq : ∀ m (hm : m < ts.length) q a b c, ts[m] = .own q 2 a b c → fr q := fun m hm q a b c em => by
        rcases h.el m hm (by rw [← h.len]; exact hm) with ⟨e, _⟩ | ⟨_, q', c', el, e1, e2, _⟩
        · rw [em] at e; cases e
        · rw [em] at e1; cases e1; exact e2
      by_cases hji : i = j
      · by_cases hki : i = k
        · omega
        · rw [if_pos hji] at e1
          rw [if_neg hki] at e2
          cases e1
          exact absurd rfl (k5 k hk id _ _ _ (Ne.symm hki) e2 (hfrq k hk _ _ _ _ e2)).1
      · rw [if_neg hji] at e1
        by_cases hki : i = k
        · rw [if_pos hki] at e2
          cases e2
          exact absurd rfl (k5 j hj id _ _ _ (Ne.symm hji) e1 (hfrq j hj _ _ _ _ e1)).1
        · rw [if_neg hki] at e2
          exact h.inj j k hj hk q a b c' d e f e1 e2
  rcases h.el i h1 h2 with ⟨e1, e2⟩ | ⟨_, id, c, elems, e1, e2, e3, e4, e5⟩
  · rw [e1]
    refine app_nil_own (el_list _ _ _ _) (fits_of (by simp) (by omega)) (by simp) fun id hid => ?_
    refine hk _ _ rfl rfl (fun q hq => Heap.upd_ne _ _ (fun e => by rw [e] at hq; exact hq (hfr id hid))) ?_
    have := key id none [x.av] (O.upd id (.arr 28 2 [x.av])) (hfr id hid) (Heap.upd_same _ _ _) (by rw [e2]; rfl) (by rw [e2]; simp) (fun j hj q a b c hji e hq => by
      have hne : q ≠ id := fun e' => by
        rcases h.el j hj (by rw [← h.len]; exact hj) with ⟨e'', _⟩ | ⟨_, q', c', el, e1', e2', e3', _⟩
        · rw [e] at e''; cases e''
        · rw [e] at e1'; cases e1'; rw [e', hid] at e3'; cases e3'
      exact ⟨hne, Heap.upd_ne _ _ hne⟩)
    rw [e2] at this ⊢
    exact this
  · rw [e1]
    refine app_move (el_list _ _ _ _) e3 e5 (fits_of (by simp; omega) (by omega)) fun id' hid' => ?_
    have hne' : id' ≠ id := fun e => by rw [e, e3] at hid'; cases hid'
    refine hk _ _ rfl rfl (fun q hq => ?_) ?_
    · have g1 : q ≠ id' := fun e => by rw [e] at hq; exact hq (hfr id' hid')
      have g2 : q ≠ id := fun e => by rw [e] at hq; exact hq e2
      rw [Heap.upd_ne _ _ g1, Heap.del_ne _ g2]
    · refine key id' none _ _ (hfr id' hid') (Heap.upd_same _ _ _) ?_ ?_ ?_
      · rw [e4, List.map_append, List.take_of_length_le (by simp)]
        rfl
      · rw [e4]; simp
      · intro j hj q a b c hji e hq
        have hq1 : q ≠ id' := fun e' => by
          rcases h.el j hj (by rw [← h.len]; exact hj) with ⟨e'', _⟩ | ⟨_, q', c', el, e1', e2', e3', _⟩
          · rw [e] at e''; cases e''
          · rw [e] at e1'; cases e1'; rw [e', hid'] at e3'; cases e3'
        have hq2 : q ≠ id := fun e' => hji (h.inj j i hj h1 id _ _ _ _ _ _ (e' ▸ e) e1)
        exact ⟨hq1, by rw [Heap.upd_ne _ _ hq1, Heap.del_ne _ hq2]⟩
end Go.Proofs.Ytlpngkeegjickaa

namespace Go.Proofs.Ytlpngkeegjickaa
open Go.Ab
attribute [local irreducible] WeakR WeakE CallA YieldA

/-- The same, of which the first ones are lists. -/
structure TabB (fr : Nat → Prop) (m : Nat) (O : Heap) (ts : List AV) (T : List (List Id)) : Prop where
  len : ts.length = T.length
  dn : ∀ (i : Nat) (h : i < ts.length) (h' : i < T.length), i < m → ts[i] = frA 2 (T[i].map Id.av)
  el : ∀ (i : Nat) (h : i < ts.length) (h' : i < T.length), m ≤ i → (ts[i] = nilS ∧ T[i] = []) ∨ (T[i] ≠ [] ∧ ∃ id c elems, ts[i] = .own id 2 0 T[i].length c ∧ fr id ∧ O id = some (.arr 28 2 elems) ∧ elems.take T[i].length = T[i].map Id.av ∧ T[i].length ≤ elems.length)
  inj : ∀ (i j : Nat) (h : i < ts.length) (h' : j < ts.length) (id a b c d : Nat) (e f : Option Nat), m ≤ i → m ≤ j → ts[i] = .own id 2 a b e → ts[j] = .own id 2 c d f → i = j

def tabA (T : List (List Id)) : List AV := T.map fun l => frA 2 (l.map Id.av)

theorem frz_tab {fr : Nat → Prop} {K : AV → Heap → Prop} {T : List (List Id)} : ∀ (r m : Nat) (O : Heap) (ts : List AV), m + r = T.length → TabB fr m O ts T → (∀ O2, (∀ q, ¬ fr q → O2 q = O q) → WeakR K (.agg (tabA T)) O2) → WeakR K (.agg ts) O
  | 0, m, O, ts, hm, h, hk => by
    have : ts = tabA T := List.ext_getElem (by simp [tabA, h.len]) fun i h1 h2 => by
      rw [h.dn i h1 (by rw [← h.len]; exact h1) (by rw [h.len] at h1; omega)]
      simp [tabA]
    rw [this]
    exact hk O fun _ _ => rfl
  | r + 1, m, O, ts, hm, h, hk => by
    have h1 : m < ts.length := by rw [h.len]; omega
    have h2 : m < T.length := by omega
    rcases h.el m h1 h2 (Nat.le_refl _) with ⟨e1, e2⟩ | ⟨e0, id, c, elems, e1, e2, e3, e4, e5⟩
    · refine frz_tab r (m + 1) O ts (by omega) ⟨h.len, fun i hi hi' him => ?_, fun i hi hi' him => h.el i hi hi' (by omega), fun i j hi hj id a b c d e f k1 k2 => h.inj i j hi hj id a b c d e f (by omega) (by omega)⟩ hk
      rcases Nat.lt_or_ge i m with h' | h'
      · exact h.dn i hi hi' h'
      · have : i = m := by omega
        subst this
        rw [e1, e2]
        rfl
    · have hz := Fz.own (id := id) (sz := 2) (elems := elems) 0 T[m].length c false (by omega) (fun h => by cases h)
      rw [List.drop_zero, e4] at hz
      have hf : frA 2 (T[m].map Id.av) = .list 2 false (T[m].map Id.av) := by rw [frA, if_neg (by simpa using e0)]
      rw [← hf, ← e1] at hz
      refine WeakR.freeze e3 (.agg ts (ts.set m (frA 2 (T[m].map Id.av))) (by simp) fun i x y hx hy => ?_) (frz_tab (fr := fr) r (m + 1) (O.del id) _ (by omega) ⟨by simp [h.len], fun i hi hi' him => ?_, fun i hi hi' him => ?_, fun i j hi hj q a b c d e f k1 k2 k3 k4 => ?_⟩ fun O2 hO2 => hk O2 fun q hq => ?_)
      · have hi : i < ts.length := (List.getElem?_eq_some_iff.1 hx).1
        rw [List.getElem?_set] at hy
        rw [List.getElem?_eq_getElem hi] at hx
        cases hx
        by_cases him : m = i
        · subst him
          rw [if_pos rfl, if_pos h1] at hy
          cases hy
          exact hz
        · rw [if_neg him, List.getElem?_eq_getElem hi] at hy
          cases hy
          exact .same _
      · rw [List.getElem_set]
        split
        · rename_i e; subst e; rfl
        · exact h.dn i (by simpa using hi) hi' (by omega)
      · simp only [List.length_set] at hi
        rw [List.getElem_set, if_neg (by omega)]
        refine (h.el i hi hi' (by omega)).imp (fun x => x) fun ⟨k0, q, c', el, k1, k2, k3, k4, k5⟩ => ⟨k0, q, c', el, k1, k2, ?_, k4, k5⟩
        have hne : q ≠ id := fun e' => by
          have := h.inj i m hi h1 id _ _ _ _ _ _ (by omega) (Nat.le_refl _) (e' ▸ k1) e1
          omega
        rw [Heap.del_ne _ hne]; exact k3
      · simp only [List.length_set] at hi hj
        rw [List.getElem_set, if_neg (by omega)] at k3 k4
        exact h.inj i j hi hj q a b c d e f (by omega) (by omega) k3 k4
      · have hne : q ≠ id := fun e' => hq (e' ▸ e2)
        rw [hO2 q hq, Heap.del_ne _ hne]

theorem TabA.frz {fr : Nat → Prop} {K : AV → Heap → Prop} {T : List (List Id)} {O : Heap} {ts : List AV} (h : TabA fr O ts T) (hk : ∀ O2, (∀ q, ¬ fr q → O2 q = O q) → WeakR K (.agg (tabA T)) O2) : WeakR K (.agg ts) O :=
  frz_tab T.length 0 O ts (by omega) ⟨h.len, fun i _ _ h => by omega, fun i h1 h2 _ => h.el i h1 h2, fun i j h1 h2 id a b c d e f _ _ => h.inj i j h1 h2 id a b c d e f⟩ hk

theorem tabA_get (T : List (List Id)) (i : Nat) (h : i < T.length) : (tabA T)[i]? = some (frA 2 (T[i].map Id.av)) := by
  unfold tabA
  rw [List.getElem?_map, List.getElem?_eq_getElem h]
  rfl

def env9 (s : AV) (q2 q3 n i : Nat) : Env := ((((Env.upd (fun _ => .junk) 5 (.val (.int .i64 i))).upd 4 (.val (.int .i64 n))).upd 3 (.optr q3 80 0 0)).upd 2 (.optr q2 80 0 0)).upd 0 s
def env9b (s : AV) (q2 q3 n i at_ k : Nat) : Env := ((((((Env.upd (fun _ => .junk) 7 (.val (.int .i64 k))).upd 6 (.val (.int .u8 at_))).upd 5 (.val (.int .i64 i))).upd 4 (.val (.int .i64 n))).upd 3 (.optr q3 80 0 0)).upd 2 (.optr q2 80 0 0)).upd 0 s

/-- The state of the making of a table. -/
structure St9 (O O' : Heap) (q2 q3 : Nat) (ts : List AV) (T : List (List Id)) (n : Nat) : Prop where
  ok : TabOK T n
  nn : n ≤ 1000
  h2 : O' q2 = some (.arr 31 80 [.agg (List.replicate 80 nilS)])
  h3 : O' q3 = some (.arr 31 80 [.agg ts])
  sub : O.sub O'
  tab : TabA (fun id => O id = none ∧ id ≠ q2 ∧ id ≠ q3) O' ts T

set_option maxHeartbeats 4000000 in
theorem of_ok (s : AV) (P : List Put) (hs : IsL 2 s (P.map Put.av)) (hP : ∀ p ∈ P, p.ok) : PureA Try.prog 9 [s] (.agg (tabA (ofL P))) := by
  intro O
  have h1 := hs.len
  rw [List.length_map] at h1
  refine k9.call mix ?_
  unfold c9
  (repeat' first
    | simp (contextual := true) (maxSteps := 4000000) only [fwc, fwe, fww, reduceIte, ↓reduceIte, Nat.reduceAdd, Nat.reduceLeDiff, Nat.reduceEqDiff, Nat.reduceLT, Nat.reduceSub, reduceCtorEq, Int.reduceEq, Int.reduceLT, Int.reduceLE, Int.reduceNeg, Int.reduceToNat, Int.reduceAdd, Int.reduceSub, Nat.reduceMul, *]
    | (refine seqK_now ?_)
    | (refine retK_now ?_)
    | (refine retK_now' ?_)
    | (intro q hq)
    | (refine cond_intro (fun hc => ?_) (fun hc => ?_)))
  rename_i q2 hq2
  revert q
  intro q3 hq3
  have hO3 : O q3 = none := hq3.2.2
  obtain ⟨a1, a2, _⟩ := hq3
  obtain ⟨fin, hfin⟩ : ∃ X, ofN P = X := ⟨_, rfl⟩
  let step : List (List Id) × Nat → Put → List (List Id) × Nat := fun s p => inner (p.needle % 80) (p.many % 5) s.1 s.2
  obtain ⟨I, hI⟩ := hideI (fun m e O' => ∃ (i : Nat) (ts : List AV) (T : List (List Id)) (n : Nat), i ≤ min P.length 40 ∧ m = min P.length 40 - i ∧ n ≤ 5 * i ∧ ((P.take 40).drop i).foldl step (T, n) = fin ∧ St9 O O' q2 q3 ts T n ∧ e = env9 s q2 q3 n i)
  have hmem : ∀ p ∈ P, p.ok := hP
  replace hmem := (show Aside _ from hmem)
  clear hP
  have hst0 : St9 O ((O.upd q2 (.arr 31 80 [.agg (List.replicate 80 nilS)])).upd q3 (.arr 31 80 [.agg (List.replicate 80 nilS)])) q2 q3 (List.replicate 80 nilS) (List.replicate 80 []) 0 :=
    ⟨tab0, by omega, by rw [Heap.upd_ne _ _ a2, Heap.upd_same], Heap.upd_same _ _ _, sub_upd hO3 (sub_upd hq2 (Heap.sub_refl _)),
      ⟨by rw [List.length_replicate, List.length_replicate], fun i h h' => .inl ⟨by rw [List.getElem_replicate], by rw [List.getElem_replicate]⟩, fun i j h h' id a b c d e f k1 k2 => by rw [List.getElem_replicate] at k1; cases k1⟩⟩
  refine cmd_loop I (min P.length 40) (by
    rw [hI.out]
    exact ⟨0, _, _, 0, by omega, rfl, by omega, hfin, hst0, rfl⟩) ?_
  clear hst0
  intro m e O' hh
  rw [hI.out] at hh
  obtain ⟨i, ts, T, n, h3, rfl, hn, hfd, hst, rfl⟩ := hh
  unfold env9
  have d2 : decide ((i : Int) < 40) = decide (i < 40) := decide_eq_decide.2 (by omega)
  by_cases hi : i < P.length ∧ i < 40
  · obtain ⟨hi1, hi2⟩ := hi
    have d3 : decide (i < P.length) = true := decide_eq_true hi1
    have d4 : decide (i < 40) = true := decide_eq_true hi2
    have hia := hs.ia (i := i) (by rw [List.length_map]; exact hi1)
    rw [List.getElem_map] at hia
    have hok := hmem.out _ (List.getElem_mem hi1)
    have hdr : (P.take 40).drop i = P[i] :: (P.take 40).drop (i + 1) := by
      rw [List.drop_eq_getElem_cons (by simp; omega)]
      simp
    rw [hdr, List.foldl_cons] at hfd
    generalize P[i] = p at hia hok hfd
    clear hdr
    rw [show p.av = .agg [.val (.int .u8 p.needle), .val (.int .u8 p.many)] from rfl] at hia
    obtain ⟨hk1, hk2⟩ := hok
    have hfd : ((P.take 40).drop (i + 1)).foldl step (inner (p.needle % 80) (p.many % 5) T n) = fin := hfd
    have r1 : Int.tmod (p.needle : Int) 80 = ((p.needle % 80 : Nat) : Int) := by rw [Int.tmod_eq_emod_of_nonneg (by omega)]; omega
    have r2 : Int.tmod (p.many : Int) 5 = ((p.many % 5 : Nat) : Int) := by rw [Int.tmod_eq_emod_of_nonneg (by omega)]; omega
    have hc5 : p.many % 5 < 5 := Nat.mod_lt _ (by omega)
    have ha80 : p.needle % 80 < 80 := Nat.mod_lt _ (by omega)
    obtain ⟨at_, hat⟩ : ∃ a, p.needle % 80 = a := ⟨_, rfl⟩
    obtain ⟨c, hcc⟩ : ∃ a, p.many % 5 = a := ⟨_, rfl⟩
    rw [hat] at r1 hfd ha80
    rw [hcc] at r2 hfd hc5
    clear hat hcc
    have hwi : i < 4611686018427387904 := by omega
    replace hfd := (show Aside _ from hfd)
    replace hst := (show Aside _ from hst)
    (repeat' first
    | simp (contextual := true) (maxSteps := 4000000) only [fwc, fwe, fww, reduceIte, ↓reduceIte, Nat.reduceAdd, Nat.reduceLeDiff, Nat.reduceEqDiff, Nat.reduceLT, Nat.reduceSub, reduceCtorEq, Int.reduceEq, Int.reduceLT, Int.reduceLE, Int.reduceNeg, Int.reduceToNat, Int.reduceAdd, Int.reduceSub, Nat.reduceMul, ilt_nat, part_cell, *]
    | (refine seqK_now ?_)
    | (refine retK_now ?_)
    | (refine retK_now' ?_)
    | (intro q hq)
    | (refine cond_intro (fun hc => ?_) (fun hc => ?_)))
    obtain ⟨I2, hI2⟩ := hideI (fun m e O' => ∃ (k : Nat) (ts : List AV) (T2 : List (List Id)) (n2 : Nat), k ≤ c ∧ m = c - k ∧ n2 ≤ 5 * i + k ∧ inner at_ (c - k) T2 n2 = inner at_ c T n ∧ St9 O O' q2 q3 ts T2 n2 ∧ e = env9b s q2 q3 n2 i at_ k)
    refine cmd_loop I2 c (by
      rw [hI2.out]
      exact ⟨0, ts, T, n, by omega, rfl, by omega, rfl, hst.out, rfl⟩) ?_
    clear hst
    intro m e O' hh
    rw [hI2.out] at hh
    obtain ⟨k, ts, T2, n2, h4, rfl, hn2, hin, hst, rfl⟩ := hh
    unfold env9b
    have hokt := hst.ok
    have hT : at_ < T2.length := by rw [hokt.len]; exact ha80
    have hts : at_ < ts.length := by rw [hst.tab.len]; exact hT
    obtain ⟨v1, v2, v3⟩ := hst.tab.len1 at_ hts hT
    have hq3 := hst.h3
    have hge : ts[at_]? = some ts[at_] := List.getElem?_eq_getElem hts
    have hgd : T2.getD at_ [] = T2[at_] := by rw [List.getD_eq_getElem?_getD, List.getElem?_eq_getElem hT]; rfl
    have hix : indexPtrA 80 1 false (at_ : Int) (.optr q3 80 0 0) = some (.optr q3 80 0 at_) := by
      rw [ixp_optr, if_pos (by omega)]
      simp
    have hw4 : IntKind.i64.wrap (c : Int) = c := wrap_nat (by omega)
    have hle80 : at_ + 1 ≤ 80 := by omega
    by_cases hk : k < c
    · have e1 : decide (k < c) = true := decide_eq_true hk
      have e2 : decide ((T2[at_].length : Int) < 4) = decide (T2[at_].length < 4) := decide_eq_decide.2 (by omega)
      by_cases hl4 : T2[at_].length < 4
      · have e3 : decide (T2[at_].length < 4) = true := decide_eq_true hl4
        have u1 : Int.tmod (n2 : Int) 3 = ((n2 % 3 : Nat) : Int) := by rw [Int.tmod_eq_emod_of_nonneg (by omega)]; omega
        have u2 : IntKind.u8.wrap ((n2 % 3 : Nat) : Int) = ((n2 % 3 : Nat) : Int) := wrap_u8 (by omega) (by omega)
        have u3 : IntKind.u8.wrap (1 + ((n2 % 3 : Nat) : Int)) = ((1 + n2 % 3 : Nat) : Int) := by rw [wrap_u8 (by omega) (by omega)]; omega
        have u4 : IntKind.i64.wrap (Int.tdiv (n2 : Int) 3) = ((n2 / 3 : Nat) : Int) := by rw [Int.tdiv_eq_ediv_of_nonneg (by omega), wrap_i64 (by omega) (by omega)]; omega
        have htab := hst.tab
        have hh2 := hst.h2
        have hsub := hst.sub
        replace hst := (show Aside _ from hst)
        replace hl4 := (show Aside _ from hl4)
        replace hin := (show Aside _ from hin)
        have hwn : n2 < 4611686018427387904 := by omega
        have hwk : k < 4611686018427387904 := by omega
        have hle1 : at_ + 1 ≤ ts.length := hts
        (repeat' first
    | simp (contextual := true) (maxSteps := 4000000) only [fwc, fwe, fww, reduceIte, ↓reduceIte, Nat.reduceAdd, Nat.reduceLeDiff, Nat.reduceEqDiff, Nat.reduceLT, Nat.reduceSub, reduceCtorEq, Int.reduceEq, Int.reduceLT, Int.reduceLE, Int.reduceNeg, Int.reduceToNat, Int.reduceAdd, Int.reduceSub, Nat.reduceMul, ilt_nat, part_cell, *]
    | (refine seqK_now ?_)
    | (refine retK_now ?_)
    | (refine retK_now' ?_)
    | (intro q hq)
    | (refine cond_intro (fun hc => ?_) (fun hc => ?_)))
        refine append_tab htab ?_ at_ hts hT (idn n2) (by have := hl4.out; omega) rfl ?_
        · intro id hid
          show O id = none ∧ id ≠ q2 ∧ id ≠ q3
          refine ⟨?_, fun e => (by rw [e, hh2] at hid; cases hid), fun e => (by rw [e, hq3] at hid; cases hid)⟩
          cases ho : O id with
          | none => rfl
          | some o => rw [hsub _ _ ho] at hid; cases hid
        intro v O2 w1 w2 w3 w4
        have g2 := (w3 q2 (fun h => h.2.1 rfl)).trans hh2
        have g3 := (w3 q3 (fun h => h.2.2 rfl)).trans hq3
        have hsp : ts.take at_ ++ [v] ++ ts.drop (at_ + 1) = ts.set at_ v := by rw [List.set_eq_take_append_cons_drop, if_pos hts]; simp
        replace w4 := (show Aside _ from w4)
        replace w3 := (show Aside _ from w3)
        replace hsub := (show Aside _ from hsub)
        (repeat' first
    | simp (contextual := true) (maxSteps := 4000000) only [fwc, fwe, fww, reduceIte, ↓reduceIte, Nat.reduceAdd, Nat.reduceLeDiff, Nat.reduceEqDiff, Nat.reduceLT, Nat.reduceSub, reduceCtorEq, Int.reduceEq, Int.reduceLT, Int.reduceLE, Int.reduceNeg, Int.reduceToNat, Int.reduceAdd, Int.reduceSub, Nat.reduceMul, wrap_succ, and_false, *]
    | (refine seqK_now ?_)
    | (refine retK_now ?_)
    | (refine retK_now' ?_)
    | (intro q hq)
    | (refine cond_intro (fun hc => ?_) (fun hc => ?_)))
        refine loopK_now (c - (k + 1)) (by omega) ?_
        rw [hI2.out]
        refine ⟨k + 1, ts.set at_ v, T2.set at_ (T2[at_] ++ [idn n2]), n2 + 1, by omega, rfl, by omega, ?_, ?_, ?_⟩
        · rw [← hin.out, show c - k = (c - (k + 1)) + 1 by omega, inner, if_pos (by rw [hgd]; exact hl4.out), hgd]
        · refine ⟨?_, by omega, ?_, ?_, ?_, ?_⟩
          · have := hokt.add (at_ := at_) ha80 (by rw [hgd]; exact hl4.out)
            rwa [hgd] at this
          · rw [Heap.upd_ne _ _ a2]; exact g2
          · exact Heap.upd_same _ _ _
          · refine fun j o hj => ?_
            rw [Heap.upd_ne _ _ (fun e => by rw [e, hO3] at hj; cases hj), w3.out j (fun h => by rw [hj] at h; cases h.1)]
            exact hsub.out j o hj
          · exact w4.out.mono fun id hid => Heap.upd_ne _ _ hid.2.2
        · simp (contextual := true) (maxSteps := 4000000) only [fwc, fwe, fww, reduceIte, ↓reduceIte, Nat.reduceAdd, Nat.reduceLeDiff, Nat.reduceEqDiff, Nat.reduceLT, Nat.reduceSub, reduceCtorEq, Int.reduceEq, Int.reduceLT, Int.reduceLE, Int.reduceNeg, Int.reduceToNat, Int.reduceAdd, Int.reduceSub, Nat.reduceMul, env9b, wrap_succ, *]
      · have e3 : decide (T2[at_].length < 4) = false := decide_eq_false hl4
        have hfin2 : inner at_ c T n = (T2, n2) := by
          rw [← hin, show c - k = (c - (k + 1)) + 1 by omega, inner, if_neg (by rw [hgd]; exact hl4)]
        rw [hfin2] at hfd
        clear hin hfin2
        replace hst := (show Aside _ from hst)
        replace hl4 := (show Aside _ from hl4)
        have hle1 : at_ + 1 ≤ ts.length := hts
        (repeat' first
    | simp (contextual := true) (maxSteps := 4000000) only [fwc, fwe, fww, reduceIte, ↓reduceIte, Nat.reduceAdd, Nat.reduceLeDiff, Nat.reduceEqDiff, Nat.reduceLT, Nat.reduceSub, reduceCtorEq, Int.reduceEq, Int.reduceLT, Int.reduceLE, Int.reduceNeg, Int.reduceToNat, Int.reduceAdd, Int.reduceSub, Nat.reduceMul, ilt_nat, part_cell, wrap_succ, *]
    | (refine seqK_now ?_)
    | (refine retK_now ?_)
    | (refine retK_now' ?_)
    | (intro q hq)
    | (refine cond_intro (fun hc => ?_) (fun hc => ?_)))
        refine loopK_now (min P.length 40 - (i + 1)) (by omega) ?_
        rw [hI.out]
        exact ⟨i + 1, ts, T2, n2, by omega, rfl, by omega, hfd.out, hst.out, rfl⟩
    · have e1 : decide (k < c) = false := decide_eq_false hk
      have hkc : k = c := by omega
      have hfin2 : inner at_ c T n = (T2, n2) := by
        rw [← hin, show c - k = 0 by omega, inner]
      rw [hfin2] at hfd
      clear hin hfin2
      replace hkc := (show Aside _ from hkc)
      replace hst := (show Aside _ from hst)
      have hle1 : at_ + 1 ≤ ts.length := hts
      (repeat' first
    | simp (contextual := true) (maxSteps := 4000000) only [fwc, fwe, fww, reduceIte, ↓reduceIte, Nat.reduceAdd, Nat.reduceLeDiff, Nat.reduceEqDiff, Nat.reduceLT, Nat.reduceSub, reduceCtorEq, Int.reduceEq, Int.reduceLT, Int.reduceLE, Int.reduceNeg, Int.reduceToNat, Int.reduceAdd, Int.reduceSub, Nat.reduceMul, ilt_nat, part_cell, wrap_succ, *]
    | (refine seqK_now ?_)
    | (refine retK_now ?_)
    | (refine retK_now' ?_)
    | (intro q hq)
    | (refine cond_intro (fun hc => ?_) (fun hc => ?_)))
      refine loopK_now (min P.length 40 - (i + 1)) (by omega) ?_
      rw [hI.out]
      exact ⟨i + 1, ts, T2, n2, by omega, rfl, by omega, hfd.out, hst.out, rfl⟩
  · have hi4 : i = min P.length 40 := by omega
    have hnil : (P.take 40).drop i = [] := by rw [List.drop_eq_nil_iff]; simp; omega
    rw [hnil, List.foldl_nil] at hfd
    have hT : T = ofL P := by unfold ofL; rw [hfin, ← hfd]
    have hq3 := hst.h3
    have hh2 := hst.h2
    have htl : ts.length = 80 := by rw [hst.tab.len, hst.ok.len]
    have htk : ts.take 80 = ts := List.take_of_length_le (by omega)
    have hle : (80 : Nat) ≤ ts.length := by omega
    have hcond : (decide (i < P.length) && decide (i < 40)) = false := by
      cases h1 : decide (i < P.length) with
      | false => rfl
      | true =>
        cases h2 : decide (i < 40) with
        | false => rfl
        | true => exact absurd ⟨of_decide_eq_true h1, of_decide_eq_true h2⟩ hi
    replace hst := (show Aside _ from hst)
    clear hi hnil hfd
    subst hT
    replace hi4 := (show Aside _ from hi4)
    (repeat' first
    | simp (contextual := true) (maxSteps := 4000000) only [fwc, fwe, fww, reduceIte, ↓reduceIte, Nat.reduceAdd, Nat.reduceLeDiff, Nat.reduceEqDiff, Nat.reduceLT, Nat.reduceSub, reduceCtorEq, Int.reduceEq, Int.reduceLT, Int.reduceLE, Int.reduceNeg, Int.reduceToNat, Int.reduceAdd, Int.reduceSub, Nat.reduceMul, ilt_nat, part_agg, *]
    | (refine seqK_now ?_)
    | (refine retK_now ?_)
    | (refine retK_now' ?_)
    | (intro q hq)
    | (refine cond_intro (fun hc => ?_) (fun hc => ?_)))
    refine (hst.out.tab.mono (O' := O'.upd q2 (.arr 31 80 [.agg ts])) fun id hid => Heap.upd_ne _ _ hid.2.1).frz fun O2 hO2 => ?_
    refine WeakR.pure ?_ rfl
    intro j o hj
    rw [hO2 j (fun h => by rw [hj] at h; cases h.1), Heap.upd_ne _ _ (fun e => by rw [e, hq2] at hj; cases hj)]
    exact hst.out.sub j o hj
end Go.Proofs.Ytlpngkeegjickaa

namespace Go.Proofs.Ytlpngkeegjickaa
open Go.Ab
attribute [local irreducible] WeakR WeakE CallA YieldA

theorem trim_hi (l : List (List Id)) : ∀ (n j : Nat), trimN l n ≤ j → j < n → l.getD j [] = []
  | 0, j, _, h => by omega
  | n + 1, j, h1, h2 => by
    unfold trimN at h1
    split at h1
    · rename_i h
      rcases Nat.lt_or_ge j n with h' | h'
      · exact trim_hi l n j h1 h'
      · rw [show j = n by omega]; exact h
    · omega
theorem trim_lo (l : List (List Id)) : ∀ (n : Nat), 0 < trimN l n → l.getD (trimN l n - 1) [] ≠ []
  | 0, h => by cases h
  | n + 1, h => by
    unfold trimN at h ⊢
    split
    · rename_i h'
      rw [if_pos h'] at h
      exact trim_lo l n h
    · rename_i h'
      exact h'

/-- How long the front bed is, and the back bed. -/
def trF (T : List (List Id)) : Nat := trimN (T.take 40) 40
def trB (T : List (List Id)) : Nat := trimN (T.drop 40) 40
theorem trF_hi {T : List (List Id)} {j : Nat} (h : trF T ≤ j) (hj : j < 40) : T.getD j [] = [] := by
  have := trim_hi (T.take 40) 40 j h hj
  rw [List.getD_eq_getElem?_getD, List.getElem?_take, if_pos hj, ← List.getD_eq_getElem?_getD] at this
  exact this
theorem trF_lo {T : List (List Id)} (h : 0 < trF T) : T.getD (trF T - 1) [] ≠ [] := by
  have := trim_lo (T.take 40) 40 h
  have hle := trimN_le (T.take 40) 40
  change (T.take 40).getD (trF T - 1) [] ≠ [] at this
  change trF T ≤ 40 at hle
  rw [List.getD_eq_getElem?_getD, List.getElem?_take, if_pos (by omega), ← List.getD_eq_getElem?_getD] at this
  exact this
theorem trB_hi {T : List (List Id)} {j : Nat} (h : trB T ≤ j) (hj : j < 40) : T.getD (40 + j) [] = [] := by
  have := trim_hi (T.drop 40) 40 j h hj
  rw [List.getD_eq_getElem?_getD, List.getElem?_drop, ← List.getD_eq_getElem?_getD] at this
  exact this
theorem trB_lo {T : List (List Id)} (h : 0 < trB T) : T.getD (40 + (trB T - 1)) [] ≠ [] := by
  have := trim_lo (T.drop 40) 40 h
  change (T.drop 40).getD (trB T - 1) [] ≠ [] at this
  rw [List.getD_eq_getElem?_getD, List.getElem?_drop, ← List.getD_eq_getElem?_getD] at this
  exact this
theorem trF_le (T : List (List Id)) : trF T ≤ 40 := trimN_le _ _
theorem trB_le (T : List (List Id)) : trB T ≤ 40 := trimN_le _ _
def nAt (tr k : Nat) : Nat := if k < tr then tr else 0

def bedsF (T : List (List Id)) : List (List Id) := (List.range (trF T)).map fun i => T.getD i []
def bedsB (T : List (List Id)) : List (List Id) := (List.range (trB T)).map fun i => T.getD (40 + i) []
def stk (l : List Id) : AV := .list 2 false (l.map Id.av)
def bedA (F : List (List Id)) : AV := if F = [] then nilS else .list 1 true (F.map stk)
theorem bedA_is (F : List (List Id)) : IsB (bedA F) (F.map stk) F ∧ IsT 1 (bedA F) (F.map stk) := by
  unfold bedA
  split
  · rename_i h; subst h
    exact ⟨⟨.nil, rfl, fun i h => by simp at h⟩, .nil⟩
  · refine ⟨⟨.list, by simp, fun i h h' => ?_⟩, .list⟩
    simp only [List.getElem_map]
    exact .list

/-- A row of a bed: nil, or an array of one's own. -/
def FA (fr : Nat → Prop) (O' : Heap) (s : AV) (n : Nat) (els : List AV) : Prop := (n = 0 ∧ s = nilS ∧ els = []) ∨ (0 < n ∧ ∃ id, s = .own id 1 0 n (some n) ∧ fr id ∧ O' id = some (.arr 29 1 els) ∧ els.length = n)
theorem FA.len {fr : Nat → Prop} {O' : Heap} {s : AV} {n : Nat} {els : List AV} (h : FA fr O' s n els) : lenA s = some (.val (.int .i64 n)) ∧ s.cells = [s] ∧ s.stor = true := by
  rcases h with ⟨rfl, rfl, _⟩ | ⟨_, id, rfl, _⟩ <;> exact ⟨rfl, rfl, rfl⟩
theorem FA.mono {fr : Nat → Prop} {O' O2 : Heap} {s : AV} {n : Nat} {els : List AV} (h : FA fr O' s n els) (hs : ∀ id a b c, s = .own id 1 a b c → fr id → O' id ≠ none → O2 id = O' id) : FA fr O2 s n els :=
  h.imp (fun h => h) fun ⟨h1, id, h2, h3, h4, h5⟩ => ⟨h1, id, h2, h3, (hs id _ _ _ h2 h3 (by rw [h4]; simp)).trans h4, h5⟩
theorem FA.at_ {fr : Nat → Prop} {O' : Heap} {s : AV} {n : Nat} {els : List AV} (h : FA fr O' s n els) {id a b : Nat} {c : Option Nat} (e : s = .own id 1 a b c) : O' id ≠ none := by
  rcases h with ⟨_, e', _⟩ | ⟨_, id', e', _, h4, _⟩
  · rw [e] at e'; cases e'
  · rw [e] at e'; cases e'; rw [h4]; simp
theorem nAt_make {tr j : Nat} {x : List Id} (hi : tr ≤ j → x = []) (h : (decide (nAt tr (j + 1) = 0) && decide (0 < x.length)) = true) : nAt tr j = j + 1 := by
  simp only [Bool.and_eq_true, decide_eq_true_eq] at h
  obtain ⟨h1, h2⟩ := h
  have : j < tr := Nat.lt_of_not_le fun h => by rw [hi h] at h2; cases h2
  unfold nAt at h1 ⊢
  rw [if_pos this]
  split at h1 <;> omega
theorem nAt_keep {tr j : Nat} {x : List Id} (lo : tr = j + 1 → x ≠ []) (h : ¬ (decide (nAt tr (j + 1) = 0) && decide (0 < x.length)) = true) : nAt tr j = nAt tr (j + 1) := by
  simp only [Bool.and_eq_true, decide_eq_true_eq, not_and] at h
  unfold nAt at h ⊢
  by_cases h1 : j + 1 < tr
  · rw [if_pos h1, if_pos (by omega)]
  · rw [if_neg h1] at h ⊢
    have hx := h rfl
    by_cases h2 : tr = j + 1
    · exact absurd (List.eq_nil_of_length_eq_zero (by omega)) (lo h2)
    · rw [if_neg (by omega)]

/-- The state of the making of beds. -/
structure St10 (O O' : Heap) (q1 q2 q3 : Nat) (T : List (List Id)) (fr bk : AV) (n m : Nat) (ef eb : List AV) : Prop where
  h1 : O' q1 = some (.arr 31 80 [.agg (tabA T)])
  h2 : O' q2 = some (.arr 35 2 [noBeds])
  h3 : O' q3 = some (.arr 35 2 [.agg [fr, bk]])
  sub : O.sub O'
  f : FA (fun id => O id = none ∧ id ≠ q1 ∧ id ≠ q2 ∧ id ≠ q3) O' fr n ef
  b : FA (fun id => O id = none ∧ id ≠ q1 ∧ id ≠ q2 ∧ id ≠ q3) O' bk m eb
  ne : ∀ id a b c a' b' c', fr = .own id 1 a b c → bk = .own id 1 a' b' c' → False

def elF (G : List (List Id)) (i : Nat) : List AV := (G.map stk).take i ++ List.replicate (G.length - i) nilS
theorem elF_zero (G : List (List Id)) : elF G 0 = List.replicate G.length nilS := by simp [elF]
theorem elF_get {G : List (List Id)} {i : Nat} (h : i < G.length) : (elF G i)[i]? = some nilS := by
  unfold elF
  rw [List.getElem?_append_right (by simp; omega), List.getElem?_replicate, if_pos (by simp; omega)]
theorem elF_set {G : List (List Id)} {i : Nat} (h : i < G.length) : (elF G i).set i (stk G[i]) = elF G (i + 1) := by
  unfold elF
  rw [List.set_append_right _ _ (by simp; omega), List.take_succ_eq_append_getElem (by simpa using h), show G.length - i = (G.length - (i + 1)) + 1 by omega, List.replicate_succ]
  have : i - ((G.map stk).take i).length = 0 := by simp; omega
  rw [this, List.set_cons_zero]
  simp
theorem elF_all (G : List (List Id)) : elF G G.length = G.map stk := by
  unfold elF
  rw [Nat.sub_self, List.replicate_zero, List.append_nil, List.take_of_length_le (by simp)]

theorem frz_bed {fr : Nat → Prop} {O' : Heap} {s : AV} {n : Nat} {G : List (List Id)} (h : FA fr O' s n (elF G n)) (hn : n = G.length) : s = bedA G ∨ ∃ id els, O' id = some (.arr 29 1 els) ∧ fr id ∧ Fz id 1 els s (bedA G) ∧ ∃ a b c, s = .own id 1 a b c := by
  rcases h with ⟨rfl, rfl, _⟩ | ⟨h0, id, rfl, h1, h2, h3⟩
  · refine .inl ?_
    rw [bedA, if_pos (List.eq_nil_of_length_eq_zero hn.symm)]
  · refine .inr ⟨id, _, h2, h1, ?_, _, _, _, rfl⟩
    have hz := Fz.own (id := id) (sz := 1) (elems := elF G n) 0 n (some n) true (by omega) (fun _ => rfl)
    rw [List.drop_zero, List.take_of_length_le (by omega)] at hz
    rw [bedA, if_neg (fun e => by rw [e] at hn; simp at hn; omega), ← elF_all, ← hn]
    exact hz

def env10b (q1 q2 q3 i : Nat) : Env := (((Env.upd (fun _ => .junk) 5 (.val (.int .i64 i))).upd 3 (.optr q3 2 0 0)).upd 2 (.optr q2 2 0 0)).upd 1 (.optr q1 80 0 0)
def env10c (q1 q2 q3 i : Nat) : Env := (((Env.upd (fun _ => .junk) 6 (.val (.int .i64 i))).upd 3 (.optr q3 2 0 0)).upd 2 (.optr q2 2 0 0)).upd 1 (.optr q1 80 0 0)
def env10 (q1 q2 q3 : Nat) (z : Int) : Env := (((Env.upd (fun _ => .junk) 4 (.val (.int .i64 z))).upd 3 (.optr q3 2 0 0)).upd 2 (.optr q2 2 0 0)).upd 1 (.optr q1 80 0 0)

set_option maxHeartbeats 4000000 in
theorem beds_ok (T : List (List Id)) (hT : T.length = 80) (hs : ∀ l ∈ T, l.length ≤ 1000) : PureA Try.prog 10 [.agg (tabA T)] (.agg [bedA (bedsF T), bedA (bedsB T)]) := by
  intro O
  have htl : (tabA T).length = 80 := by simp [tabA, hT]
  have htk : (tabA T).take 80 = tabA T := List.take_of_length_le (by omega)
  have hle : (80 : Nat) ≤ (tabA T).length := by omega
  refine k10.call mix ?_
  unfold c10
  (repeat' first
    | simp (contextual := true) (maxSteps := 4000000) only [fwc, fwe, fww, reduceIte, ↓reduceIte, Nat.reduceAdd, Nat.reduceLeDiff, Nat.reduceEqDiff, Nat.reduceLT, Nat.reduceSub, reduceCtorEq, Int.reduceEq, Int.reduceLT, Int.reduceLE, Int.reduceNeg, Int.reduceToNat, Int.reduceAdd, Int.reduceSub, Nat.reduceMul, *]
    | (refine seqK_now ?_)
    | (refine retK_now ?_)
    | (refine retK_now' ?_)
    | (intro q hq)
    | (refine cond_intro (fun hc => ?_) (fun hc => ?_)))
  rename_i q1 hq1 q2 hq2
  revert q
  intro q3 hq3
  have hO2 : O q2 = none := hq2.2.2
  have hO3 : O q3 = none := hq3.2.2.2.2
  obtain ⟨a1, a2, _⟩ := hq2
  obtain ⟨a3, a4, a5, a6, _⟩ := hq3
  have hst0 : St10 O (((O.upd q1 (.arr 31 80 [.agg (tabA T)])).upd q2 (.arr 35 2 [noBeds])).upd q3 (.arr 35 2 [.agg [nilS, nilS]])) q1 q2 q3 T nilS nilS 0 0 [] [] :=
    ⟨by rw [Heap.upd_ne _ _ a6, Heap.upd_ne _ _ a2, Heap.upd_same], by rw [Heap.upd_ne _ _ a4, Heap.upd_same], Heap.upd_same _ _ _, sub_upd hO3 (sub_upd hO2 (sub_upd hq1 (Heap.sub_refl _))), .inl ⟨rfl, rfl, rfl⟩, .inl ⟨rfl, rfl, rfl⟩, fun id a b c a' b' c' h => by cases h⟩
  obtain ⟨I, hI⟩ := hideI (fun m e O' => ∃ (k : Nat) (z : Int) (fr bk : AV), k ≤ 40 ∧ z = (k : Int) - 1 ∧ m = k ∧ St10 O O' q1 q2 q3 T fr bk (nAt (trF T) k) (nAt (trB T) k) (List.replicate (nAt (trF T) k) nilS) (List.replicate (nAt (trB T) k) nilS) ∧ e = env10 q1 q2 q3 z)
  refine cmd_loop I 40 (by
    rw [hI.out]
    refine ⟨40, 39, nilS, nilS, by omega, by omega, rfl, ?_, rfl⟩
    have e1 : nAt (trF T) 40 = 0 := by unfold nAt; rw [if_neg (by have := trF_le T; omega)]
    have e2 : nAt (trB T) 40 = 0 := by unfold nAt; rw [if_neg (by have := trB_le T; omega)]
    rw [e1, e2]
    exact hst0) ?_
  clear hst0
  intro m e O' hh
  rw [hI.out] at hh
  obtain ⟨k, z, fr, bk, h3, hz, hm, hst, rfl⟩ := hh
  subst m
  unfold env10
  have d1 : decide ((0 : Int) ≤ z) = decide (1 ≤ k) := decide_eq_decide.2 (by omega)
  obtain ⟨l1, l2, l3⟩ := hst.f.len
  obtain ⟨l4, l5, l6⟩ := hst.b.len
  have hh1 := hst.h1
  have hh2 := hst.h2
  have hh3 := hst.h3
  have hsub := hst.sub
  rcases Nat.eq_zero_or_pos k with hk | hk
  · subst hk
    have hz' : z = -1 := by omega
    subst hz'
    clear hz h3
    have n1 : nAt (trF T) 0 = trF T := by unfold nAt; split <;> omega
    have n2 : nAt (trB T) 0 = trB T := by unfold nAt; split <;> omega
    rw [n1, n2] at hst
    clear l1 l4 hh1 hh2 hh3 hsub l2 l3 l5 l6 d1 n1 n2
    have hst0 : St10 O O' q1 q2 q3 T fr bk (trF T) (trB T) (elF (bedsF T) 0) (elF (bedsB T) 0) := by
      rw [elF_zero, elF_zero, show (bedsF T).length = trF T by simp [bedsF], show (bedsB T).length = trB T by simp [bedsB]]
      exact hst
    clear hst
    obtain ⟨I2, hI2⟩ := hideI (fun m e O' => ∃ i, i ≤ trF T ∧ m = trF T - i ∧ St10 O O' q1 q2 q3 T fr bk (trF T) (trB T) (elF (bedsF T) i) (elF (bedsB T) 0) ∧ e = env10b q1 q2 q3 i)
    clear hI
    replace hst0 := (show Aside _ from hst0)
    replace hs := (show Aside _ from hs)
    (repeat' first
    | simp (contextual := true) (maxSteps := 4000000) only [fwc, fwe, fww, reduceIte, ↓reduceIte, Nat.reduceAdd, Nat.reduceLeDiff, Nat.reduceEqDiff, Nat.reduceLT, Nat.reduceSub, reduceCtorEq, Int.reduceEq, Int.reduceLT, Int.reduceLE, Int.reduceNeg, Int.reduceToNat, Int.reduceAdd, Int.reduceSub, Nat.reduceMul, *]
    | (refine seqK_now ?_)
    | (refine retK_now ?_)
    | (refine retK_now' ?_)
    | (intro q hq)
    | (refine cond_intro (fun hc => ?_) (fun hc => ?_)))
    refine cmd_loop I2 (trF T) (by rw [hI2.out]; exact ⟨0, by omega, rfl, hst0.out, rfl⟩) ?_
    clear hst0
    intro m e O' hh
    rw [hI2.out] at hh
    obtain ⟨i, h3, rfl, hst, rfl⟩ := hh
    unfold env10b
    obtain ⟨l1, l2, l3⟩ := hst.f.len
    obtain ⟨l4, l5, l6⟩ := hst.b.len
    have hh1 := hst.h1
    have hh2 := hst.h2
    have hh3 := hst.h3
    by_cases hi : i < trF T
    · have hil : decide (i < trF T) = true := decide_eq_true hi
      have htr := trF_le T
      have hix1 : indexPtrA 80 1 false (i : Int) (.optr q1 80 0 0) = some (.optr q1 80 0 (i)) := by
        rw [ixp_optr, if_pos (by omega)]
        simp
        try omega
      have hw40 : IntKind.i64.wrap (40 + (i : Int)) = ((40 + i : Nat) : Int) := by rw [wrap_i64 (by omega) (by omega)]; omega
      have g1 := tabA_get T (i) (by omega)
      have hX := frA_L 2 (T[i].map Id.av)
      have t2 := hX.cells
      have hlx := hs.out T[i] (List.getElem_mem (by omega))
      have hGl : (bedsF T).length = trF T := by simp [bedsF]
      have hGi : (bedsF T)[i]'(by omega) = T[i] := by simp [bedsF, List.getElem?_eq_getElem (show i < T.length by omega)]
      have hge := elF_get (G := bedsF T) (i := i) (by omega)
      have hse := elF_set (G := bedsF T) (i := i) (by omega)
      rw [hGi] at hse
      clear hGi
      generalize T[i] = X at g1 hX t2 hlx hse
      rcases hst.f with ⟨h0, _⟩ | ⟨h0, id, hid, hfr, hob, hle2⟩
      · omega
      subst hid
      have hio : indexAddrA 1 (i : Int) (.own id 1 0 (trF T) (some (trF T))) = some (.optr id 1 i 0) := by rw [ia_onat hi, Nat.zero_add]
      have hc1 : i + 1 ≤ 80 := by omega
      have hc2 : 40 + i + 1 ≤ 80 := by omega
      have hwi : i < 4611686018427387904 := by omega
      have hel : ∀ O, elemsA O 2 (frA 2 (X.map Id.av)) = some (X.map Id.av) := fun O => hX.el O
      have hfit : fits (([] : List AV).length + (X.map Id.av).length) 16 := fits_of (by simp; omega) (by omega)
      replace hst := (show Aside _ from hst)
      replace hfr := (show Aside _ from hfr)
      (repeat' first
    | simp (contextual := true) (maxSteps := 4000000) only [fwc, fwe, fww, reduceIte, ↓reduceIte, Nat.reduceAdd, Nat.reduceLeDiff, Nat.reduceEqDiff, Nat.reduceLT, Nat.reduceSub, reduceCtorEq, Int.reduceEq, Int.reduceLT, Int.reduceLE, Int.reduceNeg, Int.reduceToNat, Int.reduceAdd, Int.reduceSub, Nat.reduceMul, part_cell, ilt_nat, *]
    | (refine seqK_now ?_)
    | (refine retK_now ?_)
    | (refine retK_now' ?_)
    | (intro q hq)
    | (refine cond_intro (fun hc => ?_) (fun hc => ?_)))
      refine drawW_append (stk X) ⟨X.map Id.av, hel _, rfl, hfit, rfl⟩ ?_
      have hsc : (stk X).cells = [stk X] := rfl
      have hss : (stk X).stor = true := rfl
      (repeat' first
    | simp (contextual := true) (maxSteps := 4000000) only [fwc, fwe, fww, reduceIte, ↓reduceIte, Nat.reduceAdd, Nat.reduceLeDiff, Nat.reduceEqDiff, Nat.reduceLT, Nat.reduceSub, reduceCtorEq, Int.reduceEq, Int.reduceLT, Int.reduceLE, Int.reduceNeg, Int.reduceToNat, Int.reduceAdd, Int.reduceSub, Nat.reduceMul, part_cell, wrap_succ, *]
    | (refine seqK_now ?_)
    | (refine retK_now ?_)
    | (refine retK_now' ?_)
    | (intro q hq)
    | (refine cond_intro (fun hc => ?_) (fun hc => ?_)))
      refine loopK_now (trF T - (i + 1)) (by omega) ?_
      rw [hI2.out]
      have y1 : q1 ≠ id := fun e => hfr.out.2.1 e.symm
      have y2 : q2 ≠ id := fun e => hfr.out.2.2.1 e.symm
      have y3 : q3 ≠ id := fun e => hfr.out.2.2.2 e.symm
      refine ⟨i + 1, by omega, rfl, ⟨?_, ?_, ?_, ?_, ?_, ?_, ?_⟩, ?_⟩
      · rw [Heap.upd_ne _ _ y1]; exact hh1
      · rw [Heap.upd_ne _ _ y2]; exact hh2
      · rw [Heap.upd_ne _ _ y3]; exact hh3
      · intro i' o ho
        rw [Heap.upd_ne _ _ (fun e => by rw [e, hfr.out.1] at ho; cases ho)]
        exact hst.out.sub i' o ho
      · refine .inr ⟨h0, id, rfl, hfr.out, Heap.upd_same _ _ _, ?_⟩
        simp only [elF, List.length_append, List.length_take, List.length_map, List.length_replicate, hGl]
        omega
      · exact hst.out.b.mono fun i' a b c e1 h h' => Heap.upd_ne _ _ (fun e => hst.out.ne id _ _ _ a b c rfl (by rw [← e]; exact e1))
      · exact hst.out.ne
      · simp (contextual := true) (maxSteps := 4000000) only [fwc, fwe, fww, reduceIte, ↓reduceIte, Nat.reduceAdd, Nat.reduceLeDiff, Nat.reduceEqDiff, Nat.reduceLT, Nat.reduceSub, reduceCtorEq, Int.reduceEq, Int.reduceLT, Int.reduceLE, Int.reduceNeg, Int.reduceToNat, Int.reduceAdd, Int.reduceSub, Nat.reduceMul, env10b, wrap_succ, *]
    · have hi' : i = trF T := by omega
      have hil : decide (i < trF T) = false := decide_eq_false hi
      obtain ⟨I3, hI3⟩ := hideI (fun m e O' => ∃ i, i ≤ trB T ∧ m = trB T - i ∧ St10 O O' q1 q2 q3 T fr bk (trF T) (trB T) (elF (bedsF T) (trF T)) (elF (bedsB T) i) ∧ e = env10c q1 q2 q3 i)
      clear hI2
      replace hi' := (show Aside _ from hi')
      replace hst := (show Aside _ from hst)
      (repeat' first
    | simp (contextual := true) (maxSteps := 4000000) only [fwc, fwe, fww, reduceIte, ↓reduceIte, Nat.reduceAdd, Nat.reduceLeDiff, Nat.reduceEqDiff, Nat.reduceLT, Nat.reduceSub, reduceCtorEq, Int.reduceEq, Int.reduceLT, Int.reduceLE, Int.reduceNeg, Int.reduceToNat, Int.reduceAdd, Int.reduceSub, Nat.reduceMul, part_cell, ilt_nat, *]
    | (refine seqK_now ?_)
    | (refine retK_now ?_)
    | (refine retK_now' ?_)
    | (intro q hq)
    | (refine cond_intro (fun hc => ?_) (fun hc => ?_)))
      refine cmd_loop I3 (trB T) (by rw [hI3.out]; exact ⟨0, by omega, rfl, by have := hst.out; rwa [hi'.out] at this, rfl⟩) ?_
      clear hst l1 l2 l3 l4 l5 l6 hh1 hh2 hh3 hil hi hi' h3
      intro m e O' hh
      rw [hI3.out] at hh
      obtain ⟨i, h3, rfl, hst, rfl⟩ := hh
      unfold env10c
      obtain ⟨l1, l2, l3⟩ := hst.f.len
      obtain ⟨l4, l5, l6⟩ := hst.b.len
      have hh1 := hst.h1
      have hh2 := hst.h2
      have hh3 := hst.h3
      by_cases hi : i < trB T
      · have hil : decide (i < trB T) = true := decide_eq_true hi
        have htr := trB_le T
        have hix1 : indexPtrA 80 1 false ((40 + i : Nat) : Int) (.optr q1 80 0 0) = some (.optr q1 80 0 (40 + i)) := by
          rw [ixp_optr, if_pos (by omega)]
          simp
          try omega
        have hw40 : IntKind.i64.wrap (40 + (i : Int)) = ((40 + i : Nat) : Int) := by rw [wrap_i64 (by omega) (by omega)]; omega
        have g1 := tabA_get T (40 + i) (by omega)
        have hX := frA_L 2 (T[40 + i].map Id.av)
        have t2 := hX.cells
        have hlx := hs.out T[40 + i] (List.getElem_mem (by omega))
        have hGl : (bedsB T).length = trB T := by simp [bedsB]
        have hGi : (bedsB T)[i]'(by omega) = T[40 + i] := by simp [bedsB, List.getElem?_eq_getElem (show 40 + i < T.length by omega)]
        have hge := elF_get (G := bedsB T) (i := i) (by omega)
        have hse := elF_set (G := bedsB T) (i := i) (by omega)
        rw [hGi] at hse
        clear hGi
        generalize T[40 + i] = X at g1 hX t2 hlx hse
        rcases hst.b with ⟨h0, _⟩ | ⟨h0, id, hid, hfr, hob, hle2⟩
        · omega
        subst hid
        have hio : indexAddrA 1 (i : Int) (.own id 1 0 (trB T) (some (trB T))) = some (.optr id 1 i 0) := by rw [ia_onat hi, Nat.zero_add]
        have hc1 : i + 1 ≤ 80 := by omega
        have hc2 : 40 + i + 1 ≤ 80 := by omega
        have hwi : i < 4611686018427387904 := by omega
        have hel : ∀ O, elemsA O 2 (frA 2 (X.map Id.av)) = some (X.map Id.av) := fun O => hX.el O
        have hfit : fits (([] : List AV).length + (X.map Id.av).length) 16 := fits_of (by simp; omega) (by omega)
        replace hst := (show Aside _ from hst)
        replace hfr := (show Aside _ from hfr)
        (repeat' first
    | simp (contextual := true) (maxSteps := 4000000) only [fwc, fwe, fww, reduceIte, ↓reduceIte, Nat.reduceAdd, Nat.reduceLeDiff, Nat.reduceEqDiff, Nat.reduceLT, Nat.reduceSub, reduceCtorEq, Int.reduceEq, Int.reduceLT, Int.reduceLE, Int.reduceNeg, Int.reduceToNat, Int.reduceAdd, Int.reduceSub, Nat.reduceMul, part_cell, ilt_nat, *]
    | (refine seqK_now ?_)
    | (refine retK_now ?_)
    | (refine retK_now' ?_)
    | (intro q hq)
    | (refine cond_intro (fun hc => ?_) (fun hc => ?_)))
        refine drawW_append (stk X) ⟨X.map Id.av, hel _, rfl, hfit, rfl⟩ ?_
        have hsc : (stk X).cells = [stk X] := rfl
        have hss : (stk X).stor = true := rfl
        (repeat' first
    | simp (contextual := true) (maxSteps := 4000000) only [fwc, fwe, fww, reduceIte, ↓reduceIte, Nat.reduceAdd, Nat.reduceLeDiff, Nat.reduceEqDiff, Nat.reduceLT, Nat.reduceSub, reduceCtorEq, Int.reduceEq, Int.reduceLT, Int.reduceLE, Int.reduceNeg, Int.reduceToNat, Int.reduceAdd, Int.reduceSub, Nat.reduceMul, part_cell, wrap_succ, *]
    | (refine seqK_now ?_)
    | (refine retK_now ?_)
    | (refine retK_now' ?_)
    | (intro q hq)
    | (refine cond_intro (fun hc => ?_) (fun hc => ?_)))
        refine loopK_now (trB T - (i + 1)) (by omega) ?_
        rw [hI3.out]
        have y1 : q1 ≠ id := fun e => hfr.out.2.1 e.symm
        have y2 : q2 ≠ id := fun e => hfr.out.2.2.1 e.symm
        have y3 : q3 ≠ id := fun e => hfr.out.2.2.2 e.symm
        refine ⟨i + 1, by omega, rfl, ⟨?_, ?_, ?_, ?_, ?_, ?_, ?_⟩, ?_⟩
        · rw [Heap.upd_ne _ _ y1]; exact hh1
        · rw [Heap.upd_ne _ _ y2]; exact hh2
        · rw [Heap.upd_ne _ _ y3]; exact hh3
        · intro i' o ho
          rw [Heap.upd_ne _ _ (fun e => by rw [e, hfr.out.1] at ho; cases ho)]
          exact hst.out.sub i' o ho
        · exact hst.out.f.mono fun i' a b c e1 h h' => Heap.upd_ne _ _ (fun e => hst.out.ne id a b c _ _ _ (by rw [← e]; exact e1) rfl)
        · refine .inr ⟨h0, id, rfl, hfr.out, Heap.upd_same _ _ _, ?_⟩
          simp only [elF, List.length_append, List.length_take, List.length_map, List.length_replicate, hGl]
          omega
        · exact hst.out.ne
        · simp (contextual := true) (maxSteps := 4000000) only [fwc, fwe, fww, reduceIte, ↓reduceIte, Nat.reduceAdd, Nat.reduceLeDiff, Nat.reduceEqDiff, Nat.reduceLT, Nat.reduceSub, reduceCtorEq, Int.reduceEq, Int.reduceLT, Int.reduceLE, Int.reduceNeg, Int.reduceToNat, Int.reduceAdd, Int.reduceSub, Nat.reduceMul, env10c, wrap_succ, *]
      · have hi' : i = trB T := by omega
        have hil : decide (i < trB T) = false := decide_eq_false hi
        replace hi' := (show Aside _ from hi')
        replace hst := (show Aside _ from hst)
        (repeat' first
    | simp (contextual := true) (maxSteps := 4000000) only [fwc, fwe, fww, reduceIte, ↓reduceIte, Nat.reduceAdd, Nat.reduceLeDiff, Nat.reduceEqDiff, Nat.reduceLT, Nat.reduceSub, reduceCtorEq, Int.reduceEq, Int.reduceLT, Int.reduceLE, Int.reduceNeg, Int.reduceToNat, Int.reduceAdd, Int.reduceSub, Nat.reduceMul, part_cell, part_agg, ilt_nat, *]
    | (refine seqK_now ?_)
    | (refine retK_now ?_)
    | (refine retK_now' ?_)
    | (intro q hq)
    | (refine cond_intro (fun hc => ?_) (fun hc => ?_)))
        have hst := hst.out
        rw [hi'.out] at hst
        have kf := frz_bed hst.f (by simp [bedsF])
        have kb := frz_bed hst.b (by simp [bedsB])
        have hsb : O.sub (O'.upd q2 (.arr 35 2 [.agg [fr, bk]])) := fun i o ho => by
          rw [Heap.upd_ne _ _ (fun e => by rw [e, hO2] at ho; cases ho)]
          exact hst.sub i o ho
        rcases kf with rfl | ⟨id1, e1, x1, x2, x3, u1, u2, u3, rfl⟩
        · rcases kb with rfl | ⟨id2, e2, y1, y2, y3, v1, v2, v3, rfl⟩
          · exact WeakR.pure hsb rfl
          · refine WeakR.freeze (r' := .agg [bedA (bedsF T), bedA (bedsB T)]) (id := id2) (by rw [Heap.upd_ne _ _ y2.2.2.1]; exact y1) (.agg _ _ rfl fun i x y hx hy => ?_) (WeakR.pure ?_ rfl)
            · match i, hx, hy with
              | 0, hx, hy => simp at hx hy; subst hx hy; exact .same _
              | 1, hx, hy => simp at hx hy; subst hx hy; exact y3
            · intro i o ho
              rw [Heap.del_ne _ (fun e => by rw [e, y2.1] at ho; cases ho)]
              exact hsb i o ho
        · refine WeakR.freeze (r' := .agg [bedA (bedsF T), bk]) (id := id1) (by rw [Heap.upd_ne _ _ x2.2.2.1]; exact x1) (.agg _ _ rfl fun i x y hx hy => ?_) ?_
          · match i, hx, hy with
            | 0, hx, hy => simp at hx hy; subst hx hy; exact x3
            | 1, hx, hy => simp at hx hy; subst hx hy; exact .same _
          have hsb2 : O.sub ((O'.upd q2 (.arr 35 2 [.agg [.own id1 1 u1 u2 u3, bk]])).del id1) := fun i o ho => by
            rw [Heap.del_ne _ (fun e => by rw [e, x2.1] at ho; cases ho)]
            exact hsb i o ho
          rcases kb with rfl | ⟨id2, e2, y1, y2, y3, v1, v2, v3, rfl⟩
          · exact WeakR.pure hsb2 rfl
          · have hne : id2 ≠ id1 := fun e => hst.ne id1 u1 u2 u3 v1 v2 v3 rfl (by rw [e])
            refine WeakR.freeze (r' := .agg [bedA (bedsF T), bedA (bedsB T)]) (id := id2) (by rw [Heap.del_ne _ hne, Heap.upd_ne _ _ y2.2.2.1]; exact y1) (.agg _ _ rfl fun i x y hx hy => ?_) (WeakR.pure ?_ rfl)
            · match i, hx, hy with
              | 0, hx, hy => simp at hx hy; subst hx hy; exact .same _
              | 1, hx, hy => simp at hx hy; subst hx hy; exact y3
            · intro i o ho
              rw [Heap.del_ne _ (fun e => by rw [e, y2.1] at ho; cases ho)]
              exact hsb2 i o ho
  · obtain ⟨j, rfl⟩ : ∃ j, k = j + 1 := ⟨k - 1, by omega⟩
    have hz' : z = (j : Int) := by omega
    subst hz'
    clear hz
    have d2 : decide (1 ≤ j + 1) = true := decide_eq_true (by omega)
    have hj : j < 40 := by omega
    have hwj : IntKind.i64.wrap ((j : Int) + 1) = ((j + 1 : Nat) : Int) := wrap_succ (by omega)
    have hwm : IntKind.i64.wrap ((j : Int) - 1) = (j : Int) - 1 := wrap_i64 (by omega) (by omega)
    have hw40 : IntKind.i64.wrap (40 + (j : Int)) = ((40 + j : Nat) : Int) := by rw [wrap_i64 (by omega) (by omega)]; omega
    have hix1 : indexPtrA 80 1 false (j : Int) (.optr q1 80 0 0) = some (.optr q1 80 0 j) := by
      rw [ixp_optr, if_pos (by omega)]
      simp
    have hix2 : indexPtrA 80 1 false ((40 + j : Nat) : Int) (.optr q1 80 0 0) = some (.optr q1 80 0 (40 + j)) := by
      rw [ixp_optr, if_pos (by omega)]
      simp
      omega
    have g1 := tabA_get T j (by omega)
    have g2 := tabA_get T (40 + j) (by omega)
    have t1 := (frA_L 2 (T[j].map Id.av)).len
    have t2 := (frA_L 2 (T[40 + j].map Id.av)).len
    rw [List.length_map] at t1 t2
    have hgF : T.getD j [] = T[j] := by rw [List.getD_eq_getElem?_getD, List.getElem?_eq_getElem (by omega)]; rfl
    have hgB : T.getD (40 + j) [] = T[40 + j] := by rw [List.getD_eq_getElem?_getD, List.getElem?_eq_getElem (by omega)]; rfl
    replace hgF := (show Aside _ from hgF)
    replace hgB := (show Aside _ from hgB)
    have hc1 : j + 1 ≤ 80 := by omega
    have hc2 : 40 + j + 1 ≤ 80 := by omega
    have p1 : decide (((nAt (trF T) (j + 1) : Nat) : Int) = 0) = decide (nAt (trF T) (j + 1) = 0) := decide_eq_decide.2 (by omega)
    have p2 : decide (((nAt (trB T) (j + 1) : Nat) : Int) = 0) = decide (nAt (trB T) (j + 1) = 0) := decide_eq_decide.2 (by omega)
    have p3 : decide ((0 : Int) < (T[j].length : Int)) = decide (0 < T[j].length) := decide_eq_decide.2 (by omega)
    have p4 : decide ((0 : Int) < (T[40 + j].length : Int)) = decide (0 < T[40 + j].length) := decide_eq_decide.2 (by omega)
    replace hst := (show Aside _ from hst)
    have hex : decide ((0 : Int) ≤ (j : Int)) = true := decide_eq_true (by omega)
    refine seq_go ?_
    refine seq_go ?_
    (repeat' first
    | simp (contextual := true) (maxSteps := 4000000) only [fwc, fwe, fww, reduceIte, ↓reduceIte, Nat.reduceAdd, Nat.reduceLeDiff, Nat.reduceEqDiff, Nat.reduceLT, Nat.reduceSub, reduceCtorEq, Int.reduceEq, Int.reduceLT, Int.reduceLE, Int.reduceNeg, Int.reduceToNat, Int.reduceAdd, Int.reduceSub, Nat.reduceMul, part_cell, *]
    | (refine retK_now ?_)
    | (refine retK_now' ?_)
    | (intro q hq)
    | (refine cond_intro (fun hc => ?_) (fun hc => ?_)))
    refine seqK_now ?_
    (repeat' first
    | simp (contextual := true) (maxSteps := 4000000) only [fwc, fwe, fww, reduceIte, ↓reduceIte, Nat.reduceAdd, Nat.reduceLeDiff, Nat.reduceEqDiff, Nat.reduceLT, Nat.reduceSub, reduceCtorEq, Int.reduceEq, Int.reduceLT, Int.reduceLE, Int.reduceNeg, Int.reduceToNat, Int.reduceAdd, Int.reduceSub, Nat.reduceMul, part_cell, *]
    | (refine retK_now ?_)
    | (refine retK_now' ?_)
    | (intro q hq)
    | (refine cond_intro (fun hc => ?_) (fun hc => ?_)))
    refine seqK_now ?_
    refine seq_go ?_
    simp only [cmd_block]
    refine seq_post (fun e1 O1 => (∃ fr', St10 O O1 q1 q2 q3 T fr' bk (nAt (trF T) j) (nAt (trB T) (j + 1)) (List.replicate (nAt (trF T) j) nilS) (List.replicate (nAt (trB T) (j + 1)) nilS)) ∧ e1 = env10 q1 q2 q3 j) ?_ ?_
    · clear hst hh1 hh2 hh3 hsub l1 l2 l3 l4 l5 l6
      intro e1 O1 hQ
      obtain ⟨⟨fr', hst⟩, rfl⟩ := hQ
      obtain ⟨l1, l2, l3⟩ := hst.f.len
      obtain ⟨l4, l5, l6⟩ := hst.b.len
      have hh1 := hst.h1
      have hh2 := hst.h2
      have hh3 := hst.h3
      have hsub := hst.sub
      replace hst := (show Aside _ from hst)
      unfold env10
      by_cases hmk : (decide (nAt (trB T) (j + 1) = 0) && decide (0 < T[40 + j].length)) = true
      · have hn := nAt_make (fun h => by have := trB_hi h hj; rwa [hgB.out] at this) hmk
        (repeat' first
    | simp (contextual := true) (maxSteps := 4000000) only [fwc, fwe, fww, reduceIte, ↓reduceIte, Nat.reduceAdd, Nat.reduceLeDiff, Nat.reduceEqDiff, Nat.reduceLT, Nat.reduceSub, reduceCtorEq, Int.reduceEq, Int.reduceLT, Int.reduceLE, Int.reduceNeg, Int.reduceToNat, Int.reduceAdd, Int.reduceSub, Nat.reduceMul, part_cell, *]
    | (refine seqK_now ?_)
    | (refine retK_now ?_)
    | (refine retK_now' ?_)
    | (intro q hq)
    | (refine cond_intro (fun hc => ?_) (fun hc => ?_)))
        refine make_own (j + 1) (j + 1) rfl rfl (Nat.le_refl _) (by omega) (by omega) fun id hid => ?_
        have x1 : ¬ id = q1 := fun e => by rw [e, hh1] at hid; cases hid
        have x2 : ¬ id = q2 := fun e => by rw [e, hh2] at hid; cases hid
        have x3 : ¬ id = q3 := fun e => by rw [e, hh3] at hid; cases hid
        have x4 : ¬ q1 = id := fun e => x1 e.symm
        have x5 : ¬ q2 = id := fun e => x2 e.symm
        have x6 : ¬ q3 = id := fun e => x3 e.symm
        have x7 : O id = none := by
          cases ho : O id with
          | none => rfl
          | some o => rw [hsub _ _ ho] at hid; cases hid
        replace hsub := (show Aside _ from hsub)
        replace hn := (show Aside _ from hn)
        (repeat' first
    | simp (contextual := true) (maxSteps := 4000000) only [fwc, fwe, fww, reduceIte, ↓reduceIte, Nat.reduceAdd, Nat.reduceLeDiff, Nat.reduceEqDiff, Nat.reduceLT, Nat.reduceSub, reduceCtorEq, Int.reduceEq, Int.reduceLT, Int.reduceLE, Int.reduceNeg, Int.reduceToNat, Int.reduceAdd, Int.reduceSub, Nat.reduceMul, *]
    | (refine seqK_now ?_)
    | (refine retK_now ?_)
    | (refine retK_now' ?_)
    | (intro q hq)
    | (refine cond_intro (fun hc => ?_) (fun hc => ?_)))
        refine loopK_now j (by omega) ?_
        rw [hI.out]
        refine ⟨j, _, fr', .own id 1 0 (j + 1) (some (j + 1)), by omega, rfl, rfl, ⟨?_, ?_, ?_, ?_, ?_, ?_, ?_⟩, ?_⟩
        · simp only [Heap.upd_apply, *, if_false]
        · simp only [Heap.upd_apply, *, if_false]
        · simp only [Heap.upd_apply, *, if_true]
        · intro i o ho
          rw [Heap.upd_ne _ _ (fun e => by rw [e, hO3] at ho; cases ho), Heap.upd_ne _ _ (fun e => by rw [e, x7] at ho; cases ho)]
          exact hsub.out i o ho
        · refine hst.out.f.mono fun i _ _ _ _ h h' => ?_
          rw [Heap.upd_ne _ _ h.2.2.2, Heap.upd_ne _ _ (fun e => h' (by rw [e]; exact hid))]
        · rw [hn.out]
          refine .inr ⟨by omega, id, rfl, ⟨x7, x1, x2, x3⟩, ?_, by simp⟩
          rw [Heap.upd_ne _ _ x3, Heap.upd_same]
          rfl
        · intro i a b c a' b' c' e1 e2
          cases e2
          exact hst.out.f.at_ e1 hid
        · simp (contextual := true) (maxSteps := 4000000) only [fwc, fwe, fww, reduceIte, ↓reduceIte, Nat.reduceAdd, Nat.reduceLeDiff, Nat.reduceEqDiff, Nat.reduceLT, Nat.reduceSub, reduceCtorEq, Int.reduceEq, Int.reduceLT, Int.reduceLE, Int.reduceNeg, Int.reduceToNat, Int.reduceAdd, Int.reduceSub, Nat.reduceMul, env10, *]
      · have hn := nAt_keep (fun h => by have := trB_lo (T := T) (by omega); rwa [show trB T - 1 = j by omega, hgB.out] at this) hmk
        replace hn := (show Aside _ from hn)
        have hmk' : (decide (nAt (trB T) (j + 1) = 0) && decide (0 < T[40 + j].length)) = false := by simpa using hmk
        clear hmk
        (repeat' first
    | simp (contextual := true) (maxSteps := 4000000) only [fwc, fwe, fww, reduceIte, ↓reduceIte, Nat.reduceAdd, Nat.reduceLeDiff, Nat.reduceEqDiff, Nat.reduceLT, Nat.reduceSub, reduceCtorEq, Int.reduceEq, Int.reduceLT, Int.reduceLE, Int.reduceNeg, Int.reduceToNat, Int.reduceAdd, Int.reduceSub, Nat.reduceMul, part_cell, *]
    | (refine seqK_now ?_)
    | (refine retK_now ?_)
    | (refine retK_now' ?_)
    | (intro q hq)
    | (refine cond_intro (fun hc => ?_) (fun hc => ?_)))
        refine loopK_now j (by omega) ?_
        rw [hI.out]
        refine ⟨j, _, fr', bk, by omega, rfl, rfl, ?_, ?_⟩
        · rw [hn.out]; exact hst.out
        · simp (contextual := true) (maxSteps := 4000000) only [fwc, fwe, fww, reduceIte, ↓reduceIte, Nat.reduceAdd, Nat.reduceLeDiff, Nat.reduceEqDiff, Nat.reduceLT, Nat.reduceSub, reduceCtorEq, Int.reduceEq, Int.reduceLT, Int.reduceLE, Int.reduceNeg, Int.reduceToNat, Int.reduceAdd, Int.reduceSub, Nat.reduceMul, env10, *]
    · intro F hQ
      replace hQ := (show Aside _ from hQ)
      by_cases hmk : (decide (nAt (trF T) (j + 1) = 0) && decide (0 < T[j].length)) = true
      · have hn := nAt_make (fun h => by have := trF_hi h hj; rwa [hgF.out] at this) hmk
        (repeat' first
    | simp (contextual := true) (maxSteps := 4000000) only [fwc, fwe, fww, reduceIte, ↓reduceIte, Nat.reduceAdd, Nat.reduceLeDiff, Nat.reduceEqDiff, Nat.reduceLT, Nat.reduceSub, reduceCtorEq, Int.reduceEq, Int.reduceLT, Int.reduceLE, Int.reduceNeg, Int.reduceToNat, Int.reduceAdd, Int.reduceSub, Nat.reduceMul, part_cell, *]
    | (refine seqK_now ?_)
    | (refine retK_now ?_)
    | (refine retK_now' ?_)
    | (intro q hq)
    | (refine cond_intro (fun hc => ?_) (fun hc => ?_)))
        refine make_own (j + 1) (j + 1) rfl rfl (Nat.le_refl _) (by omega) (by omega) fun id hid => ?_
        have x1 : ¬ id = q1 := fun e => by rw [e, hh1] at hid; cases hid
        have x2 : ¬ id = q2 := fun e => by rw [e, hh2] at hid; cases hid
        have x3 : ¬ id = q3 := fun e => by rw [e, hh3] at hid; cases hid
        have x4 : ¬ q1 = id := fun e => x1 e.symm
        have x5 : ¬ q2 = id := fun e => x2 e.symm
        have x6 : ¬ q3 = id := fun e => x3 e.symm
        have x7 : O id = none := by
          cases ho : O id with
          | none => rfl
          | some o => rw [hsub _ _ ho] at hid; cases hid
        replace hsub := (show Aside _ from hsub)
        replace hn := (show Aside _ from hn)
        (repeat' first
    | simp (contextual := true) (maxSteps := 4000000) only [fwc, fwe, fww, reduceIte, ↓reduceIte, Nat.reduceAdd, Nat.reduceLeDiff, Nat.reduceEqDiff, Nat.reduceLT, Nat.reduceSub, reduceCtorEq, Int.reduceEq, Int.reduceLT, Int.reduceLE, Int.reduceNeg, Int.reduceToNat, Int.reduceAdd, Int.reduceSub, Nat.reduceMul, *]
    | (refine seqK_now ?_)
    | (refine retK_now ?_)
    | (refine retK_now' ?_)
    | (intro q hq)
    | (refine cond_intro (fun hc => ?_) (fun hc => ?_)))
        refine hQ.out _ _ ⟨⟨.own id 1 0 (j + 1) (some (j + 1)), ?_, ?_, ?_, ?_, ?_, ?_, ?_⟩, ?_⟩
        · simp only [Heap.upd_apply, *, if_false]
        · simp only [Heap.upd_apply, *, if_false]
        · simp only [Heap.upd_apply, *, if_true]
        · intro i o ho
          rw [Heap.upd_ne _ _ (fun e => by rw [e, hO3] at ho; cases ho), Heap.upd_ne _ _ (fun e => by rw [e, x7] at ho; cases ho)]
          exact hsub.out i o ho
        · rw [hn.out]
          refine .inr ⟨by omega, id, rfl, ⟨x7, x1, x2, x3⟩, ?_, by simp⟩
          rw [Heap.upd_ne _ _ x3, Heap.upd_same]
          rfl
        · refine hst.out.b.mono fun i _ _ _ _ h h' => ?_
          rw [Heap.upd_ne _ _ h.2.2.2, Heap.upd_ne _ _ (fun e => h' (by rw [e]; exact hid))]
        · intro i a b c a' b' c' e1 e2
          cases e1
          exact hst.out.b.at_ e2 hid
        · simp (contextual := true) (maxSteps := 4000000) only [fwc, fwe, fww, reduceIte, ↓reduceIte, Nat.reduceAdd, Nat.reduceLeDiff, Nat.reduceEqDiff, Nat.reduceLT, Nat.reduceSub, reduceCtorEq, Int.reduceEq, Int.reduceLT, Int.reduceLE, Int.reduceNeg, Int.reduceToNat, Int.reduceAdd, Int.reduceSub, Nat.reduceMul, env10, *]
      · have hn := nAt_keep (fun h => by have := trF_lo (T := T) (by omega); rwa [show trF T - 1 = j by omega, hgF.out] at this) hmk
        replace hn := (show Aside _ from hn)
        have hmk' : (decide (nAt (trF T) (j + 1) = 0) && decide (0 < T[j].length)) = false := by simpa using hmk
        clear hmk
        (repeat' first
    | simp (contextual := true) (maxSteps := 4000000) only [fwc, fwe, fww, reduceIte, ↓reduceIte, Nat.reduceAdd, Nat.reduceLeDiff, Nat.reduceEqDiff, Nat.reduceLT, Nat.reduceSub, reduceCtorEq, Int.reduceEq, Int.reduceLT, Int.reduceLE, Int.reduceNeg, Int.reduceToNat, Int.reduceAdd, Int.reduceSub, Nat.reduceMul, part_cell, *]
    | (refine seqK_now ?_)
    | (refine retK_now ?_)
    | (refine retK_now' ?_)
    | (intro q hq)
    | (refine cond_intro (fun hc => ?_) (fun hc => ?_)))
        refine hQ.out _ _ ⟨⟨fr, ?_⟩, ?_⟩
        · rw [hn.out]; exact hst.out
        · simp (contextual := true) (maxSteps := 4000000) only [fwc, fwe, fww, reduceIte, ↓reduceIte, Nat.reduceAdd, Nat.reduceLeDiff, Nat.reduceEqDiff, Nat.reduceLT, Nat.reduceSub, reduceCtorEq, Int.reduceEq, Int.reduceLT, Int.reduceLE, Int.reduceNeg, Int.reduceToNat, Int.reduceAdd, Int.reduceSub, Nat.reduceMul, env10, *]
end Go.Proofs.Ytlpngkeegjickaa
