/- The law OrdersStep of the given program: for every input the call returns true, and its arguments read as before. Here: contracts of functions, and the law. -/
import Derived.Test.YtembkknplmcamaaLawOrdersStepP2
import Derived.Test.YtembkknplmcamaaLawOrdersStepP1
import Derived.Test.YtembkknplmcamaaFc
import Derived.Test.YtembkknplmcamaaRows
set_option linter.unusedSimpArgs false
set_option linter.unusedVariables false
namespace Go.Proofs.Ytembkknplmcamaa
open Go.Ab

/-! The order of the loops as a row of blocks: back, front, back, front. No program. -/
def pr (h : Hd) : Id × Int := (h.id, h.bed)
def Bk (B : List (List Id)) (j : Int) : List Id := if 1 ≤ j ∧ j ≤ 40 then B.getD (j - 1).toNat [] else []
theorem Bk_in (B : List (List Id)) {j : Int} (h : 1 ≤ j ∧ j ≤ 40) : Bk B j = B.getD (j - 1).toNat [] := if_pos h
theorem Bk_out (B : List (List Id)) {j : Int} (h : ¬ (1 ≤ j ∧ j ≤ 40)) : Bk B j = [] := if_neg h
def tg (b : Int) (l : List Id) : List (Id × Int) := l.map fun p => (p, b)
theorem fm_nil {β : Type} (f : Nat → List β) : ∀ n, (∀ i, i < n → f i = []) → (List.range n).flatMap f = []
  | 0, _ => rfl
  | n + 1, h => by rw [List.range_succ, List.flatMap_append, fm_nil f n (fun i hi => h i (by omega))]; simp [h n (by omega)]
theorem fm_one {β : Type} (f : Nat → List β) (i0 : Nat) : ∀ n, i0 < n → (∀ i, i < n → i ≠ i0 → f i = []) → (List.range n).flatMap f = f i0
  | 0, h, _ => by omega
  | n + 1, h0, h => by
    rw [List.range_succ, List.flatMap_append]
    by_cases e : i0 = n
    · rw [fm_nil f n (fun i hi => h i (by omega) (by omega)), e]; simp
    · rw [fm_one f i0 n (by omega) (fun i hi => h i (by omega))]; simp [h n (by omega) (by omega)]
theorem fm_two {β : Type} (f : Nat → List β) : ∀ n, (List.range (2 * n)).flatMap f = (List.range n).flatMap fun u => f (2 * u) ++ f (2 * u + 1)
  | 0 => rfl
  | n + 1 => by
    rw [show 2 * (n + 1) = 2 * n + 1 + 1 by omega, List.range_succ, List.range_succ, List.flatMap_append, List.flatMap_append, fm_two f n, List.range_succ, List.flatMap_append]
    simp
theorem fm_shift {β : Type} (b f : Nat → List β) : ∀ n, ((List.range n).flatMap fun u => b u ++ f u) ++ b n = b 0 ++ (List.range n).flatMap fun u => f u ++ b (u + 1)
  | 0 => by simp
  | n + 1 => by
    have ih := fm_shift b f n
    rw [List.range_succ, List.flatMap_append, List.flatMap_append, ← List.append_assoc (b 0), ← ih]
    simp
theorem spot0 (n r : Int) : spotL ⟨0, n⟩ r = 4 * n + 2 := by unfold spotL; rw [if_neg (by simp)]
theorem spot1 (n r : Int) : spotL ⟨1, n⟩ r = 4 * (n + r) := by unfold spotL; rw [if_pos rfl]
theorem needle_at {i : Nat} (hi : i < 80) : (i < 40 ∧ needleL i = ⟨0, (i : Int) + 1⟩) ∨ (40 ≤ i ∧ needleL i = ⟨1, (i : Int) - 39⟩) := by
  by_cases h : i < 40
  · refine .inl ⟨h, ?_⟩
    rw [needle_lo' h]
    rfl
  · have := needle_hi' (i := i - 40) (by omega)
    rw [show 40 + (i - 40) = i by omega] at this
    refine .inr ⟨by omega, ?_⟩
    rw [this]
    congr 1
    omega
theorem lisN_back (F B : List (List Id)) (r k : Int) : (lisN F B r (4 * k) 80).map pr = tg 1 (Bk B (k - r)) := by
  unfold lisN
  have hoff : ∀ i : Nat, i < 80 → ¬ ((40 : Int) + (k - r - 1) = (i : Int) ∧ 1 ≤ k - r ∧ k - r ≤ 40) → lis1 F B r (4 * k) i = [] := fun i hi h => by
    unfold lis1
    rw [if_neg]
    intro e
    rcases needle_at hi with ⟨h1, h2⟩ | ⟨h1, h2⟩
    · rw [h2, spot0] at e; omega
    · rw [h2, spot1] at e; exact h ⟨by omega, by omega⟩
  by_cases hk : 1 ≤ k - r ∧ k - r ≤ 40
  · rw [fm_one _ (40 + (k - r - 1).toNat) 80 (by omega) (fun i hi hne => hoff i hi (by omega)), Bk_in B hk]
    have ha := at_needle F B (40 + (k - r - 1).toNat) (by omega)
    rw [if_neg (by omega), show 40 + (k - r - 1).toNat - 40 = (k - r - 1).toNat by omega] at ha
    unfold lis1 tg
    rw [ha, needle_hi' (by omega), spot1, if_pos (by omega), List.map_map]
    rfl
  · rw [fm_nil _ 80 (fun i hi => hoff i hi (by omega)), Bk_out B hk]
    rfl
theorem lisN_front (F B : List (List Id)) (r k : Int) : (lisN F B r (4 * k + 2) 80).map pr = tg 0 (Bk F k) := by
  unfold lisN
  have hoff : ∀ i : Nat, i < 80 → ¬ (k - 1 = (i : Int) ∧ 1 ≤ k ∧ k ≤ 40) → lis1 F B r (4 * k + 2) i = [] := fun i hi h => by
    unfold lis1
    rw [if_neg]
    intro e
    rcases needle_at hi with ⟨h1, h2⟩ | ⟨h1, h2⟩
    · rw [h2, spot0] at e; exact h ⟨by omega, by omega⟩
    · rw [h2, spot1] at e; omega
  by_cases hk : 1 ≤ k ∧ k ≤ 40
  · rw [fm_one _ (k - 1).toNat 80 (by omega) (fun i hi hne => hoff i hi (by omega)), Bk_in F hk]
    have ha := at_needle F B (k - 1).toNat (by omega)
    rw [if_pos (by omega)] at ha
    unfold lis1 tg
    rw [ha, needle_lo' (by omega), spot0, if_pos (by omega), List.map_map]
    rfl
  · rw [fm_nil _ 80 (fun i hi => hoff i hi (by omega)), Bk_out F hk]
    rfl
/-- The row: for each u the back loops at 4(u - 3), then the front loops of needle u - 3. -/
def row (F B : List (List Id)) (r : Int) : List (Id × Int) := (List.range 48).flatMap fun u : Nat => tg 1 (Bk B ((u : Int) - 3 - r)) ++ tg 0 (Bk F ((u : Int) - 3))
theorem lis_row (F B : List (List Id)) (r : Int) (hr : -4 ≤ r ∧ r ≤ 4) : (lisA F B r 95).map pr = row F B r := by
  have h96 : lisA F B r 96 = lisA F B r 95 := by
    have h0 : (lisN F B r (-12 + 2 * ((95 : Nat) : Int)) 80).map pr = [] := by
      rw [show -12 + 2 * ((95 : Nat) : Int) = 4 * 44 + 2 by omega, lisN_front, Bk_out F (by omega)]
      rfl
    rw [show (96 : Nat) = 95 + 1 from rfl, lisA_succ, List.map_eq_nil_iff.1 h0, List.append_nil]
  rw [← h96]
  unfold lisA row
  rw [show (96 : Nat) = 2 * 48 from rfl, fm_two, List.map_flatMap]
  refine fm_congr fun u _ => ?_
  rw [List.map_append, show -12 + 2 * ((2 * u : Nat) : Int) = 4 * ((u : Int) - 3) by omega, show -12 + 2 * ((2 * u + 1 : Nat) : Int) = 4 * ((u : Int) - 3) + 2 by omega, lisN_back, lisN_front]
/-- The row behind a step to the right, told with the blocks of the rack before it. -/
theorem row_next (F B : List (List Id)) (r : Int) (hr : -4 ≤ r ∧ r ≤ 3) : row F B (r + 1) = (List.range 48).flatMap fun u : Nat => tg 0 (Bk F ((u : Int) - 3)) ++ tg 1 (Bk B ((u : Int) - 3 - r)) := by
  have h := fm_shift (fun u : Nat => tg 1 (Bk B ((u : Int) - 3 - (r + 1)))) (fun u : Nat => tg 0 (Bk F ((u : Int) - 3))) 48
  rw [show tg 1 (Bk B (((48 : Nat) : Int) - 3 - (r + 1))) = [] from by rw [Bk_out B (by omega)]; rfl, List.append_nil, show tg 1 (Bk B (((0 : Nat) : Int) - 3 - (r + 1))) = [] from by rw [Bk_out B (by omega)]; rfl, List.nil_append] at h
  unfold row
  rw [h]
  refine fm_congr fun u _ => ?_
  rw [show ((u + 1 : Nat) : Int) - 3 - (r + 1) = (u : Int) - 3 - r by omega]

/-! No loop twice. -/
theorem flt_perm {P Q : Hd → Bool} (h : ∀ x, ¬ (P x = true ∧ Q x = true)) : ∀ L : List Hd, (L.filter P ++ L.filter Q).Perm (L.filter fun x => P x || Q x)
  | [] => .refl _
  | x :: L => by
    have ih := flt_perm h L
    simp only [List.filter_cons]
    cases hp : P x <;> cases hq : Q x
    · simpa using ih
    · simp only [Bool.false_eq_true, if_false, if_true, Bool.or_true]
      exact List.perm_middle.trans (ih.cons x)
    · simp only [Bool.false_eq_true, if_false, if_true, Bool.or_false, List.cons_append]
      exact ih.cons x
    · exact (h x ⟨hp, hq⟩).elim
theorem by_perm (L : List Hd) : ∀ n, ((List.range n).flatMap fun i : Nat => L.filter fun x => decide (x.spot = -12 + 2 * (i : Int))).Perm (L.filter fun x => (List.range n).any fun i : Nat => decide (x.spot = -12 + 2 * (i : Int)))
  | 0 => by simp
  | n + 1 => by
    have ih := by_perm L n
    rw [List.range_succ, List.flatMap_append]
    simp only [List.flatMap_cons, List.flatMap_nil, List.append_nil]
    refine (ih.append_right _).trans ?_
    refine (flt_perm (fun x hx => ?_) L).trans (.of_eq (List.filter_congr fun x _ => ?_))
    · obtain ⟨h1, h2⟩ := hx
      obtain ⟨i, hi, e⟩ := List.any_eq_true.1 h1
      have := List.mem_range.1 hi
      simp only [decide_eq_true_eq] at e h2
      omega
    · simp
theorem bySpot_perm {L : List Hd} (h : ∀ x ∈ L, ∃ i : Nat, i < 95 ∧ x.spot = -12 + 2 * (i : Int)) : (bySpot L).Perm L := by
  refine (by_perm L 95).trans (.of_eq (List.filter_eq_self.2 fun x hx => ?_))
  obtain ⟨i, hi, e⟩ := h x hx
  exact List.any_eq_true.2 ⟨i, List.mem_range.2 hi, decide_eq_true e⟩
theorem heldN_ids (bd r : Int) (G : List (List Id)) : (heldN bd r G G.length).map (·.id) = G.flatten := by
  have : ∀ n, n ≤ G.length → (heldN bd r G n).map (·.id) = (G.take n).flatten := fun n => by
    induction n with
    | zero => intro _; simp [heldN]
    | succ n ih =>
      intro hn
      rw [heldN_succ, List.map_append, ih (by omega), List.take_succ_eq_append_getElem (by omega), List.flatten_append, List.getD_eq_getElem?_getD, List.getElem?_eq_getElem (by omega)]
      simp [held1, Function.comp_def]
  have h := this G.length (Nat.le_refl _)
  rwa [List.take_length] at h
theorem row_nodup {F B : List (List Id)} (hF : F.length ≤ 40) (hB : B.length ≤ 40) (hn : (namesL F B).Nodup) {r : Int} (hr : rackOK r = true) : ((row F B r).map (·.1)).Nodup := by
  have hrr : -4 ≤ r ∧ r ≤ 4 := by unfold rackOK at hr; simpa using hr
  rw [← lis_row F B r hrr, ← list_listed hF hB r, List.map_map]
  have hp := (bySpot_perm (heldT_spot hF hB hr)).map (·.id)
  refine (hp.nodup_iff).2 ?_
  show ((heldN 0 r F F.length ++ heldN 1 r B B.length).map (·.id)).Nodup
  rw [List.map_append, heldN_ids, heldN_ids]
  unfold namesL visL at hn
  rwa [List.take_of_length_le hF, List.take_of_length_le hB, List.flatten_append] at hn
end Go.Proofs.Ytembkknplmcamaa

namespace Go.Proofs.Ytembkknplmcamaa
open Go.Ab

/-! The crossings of a step, one after the other, lead from the row before to the row behind. No program. -/
def Chn (p q : Int) : List Cr → List (Id × Int) → List (Id × Int) → Prop
  | [], L, L' => L = L'
  | c :: C, L, L' => ∃ X Y, L = X ++ (c.a, p) :: (c.b, q) :: Y ∧ Chn p q C (X ++ (c.b, q) :: (c.a, p) :: Y) L'
theorem Chn.app {p q : Int} : ∀ (C1 C2 : List Cr) (L M N : List (Id × Int)), Chn p q C1 L M → Chn p q C2 M N → Chn p q (C1 ++ C2) L N
  | [], _, _, _, _, h1, h2 => by cases h1; exact h2
  | c :: C1, C2, L, M, N, h1, h2 => by
    obtain ⟨X, Y, e, h⟩ := h1
    exact ⟨X, Y, e, Chn.app C1 C2 _ M N h h2⟩
theorem Chn.rev {p q : Int} : ∀ (C : List Cr) (L M : List (Id × Int)), Chn p q C L M → Chn q p (C.map sw).reverse M L
  | [], _, _, h => h.symm
  | c :: C, L, M, h => by
    obtain ⟨X, Y, e, h⟩ := h
    rw [List.map_cons, List.reverse_cons]
    exact Chn.app _ _ _ _ _ (Chn.rev C _ _ h) ⟨X, Y, rfl, e.symm⟩
theorem chn_one (x : Id) : ∀ (ys : List Id) (X Y : List (Id × Int)), Chn 1 0 (ys.map (crs 1 x)) (X ++ (x, 1) :: (tg 0 ys ++ Y)) (X ++ (tg 0 ys ++ (x, 1) :: Y))
  | [], _, _ => rfl
  | y :: ys, X, Y => ⟨X, tg 0 ys ++ Y, rfl, by
    have := chn_one x ys (X ++ [(y, 0)]) Y
    rw [List.append_assoc, List.append_assoc] at this
    exact this⟩
theorem chn_block : ∀ (xs ys : List Id) (X Y : List (Id × Int)), Chn 1 0 (crossL 1 xs ys) (X ++ (tg 1 xs.reverse ++ (tg 0 ys ++ Y))) (X ++ (tg 0 ys ++ (tg 1 xs.reverse ++ Y)))
  | [], _, _, _ => rfl
  | x :: xs, ys, X, Y => by
    have h1 := chn_one x ys (X ++ tg 1 xs.reverse) Y
    have h2 := chn_block xs ys X ((x, 1) :: Y)
    rw [List.append_assoc, List.append_assoc] at h1
    have e : ∀ Z : List (Id × Int), tg 1 (x :: xs).reverse ++ Z = tg 1 xs.reverse ++ (x, 1) :: Z := fun Z => by
      unfold tg
      rw [List.reverse_cons, List.map_append, List.append_assoc]
      rfl
    rw [e, e]
    exact Chn.app _ _ _ _ _ h1 h2
theorem chn_row (b f : Nat → List Id) : ∀ (n : Nat) (Y : List (Id × Int)), Chn 1 0 ((List.range n).reverse.flatMap fun u => crossL 1 (b u).reverse (f u)) (((List.range n).flatMap fun u => tg 1 (b u) ++ tg 0 (f u)) ++ Y) (((List.range n).flatMap fun u => tg 0 (f u) ++ tg 1 (b u)) ++ Y)
  | 0, _ => rfl
  | n + 1, Y => by
    have h1 := chn_block (b n).reverse (f n) ((List.range n).flatMap fun u => tg 1 (b u) ++ tg 0 (f u)) Y
    have h2 := chn_row b f n (tg 0 (f n) ++ (tg 1 (b n) ++ Y))
    rw [List.reverse_reverse] at h1
    rw [List.range_succ, List.flatMap_append, List.flatMap_append, List.reverse_append, List.flatMap_append]
    simp only [List.flatMap_cons, List.flatMap_nil, List.append_nil, List.reverse_cons, List.reverse_nil, List.nil_append, List.append_assoc] at h1 h2 ⊢
    exact Chn.app _ _ _ _ _ h1 h2
theorem at_back (F B : List (List Id)) {j : Int} (h : 1 ≤ j ∧ j ≤ 40) : atL F B ⟨1, j⟩ = Bk B j := by
  unfold atL
  rw [if_neg (by unfold Ndl.bad; simp; omega), if_pos rfl, Bk_in B h]
theorem at_fr (F B : List (List Id)) {j : Int} (h : 1 ≤ j ∧ j ≤ 40) : atL F B ⟨0, j⟩ = Bk F j := by
  unfold atL
  rw [if_neg (by unfold Ndl.bad; simp; omega), if_neg (by simp), Bk_in F h]
theorem cross_nil (d : Int) (xs : List Id) : crossL d xs [] = [] := by
  unfold crossL
  induction xs with
  | nil => rfl
  | cons x xs ih => rw [List.flatMap_cons, ih]; rfl
theorem step_at (F B : List (List Id)) {r : Int} (hr : rackOK r = true) (i : Nat) (hi : i < 40) : stepAt F B r 1 i = crossL 1 (Bk B (40 - (i : Int))).reverse (Bk F (40 - (i : Int) + r)) := by
  have n1 : stepN 1 i = ⟨1, 40 - (i : Int)⟩ := rfl
  have a1 : stepA r 1 i = 4 * (40 - (i : Int) + r) + 2 := by unfold stepA spotL; rw [n1, if_pos rfl]; rfl
  unfold stepAt
  rw [a1, n1]
  obtain ⟨h1, h2⟩ := at_front (k := 40 - (i : Int) + r) hr
  by_cases hk : 1 ≤ 40 - (i : Int) + r ∧ 40 - (i : Int) + r ≤ 40
  · obtain ⟨e1, w1⟩ := h1 hk
    rw [if_pos e1, w1, at_back F B (by omega), at_fr F B hk]
    rfl
  · rw [if_neg (h2 hk), Bk_out F hk, cross_nil]
theorem rng_rev (n : Nat) : (List.range n).reverse = (List.range n).map fun i => n - 1 - i := by
  refine List.ext_getElem (by simp) fun i h1 h2 => ?_
  simp
theorem step_rev (F B : List (List Id)) (r : Int) (hr : -4 ≤ r ∧ r ≤ 3) : stepTo F B r 1 40 = (List.range 48).reverse.flatMap fun u : Nat => crossL 1 (Bk B ((u : Int) - 3 - r)).reverse (Bk F ((u : Int) - 3)) := by
  have hro : rackOK r = true := by unfold rackOK; simp only [Bool.and_eq_true, decide_eq_true_eq]; omega
  obtain ⟨t, ht⟩ : ∃ t : Nat, (t : Int) = 4 + r := ⟨(4 + r).toNat, by omega⟩
  rw [show (48 : Nat) = t + (40 + (8 - t)) by omega, List.range_add, List.range_add, List.map_append, List.reverse_append, List.reverse_append, List.flatMap_append, List.flatMap_append]
  have hz : ∀ u : Nat, ¬ (1 ≤ (u : Int) - 3 - r ∧ (u : Int) - 3 - r ≤ 40) → crossL 1 (Bk B ((u : Int) - 3 - r)).reverse (Bk F ((u : Int) - 3)) = [] := fun u h => by rw [Bk_out B h]; rfl
  have z1 : (List.map (t + ·) (List.map (40 + ·) (List.range (8 - t)))).reverse.flatMap (fun u : Nat => crossL 1 (Bk B ((u : Int) - 3 - r)).reverse (Bk F ((u : Int) - 3))) = [] := by
    refine List.flatMap_eq_nil_iff.2 fun u hu => hz u ?_
    simp only [List.mem_reverse, List.mem_map, List.mem_range] at hu
    obtain ⟨v, ⟨w, hw, rfl⟩, rfl⟩ := hu
    omega
  have z2 : (List.range t).reverse.flatMap (fun u : Nat => crossL 1 (Bk B ((u : Int) - 3 - r)).reverse (Bk F ((u : Int) - 3))) = [] := by
    refine List.flatMap_eq_nil_iff.2 fun u hu => hz u ?_
    simp only [List.mem_reverse, List.mem_range] at hu
    omega
  rw [z1, z2, List.nil_append, List.append_nil, ← List.map_reverse, List.flatMap_map, rng_rev, List.flatMap_map]
  unfold stepTo
  refine fm_congr fun i hi => ?_
  have hi' := List.mem_range.1 hi
  rw [step_at F B hro i hi', show ((t + (40 - 1 - i) : Nat) : Int) - 3 - r = 40 - (i : Int) by omega, show ((t + (40 - 1 - i) : Nat) : Int) - 3 = 40 - (i : Int) + r by omega]
theorem step_chain1 (F B : List (List Id)) (r : Int) (hr : -4 ≤ r ∧ r ≤ 3) : Chn 1 0 (stepTo F B r 1 40) (row F B r) (row F B (r + 1)) := by
  have h := chn_row (fun u : Nat => Bk B ((u : Int) - 3 - r)) (fun u : Nat => Bk F ((u : Int) - 3)) 48 []
  rw [List.append_nil, List.append_nil] at h
  rw [step_rev F B r hr, row_next F B r hr]
  exact h
theorem step_chain0 (F B : List (List Id)) (r : Int) (hr : -3 ≤ r ∧ r ≤ 4) : Chn 0 1 (stepTo F B r 0 40) (row F B r) (row F B (r - 1)) := by
  have k1 : rackOK (r - 1) = true := by unfold rackOK; simp only [Bool.and_eq_true, decide_eq_true_eq]; omega
  have k2 : rackOK (r - 1 + 1) = true := by unfold rackOK; simp only [Bool.and_eq_true, decide_eq_true_eq]; omega
  have h := (step_chain1 F B (r - 1) (by omega)).rev
  rw [step_back F B (r - 1) k1 k2, List.reverse_reverse, show r - 1 + 1 = r by omega] at h
  exact h
theorem step_sgn (F B : List (List Id)) (r d : Int) (n : Nat) : ∀ c ∈ stepTo F B r d n, c.s = if d = 1 then -1 else 1 := by
  intro c hc
  obtain ⟨i, _, hi⟩ := List.mem_flatMap.1 hc
  unfold stepAt at hi
  split at hi
  · obtain ⟨x, _, hx⟩ := List.mem_flatMap.1 hi
    obtain ⟨y, _, rfl⟩ := List.mem_map.1 hx
    unfold crs
    split <;> rfl
  · cases hi
theorem Chn.perm {p q : Int} : ∀ (C : List Cr) (L M : List (Id × Int)), Chn p q C L M → M.Perm L
  | [], _, _, h => by cases h; exact .refl _
  | c :: C, L, M, h => by
    obtain ⟨X, Y, e, h⟩ := h
    rw [e]
    exact (Chn.perm C _ _ h).trans ((List.Perm.swap _ _ _).append_left X)
end Go.Proofs.Ytembkknplmcamaa

namespace Go.Proofs.Ytembkknplmcamaa
open Go.Ab
attribute [local irreducible] WeakR WeakE CallA YieldA

/-! The errors of Step and Meets; one crossing in a list of held loops. -/
def stepE (r d : Int) : Int := if rackOK r = true then (if 1 < d then 1 else if rackOK (r + shL d) = true then 0 else 11) else 11
theorem movable_gen {x : AV} {F B : List (List Id)} (h : IsBeds x F B) (hc : checkL F B = 0) (r d : Int) (hd : 0 ≤ d) : PureA Try.prog 26 [x, .val (.int .i64 r), .val (.int .u8 d)] (.val (.int .i64 (stepE r d))) := by
  by_cases h1 : 1 < d
  · have hu := usual_ok h hc r
    obtain ⟨f, b, rfl, c1, c2, s1, s2, _, _⟩ := h.cells
    clear h
    have d0 : decide ((0 : Int) = 0) = true := by decide
    have d11 : decide ((11 : Int) = 0) = false := by decide
    have d1 : decide (1 < d) = true := decide_eq_true h1
    have hm : stepE r d = if rackOK r = true then 1 else 11 := by unfold stepE; rw [if_pos h1]
    rw [hm]
    replace hc := (show Aside _ from hc)
    replace h1 := (show Aside _ from h1)
    replace hm := (show Aside _ from hm)
    intro O
    refine k26.call mix ?_
    unfold c26
    by_cases hb : rackOK r = true
    · rw [if_pos hb] at hu ⊢
      replace hb := (show Aside _ from hb)
      (repeat' first
    | simp (contextual := true) (maxSteps := 4000000) only [fwc, fwe, fww, reduceIte, ↓reduceIte, Nat.reduceAdd, Nat.reduceLeDiff, Nat.reduceEqDiff, Nat.reduceLT, Nat.reduceSub, reduceCtorEq, Int.reduceEq, Int.reduceLT, Int.reduceLE, Int.reduceNeg, Int.reduceToNat, Int.reduceAdd, Int.reduceSub, Nat.reduceMul, part_cell, part_agg, *]
    | (refine seqK_now ?_)
    | (refine retK_now ?_)
    | (refine retK_now' ?_)
    | (intro q hq)
    | (refine cond_intro (fun hc => ?_) (fun hc => ?_)))
      refine hu.use ?_
      (repeat' first
    | simp (contextual := true) (maxSteps := 4000000) only [fwc, fwe, fww, reduceIte, ↓reduceIte, Nat.reduceAdd, Nat.reduceLeDiff, Nat.reduceEqDiff, Nat.reduceLT, Nat.reduceSub, reduceCtorEq, Int.reduceEq, Int.reduceLT, Int.reduceLE, Int.reduceNeg, Int.reduceToNat, Int.reduceAdd, Int.reduceSub, Nat.reduceMul, part_cell, part_agg, *]
    | (refine seqK_now ?_)
    | (refine retK_now ?_)
    | (refine retK_now' ?_)
    | (intro q hq)
    | (refine cond_intro (fun hc => ?_) (fun hc => ?_)))
      refine WeakR.pure (sub_upd hq (Heap.sub_refl _)) ?_
      rfl
    · rw [if_neg hb] at hu ⊢
      replace hb := (show Aside _ from hb)
      (repeat' first
    | simp (contextual := true) (maxSteps := 4000000) only [fwc, fwe, fww, reduceIte, ↓reduceIte, Nat.reduceAdd, Nat.reduceLeDiff, Nat.reduceEqDiff, Nat.reduceLT, Nat.reduceSub, reduceCtorEq, Int.reduceEq, Int.reduceLT, Int.reduceLE, Int.reduceNeg, Int.reduceToNat, Int.reduceAdd, Int.reduceSub, Nat.reduceMul, part_cell, part_agg, *]
    | (refine seqK_now ?_)
    | (refine retK_now ?_)
    | (refine retK_now' ?_)
    | (intro q hq)
    | (refine cond_intro (fun hc => ?_) (fun hc => ?_)))
      refine hu.use ?_
      (repeat' first
    | simp (contextual := true) (maxSteps := 4000000) only [fwc, fwe, fww, reduceIte, ↓reduceIte, Nat.reduceAdd, Nat.reduceLeDiff, Nat.reduceEqDiff, Nat.reduceLT, Nat.reduceSub, reduceCtorEq, Int.reduceEq, Int.reduceLT, Int.reduceLE, Int.reduceNeg, Int.reduceToNat, Int.reduceAdd, Int.reduceSub, Nat.reduceMul, part_cell, part_agg, *]
    | (refine seqK_now ?_)
    | (refine retK_now ?_)
    | (refine retK_now' ?_)
    | (intro q hq)
    | (refine cond_intro (fun hc => ?_) (fun hc => ?_)))
      refine WeakR.pure (sub_upd hq (Heap.sub_refl _)) ?_
      rfl
  · have := movable_ok h hc r d (by omega)
    have e : stepE r d = moveE r d := by unfold stepE moveE; rw [if_neg h1]
    rw [e]
    exact this
theorem StepE_err {x : AV} {F B : List (List Id)} (h : IsBeds x F B) (hc : checkL F B = 0) (r d : Int) (hd : 0 ≤ d) (he : stepE r d ≠ 0) : PureA Try.prog 11 [x, .val (.int .i64 r), .val (.int .u8 d)] (.tup [.val (.slice none 0 0), .val (.int .i64 (stepE r d))]) := by
  have hmo := movable_gen h hc r d hd
  obtain ⟨f, b, rfl, c1, c2, s1, s2, _, _⟩ := h.cells
  clear h
  have d0 : decide (stepE r d = 0) = false := decide_eq_false he
  generalize stepE r d = e at *
  replace hc := (show Aside _ from hc)
  replace hd := (show Aside _ from hd)
  replace he := (show Aside _ from he)
  intro O
  refine k11.call mix ?_
  unfold c11
  (repeat' first
    | simp (contextual := true) (maxSteps := 4000000) only [fwc, fwe, fww, reduceIte, ↓reduceIte, Nat.reduceAdd, Nat.reduceLeDiff, Nat.reduceEqDiff, Nat.reduceLT, Nat.reduceSub, reduceCtorEq, Int.reduceEq, Int.reduceLT, Int.reduceLE, Int.reduceNeg, Int.reduceToNat, Int.reduceAdd, Int.reduceSub, Nat.reduceMul, part_cell, part_agg, *]
    | (refine retK_now ?_)
    | (refine retK_now' ?_)
    | (intro q hq)
    | (refine cond_intro (fun hc => ?_) (fun hc => ?_)))
  revert q
  intro q3 hq3
  refine seqK_now ?_
  (repeat' first
    | simp (contextual := true) (maxSteps := 4000000) only [fwc, fwe, fww, reduceIte, ↓reduceIte, Nat.reduceAdd, Nat.reduceLeDiff, Nat.reduceEqDiff, Nat.reduceLT, Nat.reduceSub, reduceCtorEq, Int.reduceEq, Int.reduceLT, Int.reduceLE, Int.reduceNeg, Int.reduceToNat, Int.reduceAdd, Int.reduceSub, Nat.reduceMul, part_cell, part_agg, *]
    | (refine retK_now ?_)
    | (refine retK_now' ?_)
    | (intro q hq)
    | (refine cond_intro (fun hc => ?_) (fun hc => ?_)))
  refine hmo.use ?_
  clear hmo
  (repeat' first
    | simp (contextual := true) (maxSteps := 4000000) only [fwc, fwe, fww, reduceIte, ↓reduceIte, Nat.reduceAdd, Nat.reduceLeDiff, Nat.reduceEqDiff, Nat.reduceLT, Nat.reduceSub, reduceCtorEq, Int.reduceEq, Int.reduceLT, Int.reduceLE, Int.reduceNeg, Int.reduceToNat, Int.reduceAdd, Int.reduceSub, Nat.reduceMul, part_cell, part_agg, *]
    | (refine retK_now ?_)
    | (refine retK_now' ?_)
    | (intro q hq)
    | (refine cond_intro (fun hc => ?_) (fun hc => ?_)))
  refine seqK_now ?_
  (repeat' first
    | simp (contextual := true) (maxSteps := 4000000) only [fwc, fwe, fww, reduceIte, ↓reduceIte, Nat.reduceAdd, Nat.reduceLeDiff, Nat.reduceEqDiff, Nat.reduceLT, Nat.reduceSub, reduceCtorEq, Int.reduceEq, Int.reduceLT, Int.reduceLE, Int.reduceNeg, Int.reduceToNat, Int.reduceAdd, Int.reduceSub, Nat.reduceMul, part_cell, part_agg, *]
    | (refine seqK_now ?_)
    | (refine retK_now ?_)
    | (refine retK_now' ?_)
    | (intro q hq)
    | (refine cond_intro (fun hc => ?_) (fun hc => ?_)))
  refine WeakR.pure (sub_upd hq3 (Heap.sub_refl _)) ?_
  rfl
theorem map_gt {L : List Hd} {k : Nat} (h : k < L.length) : (L.map pr)[k]? = some (pr (gt L k)) := by
  rw [List.getElem?_map, List.getElem?_eq_getElem h, gt_get h]
  rfl
structure Cro (p q : Int) (c : Cr) (C : List Cr) (L : List Hd) (M : List (Id × Int)) (m : Nat) : Prop where
  lt : m + 1 < L.length
  a : (gt L m).id = c.a
  ab : (gt L m).bed = p
  b : (gt L (m + 1)).id = c.b
  bb : (gt L (m + 1)).bed = q
  no : ∀ k, k < L.length → k ≠ m → (gt L k).id ≠ c.a
  next : Chn p q C ((swp L m (m + 1)).map pr) M
  nd : ((swp L m (m + 1)).map (·.id)).Nodup
theorem swp_perm {L : List Hd} {m : Nat} (h : m + 1 < L.length) : (swp L m (m + 1)).Perm L := by
  obtain ⟨X, Y, hL, hX⟩ := split2 h
  generalize gt L m = x at *
  generalize gt L (m + 1) = y at *
  subst hX
  rw [hL, sw_app]
  exact (List.Perm.swap _ _ _).append_left X
theorem cro {p q : Int} {c : Cr} {C : List Cr} {L : List Hd} {M : List (Id × Int)} (h : Chn p q (c :: C) (L.map pr) M) (hn : (L.map (·.id)).Nodup) : ∃ m, Cro p q c C L M m := by
  obtain ⟨X, Y, hL, hC⟩ := h
  obtain ⟨L1, L2, rfl, rfl, h2⟩ := List.map_eq_append_iff.1 hL
  obtain ⟨x, L3, rfl, hx, h3⟩ := List.map_eq_cons_iff.1 h2
  obtain ⟨y, L4, rfl, hy, rfl⟩ := List.map_eq_cons_iff.1 h3
  have g0 : gt (L1 ++ x :: y :: L4) L1.length = x := by rw [gt_get (by simp)]; simp
  have g1 : gt (L1 ++ x :: y :: L4) (L1.length + 1) = y := by rw [gt_get (by simp)]; simp
  have hlt : L1.length + 1 < (L1 ++ x :: y :: L4).length := by simp
  have xa : x.id = c.a := congrArg Prod.fst hx
  refine ⟨L1.length, hlt, by rw [g0]; exact xa, by rw [g0]; exact congrArg Prod.snd hx, by rw [g1]; exact congrArg Prod.fst hy, by rw [g1]; exact congrArg Prod.snd hy, fun k hk hne e => ?_, ?_, ?_⟩
  · have e1 : ((L1 ++ x :: y :: L4).map (·.id))[k]? = some c.a := by rw [List.getElem?_map, List.getElem?_eq_getElem hk, ← gt_get hk, ← e]; rfl
    have e2 : ((L1 ++ x :: y :: L4).map (·.id))[L1.length]? = some c.a := by rw [List.getElem?_map, List.getElem?_eq_getElem (by omega), ← gt_get (by omega), g0, ← xa]; rfl
    exact hne ((List.getElem?_inj (by simpa using hk) hn).1 (e1.trans e2.symm))
  · rw [sw_app]
    rw [List.map_append, List.map_cons, List.map_cons, hx, hy]
    exact hC
  · exact ((swp_perm hlt).map (·.id)).nodup_iff.2 hn
end Go.Proofs.Ytembkknplmcamaa

namespace Go.Proofs.Ytembkknplmcamaa
open Go.Ab
attribute [local irreducible] WeakR WeakE CallA YieldA

/-! The walk of OrdersStep. -/
def e4a (r d : Int) (q7 : Nat) (l : AV) (e w : Int) : Env := (((((Env.upd (fun _ => .junk) 10 (.val (.int .i64 w))).upd 9 (.val (.int .i64 e))).upd 8 l).upd 7 (.optr q7 2 0 0)).upd 2 (.val (.int .u8 d))).upd 1 (.val (.int .i64 r))
def e4b (r d : Int) (q7 : Nat) (l : AV) (nx : Int) : Env := ((((Env.upd (fun _ => .junk) 11 (.val (.int .i64 nx))).upd 8 l).upd 7 (.optr q7 2 0 0)).upd 2 (.val (.int .u8 d))).upd 1 (.val (.int .i64 r))
def e4c (d : Int) (l b w : AV) (i : Nat) : Env := ((((Env.upd (fun _ => .junk) 16 (.val (.int .i64 i))).upd 14 w).upd 12 b).upd 8 l).upd 2 (.val (.int .u8 d))
def e4d (d : Int) (l b w : AV) (i : Nat) (a : Int) (k : Nat) : Env := ((((((Env.upd (fun _ => .junk) 18 (.val (.int .i64 k))).upd 17 (.val (.int .i64 a))).upd 16 (.val (.int .i64 i))).upd 14 w).upd 12 b).upd 8 l).upd 2 (.val (.int .u8 d))
def e4e (b w : AV) (i : Nat) : Env := ((Env.upd (fun _ => .junk) 20 (.val (.int .i64 i))).upd 14 w).upd 12 b
def atv (m k : Nat) : Int := if m < k then (m : Int) else -1
theorem stepE_0 {r d : Int} (hd : 0 ≤ d) (h : stepE r d = 0) : rackOK r = true ∧ (d = 0 ∨ d = 1) ∧ rackOK (r + shL d) = true := by
  unfold stepE at h
  split at h
  · split at h
    · cases h
    · split at h
      · exact ⟨by assumption, by omega, by assumption⟩
      · cases h
  · cases h

set_option maxHeartbeats 16000000 in
theorem OrdersStep_ok (s : AV) (P : List Put) (r d : Int) (hs : IsL 2 s (P.map Put.av)) (hP : ∀ p ∈ P, p.ok) (hd0 : 0 ≤ d) (hrb : -9223372036854775808 ≤ r ∧ r ≤ 9223372036854775807) :
    PureA Try.prog 4 [s, .val (.int .i64 r), .val (.int .u8 d)] (.val (.bool true)) := by
  have hof := Of_ok s P hs hP
  have hTo := Of_tab_ok P
  have hTn := (ofN_ok P).2
  generalize ofL P = T at hof hTo
  have hle : ∀ l ∈ T, l.length ≤ 1000 := fun l hl => by have := hTo.le l hl; omega
  have hBe := beds_is hle
  have hck := check_beds hTo (by omega)
  have hm4 := at_le4' hTo
  have hF40 := (beds_40 T).1
  have hB40 := (beds_40 T).2
  have hF4 := (tab_le4 hTo).1
  have hB4 := (tab_le4 hTo).2
  have hnd : (namesL (bedsF T) (bedsB T)).Nodup := by rw [names_beds hTo.len]; exact hTo.nd
  have c1 := (bedA_is (bedsF T)).2.isL.cells
  have c2 := (bedA_is (bedsB T)).2.isL.cells
  have s1 := (bedA_is (bedsF T)).2.isL.stor
  have s2 := (bedA_is (bedsB T)).2.isL.stor
  obtain ⟨lA, hSt, hlT, hl0⟩ : ∃ lA, PureA Try.prog 11 [.agg [bedA (bedsF T), bedA (bedsB T)], .val (.int .i64 r), .val (.int .u8 d)] (.tup [lA, .val (.int .i64 (stepE r d))]) ∧ (stepE r d = 0 → IsT 5 lA ((stepTo (bedsF T) (bedsB T) r d 40).map Cr.av)) ∧ (stepE r d ≠ 0 → lA = .val (.slice none 0 0)) := by
    by_cases he : stepE r d = 0
    · obtain ⟨k1, k2, k3⟩ := stepE_0 hd0 he
      have h := Step_ok hBe hck hm4 r d k2 k1 (by unfold moveE; rw [if_pos k1, if_pos k3])
      rw [he]
      exact ⟨_, h, fun _ => tA_T _ _, fun h => (h rfl).elim⟩
    · exact ⟨_, StepE_err hBe hck r d hd0 he, fun h => (he h).elim, fun _ => rfl⟩
  have lc : lA.cells = [lA] := by
    by_cases he : stepE r d = 0
    · exact (hlT he).isL.cells
    · rw [hl0 he]; rfl
  have ls : lA.stor = true := by
    by_cases he : stepE r d = 0
    · exact (hlT he).isL.stor
    · rw [hl0 he]; rfl
  have hE : stepE r d = if rackOK r = true then (if 1 < d then 1 else if rackOK (r + shL d) = true then 0 else 11) else 11 := rfl
  have hE0 : stepE r d = 0 → _ := fun h => stepE_0 hd0 h
  generalize stepE r d = ee at *
  generalize hbf : bedA (bedsF T) = bf at *
  generalize hbb : bedA (bedsB T) = bb at *
  have d0 : decide ((0 : Int) = 0) = true := by decide
  have dee : decide (ee = ee) = true := decide_eq_true rfl
  replace hBe := (show Aside _ from hBe)
  replace hck := (show Aside _ from hck)
  replace hm4 := (show Aside _ from hm4)
  replace hTo := (show Aside _ from hTo)
  replace hle := (show Aside _ from hle)
  replace hs := (show Aside _ from hs)
  replace hP := (show Aside _ from hP)
  replace hF40 := (show Aside _ from hF40)
  replace hB40 := (show Aside _ from hB40)
  replace hF4 := (show Aside _ from hF4)
  replace hB4 := (show Aside _ from hB4)
  replace hnd := (show Aside _ from hnd)
  replace hlT := (show Aside _ from hlT)
  replace hl0 := (show Aside _ from hl0)
  replace hE := (show Aside _ from hE)
  replace hE0 := (show Aside _ from hE0)
  replace hrb := (show Aside _ from hrb)
  replace hd0 := (show Aside _ from hd0)
  replace hbf := (show Aside _ from hbf)
  replace hbb := (show Aside _ from hbb)
  replace hTn := (show Aside _ from hTn)
  intro O
  refine k4.call mix ?_
  unfold c4
  (repeat' first
    | simp (contextual := true) (maxSteps := 4000000) only [fwc, fwe, fww, reduceIte, ↓reduceIte, Nat.reduceAdd, Nat.reduceLeDiff, Nat.reduceEqDiff, Nat.reduceLT, Nat.reduceSub, reduceCtorEq, Int.reduceEq, Int.reduceLT, Int.reduceLE, Int.reduceNeg, Int.reduceToNat, Int.reduceAdd, Int.reduceSub, Nat.reduceMul, part_cell, part_agg, *]
    | (refine retK_now ?_)
    | (refine retK_now' ?_)
    | (intro q hq)
    | (refine cond_intro (fun hc => ?_) (fun hc => ?_)))
  refine seqK_now ?_
  (repeat' first
    | simp (contextual := true) (maxSteps := 4000000) only [fwc, fwe, fww, reduceIte, ↓reduceIte, Nat.reduceAdd, Nat.reduceLeDiff, Nat.reduceEqDiff, Nat.reduceLT, Nat.reduceSub, reduceCtorEq, Int.reduceEq, Int.reduceLT, Int.reduceLE, Int.reduceNeg, Int.reduceToNat, Int.reduceAdd, Int.reduceSub, Nat.reduceMul, part_cell, part_agg, *]
    | (refine retK_now ?_)
    | (refine retK_now' ?_)
    | (intro q hq)
    | (refine cond_intro (fun hc => ?_) (fun hc => ?_)))
  refine hof.use ?_
  (repeat' first
    | simp (contextual := true) (maxSteps := 4000000) only [fwc, fwe, fww, reduceIte, ↓reduceIte, Nat.reduceAdd, Nat.reduceLeDiff, Nat.reduceEqDiff, Nat.reduceLT, Nat.reduceSub, reduceCtorEq, Int.reduceEq, Int.reduceLT, Int.reduceLE, Int.reduceNeg, Int.reduceToNat, Int.reduceAdd, Int.reduceSub, Nat.reduceMul, part_cell, part_agg, *]
    | (refine retK_now ?_)
    | (refine retK_now' ?_)
    | (intro q hq)
    | (refine cond_intro (fun hc => ?_) (fun hc => ?_)))
  revert q
  intro q7 hq7
  refine seqK_now ?_
  (repeat' first
    | simp (contextual := true) (maxSteps := 4000000) only [fwc, fwe, fww, reduceIte, ↓reduceIte, Nat.reduceAdd, Nat.reduceLeDiff, Nat.reduceEqDiff, Nat.reduceLT, Nat.reduceSub, reduceCtorEq, Int.reduceEq, Int.reduceLT, Int.reduceLE, Int.reduceNeg, Int.reduceToNat, Int.reduceAdd, Int.reduceSub, Nat.reduceMul, part_cell, part_agg, *]
    | (refine retK_now ?_)
    | (refine retK_now' ?_)
    | (intro q hq)
    | (refine cond_intro (fun hc => ?_) (fun hc => ?_)))
  refine hSt.use ?_
  (repeat' first
    | simp (contextual := true) (maxSteps := 4000000) only [fwc, fwe, fww, reduceIte, ↓reduceIte, Nat.reduceAdd, Nat.reduceLeDiff, Nat.reduceEqDiff, Nat.reduceLT, Nat.reduceSub, reduceCtorEq, Int.reduceEq, Int.reduceLT, Int.reduceLE, Int.reduceNeg, Int.reduceToNat, Int.reduceAdd, Int.reduceSub, Nat.reduceMul, part_cell, part_agg, *]
    | (refine retK_now ?_)
    | (refine retK_now' ?_)
    | (intro q hq)
    | (refine cond_intro (fun hc => ?_) (fun hc => ?_)))
  refine seqK_now ?_
  (repeat' first
    | simp (contextual := true) (maxSteps := 4000000) only [fwc, fwe, fww, reduceIte, ↓reduceIte, Nat.reduceAdd, Nat.reduceLeDiff, Nat.reduceEqDiff, Nat.reduceLT, Nat.reduceSub, reduceCtorEq, Int.reduceEq, Int.reduceLT, Int.reduceLE, Int.reduceNeg, Int.reduceToNat, Int.reduceAdd, Int.reduceSub, Nat.reduceMul, part_cell, part_agg, *]
    | (refine retK_now ?_)
    | (refine retK_now' ?_)
    | (intro q hq)
    | (refine cond_intro (fun hc => ?_) (fun hc => ?_)))
  refine seqK_now ?_
  refine seq_post (fun e1 O1 => O1 = O.upd q7 (.arr 26 2 [.agg [bf, bb]]) ∧ e1 = e4a r d q7 lA ee ee) ?_ ?_
  rotate_left
  · intro G hG
    replace hG := (show Aside _ from hG)
    have hEq := hE.out
    have hdq := hd0.out
    by_cases k1 : r < -4
    · have e1 : decide (r < -4) = true := decide_eq_true k1
      have hee : ee = 11 := by rw [hEq, if_neg (by unfold rackOK; simp; omega)]
      replace k1 := (show Aside _ from k1)
      replace hEq := (show Aside _ from hEq)
      replace hdq := (show Aside _ from hdq)
      subst hee
      (repeat' first
    | simp (contextual := true) (maxSteps := 4000000) only [fwc, fwe, fww, reduceIte, ↓reduceIte, Nat.reduceAdd, Nat.reduceLeDiff, Nat.reduceEqDiff, Nat.reduceLT, Nat.reduceSub, reduceCtorEq, Int.reduceEq, Int.reduceLT, Int.reduceLE, Int.reduceNeg, Int.reduceToNat, Int.reduceAdd, Int.reduceSub, Nat.reduceMul, part_cell, part_agg, *]
    | (refine seqK_now ?_)
    | (refine retK_now ?_)
    | (refine retK_now' ?_)
    | (intro q hq)
    | (refine cond_intro (fun hc => ?_) (fun hc => ?_)))
      exact hG.out _ _ ⟨rfl, rfl⟩
    have e1 : decide (r < -4) = false := decide_eq_false k1
    by_cases k2 : 4 < r
    · have e2 : decide (4 < r) = true := decide_eq_true k2
      have hee : ee = 11 := by rw [hEq, if_neg (by unfold rackOK; simp; omega)]
      replace k1 := (show Aside _ from k1)
      replace k2 := (show Aside _ from k2)
      replace hEq := (show Aside _ from hEq)
      replace hdq := (show Aside _ from hdq)
      subst hee
      (repeat' first
    | simp (contextual := true) (maxSteps := 4000000) only [fwc, fwe, fww, reduceIte, ↓reduceIte, Nat.reduceAdd, Nat.reduceLeDiff, Nat.reduceEqDiff, Nat.reduceLT, Nat.reduceSub, reduceCtorEq, Int.reduceEq, Int.reduceLT, Int.reduceLE, Int.reduceNeg, Int.reduceToNat, Int.reduceAdd, Int.reduceSub, Nat.reduceMul, part_cell, part_agg, *]
    | (refine seqK_now ?_)
    | (refine retK_now ?_)
    | (refine retK_now' ?_)
    | (intro q hq)
    | (refine cond_intro (fun hc => ?_) (fun hc => ?_)))
      exact hG.out _ _ ⟨rfl, rfl⟩
    have e2 : decide (4 < r) = false := decide_eq_false k2
    have hro : rackOK r = true := by unfold rackOK; simp; omega
    rw [if_pos hro] at hEq
    by_cases k3 : 1 < d
    · have e3 : decide (1 < d) = true := decide_eq_true k3
      have hee : ee = 1 := by rw [hEq, if_pos k3]
      replace k1 := (show Aside _ from k1)
      replace k2 := (show Aside _ from k2)
      replace k3 := (show Aside _ from k3)
      replace hEq := (show Aside _ from hEq)
      replace hdq := (show Aside _ from hdq)
      subst hee
      (repeat' first
    | simp (contextual := true) (maxSteps := 4000000) only [fwc, fwe, fww, reduceIte, ↓reduceIte, Nat.reduceAdd, Nat.reduceLeDiff, Nat.reduceEqDiff, Nat.reduceLT, Nat.reduceSub, reduceCtorEq, Int.reduceEq, Int.reduceLT, Int.reduceLE, Int.reduceNeg, Int.reduceToNat, Int.reduceAdd, Int.reduceSub, Nat.reduceMul, part_cell, part_agg, *]
    | (refine seqK_now ?_)
    | (refine retK_now ?_)
    | (refine retK_now' ?_)
    | (intro q hq)
    | (refine cond_intro (fun hc => ?_) (fun hc => ?_)))
      exact hG.out _ _ ⟨rfl, rfl⟩
    have e3 : decide (1 < d) = false := decide_eq_false k3
    rw [if_neg k3] at hEq
    by_cases k4 : d = 0
    · have e4 : decide (d = 0) = true := decide_eq_true k4
      have e5 : decide (d = 1) = false := decide_eq_false (by omega)
      by_cases k5 : r = -4
      · have e6 : decide (r = -4) = true := decide_eq_true k5
        have hee : ee = 11 := by rw [hEq, k4, k5]; rfl
        replace k1 := (show Aside _ from k1)
        replace k2 := (show Aside _ from k2)
        replace k3 := (show Aside _ from k3)
        replace k4 := (show Aside _ from k4)
        replace k5 := (show Aside _ from k5)
        replace hEq := (show Aside _ from hEq)
        replace hdq := (show Aside _ from hdq)
        subst hee
        (repeat' first
    | simp (contextual := true) (maxSteps := 4000000) only [fwc, fwe, fww, reduceIte, ↓reduceIte, Nat.reduceAdd, Nat.reduceLeDiff, Nat.reduceEqDiff, Nat.reduceLT, Nat.reduceSub, reduceCtorEq, Int.reduceEq, Int.reduceLT, Int.reduceLE, Int.reduceNeg, Int.reduceToNat, Int.reduceAdd, Int.reduceSub, Nat.reduceMul, part_cell, part_agg, *]
    | (refine seqK_now ?_)
    | (refine retK_now ?_)
    | (refine retK_now' ?_)
    | (intro q hq)
    | (refine cond_intro (fun hc => ?_) (fun hc => ?_)))
        exact hG.out _ _ ⟨rfl, rfl⟩
      · have e6 : decide (r = -4) = false := decide_eq_false k5
        have hee : ee = 0 := by rw [hEq, k4, if_pos (by unfold rackOK shL; simp; omega)]
        replace k1 := (show Aside _ from k1)
        replace k2 := (show Aside _ from k2)
        replace k3 := (show Aside _ from k3)
        replace k4 := (show Aside _ from k4)
        replace k5 := (show Aside _ from k5)
        replace hEq := (show Aside _ from hEq)
        replace hdq := (show Aside _ from hdq)
        subst hee
        (repeat' first
    | simp (contextual := true) (maxSteps := 4000000) only [fwc, fwe, fww, reduceIte, ↓reduceIte, Nat.reduceAdd, Nat.reduceLeDiff, Nat.reduceEqDiff, Nat.reduceLT, Nat.reduceSub, reduceCtorEq, Int.reduceEq, Int.reduceLT, Int.reduceLE, Int.reduceNeg, Int.reduceToNat, Int.reduceAdd, Int.reduceSub, Nat.reduceMul, part_cell, part_agg, *]
    | (refine seqK_now ?_)
    | (refine retK_now ?_)
    | (refine retK_now' ?_)
    | (intro q hq)
    | (refine cond_intro (fun hc => ?_) (fun hc => ?_)))
        exact hG.out _ _ ⟨rfl, rfl⟩
    · have e4 : decide (d = 0) = false := decide_eq_false k4
      have k6 : d = 1 := by omega
      have e5 : decide (d = 1) = true := decide_eq_true k6
      by_cases k5 : r = 4
      · have e6 : decide (r = 4) = true := decide_eq_true k5
        have hee : ee = 11 := by rw [hEq, k6, k5]; rfl
        replace k1 := (show Aside _ from k1)
        replace k2 := (show Aside _ from k2)
        replace k3 := (show Aside _ from k3)
        replace k4 := (show Aside _ from k4)
        replace k5 := (show Aside _ from k5)
        replace k6 := (show Aside _ from k6)
        replace hEq := (show Aside _ from hEq)
        replace hdq := (show Aside _ from hdq)
        subst hee
        (repeat' first
    | simp (contextual := true) (maxSteps := 4000000) only [fwc, fwe, fww, reduceIte, ↓reduceIte, Nat.reduceAdd, Nat.reduceLeDiff, Nat.reduceEqDiff, Nat.reduceLT, Nat.reduceSub, reduceCtorEq, Int.reduceEq, Int.reduceLT, Int.reduceLE, Int.reduceNeg, Int.reduceToNat, Int.reduceAdd, Int.reduceSub, Nat.reduceMul, part_cell, part_agg, *]
    | (refine seqK_now ?_)
    | (refine retK_now ?_)
    | (refine retK_now' ?_)
    | (intro q hq)
    | (refine cond_intro (fun hc => ?_) (fun hc => ?_)))
        exact hG.out _ _ ⟨rfl, rfl⟩
      · have e6 : decide (r = 4) = false := decide_eq_false k5
        have hee : ee = 0 := by rw [hEq, k6, if_pos (by unfold rackOK shL; simp; omega)]
        replace k1 := (show Aside _ from k1)
        replace k2 := (show Aside _ from k2)
        replace k3 := (show Aside _ from k3)
        replace k4 := (show Aside _ from k4)
        replace k5 := (show Aside _ from k5)
        replace k6 := (show Aside _ from k6)
        replace hEq := (show Aside _ from hEq)
        replace hdq := (show Aside _ from hdq)
        subst hee
        (repeat' first
    | simp (contextual := true) (maxSteps := 4000000) only [fwc, fwe, fww, reduceIte, ↓reduceIte, Nat.reduceAdd, Nat.reduceLeDiff, Nat.reduceEqDiff, Nat.reduceLT, Nat.reduceSub, reduceCtorEq, Int.reduceEq, Int.reduceLT, Int.reduceLE, Int.reduceNeg, Int.reduceToNat, Int.reduceAdd, Int.reduceSub, Nat.reduceMul, part_cell, part_agg, *]
    | (refine seqK_now ?_)
    | (refine retK_now ?_)
    | (refine retK_now' ?_)
    | (intro q hq)
    | (refine cond_intro (fun hc => ?_) (fun hc => ?_)))
        exact hG.out _ _ ⟨rfl, rfl⟩
  intro e1 O1 hQ
  obtain ⟨hO1, rfl⟩ := hQ
  rw [hO1]
  clear hO1 O1
  unfold e4a
  (repeat' first
    | simp (contextual := true) (maxSteps := 4000000) only [fwc, fwe, fww, reduceIte, ↓reduceIte, Nat.reduceAdd, Nat.reduceLeDiff, Nat.reduceEqDiff, Nat.reduceLT, Nat.reduceSub, reduceCtorEq, Int.reduceEq, Int.reduceLT, Int.reduceLE, Int.reduceNeg, Int.reduceToNat, Int.reduceAdd, Int.reduceSub, Nat.reduceMul, part_cell, part_agg, *]
    | (refine retK_now ?_)
    | (refine retK_now' ?_)
    | (intro q hq)
    | (refine cond_intro (fun hc => ?_) (fun hc => ?_)))
  refine seqK_now ?_
  (repeat' first
    | simp (contextual := true) (maxSteps := 4000000) only [fwc, fwe, fww, reduceIte, ↓reduceIte, Nat.reduceAdd, Nat.reduceLeDiff, Nat.reduceEqDiff, Nat.reduceLT, Nat.reduceSub, reduceCtorEq, Int.reduceEq, Int.reduceLT, Int.reduceLE, Int.reduceNeg, Int.reduceToNat, Int.reduceAdd, Int.reduceSub, Nat.reduceMul, part_cell, part_agg, *]
    | (refine retK_now ?_)
    | (refine retK_now' ?_)
    | (intro q hq)
    | (refine cond_intro (fun hc => ?_) (fun hc => ?_)))
  refine seqK_now ?_
  by_cases he : ee = 0
  rotate_left
  · have de : decide (ee = 0) = false := decide_eq_false he
    have hl := hl0.out he
    subst hl
    replace he := (show Aside _ from he)
    (repeat' first
    | simp (contextual := true) (maxSteps := 4000000) only [fwc, fwe, fww, reduceIte, ↓reduceIte, Nat.reduceAdd, Nat.reduceLeDiff, Nat.reduceEqDiff, Nat.reduceLT, Nat.reduceSub, reduceCtorEq, Int.reduceEq, Int.reduceLT, Int.reduceLE, Int.reduceNeg, Int.reduceToNat, Int.reduceAdd, Int.reduceSub, Nat.reduceMul, part_cell, part_agg, *]
    | (refine seqK_now ?_)
    | (refine retK_now ?_)
    | (refine retK_now' ?_)
    | (intro q hq)
    | (refine cond_intro (fun hc => ?_) (fun hc => ?_)))
    refine lives4_ok.use ?_
    (repeat' first
    | simp (contextual := true) (maxSteps := 4000000) only [fwc, fwe, fww, reduceIte, ↓reduceIte, Nat.reduceAdd, Nat.reduceLeDiff, Nat.reduceEqDiff, Nat.reduceLT, Nat.reduceSub, reduceCtorEq, Int.reduceEq, Int.reduceLT, Int.reduceLE, Int.reduceNeg, Int.reduceToNat, Int.reduceAdd, Int.reduceSub, Nat.reduceMul, part_cell, part_agg, *]
    | (refine seqK_now ?_)
    | (refine retK_now ?_)
    | (refine retK_now' ?_)
    | (intro q hq)
    | (refine cond_intro (fun hc => ?_) (fun hc => ?_)))
    refine WeakR.pure (sub_upd hq7 (Heap.sub_refl _)) ?_
    rfl
  subst he
  have hlT := hlT.out rfl
  obtain ⟨k1, k2, k3⟩ := hE0.out rfl
  have hrr : -4 ≤ r ∧ r ≤ 4 := by unfold rackOK at k1; simpa using k1
  have hrr2 : -4 ≤ r + shL d ∧ r + shL d ≤ 4 := by unfold rackOK at k3; simpa using k3
  have wp1 : IntKind.i64.wrap (r + 1) = r + 1 := by rw [wrap_i64 (by omega) (by omega)]
  have wm1 : IntKind.i64.wrap (r - 1) = r - 1 := by rw [wrap_i64 (by omega) (by omega)]
  replace k1 := (show Aside _ from k1)
  replace k3 := (show Aside _ from k3)
  replace hrr := (show Aside _ from hrr)
  replace hrr2 := (show Aside _ from hrr2)
  replace hlT := (show Aside _ from hlT)
  (repeat' first
    | simp (contextual := true) (maxSteps := 4000000) only [fwc, fwe, fww, reduceIte, ↓reduceIte, Nat.reduceAdd, Nat.reduceLeDiff, Nat.reduceEqDiff, Nat.reduceLT, Nat.reduceSub, reduceCtorEq, Int.reduceEq, Int.reduceLT, Int.reduceLE, Int.reduceNeg, Int.reduceToNat, Int.reduceAdd, Int.reduceSub, Nat.reduceMul, part_cell, part_agg, *]
    | (refine retK_now ?_)
    | (refine retK_now' ?_)
    | (intro q hq)
    | (refine cond_intro (fun hc => ?_) (fun hc => ?_)))
  refine seqK_now ?_
  (repeat' first
    | simp (contextual := true) (maxSteps := 4000000) only [fwc, fwe, fww, reduceIte, ↓reduceIte, Nat.reduceAdd, Nat.reduceLeDiff, Nat.reduceEqDiff, Nat.reduceLT, Nat.reduceSub, reduceCtorEq, Int.reduceEq, Int.reduceLT, Int.reduceLE, Int.reduceNeg, Int.reduceToNat, Int.reduceAdd, Int.reduceSub, Nat.reduceMul, part_cell, part_agg, *]
    | (refine retK_now ?_)
    | (refine retK_now' ?_)
    | (intro q hq)
    | (refine cond_intro (fun hc => ?_) (fun hc => ?_)))
  refine seqK_now ?_
  (repeat' first
    | simp (contextual := true) (maxSteps := 4000000) only [fwc, fwe, fww, reduceIte, ↓reduceIte, Nat.reduceAdd, Nat.reduceLeDiff, Nat.reduceEqDiff, Nat.reduceLT, Nat.reduceSub, reduceCtorEq, Int.reduceEq, Int.reduceLT, Int.reduceLE, Int.reduceNeg, Int.reduceToNat, Int.reduceAdd, Int.reduceSub, Nat.reduceMul, part_cell, part_agg, *]
    | (refine retK_now ?_)
    | (refine retK_now' ?_)
    | (intro q hq)
    | (refine cond_intro (fun hc => ?_) (fun hc => ?_)))
  refine seqK_now ?_
  refine seq_post (fun e1 O1 => O1 = O.upd q7 (.arr 26 2 [.agg [bf, bb]]) ∧ e1 = e4b r d q7 lA (r + shL d)) ?_ ?_
  rotate_left
  · intro G hG
    replace hG := (show Aside _ from hG)
    by_cases k4 : d = 0
    · have e4 : decide (d = 0) = true := decide_eq_true k4
      have hn : r + shL d = r - 1 := by rw [k4]; rfl
      replace k2 := (show Aside _ from k2)
      replace k4 := (show Aside _ from k4)
      replace hn := (show Aside _ from hn)
      (repeat' first
    | simp (contextual := true) (maxSteps := 4000000) only [fwc, fwe, fww, reduceIte, ↓reduceIte, Nat.reduceAdd, Nat.reduceLeDiff, Nat.reduceEqDiff, Nat.reduceLT, Nat.reduceSub, reduceCtorEq, Int.reduceEq, Int.reduceLT, Int.reduceLE, Int.reduceNeg, Int.reduceToNat, Int.reduceAdd, Int.reduceSub, Nat.reduceMul, part_cell, part_agg, *]
    | (refine seqK_now ?_)
    | (refine retK_now ?_)
    | (refine retK_now' ?_)
    | (intro q hq)
    | (refine cond_intro (fun hc => ?_) (fun hc => ?_)))
      exact hG.out _ _ ⟨rfl, by rw [hn.out]; rfl⟩
    · have e4 : decide (d = 0) = false := decide_eq_false k4
      have hn : r + shL d = r + 1 := by rw [show d = 1 by omega]; rfl
      replace k2 := (show Aside _ from k2)
      replace k4 := (show Aside _ from k4)
      replace hn := (show Aside _ from hn)
      (repeat' first
    | simp (contextual := true) (maxSteps := 4000000) only [fwc, fwe, fww, reduceIte, ↓reduceIte, Nat.reduceAdd, Nat.reduceLeDiff, Nat.reduceEqDiff, Nat.reduceLT, Nat.reduceSub, reduceCtorEq, Int.reduceEq, Int.reduceLT, Int.reduceLE, Int.reduceNeg, Int.reduceToNat, Int.reduceAdd, Int.reduceSub, Nat.reduceMul, part_cell, part_agg, *]
    | (refine seqK_now ?_)
    | (refine retK_now ?_)
    | (refine retK_now' ?_)
    | (intro q hq)
    | (refine cond_intro (fun hc => ?_) (fun hc => ?_)))
      exact hG.out _ _ ⟨rfl, by rw [hn.out]; rfl⟩
  intro e1 O1 hQ
  obtain ⟨hO1, rfl⟩ := hQ
  rw [hO1]
  clear hO1 O1 wp1 wm1
  unfold e4b
  obtain ⟨p, q, hpq, hch⟩ : ∃ p q : Int, ((d = 1 ∧ p = 1 ∧ q = 0) ∨ (d = 0 ∧ p = 0 ∧ q = 1)) ∧ Chn p q (stepTo (bedsF T) (bedsB T) r d 40) (row (bedsF T) (bedsB T) r) (row (bedsF T) (bedsB T) (r + shL d)) := by
    have g1 := hrr.out
    have g2 := hrr2.out
    rcases k2 with rfl | rfl
    · exact ⟨0, 1, .inr ⟨rfl, rfl, rfl⟩, step_chain0 _ _ r (by rw [show shL 0 = -1 from rfl] at g2; omega)⟩
    · exact ⟨1, 0, .inl ⟨rfl, rfl, rfl⟩, step_chain1 _ _ r (by rw [show shL 1 = 1 from rfl] at g2; omega)⟩
  have hsg := step_sgn (bedsF T) (bedsB T) r d 40
  have hcl := stepTo_len hm4.out r d 40
  have hBe' := hBe.out
  have hL1 := fun K => List_own hBe' hck.out hF40.out hB40.out hF4.out hB4.out r k1.out (O.upd q7 (.arr 26 2 [.agg [bf, bb]])) K
  have hL2 := List_ok hBe' hck.out hF40.out hB40.out hF4.out hB4.out (r + shL d)
  rw [if_pos k3.out] at hL2
  have hr1 := lis_row (bedsF T) (bedsB T) r hrr.out
  have hr2 := lis_row (bedsF T) (bedsB T) (r + shL d) hrr2.out
  rw [← list_listed hF40.out hB40.out r] at hr1
  rw [← list_listed hF40.out hB40.out (r + shL d)] at hr2
  have hno := row_nodup hF40.out hB40.out hnd.out k1.out
  have hlen : (bySpot (heldT (bedsF T) (bedsB T) r 2)).length ≤ 30400 := by rw [list_listed hF40.out hB40.out r]; exact lisA_len hm4.out r 95
  rw [← hr1] at hch hno
  rw [← hr2] at hch
  rw [List.map_map] at hno
  replace hno : ((bySpot (heldT (bedsF T) (bedsB T) r 2)).map (·.id)).Nodup := hno
  generalize bySpot (heldT (bedsF T) (bedsB T) r 2) = LL at *
  generalize bySpot (heldT (bedsF T) (bedsB T) (r + shL d) 2) = L2 at *
  generalize stepTo (bedsF T) (bedsB T) r d 40 = C at *
  generalize r + shL d = nx at *
  clear hBe' hr1 hr2
  have hwT := tA_T 5 (L2.map Hd.av)
  generalize tA 5 (L2.map Hd.av) = w at *
  have hlp : LL.length = L2.length := by have := (Chn.perm _ _ _ hch).length_eq; simpa using this.symm
  have ll := (IsT.isL hlT.out).len
  have wl := hwT.isL.len
  have wc := hwT.isL.cells
  have ws := hwT.isL.stor
  rw [List.length_map] at ll wl
  replace hpq := (show Aside _ from hpq)
  replace hch := (show Aside _ from hch)
  replace hsg := (show Aside _ from hsg)
  replace hcl := (show Aside _ from hcl)
  replace hL1 := (show Aside _ from hL1)
  replace hno := (show Aside _ from hno)
  replace hlen := (show Aside _ from hlen)
  replace hwT := (show Aside _ from hwT)
  replace hlp := (show Aside _ from hlp)
  replace k2 := (show Aside _ from k2)
  (repeat' first
    | simp (contextual := true) (maxSteps := 4000000) only [fwc, fwe, fww, reduceIte, ↓reduceIte, Nat.reduceAdd, Nat.reduceLeDiff, Nat.reduceEqDiff, Nat.reduceLT, Nat.reduceSub, reduceCtorEq, Int.reduceEq, Int.reduceLT, Int.reduceLE, Int.reduceNeg, Int.reduceToNat, Int.reduceAdd, Int.reduceSub, Nat.reduceMul, part_cell, part_agg, *]
    | (refine retK_now ?_)
    | (refine retK_now' ?_)
    | (intro q hq)
    | (refine cond_intro (fun hc => ?_) (fun hc => ?_)))
  refine hL1.out _ fun b O0 O2 hsub hb => ?_
  have bc := hb.cells
  have bs := hb.stor
  replace hsub := (show Aside _ from hsub)
  rcases hb with ⟨rfl, h0, rfl⟩ | ⟨hne, id, elems, h0, rfl, rfl, h1, h2⟩
  · have hLL : LL = [] := List.map_eq_nil_iff.1 h0
    have hC : C.length = 0 := by
      have := hch.out
      rw [hLL] at this
      cases C with
      | nil => rfl
      | cons c C =>
        obtain ⟨X, Y, e, _⟩ := this
        cases X <;> cases e
    have hLn : L2.length = 0 := by have := hlp.out; rw [hLL] at this; simpa using this.symm
    have dl : decide ((0 : Int) = (L2.length : Int)) = true := decide_eq_true (by omega)
    have f7 : O2 q7 = some (.arr 26 2 [.agg [bf, bb]]) := hsub.out _ _ (Heap.upd_same _ _ _)
    have hOO := (show Aside _ from Heap.sub_trans (sub_new (Heap.sub_refl O) hq7) hsub.out)
    replace hLL := (show Aside _ from hLL)
    replace hC := (show Aside _ from hC)
    replace hLn := (show Aside _ from hLn)
    clear h0
    (repeat' first
    | simp (contextual := true) (maxSteps := 4000000) only [fwc, fwe, fww, reduceIte, ↓reduceIte, Nat.reduceAdd, Nat.reduceLeDiff, Nat.reduceEqDiff, Nat.reduceLT, Nat.reduceSub, reduceCtorEq, Int.reduceEq, Int.reduceLT, Int.reduceLE, Int.reduceNeg, Int.reduceToNat, Int.reduceAdd, Int.reduceSub, Nat.reduceMul, part_cell, part_agg, *]
    | (refine retK_now ?_)
    | (refine retK_now' ?_)
    | (intro q hq)
    | (refine cond_intro (fun hc => ?_) (fun hc => ?_)))
    refine seqK_now ?_
    (repeat' first
    | simp (contextual := true) (maxSteps := 4000000) only [fwc, fwe, fww, reduceIte, ↓reduceIte, Nat.reduceAdd, Nat.reduceLeDiff, Nat.reduceEqDiff, Nat.reduceLT, Nat.reduceSub, reduceCtorEq, Int.reduceEq, Int.reduceLT, Int.reduceLE, Int.reduceNeg, Int.reduceToNat, Int.reduceAdd, Int.reduceSub, Nat.reduceMul, part_cell, part_agg, *]
    | (refine retK_now ?_)
    | (refine retK_now' ?_)
    | (intro q hq)
    | (refine cond_intro (fun hc => ?_) (fun hc => ?_)))
    refine hL2.use ?_
    (repeat' first
    | simp (contextual := true) (maxSteps := 4000000) only [fwc, fwe, fww, reduceIte, ↓reduceIte, Nat.reduceAdd, Nat.reduceLeDiff, Nat.reduceEqDiff, Nat.reduceLT, Nat.reduceSub, reduceCtorEq, Int.reduceEq, Int.reduceLT, Int.reduceLE, Int.reduceNeg, Int.reduceToNat, Int.reduceAdd, Int.reduceSub, Nat.reduceMul, part_cell, part_agg, *]
    | (refine retK_now ?_)
    | (refine retK_now' ?_)
    | (intro q hq)
    | (refine cond_intro (fun hc => ?_) (fun hc => ?_)))
    refine seqK_now ?_
    (repeat' first
    | simp (contextual := true) (maxSteps := 4000000) only [fwc, fwe, fww, reduceIte, ↓reduceIte, Nat.reduceAdd, Nat.reduceLeDiff, Nat.reduceEqDiff, Nat.reduceLT, Nat.reduceSub, reduceCtorEq, Int.reduceEq, Int.reduceLT, Int.reduceLE, Int.reduceNeg, Int.reduceToNat, Int.reduceAdd, Int.reduceSub, Nat.reduceMul, part_cell, part_agg, *]
    | (refine retK_now ?_)
    | (refine retK_now' ?_)
    | (intro q hq)
    | (refine cond_intro (fun hc => ?_) (fun hc => ?_)))
    refine seqK_now ?_
    obtain ⟨I, hI⟩ := hideI (fun t e O' => t = 0 ∧ O' = O2 ∧ e = e4c d lA (.val (.slice none 0 0)) w 0)
    (repeat' first
    | simp (contextual := true) (maxSteps := 4000000) only [fwc, fwe, fww, reduceIte, ↓reduceIte, Nat.reduceAdd, Nat.reduceLeDiff, Nat.reduceEqDiff, Nat.reduceLT, Nat.reduceSub, reduceCtorEq, Int.reduceEq, Int.reduceLT, Int.reduceLE, Int.reduceNeg, Int.reduceToNat, Int.reduceAdd, Int.reduceSub, Nat.reduceMul, part_cell, part_agg, *]
    | (refine retK_now ?_)
    | (refine retK_now' ?_)
    | (intro q hq)
    | (refine cond_intro (fun hc => ?_) (fun hc => ?_)))
    refine cmd_loop I 0 (by rw [hI.out]; exact ⟨rfl, rfl, rfl⟩) ?_
    intro t e O' hh
    rw [hI.out] at hh
    obtain ⟨rfl, hOH, rfl⟩ := hh
    rw [hOH]
    clear hOH O'
    unfold e4c
    have e0 : decide (((0 : Nat) : Int) < (C.length : Int)) = false := decide_eq_false (by have := hC.out; omega)
    (repeat' first
    | simp (contextual := true) (maxSteps := 4000000) only [fwc, fwe, fww, reduceIte, ↓reduceIte, Nat.reduceAdd, Nat.reduceLeDiff, Nat.reduceEqDiff, Nat.reduceLT, Nat.reduceSub, reduceCtorEq, Int.reduceEq, Int.reduceLT, Int.reduceLE, Int.reduceNeg, Int.reduceToNat, Int.reduceAdd, Int.reduceSub, Nat.reduceMul, part_cell, part_agg, *]
    | (refine retK_now ?_)
    | (refine retK_now' ?_)
    | (intro q hq)
    | (refine cond_intro (fun hc => ?_) (fun hc => ?_)))
    refine seqK_now ?_
    (repeat' first
    | simp (contextual := true) (maxSteps := 4000000) only [fwc, fwe, fww, reduceIte, ↓reduceIte, Nat.reduceAdd, Nat.reduceLeDiff, Nat.reduceEqDiff, Nat.reduceLT, Nat.reduceSub, reduceCtorEq, Int.reduceEq, Int.reduceLT, Int.reduceLE, Int.reduceNeg, Int.reduceToNat, Int.reduceAdd, Int.reduceSub, Nat.reduceMul, part_cell, part_agg, *]
    | (refine retK_now ?_)
    | (refine retK_now' ?_)
    | (intro q hq)
    | (refine cond_intro (fun hc => ?_) (fun hc => ?_)))
    refine seqK_now ?_
    (repeat' first
    | simp (contextual := true) (maxSteps := 4000000) only [fwc, fwe, fww, reduceIte, ↓reduceIte, Nat.reduceAdd, Nat.reduceLeDiff, Nat.reduceEqDiff, Nat.reduceLT, Nat.reduceSub, reduceCtorEq, Int.reduceEq, Int.reduceLT, Int.reduceLE, Int.reduceNeg, Int.reduceToNat, Int.reduceAdd, Int.reduceSub, Nat.reduceMul, part_cell, part_agg, *]
    | (refine retK_now ?_)
    | (refine retK_now' ?_)
    | (intro q hq)
    | (refine cond_intro (fun hc => ?_) (fun hc => ?_)))
    refine seqK_now ?_
    (repeat' first
    | simp (contextual := true) (maxSteps := 4000000) only [fwc, fwe, fww, reduceIte, ↓reduceIte, Nat.reduceAdd, Nat.reduceLeDiff, Nat.reduceEqDiff, Nat.reduceLT, Nat.reduceSub, reduceCtorEq, Int.reduceEq, Int.reduceLT, Int.reduceLE, Int.reduceNeg, Int.reduceToNat, Int.reduceAdd, Int.reduceSub, Nat.reduceMul, part_cell, part_agg, *]
    | (refine retK_now ?_)
    | (refine retK_now' ?_)
    | (intro q hq)
    | (refine cond_intro (fun hc => ?_) (fun hc => ?_)))
    refine seqK_now ?_
    (repeat' first
    | simp (contextual := true) (maxSteps := 4000000) only [fwc, fwe, fww, reduceIte, ↓reduceIte, Nat.reduceAdd, Nat.reduceLeDiff, Nat.reduceEqDiff, Nat.reduceLT, Nat.reduceSub, reduceCtorEq, Int.reduceEq, Int.reduceLT, Int.reduceLE, Int.reduceNeg, Int.reduceToNat, Int.reduceAdd, Int.reduceSub, Nat.reduceMul, part_cell, part_agg, *]
    | (refine retK_now ?_)
    | (refine retK_now' ?_)
    | (intro q hq)
    | (refine cond_intro (fun hc => ?_) (fun hc => ?_)))
    refine seqK_now ?_
    obtain ⟨J, hJ⟩ := hideI (fun t e O' => t = 0 ∧ O' = O2 ∧ e = e4e (.val (.slice none 0 0)) w 0)
    (repeat' first
    | simp (contextual := true) (maxSteps := 4000000) only [fwc, fwe, fww, reduceIte, ↓reduceIte, Nat.reduceAdd, Nat.reduceLeDiff, Nat.reduceEqDiff, Nat.reduceLT, Nat.reduceSub, reduceCtorEq, Int.reduceEq, Int.reduceLT, Int.reduceLE, Int.reduceNeg, Int.reduceToNat, Int.reduceAdd, Int.reduceSub, Nat.reduceMul, part_cell, part_agg, *]
    | (refine retK_now ?_)
    | (refine retK_now' ?_)
    | (intro q hq)
    | (refine cond_intro (fun hc => ?_) (fun hc => ?_)))
    refine cmd_loop J 0 (by rw [hJ.out]; exact ⟨rfl, rfl, rfl⟩) ?_
    intro t e O' hh
    rw [hJ.out] at hh
    obtain ⟨rfl, hOH, rfl⟩ := hh
    rw [hOH]
    clear hOH O'
    unfold e4e
    have e00 : decide (((0 : Nat) : Int) < 0) = false := by decide
    (repeat' first
    | simp (contextual := true) (maxSteps := 4000000) only [fwc, fwe, fww, reduceIte, ↓reduceIte, Nat.reduceAdd, Nat.reduceLeDiff, Nat.reduceEqDiff, Nat.reduceLT, Nat.reduceSub, reduceCtorEq, Int.reduceEq, Int.reduceLT, Int.reduceLE, Int.reduceNeg, Int.reduceToNat, Int.reduceAdd, Int.reduceSub, Nat.reduceMul, part_cell, part_agg, *]
    | (refine seqK_now ?_)
    | (refine retK_now ?_)
    | (refine retK_now' ?_)
    | (intro q hq)
    | (refine cond_intro (fun hc => ?_) (fun hc => ?_)))
    refine lives4_ok.use ?_
    (repeat' first
    | simp (contextual := true) (maxSteps := 4000000) only [fwc, fwe, fww, reduceIte, ↓reduceIte, Nat.reduceAdd, Nat.reduceLeDiff, Nat.reduceEqDiff, Nat.reduceLT, Nat.reduceSub, reduceCtorEq, Int.reduceEq, Int.reduceLT, Int.reduceLE, Int.reduceNeg, Int.reduceToNat, Int.reduceAdd, Int.reduceSub, Nat.reduceMul, part_cell, part_agg, *]
    | (refine seqK_now ?_)
    | (refine retK_now ?_)
    | (refine retK_now' ?_)
    | (intro q hq)
    | (refine cond_intro (fun hc => ?_) (fun hc => ?_)))
    refine WeakR.pure hOO.out ?_
    rfl
  · rw [List.length_map] at h1 h2 bc bs ⊢
    have hel : elems = arE LL (elems.drop LL.length) := by
      unfold arE
      rw [← h1, List.take_append_drop]
    rw [hel]
    have hsub' : O.sub O0 := Heap.sub_trans (sub_new (Heap.sub_refl O) hq7) hsub.out
    have f7 : O0 q7 = some (.arr 26 2 [.agg [bf, bb]]) := hsub.out _ _ (Heap.upd_same _ _ _)
    have hne7 : ¬ q7 = id := fun e => by rw [e, h0] at f7; cases f7
    have hfs : ∀ M, O.sub (stH O0 id M (elems.drop LL.length)) := fun M => sub_new hsub' h0
    generalize elems.drop LL.length = R at *
    clear hel h1 h2 elems
    obtain ⟨n, hn⟩ : ∃ n, LL.length = n := ⟨_, rfl⟩
    rw [hn] at bc bs hlp hlen ⊢
    have dln : decide ((n : Int) = (L2.length : Int)) = true := decide_eq_true (by have := hlp.out; omega)
    replace hn := (show Aside _ from hn)
    replace hfs := (show Aside _ from hfs)
    replace hsub' := (show Aside _ from hsub')
    replace hne := (show Aside _ from hne)
    replace h0 := (show Aside _ from h0)
    (repeat' first
    | simp (contextual := true) (maxSteps := 4000000) only [fwc, fwe, fww, reduceIte, ↓reduceIte, Nat.reduceAdd, Nat.reduceLeDiff, Nat.reduceEqDiff, Nat.reduceLT, Nat.reduceSub, reduceCtorEq, Int.reduceEq, Int.reduceLT, Int.reduceLE, Int.reduceNeg, Int.reduceToNat, Int.reduceAdd, Int.reduceSub, Nat.reduceMul, part_cell, part_agg, *]
    | (refine retK_now ?_)
    | (refine retK_now' ?_)
    | (intro q hq)
    | (refine cond_intro (fun hc => ?_) (fun hc => ?_)))
    refine seqK_now ?_
    (repeat' first
    | simp (contextual := true) (maxSteps := 4000000) only [fwc, fwe, fww, reduceIte, ↓reduceIte, Nat.reduceAdd, Nat.reduceLeDiff, Nat.reduceEqDiff, Nat.reduceLT, Nat.reduceSub, reduceCtorEq, Int.reduceEq, Int.reduceLT, Int.reduceLE, Int.reduceNeg, Int.reduceToNat, Int.reduceAdd, Int.reduceSub, Nat.reduceMul, part_cell, part_agg, *]
    | (refine retK_now ?_)
    | (refine retK_now' ?_)
    | (intro q hq)
    | (refine cond_intro (fun hc => ?_) (fun hc => ?_)))
    refine hL2.use ?_
    (repeat' first
    | simp (contextual := true) (maxSteps := 4000000) only [fwc, fwe, fww, reduceIte, ↓reduceIte, Nat.reduceAdd, Nat.reduceLeDiff, Nat.reduceEqDiff, Nat.reduceLT, Nat.reduceSub, reduceCtorEq, Int.reduceEq, Int.reduceLT, Int.reduceLE, Int.reduceNeg, Int.reduceToNat, Int.reduceAdd, Int.reduceSub, Nat.reduceMul, part_cell, part_agg, *]
    | (refine retK_now ?_)
    | (refine retK_now' ?_)
    | (intro q hq)
    | (refine cond_intro (fun hc => ?_) (fun hc => ?_)))
    refine seqK_now ?_
    (repeat' first
    | simp (contextual := true) (maxSteps := 4000000) only [fwc, fwe, fww, reduceIte, ↓reduceIte, Nat.reduceAdd, Nat.reduceLeDiff, Nat.reduceEqDiff, Nat.reduceLT, Nat.reduceSub, reduceCtorEq, Int.reduceEq, Int.reduceLT, Int.reduceLE, Int.reduceNeg, Int.reduceToNat, Int.reduceAdd, Int.reduceSub, Nat.reduceMul, part_cell, part_agg, *]
    | (refine retK_now ?_)
    | (refine retK_now' ?_)
    | (intro q hq)
    | (refine cond_intro (fun hc => ?_) (fun hc => ?_)))
    refine seqK_now ?_
    obtain ⟨I, hI⟩ := hideI (fun t e O' => ∃ (i : Nat) (L : List Hd), i ≤ C.length ∧ t = C.length - i ∧ L.length = n ∧ Chn p q (C.drop i) (L.map pr) (L2.map pr) ∧ (L.map (·.id)).Nodup ∧ O' = stH O0 id L R ∧ e = e4c d lA (oS id n (some n)) w i)
    (repeat' first
    | simp (contextual := true) (maxSteps := 4000000) only [fwc, fwe, fww, reduceIte, ↓reduceIte, Nat.reduceAdd, Nat.reduceLeDiff, Nat.reduceEqDiff, Nat.reduceLT, Nat.reduceSub, reduceCtorEq, Int.reduceEq, Int.reduceLT, Int.reduceLE, Int.reduceNeg, Int.reduceToNat, Int.reduceAdd, Int.reduceSub, Nat.reduceMul, part_cell, part_agg, *]
    | (refine retK_now ?_)
    | (refine retK_now' ?_)
    | (intro q hq)
    | (refine cond_intro (fun hc => ?_) (fun hc => ?_)))
    refine cmd_loop I C.length (by
      rw [hI.out]
      exact ⟨0, LL, Nat.zero_le _, rfl, hn.out, hch.out, hno.out, rfl, rfl⟩) ?_
    clear hL1 hL2 f7 hne7 hq7 hch hno
    intro t e O' hh
    rw [hI.out] at hh
    obtain ⟨i, L, hiC, rfl, hL, hch, hno, hOH, rfl⟩ := hh
    rw [hOH]
    clear hOH O'
    unfold e4c
    by_cases hi : i < C.length
    rotate_left
    · have e0 : decide (i < C.length) = false := decide_eq_false hi
      rw [List.drop_eq_nil_of_le (by omega)] at hch
      have hfin : L.map pr = L2.map pr := hch
      unfold oS
      have hll2 : L.length = L2.length := by have := congrArg List.length hfin; simpa using this
      obtain ⟨J, hJ⟩ := hideI (fun t e O' => ∃ k, k ≤ n ∧ t = n - k ∧ O' = stH O0 id L R ∧ e = e4e (oS id n (some n)) w k)
      replace hi := (show Aside _ from hi)
      replace hiC := (show Aside _ from hiC)
      replace hch := (show Aside _ from hch)
      replace hno := (show Aside _ from hno)
      replace hfin := (show Aside _ from hfin)
      replace hll2 := (show Aside _ from hll2)
      replace hL := (show Aside _ from hL)
      (repeat' first
    | simp (contextual := true) (maxSteps := 4000000) only [fwc, fwe, fww, reduceIte, ↓reduceIte, Nat.reduceAdd, Nat.reduceLeDiff, Nat.reduceEqDiff, Nat.reduceLT, Nat.reduceSub, reduceCtorEq, Int.reduceEq, Int.reduceLT, Int.reduceLE, Int.reduceNeg, Int.reduceToNat, Int.reduceAdd, Int.reduceSub, Nat.reduceMul, part_cell, part_agg, ilt_nat, *]
    | (refine seqK_now ?_)
    | (refine retK_now ?_)
    | (refine retK_now' ?_)
    | (intro q hq)
    | (refine cond_intro (fun hc => ?_) (fun hc => ?_)))
      refine cmd_loop J n (by
        rw [hJ.out]
        exact ⟨0, Nat.zero_le _, rfl, rfl, rfl⟩) ?_
      intro t e O' hh
      rw [hJ.out] at hh
      obtain ⟨k, hkn, rfl, hOH, rfl⟩ := hh
      rw [hOH]
      clear hOH O'
      unfold e4e oS
      have hfsL := (show Aside _ from hfs.out L)
      by_cases hk : k < n
      rotate_left
      · have e1 : decide (k < n) = false := decide_eq_false hk
        replace hk := (show Aside _ from hk)
        (repeat' first
    | simp (contextual := true) (maxSteps := 4000000) only [fwc, fwe, fww, reduceIte, ↓reduceIte, Nat.reduceAdd, Nat.reduceLeDiff, Nat.reduceEqDiff, Nat.reduceLT, Nat.reduceSub, reduceCtorEq, Int.reduceEq, Int.reduceLT, Int.reduceLE, Int.reduceNeg, Int.reduceToNat, Int.reduceAdd, Int.reduceSub, Nat.reduceMul, part_cell, part_agg, ilt_nat, *]
    | (refine seqK_now ?_)
    | (refine retK_now ?_)
    | (refine retK_now' ?_)
    | (intro q hq)
    | (refine cond_intro (fun hc => ?_) (fun hc => ?_)))
        refine lives4_ok.use ?_
        (repeat' first
    | simp (contextual := true) (maxSteps := 4000000) only [fwc, fwe, fww, reduceIte, ↓reduceIte, Nat.reduceAdd, Nat.reduceLeDiff, Nat.reduceEqDiff, Nat.reduceLT, Nat.reduceSub, reduceCtorEq, Int.reduceEq, Int.reduceLT, Int.reduceLE, Int.reduceNeg, Int.reduceToNat, Int.reduceAdd, Int.reduceSub, Nat.reduceMul, part_cell, part_agg, *]
    | (refine seqK_now ?_)
    | (refine retK_now ?_)
    | (refine retK_now' ?_)
    | (intro q hq)
    | (refine cond_intro (fun hc => ?_) (fun hc => ?_)))
        refine WeakR.pure hfsL.out ?_
        rfl
      have e1 : decide (k < n) = true := decide_eq_true hk
      have hLn := hL.out
      have hL2n := hll2.out
      have hlenq := hlen.out
      have hwk : k < 4611686018427387904 := by omega
      have hk2 : k < L2.length := by omega
      have a1 : indexAddrA 5 (k : Int) (.own id 5 0 n (some n)) = some (.optr id 5 k 0) := by rw [ia_onat hk, Nat.zero_add]
      have g1 : (arE L R)[k]? = some (gt L k).av := arE_get (by omega)
      have hib := IsL.ia (IsT.isL hwT.out) (i := k) (by rw [List.length_map]; exact hk2)
      rw [List.getElem_map, ← gt_get hk2] at hib
      have hpe : pr (gt L k) = pr (gt L2 k) := by
        have h1 := map_gt (L := L) (k := k) (by omega)
        have h2 := map_gt (L := L2) (k := k) (by omega)
        rw [hfin.out] at h1
        exact Option.some.inj (h1.symm.trans h2)
      have hle := le_id (gt L k).id (gt L2 k).id
      rw [decide_eq_true (show (gt L k).id = (gt L2 k).id from congrArg Prod.fst hpe)] at hle
      have hx : J (n - (k + 1)) (e4e (oS id n (some n)) w (k + 1)) (stH O0 id L R) := by
        rw [hJ.out]
        exact ⟨k + 1, by omega, rfl, rfl, rfl⟩
      generalize gt L k = x at *
      generalize gt L2 k = y at *
      unfold stH oS at *
      rw [show x.av = .agg [.val (.int .u8 x.id.y), .val (.int .i64 x.id.n), .val (.int .u8 x.bed), .val (.int .i64 x.at_), .val (.int .i64 x.spot)] from rfl] at g1
      rw [show y.av = .agg [.val (.int .u8 y.id.y), .val (.int .i64 y.id.n), .val (.int .u8 y.bed), .val (.int .i64 y.at_), .val (.int .i64 y.spot)] from rfl] at hib
      have hl1 : k + 1 ≤ (arE L R).length := by rw [arE_len]; omega
      generalize arE L R = E at *
      replace hk := (show Aside _ from hk)
      replace hkn := (show Aside _ from hkn)
      replace hLn := (show Aside _ from hLn)
      replace hL2n := (show Aside _ from hL2n)
      replace hlenq := (show Aside _ from hlenq)
      replace hpe := (show Aside _ from hpe)
      replace hk2 := (show Aside _ from hk2)
      replace hx := (show Aside _ from hx)
      (repeat' first
    | simp (contextual := true) (maxSteps := 4000000) only [fwc, fwe, fww, reduceIte, ↓reduceIte, Nat.reduceAdd, Nat.reduceLeDiff, Nat.reduceEqDiff, Nat.reduceLT, Nat.reduceSub, reduceCtorEq, Int.reduceEq, Int.reduceLT, Int.reduceLE, Int.reduceNeg, Int.reduceToNat, Int.reduceAdd, Int.reduceSub, Nat.reduceMul, part_cell, part_agg, ilt_nat, wrap_succ, *]
    | (refine seqK_now ?_)
    | (refine retK_now ?_)
    | (refine retK_now' ?_)
    | (intro q hq)
    | (refine cond_intro (fun hc => ?_) (fun hc => ?_)))
      refine loopK_now (n - (k + 1)) (by have := hk.out; omega) ?_
      exact hx.out
    have e0 : decide (i < C.length) = true := decide_eq_true hi
    have hwi : i < 4611686018427387904 := by have := hcl.out; omega
    rw [List.drop_eq_getElem_cons hi] at hch
    obtain ⟨m, hcro⟩ := cro hch hno
    have hzs := hsg.out _ (List.getElem_mem hi)
    have hia := IsL.ia (IsT.isL hlT.out) (i := i) (by rw [List.length_map]; exact hi)
    rw [List.getElem_map] at hia
    generalize C[i] = z at *
    rw [show z.av = .agg [.val (.int .u8 z.a.y), .val (.int .i64 z.a.n), .val (.int .u8 z.b.y), .val (.int .i64 z.b.n), .val (.int .i64 z.s)] from rfl] at hia
    have hx : I (C.length - (i + 1)) (e4c d lA (oS id n (some n)) w (i + 1)) (stH O0 id (swp L m (m + 1)) R) := by
      rw [hI.out]
      exact ⟨i + 1, _, by omega, rfl, (sw_len _ _ _).trans hL, hcro.next, hcro.nd, rfl, rfl⟩
    have hmn : m + 1 < n := by have := hcro.lt; omega
    clear hch hno
    obtain ⟨J, hJ⟩ := hideI (fun t e O' => ∃ k, k + 1 ≤ n ∧ t = n - k ∧ O' = stH O0 id L R ∧ e = e4d d lA (oS id n (some n)) w i (atv m k) k)
    replace hi := (show Aside _ from hi)
    replace hiC := (show Aside _ from hiC)
    replace hcro := (show Aside _ from hcro)
    replace hzs := (show Aside _ from hzs)
    replace hL := (show Aside _ from hL)
    replace hx := (show Aside _ from hx)
    replace hmn := (show Aside _ from hmn)
    unfold oS
    (repeat' first
    | simp (contextual := true) (maxSteps := 4000000) only [fwc, fwe, fww, reduceIte, ↓reduceIte, Nat.reduceAdd, Nat.reduceLeDiff, Nat.reduceEqDiff, Nat.reduceLT, Nat.reduceSub, reduceCtorEq, Int.reduceEq, Int.reduceLT, Int.reduceLE, Int.reduceNeg, Int.reduceToNat, Int.reduceAdd, Int.reduceSub, Nat.reduceMul, part_cell, part_agg, ilt_nat, *]
    | (refine seqK_now ?_)
    | (refine retK_now ?_)
    | (refine retK_now' ?_)
    | (intro q hq)
    | (refine cond_intro (fun hc => ?_) (fun hc => ?_)))
    refine cmd_loop J n (by
      rw [hJ.out]
      exact ⟨0, by have := hmn.out; omega, rfl, rfl, rfl⟩) ?_
    intro t e O' hh
    rw [hJ.out] at hh
    obtain ⟨k, hkn, rfl, hOH, rfl⟩ := hh
    rw [hOH]
    clear hOH O'
    have hLn := hL.out
    have hlenq := hlen.out
    have hmnq := hmn.out
    have hwk : k < 4611686018427387904 := by omega
    by_cases hk : k + 1 < n
    · have e1 : decide (k + 1 < n) = true := decide_eq_true hk
      have a1 : indexAddrA 5 (k : Int) (.own id 5 0 n (some n)) = some (.optr id 5 k 0) := by rw [ia_onat (by omega), Nat.zero_add]
      have g1 : (arE L R)[k]? = some (gt L k).av := arE_get (by omega)
      have hl1 : k + 1 ≤ (arE L R).length := by rw [arE_len]; omega
      have hle := le_id (gt L k).id z.a
      by_cases hkm : k = m
      · have hxa : (gt L k).id = z.a := by rw [hkm]; exact hcro.out.a
        have hyb : (gt L (k + 1)).id = z.b := by rw [hkm]; exact hcro.out.b
        have a2 : indexAddrA 5 ((k + 1 : Nat) : Int) (.own id 5 0 n (some n)) = some (.optr id 5 (k + 1) 0) := by rw [ia_onat hk, Nat.zero_add]
        have g2 : (arE L R)[k + 1]? = some (gt L (k + 1)).av := arE_get (by omega)
        have hl2 : k + 1 + 1 ≤ (arE L R).length := by rw [arE_len]; omega
        have hle2 := le_id (gt L (k + 1)).id z.b
        rw [decide_eq_true hxa] at hle
        rw [decide_eq_true hyb] at hle2
        have hy : J (n - (k + 1)) (e4d d lA (oS id n (some n)) w i (k : Int) (k + 1)) (stH O0 id L R) := by
          rw [hJ.out]
          exact ⟨k + 1, by omega, rfl, rfl, by unfold atv; rw [if_pos (by omega), hkm]⟩
        generalize gt L k = x at *
        generalize gt L (k + 1) = y at *
        unfold e4d stH oS at *
        rw [show x.av = .agg [.val (.int .u8 x.id.y), .val (.int .i64 x.id.n), .val (.int .u8 x.bed), .val (.int .i64 x.at_), .val (.int .i64 x.spot)] from rfl] at g1
        rw [show y.av = .agg [.val (.int .u8 y.id.y), .val (.int .i64 y.id.n), .val (.int .u8 y.bed), .val (.int .i64 y.at_), .val (.int .i64 y.spot)] from rfl] at g2
        generalize arE L R = E at *
        replace hk := (show Aside _ from hk)
        replace hkn := (show Aside _ from hkn)
        replace hLn := (show Aside _ from hLn)
        replace hlenq := (show Aside _ from hlenq)
        replace hmnq := (show Aside _ from hmnq)
        replace hkm := (show Aside _ from hkm)
        replace hxa := (show Aside _ from hxa)
        replace hyb := (show Aside _ from hyb)
        replace hy := (show Aside _ from hy)
        (repeat' first
    | simp (contextual := true) (maxSteps := 4000000) only [fwc, fwe, fww, reduceIte, ↓reduceIte, Nat.reduceAdd, Nat.reduceLeDiff, Nat.reduceEqDiff, Nat.reduceLT, Nat.reduceSub, reduceCtorEq, Int.reduceEq, Int.reduceLT, Int.reduceLE, Int.reduceNeg, Int.reduceToNat, Int.reduceAdd, Int.reduceSub, Nat.reduceMul, part_cell, part_agg, ilt_nat, wrap_succ, *]
    | (refine seqK_now ?_)
    | (refine retK_now ?_)
    | (refine retK_now' ?_)
    | (intro q hq)
    | (refine cond_intro (fun hc => ?_) (fun hc => ?_)))
        refine loopK_now (n - (k + 1)) (by have := hk.out; omega) ?_
        exact hy.out
      · have hxa : ¬ (gt L k).id = z.a := hcro.out.no k (by omega) hkm
        rw [decide_eq_false hxa] at hle
        have hy : J (n - (k + 1)) (e4d d lA (oS id n (some n)) w i (atv m k) (k + 1)) (stH O0 id L R) := by
          rw [hJ.out]
          exact ⟨k + 1, by omega, rfl, rfl, by
            have : atv m (k + 1) = atv m k := by
              unfold atv
              by_cases h : m < k
              · rw [if_pos h, if_pos (by omega)]
              · rw [if_neg h, if_neg (by omega)]
            rw [this]⟩
        generalize gt L k = x at *
        generalize atv m k = av at *
        unfold e4d stH oS at *
        rw [show x.av = .agg [.val (.int .u8 x.id.y), .val (.int .i64 x.id.n), .val (.int .u8 x.bed), .val (.int .i64 x.at_), .val (.int .i64 x.spot)] from rfl] at g1
        generalize arE L R = E at *
        replace hk := (show Aside _ from hk)
        replace hkn := (show Aside _ from hkn)
        replace hLn := (show Aside _ from hLn)
        replace hlenq := (show Aside _ from hlenq)
        replace hmnq := (show Aside _ from hmnq)
        replace hkm := (show Aside _ from hkm)
        replace hxa := (show Aside _ from hxa)
        replace hy := (show Aside _ from hy)
        (repeat' first
    | simp (contextual := true) (maxSteps := 4000000) only [fwc, fwe, fww, reduceIte, ↓reduceIte, Nat.reduceAdd, Nat.reduceLeDiff, Nat.reduceEqDiff, Nat.reduceLT, Nat.reduceSub, reduceCtorEq, Int.reduceEq, Int.reduceLT, Int.reduceLE, Int.reduceNeg, Int.reduceToNat, Int.reduceAdd, Int.reduceSub, Nat.reduceMul, part_cell, part_agg, ilt_nat, wrap_succ, *]
    | (refine seqK_now ?_)
    | (refine retK_now ?_)
    | (refine retK_now' ?_)
    | (intro q hq)
    | (refine cond_intro (fun hc => ?_) (fun hc => ?_)))
        refine loopK_now (n - (k + 1)) (by have := hk.out; omega) ?_
        exact hy.out
    have e1 : decide (k + 1 < n) = false := decide_eq_false hk
    have hat : atv m k = (m : Int) := by unfold atv; rw [if_pos (by omega)]
    rw [hat]
    have dm0 : decide ((m : Int) < 0) = false := decide_eq_false (by omega)
    have hwm : m < 4611686018427387904 := by omega
    have a1 : indexAddrA 5 (m : Int) (.own id 5 0 n (some n)) = some (.optr id 5 m 0) := by rw [ia_onat (by omega), Nat.zero_add]
    have a2 : indexAddrA 5 ((m + 1 : Nat) : Int) (.own id 5 0 n (some n)) = some (.optr id 5 (m + 1) 0) := by rw [ia_onat (by omega), Nat.zero_add]
    have g1 : (arE L R)[m]? = some (gt L m).av := arE_get (by omega)
    have g2 : (arE L R)[m + 1]? = some (gt L (m + 1)).av := arE_get (by omega)
    have hst := arE_sw (L := L) (R := R) (i := m) (j := m + 1) (by omega) (by omega)
    have hl1 : m + 1 ≤ (arE L R).length := by rw [arE_len]; omega
    have hl2 : m + 1 + 1 ≤ (arE L R).length := by rw [arE_len]; omega
    have hxp := hcro.out.ab
    have hyq := hcro.out.bb
    generalize gt L m = x at *
    generalize gt L (m + 1) = y at *
    unfold e4d stH oS at *
    rw [show x.av = .agg [.val (.int .u8 x.id.y), .val (.int .i64 x.id.n), .val (.int .u8 x.bed), .val (.int .i64 x.at_), .val (.int .i64 x.spot)] from rfl] at g1 hst
    rw [show y.av = .agg [.val (.int .u8 y.id.y), .val (.int .i64 y.id.n), .val (.int .u8 y.bed), .val (.int .i64 y.at_), .val (.int .i64 y.spot)] from rfl] at g2 hst
    generalize arE L R = E at *
    have w1 : E.take m ++ [AV.agg [.val (.int .u8 y.id.y), .val (.int .i64 y.id.n), .val (.int .u8 y.bed), .val (.int .i64 y.at_), .val (.int .i64 y.spot)]] ++ E.drop (m + 1) = E.set m (.agg [.val (.int .u8 y.id.y), .val (.int .i64 y.id.n), .val (.int .u8 y.bed), .val (.int .i64 y.at_), .val (.int .i64 y.spot)]) := by rw [List.set_eq_take_append_cons_drop, if_pos (by omega)]; simp
    have g3 : (E.set m (AV.agg [.val (.int .u8 y.id.y), .val (.int .i64 y.id.n), .val (.int .u8 y.bed), .val (.int .i64 y.at_), .val (.int .i64 y.spot)]))[(m + 1)]? = some (.agg [.val (.int .u8 y.id.y), .val (.int .i64 y.id.n), .val (.int .u8 y.bed), .val (.int .i64 y.at_), .val (.int .i64 y.spot)]) := by rw [List.getElem?_set, if_neg (by omega)]; exact g2
    have hst2 := hst
    generalize hsw : arE (swp L m (m + 1)) R = E2 at *
    have wm := wrap_succ hwm
    obtain ⟨u, hu⟩ : ∃ u, m + 1 = u := ⟨_, rfl⟩
    rw [hu] at wm a2 g2 hst hl1 hl2 w1 g3
    replace hu := (show Aside _ from hu)
    replace hk := (show Aside _ from hk)
    replace hkn := (show Aside _ from hkn)
    replace hLn := (show Aside _ from hLn)
    replace hlenq := (show Aside _ from hlenq)
    replace hmnq := (show Aside _ from hmnq)
    replace hat := (show Aside _ from hat)
    clear hst2
    rcases hpq.out with ⟨rfl, rfl, rfl⟩ | ⟨rfl, rfl, rfl⟩
    · have dx : decide (x.bed = 0) = false := decide_eq_false (by rw [hxp]; omega)
      have dxy : decide (x.bed = y.bed) = false := decide_eq_false (by rw [hxp, hyq]; omega)
      have dz : decide (z.s = -1) = true := decide_eq_true (by have := hzs.out; rw [if_pos rfl] at this; exact this)
      have dd : decide ((1 : Int) = 1) = true := by decide
      have ds : decide ((-1 : Int) = -1) = true := by decide
      replace hxp := (show Aside _ from hxp)
      replace hyq := (show Aside _ from hyq)
      (repeat' first
    | simp (contextual := true) (maxSteps := 4000000) only [fwc, fwe, fww, reduceIte, ↓reduceIte, Nat.reduceAdd, Nat.reduceLeDiff, Nat.reduceEqDiff, Nat.reduceLT, Nat.reduceSub, reduceCtorEq, Int.reduceEq, Int.reduceLT, Int.reduceLE, Int.reduceNeg, Int.reduceToNat, Int.reduceAdd, Int.reduceSub, Nat.reduceMul, part_cell, part_agg, ilt_nat, wrap_succ, *]
    | (refine seqK_now ?_)
    | (refine retK_now ?_)
    | (refine retK_now' ?_)
    | (intro q hq)
    | (refine cond_intro (fun hc => ?_) (fun hc => ?_)))
      refine loopK_now (C.length - (i + 1)) (by have := hi.out; omega) ?_
      exact hx.out
    · have dx : decide (x.bed = 0) = true := decide_eq_true hxp
      have dxy : decide (x.bed = y.bed) = false := decide_eq_false (by rw [hxp, hyq]; omega)
      have dz : decide (z.s = 1) = true := decide_eq_true (by have := hzs.out; rw [if_neg (by omega)] at this; exact this)
      have dd : decide ((0 : Int) = 1) = false := by decide
      have ds : decide ((1 : Int) = -1) = false := by decide
      replace hxp := (show Aside _ from hxp)
      replace hyq := (show Aside _ from hyq)
      (repeat' first
    | simp (contextual := true) (maxSteps := 4000000) only [fwc, fwe, fww, reduceIte, ↓reduceIte, Nat.reduceAdd, Nat.reduceLeDiff, Nat.reduceEqDiff, Nat.reduceLT, Nat.reduceSub, reduceCtorEq, Int.reduceEq, Int.reduceLT, Int.reduceLE, Int.reduceNeg, Int.reduceToNat, Int.reduceAdd, Int.reduceSub, Nat.reduceMul, part_cell, part_agg, ilt_nat, wrap_succ, *]
    | (refine seqK_now ?_)
    | (refine retK_now ?_)
    | (refine retK_now' ?_)
    | (intro q hq)
    | (refine cond_intro (fun hc => ?_) (fun hc => ?_)))
      refine loopK_now (C.length - (i + 1)) (by have := hi.out; omega) ?_
      exact hx.out
end Go.Proofs.Ytembkknplmcamaa

namespace Go.Proofs.Ytembkknplmcamaa
open Go.Ab Go.ChangeShapes Go.WideShapes Go.ChangeAt Go.RowKit

theorem own : ownKnob Try.prog.godebug = none := by kernel_rfl
theorem laid : laidOutB Try.prog = true := by kernel_rfl
theorem wf_u8 {n : Int} (h : (Lit.int .u8 n).wf = true) : 0 ≤ n ∧ n ≤ 255 := by
  simpa [Lit.wf, IntKind.min, IntKind.max, IntKind.signed, IntKind.bits] using h
theorem wf_i64 {n : Int} (h : (Lit.int .i64 n).wf = true) : -9223372036854775808 ≤ n ∧ n ≤ 9223372036854775807 := by
  simpa [Lit.wf, IntKind.min, IntKind.max, IntKind.signed, IntKind.bits] using h

def layB : Lay := .slice true (.int .u8 (.int .u8 .nil)) .nil
theorem open_B {s : AV} (h : LayOK layB [s]) : ∃ P : List Put, IsL 2 s (P.map Put.av) ∧ ∀ p ∈ P, p.ok := by
  obtain ⟨s', l, vs', e, h1, _, h3, h4⟩ := h
  simp only [List.cons.injEq] at e
  obtain ⟨rfl, _⟩ := e
  obtain ⟨X, rfl, hX⟩ := map_of_all (f := Put.av) (Q := Put.ok) (l := l) (fun x hx => by
    obtain ⟨es, rfl, y, vs', rfl, hw1, n, vs', rfl, hw2, rfl⟩ := h3 x hx
    have k1 := wf_u8 hw1
    have k2 := wf_u8 hw2
    refine ⟨⟨y.toNat, n.toNat⟩, ?_, by unfold Put.ok; simp only; omega⟩
    unfold Put.av
    rw [show ((y.toNat : Nat) : Int) = y by omega, show ((n.toNat : Nat) : Int) = n by omega])
  exact ⟨X, h1, hX⟩
end Go.Proofs.Ytembkknplmcamaa

namespace Go.Proofs.Ytembkknplmcamaa
open Go.Ab Go.ChangeShapes Go.WideShapes Go.ChangeAt Go.RowKit

theorem OrdersStep_args (vs : List AV) (h : ArgsOK [(false, layB), (false, .int .i64 .nil), (false, .int .u8 .nil)] vs) : PureA Try.prog 4 vs (.val (.bool true)) := by
  obtain ⟨a, vs', es, rfl, rfl, h1, b, vs', es', rfl, rfl, h2, c, vs', es'', rfl, rfl, h3, rfl⟩ := h
  obtain ⟨P, hs, hP⟩ := open_B h1
  obtain ⟨m, vs1, e1, hm, e1'⟩ := h2
  obtain ⟨n, vs2, e2, hn, e2'⟩ := h3
  simp only [List.cons.injEq] at e1 e2
  obtain ⟨rfl, rfl⟩ := e1
  obtain ⟨rfl, rfl⟩ := e2
  exact OrdersStep_ok a P m n hs hP (wf_u8 hn).1 (wf_i64 hm)
set_option maxRecDepth 100000 in
theorem OrdersStep_lifted (os : Os) (started : os.Started) (H : Type) (enc : TypeId × Value → H) :
    ReturnsInHanded {} Try.checked os 4 .any (Rows.ordersStepSpec.pre6 enc Try.prog Try.f4 Rows.ordersStepRow.domain false) (Rows.ordersStepSpec.post enc Try.prog Try.f4 false true false false) := by
  refine returnsInHanded_of_change (C := Try.checked) own started (by kernel_rfl) Try.func4
    (ChangeSpec.witness6 (enc := enc) (C := Try.checked) false ⟨#[], #[.slice none 0 0, .int .i64 0, .int .u8 0], []⟩ 8 (by kernel_rfl) (by kernel_rfl) (by kernel_rfl) (by kernel_rfl)) ?_
  intro W base args ds gs before hval hW _ _
  exact law_calls (lays := [(false, layB), (false, .int .i64 .nil), (false, .int .u8 .nil)]) laid (of_decide_eq_true (by kernel_rfl)) (by kernel_rfl) (by kernel_rfl) rfl (fun ds hds => by
    match ds, hds with
    | [d1, d2, d3], _ => rfl) OrdersStep_args W base args ds gs before hval hW

theorem OrdersStep_holds : Rows.OrdersStepSaid :=
  OpenClaim.holds_of_wide 4 Try.f4 rfl rfl rfl rfl rfl rfl rfl ⟨rfl, rfl, rfl, rfl, rfl⟩ rfl rfl rfl rfl rfl (by kernel_rfl) Try.func4 (by kernel_rfl)
    (of_decide_eq_true (by kernel_rfl)) (by unfold Func.isWrapper; first | (rw [if_pos (by decide +kernel)]; kernel_rfl) | (rw [if_neg (by decide +kernel)]; exact ⟨rfl, rfl⟩))
    (fun os started H enc _ => OrdersStep_lifted os started H enc)

end Go.Proofs.Ytembkknplmcamaa
