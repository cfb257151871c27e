/- The law YarnsActs of the given program: for every input the call returns true, and its arguments read as before. Here: the walk over abstract states. -/
import Derived.Test.YtkagdnkbghnckaaFa
import Derived.Orders
import Derived.Deep.LoopGhost
import Derived.ProofKit
import Derived.OpenShut
import Derived.Deep.Slices
import Derived.Carry
import Derived.ChangeSame
set_option linter.unusedSimpArgs false
set_option linter.unusedVariables false
/- The abstract walk, twelfth part: what is shown of an instruction on abstract states holds of the operation that it was read off. -/
namespace Go.Ab

section
variable {P : Program} {W0 : World} {g : Gh} {O : Heap} {w : World} {K : AV → Heap → Prop}

/-- What OpSem asks of a result. -/
def ResOK (P : Program) (W0 : World) (g : Gh) (K : AV → Heap → Prop) : Result Next → Prop
  | .ok (.value v) w' => Out W0 g K v w'
  | .ok .skip w' => Out W0 g K undef w'
  | .ok (.enter f args) w' => Calls P f args w' fun en w'' => ∃ v, en = .returned v ∧ Out W0 g K v w''
  | _ => False

theorem OpSem.of {o : Oper} {e : Env} (h : ∀ (g : Gh) (W0 w : World) (ρ : Operand → Value), Inv W0 g O w → (∀ x, Reads g (e.opd x) (ρ x)) → ResOK P W0 g K ((execOp ρ o).run P w)) : OpSem P o e O K :=
  fun g W0 w ρ hI hρ => by
    have := h g W0 w ρ hI hρ
    unfold ResOK at this
    exact this

theorem res_pure {s : Sem Value} {r : AV} (hI : Inv W0 g O w) (hs : ∃ z, s.run P w = .ok z w ∧ Reads g r z) (hk : K r O) : ResOK P W0 g K ((do pure (Next.value (← s)) : Sem Next).run P w) := by
  obtain ⟨z, h1, h2⟩ := hs
  simp only [Sem.run_bind, h1, Result.andThen_ok, Sem.run_pure]
  exact Out.now hI h2 hk

theorem res_out {s : Sem Value} (hs : ∃ z w', s.run P w = .ok z w' ∧ Out W0 g K z w') : ResOK P W0 g K ((do pure (Next.value (← s)) : Sem Next).run P w) := by
  obtain ⟨z, w', h1, h2⟩ := hs
  simp only [Sem.run_bind, h1, Result.andThen_ok, Sem.run_pure]
  exact h2

theorem callFunc_run {f : FuncId} (h : callable P f = true) (args : Array Value) (w : World) : (callFunc f args).run P w = .ok (.enter f args) w := by
  unfold callable at h
  cases hf : P.funcs[f]? with
  | none => simp [hf] at h
  | some fn =>
    rw [hf] at h
    simp only [Bool.and_eq_true, bne_iff_ne, ne_eq] at h
    obtain ⟨h1, h2⟩ := h
    unfold callFunc
    obtain ⟨b, hb⟩ := Option.isSome_iff_exists.1 h2
    simp [hf, h1, hb]

theorem call_sound {f : FuncId} {args : List AV} {vs : Array Value} (hI : Inv W0 g O w) (h : CallA P f args O K) (hs : vs.size = args.length) (hr : ∀ (i : Nat) x v, args[i]? = some x → vs[i]? = some v → Reads g x v) :
    ResOK P W0 g K ((callFunc f vs).run P w) := by
  rw [callFunc_run h.1]
  exact h.2 g W0 w vs hI hs hr

theorem op_sound {ow : Bool} {o : Oper} {ci : CI} {e : Env} (hc : compileOp P ow o = some ci) (h : CiSem P ci e O K) : OpSem P o e O K := by
  refine OpSem.of fun g W0 w ρ hI hρ => ?_
  unfold compileOp at hc
  unfold execOp
  cases hop : o.op <;> rw [hop] at hc <;> simp only [] at hc <;> simp only [] <;> try (cases hc; done)
  case move x =>
    cases hc
    obtain ⟨r, hr, hk⟩ := h
    cases hr
    exact Out.now hI (hρ x) hk
  case assign x =>
    cases hc
    obtain ⟨r, hr, hk⟩ := h
    cases hr
    exact Out.now hI (hρ x) hk
  case pick c a b =>
    cases hc
    obtain ⟨r, hr, hk⟩ := h
    have hr : pickA (e.opd c) (e.opd a) (e.opd b) = some r := hr
    unfold pickA at hr
    split at hr
    · rename_i t ht
      cases hr
      have := hρ c
      rw [ht] at this
      rw [this.val_inv]
      simp only [Sem.run_bind, asBool, Sem.run_pure, Result.andThen_ok]
      refine Out.now hI ?_ hk
      cases t
      · exact hρ b
      · exact hρ a
    · cases hr
  case alloc E =>
    split at hc
    · rename_i s z hs hz
      cases hc
      obtain ⟨i, zv, hi, hzv, rfl, hzs, hz1, h0⟩ := zeroB_inv hz
      obtain ⟨i', hi', rfl⟩ := underlying_of_sizeB hs
      rw [hi] at hi'
      cases hi'
      have hzc := zeroA_cells (g := g) zv hz1
      have hst : (zeroA zv).stor = true := by
        unfold zeroA
        split
        · rfl
        · rename_i hna
          have := hz1 0 zv (by cases zv <;> first | rfl | (rename_i cs; exact (hna cs rfl).elim))
          exact this
      have hrd : Reads g (zeroA zv) zv := by
        unfold zeroA
        split
        · exact CellsIn.agg hzc
        · exact .val _
      obtain ⟨w', h1, h2⟩ := newVar_sound (P := P) (E := E) hI hrd (hzc.1.symm.trans hzs) hst h
      refine res_out ⟨_, w', ?_, h2⟩
      simp [Instr.alloc, zeroValue, typeInfo, hi, hzv, h1]
    · cases hc
  case box E x =>
    rw [Option.bind_eq_some_iff] at hc
    obtain ⟨s, hs, hc⟩ := hc
    split at hc
    · cases hc
      obtain ⟨hst, h⟩ := h
      have := storAll_inv hst 0 _ rfl
      obtain ⟨w', h1, h2⟩ := newVar_sound (P := P) (E := E) hI (hρ x) this.1 this.2 h
      exact res_out ⟨_, w', by simp [Instr.box, h1], h2⟩
    · cases hc
  case build t parts =>
    unfold compileBuild at hc
    cases hcb : compileBuild P t parts.toList with
    | none => unfold compileBuild at hcb; rw [hcb] at hc; cases hc
    | some cj =>
      have hcj : cj = ci := by unfold compileBuild at hcb; rw [hcb] at hc; cases hc; rfl
      subst hcj
      have hform : ∃ z ps, cj = .build z ps := by
        unfold compileBuild at hcb
        split at hcb
        · split at hcb
          · split at hcb
            · rw [Option.map_eq_some_iff] at hcb; obtain ⟨ps, _, rfl⟩ := hcb; exact ⟨_, ps, rfl⟩
            · cases hcb
          · split at hcb
            · cases hcb; exact ⟨_, _, rfl⟩
            · cases hcb
          · cases hcb
        · cases hcb
      obtain ⟨z, ps, rfl⟩ := hform
      obtain ⟨r, hr, hk⟩ := h
      have hr : (fillA z (ps.map fun p => (p.1, p.2.1, e.opd p.2.2))).map .agg = some r := hr
      rw [Option.map_eq_some_iff] at hr
      obtain ⟨m, hm, rfl⟩ := hr
      obtain ⟨v, h1, h2⟩ := build_sound hcb hρ hm w
      refine res_pure hI ⟨v, ?_, h2⟩ hk
      have : (Array.map (fun x => (x.1, ρ x.2)) parts) = (parts.toList.map fun p => (p.1, ρ p.2)).toArray := by
        apply Array.ext'; simp
      rw [this]
      exact h1
  case buildSlice t n parts =>
    split at hc
    · rename_i el ht
      split at hc
      · rename_i s hs
        split at hc
        · rename_i hcond
          obtain ⟨hk, hn, hz⟩ := hcond
          obtain ⟨za, hz⟩ := Option.isSome_iff_exists.1 hz
          have hparts : (Array.map (fun x => (x.1, ρ x.2)) parts) = (parts.toList.map fun p => (p.1, ρ p.2)).toArray := by
            apply Array.ext'; simp
          have hl : (parts.toList.map (·.2)).length = n := by have := congrArg List.length hk; simpa using this
          obtain ⟨i, zv, hi, hzv, _, hzs, _, h0⟩ := zeroB_inv hz
          have hs0 : 0 < s := by
            obtain ⟨i', hi', rfl⟩ := underlying_of_sizeB hs
            rw [hi] at hi'
            cases hi'
            exact h0
          have hnm : n ≤ maxLen := by
            have : n * 1 ≤ n * s := Nat.mul_le_mul_left _ hs0
            unfold maxLen
            omega
          cases ow with
          | true =>
            cases hc
            obtain ⟨hst, h⟩ := h
            have hrun := buildSlice_run (P := P) ht hs hz hk hn hρ hst w
            have hrow := rowOfVals (g := g) (sz := s) hst (All2.map hρ (parts.toList.map (·.2)))
            refine res_out ⟨_, _, by rw [hparts]; exact hrun, ?_⟩
            have := new_own (E := el) (rest := #[]) (cap := some n) hI hrow (by rw [hrow.size]; simp) (Nat.le_refl _) (by rw [List.length_map, hl]; exact hnm) (fun k e => by cases e; rw [List.length_map, hl]) (K := K) (fun id _ hid => by
              have := h id hid
              rw [hl] at this
              rw [List.length_map, hl]
              exact this)
            rw [List.length_map, hl] at this
            simpa using this
          | false =>
            cases hc
            obtain ⟨r, hr, hk'⟩ := h
            have hr : (if storAll s ((parts.toList.map (·.2)).map e.opd) = true then some (.list s true ((parts.toList.map (·.2)).map e.opd)) else none) = some r := hr
            split at hr
            · rename_i hst
              cases hr
              have hrun := buildSlice_run (P := P) ht hs hz hk hn hρ hst w
              have hrow := rowOfVals (g := g) (sz := s) hst (All2.map hρ (parts.toList.map (·.2)))
              refine res_out ⟨_, _, by rw [hparts]; exact hrun, ?_⟩
              have := new_frozen (E := el) (rest := #[]) hs0 true hI hrow (Nat.le_refl _) (by rw [List.length_map, hl]; exact hnm) (fun _ => rfl) (K := K) hk'
              rw [List.length_map, hl] at this
              simpa using this
            · cases hr
        · cases hc
      · cases hc
    · cases hc
  case load t x =>
    rw [Option.map_eq_some_iff] at hc
    obtain ⟨s, hs, rfl⟩ := hc
    obtain ⟨r, hr, hk⟩ := h
    exact res_pure hI (load_sound hs rfl (sizeB_u hs) hI (hρ x) hr) hk
  case store t x v =>
    rw [Option.map_eq_some_iff] at hc
    obtain ⟨s, hs, rfl⟩ := hc
    obtain ⟨O', hO, hk⟩ := h
    obtain ⟨w', h1, h2⟩ := store_sound (P := P) hs hI (hρ x) (hρ v) hO
    simp only [Sem.run_bind, h1, Result.andThen_ok, Sem.run_pure]
    exact ⟨g, _, _, .refl g, h2, .junk _, hk⟩
  case nilCheck x =>
    cases hc
    obtain ⟨r, hr, hk⟩ := h
    have hx := hρ x
    have hr : (match e.opd x with
      | .optr id s i k => some (.optr id s i k)
      | .ref y => some (.ref y)
      | .clo (.func f) a b => some (.clo (.func f) a b)
      | _ => none) = some r := hr
    clear hρ
    generalize ρ x = v at hx
    split at hr
    · rename_i heq
      cases hr
      rw [heq] at hx
      cases hx with
      | optr _ _ _ _ b room h0 => exact Out.now hI (.optr _ _ _ _ b room h0) hk
    · rename_i heq
      cases hr
      rw [heq] at hx
      cases hx with
      | ref _ b o vs h5 h6 => exact Out.now hI (.ref _ b o vs h5 h6) hk
    · rename_i heq
      cases hr
      rw [heq] at hx
      cases hx with
      | clo _ _ _ cs ds h1 h2 h3 h4 => exact Out.now hI (.clo _ _ _ cs ds h1 h2 h3 h4) hk
    · cases hr
  case binOp op t x y u =>
    unfold compileBin at hc
    split at hc
    · cases hc
      obtain ⟨r, hr, hk⟩ := h
      exact res_pure hI (bin_sound (hρ x) (hρ y) hr w) hk
    · rename_i ht
      split at hc
      · cases hc
        obtain ⟨r, hr, hk⟩ := h
        exact res_pure hI (binb_sound (neg := false) ht (hρ x) (hρ y) hr w) hk
      · cases hc
        obtain ⟨r, hr, hk⟩ := h
        exact res_pure hI (binb_sound (neg := true) ht (hρ x) (hρ y) hr w) hk
      · cases hc
    · rename_i el ht
      have fin : ∀ neg, ci = .eqnil 0 neg x → ρ y = .slice none 0 0 → ResOK P W0 g K ((do pure (Next.value (← (do eqGuard (if neg then .neq else .eql) t x (.const (.slice none 0 0)) (ρ x) (ρ y); binOp (if neg then .neq else .eql) t (ρ x) (ρ y) : Sem Value))) : Sem Next).run P w) := by
        intro neg hci hy
        subst hci
        obtain ⟨r, hr, hk⟩ := h
        have hr : (isNilA 0 (e.opd x)).map (fun b => AV.val (.bool (if neg then !b else b))) = some r := hr
        rw [Option.map_eq_some_iff] at hr
        obtain ⟨b, hb, rfl⟩ := hr
        rw [hy]
        exact res_pure hI ⟨_, eqnil_slice ht (hρ x) hb w, .val _⟩ hk
      split at hc
      · cases hc
        exact fin false rfl (hρ (.const (.slice none 0 0))).val_inv
      · cases hc
        exact fin true rfl (hρ (.const (.slice none 0 0))).val_inv
      · cases hc
    · rename_i p q r0 ht
      have fin : ∀ neg, ci = .eqnil 1 neg x → ρ y = .nilFunc → ResOK P W0 g K ((do pure (Next.value (← (do eqGuard (if neg then .neq else .eql) t x (.const .nilFunc) (ρ x) (ρ y); binOp (if neg then .neq else .eql) t (ρ x) (ρ y) : Sem Value))) : Sem Next).run P w) := by
        intro neg hci hy
        subst hci
        obtain ⟨r, hr, hk⟩ := h
        have hr : (isNilA 1 (e.opd x)).map (fun b => AV.val (.bool (if neg then !b else b))) = some r := hr
        rw [Option.map_eq_some_iff] at hr
        obtain ⟨b, hb, rfl⟩ := hr
        rw [hy]
        exact res_pure hI ⟨_, eqnil_func ht (hρ x) hb w, .val _⟩ hk
      split at hc
      · cases hc
        exact fin false rfl (hρ (.const .nilFunc)).val_inv
      · cases hc
        exact fin true rfl (hρ (.const .nilFunc)).val_inv
      · cases hc
    · rename_i p q ht
      have fin : ∀ neg, ci = .eqnil 2 neg x → ρ y = .map none → ResOK P W0 g K ((do pure (Next.value (← (do eqGuard (if neg then .neq else .eql) t x (.const (.map none)) (ρ x) (ρ y); binOp (if neg then .neq else .eql) t (ρ x) (ρ y) : Sem Value))) : Sem Next).run P w) := by
        intro neg hci hy
        subst hci
        obtain ⟨r, hr, hk⟩ := h
        have hr : (isNilA 2 (e.opd x)).map (fun b => AV.val (.bool (if neg then !b else b))) = some r := hr
        rw [Option.map_eq_some_iff] at hr
        obtain ⟨b, hb, rfl⟩ := hr
        rw [hy]
        exact res_pure hI ⟨_, eqnil_map ht (hρ x) hb w, .val _⟩ hk
      split at hc
      · cases hc
        exact fin false rfl (hρ (.const (.map none))).val_inv
      · cases hc
        exact fin true rfl (hρ (.const (.map none))).val_inv
      · cases hc
    all_goals first
      | (cases hc; done)
      | (rename_i ht
         have ha : isAggB P t = true := by unfold isAggB; rw [ht]
         split at hc
         · rename_i ks hks
           split at hc
           · rename_i hcond
             obtain ⟨hs, hgd⟩ := hcond
             split at hc
             · cases hc
               obtain ⟨r, hr, hk⟩ := h
               exact res_pure hI (eqagg_sound (neg := false) hks hs ha hgd (hρ x) (hρ y) hr w) hk
             · cases hc
               obtain ⟨r, hr, hk⟩ := h
               exact res_pure hI (eqagg_sound (neg := true) hks hs ha hgd (hρ x) (hρ y) hr w) hk
             · cases hc
           · cases hc
         · cases hc)
  case unOp op t x =>
    cases hc
    obtain ⟨r, hr, hk⟩ := h
    exact res_pure hI (un_sound (hρ x) hr w) hk
  case convert src dst x =>
    split at hc
    · rename_i k hd
      split at hc
      · rename_i hsrc
        cases hc
        obtain ⟨r, hr, hk⟩ := h
        have hr : (intOfA (e.opd x)).map (fun n => AV.val (.int k (k.wrap n))) = some r := hr
        rw [Option.map_eq_some_iff] at hr
        obtain ⟨n, hn, rfl⟩ := hr
        exact res_pure hI ⟨_, conv_sound (by intro e; rw [e] at hsrc; cases hsrc) hd (hρ x) hn w, .val _⟩ hk
      · cases hc
    · cases hc
  case makeFunc fn first cap =>
    cases hc
    obtain ⟨r, hr, hk⟩ := h
    cases hr
    refine res_pure hI ⟨.func fn (first.map ρ) (cap.map ρ), by simp [Instr.makeFunc], .clo fn _ _ _ _ (by simp) (by simp) (fun i x v hx hv => ?_) (fun i x v hx hv => ?_)⟩ hk <;>
    · rw [List.getElem?_map, Option.map_eq_some_iff] at hx
      obtain ⟨o, ho, rfl⟩ := hx
      rw [Array.getElem?_map, Option.map_eq_some_iff] at hv
      obtain ⟨o', ho', rfl⟩ := hv
      have : o = o' := by
        rw [Array.getElem?_toList, ho'] at ho
        cases ho; rfl
      subst this
      exact hρ o
  case fieldAddr s x f =>
    split at hc
    · rename_i fs ht
      rw [Option.map_eq_some_iff] at hc
      obtain ⟨⟨off, sz, agg⟩, hp, rfl⟩ := hc
      obtain ⟨r, hr, hk⟩ := h
      exact res_pure hI (fieldA_sound hI ht hp (hρ x) hr) hk
    · cases hc
  case field t x f =>
    split at hc
    · rename_i fs ht
      rw [Option.map_eq_some_iff] at hc
      obtain ⟨⟨off, sz, agg⟩, hp, rfl⟩ := hc
      obtain ⟨r, hr, hk⟩ := h
      obtain ⟨fd, hf, rfl, hs, h0, rfl⟩ := partOf_inv hp
      have hr : (match e.opd x with
        | .agg l => partA (.agg l) fd.offset sz (isAggB P fd.type)
        | _ => none) = some r := hr
      have hx := hρ x
      clear hρ
      generalize ρ x = v at hx
      split at hr
      · rename_i l heq
        rw [heq] at hx
        cases hx with
        | agg _ cs h1 h2 h3 =>
          obtain ⟨z, hz, hzr⟩ := part_sound hs rfl (sizeB_u hs) (.agg l cs h1 h2 h3) hr w
          exact res_pure hI ⟨z, by simp [Instr.field, run_underlying ht, hf, asAgg, hz], hzr⟩ hk
      · cases hr
    · cases hc
  case indexAddr t x i =>
    split at hc
    · rename_i el ht
      rw [Option.bind_eq_some_iff] at hc
      obtain ⟨s, hs, hc⟩ := hc
      split at hc
      · cases hc
        obtain ⟨r, hr, hk⟩ := h
        have hr : (intOfA (e.opd i)).bind (fun n => indexAddrA s n (e.opd x)) = some r := hr
        rw [Option.bind_eq_some_iff] at hr
        obtain ⟨n, hn, hr⟩ := hr
        exact res_pure hI (indexA_sound hI ht hs (hρ x) (hρ i) hn hr) hk
      · cases hc
    · rename_i n el ht
      rw [Option.bind_eq_some_iff] at hc
      obtain ⟨s, hs, hc⟩ := hc
      split at hc
      · cases hc
        obtain ⟨r, hr, hk⟩ := h
        have hr : (intOfA (e.opd i)).bind (fun m => indexPtrA n s (isAggB P el) m (e.opd x)) = some r := hr
        rw [Option.bind_eq_some_iff] at hr
        obtain ⟨m, hm, hr⟩ := hr
        exact res_pure hI (indexP_sound hI ht hs (hρ x) (hρ i) hm hr) hk
      · cases hc
    · cases hc
  case index t x i =>
    split at hc
    · rename_i n el ht
      rw [Option.bind_eq_some_iff] at hc
      obtain ⟨s, hs, hc⟩ := hc
      split at hc
      · cases hc
        obtain ⟨r, hr, hk⟩ := h
        have hr : (intOfA (e.opd i)).bind (fun m => match e.opd x with
          | .agg l => if 0 ≤ m ∧ m < n then partA (.agg l) (m.toNat * s) s (isAggB P el) else none
          | _ => none) = some r := hr
        rw [Option.bind_eq_some_iff] at hr
        obtain ⟨m, hm, hr⟩ := hr
        split at hr
        · rename_i l heq
          split at hr
          · rename_i hb
            have hx := hρ x
            rw [heq] at hx
            exact res_pure hI (index_sound ht hs rfl (sizeB_u hs) hx (hρ i) hm hb hr w) hk
          · cases hr
        · cases hr
      · cases hc
    · cases hc
  case slice t x lo hi mx =>
    split at hc
    · rename_i el ht
      rw [Option.bind_eq_some_iff] at hc
      obtain ⟨s, hs, hc⟩ := hc
      split at hc
      · rename_i hmx
        cases hc
        obtain ⟨r, hr, hk⟩ := h
        have hop : ∀ o : Option Operand, optReads g (o.map e.opd) (o.map ρ) := fun o => by
          cases o with
          | none => trivial
          | some x => exact hρ x
        refine res_pure hI (slice_sound ht hs (hρ x) (hop lo) (hop hi) (hop mx) ?_ hr) hk
        cases mx with
        | none => exact .inl rfl
        | some m => cases hi with
          | none => simp at hmx
          | some h => exact .inr (by simp)
      · cases hc
    · cases hc
  case extract x i =>
    cases hc
    obtain ⟨r, hr, hk⟩ := h
    exact res_pure hI (extract_sound (hρ x) hr w) hk
  case makeSlice t l c =>
    split at hc
    · rename_i el ht
      split at hc
      · rename_i i z hi hz
        cases hc
        exact res_out (make_sound ht hi hz hI (hρ l) (hρ c) h)
      · cases hc
    · cases hc
  case call c =>
    have harg : ∀ (l : List Operand) (i : Nat) x v, (l.map e.opd)[i]? = some x → (l.map ρ)[i]? = some v → Reads g x v := by
      intro l i x v hx hv
      rw [List.getElem?_map, Option.map_eq_some_iff] at hx hv
      obtain ⟨o, ho, rfl⟩ := hx
      obtain ⟨o', ho', rfl⟩ := hv
      rw [ho] at ho'
      cases ho'
      exact hρ o
    split at hc
    · rename_i f hcal
      split at hc
      · cases hc
        have hf : ρ (.func f) = .func (.func f) #[] #[] := by
          have := hρ (.func f)
          generalize ρ (.func f) = v at this
          cases this with
          | clo _ _ _ cs ds h1 h2 h3 h4 =>
            have e1 : cs = #[] := Array.eq_empty_of_size_eq_zero h1
            have e2 : ds = #[] := Array.eq_empty_of_size_eq_zero h2
            rw [e1, e2]
        simp only [resolve, hcal, hf, Deferred.ofValue, Sem.run_bind, Sem.run_pure, Result.andThen_ok, invoke]
        refine call_sound hI h (by simp) (fun i x v hx hv => harg c.args.toList i x v hx ?_)
        simpa using hv
      · cases hc
    · rename_i x _ hcal
      cases hc
      obtain ⟨f, a, b, heq, h⟩ := h
      have hx := hρ x
      rw [heq] at hx
      have : ∃ cs ds, ρ x = .func (.func f) cs ds ∧ cs.size = a.length ∧ ds.size = b.length ∧ (∀ (i : Nat) x v, a[i]? = some x → cs[i]? = some v → Reads g x v) ∧ (∀ (i : Nat) x v, b[i]? = some x → ds[i]? = some v → Reads g x v) := by
        clear harg hρ h
        generalize ρ x = v at hx
        cases hx with
        | clo _ _ _ cs ds h1 h2 h3 h4 => exact ⟨cs, ds, rfl, h1, h2, h3, h4⟩
      obtain ⟨cs, ds, hfx, s1, s2, r1, r2⟩ := this
      simp only [resolve, hcal, hfx, Deferred.ofValue, Sem.run_bind, Sem.run_pure, Result.andThen_ok, invoke]
      refine call_sound hI h (by simp [s1, s2]) (fun i x v hx hv => ?_)
      by_cases h1 : i < a.length
      · rw [List.append_assoc, List.getElem?_append_left h1] at hx
        rw [Array.append_assoc, Array.getElem?_append_left (by omega)] at hv
        exact r1 i x v hx hv
      · rw [List.append_assoc, List.getElem?_append_right (by omega)] at hx
        rw [Array.append_assoc, Array.getElem?_append_right (by omega), s1] at hv
        by_cases h2 : i - a.length < c.args.size
        · rw [List.getElem?_append_left (by simpa using h2)] at hx
          rw [Array.getElem?_append_left (by simpa using h2)] at hv
          exact harg c.args.toList _ x v hx (by simpa using hv)
        · rw [List.getElem?_append_right (by simpa using h2)] at hx
          rw [Array.getElem?_append_right (by simpa using h2)] at hv
          simp only [List.length_map, Array.length_toList] at hx
          simp only [Array.size_map] at hv
          exact r2 _ x v hx hv
    · rename_i b hcal
      have hres : (do let d ← resolve ρ c o.type; invoke d.target d.args : Sem Next).run P w = (builtin b c.argTypes o.type (c.args.map fun | .const _ => true | _ => false) (c.args.map ρ)).run P w := by
        simp only [resolve, hcal, Sem.run_bind, Sem.run_pure, Result.andThen_ok, invoke]
        rfl
      rw [hres]
      clear hres
      have hts : ∀ l, c.argTypes.toList = l → c.argTypes = l.toArray := fun l h => by rw [← h]
      have has : ∀ l, c.args.toList = l → c.args.map ρ = (l.map ρ).toArray := fun l h => by rw [← h]; apply Array.ext'; simp
      unfold compileBuiltin at hc
      split at hc
      · rename_i t x h1 h2
        rw [hts _ h1, has _ h2]
        split at hc
        · rename_i el ht
          cases hc
          obtain ⟨r, hr, hk⟩ := h
          exact res_pure hI (len_sound ht (hρ x) hr w) hk
        · rename_i k el ht
          cases hc
          obtain ⟨r, hr, hk⟩ := h
          exact res_pure hI (lenm_sound ht hI (hρ x) hr) hk
        · rename_i n el ht
          cases hc
          obtain ⟨r, hr, hk⟩ := h
          cases hr
          exact res_pure hI ⟨.int .i64 n, by simp [Builtin.len_, run_underlying ht, goInt], .val _⟩ hk
        · cases hc
      · rename_i t x h1 h2
        rw [hts _ h1, has _ h2]
        split at hc
        · rename_i el ht
          cases hc
          obtain ⟨z, e1, e2⟩ := cap_sound (u := o.type) ht hI (hρ x) h
          exact res_out ⟨z, w, e1, e2⟩
        · cases hc
      · rename_i t u s x h1 h2
        rw [hts _ h1, has _ h2]
        split at hc
        · rename_i el _ ht hu
          split at hc
          · rename_i i hi
            split at hc
            · rename_i z hz
              split at hc
              · rename_i htu
                subst htu
                cases hc
                exact res_out (append_sound ht hi hz hI (hρ s) (hρ x) h)
              · cases hc
            · cases hc
          · cases hc
        · cases hc
      · rename_i x y h2
        rw [has _ h2]
        cases hc
        obtain ⟨r, hr, hk⟩ := h
        exact res_pure hI (maxmin_sound (ts := c.argTypes) (t := o.type) (mx := true) (hρ x) (hρ y) hr w) hk
      · rename_i x y h2
        rw [has _ h2]
        cases hc
        obtain ⟨r, hr, hk⟩ := h
        exact res_pure hI (maxmin_sound (ts := c.argTypes) (t := o.type) (mx := false) (hρ x) (hρ y) hr w) hk
      · cases hc
    · cases hc


end
end Go.Ab

/- The abstract walk, thirteenth part: a region whose order is fixed. -/
namespace Go.Ab

/-- An instruction with its destination and its guard (a slot, and what it must hold). -/
abbrev RIns := Option Nat × Option (Nat × Bool) × CI

def guardW (x : AV) (want : Bool) (A B : Prop) : Prop := match x with
  | .val v => (v = .bool want → A) ∧ (v ≠ .bool want → B)
  | _ => False

def opsW (P : Program) : List RIns → (Env → Heap → Prop) → Env → Heap → Prop
  | [], K, e, O => K e O
  | (d, none, ci) :: rest, K, e, O => CiSem P ci e O (fun r O' => opsW P rest K (e.put d r) O')
  | (d, some (s, want), ci) :: rest, K, e, O => guardW (e s) want (CiSem P ci e O (fun r O' => opsW P rest K (e.put d r) O')) (opsW P rest K (e.put d (.val undef)) O)

/-- What follows an instruction. (A name, so that nothing looks into it too early.) -/
def opK (P : Program) (d : Option Nat) (rest : List RIns) (K : Env → Heap → Prop) (e : Env) : AV → Heap → Prop := fun r O' => opsW P rest K (e.put d r) O'

theorem opK_apply (P : Program) (d : Option Nat) (rest : List RIns) (K : Env → Heap → Prop) (e : Env) (r : AV) (O : Heap) : opK P d rest K e r O = opsW P rest K (e.put d r) O := rfl
theorem opsW_nil (P : Program) (K : Env → Heap → Prop) (e : Env) (O : Heap) : opsW P [] K e O = K e O := by unfold opsW; rfl
theorem opsW_cons (P : Program) (d : Option Nat) (ci : CI) (rest : List RIns) (K : Env → Heap → Prop) (e : Env) (O : Heap) : opsW P ((d, none, ci) :: rest) K e O = CiSem P ci e O (opK P d rest K e) := by
  rw [opsW]; rfl
theorem opsW_guard (P : Program) (d : Option Nat) (s : Nat) (want : Bool) (ci : CI) (rest : List RIns) (K : Env → Heap → Prop) (e : Env) (O : Heap) :
    opsW P ((d, some (s, want), ci) :: rest) K e O = guardW (e s) want (CiSem P ci e O (opK P d rest K e)) (opsW P rest K (e.put d (.val undef)) O) := by
  rw [opsW]; rfl

/-- A frame and a world that an abstract state describes. -/
structure St (W0 : World) (g : Gh) (O : Heap) (w : World) (n : Nat) (a : Act) (e : Env) : Prop where
  inv : Inv W0 g O w
  size : a.tmps.size = n
  defers : a.defers = []
  reads : ∀ t, Reads g (e t) (a.tmps.getD t undef)

theorem St.opd {W0 : World} {g : Gh} {O : Heap} {w : World} {n : Nat} {a : Act} {e : Env} (h : St W0 g O w n a e) (x : Operand) : Reads g (e.opd x) (a.eval x) := by
  cases x with
  | tmp t => exact h.reads t
  | const v => exact .val v
  | global g' => exact .val _
  | func f => exact .clo _ _ _ _ _ rfl rfl (fun i x v hx => by simp at hx) (fun i x v hx => by simp at hx)

theorem St.put {W0 : World} {g g' : Gh} {O O' : Heap} {w w' : World} {n : Nat} {a : Act} {e : Env} (h : St W0 g O w n a e) (hle : g.le g') (hI : Inv W0 g' O' w') {d : Option Nat} {r : AV} {v : Value} (hd : ∀ k, d = some k → k < n) (hr : Reads g' r v) :
    St W0 g' O' w' n (a.put d v) (e.put d r) := by
  cases d with
  | none => exact ⟨hI, h.size, h.defers, fun t => (h.reads t).mono hle⟩
  | some k =>
    refine ⟨hI, by simp [Act.put, h.size], h.defers, fun t => ?_⟩
    simp only [Act.put, Env.put, Env.upd_apply]
    by_cases ht : t = k
    · subst ht
      have hlt : t < a.tmps.size := by rw [h.size]; exact hd t rfl
      simp [hlt, hr]
    · rw [if_neg ht]
      have : (a.tmps.setIfInBounds k v).getD t undef = a.tmps.getD t undef := by
        simp [Array.getElem?_setIfInBounds_ne (Ne.symm ht)]
      rw [this]
      exact (h.reads t).mono hle

def dstOK (n : Nat) : Option Nat → Bool
  | some d => decide (d < n)
  | none => true

def dstIn (ow : List Nat) : Option Nat → Bool
  | some d => ow.contains d
  | none => false

def compileOper (P : Program) (n : Nat) (ow : List Nat) (ops : Array Oper) (o : Oper) : Option RIns :=
  match compileOp P (dstIn ow o.dst) o with
  | some ci =>
    if dstOK n o.dst = true then
      (match o.guard with
       | none => some (o.dst, none, ci)
       | some (j, want) => match (ops[j]?).bind (·.dst) with
         | some s => if s < n then some (o.dst, some (s, want), ci) else none
         | none => none)
    else none
  | none => none

def Post (W0 : World) (g0 : Gh) (n : Nat) (K : Env → Heap → Prop) (a : Act) (w : World) : Prop :=
  ∃ g e O, g0.le g ∧ St W0 g O w n a e ∧ K e O

section
variable {P : Program} {W0 : World} {g g0 : Gh} {O : Heap} {w : World} {n : Nat} {a : Act} {e : Env}

theorem compileOper_inv {ow : List Nat} {ops : Array Oper} {o : Oper} {d : Option Nat} {gd : Option (Nat × Bool)} {ci : CI} (h : compileOper P n ow ops o = some (d, gd, ci)) :
    d = o.dst ∧ (∀ k, o.dst = some k → k < n) ∧ (∃ b, compileOp P b o = some ci) ∧
    ((o.guard = none ∧ gd = none) ∨ ∃ j want s, o.guard = some (j, want) ∧ gd = some (s, want) ∧ (ops[j]?).bind (·.dst) = some s ∧ s < n) := by
  unfold compileOper at h
  split at h
  · rename_i ci' hci
    split at h
    · rename_i hd
      have hd' : ∀ k, o.dst = some k → k < n := fun k hk => by rw [hk] at hd; simpa [dstOK] using hd
      split at h
      · rename_i hg
        cases h
        exact ⟨rfl, hd', ⟨_, hci⟩, .inl ⟨hg, rfl⟩⟩
      · rename_i j want hg
        split at h
        · rename_i s hs
          split at h
          · rename_i hsn
            cases h
            exact ⟨rfl, hd', ⟨_, hci⟩, .inr ⟨j, want, s, hg, rfl, hs, hsn⟩⟩
          · cases h
        · cases h
    · cases h
  · cases h

/-- One operation carried out. -/
theorem oper_sound {b : Bool} {o : Oper} {ci : CI} {K : AV → Heap → Prop} {next : Act → World → Prop} {Q : Exit → Act → World → Prop} (hc : compileOp P b o = some ci) (hd : ∀ k, o.dst = some k → k < n)
    (hS : St W0 g O w n a e) (h : CiSem P ci e O K) (hn : ∀ g' r O' w' v, g.le g' → St W0 g' O' w' n (a.put o.dst v) (e.put o.dst r) → K r O' → next (a.put o.dst v) w') : o.wp P a w next Q := by
  have hop := op_sound (K := K) hc h g W0 w a.eval hS.inv hS.opd
  unfold Oper.wp Oper.upon
  have out : ∀ v w', Out W0 g K v w' → next (a.put o.dst v) w' := fun v w' ⟨g', r, O', h1, h2, h3, h4⟩ => hn g' r O' w' v h1 (hS.put h1 h2 hd h3) h4
  split at hop
  · rename_i v w' heq
    rw [heq]
    exact out v w' hop
  · rename_i w' heq
    rw [heq]
    exact out undef w' hop
  · rename_i f args w' heq
    rw [heq]
    refine hop.mono fun en w'' ⟨v, hv, ho⟩ => ?_
    subst hv
    exact out v w'' ho
  · exact hop.elim

theorem wanted_none {o : Oper} (h : o.guard = none) (y : Nat → Option Bool) : Region.wanted o y = true := by simp [Region.wanted, h]

theorem wanted_some {o : Oper} {ops : Array Oper} {j s : Nat} {want : Bool} (h : o.guard = some (j, want)) (hs : (ops[j]?).bind (·.dst) = some s) (hsn : s < n) (hsz : a.tmps.size = n) {v : Value} (hb : a.tmps.getD s undef = v) :
    (v = .bool want → Region.wanted o (yielded ops a.tmps) = true) ∧ (v ≠ .bool want → Region.wanted o (yielded ops a.tmps) = false) := by
  have hlt : s < a.tmps.size := by omega
  have hv : a.tmps[s]? = some v := by
    rw [Array.getElem?_eq_getElem hlt]
    simp [hlt] at hb
    rw [hb]
  have hy : ((ops[j]?).bind (·.dst)).bind (a.tmps[·]?) = some v := by rw [hs]; exact hv
  clear hb hv
  constructor
  · rintro rfl
    simp [Region.wanted, h, yielded, hy]
  · intro hne
    simp only [Region.wanted, h, yielded, hy]
    cases v <;> simp
    rename_i b
    intro e
    exact hne (by rw [e])

/-- The rest of a region, in its order. -/
theorem ops_sound {ow : List Nat} {ops : Array Oper} {K : Env → Heap → Prop} {Q : Exit → Act → World → Prop} (hQ : ∀ a w, Post W0 g0 n K a w → Q .normal a w) :
    ∀ (m k : Nat) (rs : List RIns) (g : Gh) (O : Heap) (w : World) (a : Act) (e : Env), k + m = ops.size → (ops.toList.drop k).mapM (compileOper P n ow ops) = some rs → g0.le g → St W0 g O w n a e → opsW P rs K e O →
      wpOps P ops Q (List.range' k m) a w
  | 0, k, rs, g, O, w, a, e, hk, hc, hle, hS, h => by
    have : ops.toList.drop k = [] := List.drop_eq_nil_of_le (by simp; omega)
    rw [this] at hc
    simp at hc
    subst hc
    rw [opsW_nil] at h
    simp only [List.range'_zero, wpOps]
    exact hQ _ _ ⟨g, e, O, hle, hS, h⟩
  | m + 1, k, rs, g, O, w, a, e, hk, hc, hle, hS, h => by
    have hlt : k < ops.size := by omega
    have ho : ops[k]? = some ops[k] := Array.getElem?_eq_getElem hlt
    have hdrop : ops.toList.drop k = ops[k] :: ops.toList.drop (k + 1) := by
      rw [List.drop_eq_getElem_cons (by simpa using hlt)]
      simp
    rw [hdrop] at hc
    simp only [List.mapM_cons, Option.bind_eq_bind, Option.pure_def, Option.bind_eq_some_iff, Option.some.injEq] at hc
    obtain ⟨⟨d, gd, ci⟩, h1, rs', h2, rfl⟩ := hc
    obtain ⟨rfl, hd, ⟨b, hb⟩, hg⟩ := compileOper_inv h1
    rw [List.range'_succ]
    simp only [wpOps, ho]
    rcases hg with ⟨hg, rfl⟩ | ⟨j, want, s, hg, rfl, hs, hsn⟩
    · rw [opsW_cons] at h
      rw [if_pos (wanted_none hg _)]
      refine .inl (oper_sound hb hd hS h fun g' r O' w' v h1 h2' h3 => ?_)
      exact ops_sound hQ m (k + 1) rs' g' O' w' _ _ (by omega) h2 (hle.trans h1) h2' h3
    · rw [opsW_guard] at h
      unfold guardW at h
      split at h
      · rename_i bb hbb
        have hr := hS.reads s
        rw [hbb] at hr
        have hw := wanted_some hg hs hsn hS.size hr.val_inv
        rcases Classical.em (bb = .bool want) with hbw | hbw
        · rw [if_pos (hw.1 hbw)]
          refine .inl (oper_sound hb hd hS (h.1 hbw) fun g' r O' w' v h1 h2' h3 => ?_)
          exact ops_sound hQ m (k + 1) rs' g' O' w' _ _ (by omega) h2 (hle.trans h1) h2' h3
        · rw [if_neg (by rw [hw.2 hbw]; simp)]
          exact ops_sound hQ m (k + 1) rs' g O w _ _ (by omega) h2 hle (hS.put (.refl g) hS.inv hd (.val _)) (h.2 hbw)
      · exact h.elim

theorem region_sound {id : Nat} {ow : List Nat} {ops : Array Oper} {rs : List RIns} {K : Env → Heap → Prop} {Q : Exit → Act → World → Prop} (hc : ops.toList.mapM (compileOper P n ow ops) = some rs)
    (hS : St W0 g O w n a e) (h : opsW P rs K e O) (hQ : ∀ a w, Post W0 g n K a w → Q .normal a w) : (Code.region id ops false).wp P Q a w := by
  refine wp_region ?_
  rw [List.range_eq_range']
  exact ops_sound hQ ops.size 0 rs g O w a e (by omega) (by simpa using hc) (.refl g) hS h

end
end Go.Ab

/- The abstract walk, fourteenth part: a region that draws its order: operations that only compute, or make variables, in whatever order, and then others in theirs. -/
namespace Go.Ab

/-- What an array is when nothing writes to it any more. -/
inductive Fz (id sz : Nat) (elems : List AV) : AV → AV → Prop
  | same (x : AV) : Fz id sz elems x x
  | own (i n : Nat) (c : Option Nat) (t : Bool) (h : i + n ≤ elems.length) (ht : t = true → c = some n) : Fz id sz elems (.own id sz i n c) (.list sz t ((elems.drop i).take n))
  | agg (l l' : List AV) (hl : l.length = l'.length) (h : ∀ (i : Nat) x y, l[i]? = some x → l'[i]? = some y → Fz id sz elems x y) : Fz id sz elems (.agg l) (.agg l')
  | tup (l l' : List AV) (hl : l.length = l'.length) (h : ∀ (i : Nat) x y, l[i]? = some x → l'[i]? = some y → Fz id sz elems x y) : Fz id sz elems (.tup l) (.tup l')

theorem freeze_sound {W0 : World} {g : Gh} {O : Heap} {w : World} (hI : Inv W0 g O w) {id sz : Nat} {E : TypeId} {elems : List AV} (ho : O id = some (.arr E sz elems)) :
    ∃ g', g.le g' ∧ Inv W0 g' (O.del id) w ∧ ∀ r r' v, Fz id sz elems r r' → Reads g r v → Reads g' r' v := by
  obtain ⟨b, room, hm, hb, hc, cs, h1, h2, h3, h4, h5⟩ := hI.obj id _ ho
  let f : Nat → Option Value := fun o => if o < elems.length * sz then cs[o]? else none
  have hfr : ∀ j o r', (O.del id) j = some o → g.m j = some (b, r') → False := fun j o r' hj hmj => by
    rw [Heap.del_apply] at hj
    by_cases hji : j = id
    · rw [if_pos hji] at hj; cases hj
    · rw [if_neg hji] at hj
      exact hji (hI.inj j id o _ b r' room hj ho hmj hm)
  have hdrop : Inv W0 g (O.del id) w := hI.drop fun i o hi => by
    rw [Heap.del_apply] at hi
    by_cases hii : i = id
    · rw [if_pos hii] at hi; cases hi
    · rw [if_neg hii] at hi; exact hi
  have hcell : ∀ i x j y, elems[i]? = some x → x.cells[j]? = some y → ∃ v, f (i * sz + j) = some v ∧ cs[i * sz + j]? = some v ∧ v.oneCell' = true ∧ Reads g y v := fun i x j y hx hy => by
    obtain ⟨v, p, q, r⟩ := h5 i x j y hx hy
    refine ⟨v, ?_, p, q, r⟩
    have hi : i < elems.length := (List.getElem?_eq_some_iff.1 hx).1
    have hj : j < sz := by rw [← h4 i x hx]; exact (List.getElem?_eq_some_iff.1 hy).1
    have : i * sz + j < elems.length * sz := by
      have : (i + 1) * sz ≤ elems.length * sz := Nat.mul_le_mul_right sz hi
      rw [Nat.add_mul] at this; omega
    show (if i * sz + j < elems.length * sz then cs[i * sz + j]? else none) = some v
    rw [if_pos this, p]
  have hf : ∀ o v, f o = some v → w.cell? ⟨b, o, none⟩ = some v ∧ v.oneCell' = true := fun o v hv => by
    have hlt : o < elems.length * sz := by
      by_cases h : o < elems.length * sz
      · exact h
      · have hv : (if o < elems.length * sz then cs[o]? else none) = some v := hv
        rw [if_neg h] at hv; cases hv
    have hsz : 0 < sz := by
      rcases Nat.eq_zero_or_pos sz with h | h
      · rw [h] at hlt; omega
      · exact h
    have hi : o / sz < elems.length := Nat.div_lt_of_lt_mul (by rw [Nat.mul_comm]; exact hlt)
    have hj : o % sz < sz := Nat.mod_lt _ hsz
    have hxe : elems[o / sz]? = some elems[o / sz] := List.getElem?_eq_getElem hi
    have hlen := h4 _ _ hxe
    have hye : (elems[o / sz]).cells[o % sz]? = some ((elems[o / sz]).cells[o % sz]'(by omega)) := List.getElem?_eq_getElem (by omega)
    obtain ⟨u, p1, p2, p3, _⟩ := hcell _ _ _ _ hxe hye
    have ho' : o / sz * sz + o % sz = o := by rw [Nat.mul_comm]; exact Nat.div_add_mod o sz
    rw [ho'] at p1 p2
    rw [hv] at p1
    cases p1
    refine ⟨?_, p3⟩
    unfold World.cell?
    simp [h1, p2]
  refine ⟨g.freeze b f, Gh.freeze_le g b f, hdrop.freeze hf hfr, fun r r' v hz => ?_⟩
  induction hz generalizing v with
  | same x => exact fun hr => hr.mono (Gh.freeze_le g b f)
  | own i n c t hle ht =>
    intro hr
    cases hr with
    | own _ _ _ _ _ b' room' off k k0 k1 k2 k3 k4 k5 =>
      rw [hm] at k0
      cases k0
      have hlen : ((elems.drop i).take n).length = n := by simp; omega
      have key : ∀ (p : Nat) x (q : Nat) y, ((elems.drop i).take n)[p]? = some x → x.cells[q]? = some y → elems[i + p]? = some x ∧ off = i * sz := fun p x q y hx hy => by
        have hp : p < n := by have := (List.getElem?_eq_some_iff.1 hx).1; omega
        rw [List.getElem?_take, if_pos hp, List.getElem?_drop] at hx
        refine ⟨hx, ?_⟩
        rcases k1 with h | h
        · omega
        · exact h
      have := Reads.list (g := g.freeze b f) sz t ((elems.drop i).take n) b off k (fun p q => (cs[(i + p) * sz + q]?).getD undef) (by omega) (fun h => by rw [hlen]; exact k4 n (ht h)) k5
        (fun p x hx => by
          have hp : p < n := by have := (List.getElem?_eq_some_iff.1 hx).1; omega
          rw [List.getElem?_take, if_pos hp, List.getElem?_drop] at hx
          exact h4 _ _ hx)
        (fun p x q y hx hy => by
          obtain ⟨h6, h7⟩ := key p x q y hx hy
          obtain ⟨u, p1, p2, _, _⟩ := hcell _ _ _ _ h6 hy
          rw [Gh.freeze_new hc, h7, show i * sz + (p * sz + q) = (i + p) * sz + q by rw [Nat.add_mul]; omega, p1, p2]
          rfl)
        (fun p x q y hx hy => by
          obtain ⟨h6, h7⟩ := key p x q y hx hy
          obtain ⟨u, p1, p2, _, p3⟩ := hcell _ _ _ _ h6 hy
          rw [p2]
          exact p3.mono (Gh.freeze_le g b f))
      rw [hlen] at this
      exact this
  | agg l l' hl h ih =>
    intro hr
    cases hr with
    | agg _ cs' hs h6 h7 =>
      refine .agg l' cs' (hs.trans hl) h6 fun i x v hx hv => ?_
      have hi : i < l.length := by rw [hl]; exact (List.getElem?_eq_some_iff.1 hx).1
      exact ih i _ x (List.getElem?_eq_getElem hi) hx v (h7 i _ v (List.getElem?_eq_getElem hi) hv)
  | tup l l' hl h ih =>
    intro hr
    cases hr with
    | tup _ cs' hs h7 =>
      refine .tup l' cs' (hs.trans hl) fun i x v hx hv => ?_
      have hi : i < l.length := by rw [hl]; exact (List.getElem?_eq_some_iff.1 hx).1
      exact ih i _ x (List.getElem?_eq_getElem hi) hx v (h7 i _ v (List.getElem?_eq_getElem hi) hv)


def CI.opds : CI → List Operand
  | .mv x => [x]
  | .pick c a b => [c, a, b]
  | .build _ ps => ps.map (·.2.2)
  | .blist _ xs => xs
  | .load _ _ x => [x]
  | .nilchk x => [x]
  | .bin _ x y => [x, y]
  | .binb _ x y => [x, y]
  | .eqagg _ _ x y => [x, y]
  | .eqnil _ _ x => [x]
  | .un _ x => [x]
  | .convi _ x => [x]
  | .mkfn _ a b => a ++ b
  | .fieldA _ _ _ x => [x]
  | .field _ _ _ x => [x]
  | .indexA _ x i => [x, i]
  | .indexP _ _ _ x i => [x, i]
  | .index _ _ _ x i => [x, i]
  | .slice _ x lo hi mx => x :: (lo.toList ++ (hi.toList ++ mx.toList))
  | .extract x _ => [x]
  | .call _ args => args
  | .callv f args => f :: args
  | .len x => [x]
  | .lenm x => [x]
  | .cap x => [x]
  | .append _ _ _ _ s x => [s, x]
  | .maxmin _ x y => [x, y]
  | _ => []

/-- With those of a new slice. -/
def CI.opdsP : CI → List Operand
  | .mkslice _ _ _ _ l c => [l, c]
  | ci => ci.opds

theorem opds_sub {ci : CI} {x : Operand} (h : x ∈ ci.opds) : x ∈ ci.opdsP := by
  cases ci <;> first | exact h | (cases h; done)

theorem map_congr_opds {e e' : Env} {l : List Operand} (h : ∀ x ∈ l, e.opd x = e'.opd x) : l.map e.opd = l.map e'.opd := List.map_congr_left h

theorem opt_congr {e e' : Env} {o : Option Operand} (h : ∀ x ∈ o.toList, e.opd x = e'.opd x) : o.map e.opd = o.map e'.opd := by
  cases o with
  | none => rfl
  | some x => simp [h x (by simp)]

theorem pureI_congr {ci : CI} {e e' : Env} (O : Heap) (h : ∀ x ∈ ci.opds, e.opd x = e'.opd x) : pureI ci e O = pureI ci e' O := by
  cases ci <;> simp only [CI.opds, List.mem_cons, List.mem_append, List.not_mem_nil, or_false, forall_eq_or_imp, forall_eq] at h <;> unfold pureI <;> simp only [] <;> try rfl
  case mv x => rw [h]
  case pick c a b => rw [h.1, h.2.1, h.2.2]
  case build z ps =>
    have : ps.map (fun p => (p.1, p.2.1, e.opd p.2.2)) = ps.map (fun p => (p.1, p.2.1, e'.opd p.2.2)) := List.map_congr_left fun p hp => by rw [h p.2.2 (List.mem_map_of_mem hp)]
    rw [this]
  case blist s xs => rw [map_congr_opds h]
  case load a s x => rw [h]
  case nilchk x => rw [h]
  case bin op x y => rw [h.1, h.2]
  case binb op x y => rw [h.1, h.2]
  case eqagg n k x y => rw [h.1, h.2]
  case eqnil k n x => rw [h]
  case un op x => rw [h]
  case convi k x => rw [h]
  case mkfn fn a b => rw [map_congr_opds (l := a) (fun x hx => h x (.inl hx)), map_congr_opds (l := b) (fun x hx => h x (.inr hx))]
  case fieldA o s a x => rw [h]
  case field o s a x => rw [h]
  case indexA s x i => rw [h.1, h.2]
  case indexP n s a x i => rw [h.1, h.2]
  case index n s a x i => rw [h.1, h.2]
  case slice s x lo hi mx =>
    rw [h.1, opt_congr (o := lo) (fun x hx => h.2 x (.inl hx)), opt_congr (o := hi) (fun x hx => h.2 x (.inr (.inl hx))), opt_congr (o := mx) (fun x hx => h.2 x (.inr (.inr hx)))]
  case extract x i => rw [h]
  case len x => rw [h]
  case lenm x => rw [h]
  case maxmin m x y => rw [h.1, h.2]

def Heap.sub (O O' : Heap) : Prop := ∀ i o, O i = some o → O' i = some o

theorem loadA_mono {O O' : Heap} (hs : O.sub O') {agg : Bool} {s : Nat} {x r : AV} (h : loadA O agg s x = some r) : loadA O' agg s x = some r := by
  unfold loadA at h ⊢
  split at h
  · exact h
  · split at h
    · rename_i ho
      simp only [hs _ _ ho]
      exact h
    · cases h
  · cases h

theorem lenM_mono {O O' : Heap} (hs : O.sub O') {x r : AV} (h : lenM O x = some r) : lenM O' x = some r := by
  unfold lenM at h ⊢
  split at h
  · split at h
    · rename_i ho
      simp only [hs _ _ ho]
      exact h
    · cases h
  · exact h
  · cases h

theorem pureI_mono {O O' : Heap} (hs : O.sub O') {ci : CI} {e : Env} {r : AV} (h : pureI ci e O = some r) : pureI ci e O' = some r := by
  cases ci <;> unfold pureI at h ⊢ <;> simp only [] at h ⊢ <;> try exact h
  case load a s x => exact loadA_mono hs h
  case lenm x => exact lenM_mono hs h

theorem elemsA_mono {O O' : Heap} (hs : O.sub O') {s : Nat} {x : AV} {X : List AV} (h : elemsA O s x = some X) : elemsA O' s x = some X := by
  unfold elemsA at h ⊢
  split at h
  · exact h
  · exact h
  · split at h
    · rename_i ho
      simp only [hs _ _ ho]
      exact h
    · cases h
  · cases h

def AppendPure (E : TypeId) (sz bytes : Nat) (s x : AV) (O : Heap) (V : AV) : Prop :=
  ∃ X, elemsA O sz x = some X ∧
  match s with
  | .val (.slice none 0 0) => fits X.length bytes ∧ V = (if X = [] then .val (.slice none 0 0) else .list sz false X)
  | .list s' true L => s' = sz ∧ fits (L.length + X.length) bytes ∧ V = .list sz false (L ++ X)
  | .pend E' s' L => E' = E ∧ s' = sz ∧ fits (L.length + X.length) bytes ∧ V = .list sz false (L ++ X)
  | _ => False

/-- A new array, to which more is to be appended. -/
def AppendPend (E : TypeId) (sz bytes : Nat) (s x : AV) (O : Heap) (V : AV) : Prop :=
  ∃ X, elemsA O sz x = some X ∧
  match s with
  | .val (.slice none 0 0) => fits X.length bytes ∧ V = (if X = [] then .val (.slice none 0 0) else .pend E sz X)
  | .list s' true L => s' = sz ∧ fits (L.length + X.length) bytes ∧ V = (if X = [] then .list sz true L else .pend E sz (L ++ X))
  | _ => False

/-- The value that an operation computes, whatever else there is in memory. -/
def drawFun (P : Program) (ci : CI) (e : Env) (O : Heap) (V : AV) : Prop :=
  match ci with
  | .alloc .. => V = .junk
  | .call f args => PureA P f (args.map e.opd) V
  | .callv fx args => ∃ f a b, e.opd fx = .clo (.func f) a b ∧ PureA P f (a ++ args.map e.opd ++ b) V
  | .append false E sz bytes s x => AppendPure E sz bytes (e.opd s) (e.opd x) O V
  | .append true E sz bytes s x => AppendPend E sz bytes (e.opd s) (e.opd x) O V
  | .mkslice E sz bytes zero l c => ∃ n m : Nat, intOfA (e.opd l) = some (n : Int) ∧ intOfA (e.opd c) = some (m : Int) ∧ n ≤ m ∧ m ≤ maxLen ∧ bytes * m ≤ 281474976710656 ∧ V = .pend E sz (List.replicate n zero)
  | .cap x => ∃ s l, e.opd x = .list s true l ∧ V = .val (.int .i64 l.length)
  | .box .. => False
  | .bown .. => False
  | .store .. => False
  | ci => pureI ci e O = some V

def isAlloc : CI → Bool
  | .alloc .. => true
  | _ => false

def isPend : CI → Bool
  | .append true .. => true
  | .mkslice .. => true
  | _ => false

theorem drawFun_sem {P : Program} {ci : CI} {e e' : Env} {O O' : Heap} {V : AV} (h : drawFun P ci e O V) (ha : isAlloc ci = false) (hpd : isPend ci = false) (hnp : ∀ E sz b s x, ci = .append false E sz b s x → ∀ E' s' L, e.opd s ≠ .pend E' s' L) (he : ∀ x ∈ ci.opds, e.opd x = e'.opd x) (hs : O.sub O') :
    CiSem P ci e' O' (fun r O'' => r = V ∧ O'' = O') := by
  have hp : pureI ci e O = some V → pureI ci e' O' = some V := fun h => by
    rw [← pureI_congr O' he]
    exact pureI_mono hs h
  cases ci with
  | alloc => cases ha
  | call f args =>
    show CallA P f (args.map e'.opd) O' _
    rw [← map_congr_opds (l := args) he]
    exact h O'
  | callv fx args =>
    obtain ⟨f, a, b, h1, h2⟩ := h
    refine ⟨f, a, b, ?_, ?_⟩
    · rw [← he fx (by simp [CI.opds])]; exact h1
    · rw [← map_congr_opds (l := args) (fun x hx => he x (by simp [CI.opds, hx]))]
      exact h2 O'
  | append ow E sz bytes s x =>
    cases ow with
    | true => cases hpd
    | false =>
      have hnp := hnp E sz bytes s x rfl
      obtain ⟨X, hX, h⟩ := h
      show AppendSem false E sz bytes (e'.opd s) (e'.opd x) O' _
      rw [← he s (by simp [CI.opds]), ← he x (by simp [CI.opds])]
      refine ⟨X, elemsA_mono hs hX, ?_⟩
      split at h
      · rename_i heq
        obtain ⟨h1, rfl⟩ := h
        rw [heq]
        refine ⟨h1, fun hx => ?_, fun hx => ?_⟩
        · rw [if_pos hx]; exact ⟨rfl, rfl⟩
        · rw [if_neg (by simp), if_neg hx]; exact ⟨rfl, rfl⟩
      · rename_i heq
        obtain ⟨h0, h1, rfl⟩ := h
        rw [heq]
        refine ⟨h0, h1, ?_⟩
        unfold AppendList
        rw [if_neg (by simp)]
        exact ⟨rfl, rfl⟩
      · rename_i heq
        exact absurd heq (hnp _ _ _)
      · exact h.elim
  | cap x =>
    obtain ⟨s, l, h1, rfl⟩ := h
    show CapSem (e'.opd x) O' (fun r O'' => r = .val (.int .i64 l.length) ∧ O'' = O')
    rw [← he x (by simp [CI.opds]), h1]
    exact ⟨rfl, rfl⟩
  | box => exact h.elim
  | bown => exact h.elim
  | store => exact h.elim
  | mkslice => cases hpd
  | mv => exact ⟨V, hp h, rfl, rfl⟩
  | pick => exact ⟨V, hp h, rfl, rfl⟩
  | build => exact ⟨V, hp h, rfl, rfl⟩
  | blist => exact ⟨V, hp h, rfl, rfl⟩
  | load => exact ⟨V, hp h, rfl, rfl⟩
  | nilchk => exact ⟨V, hp h, rfl, rfl⟩
  | bin => exact ⟨V, hp h, rfl, rfl⟩
  | binb => exact ⟨V, hp h, rfl, rfl⟩
  | eqagg => exact ⟨V, hp h, rfl, rfl⟩
  | eqnil => exact ⟨V, hp h, rfl, rfl⟩
  | un => exact ⟨V, hp h, rfl, rfl⟩
  | convi => exact ⟨V, hp h, rfl, rfl⟩
  | mkfn => exact ⟨V, hp h, rfl, rfl⟩
  | fieldA => exact ⟨V, hp h, rfl, rfl⟩
  | field => exact ⟨V, hp h, rfl, rfl⟩
  | indexA => exact ⟨V, hp h, rfl, rfl⟩
  | indexP => exact ⟨V, hp h, rfl, rfl⟩
  | index => exact ⟨V, hp h, rfl, rfl⟩
  | slice => exact ⟨V, hp h, rfl, rfl⟩
  | extract => exact ⟨V, hp h, rfl, rfl⟩
  | len => exact ⟨V, hp h, rfl, rfl⟩
  | lenm => exact ⟨V, hp h, rfl, rfl⟩
  | maxmin => exact ⟨V, hp h, rfl, rfl⟩

theorem drawPend_sem {P : Program} {ci : CI} {e e' : Env} {O O' : Heap} {V : AV} (h : drawFun P ci e O V) (hpd : isPend ci = true) (he : ∀ x ∈ CI.opdsP ci, e.opd x = e'.opd x) (hs : O.sub O') :
    CiSem P ci e' O' (fun r O'' => ((∀ E sz L, V ≠ .pend E sz L) ∧ r = V ∧ O'' = O') ∨ (∃ E sz L id c elems, V = .pend E sz L ∧ O' id = none ∧ r = .own id sz 0 L.length c ∧ O'' = O'.upd id (.arr E sz elems) ∧ elems.take L.length = L)) := by
  cases ci with
  | append ow E sz bytes s x =>
    cases ow with
    | false => cases hpd
    | true =>
      obtain ⟨X, hX, h⟩ := h
      show AppendSem true E sz bytes (e'.opd s) (e'.opd x) O' _
      rw [← he s (by simp [CI.opdsP, CI.opds]), ← he x (by simp [CI.opdsP, CI.opds])]
      refine ⟨X, elemsA_mono hs hX, ?_⟩
      split at h
      · rename_i heq
        obtain ⟨h1, rfl⟩ := h
        rw [heq]
        refine ⟨h1, fun hx => ?_, fun hx => ?_⟩
        · rw [if_pos hx]; exact .inl ⟨by simp, rfl, rfl⟩
        · rw [if_pos rfl, if_neg hx]
          exact fun id hid => .inr ⟨E, sz, X, id, none, X, rfl, hid, rfl, rfl, List.take_length⟩
      · rename_i heq
        obtain ⟨h0, h1, rfl⟩ := h
        rw [heq]
        refine ⟨h0, h1, ?_⟩
        unfold AppendList
        rw [if_pos rfl]
        refine ⟨fun hx => ?_, fun hx => ?_⟩
        · rw [if_pos hx]; exact .inl ⟨by simp, rfl, rfl⟩
        · rw [if_neg hx]
          exact fun id hid => .inr ⟨E, sz, _, id, none, _, rfl, hid, by simp, rfl, List.take_length⟩
      · exact h.elim
  | mkslice E sz bytes zero l c =>
    obtain ⟨n, m, h1, h2, h3, h4, h5, rfl⟩ := h
    rw [show ∀ K, CiSem P (.mkslice E sz bytes zero l c) e' O' K = MakeSem E sz bytes zero (e'.opd l) (e'.opd c) O' K from fun _ => rfl]
    rw [← he l (by simp [CI.opdsP]), ← he c (by simp [CI.opdsP])]
    refine ⟨n, m, h1, h2, h3, h4, h5, fun id hid => .inr ⟨E, sz, _, id, some m, List.replicate m zero, rfl, hid, by simp, rfl, ?_⟩⟩
    simp [List.take_replicate]
    omega
  | _ => cases hpd

/-- The front of a region that draws: in the order of the text. -/
def drawW (P : Program) : List RIns → (Env → Prop) → Env → Heap → Prop
  | [], K, e, _ => K e
  | (d, none, ci) :: rest, K, e, O => ∃ V, drawFun P ci e O V ∧ drawW P rest K (e.put d V) O
  | (d, some (s, want), ci) :: rest, K, e, O => guardW (e s) want (∃ V, drawFun P ci e O V ∧ drawW P rest K (e.put d V) O) (drawW P rest K (e.put d (.val undef)) O)

/-- The environment before the k-th instruction. -/
def envAt (V : Nat → AV) (e : Env) : List RIns → Nat → Env
  | _, 0 => e
  | [], _ => e
  | r :: rs, k + 1 => envAt (fun i => V (i + 1)) (e.put r.1 (V 0)) rs k

/-- What the front shows of its i-th instruction. -/
def stepOK (P : Program) (O : Heap) (e : Env) (r : RIns) (V : AV) : Prop :=
  match r.2.1 with
  | none => drawFun P r.2.2 e O V
  | some (s, want) => ∃ v, e s = .val v ∧ ((v = .bool want ∧ drawFun P r.2.2 e O V) ∨ (v ≠ .bool want ∧ V = .val undef))

theorem drawW_steps {P : Program} {O : Heap} : ∀ (rs : List RIns) (K : Env → Prop) (e : Env), drawW P rs K e O →
    ∃ V : Nat → AV, (∀ i r, rs[i]? = some r → stepOK P O (envAt V e rs i) r (V i)) ∧ K (envAt V e rs rs.length)
  | [], K, e, h => ⟨fun _ => .junk, fun i r hr => by simp at hr, h⟩
  | (d, gd, ci) :: rest, K, e, h => by
    have key : ∃ V0, stepOK P O e (d, gd, ci) V0 ∧ drawW P rest K (e.put d V0) O := by
      cases gd with
      | none => exact h
      | some p =>
        obtain ⟨s, want⟩ := p
        have h : guardW (e s) want (∃ V, drawFun P ci e O V ∧ drawW P rest K (e.put d V) O) (drawW P rest K (e.put d (.val undef)) O) := h
        unfold guardW at h
        split at h
        · rename_i b hb
          rcases Classical.em (b = .bool want) with hbw | hbw
          · obtain ⟨V, h1, h2⟩ := h.1 hbw
            exact ⟨V, ⟨b, hb, .inl ⟨hbw, h1⟩⟩, h2⟩
          · exact ⟨.val undef, ⟨b, hb, .inr ⟨hbw, rfl⟩⟩, h.2 hbw⟩
        · exact h.elim
    obtain ⟨V0, h1, h2⟩ := key
    obtain ⟨V, h3, h4⟩ := drawW_steps rest K _ h2
    refine ⟨fun i => match i with | 0 => V0 | i + 1 => V i, fun i r hr => ?_, h4⟩
    cases i with
    | zero => simp at hr; subst hr; exact h1
    | succ i => exact h3 i r (by simpa using hr)

/-- A slot before the k-th instruction: what the one instruction before it that writes it has computed, or what it held. -/
theorem envAt_other {t : Nat} : ∀ (rs : List RIns) (V : Nat → AV) (e : Env) (k : Nat), (∀ i r, i < k → rs[i]? = some r → r.1 ≠ some t) → envAt V e rs k t = e t
  | _, _, _, 0, _ => by simp [envAt]
  | [], _, _, k + 1, _ => by simp [envAt]
  | r :: rs, V, e, k + 1, h => by
    rw [envAt, envAt_other rs _ _ k (fun i r' hi hr => h (i + 1) r' (by omega) (by simpa using hr))]
    have := h 0 r (by omega) rfl
    cases hr : r.1 with
    | none => simp [Env.put]
    | some d =>
      simp only [Env.put, Env.upd_apply]
      rw [if_neg (fun e => this (by rw [hr, e]))]

theorem envAt_at {t : Nat} : ∀ (rs : List RIns) (V : Nat → AV) (e : Env) (k i : Nat) (r : RIns), i < k → rs[i]? = some r → r.1 = some t → (∀ j r', j ≠ i → rs[j]? = some r' → r'.1 ≠ some t) → envAt V e rs k t = V i
  | _, _, _, 0, _, _, hi, _, _, _ => by omega
  | [], _, _, k + 1, i, r, _, hr, _, _ => by simp at hr
  | r0 :: rs, V, e, k + 1, 0, r, _, hr, ht, hu => by
    simp at hr
    subst hr
    rw [envAt, envAt_other rs _ _ k (fun i r' _ hr => hu (i + 1) r' (by omega) (by simpa using hr))]
    simp [ht, Env.put, Env.upd_apply]
  | r0 :: rs, V, e, k + 1, i + 1, r, hi, hr, ht, hu => by
    rw [envAt]
    exact envAt_at rs _ _ k i r (by omega) (by simpa using hr) ht (fun j r' hj hr' => hu (j + 1) r' (by omega) (by simpa using hr'))

theorem Reads.not_pend {g : Gh} {E sz : Nat} {L : List AV} {v : Value} (h : Reads g (.pend E sz L) v) : False := by cases h

end Go.Ab

/- The abstract walk, fifteenth part: a region that draws its order is sound. -/
namespace Go.Ab

def tmpsOf (l : List Operand) : List Nat := l.filterMap fun | .tmp t => some t | _ => none

def readsOf (r : RIns) : List Nat := tmpsOf r.2.2.opdsP ++ (match r.2.1 with | some p => [p.1] | none => [])

def dep (ops : Array Oper) (k j : Nat) : Bool := match ops[k]? with
  | some o => o.after.any fun e => e.on == j && Region.binds .any e
  | none => false

/-- It reads slot d as what it appends to, and nowhere else. -/
def consumes (r : RIns) (d : Nat) : Bool := (match r.2.2 with
  | .append false _ _ _ (.tmp t) x => t == d && !(tmpsOf [x]).contains d
  | _ => false) && (match r.2.1 with | some p => p.1 != d | none => true)

theorem consumes_inv {d0 : Option Nat} {gd : Option (Nat × Bool)} {ci : CI} {d : Nat} (h : consumes (d0, gd, ci) d = true) : ∃ E sz b x, ci = .append false E sz b (.tmp d) x ∧ d ∉ tmpsOf [x] := by
  unfold consumes at h
  rw [Bool.and_eq_true] at h
  replace h := h.1
  cases ci
  case append ow E sz b s x =>
    cases ow
    · cases s
      case tmp t =>
        simp only [Bool.and_eq_true, beq_iff_eq, Bool.not_eq_true'] at h
        obtain ⟨h2, h3⟩ := h
        subst h2
        exact ⟨E, sz, b, x, rfl, by simpa using h3⟩
      all_goals cases h
    · cases h
  all_goals cases h

def drawOK0 (ops : Array Oper) (m : Nat) (front : List RIns) : Bool :=
  ((List.range ops.size).all fun k => match ops[k]? with
    | some o => o.after.all fun e => !Region.binds .any e || decide (e.on < k)
    | none => true) &&
  (front.all fun r => r.1.isSome && (!isAlloc r.2.2 || r.2.1.isNone)) &&
  ((List.range m).all fun i => (List.range i).all fun j => (front[i]?.map (·.1)) != (front[j]?.map (·.1))) &&
  ((List.range m).all fun j => match front[j]? with
    | some r => (readsOf r).all fun t => (List.range m).all fun i => (front[i]?.map (·.1)) != some (some t) || (decide (i < j) && dep ops j i)
    | none => true) &&
  (front.all fun r => !isPend r.2.2 || (match r.1 with
    | some d => (front.all fun r' => !(readsOf r').contains d || consumes r' d) && decide ((front.filter fun r' => (readsOf r').contains d).length ≤ 1)
    | none => true))

/-- The first m operations compute or make variables, each from what those before it that it waits for have computed; the others wait for all before them. -/
def drawOK (ops : Array Oper) (m : Nat) (front : List RIns) : Bool :=
  ((List.range ops.size).all fun k => decide (k < m) || (List.range k).all fun j => dep ops k j) && drawOK0 ops m front

structure DrawOK0 (ops : Array Oper) (m : Nat) (front : List RIns) : Prop where
  edges : ∀ (k : Nat) (o : Oper) (e : Edge), ops[k]? = some o → e ∈ o.after → Region.binds .any e = true → e.on < k
  dst : ∀ (i : Nat) (r : RIns), front[i]? = some r → ∃ d, r.1 = some d
  al : ∀ (i : Nat) (r : RIns), front[i]? = some r → isAlloc r.2.2 = true → r.2.1 = none
  nodup : ∀ (i j : Nat) (r r' : RIns), i < m → j < m → front[i]? = some r → front[j]? = some r' → r.1 = r'.1 → i = j
  reads : ∀ (j : Nat) (r : RIns) (t : Nat) (i : Nat) (r' : RIns), j < m → i < m → front[j]? = some r → t ∈ readsOf r → front[i]? = some r' → r'.1 = some t → i < j ∧ dep ops j i = true
  pend : ∀ (i : Nat) (r : RIns) (d : Nat), front[i]? = some r → isPend r.2.2 = true → r.1 = some d → ∀ (j : Nat) (r' : RIns), front[j]? = some r' → d ∈ readsOf r' →
    consumes r' d = true ∧ ∀ (j' : Nat) (r'' : RIns), front[j']? = some r'' → d ∈ readsOf r'' → j' = j

theorem filter_one {α : Type} {p : α → Bool} : ∀ {l : List α} {i j : Nat} {x y : α}, (l.filter p).length ≤ 1 → l[i]? = some x → l[j]? = some y → p x = true → p y = true → i = j
  | [], _, _, _, _, _, hx, _, _, _ => by simp at hx
  | z :: l, 0, 0, _, _, _, _, _, _, _ => rfl
  | z :: l, 0, j + 1, x, y, h, hx, hy, px, py => by
    simp at hx; subst hx
    rw [List.filter_cons, if_pos px] at h
    simp only [List.length_cons] at h
    have : y ∈ l.filter p := List.mem_filter.2 ⟨List.mem_of_getElem? (by simpa using hy), py⟩
    have := List.length_pos_of_mem this
    omega
  | z :: l, i + 1, 0, x, y, h, hx, hy, px, py => by
    simp at hy; subst hy
    rw [List.filter_cons, if_pos py] at h
    simp only [List.length_cons] at h
    have : x ∈ l.filter p := List.mem_filter.2 ⟨List.mem_of_getElem? (by simpa using hx), px⟩
    have := List.length_pos_of_mem this
    omega
  | z :: l, i + 1, j + 1, x, y, h, hx, hy, px, py => by
    have h' : (l.filter p).length ≤ 1 := by
      rw [List.filter_cons] at h
      split at h
      · simp only [List.length_cons] at h; omega
      · exact h
    have := filter_one h' (i := i) (j := j) (by simpa using hx) (by simpa using hy) px py
    omega

theorem drawOK0_inv {ops : Array Oper} {m : Nat} {front : List RIns} (h : drawOK0 ops m front = true) : DrawOK0 ops m front := by
  unfold drawOK0 at h
  simp only [Bool.and_eq_true] at h
  obtain ⟨⟨⟨⟨h2, h3⟩, h4⟩, h5⟩, h6⟩ := h
  rw [List.all_eq_true] at h2 h3 h4 h5 h6
  refine ⟨fun k o e ho he hb => ?_, fun i r hr => ?_, fun i r hr ha => ?_, fun i j r r' hi hj hr hr' he => ?_, fun j r t i r' hj hi hr ht hr' he => ?_, fun i r d hr hp hd j r' hj ht => ?_⟩
  · have hk : k < ops.size := (Array.getElem?_eq_some_iff.1 ho).1
    have := h2 k (List.mem_range.2 hk)
    rw [ho] at this
    have this : o.after.all (fun e => !Region.binds .any e || decide (e.on < k)) = true := this
    rw [Array.all_eq_true_iff_forall_mem] at this
    have := this e he
    simp only [Bool.or_eq_true, Bool.not_eq_true', decide_eq_true_eq] at this
    rcases this with h | h
    · rw [hb] at h; cases h
    · exact h
  · have := h3 r (List.mem_of_getElem? hr)
    simp only [Bool.and_eq_true] at this
    exact Option.isSome_iff_exists.1 this.1
  · have := h3 r (List.mem_of_getElem? hr)
    simp only [Bool.and_eq_true, Bool.or_eq_true, Bool.not_eq_true'] at this
    rcases this.2 with h | h
    · rw [ha] at h; cases h
    · simpa using h
  · rcases Nat.lt_trichotomy i j with hlt | heq | hgt
    · have := h4 j (List.mem_range.2 hj)
      rw [List.all_eq_true] at this
      have := this i (List.mem_range.2 hlt)
      rw [hr, hr'] at this
      simp [he] at this
    · exact heq
    · have := h4 i (List.mem_range.2 hi)
      rw [List.all_eq_true] at this
      have := this j (List.mem_range.2 hgt)
      rw [hr, hr'] at this
      simp [he] at this
  · have := h5 j (List.mem_range.2 hj)
    rw [hr] at this
    have this : (readsOf r).all (fun t => (List.range m).all fun i => (front[i]?.map (·.1)) != some (some t) || (decide (i < j) && dep ops j i)) = true := this
    rw [List.all_eq_true] at this
    have := this t ht
    rw [List.all_eq_true] at this
    have := this i (List.mem_range.2 hi)
    rw [hr'] at this
    simp only [Option.map_some, he, Bool.or_eq_true, Bool.and_eq_true, decide_eq_true_eq] at this
    rcases this with h | h
    · simp at h
    · exact h
  · have := h6 r (List.mem_of_getElem? hr)
    simp only [hp, hd, Bool.not_true, Bool.false_or, Bool.and_eq_true, decide_eq_true_eq] at this
    obtain ⟨h7, h8⟩ := this
    rw [List.all_eq_true] at h7
    have h9 := h7 r' (List.mem_of_getElem? hj)
    have hc : (readsOf r').contains d = true := by simpa using ht
    simp only [hc, Bool.not_true, Bool.false_or] at h9
    refine ⟨h9, fun j' r'' hj' ht' => ?_⟩
    exact filter_one h8 hj' hj (by simpa using ht') hc

structure DrawOK (ops : Array Oper) (m : Nat) (front : List RIns) : Prop extends DrawOK0 ops m front where
  tail : ∀ (k j : Nat), k < ops.size → m ≤ k → j < k → dep ops k j = true

theorem drawOK_inv {ops : Array Oper} {m : Nat} {front : List RIns} (h : drawOK ops m front = true) : DrawOK ops m front := by
  unfold drawOK at h
  simp only [Bool.and_eq_true] at h
  obtain ⟨h1, h2⟩ := h
  rw [List.all_eq_true] at h1
  refine ⟨drawOK0_inv h2, fun k j hk hm hj => ?_⟩
  have := h1 k (List.mem_range.2 hk)
  simp only [Bool.or_eq_true, decide_eq_true_eq] at this
  rcases this with h | h
  · omega
  · rw [List.all_eq_true] at h
    exact h j (List.mem_range.2 hj)

theorem mapM_get {α β : Type} {f : α → Option β} : ∀ {l : List α} {rs : List β}, l.mapM f = some rs → rs.length = l.length ∧ ∀ (i : Nat) x, l[i]? = some x → ∃ r, rs[i]? = some r ∧ f x = some r
  | [], rs, h => by simp at h; subst h; exact ⟨rfl, fun i x hx => by simp at hx⟩
  | y :: l, rs, h => by
    simp only [List.mapM_cons, Option.bind_eq_bind, Option.pure_def, Option.bind_eq_some_iff, Option.some.injEq] at h
    obtain ⟨r, h1, rs', h2, rfl⟩ := h
    obtain ⟨h3, h4⟩ := mapM_get h2
    refine ⟨by simp [h3], fun i x hx => ?_⟩
    cases i with
    | zero => simp at hx; subst hx; exact ⟨r, rfl, h1⟩
    | succ i => exact h4 i x (by simpa using hx)

section
variable {P : Program} {W0 : World} {g g0 : Gh} {O OS : Heap} {w : World} {n : Nat} {a : Act} {e e0 : Env} {front : List RIns} {V : Nat → AV} {ops : Array Oper} {m : Nat} {listed : Array Bool} {idf : Nat → Nat}

/-- An operation of the front that has made an object of its own, which nothing has taken up yet. -/
def live (front : List RIns) (V : Nat → AV) (listed : Array Bool) (i : Nat) (r : RIns) : Prop :=
  listed.getD i false = true ∧ (isAlloc r.2.2 = true ∨ (isPend r.2.2 = true ∧ (∃ E sz L, V i = .pend E sz L) ∧ ∀ d, r.1 = some d → ∀ (j : Nat) r', front[j]? = some r' → listed.getD j false = true → d ∉ readsOf r'))

structure DSt (W0 : World) (n : Nat) (front : List RIns) (V : Nat → AV) (e0 : Env) (O : Heap) (listed : Array Bool) (g : Gh) (OS : Heap) (w : World) (a : Act) (idf : Nat → Nat) : Prop where
  inv : Inv W0 g OS w
  sub : O.sub OS
  size : a.tmps.size = n
  defers : a.defers = []
  other : ∀ t, (∀ (i : Nat) r, front[i]? = some r → r.1 ≠ some t) → Reads g (e0 t) (a.tmps.getD t undef)
  done : ∀ (i : Nat) r d, front[i]? = some r → r.1 = some d → listed.getD i false = true → (isPend r.2.2 = true → ∀ E sz L, V i ≠ .pend E sz L) → Reads g (V i) (a.tmps.getD d undef)
  al : ∀ (i : Nat) r d E sz z, front[i]? = some r → r.1 = some d → r.2.2 = .alloc E sz z → listed.getD i false = true → Reads g (.optr (idf i) sz 0 0) (a.tmps.getD d undef) ∧ OS (idf i) = some (.arr E sz [z]) ∧ O (idf i) = none
  pd : ∀ (i : Nat) r d E sz L, front[i]? = some r → r.1 = some d → isPend r.2.2 = true → V i = .pend E sz L → listed.getD i false = true → (∀ (j : Nat) r', front[j]? = some r' → listed.getD j false = true → d ∉ readsOf r') →
    ∃ c elems, Reads g (.own (idf i) sz 0 L.length c) (a.tmps.getD d undef) ∧ OS (idf i) = some (.arr E sz elems) ∧ O (idf i) = none ∧ elems.take L.length = L
  inj : ∀ (i j : Nat) r r', front[i]? = some r → front[j]? = some r' → live front V listed i r → live front V listed j r' → idf i = idf j → i = j

theorem alloc_of {c : CI} (h : isAlloc c = true) : ∃ E sz z, c = .alloc E sz z := by
  cases c <;> first | (cases h; done) | exact ⟨_, _, _, rfl⟩

theorem DSt.some_of_live (hok : DrawOK0 ops m front) (hD : DSt W0 n front V e0 O listed g OS w a idf) {i : Nat} {r : RIns} (hr : front[i]? = some r) (hl : live front V listed i r) : OS (idf i) ≠ none := by
  obtain ⟨d, hd⟩ := hok.dst i r hr
  rcases hl with ⟨hl, ha | ⟨hp, ⟨E, sz, L, hV⟩, hn⟩⟩
  · obtain ⟨E, sz, z, hc⟩ := alloc_of ha
    rw [(hD.al i r d E sz z hr hd hc hl).2.1]; simp
  · obtain ⟨c, elems, _, h, _⟩ := hD.pd i r d E sz L hr hd hp hV hl (hn d hd)
    rw [h]; simp

theorem put_getD (a : Act) (h : a.tmps.size = n) {d t : Nat} (hd : d < n) (v : Value) : (a.put (some d) v).tmps.getD t undef = if t = d then v else a.tmps.getD t undef := by
  simp only [Act.put]
  by_cases ht : t = d
  · subst ht
    have hlt : t < a.tmps.size := by omega
    simp [hlt]
  · rw [if_neg ht]
    simp [Array.getElem?_setIfInBounds_ne (Ne.symm ht)]

theorem listed_set {i j : Nat} (hi : i < listed.size) : (listed.setIfInBounds i true).getD j false = if j = i then true else listed.getD j false := by
  by_cases hji : j = i
  · subst hji; simp [hi]
  · rw [if_neg hji]; simp [Array.getElem?_setIfInBounds_ne (Ne.symm hji)]

theorem oper_out {b : Bool} {o : Oper} {ci : CI} {K : AV → Heap → Prop} {next : Act → World → Prop} {Q : Exit → Act → World → Prop} (hc : compileOp P b o = some ci)
    (hI : Inv W0 g OS w) (hr : ∀ x, Reads g (e.opd x) (a.eval x)) (h : CiSem P ci e OS K) (hn : ∀ v w', Out W0 g K v w' → next (a.put o.dst v) w') : o.wp P a w next Q := by
  have hop := op_sound (K := K) hc h g W0 w a.eval hI hr
  unfold Oper.wp Oper.upon
  split at hop
  · rename_i v w' heq
    rw [heq]
    exact hn v w' hop
  · rename_i w' heq
    rw [heq]
    exact hn undef w' hop
  · rename_i f args w' heq
    rw [heq]
    refine hop.mono fun en w'' ⟨v, hv, ho⟩ => ?_
    subst hv
    exact hn v w'' ho
  · exact hop.elim

theorem mem_tmpsOf {l : List Operand} {t : Nat} : t ∈ tmpsOf l ↔ Operand.tmp t ∈ l := by
  unfold tmpsOf
  rw [List.mem_filterMap]
  constructor
  · rintro ⟨x, hx, h⟩
    cases x <;> simp at h
    subst h; exact hx
  · intro h
    exact ⟨_, h, rfl⟩

theorem draw_step {ow : List Nat} {next : Act → World → Prop} {Q : Exit → Act → World → Prop} (hok : DrawOK0 ops m front) (hm : m ≤ ops.size) (hfl : front.length = m)
    (hcomp : ∀ (i : Nat) o, i < m → ops[i]? = some o → ∃ r, front[i]? = some r ∧ compileOper P n ow ops o = some r)
    (hsteps : ∀ (i : Nat) r, front[i]? = some r → stepOK P O (envAt V e0 front i) r (V i))
    (hls : listed.size = ops.size) (hD : DSt W0 n front V e0 O listed g OS w a idf) {i : Nat} (hi : i < m) (hready : i ∈ Region.ready .any ops listed)
    (hn : ∀ g' OS' w' a' idf', g.le g' → DSt W0 n front V e0 O (listed.setIfInBounds i true) g' OS' w' a' idf' → next a' w') : wpOp P ops Q i next a w := by
  obtain ⟨hun, o, ho, hedges⟩ := mem_ready.1 hready
  obtain ⟨⟨d0, gd, ci⟩, hr, hco⟩ := hcomp i o hi ho
  obtain ⟨rfl, hdn, ⟨b, hb⟩, hg⟩ := compileOper_inv hco
  have hstep := hsteps i _ hr
  obtain ⟨d, hd0⟩ := hok.dst i _ hr
  have hd : o.dst = some d := hd0
  clear hd0
  have hdn := hdn d hd
  have hil : i < listed.size := by omega
  have hiun : listed.getD i false = false := by simp [hil] at hun ⊢; exact hun
  have hfm : ∀ {j : Nat} {r'}, front[j]? = some r' → j < m := fun h => by rw [← hfl]; exact (List.getElem?_eq_some_iff.1 h).1
  -- what is read has been computed
  have hlisted : ∀ t, t ∈ readsOf (o.dst, gd, ci) → ∀ j r', front[j]? = some r' → r'.1 = some t → j < i ∧ listed.getD j false = true ∧ envAt V e0 front i t = V j := by
    intro t ht j r' hj hjt
    obtain ⟨hji, hdep⟩ := hok.reads i _ t j r' hi (hfm hj) hr ht hj hjt
    refine ⟨hji, ?_, ?_⟩
    · unfold dep at hdep
      rw [ho] at hdep
      have hdep : o.after.any (fun e => e.on == j && Region.binds .any e) = true := hdep
      rw [Array.any_eq_true] at hdep
      obtain ⟨q, hq, hh⟩ := hdep
      obtain ⟨ed, hed, hh⟩ : ∃ ed ∈ o.after, (ed.on == j && Region.binds .any ed) = true := ⟨o.after[q], Array.getElem_mem hq, hh⟩
      simp only [Bool.and_eq_true, beq_iff_eq] at hh
      rw [← hh.1]
      exact hedges ed hed hh.2
    · exact envAt_at front V e0 i j r' hji hj hjt (fun k r'' hk hr'' hkt => hk (hok.nodup k j r'' r' (hfm hr'') (hfm hj) hr'' hj (hkt.trans hjt.symm)))
  have hread : ∀ t, t ∈ readsOf (o.dst, gd, ci) → (∀ j r' E sz L, front[j]? = some r' → r'.1 = some t → isPend r'.2.2 = true → V j ≠ .pend E sz L) → Reads g (envAt V e0 front i t) (a.tmps.getD t undef) := by
    intro t ht hnp
    rcases Classical.em (∃ (j : Nat) (r' : RIns), front[j]? = some r' ∧ r'.1 = some t) with ⟨j, r', hj, hjt⟩ | hno
    · obtain ⟨hji, hlj, he⟩ := hlisted t ht j r' hj hjt
      rw [he]
      exact hD.done j r' t hj hjt hlj (fun hp E sz L => hnp j r' E sz L hj hjt hp)
    · rw [envAt_other front V e0 i (fun j r' _ hj hjt => hno ⟨j, r', hj, hjt⟩)]
      exact hD.other t (fun j r' hj hjt => hno ⟨j, r', hj, hjt⟩)
  have lmono : ∀ {j : Nat} {r'}, j ≠ i → live front V (listed.setIfInBounds i true) j r' → live front V listed j r' := by
    intro j r' hji ⟨hl, h⟩
    rw [listed_set hil, if_neg hji] at hl
    refine ⟨hl, h.imp id fun ⟨hp, hV, hn⟩ => ⟨hp, hV, fun d' hd' k r'' hk hkl => hn d' hd' k r'' hk ?_⟩⟩
    rw [listed_set hil]
    split
    · rfl
    · exact hkl
  -- what is left
  have keep : ∀ {g' : Gh} {OS' : Heap} {w' : World} {v : Value} {idf' : Nat → Nat}, g.le g' → Inv W0 g' OS' w' → O.sub OS' →
      (∀ j r', j ≠ i → front[j]? = some r' → live front V listed j r' → live front V (listed.setIfInBounds i true) j r' → OS' (idf j) = OS (idf j)) →
      ((isPend ci = true → ∀ E sz L, V i ≠ .pend E sz L) → Reads g' (V i) v) →
      (∀ E sz z, ci = .alloc E sz z → Reads g' (.optr (idf' i) sz 0 0) v ∧ OS' (idf' i) = some (.arr E sz [z]) ∧ OS (idf' i) = none) →
      (∀ E sz L, isPend ci = true → V i = .pend E sz L → ∃ c elems, Reads g' (.own (idf' i) sz 0 L.length c) v ∧ OS' (idf' i) = some (.arr E sz elems) ∧ OS (idf' i) = none ∧ elems.take L.length = L) →
      (∀ j, j ≠ i → idf' j = idf j) → DSt W0 n front V e0 O (listed.setIfInBounds i true) g' OS' w' (a.put (some d) v) idf' := by
    intro g' OS' w' v idf' hle hI hsub hkeep hv hal hpd hid
    have hnone : ∀ k, OS k = none → O k = none := fun k hk => by
      cases hO : O k with
      | none => rfl
      | some o' => rw [hD.sub _ _ hO] at hk; cases hk
    have hdne : ∀ {j : Nat} {r' d'}, j ≠ i → front[j]? = some r' → r'.1 = some d' → d' ≠ d := fun {j r' d'} hji hj hjd e => hji (hok.nodup j i r' _ (hfm hj) hi hj hr (by rw [hjd, e]; exact hd.symm))
    refine ⟨hI, hsub, by simp [Act.put, hD.size], hD.defers, fun t ht => ?_, fun j r' d' hj hjd hl hnp => ?_, fun j r' d' E sz z hj hjd hjc hl => ?_, fun j r' d' E sz L hj hjd hp hV hl hno => ?_, fun j k r1 r2 hj hk l1 l2 he => ?_⟩
    · rw [put_getD a hD.size hdn]
      have hne : t ≠ d := fun e => ht i _ hr (by rw [e]; exact hd)
      rw [if_neg hne]
      exact (hD.other t ht).mono hle
    · rw [put_getD a hD.size hdn]
      rw [listed_set hil] at hl
      by_cases hji : j = i
      · subst hji
        rw [hr] at hj
        cases hj
        have : d' = d := by rw [hd] at hjd; cases hjd; rfl
        rw [if_pos this]
        exact hv hnp
      · rw [if_neg hji] at hl
        rw [if_neg (hdne hji hj hjd)]
        exact (hD.done j r' d' hj hjd hl hnp).mono hle
    · rw [put_getD a hD.size hdn]
      have hl0 := hl
      rw [listed_set hil] at hl
      by_cases hji : j = i
      · subst hji
        rw [hr] at hj
        cases hj
        have : d' = d := by rw [hd] at hjd; cases hjd; rfl
        rw [if_pos this]
        obtain ⟨p1, p2, p3⟩ := hal E sz z hjc
        exact ⟨p1, p2, hnone _ p3⟩
      · rw [if_neg hji] at hl
        rw [if_neg (hdne hji hj hjd), hid j hji]
        obtain ⟨p1, p2, p3⟩ := hD.al j r' d' E sz z hj hjd hjc hl
        have ha : isAlloc r'.2.2 = true := by rw [hjc]; rfl
        exact ⟨p1.mono hle, by rw [hkeep j r' hji hj ⟨hl, .inl ha⟩ ⟨hl0, .inl ha⟩]; exact p2, p3⟩
    · rw [put_getD a hD.size hdn]
      have hl0 := hl
      rw [listed_set hil] at hl
      by_cases hji : j = i
      · subst hji
        rw [hr] at hj
        cases hj
        have : d' = d := by rw [hd] at hjd; cases hjd; rfl
        rw [if_pos this]
        obtain ⟨c, elems, p1, p2, p3, p4⟩ := hpd E sz L hp hV
        exact ⟨c, elems, p1, p2, hnone _ p3, p4⟩
      · rw [if_neg hji] at hl
        rw [if_neg (hdne hji hj hjd), hid j hji]
        have hl1 : live front V (listed.setIfInBounds i true) j r' := ⟨hl0, .inr ⟨hp, ⟨E, sz, L, hV⟩, fun d2 hd2 => by rw [hjd] at hd2; cases hd2; exact hno⟩⟩
        have hl2 := lmono hji hl1
        obtain ⟨c, elems, p1, p2, p3, p4⟩ := hD.pd j r' d' E sz L hj hjd hp hV hl (fun k r'' hk hkl => hno k r'' hk (by rw [listed_set hil]; split <;> simp [*]))
        exact ⟨c, elems, p1.mono hle, by rw [hkeep j r' hji hj hl2 hl1]; exact p2, p3, p4⟩
    · have new : ∀ r1, front[i]? = some r1 → live front V (listed.setIfInBounds i true) i r1 → OS (idf' i) = none := fun r1 h1 ⟨_, h⟩ => by
        rw [hr] at h1
        cases h1
        rcases h with ha | ⟨hp, ⟨E, sz, L, hV⟩, _⟩
        · obtain ⟨E, sz, z, hc⟩ := alloc_of ha
          exact (hal E sz z hc).2.2
        · obtain ⟨_, _, _, _, h, _⟩ := hpd E sz L hp hV
          exact h
      by_cases hji : j = i
      · by_cases hki : k = i
        · exact hji.trans hki.symm
        · subst hji
          have h1 := new r1 hj l1
          have h2 := hD.some_of_live hok hk (lmono hki l2)
          rw [hid k hki] at he
          rw [he] at h1
          exact absurd h1 h2
      · by_cases hki : k = i
        · subst hki
          have h1 := new r2 hk l2
          have h2 := hD.some_of_live hok hj (lmono hji l1)
          rw [hid j hji] at he
          rw [← he] at h1
          exact absurd h1 h2
        · rw [hid j hji, hid k hki] at he
          exact hD.inj j k r1 r2 hj hk (lmono hji l1) (lmono hki l2) he
  -- the operation carried out
  have run : drawFun P ci (envAt V e0 front i) O (V i) → o.wp P a w next Q := by
    intro hf
    rcases Classical.em (∃ t j r' E sz L, t ∈ tmpsOf ci.opdsP ∧ front[j]? = some r' ∧ r'.1 = some t ∧ isPend r'.2.2 = true ∧ V j = .pend E sz L) with ⟨t, j, r', E, sz, L, ht, hj, hjt, hjp, hjV⟩ | hno
    · -- what a new array is appended to
      obtain ⟨hcons, huniq⟩ := hok.pend j r' t hj hjp hjt i _ hr (List.mem_append_left _ ht)
      obtain ⟨E1, sz1, by1, x, rfl, hxt⟩ : ∃ E1 sz1 by1 x, ci = .append false E1 sz1 by1 (.tmp t) x ∧ t ∉ tmpsOf [x] := by
        exact consumes_inv hcons
      obtain ⟨hji, hlj, hej⟩ := hlisted t (List.mem_append_left _ ht) j r' hj hjt
      have hnoread : ∀ (k : Nat) r'', front[k]? = some r'' → listed.getD k false = true → t ∉ readsOf r'' := fun k r'' hk hkl hm => by
        have := huniq k r'' hk hm
        rw [this, hiun] at hkl; cases hkl
      obtain ⟨c, elems, p1, p2, p3, p4⟩ := hD.pd j r' t E sz L hj hjt hjp hjV hlj hnoread
      have hf : AppendPure E1 sz1 by1 (envAt V e0 front i t) ((envAt V e0 front i).opd x) O (V i) := hf
      rw [hej, hjV] at hf
      obtain ⟨X, hX, h1, h2, h3, hV⟩ := hf
      subst h1 h2
      let e1 : Env := fun u => if u = t then .own (idf j) sz 0 L.length c else if u ∈ tmpsOf [x] then envAt V e0 front i u else .junk
      have hre : ∀ y, Reads g (e1.opd y) (a.eval y) := by
        intro y
        cases y with
        | tmp u =>
          show Reads g (if u = t then .own (idf j) sz 0 L.length c else if u ∈ tmpsOf [x] then envAt V e0 front i u else .junk) (a.tmps.getD u undef)
          split
          · rename_i hu; rw [hu]; exact p1
          · split
            · rename_i hut hu
              have hu' : u ∈ readsOf (o.dst, gd, CI.append false E sz by1 (.tmp t) x) := by
                refine List.mem_append_left _ (mem_tmpsOf.2 ?_)
                have := mem_tmpsOf.1 hu
                simp only [CI.opdsP, CI.opds, List.mem_cons, List.not_mem_nil, or_false] at this ⊢
                exact .inr this
              refine hread u hu' fun j2 r2 E2 sz2 L2 hj2 hj2t hp2 hV2 => ?_
              have := (hok.pend j2 r2 u hj2 hp2 hj2t i _ hr hu').1
              unfold consumes at this
              simp only [Bool.and_eq_true, beq_iff_eq] at this
              exact hut this.1.1.symm
            · exact .junk _
        | const v => exact .val v
        | global g' => exact .val _
        | func f => exact .clo _ _ _ _ _ rfl rfl (fun i x v hx => by simp at hx) (fun i x v hx => by simp at hx)
      have hxe : e1.opd x = (envAt V e0 front i).opd x := by
        cases x with
        | tmp u =>
          have hut : u ≠ t := fun e => hxt (by rw [e]; simp [tmpsOf])
          show (if u = t then _ else if u ∈ tmpsOf [Operand.tmp u] then envAt V e0 front i u else .junk) = envAt V e0 front i u
          rw [if_neg hut, if_pos (by simp [tmpsOf])]
        | const v => rfl
        | global g' => rfl
        | func f => rfl
      have hlen : L.length ≤ elems.length := by
        have := congrArg List.length p4
        simp at this; omega
      have hsem : CiSem P (.append false E sz by1 (.tmp t) x) e1 OS (fun r O' => ∃ id', OS id' = none ∧ r = .own id' sz 0 (L.length + X.length) none ∧ O' = (OS.del (idf j)).upd id' (.arr E sz (L ++ X))) := by
        show AppendSem false E sz by1 (e1 t) (e1.opd x) OS _
        refine ⟨X, by rw [hxe]; exact elemsA_mono hD.sub hX, ?_⟩
        have : e1 t = .own (idf j) sz 0 L.length c := if_pos rfl
        rw [this]
        exact ⟨elems, p2, rfl, hlen, h3, .inl fun id' hid' => ⟨id', hid', rfl, by rw [p4]⟩⟩
      refine oper_out hb hD.inv hre hsem fun v w' ⟨g', r, O', q1, q2, q3, id', q4, q5, q6⟩ => ?_
      subst q5 q6
      obtain ⟨g'', q7, q8, q9⟩ := freeze_sound q2 (Heap.upd_same _ _ _)
      have q10 := q9 _ _ v (.own 0 (L.length + X.length) none false (by simp) (fun h => by cases h)) q3
      have hll : ((L ++ X).drop 0).take (L.length + X.length) = L ++ X := by
        rw [List.drop_zero, ← List.length_append, List.take_length]
      rw [hll] at q10
      rw [hd]
      have hjlive : live front V listed j r' := ⟨hlj, .inr ⟨hjp, ⟨E, sz, L, hjV⟩, fun d2 hd2 => by rw [hjt] at hd2; cases hd2; exact hnoread⟩⟩
      refine hn g'' _ w' _ idf (q1.trans q7) (keep (q1.trans q7) q8 (fun k o' hk => ?_) (fun j2 r2 hji2 hj2 hl2 hl2' => ?_) (fun _ => by rw [hV]; exact q10) (fun E' sz' z' hc => by cases hc) (fun E' sz' L' hp' => by cases hp') (fun _ _ => rfl))
      · have h4 := hD.sub _ _ hk
        rw [Heap.del_apply, if_neg (fun e => by rw [e, q4] at h4; cases h4), Heap.upd_ne _ _ (fun e => by rw [e, q4] at h4; cases h4), Heap.del_apply, if_neg (fun e => by rw [e, p3] at hk; cases hk)]
        exact h4
      · have hne1 : idf j2 ≠ idf j := fun e => by
          have hjj : j2 = j := hD.inj j2 j r2 r' hj2 hj hl2 hjlive e
          subst hjj
          rw [hj] at hj2
          cases hj2
          obtain ⟨_, ha | ⟨_, _, hno⟩⟩ := hl2'
          · obtain ⟨_, _, _, hc⟩ := alloc_of ha
            rw [hc] at hjp; cases hjp
          · exact hno t hjt i _ hr (by rw [listed_set hil, if_pos rfl]) (List.mem_append_left _ ht)
        have hne2 : idf j2 ≠ id' := fun e => hD.some_of_live hok hj2 hl2 (by rw [e]; exact q4)
        rw [Heap.del_apply, if_neg hne2, Heap.upd_ne _ _ hne2, Heap.del_apply, if_neg hne1]
    have hread' : ∀ t, t ∈ tmpsOf ci.opdsP → Reads g (envAt V e0 front i t) (a.tmps.getD t undef) := fun t ht => hread t (List.mem_append_left _ ht) fun j r' E sz L hj hjt hp hV => hno ⟨t, j, r', E, sz, L, ht, hj, hjt, hp, hV⟩
    let e' : Env := fun t => if t ∈ tmpsOf ci.opdsP then envAt V e0 front i t else .junk
    have hre : ∀ x, Reads g (e'.opd x) (a.eval x) := by
      intro x
      cases x with
      | tmp t =>
        show Reads g (if t ∈ tmpsOf ci.opdsP then envAt V e0 front i t else .junk) (a.tmps.getD t undef)
        split
        · rename_i hmem
          exact hread' t hmem
        · exact .junk _
      | const v => exact .val v
      | global g' => exact .val _
      | func f => exact .clo _ _ _ _ _ rfl rfl (fun i x v hx => by simp at hx) (fun i x v hx => by simp at hx)
    have hopd : ∀ x ∈ ci.opdsP, (envAt V e0 front i).opd x = e'.opd x := by
      intro x hx
      cases x with
      | tmp t => show envAt V e0 front i t = (if t ∈ tmpsOf ci.opdsP then envAt V e0 front i t else .junk); rw [if_pos (mem_tmpsOf.2 hx)]
      | const v => rfl
      | global g' => rfl
      | func f => rfl
    cases hal : isAlloc ci with
    | false =>
      cases hpe : isPend ci with
      | false =>
        have hnp : ∀ E sz b s x, ci = .append false E sz b s x → ∀ E' s' L, (envAt V e0 front i).opd s ≠ .pend E' s' L := fun E sz b s x hc E' s' L he => by
          have h1 := hre s
          rw [← hopd s (by rw [hc]; simp [CI.opdsP, CI.opds]), he] at h1
          exact h1.not_pend
        have hsem := drawFun_sem hf hal hpe hnp (fun x hx => hopd x (opds_sub hx)) hD.sub
        refine oper_out hb hD.inv hre hsem fun v w' ⟨g', r, O', h1, h2, h3, h4, h5⟩ => ?_
        subst h4 h5
        rw [hd]
        refine hn g' O' w' _ idf h1 (keep h1 h2 hD.sub (fun _ _ _ _ _ _ => rfl) (fun _ => h3) (fun E sz z hc => ?_) (fun E sz L hp => ?_) (fun _ _ => rfl))
        · rw [hc] at hal
          cases hal
        · rw [hpe] at hp; cases hp
      | true =>
        have hsem := drawPend_sem hf hpe hopd hD.sub
        refine oper_out hb hD.inv hre hsem fun v w' ⟨g', r, O', h1, h2, h3, h4⟩ => ?_
        rw [hd]
        rcases h4 with ⟨hnp, h4, h5⟩ | ⟨E, sz, L, id, c, elems, hV, hid, h4, h5, h6⟩
        · subst h4 h5
          refine hn g' O' w' _ idf h1 (keep h1 h2 hD.sub (fun _ _ _ _ _ _ => rfl) (fun _ => h3) (fun E sz z hc => ?_) (fun E sz L _ hV => absurd hV (hnp E sz L)) (fun _ _ => rfl))
          rw [hc] at hal
          cases hal
        · subst h4 h5
          refine hn g' _ w' _ (fun j => if j = i then id else idf j) h1 (keep h1 h2 (fun k o' hk => ?_) (fun j r' hji hj hl _ => ?_) (fun hnp => absurd hV (hnp hpe E sz L)) (fun E sz z hc => ?_) (fun E2 sz2 L2 _ hV2 => ?_) (fun j hj => if_neg hj))
          · have h7 := hD.sub _ _ hk
            rw [Heap.upd_ne _ _ (fun e => by rw [e, hid] at h7; cases h7)]
            exact h7
          · rw [Heap.upd_ne _ _ (fun e => hD.some_of_live hok hj hl (by rw [e]; exact hid))]
          · rw [hc] at hal
            cases hal
          · rw [hV] at hV2
            cases hV2
            simp only [if_true]
            exact ⟨c, elems, h3, Heap.upd_same _ _ _, hid, h6⟩
    | true =>
      obtain ⟨E, sz, z, rfl⟩ := alloc_of hal
      have hV : V i = .junk := hf
      have hsem : CiSem P (.alloc E sz z) e' OS (fun r O' => ∃ id, OS id = none ∧ r = .optr id sz 0 0 ∧ O' = OS.upd id (.arr E sz [z])) := fun id hid => ⟨id, hid, rfl, rfl⟩
      refine oper_out hb hD.inv hre hsem fun v w' ⟨g', r, O', h1, h2, h3, id, h4, h5, h6⟩ => ?_
      subst h5 h6
      rw [hd]
      refine hn g' _ w' _ (fun j => if j = i then id else idf j) h1 (keep h1 h2 (fun k o' hk => ?_) (fun j r' hji hj hl _ => ?_) (fun _ => by rw [hV]; exact .junk _) (fun E' sz' z' hc => ?_) (fun E sz L hp => by cases hp) (fun j hj => if_neg hj))
      · have h7 := hD.sub _ _ hk
        rw [Heap.upd_ne _ _ (fun e => by rw [e, h4] at h7; cases h7)]
        exact h7
      · rw [Heap.upd_ne _ _ (fun e => hD.some_of_live hok hj hl (by rw [e]; exact h4))]
      · cases hc
        simp only [if_true]
        exact ⟨h3, Heap.upd_same _ _ _, h4⟩
  unfold wpOp
  rw [ho]
  simp only []
  unfold stepOK at hstep
  rcases hg with ⟨hg, rfl⟩ | ⟨j, want, s, hg, rfl, hs, hsn⟩
  · rw [if_pos (wanted_none hg _)]
    exact .inl (run hstep)
  · obtain ⟨bb, hbb, hcase⟩ := hstep
    have hrs := hread s (List.mem_append_right _ (by simp)) fun j2 r2 E2 sz2 L2 hj2 hj2t hp2 _ => by
      have := (hok.pend j2 r2 s hj2 hp2 hj2t i _ hr (List.mem_append_right _ (by simp))).1
      unfold consumes at this
      simp at this
    rw [hbb] at hrs
    have hw := wanted_some hg hs hsn hD.size hrs.val_inv
    rcases hcase with ⟨hbw, hf⟩ | ⟨hbw, hV⟩
    · rw [if_pos (hw.1 hbw)]
      exact .inl (run hf)
    · rw [if_neg (by rw [hw.2 hbw]; simp), hd]
      refine hn g OS w _ idf (.refl g) (keep (.refl g) hD.inv hD.sub (fun _ _ _ _ _ _ => rfl) (fun _ => by rw [hV]; exact .val _) (fun E sz z hc => ?_) (fun E sz L _ hp => by rw [hV] at hp; cases hp) (fun _ _ => rfl))
      have := hok.al i _ hr (by rw [hc]; rfl)
      cases this

/-- Slots that hold nothing any more. -/
def killE : List Nat → Env → Env
  | [], e => e
  | d :: L, e => (killE L e).upd d .junk

theorem killE_mem : ∀ {L : List Nat} {e : Env} {t : Nat}, t ∈ L → killE L e t = .junk
  | d :: L, e, t, h => by
    show (killE L e).upd d .junk t = .junk
    rw [Env.upd_apply]
    split
    · rfl
    · rename_i hne
      rw [List.mem_cons] at h
      exact killE_mem (h.resolve_left hne)
theorem killE_not : ∀ {L : List Nat} {e : Env} {t : Nat}, t ∉ L → killE L e t = e t
  | [], e, t, _ => rfl
  | d :: L, e, t, h => by
    rw [List.mem_cons, not_or] at h
    show (killE L e).upd d .junk t = e t
    rw [Env.upd_apply, if_neg h.1]
    exact killE_not h.2

def pendDsts (front : List RIns) : List Nat := front.filterMap fun r => if isPend r.2.2 then r.1 else none

theorem mem_pendDsts {front : List RIns} {i : Nat} {r : RIns} {d : Nat} (hr : front[i]? = some r) (hp : isPend r.2.2 = true) (hd : r.1 = some d) : d ∈ pendDsts front := by
  unfold pendDsts
  rw [List.mem_filterMap]
  exact ⟨r, List.mem_of_getElem? hr, by simp [hp, hd]⟩

end
end Go.Ab

/- The abstract walk, sixteenth part: the whole of a region that draws its order. -/
namespace Go.Ab

def allocsOf (front : List RIns) : List RIns := front.filter fun r => isAlloc r.2.2

section
variable {P : Program} {W0 : World} {g g0 : Gh} {O OS : Heap} {w : World} {n : Nat} {a : Act} {e e0 : Env} {front : List RIns} {V : Nat → AV} {ops : Array Oper} {m : Nat} {listed : Array Bool} {idf : Nat → Nat}

/-- The variables that the front has made get their names. -/
theorem allocs_run {tail : List RIns} {K : Env → Heap → Prop} : ∀ (A : List (RIns × Nat)) (e : Env) (O1 : Heap),
    (∀ r i, (r, i) ∈ A → isAlloc r.2.2 = true ∧ r.2.1 = none ∧ (∃ d E sz z, r.1 = some d ∧ r.2.2 = .alloc E sz z ∧ Reads g (.optr (idf i) sz 0 0) (a.tmps.getD d undef) ∧ OS (idf i) = some (.arr E sz [z]))) →
    (A.map (fun p => idf p.2)).Nodup → (∀ r i, (r, i) ∈ A → O1 (idf i) = none) → O1.sub OS → (∀ t, Reads g (e t) (a.tmps.getD t undef)) → opsW P (A.map (·.1) ++ tail) K e O1 →
    ∃ e' O2, O2.sub OS ∧ (∀ t, Reads g (e' t) (a.tmps.getD t undef)) ∧ opsW P tail K e' O2
  | [], e, O1, _, _, _, hs, hr, h => ⟨e, O1, hs, hr, by simpa using h⟩
  | (r, i) :: A, e, O1, hA, hnd, hO, hs, hr, h => by
    obtain ⟨_, hg, d, E, sz, z, hd, hc, h1, h2⟩ := hA r i (by simp)
    obtain ⟨rd, rg, rc⟩ := r
    simp only at hd hg hc
    subst hd hg hc
    simp only [List.map_cons, List.cons_append] at h
    rw [opsW_cons] at h
    have h3 := h (idf i) (hO (some d, none, .alloc E sz z) i (by simp))
    rw [opK_apply] at h3
    simp only [List.map_cons, List.nodup_cons] at hnd
    refine allocs_run A _ _ (fun r' i' hm => hA r' i' (by simp [hm])) hnd.2 (fun r' i' hm => ?_) (fun k o hk => ?_) (fun t => ?_) h3
    · rw [Heap.upd_ne]
      · exact hO r' i' (by simp [hm])
      · intro he
        exact hnd.1 (List.mem_map.2 ⟨(r', i'), hm, he⟩)
    · rw [Heap.upd_apply] at hk
      split at hk
      · rename_i hki
        cases hk
        rw [hki]; exact h2
      · exact hs k o hk
    · simp only [Env.put, Env.upd_apply]
      split
      · rename_i ht; rw [ht]; exact h1
      · exact hr t

/-- What comes behind the front, in its order. -/
theorem tail_sound {ow : List Nat} {K : Env → Heap → Prop} {Q : Exit → Act → World → Prop} (hQ : ∀ a w, Post W0 g0 n K a w → Q .normal a w) (hok : DrawOK ops m front) :
    ∀ (q k : Nat) (rs : List RIns) (listed : Array Bool) (g : Gh) (O : Heap) (w : World) (a : Act) (e : Env), k + q = ops.size → m ≤ k → listed.size = ops.size → (∀ j, j < ops.size → (listed.getD j false = true ↔ j < k)) →
      (ops.toList.drop k).mapM (compileOper P n ow ops) = some rs → g0.le g → St W0 g O w n a e → opsW P rs K e O → wpAny P .any ops Q q listed a w
  | 0, k, rs, listed, g, O, w, a, e, hk, hm, hls, hl, hc, hle, hS, h => by
    have : ops.toList.drop k = [] := List.drop_eq_nil_of_le (by simp; omega)
    rw [this] at hc
    simp at hc
    subst hc
    rw [opsW_nil] at h
    refine ⟨?_, hQ _ _ ⟨g, e, O, hle, hS, h⟩⟩
    rw [List.eq_nil_iff_forall_not_mem]
    intro j hj
    obtain ⟨hun, o, ho, _⟩ := mem_ready.1 hj
    have hjs : j < ops.size := (Array.getElem?_eq_some_iff.1 ho).1
    have := (hl j hjs).2 (by omega)
    have hlt : j < listed.size := by omega
    simp [hlt] at hun this
    rw [hun] at this
    cases this
  | q + 1, k, rs, listed, g, O, w, a, e, hk, hm, hls, hl, hc, hle, hS, h => by
    have hlt : k < ops.size := by omega
    have ho : ops[k]? = some ops[k] := Array.getElem?_eq_getElem hlt
    have hkready : k ∈ Region.ready .any ops listed := by
      refine mem_ready.2 ⟨?_, _, ho, fun ed hed hb => ?_⟩
      · have := hl k hlt
        have hkl : k < listed.size := by omega
        simp [hkl] at this ⊢
        exact this
      · have := hok.edges k _ ed ho hed hb
        exact (hl ed.on (by omega)).2 this
    refine ⟨fun he => (by rw [he] at hkready; cases hkready), fun i hi => ?_⟩
    have hik : i = k := by
      obtain ⟨hun, o, hoi, hed⟩ := mem_ready.1 hi
      have his : i < ops.size := (Array.getElem?_eq_some_iff.1 hoi).1
      have hige : k ≤ i := by
        rcases Nat.lt_or_ge i k with h' | h'
        · have := (hl i his).2 h'
          have hil : i < listed.size := by omega
          simp [hil] at hun this
          rw [hun] at this; cases this
        · exact h'
      rcases Nat.eq_or_lt_of_le hige with h' | h'
      · exact h'.symm
      · have hd := hok.tail i k his (by omega) h'
        unfold dep at hd
        rw [hoi] at hd
        have hd : o.after.any (fun e => e.on == k && Region.binds .any e) = true := hd
        rw [Array.any_eq_true] at hd
        obtain ⟨q', hq', hh⟩ := hd
        simp only [Bool.and_eq_true, beq_iff_eq] at hh
        have := hed _ (Array.getElem_mem hq') hh.2
        rw [hh.1] at this
        have := (hl k hlt).1 this
        omega
    subst hik
    have hdrop : ops.toList.drop i = ops[i] :: ops.toList.drop (i + 1) := by
      rw [List.drop_eq_getElem_cons (by simpa using hlt)]
      simp
    rw [hdrop] at hc
    simp only [List.mapM_cons, Option.bind_eq_bind, Option.pure_def, Option.bind_eq_some_iff, Option.some.injEq] at hc
    obtain ⟨⟨d, gd, ci⟩, h1, rs', h2, rfl⟩ := hc
    obtain ⟨rfl, hd, ⟨b, hb⟩, hg⟩ := compileOper_inv h1
    have hl' : ∀ j, j < ops.size → ((listed.setIfInBounds i true).getD j false = true ↔ j < i + 1) := fun j hj => by
      rw [listed_set (by omega)]
      split
      · simp [*]
      · rw [hl j hj]; omega
    unfold wpOp
    rw [ho]
    simp only []
    rcases hg with ⟨hg, rfl⟩ | ⟨j, want, s, hg, rfl, hs, hsn⟩
    · rw [opsW_cons] at h
      rw [if_pos (wanted_none hg _)]
      refine .inl (oper_sound hb hd hS h fun g' r O' w' v h1 h2' h3 => ?_)
      exact tail_sound hQ hok q (i + 1) rs' _ g' O' w' _ _ (by omega) (by omega) (by simpa using hls) hl' h2 (hle.trans h1) h2' h3
    · rw [opsW_guard] at h
      unfold guardW at h
      split at h
      · rename_i bb hbb
        have hr := hS.reads s
        rw [hbb] at hr
        have hw := wanted_some hg hs hsn hS.size hr.val_inv
        rcases Classical.em (bb = .bool want) with hbw | hbw
        · rw [if_pos (hw.1 hbw)]
          refine .inl (oper_sound hb hd hS (h.1 hbw) fun g' r O' w' v h1 h2' h3 => ?_)
          exact tail_sound hQ hok q (i + 1) rs' _ g' O' w' _ _ (by omega) (by omega) (by simpa using hls) hl' h2 (hle.trans h1) h2' h3
        · rw [if_neg (by rw [hw.2 hbw]; simp)]
          exact tail_sound hQ hok q (i + 1) rs' _ g O w _ _ (by omega) (by omega) (by simpa using hls) hl' h2 hle (hS.put (.refl g) hS.inv hd (.val _)) (h.2 hbw)
      · exact h.elim

/-- How many of the first N are listed. -/
def cnt (listed : Array Bool) (N : Nat) : Nat := (List.range N).countP fun j => listed.getD j false

theorem cnt_set {N i : Nat} (hi : i < N) (hs : listed.size = N) (hun : listed.getD i false = false) : cnt (listed.setIfInBounds i true) N = cnt listed N + 1 := by
  have key : ∀ l : List Nat, l.Nodup → (l.countP fun j => (listed.setIfInBounds i true).getD j false) = (l.countP fun j => listed.getD j false) + if i ∈ l then 1 else 0 := by
    intro l
    induction l with
    | nil => simp
    | cons x l ih =>
      intro hnd
      rw [List.nodup_cons] at hnd
      rw [List.countP_cons, List.countP_cons, ih hnd.2, listed_set (by omega)]
      by_cases hx : x = i
      · subst hx
        rw [if_pos rfl, hun, if_neg hnd.1]
        simp
      · rw [if_neg hx]
        have : (i ∈ x :: l) ↔ i ∈ l := by simp [Ne.symm hx]
        by_cases hil : i ∈ l
        · simp [hil]; omega
        · simp [hil, Ne.symm hx]
  unfold cnt
  rw [key _ List.nodup_range, if_pos (List.mem_range.2 hi)]

theorem countP_lt (m : Nat) : ∀ N, (List.range N).countP (fun j => decide (j < m)) = min m N
  | 0 => by simp
  | N + 1 => by
    rw [List.range_succ, List.countP_append, countP_lt m N]
    by_cases h : N < m
    · simp [h]; omega
    · simp [h]; omega

theorem cnt_front {N : Nat} (hm : m ≤ N) (h : ∀ j, j < N → (listed.getD j false = true ↔ j < m)) : cnt listed N = m := by
  have : cnt listed N = (List.range N).countP (fun j => decide (j < m)) := by
    unfold cnt
    refine List.countP_congr fun j hj => ?_
    rw [h j (List.mem_range.1 hj)]
    simp
  rw [this, countP_lt]
  omega

theorem first_unlisted (listed : Array Bool) : ∀ k, (∀ j, j < k → listed.getD j false = true) ∨ ∃ i, i < k ∧ listed.getD i false = false ∧ ∀ j, j < i → listed.getD j false = true
  | 0 => .inl (fun j hj => by omega)
  | k + 1 => by
    rcases first_unlisted listed k with h | ⟨i, h1, h2, h3⟩
    · cases hk : listed.getD k false with
      | true =>
        refine .inl fun j hj => ?_
        rcases Nat.lt_or_ge j k with h' | h'
        · exact h j h'
        · have : j = k := by omega
          rw [this]; exact hk
      | false => exact .inr ⟨k, by omega, hk, h⟩
    · exact .inr ⟨i, by omega, h2, h3⟩

/-- All of the front is done. -/
theorem front_done {ow : List Nat} {K : Env → Heap → Prop} {Q : Exit → Act → World → Prop} {tail : List RIns} (hQ : ∀ a w, Post W0 g0 n K a w → Q .normal a w) (hok : DrawOK ops m front) (hm : m ≤ ops.size) (hfl : front.length = m)
    (htail : (ops.toList.drop m).mapM (compileOper P n ow ops) = some tail) (hfin : opsW P (allocsOf front ++ tail) K (killE (pendDsts front) (envAt V e0 front front.length)) O)
    {q : Nat} (hls : listed.size = ops.size) (hcnt : cnt listed ops.size + q = ops.size) (hun : ∀ j, m ≤ j → j < ops.size → listed.getD j false = false) (hall : ∀ j, j < m → listed.getD j false = true) (hle : g0.le g)
    (hD : DSt W0 n front V e0 O listed g OS w a idf) : wpAny P .any ops Q q listed a w := by
  have hl : ∀ j, j < ops.size → (listed.getD j false = true ↔ j < m) := fun j hj => by
    constructor
    · intro h
      rcases Nat.lt_or_ge j m with h' | h'
      · exact h'
      · rw [hun j h' hj] at h; cases h
    · exact hall j
  rw [cnt_front hm hl] at hcnt
  have hfr : ∀ (i : Nat) r, front[i]? = some r → i < m := fun i r h => by rw [← hfl]; exact (List.getElem?_eq_some_iff.1 h).1
  have hreads : ∀ t, Reads g (killE (pendDsts front) (envAt V e0 front front.length) t) (a.tmps.getD t undef) := fun t => by
    by_cases htp : t ∈ pendDsts front
    · rw [killE_mem htp]; exact .junk _
    rw [killE_not htp]
    rcases Classical.em (∃ (j : Nat) (r' : RIns), front[j]? = some r' ∧ r'.1 = some t) with ⟨j, r', hj, hjt⟩ | hno
    · rw [envAt_at front V e0 front.length j r' (by rw [hfl]; exact hfr j r' hj) hj hjt (fun k r'' hk hr'' hkt => hk (hok.nodup k j r'' r' (hfr k r'' hr'') (hfr j r' hj) hr'' hj (hkt.trans hjt.symm)))]
      exact hD.done j r' t hj hjt (hall j (hfr j r' hj)) (fun hp => absurd (mem_pendDsts hj hp hjt) htp)
    · rw [envAt_other front V e0 _ (fun j r' _ hj hjt => hno ⟨j, r', hj, hjt⟩)]
      exact hD.other t (fun j r' hj hjt => hno ⟨j, r', hj, hjt⟩)
  have halloc : ∀ {c : CI}, isAlloc c = true → ∃ E sz z, c = .alloc E sz z := fun {c} h => by
    cases c <;> first | (cases h; done) | exact ⟨_, _, _, rfl⟩
  have hmem : ∀ r i, (r, i) ∈ front.zipIdx.filter (fun p => isAlloc p.1.2.2) → front[i]? = some r ∧ isAlloc r.2.2 = true := fun r i h => by
    rw [List.mem_filter] at h
    exact ⟨by have := List.mem_zipIdx_iff_getElem?.1 h.1; exact this, h.2⟩
  have hA : (front.zipIdx.filter (fun p => isAlloc p.1.2.2)).map (·.1) = allocsOf front := by
    have key : ∀ (l : List RIns) k, ((l.zipIdx k).filter (fun p => isAlloc p.1.2.2)).map (·.1) = l.filter (fun r => isAlloc r.2.2) := by
      intro l
      induction l with
      | nil => intro k; rfl
      | cons x l ih =>
        intro k
        rw [List.zipIdx_cons, List.filter_cons, List.filter_cons]
        cases hx : isAlloc x.2.2 <;> simp [hx, ih (k + 1)]
    exact key front 0
  rw [← hA] at hfin
  obtain ⟨e', O2, h1, h2, h3⟩ := allocs_run (g := g) (OS := OS) (a := a) (idf := idf) (front.zipIdx.filter (fun p => isAlloc p.1.2.2)) _ O (fun r i hri => by
    obtain ⟨hr, ha⟩ := hmem r i hri
    obtain ⟨E, sz, z, hc⟩ := halloc ha
    obtain ⟨d, hd⟩ := hok.dst i r hr
    have := hD.al i r d E sz z hr hd hc (hall i (hfr i r hr))
    exact ⟨ha, hok.al i r hr ha, d, E, sz, z, hd, hc, this.1, this.2.1⟩) (by
      have hz : (front.zipIdx).Pairwise (fun p q => p.2 ≠ q.2) := by
        have key : ∀ (l : List RIns) k, (l.zipIdx k).Pairwise (fun p q => p.2 ≠ q.2) ∧ ∀ p ∈ l.zipIdx k, k ≤ p.2 := by
          intro l
          induction l with
          | nil => intro k; exact ⟨.nil, fun p hp => by simp at hp⟩
          | cons x l ih =>
            intro k
            rw [List.zipIdx_cons]
            refine ⟨List.pairwise_cons.2 ⟨fun p hp => ?_, (ih (k + 1)).1⟩, fun p hp => ?_⟩
            · have := (ih (k + 1)).2 p hp
              simp only; omega
            · rw [List.mem_cons] at hp
              rcases hp with rfl | hp
              · simp
              · have := (ih (k + 1)).2 p hp; omega
        exact (key front 0).1
      rw [List.nodup_iff_pairwise_ne, List.pairwise_map]
      have hz2 := hz.filter (fun p => isAlloc p.1.2.2)
      refine hz2.imp_of_mem (fun {p q} hp hq hne he => ?_)
      obtain ⟨rp, ip⟩ := p
      obtain ⟨rq, iq⟩ := q
      obtain ⟨hp1, hp2⟩ := hmem rp ip hp
      obtain ⟨hq1, hq2⟩ := hmem rq iq hq
      exact hne (hD.inj ip iq rp rq hp1 hq1 ⟨hall ip (hfr ip rp hp1), .inl hp2⟩ ⟨hall iq (hfr iq rq hq1), .inl hq2⟩ he)) (fun r i hri => by
    obtain ⟨hr, ha⟩ := hmem r i hri
    obtain ⟨E, sz, z, hc⟩ := halloc ha
    obtain ⟨d, hd⟩ := hok.dst i r hr
    exact (hD.al i r d E sz z hr hd hc (hall i (hfr i r hr))).2.2) hD.sub hreads hfin
  exact tail_sound hQ hok q m tail listed g O2 w a e' hcnt (Nat.le_refl _) hls hl htail hle ⟨hD.inv.drop h1, hD.size, hD.defers, h2⟩ h3

theorem front_sound {ow : List Nat} {K : Env → Heap → Prop} {Q : Exit → Act → World → Prop} {tail : List RIns} (hQ : ∀ a w, Post W0 g0 n K a w → Q .normal a w) (hok : DrawOK ops m front) (hm : m ≤ ops.size) (hfl : front.length = m)
    (hcomp : ∀ (i : Nat) o, i < m → ops[i]? = some o → ∃ r, front[i]? = some r ∧ compileOper P n ow ops o = some r) (htail : (ops.toList.drop m).mapM (compileOper P n ow ops) = some tail)
    (hsteps : ∀ (i : Nat) r, front[i]? = some r → stepOK P O (envAt V e0 front i) r (V i)) (hfin : opsW P (allocsOf front ++ tail) K (killE (pendDsts front) (envAt V e0 front front.length)) O) :
    ∀ (q : Nat) (listed : Array Bool) (g : Gh) (OS : Heap) (w : World) (a : Act) (idf : Nat → Nat), listed.size = ops.size → cnt listed ops.size + q = ops.size → (∀ j, m ≤ j → j < ops.size → listed.getD j false = false) → g0.le g →
      DSt W0 n front V e0 O listed g OS w a idf → wpAny P .any ops Q q listed a w
  | 0, listed, g, OS, w, a, idf, hls, hcnt, hun, hle, hD => by
    have hall : ∀ j, j < ops.size → listed.getD j false = true := by
      have : (List.range ops.size).countP (fun j => listed.getD j false) = (List.range ops.size).length := by
        have : cnt listed ops.size = ops.size := by omega
        unfold cnt at this
        rw [this]; simp
      rw [List.countP_eq_length] at this
      exact fun j hj => this j (List.mem_range.2 hj)
    exact front_done hQ hok hm hfl htail hfin hls hcnt hun (fun j hj => hall j (by omega)) hle hD
  | q + 1, listed, g, OS, w, a, idf, hls, hcnt, hun, hle, hD => by
    rcases first_unlisted listed m with hall | ⟨i0, hi0, hi0u, hi0l⟩
    · exact front_done hQ hok hm hfl htail hfin hls hcnt hun hall hle hD
    · have hi0s : i0 < ops.size := by omega
      have ho0 : ops[i0]? = some ops[i0] := Array.getElem?_eq_getElem hi0s
      have hready : i0 ∈ Region.ready .any ops listed := by
        refine mem_ready.2 ⟨?_, _, ho0, fun ed hed hb => hi0l _ (hok.edges i0 _ ed ho0 hed hb)⟩
        have hil : i0 < listed.size := by omega
        simp [hil] at hi0u ⊢
        exact hi0u
      refine ⟨fun he => (by rw [he] at hready; cases hready), fun i hi => ?_⟩
      obtain ⟨hiu, o, hoi, hed⟩ := mem_ready.1 hi
      have his : i < ops.size := (Array.getElem?_eq_some_iff.1 hoi).1
      have him : i < m := by
        rcases Nat.lt_or_ge i m with h' | h'
        · exact h'
        · have hd := hok.tail i i0 his h' (by omega)
          unfold dep at hd
          rw [hoi] at hd
          have hd : o.after.any (fun e => e.on == i0 && Region.binds .any e) = true := hd
          rw [Array.any_eq_true] at hd
          obtain ⟨q', hq', hh⟩ := hd
          simp only [Bool.and_eq_true, beq_iff_eq] at hh
          have := hed _ (Array.getElem_mem hq') hh.2
          rw [hh.1, hi0u] at this
          cases this
      have hiu' : listed.getD i false = false := by
        have hil : i < listed.size := by omega
        simp [hil] at hiu ⊢
        exact hiu
      refine draw_step hok.toDrawOK0 hm hfl hcomp hsteps hls hD him hi (fun g' OS' w' a' idf' h1 h2 => ?_)
      refine front_sound hQ hok hm hfl hcomp htail hsteps hfin q _ g' OS' w' a' idf' (by simpa using hls) ?_ (fun j hj hjs => ?_) (hle.trans h1) h2
      · rw [cnt_set (by omega) hls hiu']; omega
      · rw [listed_set (by omega), if_neg (by omega)]
        exact hun j hj hjs

theorem draw_sound {id : Nat} {ow : List Nat} {K : Env → Heap → Prop} {Q : Exit → Act → World → Prop} {tail : List RIns} (hmix : P.follows .mixedOrders = true) (hm : m ≤ ops.size)
    (hfront : (ops.toList.take m).mapM (compileOper P n ow ops) = some front) (htail : (ops.toList.drop m).mapM (compileOper P n ow ops) = some tail) (hok : drawOK ops m front = true)
    (hS : St W0 g O w n a e) (h : drawW P front (fun e' => opsW P (allocsOf front ++ tail) K (killE (pendDsts front) e') O) e O) (hQ : ∀ a w, Post W0 g n K a w → Q .normal a w) : (Code.region id ops true).wp P Q a w := by
  obtain ⟨V, h1, h2⟩ := drawW_steps front _ e h
  have hok := drawOK_inv hok
  obtain ⟨hfl, hget⟩ := mapM_get hfront
  have hfl : front.length = m := by rw [hfl]; simp; omega
  refine wp_region_any hmix ?_
  have hlf : ∀ j, (Array.replicate ops.size false).getD j false = false := fun j => by
    by_cases hj : j < ops.size <;> simp [hj]
  refine front_sound (g0 := g) hQ hok hm hfl (fun i o hi ho => ?_) htail h1 h2 ops.size (Array.replicate ops.size false) g O _ a (fun _ => 0) (by simp) ?_ (fun j _ _ => hlf j) (.refl g) ?_
  · exact hget i o (by rw [List.getElem?_take, if_pos hi]; simpa using ho)
  · have : cnt (Array.replicate ops.size false) ops.size = 0 := by
      unfold cnt
      rw [List.countP_eq_zero]
      intro j _
      rw [hlf j]; simp
    omega
  · refine ⟨hS.inv.drew, fun _ _ h => h, hS.size, hS.defers, fun t _ => hS.reads t, fun i r d _ _ hl => ?_, fun i r d E sz z _ _ _ hl => ?_, fun i r d E sz L _ _ _ _ hl => ?_, fun i j r r' _ _ ⟨hl, _⟩ => ?_⟩
    all_goals (rw [hlf] at hl; cases hl)

end
end Go.Ab

/- The abstract walk, part sixteen and a half: a region that draws its order, where some that only computes may come behind the first that write. -/
namespace Go.Ab

def CI.opds2 : CI → List Operand
  | .box _ _ x => [x]
  | .bown _ _ xs => xs
  | .store _ x v => [x, v]
  | .mkslice _ _ _ _ l c => [l, c]
  | ci => ci.opds

theorem CiSem_congr {P : Program} {ci : CI} {e e' : Env} {O : Heap} {K : AV → Heap → Prop} (h : ∀ x ∈ ci.opds2, e.opd x = e'.opd x) (hs : CiSem P ci e O K) : CiSem P ci e' O K := by
  have hp : (∀ x ∈ ci.opds, e.opd x = e'.opd x) → (∃ r, pureI ci e O = some r ∧ K r O) → ∃ r, pureI ci e' O = some r ∧ K r O := fun h ⟨r, h1, h2⟩ => ⟨r, by rw [← pureI_congr O h]; exact h1, h2⟩
  cases ci with
  | alloc => exact hs
  | box E sz x =>
    have hx := h x (by simp [CI.opds2])
    unfold CiSem at hs ⊢
    simp only [← hx]
    exact hs
  | bown E sz xs =>
    have hx := map_congr_opds (l := xs) (fun x hx => h x (by simp [CI.opds2, hx]))
    unfold CiSem at hs ⊢
    simp only [← hx]
    exact hs
  | store sz x v =>
    have hx := h x (by simp [CI.opds2])
    have hv := h v (by simp [CI.opds2])
    unfold CiSem at hs ⊢
    simp only [← hx, ← hv]
    exact hs
  | mkslice E sz b z l c =>
    have hx := h l (by simp [CI.opds2])
    have hv := h c (by simp [CI.opds2])
    unfold CiSem at hs ⊢
    simp only [← hx, ← hv]
    exact hs
  | call f args =>
    have hx := map_congr_opds (l := args) (fun x hx => h x (by simpa [CI.opds2, CI.opds] using hx))
    unfold CiSem at hs ⊢
    simp only [← hx]
    exact hs
  | callv f args =>
    have hf := h f (by simp [CI.opds2, CI.opds])
    have hx := map_congr_opds (l := args) (fun x hx => h x (by simp [CI.opds2, CI.opds, hx]))
    unfold CiSem at hs ⊢
    simp only [← hx, ← hf]
    exact hs
  | cap x =>
    have hx := h x (by simp [CI.opds2, CI.opds])
    unfold CiSem at hs ⊢
    simp only [← hx]
    exact hs
  | append o E sz b s x =>
    have hs' := h s (by simp [CI.opds2, CI.opds])
    have hx := h x (by simp [CI.opds2, CI.opds])
    unfold CiSem at hs ⊢
    simp only [← hx, ← hs']
    exact hs
  | mv => exact hp h hs
  | pick => exact hp h hs
  | build => exact hp h hs
  | blist => exact hp h hs
  | load => exact hp h hs
  | nilchk => exact hp h hs
  | bin => exact hp h hs
  | binb => exact hp h hs
  | eqagg => exact hp h hs
  | eqnil => exact hp h hs
  | un => exact hp h hs
  | convi => exact hp h hs
  | mkfn => exact hp h hs
  | fieldA => exact hp h hs
  | field => exact hp h hs
  | indexA => exact hp h hs
  | indexP => exact hp h hs
  | index => exact hp h hs
  | slice => exact hp h hs
  | extract => exact hp h hs
  | len => exact hp h hs
  | lenm => exact hp h hs
  | maxmin => exact hp h hs

theorem pureI_sem {P : Program} {ci : CI} {e : Env} {O : Heap} {K : AV → Heap → Prop} {r : AV} (h : pureI ci e O = some r) (hk : K r O) : CiSem P ci e O K := by
  cases ci <;> first | exact ⟨r, h, hk⟩ | (unfold pureI at h; cases h; done)

def readsOf2 (r : RIns) : List Nat := tmpsOf r.2.2.opds2 ++ (match r.2.1 with | some p => [p.1] | none => [])

/-- Computed again, it gives what is there. -/
def chk : List RIns → Env → Heap → Prop
  | [], _, _ => True
  | (some d, _, ci) :: S, e, O => pureI ci e O = some (e d) ∧ chk S e O
  | (none, _, _) :: S, e, O => chk S e O

theorem chk_mem : ∀ {S : List RIns} {e : Env} {O : Heap} {d : Nat} {gd : Option (Nat × Bool)} {ci : CI}, chk S e O → (some d, gd, ci) ∈ S → pureI ci e O = some (e d)
  | (some d', g', ci') :: S, e, O, d, gd, ci, h, hm => by
    rw [List.mem_cons] at hm
    rcases hm with hm | hm
    · cases hm; exact h.1
    · exact chk_mem (S := S) h.2 hm
  | (none, g', ci') :: S, e, O, d, gd, ci, h, hm => by
    rw [List.mem_cons] at hm
    rcases hm with hm | hm
    · cases hm
    · exact chk_mem (S := S) h hm

def opsS (P : Program) : List (RIns × List RIns) → (Env → Heap → Prop) → Env → Heap → Prop
  | [], K, e, O => K e O
  | ((d, none, ci), S) :: rest, K, e, O => CiSem P ci e O (fun r O' => chk S (e.put d r) O' ∧ opsS P rest K (e.put d r) O')
  | ((d, some (s, want), ci), S) :: rest, K, e, O => guardW (e s) want (CiSem P ci e O (fun r O' => chk S (e.put d r) O' ∧ opsS P rest K (e.put d r) O')) (chk S (e.put d (.val undef)) O ∧ opsS P rest K (e.put d (.val undef)) O)

def opSK (P : Program) (d : Option Nat) (S : List RIns) (rest : List (RIns × List RIns)) (K : Env → Heap → Prop) (e : Env) : AV → Heap → Prop := fun r O' => chk S (e.put d r) O' ∧ opsS P rest K (e.put d r) O'
theorem opSK_apply (P : Program) (d : Option Nat) (S : List RIns) (rest : List (RIns × List RIns)) (K : Env → Heap → Prop) (e : Env) (r : AV) (O : Heap) : opSK P d S rest K e r O = (chk S (e.put d r) O ∧ opsS P rest K (e.put d r) O) := rfl
theorem opsS_nil (P : Program) (K : Env → Heap → Prop) (e : Env) (O : Heap) : opsS P [] K e O = K e O := by unfold opsS; rfl
theorem opsS_cons (P : Program) (d : Option Nat) (ci : CI) (S : List RIns) (rest : List (RIns × List RIns)) (K : Env → Heap → Prop) (e : Env) (O : Heap) : opsS P (((d, none, ci), S) :: rest) K e O = CiSem P ci e O (opSK P d S rest K e) := by
  rw [opsS]; rfl
theorem opsS_guard (P : Program) (d : Option Nat) (s : Nat) (want : Bool) (ci : CI) (S : List RIns) (rest : List (RIns × List RIns)) (K : Env → Heap → Prop) (e : Env) (O : Heap) :
    opsS P (((d, some (s, want), ci), S) :: rest) K e O = guardW (e s) want (CiSem P ci e O (opSK P d S rest K e)) (chk S (e.put d (.val undef)) O ∧ opsS P rest K (e.put d (.val undef)) O) := by
  rw [opsS]; rfl

/-- Those of the front that may still be to come behind the k-th. -/
def strags (ops : Array Oper) (m : Nat) (front : List RIns) (k : Nat) : List RIns :=
  (front.zipIdx.filter fun p => (List.range (k + 1)).all fun k' => decide (k' < m) || !dep ops k' p.2).map (·.1)

theorem mem_strags {ops : Array Oper} {m : Nat} {front : List RIns} {k j : Nat} {r : RIns} (hj : front[j]? = some r) (h : ∀ k', m ≤ k' → k' ≤ k → dep ops k' j = false) : r ∈ strags ops m front k := by
  unfold strags
  rw [List.mem_map]
  refine ⟨(r, j), ?_, rfl⟩
  rw [List.mem_filter]
  refine ⟨List.mem_zipIdx_iff_getElem?.2 hj, ?_⟩
  rw [List.all_eq_true]
  intro k' hk'
  rw [List.mem_range] at hk'
  by_cases h' : k' < m
  · simp [h']
  · simp [h k' (by omega) (by omega)]

def tailS (ops : Array Oper) (m : Nat) (front tail : List RIns) : List (RIns × List RIns) := tail.zipIdx.map fun p => (p.1, strags ops m front (m + p.2))

theorem tailS_drop {ops : Array Oper} {m : Nat} {front tail : List RIns} {k : Nat} {r : RIns} (hk : tail[k]? = some r) : (tailS ops m front tail).drop k = (r, strags ops m front (m + k)) :: (tailS ops m front tail).drop (k + 1) := by
  have h : (tailS ops m front tail)[k]? = some (r, strags ops m front (m + k)) := by
    unfold tailS
    rw [List.getElem?_map, List.getElem?_zipIdx, hk]
    simp
  obtain ⟨hlt, he⟩ := List.getElem?_eq_some_iff.1 h
  rw [List.drop_eq_getElem_cons hlt, he]

def sregOK (ops : Array Oper) (m : Nat) (front tail : List RIns) : Bool :=
  drawOK0 ops m front &&
  ((List.range ops.size).all fun k => (List.range k).all fun j => decide (j < m) || dep ops k j) &&
  (tail.zipIdx.all fun p => front.zipIdx.all fun q => p.1.1 != q.1.1 && (match q.1.1 with
    | some t => !(readsOf2 p.1).contains t || dep ops (m + p.2) q.2
    | none => true)) &&
  (front.zipIdx.all fun q => dep ops m q.2 || (q.1.2.1.isNone && !isAlloc q.1.2.2)) &&
  decide (m < ops.size)

structure SregOK (ops : Array Oper) (m : Nat) (front tail : List RIns) : Prop where
  ok : DrawOK0 ops m front
  tt : ∀ (k j : Nat), k < ops.size → m ≤ j → j < k → dep ops k j = true
  dst : ∀ (p q : Nat) (r r' : RIns), tail[p]? = some r → front[q]? = some r' → r.1 ≠ r'.1
  reads : ∀ (p q : Nat) (r r' : RIns) (t : Nat), tail[p]? = some r → front[q]? = some r' → r'.1 = some t → t ∈ readsOf2 r → dep ops (m + p) q = true
  st : ∀ (q : Nat) (r : RIns), front[q]? = some r → dep ops m q = false → r.2.1 = none ∧ isAlloc r.2.2 = false
  lt : m < ops.size

theorem sregOK_inv {ops : Array Oper} {m : Nat} {front tail : List RIns} (h : sregOK ops m front tail = true) : SregOK ops m front tail := by
  unfold sregOK at h
  simp only [Bool.and_eq_true, decide_eq_true_eq] at h
  obtain ⟨⟨⟨⟨h0, h1⟩, h2⟩, h3⟩, h4⟩ := h
  rw [List.all_eq_true] at h1 h2 h3
  have h2' : ∀ (p q : Nat) (r r' : RIns), tail[p]? = some r → front[q]? = some r' → r.1 ≠ r'.1 ∧ ∀ t, r'.1 = some t → t ∈ readsOf2 r → dep ops (m + p) q = true := fun p q r r' hp hq => by
    have := h2 (r, p) (List.mem_zipIdx_iff_getElem?.2 hp)
    rw [List.all_eq_true] at this
    have := this (r', q) (List.mem_zipIdx_iff_getElem?.2 hq)
    simp only [Bool.and_eq_true, bne_iff_ne] at this
    refine ⟨this.1, fun t ht hm => ?_⟩
    have h5 := this.2
    rw [ht] at h5
    simp only [Bool.or_eq_true, Bool.not_eq_true', List.contains_eq_mem, decide_eq_false_iff_not] at h5
    rcases h5 with h5 | h5
    · exact absurd hm h5
    · exact h5
  refine ⟨drawOK0_inv h0, fun k j hk hm hj => ?_, fun p q r r' hp hq => (h2' p q r r' hp hq).1, fun p q r r' t hp hq => (h2' p q r r' hp hq).2 t, fun q r hq hd => ?_, h4⟩
  · have := h1 k (List.mem_range.2 hk)
    rw [List.all_eq_true] at this
    have := this j (List.mem_range.2 hj)
    simp only [Bool.or_eq_true, decide_eq_true_eq] at this
    rcases this with h | h
    · omega
    · exact h
  · have := h3 (r, q) (List.mem_zipIdx_iff_getElem?.2 hq)
    simp only [Bool.or_eq_true, Bool.and_eq_true, Bool.not_eq_true'] at this
    rcases this with h | h
    · rw [hd] at h; cases h
    · exact ⟨by simpa using h.1, h.2⟩

theorem dep_listed {ops : Array Oper} {listed : Array Bool} {k j : Nat} (hr : k ∈ Region.ready .any ops listed) (hd : dep ops k j = true) : listed.getD j false = true := by
  obtain ⟨_, o, ho, hed⟩ := mem_ready.1 hr
  unfold dep at hd
  rw [ho] at hd
  have hd : o.after.any (fun e => e.on == j && Region.binds .any e) = true := hd
  rw [Array.any_eq_true] at hd
  obtain ⟨q, hq, hh⟩ := hd
  simp only [Bool.and_eq_true, beq_iff_eq] at hh
  have := hed _ (Array.getElem_mem hq) hh.2
  rw [hh.1] at this
  exact this

theorem ready_unlisted {ops : Array Oper} {listed : Array Bool} {i : Nat} (hls : listed.size = ops.size) (hr : i ∈ Region.ready .any ops listed) : i < ops.size ∧ listed.getD i false = false := by
  obtain ⟨hun, o, ho, _⟩ := mem_ready.1 hr
  have his : i < ops.size := (Array.getElem?_eq_some_iff.1 ho).1
  refine ⟨his, ?_⟩
  have hil : i < listed.size := by omega
  simp [hil] at hun ⊢
  exact hun

section
variable {P : Program} {W0 : World} {g g0 : Gh} {O OS : Heap} {w : World} {n : Nat} {a : Act} {e e0 : Env} {front tail : List RIns} {V : Nat → AV} {ops : Array Oper} {m : Nat} {listed : Array Bool} {idf : Nat → Nat}

structure TSt (W0 : World) (n : Nat) (ops : Array Oper) (m : Nat) (front : List RIns) (k : Nat) (listed : Array Bool) (g : Gh) (O : Heap) (w : World) (a : Act) (e : Env) : Prop where
  inv : Inv W0 g O w
  size : a.tmps.size = n
  defers : a.defers = []
  hl : ∀ j, m ≤ j → j < ops.size → (listed.getD j false = true ↔ j < k)
  hdep : ∀ k' j, m ≤ k' → k' < k → j < m → dep ops k' j = true → listed.getD j false = true
  reads : ∀ t, (∀ (j : Nat) r, front[j]? = some r → listed.getD j false = false → r.1 ≠ some t) → Reads g (e t) (a.tmps.getD t undef)
  strag : ∀ (j : Nat) r, front[j]? = some r → listed.getD j false = false → ∃ d ci, r = (some d, none, ci) ∧ pureI ci e O = some (e d)

theorem ready_first (hok : DrawOK0 ops m front) (hls : listed.size = ops.size) {i : Nat} (hi : i < ops.size) (hu : listed.getD i false = false) (hl : ∀ j, j < i → listed.getD j false = true) : i ∈ Region.ready .any ops listed := by
  have ho : ops[i]? = some ops[i] := Array.getElem?_eq_getElem hi
  refine mem_ready.2 ⟨?_, _, ho, fun ed hed hb => hl _ (hok.edges i _ ed ho hed hb)⟩
  have hil : i < listed.size := by omega
  simp [hil] at hu ⊢
  exact hu

theorem strag_sound {ow : List Nat} {K : Env → Heap → Prop} {Q : Exit → Act → World → Prop} (hQ : ∀ a w, Post W0 g0 n K a w → Q .normal a w) (hok : SregOK ops m front tail) (hm : m ≤ ops.size) (hfl : front.length = m)
    (hcomp : ∀ (i : Nat) o, i < m → ops[i]? = some o → ∃ r, front[i]? = some r ∧ compileOper P n ow ops o = some r) (hlen : tail.length + m = ops.size)
    (htail : ∀ (i : Nat) o, m ≤ i → ops[i]? = some o → ∃ r, tail[i - m]? = some r ∧ compileOper P n ow ops o = some r) :
    ∀ (q k : Nat) (listed : Array Bool) (g : Gh) (O : Heap) (w : World) (a : Act) (e : Env), listed.size = ops.size → cnt listed ops.size + q = ops.size → m ≤ k → k ≤ ops.size → g0.le g →
      TSt W0 n ops m front k listed g O w a e → opsS P ((tailS ops m front tail).drop (k - m)) K e O → wpAny P .any ops Q q listed a w
  | 0, k, listed, g, O, w, a, e, hls, hcnt, hmk, hks, hle, hT, h => by
    have hall : ∀ j, j < ops.size → listed.getD j false = true := by
      have : (List.range ops.size).countP (fun j => listed.getD j false) = (List.range ops.size).length := by
        have : cnt listed ops.size = ops.size := by omega
        unfold cnt at this
        rw [this]; simp
      rw [List.countP_eq_length] at this
      exact fun j hj => this j (List.mem_range.2 hj)
    have hke : k = ops.size := by
      rcases Nat.lt_or_ge k ops.size with h' | h'
      · have := (hT.hl k hmk h').1 (hall k h'); omega
      · omega
    have hd : (tailS ops m front tail).drop (k - m) = [] := List.drop_eq_nil_of_le (by simp [tailS]; omega)
    rw [hd, opsS_nil] at h
    refine ⟨?_, hQ _ _ ⟨g, e, O, hle, ⟨hT.inv, hT.size, hT.defers, fun t => hT.reads t fun j r hj hl => ?_⟩, h⟩⟩
    · rw [List.eq_nil_iff_forall_not_mem]
      intro j hj
      obtain ⟨h1, h2⟩ := ready_unlisted hls hj
      rw [hall j h1] at h2; cases h2
    · have := hall j (by have := (List.getElem?_eq_some_iff.1 hj).1; omega)
      rw [this] at hl; cases hl
  | q + 1, k, listed, g, O, w, a, e, hls, hcnt, hmk, hks, hle, hT, h => by
    have hex : Region.ready .any ops listed ≠ [] := by
      rcases first_unlisted listed ops.size with hall | ⟨i0, h1, h2, h3⟩
      · have : cnt listed ops.size = ops.size := by
          unfold cnt
          have : (List.range ops.size).countP (fun j => listed.getD j false) = (List.range ops.size).length := List.countP_eq_length.2 fun j hj => hall j (List.mem_range.1 hj)
          rw [this]; simp
        omega
      · have := ready_first hok.ok hls h1 h2 h3
        intro he; rw [he] at this; cases this
    refine ⟨fun he => absurd he hex, fun i hi => ?_⟩
    obtain ⟨his, hiu⟩ := ready_unlisted hls hi
    have hil : i < listed.size := by omega
    -- the environment without what is still to come
    have henv : ∃ e1 : Env, (∀ t, Reads g (e1 t) (a.tmps.getD t undef)) ∧ ∀ t, (∀ (j : Nat) r, front[j]? = some r → listed.getD j false = false → r.1 ≠ some t) → e1 t = e t := by
      classical
      refine ⟨fun t => if (∀ (j : Nat) r, front[j]? = some r → listed.getD j false = false → r.1 ≠ some t) then e t else .junk, fun t => ?_, fun t ht => by simp only []; rw [if_pos ht]⟩
      simp only []
      split
      · rename_i ht; exact hT.reads t ht
      · exact .junk _
    obtain ⟨e1, hr1, he1⟩ := henv
    have hro : ∀ x, Reads g (e1.opd x) (a.eval x) := by
      intro x
      cases x with
      | tmp t => exact hr1 t
      | const v => exact .val v
      | global g' => exact .val _
      | func f => exact .clo _ _ _ _ _ rfl rfl (fun i x v hx => by simp at hx) (fun i x v hx => by simp at hx)
    have hopd : ∀ (l : List Operand), (∀ t, t ∈ tmpsOf l → e1 t = e t) → ∀ x ∈ l, e.opd x = e1.opd x := by
      intro l hl x hx
      cases x with
      | tmp t => exact (hl t (mem_tmpsOf.2 hx)).symm
      | const v => rfl
      | global g' => rfl
      | func f => rfl
    have ho : ops[i]? = some ops[i] := Array.getElem?_eq_getElem his
    have hcnt' : cnt (listed.setIfInBounds i true) ops.size + q = ops.size := by rw [cnt_set his hls hiu]; omega
    rcases Nat.lt_or_ge i m with him | him
    · -- one of the front
      obtain ⟨r, hr, hco⟩ := hcomp i _ him ho
      obtain ⟨d, ci, rfl, hp⟩ := hT.strag i r hr hiu
      obtain ⟨hd, hdn, ⟨b, hb⟩, hg⟩ := compileOper_inv hco
      have hdn := hdn d hd.symm
      have hp1 : pureI ci e1 O = some (e d) := by
        rw [← pureI_congr O (hopd ci.opds fun t ht => he1 t fun j r' hj hl hjt => ?_)]
        · exact hp
        · have hjm : j < m := by rw [← hfl]; exact (List.getElem?_eq_some_iff.1 hj).1
          have := (hok.ok.reads i _ t j r' him hjm hr (List.mem_append_left _ (mem_tmpsOf.2 (opds_sub (mem_tmpsOf.1 ht)))) hj hjt).2
          rw [dep_listed hi this] at hl; cases hl
      unfold wpOp
      rw [ho]
      simp only []
      rcases hg with ⟨hg, _⟩ | ⟨_, _, _, _, hg, _⟩
      · rw [if_pos (wanted_none hg _)]
        refine .inl (oper_out (e := e1) (OS := O) (K := fun r O' => r = e d ∧ O' = O) hb hT.inv hro (pureI_sem hp1 ⟨rfl, rfl⟩) fun v w' ⟨g', r, O', h1, h2, h3, h4, h5⟩ => ?_)
        subst h4 h5
        rw [← hd]
        refine strag_sound hQ hok hm hfl hcomp hlen htail q k _ g' O' w' _ e (by simpa using hls) hcnt' hmk hks (hle.trans h1) ⟨h2, by simp [Act.put, hT.size], hT.defers, fun j hj hjs => ?_, fun k' j hk1 hk2 hj hdj => ?_, fun t ht => ?_, fun j r' hj hl => ?_⟩ h
        · rw [listed_set hil, if_neg (by omega)]; exact hT.hl j hj hjs
        · rw [listed_set hil]
          split
          · rfl
          · exact hT.hdep k' j hk1 hk2 hj hdj
        · rw [put_getD a hT.size hdn]
          split
          · rename_i htd; rw [htd]; exact h3
          · rename_i htd
            refine (hT.reads t fun j r' hj hl => ?_).mono h1
            by_cases hji : j = i
            · subst hji; rw [hr] at hj; cases hj
              intro he; cases he; exact htd rfl
            · exact ht j r' hj (by rw [listed_set hil, if_neg hji]; exact hl)
        · refine hT.strag j r' hj ?_
          rw [listed_set hil] at hl
          split at hl
          · cases hl
          · exact hl
      · cases hg
    · -- the next one behind the front
      have hik : i = k := by
        have hki : k ≤ i := by
          rcases Nat.lt_or_ge i k with h' | h'
          · have := (hT.hl i him his).2 h'; rw [this] at hiu; cases hiu
          · exact h'
        rcases Nat.eq_or_lt_of_le hki with h' | h'
        · exact h'.symm
        · have := dep_listed hi (hok.tt i k his hmk h')
          have := (hT.hl k hmk (by omega)).1 this
          omega
      subst hik
      obtain ⟨⟨d, gd, ci⟩, hr, hco⟩ := htail i _ him ho
      obtain ⟨rfl, hdn, ⟨b, hb⟩, hg⟩ := compileOper_inv hco
      have hmi : m + (i - m) = i := by omega
      rw [tailS_drop hr, hmi] at h
      have hrd : ∀ t, t ∈ readsOf2 ((ops[i]).dst, gd, ci) → e1 t = e t := fun t ht => he1 t fun j r' hj hl hjt => by
        have := hok.reads (i - m) j _ r' t hr hj hjt ht
        rw [hmi] at this
        rw [dep_listed hi this] at hl; cases hl
      have hci : ∀ x ∈ ci.opds2, e.opd x = e1.opd x := hopd ci.opds2 fun t ht => hrd t (List.mem_append_left _ ht)
      have next : ∀ g' O' w' v r, g.le g' → Inv W0 g' O' w' → Reads g' r v → chk (strags ops m front i) (e.put (ops[i]).dst r) O' → opsS P ((tailS ops m front tail).drop (i - m + 1)) K (e.put (ops[i]).dst r) O' →
          wpAny P .any ops Q q (listed.setIfInBounds i true) (a.put (ops[i]).dst v) w' := by
        intro g' O' w' v r h1 h2 h3 h4 h5
        have hsz : (a.put (ops[i]).dst v).tmps.size = n := by
          cases (ops[i]).dst <;> simp [Act.put, hT.size]
        have hdf : (a.put (ops[i]).dst v).defers = [] := by
          cases (ops[i]).dst <;> exact hT.defers
        refine strag_sound hQ hok hm hfl hcomp hlen htail q (i + 1) _ g' O' w' _ (e.put (ops[i]).dst r) (by simpa using hls) hcnt' (by omega) (by omega) (hle.trans h1) ⟨h2, hsz, hdf, fun j hj hjs => ?_, fun k' j hk1 hk2 hj hdj => ?_, fun t ht => ?_, fun j r' hj hl => ?_⟩ (by rw [show i + 1 - m = i - m + 1 by omega]; exact h5)
        · rw [listed_set hil]
          split
          · simp [*]
          · rw [hT.hl j hj hjs]; omega
        · rw [listed_set hil, if_neg (by omega)]
          rcases Nat.lt_or_ge k' i with h' | h'
          · exact hT.hdep k' j hk1 h' hj hdj
          · have : k' = i := by omega
            subst this
            exact dep_listed hi hdj
        · have ht' : ∀ (j : Nat) r, front[j]? = some r → listed.getD j false = false → r.1 ≠ some t := fun j r' hj hl => by
            have hjm : j < m := by rw [← hfl]; exact (List.getElem?_eq_some_iff.1 hj).1
            exact ht j r' hj (by rw [listed_set hil, if_neg (by omega)]; exact hl)
          have hrt := (hT.reads t ht').mono h1
          cases hdd : (ops[i]).dst with
          | none => exact hrt
          | some d =>
            rw [put_getD a hT.size (hdn d hdd)]
            simp only [Env.put, Env.upd_apply]
            split
            · exact h3
            · exact hrt
        · have hjm : j < m := by rw [← hfl]; exact (List.getElem?_eq_some_iff.1 hj).1
          rw [listed_set hil, if_neg (by omega)] at hl
          obtain ⟨d, ci', rfl, _⟩ := hT.strag j r' hj hl
          refine ⟨d, ci', rfl, chk_mem h4 (mem_strags (k := i) hj fun k' hk1 hk2 => ?_)⟩
          cases hdj : dep ops k' j with
          | false => rfl
          | true =>
            have : listed.getD j false = true := by
              rcases Nat.lt_or_ge k' i with h' | h'
              · exact hT.hdep k' j hk1 h' hjm hdj
              · have : k' = i := by omega
                subst this
                exact dep_listed hi hdj
            rw [this] at hl; cases hl
      unfold wpOp
      rw [ho]
      simp only []
      rcases hg with ⟨hg, rfl⟩ | ⟨j, want, s, hg, rfl, hs, hsn⟩
      · rw [opsS_cons] at h
        rw [if_pos (wanted_none hg _)]
        refine .inl (oper_out (e := e1) hb hT.inv hro (CiSem_congr hci h) fun v w' ⟨g', r, O', h1, h2, h3, h4⟩ => ?_)
        rw [opSK_apply] at h4
        exact next g' O' w' v r h1 h2 h3 h4.1 h4.2
      · rw [opsS_guard] at h
        unfold guardW at h
        split at h
        · rename_i bb hbb
          have hr' := hr1 s
          rw [hrd s (List.mem_append_right _ (by simp)), hbb] at hr'
          have hw := wanted_some hg hs hsn hT.size hr'.val_inv
          rcases Classical.em (bb = .bool want) with hbw | hbw
          · rw [if_pos (hw.1 hbw)]
            refine .inl (oper_out (e := e1) hb hT.inv hro (CiSem_congr hci (h.1 hbw)) fun v w' ⟨g', r, O', h1, h2, h3, h4⟩ => ?_)
            rw [opSK_apply] at h4
            exact next g' O' w' v r h1 h2 h3 h4.1 h4.2
          · rw [if_neg (by rw [hw.2 hbw]; simp)]
            have := h.2 hbw
            exact next g O w _ (.val undef) (.refl g) hT.inv (.val _) this.1 this.2
        · exact h.elim

/-- The variables that the front has made get their names. -/
theorem allocs_run' {U : Nat → Prop} {K : Env → Heap → Prop} : ∀ (A : List (RIns × Nat)) (e : Env) (O1 : Heap),
    (∀ r i, (r, i) ∈ A → isAlloc r.2.2 = true ∧ r.2.1 = none ∧ (∃ d E sz z, r.1 = some d ∧ r.2.2 = .alloc E sz z ∧ Reads g (.optr (idf i) sz 0 0) (a.tmps.getD d undef) ∧ OS (idf i) = some (.arr E sz [z]))) →
    (A.map (fun p => idf p.2)).Nodup → (∀ r i, (r, i) ∈ A → O1 (idf i) = none) → O1.sub OS → (∀ t, ¬ U t → Reads g (e t) (a.tmps.getD t undef)) → opsW P (A.map (·.1)) K e O1 →
    ∃ e' O2, O2.sub OS ∧ (∀ t, ¬ U t → Reads g (e' t) (a.tmps.getD t undef)) ∧ K e' O2
  | [], e, O1, _, _, _, hs, hr, h => ⟨e, O1, hs, hr, by rw [List.map_nil, opsW_nil] at h; exact h⟩
  | (r, i) :: A, e, O1, hA, hnd, hO, hs, hr, h => by
    obtain ⟨_, hg, d, E, sz, z, hd, hc, h1, h2⟩ := hA r i (by simp)
    obtain ⟨rd, rg, rc⟩ := r
    simp only at hd hg hc
    subst hd hg hc
    simp only [List.map_cons] at h
    rw [opsW_cons] at h
    have h3 := h (idf i) (hO (some d, none, .alloc E sz z) i (by simp))
    rw [opK_apply] at h3
    simp only [List.map_cons, List.nodup_cons] at hnd
    refine allocs_run' A _ _ (fun r' i' hm => hA r' i' (by simp [hm])) hnd.2 (fun r' i' hm => ?_) (fun k o hk => ?_) (fun t ht => ?_) h3
    · rw [Heap.upd_ne]
      · exact hO r' i' (by simp [hm])
      · intro he
        exact hnd.1 (List.mem_map.2 ⟨(r', i'), hm, he⟩)
    · rw [Heap.upd_apply] at hk
      split at hk
      · rename_i hki
        cases hk
        rw [hki]; exact h2
      · exact hs k o hk
    · simp only [Env.put, Env.upd_apply]
      split
      · rename_i ht; rw [ht]; exact h1
      · exact hr t ht

theorem to_tail {ow : List Nat} {K : Env → Heap → Prop} (hok : SregOK ops m front tail) (hm : m ≤ ops.size) (hfl : front.length = m)
    (hcomp : ∀ (i : Nat) o, i < m → ops[i]? = some o → ∃ r, front[i]? = some r ∧ compileOper P n ow ops o = some r)
    (hfin : opsW P (allocsOf front) (fun e O => chk (strags ops m front m) e O ∧ K e O) (killE (pendDsts front) (envAt V e0 front front.length)) O)
    (hls : listed.size = ops.size) (hun : ∀ j, m ≤ j → j < ops.size → listed.getD j false = false) (hall : ∀ j, j < m → listed.getD j false = true ∨ dep ops m j = false)
    (hD : DSt W0 n front V e0 O listed g OS w a idf) : ∃ e' O2, TSt W0 n ops m front m listed g O2 w a e' ∧ K e' O2 := by
  have hfr : ∀ (i : Nat) r, front[i]? = some r → i < m := fun i r h => by rw [← hfl]; exact (List.getElem?_eq_some_iff.1 h).1
  have hreads : ∀ t, ¬ (∃ (j : Nat) (r : RIns), front[j]? = some r ∧ listed.getD j false = false ∧ r.1 = some t) → Reads g (killE (pendDsts front) (envAt V e0 front front.length) t) (a.tmps.getD t undef) := fun t hU => by
    by_cases htp : t ∈ pendDsts front
    · rw [killE_mem htp]; exact .junk _
    rw [killE_not htp]
    rcases Classical.em (∃ (j : Nat) (r' : RIns), front[j]? = some r' ∧ r'.1 = some t) with ⟨j, r', hj, hjt⟩ | hno
    · rw [envAt_at front V e0 front.length j r' (by rw [hfl]; exact hfr j r' hj) hj hjt (fun k r'' hk hr'' hkt => hk (hok.ok.nodup k j r'' r' (hfr k r'' hr'') (hfr j r' hj) hr'' hj (hkt.trans hjt.symm)))]
      refine hD.done j r' t hj hjt ?_ (fun hp => absurd (mem_pendDsts hj hp hjt) htp)
      cases hl : listed.getD j false with
      | true => rfl
      | false => exact absurd ⟨j, r', hj, hl, hjt⟩ hU
    · rw [envAt_other front V e0 _ (fun j r' _ hj hjt => hno ⟨j, r', hj, hjt⟩)]
      exact hD.other t (fun j r' hj hjt => hno ⟨j, r', hj, hjt⟩)
  have halloc : ∀ {c : CI}, isAlloc c = true → ∃ E sz z, c = .alloc E sz z := fun {c} h => by
    cases c <;> first | (cases h; done) | exact ⟨_, _, _, rfl⟩
  have hmem : ∀ r i, (r, i) ∈ front.zipIdx.filter (fun p => isAlloc p.1.2.2) → front[i]? = some r ∧ isAlloc r.2.2 = true := fun r i h => by
    rw [List.mem_filter] at h
    exact ⟨by have := List.mem_zipIdx_iff_getElem?.1 h.1; exact this, h.2⟩
  have hal : ∀ i r, front[i]? = some r → isAlloc r.2.2 = true → listed.getD i false = true := fun i r hr ha => by
    rcases hall i (hfr i r hr) with h | h
    · exact h
    · have := (hok.st i r hr h).2
      rw [ha] at this; cases this
  have hA : (front.zipIdx.filter (fun p => isAlloc p.1.2.2)).map (·.1) = allocsOf front := by
    have key : ∀ (l : List RIns) k, ((l.zipIdx k).filter (fun p => isAlloc p.1.2.2)).map (·.1) = l.filter (fun r => isAlloc r.2.2) := by
      intro l
      induction l with
      | nil => intro k; rfl
      | cons x l ih =>
        intro k
        rw [List.zipIdx_cons, List.filter_cons, List.filter_cons]
        cases hx : isAlloc x.2.2 <;> simp [hx, ih (k + 1)]
    exact key front 0
  rw [← hA] at hfin
  obtain ⟨e', O2, h1, h2, h3, h4⟩ := allocs_run' (g := g) (OS := OS) (a := a) (idf := idf) (front.zipIdx.filter (fun p => isAlloc p.1.2.2)) _ O (fun r i hri => by
    obtain ⟨hr, ha⟩ := hmem r i hri
    obtain ⟨E, sz, z, hc⟩ := halloc ha
    obtain ⟨d, hd⟩ := hok.ok.dst i r hr
    have := hD.al i r d E sz z hr hd hc (hal i r hr ha)
    exact ⟨ha, hok.ok.al i r hr ha, d, E, sz, z, hd, hc, this.1, this.2.1⟩) (by
      have hz : (front.zipIdx).Pairwise (fun p q => p.2 ≠ q.2) := by
        have key : ∀ (l : List RIns) k, (l.zipIdx k).Pairwise (fun p q => p.2 ≠ q.2) ∧ ∀ p ∈ l.zipIdx k, k ≤ p.2 := by
          intro l
          induction l with
          | nil => intro k; exact ⟨.nil, fun p hp => by simp at hp⟩
          | cons x l ih =>
            intro k
            rw [List.zipIdx_cons]
            refine ⟨List.pairwise_cons.2 ⟨fun p hp => ?_, (ih (k + 1)).1⟩, fun p hp => ?_⟩
            · have := (ih (k + 1)).2 p hp
              simp only; omega
            · rw [List.mem_cons] at hp
              rcases hp with rfl | hp
              · simp
              · have := (ih (k + 1)).2 p hp; omega
        exact (key front 0).1
      rw [List.nodup_iff_pairwise_ne, List.pairwise_map]
      have hz2 := hz.filter (fun p => isAlloc p.1.2.2)
      refine hz2.imp_of_mem (fun {p q} hp hq hne he => ?_)
      obtain ⟨rp, ip⟩ := p
      obtain ⟨rq, iq⟩ := q
      obtain ⟨hp1, hp2⟩ := hmem rp ip hp
      obtain ⟨hq1, hq2⟩ := hmem rq iq hq
      exact hne (hD.inj ip iq rp rq hp1 hq1 ⟨hal ip rp hp1 hp2, .inl hp2⟩ ⟨hal iq rq hq1 hq2, .inl hq2⟩ he)) (fun r i hri => by
    obtain ⟨hr, ha⟩ := hmem r i hri
    obtain ⟨E, sz, z, hc⟩ := halloc ha
    obtain ⟨d, hd⟩ := hok.ok.dst i r hr
    exact (hD.al i r d E sz z hr hd hc (hal i r hr ha)).2.2) hD.sub hreads hfin
  refine ⟨e', O2, ⟨hD.inv.drop h1, hD.size, hD.defers, fun j hj hjs => ?_, fun k' j hk1 hk2 => by omega, fun t ht => h2 t fun ⟨j, r, hj, hl, hjt⟩ => ht j r hj hl hjt, fun j r hj hl => ?_⟩, h4⟩
  · constructor
    · intro h; rw [hun j hj hjs] at h; cases h
    · intro h; omega
  · have hd : dep ops m j = false := by
      rcases hall j (hfr j r hj) with h | h
      · rw [hl] at h; cases h
      · exact h
    obtain ⟨hg, _⟩ := hok.st j r hj hd
    obtain ⟨d, hdd⟩ := hok.ok.dst j r hj
    obtain ⟨rd, rg, ci⟩ := r
    simp only at hg hdd
    subst hg hdd
    refine ⟨d, ci, rfl, chk_mem h3 (mem_strags (k := m) hj fun k' hk1 hk2 => ?_)⟩
    have : k' = m := by omega
    rw [this]; exact hd

theorem sfront_sound {ow : List Nat} {K : Env → Heap → Prop} {Q : Exit → Act → World → Prop} (hQ : ∀ a w, Post W0 g0 n K a w → Q .normal a w) (hok : SregOK ops m front tail) (hm : m ≤ ops.size) (hfl : front.length = m)
    (hcomp : ∀ (i : Nat) o, i < m → ops[i]? = some o → ∃ r, front[i]? = some r ∧ compileOper P n ow ops o = some r) (hlen : tail.length + m = ops.size)
    (htail : ∀ (i : Nat) o, m ≤ i → ops[i]? = some o → ∃ r, tail[i - m]? = some r ∧ compileOper P n ow ops o = some r)
    (hsteps : ∀ (i : Nat) r, front[i]? = some r → stepOK P O (envAt V e0 front i) r (V i))
    (hfin : opsW P (allocsOf front) (fun e O => chk (strags ops m front m) e O ∧ opsS P (tailS ops m front tail) K e O) (killE (pendDsts front) (envAt V e0 front front.length)) O) :
    ∀ (q : Nat) (listed : Array Bool) (g : Gh) (OS : Heap) (w : World) (a : Act) (idf : Nat → Nat), listed.size = ops.size → cnt listed ops.size + q = ops.size → (∀ j, m ≤ j → j < ops.size → listed.getD j false = false) → g0.le g →
      DSt W0 n front V e0 O listed g OS w a idf → wpAny P .any ops Q q listed a w := by
  intro q
  induction q with
  | zero =>
    intro listed g OS w a idf hls hcnt hun hle hD
    have hall : ∀ j, j < ops.size → listed.getD j false = true := by
      have : (List.range ops.size).countP (fun j => listed.getD j false) = (List.range ops.size).length := by
        have : cnt listed ops.size = ops.size := by omega
        unfold cnt at this
        rw [this]; simp
      rw [List.countP_eq_length] at this
      exact fun j hj => this j (List.mem_range.2 hj)
    have := hall m hok.lt
    rw [hun m (Nat.le_refl _) hok.lt] at this
    cases this
  | succ q ih =>
    intro listed g OS w a idf hls hcnt hun hle hD
    rcases Classical.em (∀ j, j < m → listed.getD j false = true ∨ dep ops m j = false) with hall | hno
    · obtain ⟨e', O2, hT, h⟩ := to_tail hok hm hfl hcomp hfin hls hun hall hD
      exact strag_sound hQ hok hm hfl hcomp hlen htail (q + 1) m listed g O2 w a e' hls hcnt (Nat.le_refl _) hm hle hT (by rw [Nat.sub_self]; exact h)
    · have hno' : ∃ j0, j0 < m ∧ listed.getD j0 false = false ∧ dep ops m j0 = true := by
        refine Classical.byContradiction fun hc => hno fun j hj => ?_
        cases hl : listed.getD j false with
        | true => exact .inl rfl
        | false =>
          cases hd : dep ops m j with
          | false => exact .inr rfl
          | true => exact absurd ⟨j, hj, hl, hd⟩ hc
      obtain ⟨j0, hj0, hl0, hd0⟩ := hno'
      refine ⟨fun he => ?_, fun i hi => ?_⟩
      · rcases first_unlisted listed m with hall | ⟨i0, h1, h2, h3⟩
        · rw [hall j0 hj0] at hl0; cases hl0
        · have := ready_first hok.ok hls (by omega) h2 h3
          rw [he] at this; cases this
      · obtain ⟨his, hiu⟩ := ready_unlisted hls hi
        have him : i < m := by
          rcases Nat.lt_trichotomy i m with h' | h' | h'
          · exact h'
          · subst h'
            rw [dep_listed hi hd0] at hl0; cases hl0
          · have := dep_listed hi (hok.tt i m his (Nat.le_refl _) h')
            rw [hun m (Nat.le_refl _) hok.lt] at this
            cases this
        refine draw_step hok.ok hm hfl hcomp hsteps hls hD him hi (fun g' OS' w' a' idf' h1 h2 => ?_)
        refine ih _ g' OS' w' a' idf' (by simpa using hls) ?_ (fun j hj hjs => ?_) (hle.trans h1) h2
        · rw [cnt_set (by omega) hls hiu]; omega
        · rw [listed_set (by omega), if_neg (by omega)]
          exact hun j hj hjs

theorem sreg_sound {id : Nat} {ow : List Nat} {K : Env → Heap → Prop} {Q : Exit → Act → World → Prop} (hmix : P.follows .mixedOrders = true) (hm : m ≤ ops.size)
    (hfront : (ops.toList.take m).mapM (compileOper P n ow ops) = some front) (htail : (ops.toList.drop m).mapM (compileOper P n ow ops) = some tail) (hok : sregOK ops m front tail = true)
    (hS : St W0 g O w n a e) (h : drawW P front (fun e' => opsW P (allocsOf front) (fun e O => chk (strags ops m front m) e O ∧ opsS P (tailS ops m front tail) K e O) (killE (pendDsts front) e') O) e O)
    (hQ : ∀ a w, Post W0 g n K a w → Q .normal a w) : (Code.region id ops true).wp P Q a w := by
  obtain ⟨V, h1, h2⟩ := drawW_steps front _ e h
  have hok := sregOK_inv hok
  obtain ⟨hfl, hget⟩ := mapM_get hfront
  obtain ⟨htl, htget⟩ := mapM_get htail
  have hfl : front.length = m := by rw [hfl]; simp; omega
  refine wp_region_any hmix ?_
  have hlf : ∀ j, (Array.replicate ops.size false).getD j false = false := fun j => by
    by_cases hj : j < ops.size <;> simp [hj]
  refine sfront_sound (ow := ow) (g0 := g) hQ hok hm hfl (fun i o hi ho => ?_) (by rw [htl]; simp; omega) (fun i o hi ho => ?_) h1 h2 ops.size (Array.replicate ops.size false) g O _ a (fun _ => 0) (by simp) ?_ (fun j _ _ => hlf j) (.refl g) ?_
  · exact hget i o (by rw [List.getElem?_take, if_pos hi]; simpa using ho)
  · exact htget (i - m) o (by rw [List.getElem?_drop, show m + (i - m) = i by omega]; simpa using ho)
  · have : cnt (Array.replicate ops.size false) ops.size = 0 := by
      unfold cnt
      rw [List.countP_eq_zero]
      intro j _
      rw [hlf j]; simp
    omega
  · refine ⟨hS.inv.drew, fun _ _ h => h, hS.size, hS.defers, fun t _ => hS.reads t, fun i r d _ _ hl => ?_, fun i r d E sz z _ _ _ hl => ?_, fun i r d E sz L _ _ _ _ hl => ?_, fun i j r r' _ _ ⟨hl, _⟩ => ?_⟩
    all_goals (rw [hlf] at hl; cases hl)

end
end Go.Ab

/- The abstract walk, seventeenth part: whole bodies: sequences, branches, blocks, loops. -/
namespace Go.Ab

inductive Cmd where
  | skip
  | reg (rs : List RIns)
  | dreg (kill : List Nat) (front post : List RIns)
  | sreg (kill : List Nat) (front allocs S0 : List RIns) (tail : List (RIns × List RIns))
  | seq (live : List Nat) (a b : Cmd)
  | cond (c : Operand) (a b : Cmd)
  | block (id : Nat) (b : Cmd)
  | loop (live : List Nat) (b : Cmd)
  | exit (id : Nat)
  | ret

/-- How a command ends. -/
inductive Ex where
  | normal
  | exit (id : Nat)
  | ret

abbrev Kont := Ex → Env → Heap → Prop

/-- F holds of the state, or of what may be said of it instead. -/
def WeakE (F : Env → Heap → Prop) (e : Env) (O : Heap) : Prop :=
  ∀ W0 g w n a, St W0 g O w n a e → ∃ g' e' O', g.le g' ∧ St W0 g' O' w n a e' ∧ F e' O'

theorem WeakE.now {F : Env → Heap → Prop} {e : Env} {O : Heap} (h : F e O) : WeakE F e O :=
  fun _ g _ _ _ hS => ⟨g, e, O, .refl g, hS, h⟩

theorem WeakE.mono {F F' : Env → Heap → Prop} {e : Env} {O : Heap} (h : WeakE F e O) (hf : ∀ e O, F e O → F' e O) : WeakE F' e O :=
  fun W0 g w n a hS => let ⟨g', e', O', h1, h2, h3⟩ := h W0 g w n a hS; ⟨g', e', O', h1, h2, hf _ _ h3⟩

theorem WeakE.bind {F F' : Env → Heap → Prop} {e : Env} {O : Heap} (h : WeakE F e O) (hf : ∀ e O, F e O → WeakE F' e O) : WeakE F' e O :=
  fun W0 g w n a hS => let ⟨g', e', O', h1, h2, h3⟩ := h W0 g w n a hS
    let ⟨g'', e'', O'', h4, h5, h6⟩ := hf e' O' h3 W0 g' w n a h2; ⟨g'', e'', O'', h1.trans h4, h5, h6⟩

theorem WeakE.drop {F : Env → Heap → Prop} {e : Env} {O : Heap} (O' : Heap) (hs : ∀ i o, O' i = some o → O i = some o) (h : WeakE F e O') : WeakE F e O :=
  fun W0 g w n a hS => h W0 g w n a ⟨hS.inv.drop hs, hS.size, hS.defers, hS.reads⟩

theorem WeakE.forget {F : Env → Heap → Prop} {e : Env} {O : Heap} (e' : Env) (hs : ∀ t, e' t = e t ∨ e' t = .junk) (h : WeakE F e' O) : WeakE F e O :=
  fun W0 g w n a hS => h W0 g w n a ⟨hS.inv, hS.size, hS.defers, fun t => by
    rcases hs t with h | h
    · rw [h]; exact hS.reads t
    · rw [h]; exact .junk _⟩

def condW (x : AV) (A B : Prop) : Prop := match x with
  | .val (.bool b) => (b = true → A) ∧ (b = false → B)
  | _ => False

/-- What is known of a few slots alone. -/
def keepE : List Nat → Env → Env
  | [], _ => fun _ => .junk
  | d :: L, e => (keepE L e).upd d (e d)

theorem keepE_or : ∀ (L : List Nat) (e : Env) (t : Nat), keepE L e t = e t ∨ keepE L e t = .junk
  | [], e, t => .inr rfl
  | d :: L, e, t => by
    show (keepE L e).upd d (e d) t = e t ∨ (keepE L e).upd d (e d) t = .junk
    rw [Env.upd_apply]
    split
    · rename_i h; rw [h]; exact .inl rfl
    · exact keepE_or L e t

theorem WeakE.keep {F : Env → Heap → Prop} {e : Env} {O : Heap} (L : List Nat) (h : F (keepE L e) O) : WeakE F e O :=
  (WeakE.now h).forget _ (keepE_or L e)

def seqK (_ : List Nat) (K : Kont) (F : Env → Heap → Prop) : Kont
  | .normal => WeakE F
  | x => K x

def blockK (id : Nat) (K : Kont) : Kont
  | .exit id' => if id' = id then K .normal else K (.exit id')
  | x => K x

def loopK (_ : List Nat) (I : Nat → Env → Heap → Prop) (n : Nat) (K : Kont) : Kont
  | .normal => WeakE fun e O => ∃ m, m < n ∧ I m e O
  | x => K x

def cmdW (P : Program) : Cmd → Kont → Env → Heap → Prop
  | .skip, K, e, O => K .normal e O
  | .reg rs, K, e, O => opsW P rs (K .normal) e O
  | .dreg kill front post, K, e, O => drawW P front (fun e' => opsW P post (K .normal) (killE kill e') O) e O
  | .sreg kill front allocs S0 tail, K, e, O => drawW P front (fun e' => opsW P allocs (fun e O => chk S0 e O ∧ opsS P tail (K .normal) e O) (killE kill e') O) e O
  | .seq L a b, K, e, O => cmdW P a (seqK L K (cmdW P b K)) e O
  | .cond c a b, K, e, O => condW (e.opd c) (cmdW P a K e O) (cmdW P b K e O)
  | .block id b, K, e, O => cmdW P b (blockK id K) e O
  | .loop L b, K, e, O => ∃ (I : Nat → Env → Heap → Prop) (n : Nat), I n e O ∧ ∀ n e O, I n e O → cmdW P b (loopK L I n K) e O
  | .exit id, K, e, O => K (.exit id) e O
  | .ret, K, e, O => K .ret e O

def Cmd.strip : Cmd → Cmd
  | .seq _ a b => .seq [] a.strip b.strip
  | .cond c a b => .cond c a.strip b.strip
  | .block id b => .block id b.strip
  | .loop _ b => .loop [] b.strip
  | c => c

theorem strip_eq (P : Program) : ∀ (c : Cmd) (K : Kont), cmdW P c.strip K = cmdW P c K
  | .skip, K => rfl
  | .reg _, K => rfl
  | .dreg _ _ _, K => rfl
  | .sreg _ _ _ _ _, K => rfl
  | .exit _, K => rfl
  | .ret, K => rfl
  | .seq L a b, K => by
    funext e O
    show cmdW P a.strip (seqK [] K (cmdW P b.strip K)) e O = cmdW P a (seqK L K (cmdW P b K)) e O
    rw [strip_eq P a, strip_eq P b]
    have : ∀ F, seqK [] K F = seqK L K F := fun F => by funext x; cases x <;> rfl
    rw [this]
  | .cond c a b, K => by
    funext e O
    show condW (e.opd c) (cmdW P a.strip K e O) (cmdW P b.strip K e O) = _
    rw [strip_eq P a, strip_eq P b]; rfl
  | .block id b, K => by
    funext e O
    show cmdW P b.strip (blockK id K) e O = _
    rw [strip_eq P b]; rfl
  | .loop L b, K => by
    funext e O
    have : ∀ I n, loopK [] I n K = loopK L I n K := fun I n => by funext x; cases x <;> rfl
    show (∃ (I : Nat → Env → Heap → Prop) (n : Nat), I n e O ∧ ∀ n e O, I n e O → cmdW P b.strip (loopK [] I n K) e O) = (∃ (I : Nat → Env → Heap → Prop) (n : Nat), I n e O ∧ ∀ n e O, I n e O → cmdW P b (loopK L I n K) e O)
    simp only [strip_eq P b, this]

/-- Where the operations begin that wait for all before them. -/
def tailFrom (ops : Array Oper) : Nat → Nat
  | 0 => 0
  | k + 1 => if (List.range k).all (fun j => dep ops k j) = true then tailFrom ops k else k + 1

/-- Where the first write stands. -/
def firstW : List Oper → Nat
  | [] => 0
  | o :: rest => match o.op with
    | .store .. => 0
    | _ => firstW rest + 1

def compileS (P : Program) (n : Nat) (ow : List Nat) (ops : Array Oper) : Option Cmd :=
  match (ops.toList.take (firstW ops.toList)).mapM (compileOper P n ow ops), (ops.toList.drop (firstW ops.toList)).mapM (compileOper P n ow ops) with
  | some front, some tail => if firstW ops.toList ≤ ops.size ∧ sregOK ops (firstW ops.toList) front tail = true then
      some (.sreg (pendDsts front) front (allocsOf front) (strags ops (firstW ops.toList) front (firstW ops.toList)) (tailS ops (firstW ops.toList) front tail)) else none
  | _, _ => none

def compileCode (P : Program) (n : Nat) (ow : List Nat) : Code → Option Cmd
  | .skip => some .skip
  | .region _ ops false => (ops.toList.mapM (compileOper P n ow ops)).map .reg
  | .region _ ops true =>
    match (ops.toList.take (tailFrom ops ops.size)).mapM (compileOper P n ow ops), (ops.toList.drop (tailFrom ops ops.size)).mapM (compileOper P n ow ops) with
    | some front, some tail => if tailFrom ops ops.size ≤ ops.size ∧ drawOK ops (tailFrom ops ops.size) front = true then some (.dreg (pendDsts front) front (allocsOf front ++ tail)) else compileS P n ow ops
    | _, _ => none
  | .seq a b => match compileCode P n ow a, compileCode P n ow b with
    | some a, some b => some (.seq [] a b)
    | _, _ => none
  | .cond c a b => match compileCode P n ow a, compileCode P n ow b with
    | some a, some b => some (.cond c a b)
    | _, _ => none
  | .block id b => (compileCode P n ow b).map (.block id)
  | .loop b => (compileCode P n ow b).map (.loop [])
  | .exit id => some (.exit id)
  | .ret => some .ret
  | _ => none

def Ex.to : Ex → Exit
  | .normal => .normal
  | .exit id => .exit id
  | .ret => .ret

theorem cmd_sound {P : Program} (hmix : P.follows .mixedOrders = true) {W0 : World} {n : Nat} {ow : List Nat} : ∀ (c : Code) (cmd : Cmd) (K : Kont) (Q : Exit → Act → World → Prop) (g0 g : Gh) (O : Heap) (w : World) (a : Act) (e : Env),
    compileCode P n ow c = some cmd → g0.le g → St W0 g O w n a e → cmdW P cmd K e O →
    (∀ x g' e' O' a' w', g0.le g' → St W0 g' O' w' n a' e' → K x e' O' → Q x.to a' w') → c.wp P Q a w
  | .skip, cmd, K, Q, g0, g, O, w, a, e, hc, hle, hS, h, hQ => by
    cases hc
    exact wp_skip (hQ .normal g e O a w hle hS h)
  | .region id ops false, cmd, K, Q, g0, g, O, w, a, e, hc, hle, hS, h, hQ => by
    unfold compileCode at hc
    cases hm : ops.toList.mapM (compileOper P n ow ops) with
    | none => rw [hm] at hc; cases hc
    | some rs =>
      rw [hm] at hc
      cases hc
      exact region_sound (K := K .normal) hm hS h fun a' w' ⟨g', e', O', h1, h2, h3⟩ => hQ .normal g' e' O' a' w' (hle.trans h1) h2 h3
  | .region id ops true, cmd, K, Q, g0, g, O, w, a, e, hc, hle, hS, h, hQ => by
    unfold compileCode at hc
    split at hc
    · rename_i front tail hf ht
      split at hc
      · rename_i hok
        cases hc
        exact draw_sound (K := K .normal) hmix hok.1 hf ht hok.2 hS h fun a' w' ⟨g', e', O', h1, h2, h3⟩ => hQ .normal g' e' O' a' w' (hle.trans h1) h2 h3
      · unfold compileS at hc
        split at hc
        · rename_i front tail hf ht
          split at hc
          · rename_i hok
            cases hc
            exact sreg_sound (K := K .normal) hmix hok.1 hf ht hok.2 hS h fun a' w' ⟨g', e', O', h1, h2, h3⟩ => hQ .normal g' e' O' a' w' (hle.trans h1) h2 h3
          · cases hc
        · cases hc
    · cases hc
  | .seq x y, cmd, K, Q, g0, g, O, w, a, e, hc, hle, hS, h, hQ => by
    unfold compileCode at hc
    split at hc
    · rename_i cx cy hx hy
      cases hc
      refine wp_seq (cmd_sound hmix x cx _ _ g0 g O w a e hx hle hS h fun z g' e' O' a' w' h1 h2 h3 => ?_)
      cases z with
      | normal =>
        obtain ⟨g2, e2, O2, k1, k2, k3⟩ := h3 W0 g' w' n a' h2
        exact cmd_sound hmix y cy K Q g0 g2 O2 w' a' e2 hy (h1.trans k1) k2 k3 hQ
      | exit id => exact hQ (.exit id) g' e' O' a' w' h1 h2 h3
      | ret => exact hQ .ret g' e' O' a' w' h1 h2 h3
    · cases hc
  | .cond c x y, cmd, K, Q, g0, g, O, w, a, e, hc, hle, hS, h, hQ => by
    unfold compileCode at hc
    split at hc
    · rename_i cx cy hx hy
      cases hc
      have hr := hS.opd c
      have h : condW (e.opd c) (cmdW P cx K e O) (cmdW P cy K e O) := h
      unfold condW at h
      split at h
      · rename_i b hb
        rw [hb] at hr
        refine wp_cond_split (t := b) hr.val_inv (fun ht => ?_) (fun hf => ?_)
        · exact cmd_sound hmix x cx K Q g0 g O w a e hx hle hS (h.1 ht) hQ
        · exact cmd_sound hmix y cy K Q g0 g O w a e hy hle hS (h.2 hf) hQ
      · exact h.elim
    · cases hc
  | .block id b, cmd, K, Q, g0, g, O, w, a, e, hc, hle, hS, h, hQ => by
    unfold compileCode at hc
    cases hb : compileCode P n ow b with
    | none => rw [hb] at hc; cases hc
    | some cb =>
      rw [hb] at hc
      cases hc
      refine wp_block (cmd_sound hmix b cb _ _ g0 g O w a e hb hle hS h fun z g' e' O' a' w' h1 h2 h3 => ?_)
      cases z with
      | normal => exact hQ .normal g' e' O' a' w' h1 h2 h3
      | exit id' =>
        have h3 : (if id' = id then K .normal else K (.exit id')) e' O' := h3
        show if id' = id then Q .normal a' w' else Q (.exit id') a' w'
        split
        · rename_i hi; rw [if_pos hi] at h3; exact hQ .normal g' e' O' a' w' h1 h2 h3
        · rename_i hi; rw [if_neg hi] at h3; exact hQ (.exit id') g' e' O' a' w' h1 h2 h3
      | ret => exact hQ .ret g' e' O' a' w' h1 h2 h3
  | .loop b, cmd, K, Q, g0, g, O, w, a, e, hc, hle, hS, h, hQ => by
    unfold compileCode at hc
    cases hb : compileCode P n ow b with
    | none => rw [hb] at hc; cases hc
    | some cb =>
      rw [hb] at hc
      cases hc
      obtain ⟨I, k, h0, hr⟩ := h
      refine wp_loop_ghost (fun k a w => ∃ g e O, g0.le g ∧ St W0 g O w n a e ∧ I k e O) k ⟨g, e, O, hle, hS, h0⟩ fun k a w ⟨g, e, O, h1, h2, h3⟩ => ?_
      refine cmd_sound hmix b cb _ _ g0 g O w a e hb h1 h2 (hr k e O h3) fun z g' e' O' a' w' k1 k2 k3 => ?_
      cases z with
      | normal =>
        obtain ⟨g2, e2, O2, j1, j2, m, j3, j4⟩ := k3 W0 g' w' n a' k2
        exact ⟨m, j3, g2, e2, O2, k1.trans j1, j2, j4⟩
      | exit id' => exact hQ (.exit id') g' e' O' a' w' k1 k2 k3
      | ret => exact hQ .ret g' e' O' a' w' k1 k2 k3
  | .exit id, cmd, K, Q, g0, g, O, w, a, e, hc, hle, hS, h, hQ => by
    cases hc
    exact wp_exit (hQ (.exit id) g e O a w hle hS h)
  | .ret, cmd, K, Q, g0, g, O, w, a, e, hc, hle, hS, h, hQ => by
    cases hc
    exact wp_ret (hQ .ret g e O a w hle hS h)
  | .rangeFunc .., cmd, K, Q, g0, g, O, w, a, e, hc, hle, hS, h, hQ => by cases hc
  | .scope .., cmd, K, Q, g0, g, O, w, a, e, hc, hle, hS, h, hQ => by cases hc
  | .label .., cmd, K, Q, g0, g, O, w, a, e, hc, hle, hS, h, hQ => by cases hc
  | .goto .., cmd, K, Q, g0, g, O, w, a, e, hc, hle, hS, h, hQ => by cases hc
  | .refuse .., cmd, K, Q, g0, g, O, w, a, e, hc, hle, hS, h, hQ => by cases hc

end Go.Ab

/- The abstract walk, eighteenth part: functions. -/
namespace Go.Ab

/-- How a result is read. -/
inductive RC where
  | tmp (t : Nat)
  | cell (agg : Bool) (sz t : Nat)

def resA (e : Env) (O : Heap) : List RC → Option (List AV)
  | [] => some []
  | .tmp t :: rs => match resA e O rs with
    | some l => some (e t :: l)
    | none => none
  | .cell agg sz t :: rs => match loadA O agg sz (e t), resA e O rs with
    | some x, some l => some (x :: l)
    | _, _ => none

def resV : List AV → AV
  | [x] => x
  | l => .tup l

def compileRes (P : Program) : List ResultVar → Option (List RC)
  | [] => some []
  | .tmp t :: rs => (compileRes P rs).map (.tmp t :: ·)
  | .cell a t :: rs => match sizeB P t, compileRes P rs with
    | some s, some l => some (.cell (isAggB P t) s a :: l)
    | _, _ => none

/-- K holds of a value and a heap, or of what may be said of them instead. -/
def WeakR (K : AV → Heap → Prop) (r : AV) (O : Heap) : Prop :=
  ∀ W0 g w v, Inv W0 g O w → Reads g r v → Out W0 g K v w

theorem WeakR.now {K : AV → Heap → Prop} {r : AV} {O : Heap} (h : K r O) : WeakR K r O := fun _ g _ _ hI hr => ⟨g, r, O, .refl g, hI, hr, h⟩
theorem WeakR.drop {K : AV → Heap → Prop} {r : AV} {O : Heap} (O' : Heap) (hs : ∀ i o, O' i = some o → O i = some o) (h : WeakR K r O') : WeakR K r O := fun W0 g w v hI hr => h W0 g w v (hI.drop hs) hr

theorem WeakR.freeze {K : AV → Heap → Prop} {r r' : AV} {O : Heap} {id sz : Nat} {E : TypeId} {elems : List AV} (ho : O id = some (.arr E sz elems)) (hz : Fz id sz elems r r') (h : WeakR K r' (O.del id)) : WeakR K r O :=
  fun W0 g w v hI hr => by
    obtain ⟨g', h1, h2, h3⟩ := freeze_sound hI ho
    obtain ⟨g2, r2, O2, h4, h5, h6, h7⟩ := h W0 g' w v h2 (h3 r r' v hz hr)
    exact ⟨g2, r2, O2, h1.trans h4, h5, h6, h7⟩

theorem WeakE.freeze {F : Env → Heap → Prop} {e e' : Env} {O : Heap} {id sz : Nat} {E : TypeId} {elems : List AV} (ho : O id = some (.arr E sz elems)) (hz : ∀ t, Fz id sz elems (e t) (e' t)) (h : WeakE F e' (O.del id)) : WeakE F e O :=
  fun W0 g w n a hS => by
    obtain ⟨g', h1, h2, h3⟩ := freeze_sound hS.inv ho
    obtain ⟨g2, e2, O2, h4, h5, h6⟩ := h W0 g' w n a ⟨h2, hS.size, hS.defers, fun t => h3 _ _ _ (hz t) (hS.reads t)⟩
    exact ⟨g2, e2, O2, h1.trans h4, h5, h6⟩

/-- What is asked where a function ends. -/
def retF (rcs : List RC) (K : AV → Heap → Prop) (e : Env) (O : Heap) : Prop := ∃ l, resA e O rcs = some l ∧ WeakR K (resV l) O

def retK (rcs : List RC) (K : AV → Heap → Prop) : Kont
  | .normal => WeakE (retF rcs K)
  | .ret => WeakE (retF rcs K)
  | .exit _ => fun _ _ => False

section
variable {P : Program} {W0 : World} {g : Gh} {O : Heap} {w : World} {n : Nat} {a : Act} {e : Env}

def readRes (tmps : Array Value) : ResultVar → Sem Value
  | .tmp t => pure (tmps.getD t undef)
  | .cell a t => do loadVar t (← asAddr (tmps.getD a undef))

theorem readRes_cell (tmps : Array Value) (b : Nat) (t : TypeId) {u : Value} {w : World} (h : (Instr.loadAt t (tmps.getD b undef)).run P w = .ok u w) (hp : ∃ ad, tmps.getD b undef = .pointer (some ad)) :
    (readRes tmps (.cell b t)).run P w = .ok u w := by
  obtain ⟨ad, hp⟩ := hp
  unfold readRes
  simp only []
  rw [hp] at h ⊢
  unfold Instr.loadAt Instr.sureAddr at h
  simpa [asAddr] using h

theorem readAll (hS : St W0 g O w n a e) : ∀ (rs : List ResultVar) (rcs : List RC) (l : List AV), compileRes P rs = some rcs → resA e O rcs = some l →
    ∃ vs : List Value, (rs.mapM (readRes a.tmps)).run P w = .ok vs w ∧ vs.length = l.length ∧ ∀ (i : Nat) x v, l[i]? = some x → vs[i]? = some v → Reads g x v
  | [], rcs, l, hc, hr => by
    cases hc; cases hr
    exact ⟨[], by simp, rfl, fun i x v hx => by simp at hx⟩
  | .tmp t :: rs, rcs, l, hc, hr => by
    unfold compileRes at hc
    cases hk : compileRes P rs with
    | none => rw [hk] at hc; cases hc
    | some ks =>
      rw [hk] at hc; cases hc
      unfold resA at hr
      cases hl : resA e O ks with
      | none => rw [hl] at hr; cases hr
      | some l' =>
        rw [hl] at hr; cases hr
        obtain ⟨vs, h1, h2, h3⟩ := readAll hS rs ks l' hk hl
        refine ⟨a.tmps.getD t undef :: vs, ?_, by simp [h2], fun i x v hx hv => ?_⟩
        · rw [List.mapM_cons]
          show ((do let y ← pure (a.tmps.getD t undef); let ys ← rs.mapM (readRes a.tmps); pure (y :: ys) : Sem (List Value))).run P w = _
          simp [h1]
        · cases i with
          | zero => simp at hx hv; subst hx hv; have := hS.reads t; simpa using this
          | succ i => exact h3 i x v (by simpa using hx) (by simpa using hv)
  | .cell b t :: rs, rcs, l, hc, hr => by
    unfold compileRes at hc
    cases hs : sizeB P t with
    | none => rw [hs] at hc; cases hc
    | some s =>
    cases hk : compileRes P rs with
    | none => rw [hs, hk] at hc; cases hc
    | some ks =>
      rw [hs, hk] at hc; cases hc
      unfold resA at hr
      cases hx0 : loadA O (isAggB P t) s (e b) with
      | none => rw [hx0] at hr; cases hr
      | some x0 =>
      cases hl : resA e O ks with
      | none => rw [hx0, hl] at hr; cases hr
      | some l' =>
        rw [hx0, hl] at hr; cases hr
        obtain ⟨vs, h1, h2, h3⟩ := readAll hS rs ks l' hk hl
        obtain ⟨u, hu, hru⟩ := load_sound (P := P) hs rfl (sizeB_u hs) hS.inv (hS.reads b) hx0
        have hp : ∃ ad, a.tmps.getD b undef = .pointer (some ad) := by
          have hb := hS.reads b
          unfold loadA at hx0
          split at hx0
          · rename_i he; rw [he] at hb
            generalize a.tmps.getD b undef = z at hb
            cases hb with
            | ref _ b off vs _ _ => exact ⟨_, rfl⟩
          · rename_i he; rw [he] at hb
            generalize a.tmps.getD b undef = z at hb
            cases hb with
            | optr _ _ _ _ b r hm => exact ⟨_, rfl⟩
          · cases hx0
        have h0 := readRes_cell a.tmps b t hu hp
        refine ⟨u :: vs, ?_, by simp [h2], fun i x v hx hv => ?_⟩
        · rw [List.mapM_cons]
          simp [h1, h0]
        · cases i with
          | zero => simp at hx hv; subst hx hv; exact hru
          | succ i => exact h3 i x v (by simpa using hx) (by simpa using hv)

theorem results_sound {fn : Func} {rcs : List RC} {l : List AV} (hS : St W0 g O w n a e) (hc : compileRes P fn.results.toList = some rcs) (hl : resA e O rcs = some l) :
    ∃ v, (results fn a.tmps).run P w = .ok v w ∧ Reads g (resV l) v := by
  obtain ⟨vs, h1, h2, h3⟩ := readAll hS fn.results.toList rcs l hc hl
  have hm : (fn.results.mapM (readRes a.tmps)).run P w = .ok vs.toArray w := by
    rw [Array.mapM_eq_mapM_toList]
    simp [h1]
  have hres : (results fn a.tmps).run P w = .ok (if h : vs.toArray.size = 1 then vs.toArray[0] else .tuple vs.toArray) w := by
    have he : results fn a.tmps = (do let vs ← fn.results.mapM (readRes a.tmps); pure (if h : vs.size = 1 then vs[0] else .tuple vs)) := by
      unfold results
      rfl
    rw [he]
    simp [hm]
  refine ⟨_, hres, ?_⟩
  match l, vs, h2, h3 with
  | [], [], _, h3 => exact .tup [] #[] rfl (fun i x v hx => by simp at hx)
  | [x], [v], _, h3 => exact h3 0 x v rfl rfl
  | x :: y :: l, v :: u :: vs, h2, h3 =>
    have : ¬ ((v :: u :: vs).toArray.size = 1) := by simp
    rw [dif_neg this]
    exact .tup _ _ (by simpa using h2) (fun i x v hx hv => h3 i x v hx (by simpa using hv))

end

def envOf (args : List AV) : Env := fun t => args.getD t .junk

/-- A function, and the command that it is. -/
def FnOK (P : Program) (f : FuncId) (cmd : Cmd) (rcs : List RC) (nargs : Nat) : Prop :=
  callable P f = true ∧ ∃ fn c ow, P.funcs[f]? = some fn ∧ fn.body = some c ∧ compileCode P fn.ntmps ow c = some cmd.strip ∧ compileRes P fn.results.toList = some rcs ∧ nargs ≤ fn.ntmps

theorem FnOK.call {P : Program} (hmix : P.follows .mixedOrders = true) {f : FuncId} {cmd : Cmd} {rcs : List RC} {args : List AV} (h : FnOK P f cmd rcs args.length) {O : Heap} {K : AV → Heap → Prop}
    (hw : cmdW P cmd (retK rcs K) (envOf args) O) : CallA P f args O K := by
  obtain ⟨hcall, fn, c, ow, hf, hb, hc, hr, hn⟩ := h
  refine ⟨hcall, fun g W0 w vs hI hs hv => ?_⟩
  refine calls_of_wp hf hb ?_
  have hst : St W0 g O w fn.ntmps { tmps := vs ++ Array.replicate (fn.ntmps - vs.size) undef, defers := [] } (envOf args) := by
    refine ⟨hI, by simp; omega, rfl, fun t => ?_⟩
    unfold envOf
    by_cases ht : t < args.length
    · have h1 : t < vs.size := by omega
      have h2 : (vs ++ Array.replicate (fn.ntmps - vs.size) undef).getD t undef = vs[t] := by
        rw [Array.getD_eq_getD_getElem?, Array.getElem?_append_left h1]
        simp [h1]
      rw [h2]
      refine hv t _ _ ?_ (Array.getElem?_eq_getElem h1)
      simp [List.getD_eq_getElem?_getD, ht]
    · have : args.getD t .junk = .junk := by simp [List.getD_eq_getElem?_getD, List.getElem?_eq_none (by omega : args.length ≤ t)]
      rw [this]
      exact .junk _
  have fin : ∀ {x : Exit} {g' e' O' a' w'}, (x = .normal ∨ x = .ret) → St W0 g' O' w' fn.ntmps a' e' → WeakE (retF rcs K) e' O' → g.le g' →
      bodyPost P fn (fun en w' => ∃ v, en = .returned v ∧ Out W0 g K v w') x a' w' := fun {x g' e' O' a' w'} hx h1 h2 hle => by
    obtain ⟨g2, e2, O2, k1, k2, l, k3, k4⟩ := h2 W0 g' w' _ a' h1
    obtain ⟨v, hv1, hv2⟩ := results_sound (P := P) (fn := fn) k2 hr k3
    obtain ⟨g3, r3, O3, k5, k6, k7, k8⟩ := k4 W0 g2 w' v k2.inv hv2
    have : a'.defers = [] ∧ ∃ v, (results fn a'.tmps).run P w' = .ok v w' ∧ ∃ u, Ending.returned v = .returned u ∧ Out W0 g K u w' :=
      ⟨k2.defers, v, hv1, v, rfl, g3, r3, O3, (hle.trans k1).trans k5, k6, k7, k8⟩
    rcases hx with rfl | rfl
    · exact this
    · exact this
  refine cmd_sound hmix c cmd.strip (retK rcs K) _ g g O w _ (envOf args) hc (.refl g) hst (by rw [strip_eq]; exact hw) fun x g' e' O' a' w' h1 h2 h3 => ?_
  cases x with
  | normal => exact fin (.inl rfl) h2 h3 h1
  | ret => exact fin (.inr rfl) h2 h3 h1
  | exit id => exact h3.elim

end Go.Ab

/- The abstract walk, nineteenth part: the equations by which a walk goes on. -/
namespace Go.Ab

def optK (o : Option AV) (K : AV → Heap → Prop) (O : Heap) : Prop := match o with
  | some r => K r O
  | none => False

theorem optK_some (r : AV) (K : AV → Heap → Prop) (O : Heap) : optK (some r) K O = K r O := rfl

theorem optK_ex (o : Option AV) (K : AV → Heap → Prop) (O : Heap) : (∃ r, o = some r ∧ K r O) = optK o K O := by
  cases o with
  | none => simp [optK]
  | some r => simp [optK]

def optH (o : Option Heap) (F : Heap → Prop) : Prop := match o with
  | some O => F O
  | none => False

theorem optH_some (O : Heap) (F : Heap → Prop) : optH (some O) F = F O := rfl

section
variable (P : Program) (e : Env) (O : Heap) (K : AV → Heap → Prop)

theorem ci_mv (x : Operand) : CiSem P (.mv x) e O K = K (e.opd x) O := optK_ex (some (e.opd x)) K O
theorem ci_pick (c a b : Operand) : CiSem P (.pick c a b) e O K = optK (pickA (e.opd c) (e.opd a) (e.opd b)) K O := optK_ex _ K O
theorem ci_alloc (E : TypeId) (sz : Nat) (zero : AV) : CiSem P (.alloc E sz zero) e O K = ∀ id, O id = none → K (.optr id sz 0 0) (O.upd id (.arr E sz [zero])) := rfl
theorem ci_box (E : TypeId) (sz : Nat) (x : Operand) : CiSem P (.box E sz x) e O K = (storAll sz [e.opd x] = true ∧ ∀ id, O id = none → K (.optr id sz 0 0) (O.upd id (.arr E sz [e.opd x]))) := rfl
theorem ci_build (zero : List AV) (parts : List (Nat × Nat × Operand)) : CiSem P (.build zero parts) e O K = optK ((fillA zero (parts.map fun p => (p.1, p.2.1, e.opd p.2.2))).map .agg) K O := optK_ex _ K O
theorem ci_blist (sz : Nat) (xs : List Operand) : CiSem P (.blist sz xs) e O K = optK (if storAll sz (xs.map e.opd) = true then some (.list sz true (xs.map e.opd)) else none) K O := optK_ex _ K O
theorem ci_bown (E : TypeId) (sz : Nat) (xs : List Operand) : CiSem P (.bown E sz xs) e O K = (storAll sz (xs.map e.opd) = true ∧ ∀ id, O id = none → K (.own id sz 0 xs.length (some xs.length)) (O.upd id (.arr E sz (xs.map e.opd)))) := rfl
theorem ci_load (agg : Bool) (sz : Nat) (x : Operand) : CiSem P (.load agg sz x) e O K = optK (loadA O agg sz (e.opd x)) K O := optK_ex _ K O
theorem ci_store (sz : Nat) (x v : Operand) : CiSem P (.store sz x v) e O K = optH (storeA O sz (e.opd v) (e.opd x)) (K .junk) := by
  show (∃ O', storeA O sz (e.opd v) (e.opd x) = some O' ∧ K .junk O') = _
  cases storeA O sz (e.opd v) (e.opd x) <;> simp [optH]
def nilchkA : AV → Option AV
  | .optr id s i k => some (.optr id s i k)
  | .ref y => some (.ref y)
  | .clo (.func f) a b => some (.clo (.func f) a b)
  | _ => none
theorem ci_nilchk (x : Operand) : CiSem P (.nilchk x) e O K = optK (nilchkA (e.opd x)) K O := optK_ex _ K O
theorem ci_bin (op : BinOp) (x y : Operand) : CiSem P (.bin op x y) e O K = optK (binA op (e.opd x) (e.opd y)) K O := optK_ex _ K O
theorem ci_binb (neg : Bool) (x y : Operand) : CiSem P (.binb neg x y) e O K = optK (binbA neg (e.opd x) (e.opd y)) K O := optK_ex _ K O
theorem ci_eqagg (neg : Bool) (ks : List Bool) (x y : Operand) : CiSem P (.eqagg neg ks x y) e O K = optK (eqaggA neg ks (e.opd x) (e.opd y)) K O := optK_ex _ K O
theorem ci_eqnil (k : Nat) (neg : Bool) (x : Operand) : CiSem P (.eqnil k neg x) e O K = optK ((isNilA k (e.opd x)).map fun b => .val (.bool (if neg then !b else b))) K O := optK_ex _ K O
theorem ci_un (op : UnOp) (x : Operand) : CiSem P (.un op x) e O K = optK (unA op (e.opd x)) K O := optK_ex _ K O
theorem ci_convi (k : IntKind) (x : Operand) : CiSem P (.convi k x) e O K = optK ((intOfA (e.opd x)).map fun n => .val (.int k (k.wrap n))) K O := optK_ex _ K O
theorem ci_mkfn (fn : Fn) (first cap : List Operand) : CiSem P (.mkfn fn first cap) e O K = K (.clo fn (first.map e.opd) (cap.map e.opd)) O := optK_ex (some _) K O
theorem ci_fieldA (off sz : Nat) (agg : Bool) (x : Operand) : CiSem P (.fieldA off sz agg x) e O K = optK (fieldAddrA off sz agg (e.opd x)) K O := optK_ex _ K O
def fieldV (off sz : Nat) (agg : Bool) : AV → Option AV
  | .agg l => partA (.agg l) off sz agg
  | _ => none
theorem ci_field (off sz : Nat) (agg : Bool) (x : Operand) : CiSem P (.field off sz agg x) e O K = optK (fieldV off sz agg (e.opd x)) K O := optK_ex _ K O
theorem ci_indexA (esz : Nat) (x i : Operand) : CiSem P (.indexA esz x i) e O K = optK ((intOfA (e.opd i)).bind fun n => indexAddrA esz n (e.opd x)) K O := optK_ex _ K O
theorem ci_indexP (len esz : Nat) (eagg : Bool) (x i : Operand) : CiSem P (.indexP len esz eagg x i) e O K = optK ((intOfA (e.opd i)).bind fun n => indexPtrA len esz eagg n (e.opd x)) K O := optK_ex _ K O
theorem ci_slice (esz : Nat) (x : Operand) (lo hi mx : Option Operand) : CiSem P (.slice esz x lo hi mx) e O K = optK (sliceA esz (e.opd x) (lo.map e.opd) (hi.map e.opd) (mx.map e.opd)) K O := optK_ex _ K O
theorem ci_extract (x : Operand) (i : Nat) : CiSem P (.extract x i) e O K = optK (extractA i (e.opd x)) K O := optK_ex _ K O
theorem ci_len (x : Operand) : CiSem P (.len x) e O K = optK (lenA (e.opd x)) K O := optK_ex _ K O
theorem ci_lenm (x : Operand) : CiSem P (.lenm x) e O K = optK (lenM O (e.opd x)) K O := optK_ex _ K O
theorem ci_maxmin (m : Bool) (x y : Operand) : CiSem P (.maxmin m x y) e O K = optK (maxminA m (e.opd x) (e.opd y)) K O := optK_ex _ K O
theorem ci_call (f : FuncId) (args : List Operand) : CiSem P (.call f args) e O K = CallA P f (args.map e.opd) O K := rfl
def callvW (P : Program) (x : AV) (args : List AV) (O : Heap) (K : AV → Heap → Prop) : Prop := match x with
  | .clo (.func f) a b => CallA P f (a ++ args ++ b) O K
  | _ => False
theorem ci_callv (fx : Operand) (args : List Operand) : CiSem P (.callv fx args) e O K = callvW P (e.opd fx) (args.map e.opd) O K := by
  show (∃ f a b, e.opd fx = .clo (.func f) a b ∧ CallA P f (a ++ args.map e.opd ++ b) O K) = _
  generalize e.opd fx = x
  refine propext ⟨fun ⟨f, a, b, h1, h2⟩ => by subst h1; exact h2, fun h => ?_⟩
  unfold callvW at h
  split at h
  · exact ⟨_, _, _, rfl, h⟩
  · exact h.elim
theorem callv_clo (f : FuncId) (a b args : List AV) : callvW P (.clo (.func f) a b) args O K = CallA P f (a ++ args ++ b) O K := rfl
theorem ci_cap (x : Operand) : CiSem P (.cap x) e O K = CapSem (e.opd x) O K := rfl
theorem ci_append (ow : Bool) (E : TypeId) (sz bytes : Nat) (s x : Operand) : CiSem P (.append ow E sz bytes s x) e O K = AppendSem ow E sz bytes (e.opd s) (e.opd x) O K := rfl
theorem ci_mkslice (E : TypeId) (sz bytes : Nat) (zero : AV) (l c : Operand) : CiSem P (.mkslice E sz bytes zero l c) e O K = MakeSem E sz bytes zero (e.opd l) (e.opd c) O K := rfl
end

theorem opd_tmp (e : Env) (t : Nat) : e.opd (.tmp t) = e t := rfl
theorem opd_const (e : Env) (v : Value) : e.opd (.const v) = .val v := rfl
theorem opd_func (e : Env) (f : FuncId) : e.opd (.func f) = .clo (.func f) [] [] := rfl
theorem put_some (e : Env) (d : Nat) (r : AV) : e.put (some d) r = e.upd d r := rfl
theorem put_none (e : Env) (r : AV) : e.put none r = e := rfl

section
variable (P : Program) (K : Kont) (e : Env) (O : Heap)
theorem cmd_skip : cmdW P .skip K e O = K .normal e O := rfl
theorem cmd_reg (rs : List RIns) : cmdW P (.reg rs) K e O = opsW P rs (K .normal) e O := rfl
theorem cmd_dreg (kill : List Nat) (front post : List RIns) : cmdW P (.dreg kill front post) K e O = drawW P front (fun e' => opsW P post (K .normal) (killE kill e') O) e O := rfl
theorem cmd_sreg (kill : List Nat) (front allocs S0 : List RIns) (tail : List (RIns × List RIns)) : cmdW P (.sreg kill front allocs S0 tail) K e O = drawW P front (fun e' => opsW P allocs (fun e O => chk S0 e O ∧ opsS P tail (K .normal) e O) (killE kill e') O) e O := rfl
theorem kill_nil (e : Env) : killE [] e = e := rfl
theorem kill_cons (d : Nat) (L : List Nat) (e : Env) : killE (d :: L) e = (killE L e).upd d .junk := rfl
theorem cmd_seq (L : List Nat) (a b : Cmd) : cmdW P (.seq L a b) K e O = cmdW P a (seqK L K (cmdW P b K)) e O := rfl
theorem cmd_cond (c : Operand) (a b : Cmd) : cmdW P (.cond c a b) K e O = condW (e.opd c) (cmdW P a K e O) (cmdW P b K e O) := rfl
theorem cmd_block (id : Nat) (b : Cmd) : cmdW P (.block id b) K e O = cmdW P b (blockK id K) e O := rfl
theorem cmd_exit (id : Nat) : cmdW P (.exit id) K e O = K (.exit id) e O := rfl
theorem cmd_ret : cmdW P .ret K e O = K .ret e O := rfl
theorem cmd_loop {P : Program} {L : List Nat} {b : Cmd} {K : Kont} {e : Env} {O : Heap} (I : Nat → Env → Heap → Prop) (n : Nat) (h0 : I n e O) (h : ∀ n e O, I n e O → cmdW P b (loopK L I n K) e O) : cmdW P (.loop L b) K e O := ⟨I, n, h0, h⟩
variable (F : Env → Heap → Prop)
theorem seqK_exit (L : List Nat) (id : Nat) : seqK L K F (.exit id) = K (.exit id) := rfl
theorem seqK_ret (L : List Nat) : seqK L K F .ret = K .ret := rfl
theorem seqK_now {L : List Nat} {K : Kont} {F : Env → Heap → Prop} {e : Env} {O : Heap} (h : F (keepE L e) O) : seqK L K F .normal e O := WeakE.keep L h
theorem seqK_weak {L : List Nat} {K : Kont} {F : Env → Heap → Prop} {e : Env} {O : Heap} (h : WeakE F e O) : seqK L K F .normal e O := h
theorem blockK_normal (id : Nat) : blockK id K .normal = K .normal := rfl
theorem blockK_ret (id : Nat) : blockK id K .ret = K .ret := rfl
theorem blockK_exit (id id' : Nat) : blockK id K (.exit id') = if id' = id then K .normal else K (.exit id') := rfl
theorem loopK_exit (L : List Nat) (I : Nat → Env → Heap → Prop) (n : Nat) (id : Nat) : loopK L I n K (.exit id) = K (.exit id) := rfl
theorem loopK_ret (L : List Nat) (I : Nat → Env → Heap → Prop) (n : Nat) : loopK L I n K .ret = K .ret := rfl
theorem loopK_now {L : List Nat} {I : Nat → Env → Heap → Prop} {n : Nat} {K : Kont} {e : Env} {O : Heap} (m : Nat) (h : m < n) (hi : I m (keepE L e) O) : loopK L I n K .normal e O := WeakE.keep L ⟨m, h, hi⟩
theorem loopK_weak {L : List Nat} {I : Nat → Env → Heap → Prop} {n : Nat} {K : Kont} {e : Env} {O : Heap} (h : WeakE (fun e O => ∃ m, m < n ∧ I m e O) e O) : loopK L I n K .normal e O := h
theorem retK_now {rcs : List RC} {K : AV → Heap → Prop} {e : Env} {O : Heap} (h : retF rcs K e O) : retK rcs K .ret e O := WeakE.now h
theorem retK_now' {rcs : List RC} {K : AV → Heap → Prop} {e : Env} {O : Heap} (h : retF rcs K e O) : retK rcs K .normal e O := WeakE.now h
end

theorem cond_bool (b : Bool) (A B : Prop) : condW (.val (.bool b)) A B = ((b = true → A) ∧ (b = false → B)) := rfl
theorem cond_intro {b : Bool} {A B : Prop} (h1 : b = true → A) (h2 : b = false → B) : condW (.val (.bool b)) A B := ⟨h1, h2⟩
theorem cond_tt (A B : Prop) : condW (.val (.bool true)) A B = A := by simp [condW]
theorem cond_ff (A B : Prop) : condW (.val (.bool false)) A B = B := by simp [condW]

/-- x where c holds; else no value at all. -/
def jn (c : Bool) (x : AV) : AV := if c = true then x else .val undef
theorem jn_true (x : AV) : jn true x = x := rfl
theorem jn_false (x : AV) : jn false x = .val undef := rfl

/-- Computed where c holds. -/
def gK (c : Bool) (o : Option AV) (F : AV → Prop) : Prop := ∃ r, (c = true → o = some r) ∧ F (jn c r)

theorem gK_congr {c c' : Bool} {o o' : Option AV} {F : AV → Prop} (hc : c = c') (ho : c' = true → o = o') : gK c o F = gK c' o' F := by
  subst hc
  unfold gK
  congr 1
  funext r
  congr 1
  exact propext ⟨fun h k => (ho k).symm.trans (h k), fun h k => (ho k).trans (h k)⟩

attribute [congr] gK_congr
theorem gK_some (c : Bool) (r : AV) (F : AV → Prop) : gK c (some r) F = F (jn c r) := by
  unfold gK
  refine propext ⟨fun ⟨r', h1, h2⟩ => ?_, fun h => ⟨r, fun _ => rfl, h⟩⟩
  cases c
  · exact h2
  · have := h1 rfl
    cases this
    exact h2
theorem b_eq_t (b : Bool) : (b == true) = b := by cases b <;> rfl
theorem b_eq_f (b : Bool) : (b == false) = !b := by cases b <;> rfl

def gW (x : AV) (want : Bool) (o : Option AV) (F : AV → Prop) : Prop := match x with
  | .val (.bool b) => gK (b == want) o F
  | .val _ => F (.val undef)
  | _ => False

def pureCI : CI → Bool
  | .alloc .. | .box .. | .bown .. | .store .. | .call .. | .callv .. | .cap .. | .append .. | .mkslice .. => false
  | _ => true

theorem pure_sem {P : Program} {ci : CI} (h : pureCI ci = true) (e : Env) (O : Heap) (K : AV → Heap → Prop) : CiSem P ci e O K = ∃ r, pureI ci e O = some r ∧ K r O := by
  cases ci <;> first | rfl | (cases h; done)

def opF (P : Program) (d : Option Nat) (rest : List RIns) (K : Env → Heap → Prop) (e : Env) (O : Heap) : AV → Prop := fun r => opsW P rest K (e.put d r) O
theorem opF_apply (P : Program) (d : Option Nat) (rest : List RIns) (K : Env → Heap → Prop) (e : Env) (O : Heap) (r : AV) : opF P d rest K e O r = opsW P rest K (e.put d r) O := rfl

theorem gW_eq (x : AV) (want : Bool) (o : Option AV) (F : AV → Prop) : gW x want o F = guardW x want (∃ r, o = some r ∧ F r) (F (.val undef)) := by
  unfold gW guardW
  cases x <;> try rfl
  rename_i v
  have key : ∀ b : Bool, gK (b == want) o F = ((Value.bool b = .bool want → ∃ r, o = some r ∧ F r) ∧ (Value.bool b ≠ .bool want → F (.val undef))) := by
    intro b
    unfold gK
    by_cases hb : b = want
    · subst hb
      simp [jn]
    · have : (b == want) = false := by simp [hb]
      rw [this]
      simp [jn, hb]
      exact ⟨fun ⟨_, h⟩ => h, fun h => ⟨.junk, h⟩⟩
  cases v
  case bool b => exact key b
  all_goals simp

theorem opsW_gpure {P : Program} {d : Option Nat} {s : Nat} {want : Bool} {ci : CI} {rest : List RIns} {K : Env → Heap → Prop} {e : Env} {O : Heap} (h : pureCI ci = true) :
    opsW P ((d, some (s, want), ci) :: rest) K e O = gW (e s) want (pureI ci e O) (opF P d rest K e O) := by
  rw [opsW_guard, pure_sem h, gW_eq]
  rfl

/-- The front of a region that draws. -/
def drF (P : Program) (d : Option Nat) (rest : List RIns) (K : Env → Prop) (e : Env) (O : Heap) : AV → Prop := fun r => drawW P rest K (e.put d r) O
theorem drF_apply (P : Program) (d : Option Nat) (rest : List RIns) (K : Env → Prop) (e : Env) (O : Heap) (r : AV) : drF P d rest K e O r = drawW P rest K (e.put d r) O := rfl
theorem drawW_nil (P : Program) (K : Env → Prop) (e : Env) (O : Heap) : drawW P [] K e O = K e := rfl

def optP (o : Option AV) (F : AV → Prop) : Prop := match o with
  | some r => F r
  | none => False
theorem optP_some (r : AV) (F : AV → Prop) : optP (some r) F = F r := rfl

theorem drawFun_pure {P : Program} {ci : CI} (h : pureCI ci = true) (e : Env) (O : Heap) (V : AV) : drawFun P ci e O V = (pureI ci e O = some V) := by
  cases ci <;> first | (cases h; done) | rfl

theorem drawW_pure {P : Program} {d : Option Nat} {ci : CI} {rest : List RIns} {K : Env → Prop} {e : Env} {O : Heap} (h : pureCI ci = true) :
    drawW P ((d, none, ci) :: rest) K e O = optP (pureI ci e O) (drF P d rest K e O) := by
  show (∃ V, drawFun P ci e O V ∧ drawW P rest K (e.put d V) O) = _
  simp only [drawFun_pure h]
  cases pureI ci e O with
  | none => simp [optP]
  | some r => simp [optP, drF]

theorem drawW_gpure {P : Program} {d : Option Nat} {s : Nat} {want : Bool} {ci : CI} {rest : List RIns} {K : Env → Prop} {e : Env} {O : Heap} (h : pureCI ci = true) :
    drawW P ((d, some (s, want), ci) :: rest) K e O = gW (e s) want (pureI ci e O) (drF P d rest K e O) := by
  rw [gW_eq]
  show guardW (e s) want (∃ V, drawFun P ci e O V ∧ drawW P rest K (e.put d V) O) (drawW P rest K (e.put d (.val undef)) O) = _
  simp only [drawFun_pure h]
  rfl

theorem drawW_alloc {P : Program} {d : Option Nat} {E : TypeId} {sz : Nat} {z : AV} {rest : List RIns} {K : Env → Prop} {e : Env} {O : Heap} :
    drawW P ((d, none, .alloc E sz z) :: rest) K e O = drawW P rest K (e.put d .junk) O := by
  show (∃ V, V = AV.junk ∧ drawW P rest K (e.put d V) O) = _
  simp

/-- A call of a function that only computes. -/
def callF (P : Program) (f : FuncId) (args : List AV) (F : AV → Prop) : Prop := ∃ V, PureA P f args V ∧ F V
theorem callF_use {P : Program} {f : FuncId} {args : List AV} {F : AV → Prop} {r : AV} (h : PureA P f args r) (hk : F r) : callF P f args F := ⟨r, h, hk⟩
theorem drawW_call {P : Program} {d : Option Nat} {f : FuncId} {args : List Operand} {rest : List RIns} {K : Env → Prop} {e : Env} {O : Heap} :
    drawW P ((d, none, .call f args) :: rest) K e O = callF P f (args.map e.opd) (drF P d rest K e O) := rfl
/-- A call of such a function, where x says so. -/
def gcallF (P : Program) (f : FuncId) (args : List AV) (F : AV → Prop) (x : AV) (want : Bool) : Prop := guardW x want (callF P f args F) (F (.val undef))
def gcallA (P : Program) (f : FuncId) (args : List AV) (O : Heap) (K : AV → Heap → Prop) (x : AV) (want : Bool) : Prop := guardW x want (CallA P f args O K) (K (.val undef) O)
theorem drawW_gcall {P : Program} {d : Option Nat} {s : Nat} {want : Bool} {f : FuncId} {args : List Operand} {rest : List RIns} {K : Env → Prop} {e : Env} {O : Heap} :
    drawW P ((d, some (s, want), .call f args) :: rest) K e O = gcallF P f (args.map e.opd) (drF P d rest K e O) (e s) want := rfl
theorem opsW_gcall {P : Program} {d : Option Nat} {s : Nat} {want : Bool} {f : FuncId} {args : List Operand} {rest : List RIns} {K : Env → Heap → Prop} {e : Env} {O : Heap} :
    opsW P ((d, some (s, want), .call f args) :: rest) K e O = gcallA P f (args.map e.opd) O (opK P d rest K e) (e s) want := by
  rw [opsW_guard]; rfl
theorem bool_ne {b want : Bool} (h : (Value.bool b ≠ .bool want)) : (b == want) = false := by
  cases hbw : (b == want) with
  | false => rfl
  | true => exact absurd (by rw [eq_of_beq hbw]) h
theorem guard_callF {P : Program} {b want : Bool} {f : FuncId} {args : List AV} {F : AV → Prop} (r : AV) (h : (b == want) = true → PureA P f args r) (hk : F (jn (b == want) r)) : gcallF P f args F (.val (.bool b)) want := by
  constructor
  · intro hb
    have : (b == want) = true := by cases hb; simp
    rw [this] at hk
    exact ⟨r, h this, hk⟩
  · intro hb
    rw [bool_ne hb] at hk
    exact hk
theorem guard_CallA {P : Program} {b want : Bool} {f : FuncId} {args : List AV} {O : Heap} {K : AV → Heap → Prop} (r : AV) (h : (b == want) = true → PureA P f args r) (hk : K (jn (b == want) r) O) : gcallA P f args O K (.val (.bool b)) want := by
  constructor
  · intro hb
    have : (b == want) = true := by cases hb; simp
    rw [this] at hk
    exact (h this).use hk
  · intro hb
    rw [bool_ne hb] at hk
    exact hk
theorem guard_tt (A B : Prop) : guardW (.val (.bool true)) true A B = A := by simp [guardW]
theorem guard_ff (A B : Prop) : guardW (.val (.bool false)) false A B = A := by simp [guardW]
theorem guard_tf (A B : Prop) : guardW (.val (.bool true)) false A B = B := by simp [guardW]
theorem guard_ft (A B : Prop) : guardW (.val (.bool false)) true A B = B := by simp [guardW]
theorem gcF_tt {P : Program} {f : FuncId} {args : List AV} {F : AV → Prop} : gcallF P f args F (.val (.bool true)) true = callF P f args F := guard_tt _ _
theorem gcF_ff {P : Program} {f : FuncId} {args : List AV} {F : AV → Prop} : gcallF P f args F (.val (.bool false)) false = callF P f args F := guard_ff _ _
theorem gcF_tf {P : Program} {f : FuncId} {args : List AV} {F : AV → Prop} : gcallF P f args F (.val (.bool true)) false = F (.val undef) := guard_tf _ _
theorem gcF_ft {P : Program} {f : FuncId} {args : List AV} {F : AV → Prop} : gcallF P f args F (.val (.bool false)) true = F (.val undef) := guard_ft _ _
theorem gcA_tt {P : Program} {f : FuncId} {args : List AV} {O : Heap} {K : AV → Heap → Prop} : gcallA P f args O K (.val (.bool true)) true = CallA P f args O K := guard_tt _ _
theorem gcA_ff {P : Program} {f : FuncId} {args : List AV} {O : Heap} {K : AV → Heap → Prop} : gcallA P f args O K (.val (.bool false)) false = CallA P f args O K := guard_ff _ _
theorem gcA_tf {P : Program} {f : FuncId} {args : List AV} {O : Heap} {K : AV → Heap → Prop} : gcallA P f args O K (.val (.bool true)) false = K (.val undef) O := guard_tf _ _
theorem gcA_ft {P : Program} {f : FuncId} {args : List AV} {O : Heap} {K : AV → Heap → Prop} : gcallA P f args O K (.val (.bool false)) true = K (.val undef) O := guard_ft _ _
theorem gK_false (o : Option AV) (F : AV → Prop) : gK false o F = F (.val undef) := by
  unfold gK
  simp [jn]
  exact ⟨fun ⟨_, h⟩ => h, fun h => ⟨.junk, h⟩⟩

theorem drawW_callv {P : Program} {d : Option Nat} {fx : Operand} {args : List Operand} {rest : List RIns} {K : Env → Prop} {e : Env} {O : Heap} (f : FuncId) (a b : List AV) (r : AV) (hf : e.opd fx = .clo (.func f) a b) (h : PureA P f (a ++ args.map e.opd ++ b) r)
    (hk : drawW P rest K (e.put d r) O) : drawW P ((d, none, .callv fx args) :: rest) K e O := ⟨r, ⟨f, a, b, hf, h⟩, hk⟩

theorem drawW_append {P : Program} {d : Option Nat} {E : TypeId} {sz bytes : Nat} {s x : Operand} {rest : List RIns} {K : Env → Prop} {e : Env} {O : Heap} (r : AV) (h : AppendPure E sz bytes (e.opd s) (e.opd x) O r) (hk : drawW P rest K (e.put d r) O) :
    drawW P ((d, none, .append false E sz bytes s x) :: rest) K e O := ⟨r, h, hk⟩

theorem drawW_pend {P : Program} {d : Option Nat} {E : TypeId} {sz bytes : Nat} {s x : Operand} {rest : List RIns} {K : Env → Prop} {e : Env} {O : Heap} (r : AV) (h : AppendPend E sz bytes (e.opd s) (e.opd x) O r) (hk : drawW P rest K (e.put d r) O) :
    drawW P ((d, none, .append true E sz bytes s x) :: rest) K e O := ⟨r, h, hk⟩

theorem drawW_make {P : Program} {d : Option Nat} {E : TypeId} {sz bytes : Nat} {zero : AV} {l c : Operand} {rest : List RIns} {K : Env → Prop} {e : Env} {O : Heap} (n m : Nat) (h1 : intOfA (e.opd l) = some (n : Int)) (h2 : intOfA (e.opd c) = some (m : Int)) (h3 : n ≤ m) (h4 : m ≤ maxLen)
    (h5 : bytes * m ≤ 281474976710656) (hk : drawW P rest K (e.put d (.pend E sz (List.replicate n zero))) O) : drawW P ((d, none, .mkslice E sz bytes zero l c) :: rest) K e O := ⟨_, ⟨n, m, h1, h2, h3, h4, h5, rfl⟩, hk⟩

theorem drawW_cap {P : Program} {d : Option Nat} {x : Operand} {rest : List RIns} {K : Env → Prop} {e : Env} {O : Heap} (s : Nat) (l : List AV) (h : e.opd x = .list s true l) (hk : drawW P rest K (e.put d (.val (.int .i64 l.length))) O) :
    drawW P ((d, none, .cap x) :: rest) K e O := ⟨_, ⟨s, l, h, rfl⟩, hk⟩

theorem pick_and (c y : Bool) : pickA (.val (.bool c)) (jn c (.val (.bool y))) (.val (.bool false)) = some (.val (.bool (c && y))) := by
  cases c <;> rfl
theorem pick_or (c y : Bool) : pickA (.val (.bool c)) (.val (.bool true)) (jn (!c) (.val (.bool y))) = some (.val (.bool (c || y))) := by
  cases c <;> rfl
theorem pick_val (c : Bool) (x y : Value) : pickA (.val (.bool c)) (.val x) (.val y) = some (.val (if c = true then x else y)) := by cases c <;> rfl
theorem pick_bool (c x y : Bool) : pickA (.val (.bool c)) (.val (.bool x)) (.val (.bool y)) = some (.val (.bool (if c = true then x else y))) := by cases c <;> rfl
theorem gW_bool (b want : Bool) (o : Option AV) (F : AV → Prop) : gW (.val (.bool b)) want o F = gK (b == want) o F := rfl
theorem gW_jn (c b want : Bool) (o : Option AV) (F : AV → Prop) : gW (jn c (.val (.bool b))) want o F = gK (c && (b == want)) o F := by
  cases c
  · show F (.val undef) = gK false o F
    unfold gK
    simp [jn]
    exact ⟨fun h => ⟨.junk, h⟩, fun ⟨_, h⟩ => h⟩
  · rfl

theorem retF_one {t : Nat} {K : AV → Heap → Prop} {e : Env} {O : Heap} : retF [.tmp t] K e O = WeakR K (e t) O := by
  simp [retF, resA, resV]
theorem retF_cell {agg : Bool} {sz t : Nat} {K : AV → Heap → Prop} {e : Env} {O : Heap} : retF [.cell agg sz t] K e O = optK (loadA O agg sz (e t)) (WeakR K) O := by
  unfold retF resA resA
  cases loadA O agg sz (e t) <;> simp [optK, resV]

/-- The results one by one. -/
def resK (rcs : List RC) (acc : List AV) (K : AV → Heap → Prop) (e : Env) (O : Heap) : Prop := ∃ l, resA e O rcs = some l ∧ WeakR K (resV (acc ++ l)) O
theorem retF_res (rcs : List RC) (K : AV → Heap → Prop) (e : Env) (O : Heap) : retF rcs K e O = resK rcs [] K e O := rfl
theorem resK_nil (acc : List AV) (K : AV → Heap → Prop) (e : Env) (O : Heap) : resK [] acc K e O = WeakR K (resV acc) O := by simp [resK, resA]
theorem resK_tmp (t : Nat) (rcs : List RC) (acc : List AV) (K : AV → Heap → Prop) (e : Env) (O : Heap) : resK (.tmp t :: rcs) acc K e O = resK rcs (acc ++ [e t]) K e O := by
  unfold resK
  rw [resA]
  cases resA e O rcs <;> simp
theorem resK_cell (agg : Bool) (sz t : Nat) (rcs : List RC) (acc : List AV) (K : AV → Heap → Prop) (e : Env) (O : Heap) : resK (.cell agg sz t :: rcs) acc K e O = optK (loadA O agg sz (e t)) (fun x O => resK rcs (acc ++ [x]) K e O) O := by
  have h : resA e O (.cell agg sz t :: rcs) = match loadA O agg sz (e t), resA e O rcs with
    | some x, some l => some (x :: l)
    | _, _ => none := rfl
  unfold resK
  rw [h]
  cases hp : loadA O agg sz (e t) <;> cases hq : resA e O rcs <;> simp [optK, hq]
theorem resV_one (x : AV) : resV [x] = x := rfl
theorem resV_two (x y : AV) (l : List AV) : resV (x :: y :: l) = .tup (x :: y :: l) := rfl

theorem envOf_apply (l : List AV) (t : Nat) : envOf l t = l.getD t .junk := rfl

theorem load_optr (O : Heap) (agg : Bool) (sz id s i k : Nat) : loadA O agg sz (.optr id s i k) = match O id with
    | some (.arr _ s' elems) => if s = s' ∧ k + sz ≤ s then (match elems[i]? with | some x => partA x k sz agg | none => none) else none
    | _ => none := rfl
theorem load_ref (O : Heap) (agg : Bool) (sz : Nat) (x : AV) : loadA O agg sz (.ref x) = partA x 0 sz agg := rfl
theorem store_optr (O : Heap) (sz : Nat) (v : AV) (id s i k : Nat) : storeA O sz v (.optr id s i k) = match O id with
    | some (.arr E s' elems) => if s = s' ∧ v.stor = true ∧ v.cells.length = sz ∧ k + sz ≤ s then (match elems[i]? with
      | some x => some (O.upd id (.arr E s (elems.set i (if k = 0 ∧ sz = s then v else .agg (spliceA x.cells k v.cells)))))
      | none => none) else none
    | _ => none := rfl

theorem upd_upd (O : Heap) (i : Nat) (o o' : AObj) : (O.upd i o).upd i o' = O.upd i o' := by
  funext j; simp only [Heap.upd_apply]; split <;> rfl

theorem upd_none {O : Heap} {i j : Nat} {o : AObj} : (O.upd i o) j = none ↔ (¬ j = i ∧ ¬ i = j ∧ O j = none) := by
  rw [Heap.upd_apply]
  by_cases h : j = i
  · subst h; simp
  · simp [h, Ne.symm h]
theorem del_upd_new {O : Heap} {i : Nat} {o : AObj} (h : O i = none) : (O.upd i o).del i = O := by
  funext j; simp only [Heap.del_apply, Heap.upd_apply]; split
  · rename_i hj; rw [hj, h]
  · rfl
theorem keepE_nil (e : Env) : keepE [] e = fun _ => .junk := rfl
theorem keepE_cons (d : Nat) (L : List Nat) (e : Env) : keepE (d :: L) e = (keepE L e).upd d (e d) := rfl

/-- A struct of n cells. -/
def Flat (n : Nat) (x : AV) : Prop := ∃ m, x = .agg m ∧ m.length = n
theorem part_flat {n : Nat} {x : AV} (h : Flat n x) : partA x 0 n true = some x := by
  obtain ⟨m, rfl, h⟩ := h
  simp [partA, isAggA, AV.cells, h]
theorem Flat.cells {n : Nat} {x : AV} (h : Flat n x) : x.cells.length = n := by
  obtain ⟨m, rfl, h⟩ := h
  exact h
theorem Flat.stor {n : Nat} {x : AV} (h : Flat n x) : x.stor = true := by
  obtain ⟨m, rfl, h⟩ := h
  rfl

end Go.Ab

/- The abstract walk, twentieth part: the equations by which values are worked out, and bundles of equations. -/
namespace Go.Ab

section
variable (e : Env) (O : Heap)
theorem pi_mv (x : Operand) : pureI (.mv x) e O = some (e.opd x) := rfl
theorem pi_pick (c a b : Operand) : pureI (.pick c a b) e O = pickA (e.opd c) (e.opd a) (e.opd b) := rfl
theorem pi_build (zero : List AV) (parts : List (Nat × Nat × Operand)) : pureI (.build zero parts) e O = (fillA zero (parts.map fun p => (p.1, p.2.1, e.opd p.2.2))).map .agg := rfl
theorem pi_blist (sz : Nat) (xs : List Operand) : pureI (.blist sz xs) e O = if storAll sz (xs.map e.opd) = true then some (.list sz true (xs.map e.opd)) else none := rfl
theorem pi_load (agg : Bool) (sz : Nat) (x : Operand) : pureI (.load agg sz x) e O = loadA O agg sz (e.opd x) := rfl
theorem pi_nilchk (x : Operand) : pureI (.nilchk x) e O = nilchkA (e.opd x) := rfl
theorem pi_bin (op : BinOp) (x y : Operand) : pureI (.bin op x y) e O = binA op (e.opd x) (e.opd y) := rfl
theorem pi_binb (neg : Bool) (x y : Operand) : pureI (.binb neg x y) e O = binbA neg (e.opd x) (e.opd y) := rfl
theorem pi_eqagg (neg : Bool) (ks : List Bool) (x y : Operand) : pureI (.eqagg neg ks x y) e O = eqaggA neg ks (e.opd x) (e.opd y) := rfl
theorem pi_eqnil (k : Nat) (neg : Bool) (x : Operand) : pureI (.eqnil k neg x) e O = (isNilA k (e.opd x)).map fun b => .val (.bool (if neg then !b else b)) := rfl
theorem pi_un (op : UnOp) (x : Operand) : pureI (.un op x) e O = unA op (e.opd x) := rfl
theorem pi_convi (k : IntKind) (x : Operand) : pureI (.convi k x) e O = (intOfA (e.opd x)).map fun n => .val (.int k (k.wrap n)) := rfl
theorem pi_mkfn (fn : Fn) (first cap : List Operand) : pureI (.mkfn fn first cap) e O = some (.clo fn (first.map e.opd) (cap.map e.opd)) := rfl
theorem pi_fieldA (off sz : Nat) (agg : Bool) (x : Operand) : pureI (.fieldA off sz agg x) e O = fieldAddrA off sz agg (e.opd x) := rfl
theorem pi_field (off sz : Nat) (agg : Bool) (x : Operand) : pureI (.field off sz agg x) e O = fieldV off sz agg (e.opd x) := rfl
theorem pi_indexA (esz : Nat) (x i : Operand) : pureI (.indexA esz x i) e O = (intOfA (e.opd i)).bind fun n => indexAddrA esz n (e.opd x) := rfl
theorem pi_indexP (len esz : Nat) (eagg : Bool) (x i : Operand) : pureI (.indexP len esz eagg x i) e O = (intOfA (e.opd i)).bind fun n => indexPtrA len esz eagg n (e.opd x) := rfl
theorem pi_slice (esz : Nat) (x : Operand) (lo hi mx : Option Operand) : pureI (.slice esz x lo hi mx) e O = sliceA esz (e.opd x) (lo.map e.opd) (hi.map e.opd) (mx.map e.opd) := rfl
theorem pi_extract (x : Operand) (i : Nat) : pureI (.extract x i) e O = extractA i (e.opd x) := rfl
theorem pi_len (x : Operand) : pureI (.len x) e O = lenA (e.opd x) := rfl
theorem pi_lenm (x : Operand) : pureI (.lenm x) e O = lenM O (e.opd x) := rfl
theorem pi_maxmin (m : Bool) (x y : Operand) : pureI (.maxmin m x y) e O = maxminA m (e.opd x) (e.opd y) := rfl
end

section
variable (k : IntKind) (a b : Int)
theorem bin_add : binA .add (.val (.int k a)) (.val (.int k b)) = some (.val (.int k (k.wrap (a + b)))) := by simp [binA, intA]
theorem bin_sub : binA .sub (.val (.int k a)) (.val (.int k b)) = some (.val (.int k (k.wrap (a - b)))) := by simp [binA, intA]
theorem bin_mul : binA .mul (.val (.int k a)) (.val (.int k b)) = some (.val (.int k (k.wrap (a * b)))) := by simp [binA, intA]
theorem bin_quo : binA .quo (.val (.int k a)) (.val (.int k b)) = if b = 0 then none else some (.val (.int k (k.wrap (a.tdiv b)))) := by simp [binA, intA]
theorem bin_rem : binA .rem (.val (.int k a)) (.val (.int k b)) = if b = 0 then none else some (.val (.int k (a.tmod b))) := by simp [binA, intA]
theorem bin_eql : binA .eql (.val (.int k a)) (.val (.int k b)) = some (.val (.bool (decide (a = b)))) := by simp [binA, intA, Int.instDecidableEq]; rfl
theorem bin_neq : binA .neq (.val (.int k a)) (.val (.int k b)) = some (.val (.bool (!decide (a = b)))) := by simp [binA, intA]; rfl
theorem bin_lss : binA .lss (.val (.int k a)) (.val (.int k b)) = some (.val (.bool (decide (a < b)))) := by simp [binA, intA]
theorem bin_leq : binA .leq (.val (.int k a)) (.val (.int k b)) = some (.val (.bool (decide (a ≤ b)))) := by simp [binA, intA]
theorem bin_gtr : binA .gtr (.val (.int k a)) (.val (.int k b)) = some (.val (.bool (decide (b < a)))) := by simp [binA, intA]
theorem bin_geq : binA .geq (.val (.int k a)) (.val (.int k b)) = some (.val (.bool (decide (b ≤ a)))) := by simp [binA, intA]
theorem bin_and : binA .and (.val (.int k a)) (.val (.int k b)) = some (.val (.int k (k.wrap ((BitVec.ofInt k.bits a &&& BitVec.ofInt k.bits b).toNat)))) := by simp [binA, intA, bitsA]
theorem bin_shl (k' : IntKind) : binA .shl (.val (.int k a)) (.val (.int k' b)) = if b < 0 then none else some (.val (.int k (k.wrap (a * 2 ^ (min b.toNat k.bits))))) := by simp [binA, shiftA]
theorem bin_shr (k' : IntKind) : binA .shr (.val (.int k a)) (.val (.int k' b)) = if b < 0 then none else some (.val (.int k (a.fdiv (2 ^ (min b.toNat k.bits))))) := by simp [binA, shiftA]
theorem un_neg : unA .neg (.val (.int k a)) = some (.val (.int k (k.wrap (0 - a)))) := rfl
theorem intOf_int : intOfA (.val (.int k a)) = some a := rfl
end
theorem un_not (b : Bool) : unA .not (.val (.bool b)) = some (.val (.bool (!b))) := rfl
theorem binb_eql (a b : Bool) : binbA false (.val (.bool a)) (.val (.bool b)) = some (.val (.bool (a == b))) := rfl
theorem binb_neq (a b : Bool) : binbA true (.val (.bool a)) (.val (.bool b)) = some (.val (.bool (!(a == b)))) := rfl

theorem part_cell (x : AV) (off : Nat) : partA x off 1 false = x.cells[off]? := by simp [partA, subA]
theorem part_agg (l : List AV) (off n : Nat) : partA (.agg l) off n true = if off + n ≤ l.length then some (.agg ((l.drop off).take n)) else none := by
  unfold partA subA
  simp only [isAggA, AV.cells, and_true, if_true]
  split
  · rename_i h
    obtain ⟨rfl, h⟩ := h
    have h : l.length = n := by simpa using h
    subst h
    simp
  · rfl
theorem cells_agg (l : List AV) : AV.cells (.agg l) = l := rfl
theorem cells_val (v : Value) : AV.cells (.val v) = [.val v] := rfl
theorem cells_list (s : Nat) (t : Bool) (l : List AV) : AV.cells (.list s t l) = [.list s t l] := rfl
theorem cells_own (id s i n : Nat) (c : Option Nat) : AV.cells (.own id s i n c) = [.own id s i n c] := rfl
theorem cells_optr (id s i k : Nat) : AV.cells (.optr id s i k) = [.optr id s i k] := rfl
theorem cells_clo (f : Fn) (l m : List AV) : AV.cells (.clo f l m) = [.clo f l m] := rfl
theorem cells_ref (x : AV) : AV.cells (.ref x) = [.ref x] := rfl
theorem stor_agg (l : List AV) : AV.stor (.agg l) = true := rfl
theorem stor_int (k : IntKind) (n : Int) : AV.stor (.val (.int k n)) = true := rfl
theorem stor_bool (b : Bool) : AV.stor (.val (.bool b)) = true := rfl
theorem stor_nil : AV.stor (.val (.slice none 0 0)) = true := rfl
theorem stor_list (s : Nat) (t : Bool) (l : List AV) : AV.stor (.list s t l) = true := rfl
theorem stor_own (id s i n : Nat) (c : Option Nat) : AV.stor (.own id s i n c) = true := rfl
theorem stor_optr (id s i k : Nat) : AV.stor (.optr id s i k) = true := rfl
theorem stor_clo (f : Fn) (l m : List AV) : AV.stor (.clo f l m) = true := rfl
theorem stor_ref (x : AV) : AV.stor (.ref x) = true := rfl

theorem storAll_nil (s : Nat) : storAll s [] = true := rfl
theorem storAll_cons (s : Nat) (x : AV) (l : List AV) : storAll s (x :: l) = (decide (x.cells.length = s) && x.stor && storAll s l) := rfl

theorem fa_optr (off sz : Nat) (agg : Bool) (id s i k : Nat) : fieldAddrA off sz agg (.optr id s i k) = some (.optr id s i (k + off)) := rfl
theorem fa_ref (off sz : Nat) (agg : Bool) (x : AV) : fieldAddrA off sz agg (.ref x) = (partA x off sz agg).map .ref := rfl
theorem fv_agg (off sz : Nat) (agg : Bool) (l : List AV) : fieldV off sz agg (.agg l) = partA (.agg l) off sz agg := rfl
theorem ia_list (s : Nat) (i : Int) (t : Bool) (l : List AV) : indexAddrA s i (.list s t l) = if 0 ≤ i ∧ i < l.length then (l[i.toNat]?).map .ref else none := by simp [indexAddrA]
theorem ia_own (s : Nat) (i : Int) (id j n : Nat) (c : Option Nat) : indexAddrA s i (.own id s j n c) = if 0 ≤ i ∧ i < n then some (.optr id s (j + i.toNat) 0) else none := by simp [indexAddrA]
theorem len_list (s : Nat) (t : Bool) (l : List AV) : lenA (.list s t l) = some (.val (.int .i64 l.length)) := rfl
theorem len_own (id s i n : Nat) (c : Option Nat) : lenA (.own id s i n c) = some (.val (.int .i64 n)) := rfl
theorem len_nil : lenA (.val (.slice none 0 0)) = some (.val (.int .i64 0)) := rfl
theorem ex_tup (l : List AV) (i : Nat) : extractA i (.tup l) = l[i]? := rfl
theorem cap_tight (s : Nat) (l : List AV) (O : Heap) (K : AV → Heap → Prop) : CapSem (.list s true l) O K = K (.val (.int .i64 l.length)) O := rfl
theorem cap_own (id s i n k : Nat) (O : Heap) (K : AV → Heap → Prop) : CapSem (.own id s i n (some k)) O K = K (.val (.int .i64 k)) O := rfl
theorem cap_nil (O : Heap) (K : AV → Heap → Prop) : CapSem (.val (.slice none 0 0)) O K = K (.val (.int .i64 0)) O := rfl
theorem nc_optr (id s i k : Nat) : nilchkA (.optr id s i k) = some (.optr id s i k) := rfl
theorem nc_ref (x : AV) : nilchkA (.ref x) = some (.ref x) := rfl
theorem nc_clo (f : FuncId) (a b : List AV) : nilchkA (.clo (.func f) a b) = some (.clo (.func f) a b) := rfl
theorem nil_nil (a b : Nat) : isNilA 0 (.val (.slice none a b)) = some true := rfl
theorem nil_list (s : Nat) (t : Bool) (l : List AV) : isNilA 0 (.list s t l) = some false := rfl
theorem nil_own (id s i n : Nat) (c : Option Nat) : isNilA 0 (.own id s i n c) = some false := rfl
theorem nil_clo (f : Fn) (l m : List AV) : isNilA 1 (.clo f l m) = some false := rfl
theorem eq_agg (neg : Bool) (ks : List Bool) (l m : List AV) : eqaggA neg ks (.agg l) (.agg m) = (leavesEq ks l m).map fun b => .val (.bool (if neg then !b else b)) := rfl
theorem le_nil : leavesEq [] [] [] = some true := rfl
theorem le_int (ks : List Bool) (xs ys : List AV) (k : IntKind) (a b : Int) : leavesEq (true :: ks) (.val (.int k a) :: xs) (.val (.int k b) :: ys) = (leavesEq ks xs ys).map fun c => decide (a = b) && c := by
  rw [leavesEq]
  simp only [leafEq, intEqA, if_true]
  cases leavesEq ks xs ys <;> simp
  rfl
theorem le_bool (ks : List Bool) (xs ys : List AV) (a b : Bool) : leavesEq (false :: ks) (.val (.bool a) :: xs) (.val (.bool b) :: ys) = (leavesEq ks xs ys).map fun c => (a == b) && c := by
  rw [leavesEq]
  simp only [leafEq, boolEqA]
  cases leavesEq ks xs ys <;> simp

theorem fill_nil (l : List AV) : fillA l [] = some l := rfl
theorem fill_cons (l : List AV) (off n : Nat) (x : AV) (rest : List (Nat × Nat × AV)) : fillA l ((off, n, x) :: rest) = if x.cells.length = n ∧ x.stor = true ∧ off + n ≤ l.length then fillA (spliceA l off x.cells) rest else none := rfl
theorem chk_nil (e : Env) (O : Heap) : chk [] e O = True := rfl
theorem chk_cons (d : Nat) (gd : Option (Nat × Bool)) (ci : CI) (S : List RIns) (e : Env) (O : Heap) : chk ((some d, gd, ci) :: S) e O = (pureI ci e O = some (e d) ∧ chk S e O) := rfl
theorem pick_t (x y : AV) : pickA (.val (.bool true)) x y = some x := rfl
theorem pick_f (x y : AV) : pickA (.val (.bool false)) x y = some y := rfl
theorem splice_eq (l : List AV) (k : Nat) (m : List AV) : spliceA l k m = l.take k ++ m ++ l.drop (k + m.length) := rfl

/-- How a walk goes on. -/
theorem fwc : type_of% @ci_mv ∧ type_of% @ci_pick ∧ type_of% @ci_alloc ∧ type_of% @ci_box ∧ type_of% @ci_build ∧ type_of% @ci_blist ∧ type_of% @ci_bown ∧ type_of% @ci_load ∧ type_of% @ci_store ∧ type_of% @ci_nilchk ∧ type_of% @ci_bin ∧ type_of% @ci_binb ∧ type_of% @ci_eqagg ∧ type_of% @ci_eqnil ∧ type_of% @ci_un ∧ type_of% @ci_convi ∧ type_of% @ci_mkfn ∧ type_of% @ci_fieldA ∧ type_of% @ci_field ∧ type_of% @ci_indexA ∧ type_of% @ci_indexP ∧ type_of% @ci_slice ∧ type_of% @ci_extract ∧ type_of% @ci_len ∧ type_of% @ci_lenm ∧ type_of% @ci_maxmin ∧ type_of% @ci_call ∧ type_of% @ci_callv ∧ type_of% @callv_clo ∧ type_of% @ci_cap ∧ type_of% @ci_append ∧ type_of% @ci_mkslice ∧ type_of% @opd_tmp ∧ type_of% @opd_const ∧ type_of% @opd_func ∧ type_of% @put_some ∧ type_of% @put_none ∧ type_of% @cmd_skip ∧ type_of% @cmd_reg ∧ type_of% @cmd_dreg ∧ type_of% @cmd_sreg ∧ type_of% @kill_nil ∧ type_of% @kill_cons ∧ type_of% @cmd_cond ∧ type_of% @cmd_block ∧ type_of% @cmd_exit ∧ type_of% @cmd_ret ∧ type_of% @seqK_exit ∧ type_of% @seqK_ret ∧ type_of% @blockK_normal ∧ type_of% @blockK_ret ∧ type_of% @blockK_exit ∧ type_of% @loopK_exit ∧ type_of% @loopK_ret ∧ type_of% @cond_tt ∧ type_of% @cond_ff ∧ type_of% @opsW_nil ∧ type_of% @opsW_cons ∧ type_of% @opK_apply ∧ type_of% @opF_apply ∧ type_of% @drF_apply ∧ type_of% @drawW_nil ∧ type_of% @gcF_tt ∧ type_of% @gcF_ff ∧ type_of% @gcF_tf ∧ type_of% @gcF_ft ∧ type_of% @gcA_tt ∧ type_of% @gcA_ff ∧ type_of% @gcA_tf ∧ type_of% @gcA_ft ∧ type_of% @drawW_call ∧ type_of% @drawW_gcall ∧ type_of% @opsW_gcall ∧ type_of% @drawW_alloc ∧ type_of% @optK_some ∧ type_of% @optH_some ∧ type_of% @optP_some ∧ type_of% @opsS_nil ∧ type_of% @opsS_cons ∧ type_of% @opSK_apply ∧ type_of% @retF_res ∧ type_of% @resK_nil ∧ type_of% @resK_tmp ∧ type_of% @resK_cell ∧ type_of% @resV_one ∧ type_of% @resV_two :=
  ⟨@ci_mv, @ci_pick, @ci_alloc, @ci_box, @ci_build, @ci_blist, @ci_bown, @ci_load, @ci_store, @ci_nilchk, @ci_bin, @ci_binb, @ci_eqagg, @ci_eqnil, @ci_un, @ci_convi, @ci_mkfn, @ci_fieldA, @ci_field, @ci_indexA, @ci_indexP, @ci_slice, @ci_extract, @ci_len, @ci_lenm, @ci_maxmin, @ci_call, @ci_callv, @callv_clo, @ci_cap, @ci_append, @ci_mkslice, @opd_tmp, @opd_const, @opd_func, @put_some, @put_none, @cmd_skip, @cmd_reg, @cmd_dreg, @cmd_sreg, @kill_nil, @kill_cons, @cmd_cond, @cmd_block, @cmd_exit, @cmd_ret, @seqK_exit, @seqK_ret, @blockK_normal, @blockK_ret, @blockK_exit, @loopK_exit, @loopK_ret, @cond_tt, @cond_ff, @opsW_nil, @opsW_cons, @opK_apply, @opF_apply, @drF_apply, @drawW_nil, @gcF_tt, @gcF_ff, @gcF_tf, @gcF_ft, @gcA_tt, @gcA_ff, @gcA_tf, @gcA_ft, @drawW_call, @drawW_gcall, @opsW_gcall, @drawW_alloc, @optK_some, @optH_some, @optP_some, @opsS_nil, @opsS_cons, @opSK_apply, @retF_res, @resK_nil, @resK_tmp, @resK_cell, @resV_one, @resV_two⟩

theorem pu_mv {x0} : pureCI (.mv x0) = true := rfl
theorem pu_pick {x0 x1 x2} : pureCI (.pick x0 x1 x2) = true := rfl
theorem pu_build {x0 x1} : pureCI (.build x0 x1) = true := rfl
theorem pu_blist {x0 x1} : pureCI (.blist x0 x1) = true := rfl
theorem pu_load {x0 x1 x2} : pureCI (.load x0 x1 x2) = true := rfl
theorem pu_nilchk {x0} : pureCI (.nilchk x0) = true := rfl
theorem pu_bin {x0 x1 x2} : pureCI (.bin x0 x1 x2) = true := rfl
theorem pu_binb {x0 x1 x2} : pureCI (.binb x0 x1 x2) = true := rfl
theorem pu_eqagg {x0 x1 x2 x3} : pureCI (.eqagg x0 x1 x2 x3) = true := rfl
theorem pu_eqnil {x0 x1 x2} : pureCI (.eqnil x0 x1 x2) = true := rfl
theorem pu_un {x0 x1} : pureCI (.un x0 x1) = true := rfl
theorem pu_convi {x0 x1} : pureCI (.convi x0 x1) = true := rfl
theorem pu_mkfn {x0 x1 x2} : pureCI (.mkfn x0 x1 x2) = true := rfl
theorem pu_fieldA {x0 x1 x2 x3} : pureCI (.fieldA x0 x1 x2 x3) = true := rfl
theorem pu_field {x0 x1 x2 x3} : pureCI (.field x0 x1 x2 x3) = true := rfl
theorem pu_indexA {x0 x1 x2} : pureCI (.indexA x0 x1 x2) = true := rfl
theorem pu_indexP {x0 x1 x2 x3 x4} : pureCI (.indexP x0 x1 x2 x3 x4) = true := rfl
theorem pu_slice {x0 x1 x2 x3 x4} : pureCI (.slice x0 x1 x2 x3 x4) = true := rfl
theorem pu_extract {x0 x1} : pureCI (.extract x0 x1) = true := rfl
theorem pu_len {x0} : pureCI (.len x0) = true := rfl
theorem pu_lenm {x0} : pureCI (.lenm x0) = true := rfl
theorem pu_maxmin {x0 x1 x2} : pureCI (.maxmin x0 x1 x2) = true := rfl

/-- How values are worked out. -/
theorem fwe : type_of% @gW_bool ∧ type_of% @gW_jn ∧ type_of% @pu_mv ∧ type_of% @pu_pick ∧ type_of% @pu_build ∧ type_of% @pu_blist ∧ type_of% @pu_load ∧ type_of% @pu_nilchk ∧ type_of% @pu_bin ∧ type_of% @pu_binb ∧ type_of% @pu_eqagg ∧ type_of% @pu_eqnil ∧ type_of% @pu_un ∧ type_of% @pu_convi ∧ type_of% @pu_mkfn ∧ type_of% @pu_fieldA ∧ type_of% @pu_field ∧ type_of% @pu_indexA ∧ type_of% @pu_indexP ∧ type_of% @pu_slice ∧ type_of% @pu_extract ∧ type_of% @pu_len ∧ type_of% @pu_lenm ∧ type_of% @pu_maxmin ∧ type_of% @gK_false ∧ type_of% @gK_some ∧ type_of% @b_eq_t ∧ type_of% @b_eq_f ∧ type_of% @pi_mv ∧ type_of% @pi_pick ∧ type_of% @pi_build ∧ type_of% @pi_blist ∧ type_of% @pi_load ∧ type_of% @pi_nilchk ∧ type_of% @pi_bin ∧ type_of% @pi_binb ∧ type_of% @pi_eqagg ∧ type_of% @pi_eqnil ∧ type_of% @pi_un ∧ type_of% @pi_convi ∧ type_of% @pi_mkfn ∧ type_of% @pi_fieldA ∧ type_of% @pi_field ∧ type_of% @pi_indexA ∧ type_of% @pi_indexP ∧ type_of% @pi_slice ∧ type_of% @pi_extract ∧ type_of% @pi_len ∧ type_of% @pi_lenm ∧ type_of% @pi_maxmin ∧ type_of% @bin_add ∧ type_of% @bin_sub ∧ type_of% @bin_mul ∧ type_of% @bin_quo ∧ type_of% @bin_rem ∧ type_of% @bin_eql ∧ type_of% @bin_neq ∧ type_of% @bin_lss ∧ type_of% @bin_leq ∧ type_of% @bin_gtr ∧ type_of% @bin_geq ∧ type_of% @bin_and ∧ type_of% @bin_shl ∧ type_of% @bin_shr ∧ type_of% @un_neg ∧ type_of% @intOf_int ∧ type_of% @un_not ∧ type_of% @binb_eql ∧ type_of% @binb_neq ∧ type_of% @part_cell ∧ type_of% @part_agg ∧ type_of% @cells_agg ∧ type_of% @cells_val ∧ type_of% @cells_list ∧ type_of% @cells_own ∧ type_of% @cells_optr ∧ type_of% @cells_clo ∧ type_of% @cells_ref ∧ type_of% @stor_agg ∧ type_of% @stor_int ∧ type_of% @stor_bool ∧ type_of% @stor_nil ∧ type_of% @stor_list ∧ type_of% @stor_own ∧ type_of% @stor_optr ∧ type_of% @stor_clo ∧ type_of% @stor_ref ∧ type_of% @storAll_nil ∧ type_of% @storAll_cons ∧ type_of% @fa_optr ∧ type_of% @fa_ref ∧ type_of% @fv_agg ∧ type_of% @len_list ∧ type_of% @len_own ∧ type_of% @len_nil ∧ type_of% @ex_tup ∧ type_of% @cap_tight ∧ type_of% @cap_own ∧ type_of% @cap_nil ∧ type_of% @nc_optr ∧ type_of% @nc_ref ∧ type_of% @nc_clo ∧ type_of% @nil_nil ∧ type_of% @nil_list ∧ type_of% @nil_own ∧ type_of% @nil_clo ∧ type_of% @eq_agg ∧ type_of% @le_nil ∧ type_of% @le_int ∧ type_of% @le_bool ∧ type_of% @fill_nil ∧ type_of% @fill_cons ∧ type_of% @splice_eq ∧ type_of% @load_optr ∧ type_of% @load_ref ∧ type_of% @store_optr ∧ type_of% @chk_nil ∧ type_of% @chk_cons ∧ type_of% @pick_t ∧ type_of% @pick_f ∧ type_of% @pick_and ∧ type_of% @pick_or ∧ type_of% @pick_bool ∧ type_of% @jn_true ∧ type_of% @jn_false ∧ type_of% @keepE_nil ∧ type_of% @keepE_cons ∧ type_of% @envOf_apply ∧ type_of% @upd_upd :=
  ⟨@gW_bool, @gW_jn, @pu_mv, @pu_pick, @pu_build, @pu_blist, @pu_load, @pu_nilchk, @pu_bin, @pu_binb, @pu_eqagg, @pu_eqnil, @pu_un, @pu_convi, @pu_mkfn, @pu_fieldA, @pu_field, @pu_indexA, @pu_indexP, @pu_slice, @pu_extract, @pu_len, @pu_lenm, @pu_maxmin, @gK_false, @gK_some, @b_eq_t, @b_eq_f, @pi_mv, @pi_pick, @pi_build, @pi_blist, @pi_load, @pi_nilchk, @pi_bin, @pi_binb, @pi_eqagg, @pi_eqnil, @pi_un, @pi_convi, @pi_mkfn, @pi_fieldA, @pi_field, @pi_indexA, @pi_indexP, @pi_slice, @pi_extract, @pi_len, @pi_lenm, @pi_maxmin, @bin_add, @bin_sub, @bin_mul, @bin_quo, @bin_rem, @bin_eql, @bin_neq, @bin_lss, @bin_leq, @bin_gtr, @bin_geq, @bin_and, @bin_shl, @bin_shr, @un_neg, @intOf_int, @un_not, @binb_eql, @binb_neq, @part_cell, @part_agg, @cells_agg, @cells_val, @cells_list, @cells_own, @cells_optr, @cells_clo, @cells_ref, @stor_agg, @stor_int, @stor_bool, @stor_nil, @stor_list, @stor_own, @stor_optr, @stor_clo, @stor_ref, @storAll_nil, @storAll_cons, @fa_optr, @fa_ref, @fv_agg, @len_list, @len_own, @len_nil, @ex_tup, @cap_tight, @cap_own, @cap_nil, @nc_optr, @nc_ref, @nc_clo, @nil_nil, @nil_list, @nil_own, @nil_clo, @eq_agg, @le_nil, @le_int, @le_bool, @fill_nil, @fill_cons, @splice_eq, @load_optr, @load_ref, @store_optr, @chk_nil, @chk_cons, @pick_t, @pick_f, @pick_and, @pick_or, @pick_bool, @jn_true, @jn_false, @keepE_nil, @keepE_cons, @envOf_apply, @upd_upd⟩

end Go.Ab

/- The abstract walk, twenty-first part: helps. -/
namespace Go.Ab

theorem Heap.sub_refl (O : Heap) : O.sub O := fun _ _ h => h
theorem sub_upd {O O' : Heap} {i : Nat} {o : AObj} (h : O i = none) (hs : O.sub O') : O.sub (O'.upd i o) := fun j x hj => by
  rw [Heap.upd_apply, if_neg (fun e => by subst e; rw [h] at hj; cases hj)]
  exact hs j x hj
theorem sub_del {O O' : Heap} {i : Nat} (h : O i = none) (hs : O.sub O') : O.sub (O'.del i) := fun j x hj => by
  rw [Heap.del_ne _ (fun e => by subst e; rw [h] at hj; cases hj)]
  exact hs j x hj

theorem WeakR.pure {R r : AV} {O O' : Heap} (hs : O.sub O') (h : r = R) : WeakR (fun r' O' => r' = R ∧ O' = O) r O' := WeakR.drop O hs (WeakR.now ⟨h, rfl⟩)
/-- With an array that nothing writes to any more. -/
theorem WeakR.pureF {R r r' : AV} {O O' : Heap} (id sz : Nat) (E : TypeId) (elems : List AV) (ho : O' id = some (.arr E sz elems)) (hz : Fz id sz elems r r') (hs : O.sub (O'.del id)) (h : r' = R) : WeakR (fun r' O' => r' = R ∧ O' = O) r O' :=
  WeakR.freeze ho hz (WeakR.pure hs h)

theorem ite_none {i j : Nat} {o : AObj} {y : Option AObj} : ((if i = j then some o else y) = none) = (¬ i = j ∧ ¬ j = i ∧ y = none) := by
  by_cases h : i = j
  · subst h; simp
  · simp [h, Ne.symm h]
theorem bound_none (d : Nat) : boundA d none = some d := rfl
theorem bound_int (d : Nat) (k : IntKind) (n : Int) : boundA d (some (.val (.int k n))) = if 0 ≤ n then some n.toNat else none := rfl

theorem slice_list {s : Nat} {t : Bool} {l : List AV} {lo hi : Option AV} {a b : Nat} (ha : boundA 0 lo = some a) (hb : boundA l.length hi = some b) (h1 : a ≤ b) (h2 : b ≤ l.length) :
    sliceA s (.list s t l) lo hi none = some (.list s (t && (b == l.length)) ((l.drop a).take (b - a))) := by
  simp [sliceA, ha, hb, h1, h2]
theorem slice_list_mx {s : Nat} {t : Bool} {l : List AV} {lo hi : Option AV} {m : AV} {a b c : Nat} (ha : boundA 0 lo = some a) (hb : boundA l.length hi = some b) (hc : boundA 0 (some m) = some c) (h1 : a ≤ b) (h2 : b ≤ c) (h3 : c ≤ l.length) :
    sliceA s (.list s t l) lo hi (some m) = some (.list s (c == b) ((l.drop a).take (b - a))) := by
  have : b ≤ l.length := by omega
  simp [sliceA, ha, hb, hc, h1, h2, h3, this]
theorem slice_own {s id i n : Nat} {c : Option Nat} {lo hi : Option AV} {a b : Nat} (ha : boundA 0 lo = some a) (hb : boundA n hi = some b) (h1 : a ≤ b) (h2 : leCap n c b = true) :
    sliceA s (.own id s i n c) lo hi none = some (.own id s (i + a) (b - a) (c.map (· - a))) := by
  simp [sliceA, ha, hb, h1, h2]
theorem slice_own_mx {s id i n : Nat} {c : Option Nat} {lo hi : Option AV} {m : AV} {a b d : Nat} (ha : boundA 0 lo = some a) (hb : boundA n hi = some b) (hd : boundA 0 (some m) = some d) (h1 : a ≤ b) (h2 : leCap n c b = true) (h3 : b ≤ d) (h4 : leCap n c d = true) :
    sliceA s (.own id s i n c) lo hi (some m) = some (.own id s (i + a) (b - a) (some (d - a))) := by
  simp [sliceA, ha, hb, hd, h1, h2, h3, h4]

theorem wrap_and_one (a : Int) : IntKind.i64.wrap ((BitVec.ofInt 64 a &&& BitVec.ofInt 64 1).toNat) = a % 2 := by
  have h1 : BitVec.ofInt 64 1 = 1#64 := rfl
  have h2 : (BitVec.ofInt 64 a &&& 1#64).toNat = (BitVec.ofInt 64 a).toNat % 2 := by
    rw [BitVec.toNat_and]
    exact Nat.and_one_is_mod _
  rw [h1, h2, BitVec.toNat_ofInt]
  have h3 : ((((a % (2 : Int) ^ 64).toNat % 2 : Nat)) : Int) = a % 2 := by
    omega
  have h4 : (((2 ^ 64 : Nat) : Int)) = (2 : Int) ^ 64 := rfl
  rw [h4, h3]
  simp [IntKind.wrap, IntKind.bits, IntKind.signed]
  omega

/-- An int of the machine's. -/
theorem wrap_i64 {n : Int} (h1 : -9223372036854775808 ≤ n) (h2 : n ≤ 9223372036854775807) : IntKind.i64.wrap n = n := by
  simp [IntKind.wrap, IntKind.bits, IntKind.signed]
  omega
theorem wrap_u8 {n : Int} (h1 : 0 ≤ n) (h2 : n ≤ 255) : IntKind.u8.wrap n = n := by
  simp [IntKind.wrap, IntKind.bits, IntKind.signed]
  omega

theorem ia_nat {s : Nat} {t : Bool} {l : List AV} {i : Nat} (h : i < l.length) : indexAddrA s (i : Int) (.list s t l) = some (.ref l[i]) := by
  simp [indexAddrA, h]
theorem ia_onat {s id j n : Nat} {c : Option Nat} {i : Nat} (h : i < n) : indexAddrA s (i : Int) (.own id s j n c) = some (.optr id s (j + i) 0) := by
  simp [indexAddrA, h]
theorem wrap_succ {i : Nat} (h : i < 4611686018427387904) : IntKind.i64.wrap ((i : Int) + 1) = ((i + 1 : Nat) : Int) := by
  rw [wrap_i64 (by omega) (by omega)]; rfl
theorem wrap_nat {i : Nat} (h : i < 4611686018427387904) : IntKind.i64.wrap (i : Int) = (i : Int) := wrap_i64 (by omega) (by omega)
theorem ilt_nat (i n : Nat) : decide ((i : Int) < (n : Int)) = decide (i < n) := by
  simp
theorem ieq_nat (i n : Nat) : decide ((i : Int) = (n : Int)) = decide (i = n) := decide_eq_decide.2 (by omega)

theorem fits_of {n b : Nat} (h1 : n ≤ 16777216) (h2 : b ≤ 4096) : fits n b := by
  unfold fits maxLen
  constructor
  · omega
  · have := Nat.mul_le_mul h1 h2
    omega

theorem app_list {E : TypeId} {sz bytes : Nat} {L X : List AV} {x : AV} {O : Heap} {K : AV → Heap → Prop} (hX : elemsA O sz x = some X) (hf : fits (L.length + X.length) bytes) (hk : K (.list sz false (L ++ X)) O) :
    AppendSem false E sz bytes (.list sz true L) x O K := ⟨X, hX, rfl, hf, hk⟩
theorem app_nil_own {E : TypeId} {sz bytes : Nat} {X : List AV} {x : AV} {O : Heap} {K : AV → Heap → Prop} (hX : elemsA O sz x = some X) (hf : fits X.length bytes) (hne : X ≠ []) (hk : ∀ id, O id = none → K (.own id sz 0 X.length none) (O.upd id (.arr E sz X))) :
    AppendSem true E sz bytes (.val (.slice none 0 0)) x O K := ⟨X, hX, hf, fun h => absurd h hne, fun _ => hk⟩
theorem app_list_own {E : TypeId} {sz bytes : Nat} {L X : List AV} {x : AV} {O : Heap} {K : AV → Heap → Prop} (hX : elemsA O sz x = some X) (hf : fits (L.length + X.length) bytes) (h0 : X = [] → K (.list sz true L) O)
    (hk : X ≠ [] → ∀ id, O id = none → K (.own id sz 0 (L.length + X.length) none) (O.upd id (.arr E sz (L ++ X)))) : AppendSem true E sz bytes (.list sz true L) x O K := ⟨X, hX, rfl, hf, h0, hk⟩
/-- Appended to an array of one's own, which moves. -/
theorem app_move {ow : Bool} {E : TypeId} {sz bytes id n : Nat} {c : Option Nat} {elems X : List AV} {x : AV} {O : Heap} {K : AV → Heap → Prop} (hX : elemsA O sz x = some X) (ho : O id = some (.arr E sz elems)) (hn : n ≤ elems.length) (hf : fits (n + X.length) bytes)
    (hk : ∀ id', O id' = none → K (.own id' sz 0 (n + X.length) none) ((O.del id).upd id' (.arr E sz (elems.take n ++ X)))) : AppendSem ow E sz bytes (.own id sz 0 n c) x O K := ⟨X, hX, elems, ho, rfl, hn, hf, .inl hk⟩
/-- Appended to an array of one's own that has room. -/
theorem app_in {ow : Bool} {E : TypeId} {sz bytes id n k : Nat} {elems X : List AV} {x : AV} {O : Heap} {K : AV → Heap → Prop} (hX : elemsA O sz x = some X) (ho : O id = some (.arr E sz elems)) (hn : n ≤ elems.length) (hf : fits (n + X.length) bytes) (hr : n + X.length ≤ k)
    (hk : K (.own id sz 0 (n + X.length) (some k)) (O.upd id (.arr E sz (elems.take n ++ X ++ elems.drop (n + X.length))))) : AppendSem ow E sz bytes (.own id sz 0 n (some k)) x O K := ⟨X, hX, elems, ho, rfl, hn, hf, .inr ⟨k, rfl, hr, hk⟩⟩

theorem el_list (O : Heap) (sz : Nat) (t : Bool) (l : List AV) : elemsA O sz (.list sz t l) = some l := by simp [elemsA]
theorem el_nil (O : Heap) (sz : Nat) : elemsA O sz (.val (.slice none 0 0)) = some [] := rfl

/-- A slice that may be nil. -/
def IsL (sz : Nat) (s : AV) (L : List AV) : Prop := (s = .val (.slice none 0 0) ∧ L = []) ∨ ∃ t, s = .list sz t L
theorem IsL.len {sz : Nat} {s : AV} {L : List AV} (h : IsL sz s L) : lenA s = some (.val (.int .i64 L.length)) := by
  rcases h with ⟨rfl, rfl⟩ | ⟨t, rfl⟩ <;> rfl
theorem IsL.el {sz : Nat} {s : AV} {L : List AV} (h : IsL sz s L) (O : Heap) : elemsA O sz s = some L := by
  rcases h with ⟨rfl, rfl⟩ | ⟨t, rfl⟩
  · rfl
  · exact el_list _ _ _ _
theorem IsL.cells {sz : Nat} {s : AV} {L : List AV} (h : IsL sz s L) : s.cells = [s] := by
  rcases h with ⟨rfl, rfl⟩ | ⟨t, rfl⟩ <;> rfl
theorem IsL.stor {sz : Nat} {s : AV} {L : List AV} (h : IsL sz s L) : s.stor = true := by
  rcases h with ⟨rfl, rfl⟩ | ⟨t, rfl⟩ <;> rfl
theorem IsL.ia {sz : Nat} {s : AV} {L : List AV} (h : IsL sz s L) {i : Nat} (hi : i < L.length) : indexAddrA sz (i : Int) s = some (.ref L[i]) := by
  rcases h with ⟨rfl, rfl⟩ | ⟨t, rfl⟩
  · simp at hi
  · exact ia_nat hi
theorem IsL.list {sz : Nat} {t : Bool} {L : List AV} : IsL sz (.list sz t L) L := .inr ⟨t, rfl⟩
theorem IsL.nil {sz : Nat} : IsL sz (.val (.slice none 0 0)) [] := .inl ⟨rfl, rfl⟩
theorem IsL.sl {sz : Nat} {s : AV} {L : List AV} (h : IsL sz s L) {lo hi : Option AV} {a b : Nat} (ha : boundA 0 lo = some a) (hb : boundA L.length hi = some b) (h1 : a ≤ b) (h2 : b ≤ L.length) : ∃ s', sliceA sz s lo hi none = some s' ∧ IsL sz s' ((L.drop a).take (b - a)) := by
  rcases h with ⟨rfl, rfl⟩ | ⟨t, rfl⟩
  · have hb0 : b = 0 := by simpa using h2
    have ha0 : a = 0 := by omega
    subst hb0 ha0
    have hb' : boundA 0 hi = some 0 := hb
    exact ⟨.val (.slice none 0 0), by simp [sliceA, ha, hb'], by simpa using IsL.nil⟩
  · exact ⟨_, slice_list ha hb h1 h2, .list⟩

/-- A slice without spare room. -/
def IsT (sz : Nat) (s : AV) (L : List AV) : Prop := (s = .val (.slice none 0 0) ∧ L = []) ∨ s = .list sz true L
theorem IsT.isL {sz : Nat} {s : AV} {L : List AV} (h : IsT sz s L) : IsL sz s L := h.imp id fun h => ⟨true, h⟩
theorem IsT.cap {sz : Nat} {s : AV} {L : List AV} (h : IsT sz s L) (O : Heap) (K : AV → Heap → Prop) : CapSem s O K = K (.val (.int .i64 L.length)) O := by
  rcases h with ⟨rfl, rfl⟩ | rfl <;> rfl
theorem IsT.list {sz : Nat} {L : List AV} : IsT sz (.list sz true L) L := .inr rfl
theorem IsT.nil {sz : Nat} : IsT sz (.val (.slice none 0 0)) [] := .inl ⟨rfl, rfl⟩

theorem opsW_gcap {P : Program} {d : Option Nat} {s : Nat} {want : Bool} {x : Operand} {rest : List RIns} {K : Env → Heap → Prop} {e : Env} {O : Heap} {b : Bool} {sz : Nat} {L : List AV} (hs : e s = .val (.bool b))
    (h : (b == want) = true → IsT sz (e.opd x) L) (hk : opsW P rest K (e.put d (jn (b == want) (.val (.int .i64 L.length)))) O) : opsW P ((d, some (s, want), .cap x) :: rest) K e O := by
  rw [opsW_guard, hs]
  constructor
  · intro hb
    have : (b == want) = true := by cases hb; simp
    rw [this] at hk
    show CapSem (e.opd x) O _
    rw [(h this).cap]
    exact hk
  · intro hb
    have : (b == want) = false := by
      cases hbw : (b == want) with
      | false => rfl
      | true => exact absurd (by rw [eq_of_beq hbw]) hb
    rw [this] at hk
    exact hk

theorem take_map_succ {α β : Type} {f : α → β} {L : List α} {i : Nat} (h : i < L.length) : (L.map f).take (i + 1) = (L.map f).take i ++ [f L[i]] := by
  rw [List.take_succ_eq_append_getElem (by simpa using h)]
  simp

theorem CallA.freeze {P : Program} {f : FuncId} {args args' : List AV} {O : Heap} {K : AV → Heap → Prop} (id sz : Nat) (E : TypeId) (elems : List AV) (ho : O id = some (.arr E sz elems)) (hl : args'.length = args.length)
    (hz : ∀ (i : Nat) x y, args[i]? = some x → args'[i]? = some y → Fz id sz elems x y) (h : CallA P f args' (O.del id) K) : CallA P f args O K := by
  refine ⟨h.1, fun g W0 w vs hI hs hv => ?_⟩
  obtain ⟨g', h1, h2, h3⟩ := freeze_sound hI ho
  refine (h.2 g' W0 w vs h2 (by omega) fun i y v hy hv' => ?_).mono fun en w' ⟨v, he, g2, r, O2, k1, k2⟩ => ⟨v, he, g2, r, O2, h1.trans k1, k2⟩
  have hi : i < args.length := by rw [← hl]; exact (List.getElem?_eq_some_iff.1 hy).1
  exact h3 _ _ _ (hz i _ y (List.getElem?_eq_getElem hi) hy) (hv i _ v (List.getElem?_eq_getElem hi) hv')

theorem CallA.freeze1 {P : Program} {f : FuncId} {x x' : AV} {O : Heap} {K : AV → Heap → Prop} (id sz : Nat) (E : TypeId) (elems : List AV) (ho : O id = some (.arr E sz elems))
    (hz : Fz id sz elems x x') (h : CallA P f [x'] (O.del id) K) : CallA P f [x] O K := by
  refine CallA.freeze (args' := [x']) id sz E elems ho rfl (fun i y z hy hz' => ?_) h
  match i, hy, hz' with
  | 0, hy, hz' => simp at hy hz'; subst hy hz'; exact hz

theorem make_own {E : TypeId} {sz bytes : Nat} {zero l c : AV} {O : Heap} {K : AV → Heap → Prop} (n m : Nat) (h1 : intOfA l = some (n : Int)) (h2 : intOfA c = some (m : Int)) (h3 : n ≤ m) (h4 : m ≤ 16777216) (h5 : bytes ≤ 4096)
    (hk : ∀ id, O id = none → K (.own id sz 0 n (some m)) (O.upd id (.arr E sz (List.replicate m zero)))) : MakeSem E sz bytes zero l c O K := by
  refine ⟨n, m, h1, h2, h3, ?_, ?_, hk⟩
  · unfold maxLen; omega
  · have := Nat.mul_le_mul h5 h4; omega

theorem set_rep {α : Type} {k : Nat} {z v : α} {R : List α} : (List.replicate (k + 1) z ++ R).set k v = List.replicate k z ++ v :: R := by
  rw [List.replicate_succ', List.append_assoc, List.set_append_right _ _ (by simp)]
  simp

theorem sub_both {O O' : Heap} {i : Nat} {o : AObj} (h : O.sub O') : (O.upd i o).sub (O'.upd i o) := fun j x hj => by
  rw [Heap.upd_apply] at hj ⊢
  split
  · rename_i hji; rw [if_pos hji] at hj; exact hj
  · rename_i hji; rw [if_neg hji] at hj; exact h j x hj
theorem loopK_drop {L : List Nat} {I : Nat → Env → Heap → Prop} {n : Nat} {K : Kont} {e : Env} {O : Heap} (O1 : Heap) (hs : O1.sub O) (m : Nat) (h : m < n) (hi : I m (keepE L e) O1) : loopK L I n K .normal e O :=
  WeakE.drop O1 hs (WeakE.keep L ⟨m, h, hi⟩)
theorem seqK_drop {L : List Nat} {K : Kont} {F : Env → Heap → Prop} {e : Env} {O : Heap} (O1 : Heap) (hs : O1.sub O) (h : F (keepE L e) O1) : seqK L K F .normal e O := WeakE.drop O1 hs (WeakE.keep L h)

theorem take_snoc {α : Type} {E R : List α} {v : α} {m : Nat} (h : m ≤ E.length) : (E.take m ++ [v] ++ R).take (m + 1) = E.take m ++ [v] := by
  have : (E.take m ++ [v]).length = m + 1 := by simp; omega
  rw [List.take_append, this, Nat.sub_self, List.take_zero, List.append_nil, List.take_of_length_le (by omega)]

theorem app_T {E : TypeId} {sz bytes : Nat} {s x : AV} {L X : List AV} {O : Heap} {K : AV → Heap → Prop} (hT : IsT sz s L) (hX : elemsA O sz x = some X) (hf : fits (L.length + X.length) bytes) (hk : ∀ r, IsL sz r (L ++ X) → K r O) : AppendSem false E sz bytes s x O K := by
  rcases hT with ⟨rfl, rfl⟩ | rfl
  · refine ⟨X, hX, by simpa using hf, fun h => ?_, fun h => ?_⟩
    · subst h; exact hk _ .nil
    · exact hk _ .list
  · exact app_list hX hf (hk _ .list)

/-- An object that nothing asks for any more. -/
theorem seqK_del (id : Nat) {L : List Nat} {K : Kont} {F : Env → Heap → Prop} {e : Env} {O : Heap} (h : F (keepE L e) (O.del id)) : seqK L K F .normal e O :=
  WeakE.drop (O.del id) (fun i o hi => by
    rw [Heap.del_apply] at hi
    by_cases hii : i = id
    · rw [if_pos hii] at hi; cases hi
    · rw [if_neg hii] at hi; exact hi) (WeakE.keep L h)
theorem del_same (O : Heap) (id : Nat) (x : AObj) : (O.upd id x).del id = O.del id := by
  funext j; simp only [Heap.del_apply, Heap.upd_apply]; split <;> rfl
theorem del_ne {O : Heap} {id a : Nat} {x : AObj} (h : ¬ a = id) : (O.upd a x).del id = (O.del id).upd a x := by
  funext j; simp only [Heap.del_apply, Heap.upd_apply]
  by_cases hj : j = id
  · subst hj; simp [Ne.symm h]
  · simp [hj]
theorem del_none {O : Heap} {id : Nat} (h : O id = none) : O.del id = O := by
  funext j; simp only [Heap.del_apply]; split
  · rename_i hj; rw [hj, h]
  · rfl

/-- An array that nothing writes to any more is a list from here on. -/
theorem seqK_fz (d id sz : Nat) (E : TypeId) (elems : List AV) (n : Nat) (c : Option Nat) (t : Bool) {L : List Nat} {K : Kont} {F : Env → Heap → Prop} {e : Env} {O : Heap} (ho : O id = some (.arr E sz elems)) (hd : e d = .own id sz 0 n c) (hn : n ≤ elems.length) (ht : t = true → c = some n)
    (h : F (keepE L (e.upd d (.list sz t (elems.take n)))) (O.del id)) : seqK L K F .normal e O := by
  refine WeakE.freeze (e' := e.upd d (.list sz t (elems.take n))) ho (fun t' => ?_) (WeakE.keep L h)
  rw [Env.upd_apply]
  split
  · rename_i ht'
    rw [ht', hd]
    have := Fz.own (id := id) (sz := sz) (elems := elems) 0 n c t (by omega) ht
    rw [List.drop_zero] at this
    exact this
  · exact .same _

/-- One command, and then another one: what is between them is named. -/
theorem seq_at {P : Program} {L : List Nat} {a b : Cmd} {K : Kont} {e : Env} {O : Heap} (e1 : Env) (O1 : Heap) (h2 : cmdW P b K e1 O1) (h1 : ∀ F : Env → Heap → Prop, F e1 O1 → cmdW P a (seqK L K F) e O) : cmdW P (.seq L a b) K e O := h1 _ h2
theorem seq_go {P : Program} {L : List Nat} {a b : Cmd} {K : Kont} {e : Env} {O : Heap} (h : cmdW P a (seqK L K (cmdW P b K)) e O) : cmdW P (.seq L a b) K e O := h

/-- An invariant that nothing looks into. -/
theorem hideI (J : Nat → Env → Heap → Prop) : ∃ I : Nat → Env → Heap → Prop, Aside (I = J) := ⟨J, rfl⟩

theorem undef_ne (want : Bool) : (undef : Value) ≠ .bool want := by unfold undef; simp
theorem gW_un (want : Bool) (o : Option AV) (F : AV → Prop) : gW (.val undef) want o F = F (.val undef) := by
  have := gW_jn false true want o F
  rw [jn_false, Bool.false_and] at this
  rw [this, gK_false]
theorem gcF_un {P : Program} {f : FuncId} {args : List AV} {F : AV → Prop} (want : Bool) : gcallF P f args F (.val undef) want = F (.val undef) := by
  unfold gcallF guardW
  exact propext ⟨fun h => h.2 (undef_ne want), fun h => ⟨fun e => absurd e (undef_ne want), fun _ => h⟩⟩
theorem gcA_un {P : Program} {f : FuncId} {args : List AV} {O : Heap} {K : AV → Heap → Prop} (want : Bool) : gcallA P f args O K (.val undef) want = K (.val undef) O := by
  unfold gcallA guardW
  exact propext ⟨fun h => h.2 (undef_ne want), fun h => ⟨fun e => absurd e (undef_ne want), fun _ => h⟩⟩
end Go.Ab

/- The abstract walk, twenty-second part: from a law's arguments to abstract values, and from a law's contract to its statement. -/
namespace Go.Ab
open Go.RowKit Go.WideShapes Go.ChangeShapes Go.Deep

/-- What the cells of a type are. -/
inductive Lay where
  | nil
  | bool (r : Lay)
  | int (k : IntKind) (r : Lay)
  | slice (agg : Bool) (e r : Lay)

def Lay.len : Lay → Nat
  | .nil => 0
  | .bool r => r.len + 1
  | .int _ r => r.len + 1
  | .slice _ _ r => r.len + 1

def Lay.app : Lay → Lay → Lay
  | .nil, m => m
  | .bool r, m => .bool (r.app m)
  | .int k r, m => .int k (r.app m)
  | .slice a e r, m => .slice a e (r.app m)

def Lay.rep (l : Lay) : Nat → Lay
  | 0 => .nil
  | n + 1 => (l.rep n).app l

theorem Lay.app_len (l m : Lay) : (l.app m).len = l.len + m.len := by
  induction l with
  | nil => simp [Lay.app, Lay.len]
  | bool r ih => simp [Lay.app, Lay.len, ih]; omega
  | int k r ih => simp [Lay.app, Lay.len, ih]; omega
  | slice a e r _ ih => simp [Lay.app, Lay.len, ih]; omega

def elemIs (agg : Bool) (x : AV) (es : List AV) : Prop := match agg with
  | true => x = .agg es
  | false => es = [x]

def LayOK : Lay → List AV → Prop
  | .nil, qs => qs = []
  | .bool r, qs => ∃ b qs', qs = .val (.bool b) :: qs' ∧ LayOK r qs'
  | .int k r, qs => ∃ n qs', qs = .val (.int k n) :: qs' ∧ (Lit.int k n).wf = true ∧ LayOK r qs'
  | .slice agg e r, qs => ∃ s l qs', qs = s :: qs' ∧ IsL e.len s l ∧ l.length ≤ maxLen ∧ (∀ x ∈ l, ∃ es, elemIs agg x es ∧ LayOK e es) ∧ LayOK r qs'

theorem LayOK.app {l m : Lay} : ∀ {qs bs : List AV}, LayOK l qs → LayOK m bs → LayOK (l.app m) (qs ++ bs) := by
  induction l with
  | nil => intro qs bs h h'; cases h; exact h'
  | bool r ih => intro qs bs ⟨b, qs', e, h⟩ h'; exact ⟨b, qs' ++ bs, by rw [e]; rfl, ih h h'⟩
  | int k r ih => intro qs bs ⟨b, qs', e, hw, h⟩ h'; exact ⟨b, qs' ++ bs, by rw [e]; rfl, hw, ih h h'⟩
  | slice a el r _ ih => intro qs bs ⟨s, l, qs', e, h1, h2, h3, h⟩ h'; exact ⟨s, l, qs' ++ bs, by rw [e]; rfl, h1, h2, h3, ih h h'⟩

def tileL (P : Program) (rec : TypeId → Option Lay) : List Field → Nat → Option Lay
  | [], _ => some .nil
  | f :: fs, off => if f.offset = off then (match rec f.type with
    | some l => if P.cellsOf f.type = l.len then (tileL P rec fs (off + l.len)).map (l.app ·) else none
    | none => none) else none

def layOf (P : Program) : Nat → TypeId → Option Lay
  | 0, _ => none
  | n + 1, t => match P.underlying t with
    | some .bool => some (.bool .nil)
    | some (.int k) => some (.int k .nil)
    | some (.slice e) => match layOf P n e with
      | some l => if P.cellsOf e = l.len ∧ 0 < l.len ∧ (isAggB P e = true ∨ l.len = 1) then some (.slice (isAggB P e) l .nil) else none
      | none => none
    | some (.struct fs) => match tileL P (fun t => layOf P n t) fs.toList 0 with
      | some l => if P.cellsOf t = l.len then some l else none
      | none => none
    | some (.array m e) => match layOf P n e with
      | some l => if P.cellsOf e = l.len ∧ P.cellsOf t = (l.rep m).len then some (l.rep m) else none
      | none => none
    | _ => none

/-- All that is in memory before a call. -/
def gh0 (W : World) : Gh := ⟨fun b o => match W.cell? ⟨b, o, none⟩ with | some v => if v.oneCell' = true then some v else none | none => none, fun _ => none⟩

theorem gh0_c {W : World} {b o : Nat} {v : Value} : (gh0 W).c b o = some v ↔ W.cell? ⟨b, o, none⟩ = some v ∧ v.oneCell' = true := by
  show (match W.cell? ⟨b, o, none⟩ with | some v => if v.oneCell' = true then some v else none | none => none) = some v ↔ _
  cases W.cell? ⟨b, o, none⟩ with
  | none => simp
  | some u =>
    by_cases hu : u.oneCell' = true
    · simp only [hu, if_true, Option.some.injEq]
      exact ⟨fun h => ⟨h, h ▸ hu⟩, fun h => h.1⟩
    · simp only [hu, if_false, Option.some.injEq]
      exact ⟨fun h => by simp at h, fun ⟨h1, h2⟩ => by subst h1; exact absurd h2 hu⟩

theorem inv0 (W : World) : Inv W (gh0 W) (fun _ => none) W :=
  ⟨Below.refl _ _, fun _ _ _ h => gh0_c.1 h, ⟨0, fun _ _ => rfl⟩, fun _ _ h => (by cases h), fun _ _ _ _ _ _ _ h => (by cases h)⟩

structure Opens (W : World) (L : Lay) (cs : List Value) (qs : List AV) : Prop where
  ok : LayOK L qs
  lc : cs.length = L.len
  la : qs.length = L.len
  reads : ∀ (i : Nat) a c, qs[i]? = some a → cs[i]? = some c → Reads (gh0 W) a c
  one : ∀ c ∈ cs, c.oneCell' = true
  cells : ∀ a ∈ qs, a.cells = [a]

theorem Opens.app {W : World} {L M : Lay} {cs ds : List Value} {qs bs : List AV} (h : Opens W L cs qs) (k : Opens W M ds bs) : Opens W (L.app M) (cs ++ ds) (qs ++ bs) where
  ok := h.ok.app k.ok
  lc := by rw [List.length_append, h.lc, k.lc, Lay.app_len]
  la := by rw [List.length_append, h.la, k.la, Lay.app_len]
  reads i a c ha hc := by
    rcases Nat.lt_or_ge i L.len with hi | hi
    · rw [List.getElem?_append_left (by rw [h.la]; exact hi)] at ha
      rw [List.getElem?_append_left (by rw [h.lc]; exact hi)] at hc
      exact h.reads i a c ha hc
    · rw [List.getElem?_append_right (by rw [h.la]; exact hi), h.la] at ha
      rw [List.getElem?_append_right (by rw [h.lc]; exact hi), h.lc] at hc
      exact k.reads _ a c ha hc
  one c hc := by
    rcases List.mem_append.1 hc with hc | hc
    · exact h.one c hc
    · exact k.one c hc
  cells a ha := by
    rcases List.mem_append.1 ha with ha | ha
    · exact h.cells a ha
    · exact k.cells a ha

theorem Opens.nil (W : World) : Opens W .nil [] [] := ⟨rfl, rfl, rfl, fun i a c h => by simp at h, fun c h => by simp at h, fun c h => by simp at h⟩

theorem Opens.single {W : World} {L : Lay} {c : Value} {a : AV} (hl : L.len = 1) (ok : LayOK L [a]) (hr : Reads (gh0 W) a c) (h1 : c.oneCell' = true) (ha : a.cells = [a]) : Opens W L [c] [a] where
  ok := ok
  lc := hl.symm
  la := hl.symm
  reads i a' c' ha' hc' := by
    cases i with
    | zero => simp at ha' hc'; subst ha' hc'; exact hr
    | succ i => simp at ha'
  one c' hc' := by simp at hc'; subst hc'; exact h1
  cells a' ha' := by simp at ha'; subst ha'; exact ha

section
variable {H : Type} {enc : TypeId × Value → H} {P : Program} {W : World}

theorem add_at {a : Addr} (h : a.spot = none) (k : Nat) : a.add k = ⟨a.block, a.off + k, none⟩ := by
  unfold Addr.add
  split
  · rename_i h0; subst h0; cases a; simp_all
  · rfl

theorem spot_of_cell {W : World} {a : Addr} {v : Value} (h : W.cell? a = some v) : a.spot = none := by
  cases hs : a.spot with
  | none => rfl
  | some s =>
    simp only [World.cell?] at h
    split at h
    · simp [hs] at h
    · cases h

theorem tile_opens {rec : TypeId → Option Lay} {fuel : Nat} {cs : List Value}
    (hrec : ∀ t L ds x, rec t = some L → DataW.trod enc P W 0 (fun _ => true) true fuel t ds = some x → ∃ qs, Opens W L ds qs) :
    ∀ (fs : List Field) (off : Nat) (L : Lay), tileL P rec fs off = some L → (∀ f ∈ fs, ∃ x, DataW.trod enc P W 0 (fun _ => true) true fuel f.type ((cs.drop f.offset).take (P.cellsOf f.type)) = some x) →
      ∃ qs, Opens W L ((cs.drop off).take L.len) qs
  | [], off, L, hL, _ => by cases hL; exact ⟨[], by simpa [Lay.len] using Opens.nil W⟩
  | f :: fs, off, L, hL, hx => by
    unfold tileL at hL
    split at hL
    · rename_i hoff
      cases hr : rec f.type with
      | none => rw [hr] at hL; cases hL
      | some l =>
        rw [hr] at hL
        simp only [] at hL
        split at hL
        · rename_i hc
          obtain ⟨M, hM, rfl⟩ := Option.map_eq_some_iff.1 hL
          obtain ⟨x, hx1⟩ := hx f (by simp)
          rw [hoff, hc] at hx1
          obtain ⟨qs, h1⟩ := hrec _ _ _ _ hr hx1
          obtain ⟨bs, h2⟩ := tile_opens hrec fs _ M hM (fun f' hf => hx f' (by simp [hf]))
          refine ⟨qs ++ bs, ?_⟩
          rw [Lay.app_len, List.take_add, List.drop_drop]
          exact h1.app h2
        · cases hL
    · cases hL

theorem opens : ∀ (n : Nat) (t : TypeId) (L : Lay) (cs : List Value) (fuel : Nat) (x : DataW H × List MemPlace), layOf P n t = some L → DataW.trod enc P W 0 (fun _ => true) true fuel t cs = some x → ∃ qs, Opens W L cs qs
  | 0, t, L, cs, fuel, x, hL, _ => by cases hL
  | n + 1, t, L, cs, fuel, x, hL, h => by
    unfold layOf at hL
    split at hL
    · rename_i ht
      cases hL
      obtain ⟨b, rfl, _⟩ := DataW.trod_bool ht h
      exact ⟨[.val (.bool b)], .single rfl ⟨b, [], rfl, rfl⟩ (.val _) rfl rfl⟩
    · rename_i k ht
      cases hL
      obtain ⟨z, rfl, _, hz⟩ := DataW.trod_int ht h
      exact ⟨[.val (.int k z)], .single rfl ⟨z, [], rfl, hz, rfl⟩ (.val _) rfl rfl⟩
    · rename_i e ht
      cases hl : layOf P n e with
      | none => rw [hl] at hL; cases hL
      | some l =>
        rw [hl] at hL
        simp only [] at hL
        split at hL
        · rename_i hc
          obtain ⟨hc, hpos, hag⟩ := hc
          cases hL
          rcases open_slice ht h with ⟨rfl, _⟩ | ⟨a, len, cap, m, n', D, Pl, rfl, _, hlen, hcap, hm, _, hi⟩
          · exact ⟨[.val (.slice none 0 0)], .single rfl ⟨_, [], [], rfl, .nil, by simp, fun x hx => by simp at hx, rfl⟩ (.val _) rfl rfl⟩
          · simp only [if_true] at hm
            subst hm
            rw [hc] at hi
            by_cases hcap0 : m = 0
            · subst hcap0
              have : len = 0 := by omega
              subst this
              exact ⟨[.list l.len false []], .single rfl ⟨_, [], [], rfl, .list, by simp, fun x hx => by simp at hx, rfl⟩ (.listE _ _ _) rfl rfl⟩
            · have hex : ∀ i, ∃ qs : List AV, i < m → ∃ cs', W.cells? 0 (a.add (i * l.len)) l.len = some cs' ∧ Opens W l cs' qs := fun i => by
                by_cases him : i < m
                · obtain ⟨cs', h1, h2⟩ := hi i him
                  obtain ⟨qs, h3⟩ := opens n e l cs' n' _ hl h2
                  exact ⟨qs, fun _ => ⟨cs', h1, h3⟩⟩
                · exact ⟨[], fun h => absurd h him⟩
              obtain ⟨f, hf⟩ := Classical.axiomOfChoice hex
              have hcell : ∀ i, i < m → ∀ j, j < l.len → ∃ c, W.cell? ((a.add (i * l.len)).add j) = some c := fun i hi' j hj => by
                obtain ⟨cs', h1, h2⟩ := hf i hi'
                obtain ⟨_, q1, q2⟩ := World.cells?_some h1
                rw [q2 j hj]
                exact ⟨_, List.getElem?_eq_getElem (by omega)⟩
              have hspot : a.spot = none := by
                obtain ⟨c, hc0⟩ := hcell 0 (by omega) 0 hpos
                rw [Nat.zero_mul] at hc0
                exact spot_of_cell hc0
              have hat : ∀ i j, (a.add (i * l.len)).add j = ⟨a.block, a.off + (i * l.len + j), none⟩ := fun i j => by
                rw [Go.Deep.add_add, add_at hspot]
              let el : Nat → AV := fun i => if isAggB P e = true then .agg (f i) else (f i).headD .junk
              have hel : ∀ i, i < m → elemIs (isAggB P e) (el i) (f i) ∧ (el i).cells = f i := fun i hi' => by
                obtain ⟨cs', h1, h2⟩ := hf i hi'
                show elemIs (isAggB P e) (if isAggB P e = true then .agg (f i) else (f i).headD .junk) (f i) ∧ (if isAggB P e = true then AV.agg (f i) else (f i).headD .junk).cells = f i
                cases hA : isAggB P e with
                | true => exact ⟨rfl, rfl⟩
                | false =>
                  have h1' : l.len = 1 := by rcases hag with h | h; · rw [hA] at h; cases h
                                             · exact h
                  have hla := h2.la
                  rw [h1'] at hla
                  match hfi : f i, hla with
                  | [y], _ =>
                    have hy := h2.cells y (by rw [hfi]; simp)
                    exact ⟨rfl, by simpa using hy⟩
              let xs : List AV := (List.range len).map el
              have hxl : xs.length = len := by simp [xs]
              have hxi : ∀ (i : Nat) y, xs[i]? = some y → i < len ∧ y = el i := fun i y hy => by
                have hil : i < len := by
                  rw [← hxl]; exact (List.getElem?_eq_some_iff.1 hy).1
                refine ⟨hil, ?_⟩
                simp [xs, hil] at hy
                exact hy.symm
              have hgo : ∀ (i : Nat) y (j : Nat) z, xs[i]? = some y → y.cells[j]? = some z → ∃ c, W.cell? ⟨a.block, a.off + (i * l.len + j), none⟩ = some c ∧ c.oneCell' = true ∧ Reads (gh0 W) z c := fun i y j z hy hz => by
                obtain ⟨hil, rfl⟩ := hxi i y hy
                have him : i < m := by omega
                rw [(hel i him).2] at hz
                obtain ⟨cs', h1, h2⟩ := hf i him
                obtain ⟨_, q1, q2⟩ := World.cells?_some h1
                have hj : j < l.len := by rw [← h2.la]; exact (List.getElem?_eq_some_iff.1 hz).1
                have hcj : cs'[j]? = some (cs'[j]'(by omega)) := List.getElem?_eq_getElem (by omega)
                refine ⟨cs'[j]'(by omega), ?_, h2.one _ (List.getElem_mem _), h2.reads j z _ hz hcj⟩
                rw [← hat, q2 j hj, hcj]
              refine ⟨[.list l.len false xs], .single rfl ⟨_, xs, [], rfl, .list, by omega, fun y hy => ?_, rfl⟩ ?_ rfl rfl⟩
              · obtain ⟨i, hi1, hi2⟩ := List.getElem_of_mem hy
                obtain ⟨hil, rfl⟩ := hxi i y (by rw [List.getElem?_eq_getElem hi1, hi2])
                obtain ⟨cs', h1, h2⟩ := hf i (by omega)
                exact ⟨f i, (hel i (by omega)).1, h2.ok⟩
              · have : Value.slice (some a) len m = .slice (some ⟨a.block, a.off, none⟩) xs.length m := by rw [hxl]; cases a; simp_all
                rw [this]
                refine .list l.len false xs a.block a.off m (fun i j => (W.cell? ⟨a.block, a.off + (i * l.len + j), none⟩).getD undef) (by omega) (fun h => by cases h) (by omega) (fun i y hy => ?_) (fun i y j z hy hz => ?_) (fun i y j z hy hz => ?_)
                · obtain ⟨hil, rfl⟩ := hxi i y hy
                  obtain ⟨cs', h1, h2⟩ := hf i (by omega)
                  rw [(hel i (by omega)).2]; exact h2.la
                · obtain ⟨c, h1, h2, _⟩ := hgo i y j z hy hz
                  rw [gh0_c]
                  simp only [h1, Option.getD_some]
                  exact ⟨trivial, h2⟩
                · obtain ⟨c, h1, _, h3⟩ := hgo i y j z hy hz
                  simp only [h1, Option.getD_some]
                  exact h3
        · cases hL
    · rename_i fs ht
      cases hl : tileL P (fun t => layOf P n t) fs.toList 0 with
      | none => rw [hl] at hL; cases hL
      | some l =>
        rw [hl] at hL
        simp only [] at hL
        split at hL
        · rename_i hc
          cases hL
          obtain ⟨xs, m, rfl, _, hlen, hxl, hf⟩ := DataW.trod_struct ht h
          obtain ⟨qs, h1⟩ := tile_opens (enc := enc) (P := P) (W := W) (fuel := m) (cs := cs) (fun t L ds x hL hx => opens n t L ds m x hL hx) fs.toList 0 L hl (fun f hf' => by
            obtain ⟨i, hi1, hi2⟩ := List.getElem_of_mem hf'
            have hi' : i < fs.size := by simpa using hi1
            have hfi : fs[i]? = some f := by rw [Array.getElem?_eq_getElem hi', ← hi2]; simp
            exact ⟨_, (hf i f hfi).trans (List.getElem?_eq_getElem (by omega))⟩)
          refine ⟨qs, ?_⟩
          rwa [List.drop_zero, List.take_of_length_le (by omega)] at h1
        · cases hL
    · rename_i m e ht
      cases hl : layOf P n e with
      | none => rw [hl] at hL; cases hL
      | some l =>
        rw [hl] at hL
        simp only [] at hL
        split at hL
        · rename_i hc
          obtain ⟨hc, hc2⟩ := hc
          cases hL
          obtain ⟨xs, m', rfl, _, hlen, hxl, hf⟩ := DataW.trod_array ht h
          rw [hc] at hf
          have key : ∀ k, k ≤ m → ∃ qs, Opens W (l.rep k) (cs.take (k * l.len)) qs := by
            intro k
            induction k with
            | zero => intro _; exact ⟨[], by simpa [Lay.rep] using Opens.nil W⟩
            | succ k ih =>
              intro hk
              obtain ⟨qs, h1⟩ := ih (by omega)
              have h2 := hf k (by omega)
              rw [List.getElem?_eq_getElem (by omega)] at h2
              obtain ⟨bs, h3⟩ := opens n e l _ m' _ hl h2
              refine ⟨qs ++ bs, ?_⟩
              rw [Nat.succ_mul, List.take_add]
              exact h1.app h3
          obtain ⟨qs, h1⟩ := key m (Nat.le_refl _)
          have hrl : ∀ k, (l.rep k).len = k * l.len := fun k => by
            induction k with
            | zero => simp [Lay.rep, Lay.len]
            | succ k ih => rw [Lay.rep, Lay.app_len, ih, Nat.succ_mul]
          refine ⟨qs, ?_⟩
          rwa [List.take_of_length_le (by rw [← hrl]; omega)] at h1
        · cases hL
    · cases hL

def argLay (P : Program) (t : TypeId) : Option (Bool × Lay) := match layOf P 20 t with
  | some L => if isAggB P t = true ∨ L.len = 1 then some (isAggB P t, L) else none
  | none => none

def ArgsOK : List (Bool × Lay) → List AV → Prop
  | [], qs => qs = []
  | (agg, L) :: ls, qs => ∃ a qs' es, qs = a :: qs' ∧ elemIs agg a es ∧ LayOK L es ∧ ArgsOK ls qs'

theorem open_arg {t : TypeId} {v : Value} {d : DataW H} {ps : List MemPlace} {base : Nat} {agg : Bool} {L : Lay} (hL : argLay P t = some (agg, L)) (hv : Value.okWide P W .any base t v)
    (h : DataW.Trod enc P W 0 (fun _ => true) true t v d ps) : ∃ a es, elemIs agg a es ∧ LayOK L es ∧ Reads (gh0 W) a v := by
  unfold argLay at hL
  cases hl : layOf P 20 t with
  | none => rw [hl] at hL; cases hL
  | some l =>
    rw [hl] at hL
    simp only [] at hL
    split at hL
    · rename_i hag
      simp only [Option.some.injEq, Prod.mk.injEq] at hL
      obtain ⟨rfl, rfl⟩ := hL
      obtain ⟨fuel, hf⟩ := h
      obtain ⟨qs, ho⟩ := opens 20 t l _ fuel _ hl hf
      cases hA : isAggB P t with
      | true =>
        have : ∃ cs, v = .agg cs := by
          unfold isAggB at hA
          unfold Value.okWide at hv
          split at hA
          · rename_i hu; rw [hu] at hv; obtain ⟨cs, e, _⟩ := hv; exact ⟨cs, e⟩
          · rename_i hu; rw [hu] at hv; obtain ⟨cs, e, _⟩ := hv; exact ⟨cs, e⟩
          · cases hA
        obtain ⟨cs, rfl⟩ := this
        have ho : Opens W l cs.toList qs := ho
        refine ⟨.agg qs, qs, rfl, ho.ok, .agg qs cs ?_ (fun i c hc => ?_) (fun i x c hx hc => ?_)⟩
        · have := ho.lc; rw [ho.la, ← this]; simp
        · exact ho.one c (by
            have : cs.toList[i]? = some c := by simpa using hc
            exact List.mem_of_getElem? this)
        · exact ho.reads i x c hx (by simpa using hc)
      | false =>
        have h1 : l.len = 1 := by rcases hag with h | h; · rw [hA] at h; cases h
                                  · exact h
        have hc : v.cells = #[v] := by
          cases v with
          | agg cs =>
            exfalso
            cases hu : P.underlying t with
            | none =>
              unfold layOf at hl
              rw [hu] at hl
              cases hl
            | some u =>
              unfold layOf at hl
              unfold isAggB at hA
              unfold Value.okWide at hv
              rw [hu] at hl hA hv
              cases u <;> simp_all [Cell.okWide, Cell.ok]
          | _ => rfl
        rw [hc] at ho
        have hla := ho.la
        rw [h1] at hla
        match qs, hla, ho with
        | [y], _, ho => exact ⟨y, [y], rfl, ho.ok, ho.reads 0 y v rfl rfl⟩
    · cases hL

theorem open_args : ∀ {ts : List TypeId} {lays : List (Bool × Lay)} {vs : List Value} {ds : List (DataW H)} {ps : List MemPlace} {base : Nat}, ts.map (argLay P) = lays.map some →
    (∀ (j : Nat) t v, ts[j]? = some t → vs[j]? = some v → Value.okWide P W .any base t v) → DataW.TrodAll enc P W 0 (fun _ => true) true ts vs ds ps →
    ∃ qs, ArgsOK lays qs ∧ qs.length = vs.length ∧ ds.length = ts.length ∧ ∀ (i : Nat) a v, qs[i]? = some a → vs[i]? = some v → Reads (gh0 W) a v
  | [], lays, vs, ds, ps, base, hl, hv, h => by
    obtain ⟨rfl, rfl, rfl⟩ := trodAll_nil h
    cases lays with
    | nil => exact ⟨[], rfl, rfl, rfl, fun i a v h => by simp at h⟩
    | cons => simp at hl
  | t :: ts, lays, vs, ds, ps, base, hl, hv, h => by
    obtain ⟨v, vs1, d, ds1, a, b, rfl, rfl, rfl, h1, h2⟩ := trodAll_cons h
    cases lays with
    | nil => simp at hl
    | cons p lays =>
      obtain ⟨agg, L⟩ := p
      simp only [List.map_cons, List.cons.injEq] at hl
      obtain ⟨x, es, k1, k2, k3⟩ := open_arg hl.1 (hv 0 t v rfl rfl) h1
      obtain ⟨qs, j1, j2, j3, j4⟩ := open_args hl.2 (fun j t v ht hvj => hv (j + 1) t v ht hvj) h2
      refine ⟨x :: qs, ⟨x, qs, es, rfl, k1, k2, j1⟩, by simp [j2], by simp [j3], fun i a v ha hv' => ?_⟩
      cases i with
      | zero => simp at ha hv'; subst ha hv'; exact k3
      | succ i => exact j4 i a v (by simpa using ha) (by simpa using hv')

theorem trodAll_stays (hl : laidOutB P = true) {W' : World} {sp : Nat → Bool} : ∀ {ts : List TypeId} {vs : List Value} {ds : List (DataW H)} {ps : List MemPlace}, (∀ t ∈ ts, P.readableRec t = true ∧ t < P.types.size) →
    DataW.TrodAll enc P W 0 (fun _ => true) true ts vs ds ps → (∀ p ∈ ps, W.sameAt W' p) → (∀ p ∈ ps, sp p.block = true) → DataW.TrodAll enc P W' 0 sp true ts vs ds ps
  | [], vs, ds, ps, _, h, _, _ => by
    obtain ⟨rfl, rfl, rfl⟩ := trodAll_nil h
    exact trodAll_mk0
  | t :: ts, vs, ds, ps, hts, h, h1, h2 => by
    obtain ⟨v, vs1, d, ds1, a, b, rfl, rfl, rfl, k1, k2⟩ := trodAll_cons h
    obtain ⟨r1, r2⟩ := hts t (by simp)
    exact trodAll_cons_mk (WideElems.Trod_stays hl r1 r2 k1 (fun p hp => h1 p (by simp [hp])) (fun p hp => h2 p (by simp [hp])))
      (trodAll_stays hl (fun t ht => hts t (by simp [ht])) k2 (fun p hp => h1 p (by simp [hp])) (fun p hp => h2 p (by simp [hp])))

/-- What a law's contract is worth. -/
theorem post_of_below {f : Func} {s : ChangeSpec} {apart fresh handsOn again : Bool} {W' : World} {args : Array Value} {v : Value} {ds gs : List (DataW H)} {before pa pv : List MemPlace}
    (hW : DataW.Whole enc P f.params.toList s.vars apart W args.toList ds gs before)
    (hres : ∀ (b : Nat) (sp : Nat → Bool) (hd : Bool), DataW.TrodAll enc P W' b sp hd f.resultTypes.toList (v.resultList f.resultTypes.size) (s.fn H (ds ++ gs)).results [])
    (hargs : ∀ sp : Nat → Bool, (∀ p ∈ before, sp p.block = true) → DataW.TrodAll enc P W' 0 sp true f.params.toList args.toList (s.fn H (ds ++ gs)).args pa)
    (hvars : ∀ sp : Nat → Bool, (∀ p ∈ before, sp p.block = true) → DataW.TrodVars enc P W' sp s.vars (s.fn H (ds ++ gs)).vars pv)
    (hps : before = pa ++ pv) (hb : Below W.heap.size W W')
    (hok : ∀ (j : Nat) (t : TypeId) (r : Value), f.resultTypes[j]? = some t → (v.resultList f.resultTypes.size)[j]? = some r → Value.okWide P W' .any 0 t r) :
    s.post enc P f apart fresh handsOn again W args v W' := by
  have hlt : ∀ p ∈ before, p.block < W.heap.size := fun p hp => hW.lt p hp
  have hold : ∀ p ∈ before, (fun b => decide (b < W.heap.size)) p.block = true := fun p hp => by simpa using hlt p hp
  refine ⟨ds, gs, before, [], pa, pv, hW, hres _ _ _, hargs _ hold, hvars _ hold, World.keptBut_mono (fun p hp => ⟨hp, ?_⟩) (hb.frame (· ∈ before)), fun _ => ?_⟩
  · rw [hps, List.mem_append] at hp
    exact Or.inr hp
  · obtain ⟨_, _, _, _, _, hz, hn⟩ := hW
    refine ⟨hok, _, _, ([] ++ pa) ++ pv, ⟨[] ++ pa, pv, trodAll_append (hargs _ (fun _ _ => rfl)) (hres _ _ _), hvars _ (fun _ _ => rfl), rfl, ?_, ?_⟩, ?_⟩
    · intro b off hp
      have hin : MemPlace.cell b off ∈ before := by rw [hps]; simpa using hp
      rw [hb.frozen (hlt _ hin)]
      exact hz b off hin
    · intro ha
      have := hn ha
      rw [hps] at this
      simpa using this
    · intro p hp _
      rw [hps]
      simpa using hp

def resBool (P : Program) (fn : Func) : Bool := match fn.resultTypes.toList with
  | [t] => (match P.underlying t with | some .bool => true | _ => false)
  | _ => false
theorem resBool_ex {fn : Func} (h : resBool P fn = true) : ∃ tb, fn.resultTypes = #[tb] ∧ P.underlying tb = some .bool := by
  unfold resBool at h
  split at h
  · rename_i t ht
    refine ⟨t, by rw [← Array.toList_inj, ht], ?_⟩
    split at h
    · assumption
    · cases h
  · cases h

theorem law_calls {f : FuncId} {fn : Func} {s : ChangeSpec} {apart fresh handsOn again : Bool} {lays : List (Bool × Lay)} (hl : laidOutB P = true) (hts : ∀ t ∈ fn.params.toList, P.readableRec t = true ∧ t < P.types.size)
    (hlay : fn.params.toList.map (argLay P) = lays.map some) (hres : resBool P fn = true) (hv0 : s.vars = [])
    (hs : ∀ ds : List (DataW H), ds.length = fn.params.size → s.fn H ds = { results := [.lit (.bool true)], args := ds })
    (hc : ∀ qs : List AV, ArgsOK lays qs → PureA P f qs (.val (.bool true)))
    (W : World) (base : Nat) (args : Array Value) (ds gs : List (DataW H)) (before : List MemPlace)
    (hval : ∀ (j : Nat) t v, fn.params[j]? = some t → args[j]? = some v → Value.okWide P W .any base t v)
    (hW : DataW.Whole enc P fn.params.toList s.vars apart W args.toList ds gs before) :
    Calls P f args W fun e W' => ∃ v, e = .returned v ∧ s.post enc P fn apart fresh handsOn again W args v W' := by
  obtain ⟨tb, hr, htb⟩ := resBool_ex hres
  have hW' := hW
  obtain ⟨p, q, hA, hV, hpq, hfz, hnd⟩ := hW
  rw [hv0] at hV
  obtain ⟨rfl, rfl⟩ := trodVars_none hV
  rw [List.append_nil] at hpq
  subst hpq
  obtain ⟨qs, h1, h2, h3, h4⟩ := open_args hlay (fun j t v ht hv => hval j t v (by simpa using ht) (by simpa using hv)) hA
  refine ((hc qs h1 (fun _ => none)).2 (gh0 W) W W args (inv0 W) (by simpa using h2.symm) (fun i x v hx hv => h4 i x v hx (by simpa using hv))).mono fun e W' ⟨v, he, g', r, O', _, hI, hR, hr', _⟩ => ?_
  subst hr'
  have hv : v = .bool true := hR.val_inv
  subst hv he
  have hb := hI.below
  have hds : ds.length = fn.params.size := by rw [h3]; simp
  refine ⟨_, rfl, post_of_below (pa := before) (pv := []) hW' (fun b sp hd => ?_) (fun sp hsp => ?_) (fun sp _ => ?_) (by simp) hb (ok_one hr rfl (okWide_bool_mk htb _))⟩
  · rw [List.append_nil, hs ds hds, hr]
    exact trodAll_cons_mk (p := []) (p' := []) (shut_bool htb true) trodAll_mk0
  · rw [List.append_nil, hs ds hds]
    exact trodAll_stays hl hts hA (fun x hx => hb.same (hW'.lt x hx)) hsp
  · rw [List.append_nil, hs ds hds, hv0]
    rfl

end

theorem map_of_all {α β : Type} {f : β → α} {Q : β → Prop} : ∀ {l : List α}, (∀ x ∈ l, ∃ y, x = f y ∧ Q y) → ∃ m : List β, l = m.map f ∧ ∀ y ∈ m, Q y
  | [], _ => ⟨[], rfl, fun y h => by simp at h⟩
  | x :: l, h => by
    obtain ⟨y, rfl, hy⟩ := h x (by simp)
    obtain ⟨m, rfl, hm⟩ := map_of_all (l := l) (fun x hx => h x (List.mem_cons_of_mem _ hx))
    exact ⟨y :: m, rfl, fun z hz => by
      rcases List.mem_cons.1 hz with rfl | hz
      · exact hy
      · exact hm z hz⟩

end Go.Ab

/- The abstract walk, twenty-third part: slices that grow, told of as lists. -/
namespace Go.Ab

/-- A slice that can be appended to: a list without spare room, or an array of one's own; and what else is in memory. -/
def OwA (E : TypeId) (sz : Nat) (O0 O' : Heap) (s : AV) (L : List AV) : Prop :=
  (s = .list sz true L ∧ O' = O0) ∨ ∃ id c elems, O0 id = none ∧ s = .own id sz 0 L.length c ∧ O' = O0.upd id (.arr E sz elems) ∧ elems.take L.length = L ∧ L.length ≤ elems.length

/-- A slice that grew. -/
def OwB (E : TypeId) (sz : Nat) (O0 O' : Heap) (s : AV) (L : List AV) : Prop :=
  (∃ t, s = .list sz t L ∧ O' = O0) ∨ ∃ id c elems, O0 id = none ∧ s = .own id sz 0 L.length c ∧ O' = O0.upd id (.arr E sz elems) ∧ elems.take L.length = L ∧ L.length ≤ elems.length

/-- A slice that has no spare room. -/
def OwT (E : TypeId) (sz : Nat) (O0 O' : Heap) (s : AV) (L : List AV) : Prop :=
  (s = .list sz true L ∧ O' = O0) ∨ ∃ id elems, O0 id = none ∧ s = .own id sz 0 L.length (some L.length) ∧ O' = O0.upd id (.arr E sz elems) ∧ elems.take L.length = L ∧ L.length ≤ elems.length

section
variable {P : Program} {E : TypeId} {sz bytes : Nat} {s x : AV} {L X : List AV} {O0 O O' : Heap} {K : AV → Heap → Prop}

theorem OwA.b (h : OwA E sz O0 O' s L) : OwB E sz O0 O' s L := h.imp (fun ⟨h1, h2⟩ => ⟨true, h1, h2⟩) id
theorem OwT.a (h : OwT E sz O0 O' s L) : OwA E sz O0 O' s L := h.imp id fun ⟨id, e, h1, h2, h3, h4, h5⟩ => ⟨id, _, e, h1, h2, h3, h4, h5⟩
theorem OwB.sub (h : OwB E sz O0 O' s L) : O0.sub O' := by
  rcases h with ⟨t, rfl, rfl⟩ | ⟨id, c, elems, h0, rfl, rfl, _, _⟩
  · exact Heap.sub_refl _
  · exact sub_upd h0 (Heap.sub_refl _)
theorem OwA.sub (h : OwA E sz O0 O' s L) : O0.sub O' := h.b.sub
theorem OwT.sub (h : OwT E sz O0 O' s L) : O0.sub O' := h.a.b.sub
theorem OwB.len (h : OwB E sz O0 O' s L) : lenA s = some (.val (.int .i64 L.length)) := by
  rcases h with ⟨t, rfl, rfl⟩ | ⟨id, c, elems, h0, rfl, rfl, _, _⟩ <;> rfl
theorem OwB.cells (h : OwB E sz O0 O' s L) : s.cells = [s] := by
  rcases h with ⟨t, rfl, rfl⟩ | ⟨id, c, elems, h0, rfl, rfl, _, _⟩ <;> rfl
theorem OwB.stor (h : OwB E sz O0 O' s L) : s.stor = true := by
  rcases h with ⟨t, rfl, rfl⟩ | ⟨id, c, elems, h0, rfl, rfl, _, _⟩ <;> rfl

theorem fits.le {n m b : Nat} (h : fits m b) (hn : n ≤ m) : fits n b := by
  unfold fits at h ⊢
  exact ⟨by omega, Nat.le_trans (Nat.mul_le_mul_right b hn) h.2⟩

theorem elems_of {O : Heap} (hX : IsL sz x X) : elemsA O sz x = some X := hX.el O

/-- Appended to a list without spare room, into an array of one's own. -/
theorem app_own1 (hX : IsL sz x X) (hf : fits (L.length + X.length) bytes) (hk : ∀ s O', OwA E sz O O' s (L ++ X) → K s O') : AppendSem true E sz bytes (.list sz true L) x O K := by
  refine app_list_own (hX.el O) hf (fun h0 => hk _ _ (.inl ⟨by rw [h0, List.append_nil], rfl⟩)) (fun _ id hid => ?_)
  refine hk _ _ (.inr ⟨id, none, L ++ X, hid, ?_, rfl, List.take_of_length_le (Nat.le_refl _), Nat.le_refl _⟩)
  rw [List.length_append]
theorem app_nil1 (hX : IsL sz x X) (hf : fits X.length bytes) (h0 : X = [] → K (.val (.slice none 0 0)) O) (hk : ∀ s O', OwA E sz O O' s X → K s O') : AppendSem true E sz bytes (.val (.slice none 0 0)) x O K := by
  refine ⟨X, hX.el O, hf, h0, fun _ => ?_⟩
  rw [if_pos rfl]
  intro id hid
  exact hk _ _ (.inr ⟨id, none, X, hid, rfl, rfl, by simp, Nat.le_refl _⟩)
/-- .. and again. -/
theorem ow_app {ow : Bool} (hs : OwA E sz O0 O' s L) (hX : IsL sz x X) (hf : fits (L.length + X.length) bytes) (hk : ∀ s2 O2, OwB E sz O0 O2 s2 (L ++ X) → (ow = true → OwA E sz O0 O2 s2 (L ++ X)) → K s2 O2) : AppendSem ow E sz bytes s x O' K := by
  rcases hs with ⟨rfl, rfl⟩ | ⟨id, c, elems, h0, rfl, rfl, h1, h2⟩
  · cases ow with
    | true => exact app_own1 hX hf fun s2 O2 h => hk s2 O2 h.b fun _ => h
    | false => exact app_list (hX.el _) hf (hk _ _ (.inl ⟨false, rfl, rfl⟩) (fun h => by cases h))
  · refine app_move (hX.el _) (Heap.upd_same _ _ _) h2 hf fun id' hid' => ?_
    rw [upd_none] at hid'
    rw [del_upd_new h0]
    have : OwA E sz O0 (O0.upd id' (.arr E sz (elems.take L.length ++ X))) (.own id' sz 0 (L.length + X.length) none) (L ++ X) :=
      .inr ⟨id', none, elems.take L.length ++ X, hid'.2.2, by rw [List.length_append], rfl, by rw [h1]; exact List.take_of_length_le (Nat.le_refl _), by rw [h1]; exact Nat.le_refl _⟩
    exact hk _ _ this.b fun _ => this
theorem ow_appA (hs : OwA E sz O0 O' s L) (hX : IsL sz x X) (hf : fits (L.length + X.length) bytes) (hk : ∀ s2 O2, OwA E sz O0 O2 s2 (L ++ X) → K s2 O2) : AppendSem true E sz bytes s x O' K :=
  ow_app hs hX hf fun s2 O2 _ h => hk s2 O2 (h rfl)
theorem ow_appB (hs : OwA E sz O0 O' s L) (hX : IsL sz x X) (hf : fits (L.length + X.length) bytes) (hk : ∀ s2 O2, OwB E sz O0 O2 s2 (L ++ X) → K s2 O2) : AppendSem false E sz bytes s x O' K :=
  ow_app hs hX hf fun s2 O2 h _ => hk s2 O2 h

/-- Made with room for all, and filled. -/
theorem mk_fill {zero l c : AV} {X : List AV} (h1 : intOfA l = some ((0 : Nat) : Int)) (h2 : intOfA c = some (X.length : Int)) (h3 : X.length ≤ 16777216) (h4 : bytes ≤ 4096)
    (hk : ∀ id, O id = none → K (.own id sz 0 0 (some X.length)) (O.upd id (.arr E sz (List.replicate X.length zero)))) : MakeSem E sz bytes zero l c O K :=
  make_own 0 X.length h1 h2 (by omega) h3 h4 hk
theorem fill_app {id n : Nat} {elems : List AV} (hid : O id = none) (hX : IsL sz x X) (hn : n = X.length) (h3 : X.length ≤ 16777216) (h4 : bytes ≤ 4096) (he : elems.length = X.length)
    (hk : ∀ s O', OwT E sz O O' s X → K s O') : AppendSem true E sz bytes (.own id sz 0 0 (some n)) x (O.upd id (.arr E sz elems)) K := by
  subst hn
  refine app_in (hX.el _) (Heap.upd_same _ _ _) (by omega) (by rw [Nat.zero_add]; exact fits_of h3 h4) (by omega) ?_
  rw [Nat.zero_add, upd_upd]
  exact hk _ _ (.inr ⟨id, _, hid, rfl, rfl, by simp, by simp⟩)
theorem fill_appF {id n : Nat} {elems : List AV} (hid : O id = none) (hX : IsL sz x X) (hn : n = X.length) (h3 : X.length ≤ 16777216) (h4 : bytes ≤ 4096) (he : elems.length = X.length)
    (hk : ∀ s O', OwT E sz O O' s X → K s O') : AppendSem false E sz bytes (.own id sz 0 0 (some n)) x (O.upd id (.arr E sz elems)) K := by
  subst hn
  refine app_in (hX.el _) (Heap.upd_same _ _ _) (by omega) (by rw [Nat.zero_add]; exact fits_of h3 h4) (by omega) ?_
  rw [Nat.zero_add, upd_upd]
  exact hk _ _ (.inr ⟨id, _, hid, rfl, rfl, by simp, by simp⟩)

theorem OwB.fz (h : OwB E sz O0 O' s L) : (∃ t, s = .list sz t L ∧ O' = O0) ∨ ∃ id elems, O' id = some (.arr E sz elems) ∧ O'.del id = O0 ∧ Fz id sz elems s (.list sz false L) := by
  rcases h with h | ⟨id, c, elems, h0, rfl, rfl, h1, h2⟩
  · exact .inl h
  · refine .inr ⟨id, elems, Heap.upd_same _ _ _, del_upd_new h0, ?_⟩
    have := Fz.own (id := id) (sz := sz) (elems := elems) 0 L.length c false (by omega) (fun h => by cases h)
    rwa [List.drop_zero, h1] at this
theorem OwT.fz (h : OwT E sz O0 O' s L) : (s = .list sz true L ∧ O' = O0) ∨ ∃ id elems, O' id = some (.arr E sz elems) ∧ O'.del id = O0 ∧ Fz id sz elems s (.list sz true L) := by
  rcases h with h | ⟨id, elems, h0, rfl, rfl, h1, h2⟩
  · exact .inl h
  · refine .inr ⟨id, elems, Heap.upd_same _ _ _, del_upd_new h0, ?_⟩
    have := Fz.own (id := id) (sz := sz) (elems := elems) 0 L.length (some L.length) true (by omega) (fun _ => rfl)
    rwa [List.drop_zero, h1] at this

/-- Handed to a function that computes. -/
theorem ow_call {f : FuncId} {r : AV} (hs : OwB E sz O0 O' s L) (hc : ∀ s', IsL sz s' L → PureA P f [s'] r) (hk : K r O0) : CallA P f [s] O' K := by
  rcases hs.fz with ⟨t, rfl, rfl⟩ | ⟨id, elems, h1, h2, h3⟩
  · exact (hc _ .list).use hk
  · exact CallA.freeze1 id sz E elems h1 h3 (by rw [h2]; exact (hc _ .list).use hk)
theorem ow_call1 {f : FuncId} {r a : AV} (hs : OwB E sz O0 O' s L) (hc : ∀ s', IsL sz s' L → PureA P f [s', a] r) (hk : K r O0) : CallA P f [s, a] O' K := by
  rcases hs.fz with ⟨t, rfl, rfl⟩ | ⟨id, elems, h1, h2, h3⟩
  · exact (hc _ .list).use hk
  · refine CallA.freeze (args' := [.list sz false L, a]) id sz E elems h1 rfl (fun i y z hy hz => ?_) (by rw [h2]; exact (hc _ .list).use hk)
    match i, hy, hz with
    | 0, hy, hz => simp at hy hz; subst hy hz; exact h3
    | 1, hy, hz => simp at hy hz; subst hy hz; exact .same _
theorem ow_call2 {f : FuncId} {r a : AV} (hs : OwB E sz O0 O' s L) (hc : ∀ s', IsL sz s' L → PureA P f [a, s'] r) (hk : K r O0) : CallA P f [a, s] O' K := by
  rcases hs.fz with ⟨t, rfl, rfl⟩ | ⟨id, elems, h1, h2, h3⟩
  · exact (hc _ .list).use hk
  · refine CallA.freeze (args' := [a, .list sz false L]) id sz E elems h1 rfl (fun i y z hy hz => ?_) (by rw [h2]; exact (hc _ .list).use hk)
    match i, hy, hz with
    | 0, hy, hz => simp at hy hz; subst hy hz; exact .same _
    | 1, hy, hz => simp at hy hz; subst hy hz; exact h3
theorem ow_call3 {f : FuncId} {r a b : AV} (hs : OwB E sz O0 O' s L) (hc : ∀ s', IsL sz s' L → PureA P f [a, b, s'] r) (hk : K r O0) : CallA P f [a, b, s] O' K := by
  rcases hs.fz with ⟨t, rfl, rfl⟩ | ⟨id, elems, h1, h2, h3⟩
  · exact (hc _ .list).use hk
  · refine CallA.freeze (args' := [a, b, .list sz false L]) id sz E elems h1 rfl (fun i y z hy hz => ?_) (by rw [h2]; exact (hc _ .list).use hk)
    match i, hy, hz with
    | 0, hy, hz => simp at hy hz; subst hy hz; exact .same _
    | 1, hy, hz => simp at hy hz; subst hy hz; exact .same _
    | 2, hy, hz => simp at hy hz; subst hy hz; exact h3
theorem owt_call {f : FuncId} {r : AV} (hs : OwT E sz O0 O' s L) (hc : PureA P f [.list sz true L] r) (hk : K r O0) : CallA P f [s] O' K := by
  rcases hs.fz with ⟨rfl, rfl⟩ | ⟨id, elems, h1, h2, h3⟩
  · exact hc.use hk
  · exact CallA.freeze1 id sz E elems h1 h3 (by rw [h2]; exact hc.use hk)

/-- A slice in a variable is a list from here on. -/
theorem seqK_owB (d : Nat) {Lv : List Nat} {K : Kont} {F : Env → Heap → Prop} {e : Env} (hs : OwB E sz O0 O' (e d) L) (hk : ∀ s', IsL sz s' L → F (keepE Lv (e.upd d s')) O0) : seqK Lv K F .normal e O' := by
  rcases hs.fz with ⟨t, h1, rfl⟩ | ⟨id, elems, h1, h2, h3⟩
  · refine seqK_weak (WeakE.keep Lv ?_)
    have := hk (.list sz t L) .list
    rwa [← h1, show e.upd d (e d) = e from by funext t; rw [Env.upd_apply]; split <;> simp_all] at this
  · refine WeakE.freeze (e' := e.upd d (.list sz false L)) h1 (fun t' => ?_) (by rw [h2]; exact WeakE.keep Lv (hk _ .list))
    rw [Env.upd_apply]
    split
    · rename_i ht; rw [ht]; exact h3
    · exact .same _
theorem seqK_owT (d : Nat) {Lv : List Nat} {K : Kont} {F : Env → Heap → Prop} {e : Env} (hs : OwT E sz O0 O' (e d) L) (hk : F (keepE Lv (e.upd d (.list sz true L))) O0) : seqK Lv K F .normal e O' := by
  rcases hs.fz with ⟨h1, rfl⟩ | ⟨id, elems, h1, h2, h3⟩
  · refine seqK_weak (WeakE.keep Lv ?_)
    rwa [← h1, show e.upd d (e d) = e from by funext t; rw [Env.upd_apply]; split <;> simp_all] at hk
  · refine WeakE.freeze (e' := e.upd d (.list sz true L)) h1 (fun t' => ?_) (by rw [h2]; exact WeakE.keep Lv hk)
    rw [Env.upd_apply]
    split
    · rename_i ht; rw [ht]; exact h3
    · exact .same _
end

theorem ixp_optr (len esz : Nat) (eagg : Bool) (i : Int) (id s j k : Nat) : indexPtrA len esz eagg i (.optr id s j k) = if 0 ≤ i ∧ i < len then some (.optr id s j (k + i.toNat * esz)) else none := rfl
theorem ixp_ref (len esz : Nat) (eagg : Bool) (i : Int) (x : AV) : indexPtrA len esz eagg i (.ref x) = if 0 ≤ i ∧ i < len then (partA x (i.toNat * esz) esz eagg).map .ref else none := rfl

/-- An operation under a condition that holds. -/
theorem drawW_gyes {P : Program} {d : Option Nat} {st : Nat} {b want : Bool} {ci : CI} {rest : List RIns} {K : Env → Prop} {e : Env} {O : Heap} (hs : e st = .val (.bool b)) (hb : b = want) (h : drawW P ((d, none, ci) :: rest) K e O) : drawW P ((d, some (st, want), ci) :: rest) K e O := by
  subst hb
  show guardW (e st) b _ _
  rw [hs]
  exact ⟨fun _ => h, fun h' => absurd rfl h'⟩
theorem opsW_gyes {P : Program} {d : Option Nat} {st : Nat} {b want : Bool} {ci : CI} {rest : List RIns} {K : Env → Heap → Prop} {e : Env} {O : Heap} (hs : e st = .val (.bool b)) (hb : b = want) (h : opsW P ((d, none, ci) :: rest) K e O) : opsW P ((d, some (st, want), ci) :: rest) K e O := by
  subst hb
  rw [opsW_guard, hs]
  rw [opsW_cons] at h
  exact ⟨fun _ => h, fun h' => absurd rfl h'⟩

/-- What holds between two commands. -/
theorem seq_post {P : Program} {L : List Nat} {a b : Cmd} {K : Kont} {e : Env} {O : Heap} (Q : Env → Heap → Prop) (h2 : ∀ e1 O1, Q e1 O1 → cmdW P b K e1 O1) (h1 : ∀ F : Env → Heap → Prop, (∀ e1 O1, Q e1 O1 → F e1 O1) → cmdW P a (seqK L K F) e O) : cmdW P (.seq L a b) K e O := h1 _ h2

/-- Nothing is asked any more of what was put into memory. -/
theorem WeakR.pureS {R r : AV} {O O1 O' : Heap} (hs : O.sub O1) (hs' : O1.sub O') (h : r = R) : WeakR (fun r' O' => r' = R ∧ O' = O) r O' := WeakR.pure (fun i o hi => hs' i o (hs i o hi)) h
theorem Heap.sub_trans {A B C : Heap} (h : A.sub B) (k : B.sub C) : A.sub C := fun i o hi => k i o (h i o hi)
end Go.Ab
