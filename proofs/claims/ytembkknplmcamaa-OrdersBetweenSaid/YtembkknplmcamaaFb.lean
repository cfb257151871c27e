/- The law OrdersBetween of the given program: for every input the call returns true, and its arguments read as before. Here: the walk over abstract states. -/
import Derived.Test.YtembkknplmcamaaFa
import Derived.OrdersIn
import Derived.RangeFuncLeaves
import Derived.RangeFuncIn
import Derived.RangeFuncRecord
import Derived.Orders
import Derived.Deep.LoopGhost
set_option linter.unusedSimpArgs false
set_option linter.unusedVariables false
/- The abstract walk, twelfth part: what is shown of an instruction on abstract states holds of the operation that it was read off. -/
namespace Go.Ab

section
variable {P : Program} {W0 : World} {g : Gh} {O : Heap} {w : World} {K : AV → Heap → Prop}

/-- What OpSem asks of a result. -/
def ResOK (P : Program) (W0 : World) (g : Gh) (K : AV → Heap → Prop) : Result Next → Prop
  | .ok (.value v) w' => Out W0 g K v w'
  | .ok .skip w' => Out W0 g K undef w'
  | .ok (.enter f args) w' => Calls P f args w' fun en w'' => ∃ v, en = .returned v ∧ Out W0 g K v w''
  | .ok (.round l f tmps asg body) w' => RoundIn (FW none) 0 P l f tmps asg body w' fun en w'' => ∃ v, en = .returned v ∧ Out W0 g K v w''
  | _ => False

theorem OpSem.of {o : Oper} {e : Env} (h : ∀ (g : Gh) (W0 w : World) (ρ : Operand → Value), Inv W0 g O w → (∀ x, Reads g (e.opd x) (ρ x)) → ResOK P W0 g K ((execOp ρ o).run P w)) : OpSem P o e O K :=
  fun g W0 w ρ hI hρ => by
    have := h g W0 w ρ hI hρ
    unfold ResOK at this
    exact this

theorem res_pure {s : Sem Value} {r : AV} (hI : Inv W0 g O w) (hs : ∃ z, s.run P w = .ok z w ∧ Reads g r z) (hk : K r O) : ResOK P W0 g K ((do pure (Next.value (← s)) : Sem Next).run P w) := by
  obtain ⟨z, h1, h2⟩ := hs
  simp only [Sem.run_bind, h1, Result.andThen_ok, Sem.run_pure]
  exact Out.now hI h2 hk

theorem res_out {s : Sem Value} (hs : ∃ z w', s.run P w = .ok z w' ∧ Out W0 g K z w') : ResOK P W0 g K ((do pure (Next.value (← s)) : Sem Next).run P w) := by
  obtain ⟨z, w', h1, h2⟩ := hs
  simp only [Sem.run_bind, h1, Result.andThen_ok, Sem.run_pure]
  exact h2

theorem callFunc_run {f : FuncId} (h : callable P f = true) (args : Array Value) (w : World) : (callFunc f args).run P w = .ok (.enter f args) w := by
  unfold callable at h
  cases hf : P.funcs[f]? with
  | none => simp [hf] at h
  | some fn =>
    rw [hf] at h
    simp only [Bool.and_eq_true, bne_iff_ne, ne_eq] at h
    obtain ⟨h1, h2⟩ := h
    unfold callFunc
    obtain ⟨b, hb⟩ := Option.isSome_iff_exists.1 h2
    simp [hf, h1, hb]

theorem call_sound {f : FuncId} {args : List AV} {vs : Array Value} (hI : Inv W0 g O w) (h : CallA P f args O K) (hs : vs.size = args.length) (hr : ∀ (i : Nat) x v, args[i]? = some x → vs[i]? = some v → Reads g x v) :
    ResOK P W0 g K ((callFunc f vs).run P w) := by
  rw [callFunc_run h.1]
  exact h.2 g W0 w vs hI hs hr

theorem op_sound {ow : Bool} {o : Oper} {ci : CI} {e : Env} (hc : compileOp P ow o = some ci) (h : CiSem P ci e O K) : OpSem P o e O K := by
  refine OpSem.of fun g W0 w ρ hI hρ => ?_
  unfold compileOp at hc
  unfold execOp
  cases hop : o.op <;> rw [hop] at hc <;> simp only [] at hc <;> simp only [] <;> try (cases hc; done)
  case move x =>
    cases hc
    obtain ⟨r, hr, hk⟩ := h
    cases hr
    exact Out.now hI (hρ x) hk
  case assign x =>
    cases hc
    obtain ⟨r, hr, hk⟩ := h
    cases hr
    exact Out.now hI (hρ x) hk
  case pick c a b =>
    cases hc
    obtain ⟨r, hr, hk⟩ := h
    have hr : pickA (e.opd c) (e.opd a) (e.opd b) = some r := hr
    unfold pickA at hr
    split at hr
    · rename_i t ht
      cases hr
      have := hρ c
      rw [ht] at this
      rw [this.val_inv]
      simp only [Sem.run_bind, asBool, Sem.run_pure, Result.andThen_ok]
      refine Out.now hI ?_ hk
      cases t
      · exact hρ b
      · exact hρ a
    · cases hr
  case alloc E =>
    split at hc
    · rename_i s z hs hz
      cases hc
      obtain ⟨i, zv, hi, hzv, rfl, hzs, hz1, h0⟩ := zeroB_inv hz
      obtain ⟨i', hi', rfl⟩ := underlying_of_sizeB hs
      rw [hi] at hi'
      cases hi'
      have hzc := zeroA_cells (g := g) zv hz1
      have hst : (zeroA zv).stor = true := by
        unfold zeroA
        split
        · rfl
        · rename_i hna
          have := hz1 0 zv (by cases zv <;> first | rfl | (rename_i cs; exact (hna cs rfl).elim))
          exact this
      have hrd : Reads g (zeroA zv) zv := by
        unfold zeroA
        split
        · exact CellsIn.agg hzc
        · exact .val _
      obtain ⟨w', h1, h2⟩ := newVar_sound (P := P) (E := E) hI hrd (hzc.1.symm.trans hzs) hst h
      refine res_out ⟨_, w', ?_, h2⟩
      simp [Instr.alloc, zeroValue, typeInfo, hi, hzv, h1]
    · cases hc
  case box E x =>
    rw [Option.bind_eq_some_iff] at hc
    obtain ⟨s, hs, hc⟩ := hc
    split at hc
    · cases hc
      obtain ⟨hst, h⟩ := h
      have := storAll_inv hst 0 _ rfl
      obtain ⟨w', h1, h2⟩ := newVar_sound (P := P) (E := E) hI (hρ x) this.1 this.2 h
      exact res_out ⟨_, w', by simp [Instr.box, h1], h2⟩
    · cases hc
  case build t parts =>
    unfold compileBuild at hc
    cases hcb : compileBuild P t parts.toList with
    | none => unfold compileBuild at hcb; rw [hcb] at hc; cases hc
    | some cj =>
      have hcj : cj = ci := by unfold compileBuild at hcb; rw [hcb] at hc; cases hc; rfl
      subst hcj
      have hform : ∃ z ps, cj = .build z ps := by
        unfold compileBuild at hcb
        split at hcb
        · split at hcb
          · split at hcb
            · rw [Option.map_eq_some_iff] at hcb; obtain ⟨ps, _, rfl⟩ := hcb; exact ⟨_, ps, rfl⟩
            · cases hcb
          · split at hcb
            · cases hcb; exact ⟨_, _, rfl⟩
            · cases hcb
          · cases hcb
        · cases hcb
      obtain ⟨z, ps, rfl⟩ := hform
      obtain ⟨r, hr, hk⟩ := h
      have hr : (fillA z (ps.map fun p => (p.1, p.2.1, e.opd p.2.2))).map .agg = some r := hr
      rw [Option.map_eq_some_iff] at hr
      obtain ⟨m, hm, rfl⟩ := hr
      obtain ⟨v, h1, h2⟩ := build_sound hcb hρ hm w
      refine res_pure hI ⟨v, ?_, h2⟩ hk
      have : (Array.map (fun x => (x.1, ρ x.2)) parts) = (parts.toList.map fun p => (p.1, ρ p.2)).toArray := by
        apply Array.ext'; simp
      rw [this]
      exact h1
  case buildSlice t n parts =>
    split at hc
    · rename_i el ht
      split at hc
      · rename_i s hs
        split at hc
        · rename_i hcond
          obtain ⟨hk, hn, hz⟩ := hcond
          obtain ⟨za, hz⟩ := Option.isSome_iff_exists.1 hz
          have hparts : (Array.map (fun x => (x.1, ρ x.2)) parts) = (parts.toList.map fun p => (p.1, ρ p.2)).toArray := by
            apply Array.ext'; simp
          have hl : (parts.toList.map (·.2)).length = n := by have := congrArg List.length hk; simpa using this
          obtain ⟨i, zv, hi, hzv, _, hzs, _, h0⟩ := zeroB_inv hz
          have hs0 : 0 < s := by
            obtain ⟨i', hi', rfl⟩ := underlying_of_sizeB hs
            rw [hi] at hi'
            cases hi'
            exact h0
          have hnm : n ≤ maxLen := by
            have : n * 1 ≤ n * s := Nat.mul_le_mul_left _ hs0
            unfold maxLen
            omega
          cases ow with
          | true =>
            cases hc
            obtain ⟨hst, h⟩ := h
            have hrun := buildSlice_run (P := P) ht hs hz hk hn hρ hst w
            have hrow := rowOfVals (g := g) (sz := s) hst (All2.map hρ (parts.toList.map (·.2)))
            refine res_out ⟨_, _, by rw [hparts]; exact hrun, ?_⟩
            have := new_own (E := el) (rest := #[]) (cap := some n) hI hrow (by rw [hrow.size]; simp) (Nat.le_refl _) (by rw [List.length_map, hl]; exact hnm) (fun k e => by cases e; rw [List.length_map, hl]) (K := K) (fun id _ hid => by
              have := h id hid
              rw [hl] at this
              rw [List.length_map, hl]
              exact this)
            rw [List.length_map, hl] at this
            simpa using this
          | false =>
            cases hc
            obtain ⟨r, hr, hk'⟩ := h
            have hr : (if storAll s ((parts.toList.map (·.2)).map e.opd) = true then some (.list s true ((parts.toList.map (·.2)).map e.opd)) else none) = some r := hr
            split at hr
            · rename_i hst
              cases hr
              have hrun := buildSlice_run (P := P) ht hs hz hk hn hρ hst w
              have hrow := rowOfVals (g := g) (sz := s) hst (All2.map hρ (parts.toList.map (·.2)))
              refine res_out ⟨_, _, by rw [hparts]; exact hrun, ?_⟩
              have := new_frozen (E := el) (rest := #[]) hs0 true hI hrow (Nat.le_refl _) (by rw [List.length_map, hl]; exact hnm) (fun _ => rfl) (K := K) hk'
              rw [List.length_map, hl] at this
              simpa using this
            · cases hr
        · cases hc
      · cases hc
    · cases hc
  case load t x =>
    rw [Option.map_eq_some_iff] at hc
    obtain ⟨s, hs, rfl⟩ := hc
    obtain ⟨r, hr, hk⟩ := h
    exact res_pure hI (load_sound hs rfl (sizeB_u hs) hI (hρ x) hr) hk
  case store t x v =>
    rw [Option.map_eq_some_iff] at hc
    obtain ⟨s, hs, rfl⟩ := hc
    obtain ⟨O', hO, hk⟩ := h
    obtain ⟨w', h1, h2⟩ := store_sound (P := P) hs hI (hρ x) (hρ v) hO
    simp only [Sem.run_bind, h1, Result.andThen_ok, Sem.run_pure]
    exact ⟨g, _, _, .refl g, h2, .junk _, hk⟩
  case nilCheck x =>
    cases hc
    obtain ⟨r, hr, hk⟩ := h
    have hx := hρ x
    have hr : (match e.opd x with
      | .optr id s i k => some (.optr id s i k)
      | .ref y => some (.ref y)
      | .clo (.func f) a b => some (.clo (.func f) a b)
      | _ => none) = some r := hr
    clear hρ
    generalize ρ x = v at hx
    split at hr
    · rename_i heq
      cases hr
      rw [heq] at hx
      cases hx with
      | optr _ _ _ _ b room h0 => exact Out.now hI (.optr _ _ _ _ b room h0) hk
    · rename_i heq
      cases hr
      rw [heq] at hx
      cases hx with
      | ref _ b o vs h5 h6 => exact Out.now hI (.ref _ b o vs h5 h6) hk
    · rename_i heq
      cases hr
      rw [heq] at hx
      cases hx with
      | clo _ _ _ cs ds h1 h2 h3 h4 => exact Out.now hI (.clo _ _ _ cs ds h1 h2 h3 h4) hk
    · cases hr
  case binOp op t x y u =>
    unfold compileBin at hc
    split at hc
    · cases hc
      obtain ⟨r, hr, hk⟩ := h
      exact res_pure hI (bin_sound (hρ x) (hρ y) hr w) hk
    · rename_i ht
      split at hc
      · cases hc
        obtain ⟨r, hr, hk⟩ := h
        exact res_pure hI (binb_sound (neg := false) ht (hρ x) (hρ y) hr w) hk
      · cases hc
        obtain ⟨r, hr, hk⟩ := h
        exact res_pure hI (binb_sound (neg := true) ht (hρ x) (hρ y) hr w) hk
      · cases hc
    · cases hc
      obtain ⟨r, hr, hk⟩ := h
      exact res_pure hI (str_sound (hρ x) (hρ y) hr w) hk
    · rename_i el ht
      have fin : ∀ neg, ci = .eqnil 0 neg x → ρ y = .slice none 0 0 → ResOK P W0 g K ((do pure (Next.value (← (do eqGuard (if neg then .neq else .eql) t x (.const (.slice none 0 0)) (ρ x) (ρ y); binOp (if neg then .neq else .eql) t (ρ x) (ρ y) : Sem Value))) : Sem Next).run P w) := by
        intro neg hci hy
        subst hci
        obtain ⟨r, hr, hk⟩ := h
        have hr : (isNilA 0 (e.opd x)).map (fun b => AV.val (.bool (if neg then !b else b))) = some r := hr
        rw [Option.map_eq_some_iff] at hr
        obtain ⟨b, hb, rfl⟩ := hr
        rw [hy]
        exact res_pure hI ⟨_, eqnil_slice ht (hρ x) hb w, .val _⟩ hk
      split at hc
      · cases hc
        exact fin false rfl (hρ (.const (.slice none 0 0))).val_inv
      · cases hc
        exact fin true rfl (hρ (.const (.slice none 0 0))).val_inv
      · cases hc
    · rename_i p q r0 ht
      have fin : ∀ neg, ci = .eqnil 1 neg x → ρ y = .nilFunc → ResOK P W0 g K ((do pure (Next.value (← (do eqGuard (if neg then .neq else .eql) t x (.const .nilFunc) (ρ x) (ρ y); binOp (if neg then .neq else .eql) t (ρ x) (ρ y) : Sem Value))) : Sem Next).run P w) := by
        intro neg hci hy
        subst hci
        obtain ⟨r, hr, hk⟩ := h
        have hr : (isNilA 1 (e.opd x)).map (fun b => AV.val (.bool (if neg then !b else b))) = some r := hr
        rw [Option.map_eq_some_iff] at hr
        obtain ⟨b, hb, rfl⟩ := hr
        rw [hy]
        exact res_pure hI ⟨_, eqnil_func ht (hρ x) hb w, .val _⟩ hk
      split at hc
      · cases hc
        exact fin false rfl (hρ (.const .nilFunc)).val_inv
      · cases hc
        exact fin true rfl (hρ (.const .nilFunc)).val_inv
      · cases hc
    · rename_i p q ht
      have fin : ∀ neg, ci = .eqnil 2 neg x → ρ y = .map none → ResOK P W0 g K ((do pure (Next.value (← (do eqGuard (if neg then .neq else .eql) t x (.const (.map none)) (ρ x) (ρ y); binOp (if neg then .neq else .eql) t (ρ x) (ρ y) : Sem Value))) : Sem Next).run P w) := by
        intro neg hci hy
        subst hci
        obtain ⟨r, hr, hk⟩ := h
        have hr : (isNilA 2 (e.opd x)).map (fun b => AV.val (.bool (if neg then !b else b))) = some r := hr
        rw [Option.map_eq_some_iff] at hr
        obtain ⟨b, hb, rfl⟩ := hr
        rw [hy]
        exact res_pure hI ⟨_, eqnil_map ht (hρ x) hb w, .val _⟩ hk
      split at hc
      · cases hc
        exact fin false rfl (hρ (.const (.map none))).val_inv
      · cases hc
        exact fin true rfl (hρ (.const (.map none))).val_inv
      · cases hc
    all_goals first
      | (cases hc; done)
      | (rename_i ht
         have ha : isAggB P t = true := by unfold isAggB; rw [ht]
         split at hc
         · rename_i ks hks
           split at hc
           · rename_i hcond
             obtain ⟨hs, hgd⟩ := hcond
             split at hc
             · cases hc
               obtain ⟨r, hr, hk⟩ := h
               exact res_pure hI (eqagg_sound (neg := false) hks hs ha hgd (hρ x) (hρ y) hr w) hk
             · cases hc
               obtain ⟨r, hr, hk⟩ := h
               exact res_pure hI (eqagg_sound (neg := true) hks hs ha hgd (hρ x) (hρ y) hr w) hk
             · cases hc
           · cases hc
         · cases hc)
  case unOp op t x =>
    cases hc
    obtain ⟨r, hr, hk⟩ := h
    exact res_pure hI (un_sound (hρ x) hr w) hk
  case convert src dst x =>
    split at hc
    · rename_i k hd
      split at hc
      · rename_i hsrc
        cases hc
        obtain ⟨r, hr, hk⟩ := h
        have hr : (intOfA (e.opd x)).map (fun n => AV.val (.int k (k.wrap n))) = some r := hr
        rw [Option.map_eq_some_iff] at hr
        obtain ⟨n, hn, rfl⟩ := hr
        exact res_pure hI ⟨_, conv_sound (by intro e; rw [e] at hsrc; cases hsrc) hd (hρ x) hn w, .val _⟩ hk
      · cases hc
    · rename_i hd
      split at hc
      · rename_i e0 hsrc
        split at hc
        · rename_i hc1
          cases hc
          obtain ⟨r, hr, hk⟩ := h
          exact res_pure hI (bstr_sound hI hsrc hd hc1 (hρ x) hr) hk
        · cases hc
      · cases hc
    · cases hc
  case makeFunc fn first cap =>
    cases hc
    obtain ⟨r, hr, hk⟩ := h
    cases hr
    refine res_pure hI ⟨.func fn (first.map ρ) (cap.map ρ), by simp [Instr.makeFunc], .clo fn _ _ _ _ (by simp) (by simp) (fun i x v hx hv => ?_) (fun i x v hx hv => ?_)⟩ hk <;>
    · rw [List.getElem?_map, Option.map_eq_some_iff] at hx
      obtain ⟨o, ho, rfl⟩ := hx
      rw [Array.getElem?_map, Option.map_eq_some_iff] at hv
      obtain ⟨o', ho', rfl⟩ := hv
      have : o = o' := by
        rw [Array.getElem?_toList, ho'] at ho
        cases ho; rfl
      subst this
      exact hρ o
  case fieldAddr s x f =>
    split at hc
    · rename_i fs ht
      rw [Option.map_eq_some_iff] at hc
      obtain ⟨⟨off, sz, agg⟩, hp, rfl⟩ := hc
      obtain ⟨r, hr, hk⟩ := h
      exact res_pure hI (fieldA_sound hI ht hp (hρ x) hr) hk
    · cases hc
  case field t x f =>
    split at hc
    · rename_i fs ht
      rw [Option.map_eq_some_iff] at hc
      obtain ⟨⟨off, sz, agg⟩, hp, rfl⟩ := hc
      obtain ⟨r, hr, hk⟩ := h
      obtain ⟨fd, hf, rfl, hs, h0, rfl⟩ := partOf_inv hp
      have hr : (match e.opd x with
        | .agg l => partA (.agg l) fd.offset sz (isAggB P fd.type)
        | _ => none) = some r := hr
      have hx := hρ x
      clear hρ
      generalize ρ x = v at hx
      split at hr
      · rename_i l heq
        rw [heq] at hx
        cases hx with
        | agg _ cs h1 h2 h3 =>
          obtain ⟨z, hz, hzr⟩ := part_sound hs rfl (sizeB_u hs) (.agg l cs h1 h2 h3) hr w
          exact res_pure hI ⟨z, by simp [Instr.field, run_underlying ht, hf, asAgg, hz], hzr⟩ hk
      · cases hr
    · cases hc
  case indexAddr t x i =>
    split at hc
    · rename_i el ht
      rw [Option.bind_eq_some_iff] at hc
      obtain ⟨s, hs, hc⟩ := hc
      split at hc
      · cases hc
        obtain ⟨r, hr, hk⟩ := h
        have hr : (intOfA (e.opd i)).bind (fun n => indexAddrA s n (e.opd x)) = some r := hr
        rw [Option.bind_eq_some_iff] at hr
        obtain ⟨n, hn, hr⟩ := hr
        exact res_pure hI (indexA_sound hI ht hs (hρ x) (hρ i) hn hr) hk
      · cases hc
    · rename_i n el ht
      rw [Option.bind_eq_some_iff] at hc
      obtain ⟨s, hs, hc⟩ := hc
      split at hc
      · cases hc
        obtain ⟨r, hr, hk⟩ := h
        have hr : (intOfA (e.opd i)).bind (fun m => indexPtrA n s (isAggB P el) m (e.opd x)) = some r := hr
        rw [Option.bind_eq_some_iff] at hr
        obtain ⟨m, hm, hr⟩ := hr
        exact res_pure hI (indexP_sound hI ht hs (hρ x) (hρ i) hm hr) hk
      · cases hc
    · cases hc
  case index t x i =>
    split at hc
    · rename_i n el ht
      rw [Option.bind_eq_some_iff] at hc
      obtain ⟨s, hs, hc⟩ := hc
      split at hc
      · cases hc
        obtain ⟨r, hr, hk⟩ := h
        have hr : (intOfA (e.opd i)).bind (fun m => match e.opd x with
          | .agg l => if 0 ≤ m ∧ m < n then partA (.agg l) (m.toNat * s) s (isAggB P el) else none
          | _ => none) = some r := hr
        rw [Option.bind_eq_some_iff] at hr
        obtain ⟨m, hm, hr⟩ := hr
        split at hr
        · rename_i l heq
          split at hr
          · rename_i hb
            have hx := hρ x
            rw [heq] at hx
            exact res_pure hI (index_sound ht hs rfl (sizeB_u hs) hx (hρ i) hm hb hr w) hk
          · cases hr
        · cases hr
      · cases hc
    · cases hc
  case slice t x lo hi mx =>
    split at hc
    · rename_i el ht
      rw [Option.bind_eq_some_iff] at hc
      obtain ⟨s, hs, hc⟩ := hc
      split at hc
      · rename_i hmx
        cases hc
        obtain ⟨r, hr, hk⟩ := h
        have hop : ∀ o : Option Operand, optReads g (o.map e.opd) (o.map ρ) := fun o => by
          cases o with
          | none => trivial
          | some x => exact hρ x
        refine res_pure hI (slice_sound ht hs (hρ x) (hop lo) (hop hi) (hop mx) ?_ hr) hk
        cases mx with
        | none => exact .inl rfl
        | some m => cases hi with
          | none => simp at hmx
          | some h => exact .inr (by simp)
      · cases hc
    · cases hc
  case extract x i =>
    cases hc
    obtain ⟨r, hr, hk⟩ := h
    exact res_pure hI (extract_sound (hρ x) hr w) hk
  case makeSlice t l c =>
    split at hc
    · rename_i el ht
      split at hc
      · rename_i i z hi hz
        cases hc
        exact res_out (make_sound ht hi hz hI (hρ l) (hρ c) h)
      · cases hc
    · cases hc
  case makeMap t r =>
    cases r with
    | some r => cases hc
    | none =>
      simp only [] at hc
      split at hc
      · rename_i kt el ht
        cases hc
        obtain ⟨z, w', h1, h2⟩ := mkmap_sound (t := t) (kt := kt) (el := el) (P := P) hI h
        exact res_out ⟨z, w', h1, h2⟩
      · cases hc
  case lookup t x k ok =>
    split at hc
    · rename_i kt el ht
      split at hc
      · rename_i ks za hk hz
        split at hc
        · rename_i hs
          cases hc
          obtain ⟨r, hr, hk'⟩ := h
          exact res_pure hI (lookup_sound ht hk hs hz hI (hρ x) (hρ k) hr) hk'
        · cases hc
      · cases hc
    · cases hc
  case mapUpdate t x k v =>
    split at hc
    · rename_i kt el ht
      split at hc
      · rename_i ks hk
        split at hc
        · rename_i hs
          cases hc
          obtain ⟨O', hO, hk'⟩ := h
          obtain ⟨w', h1, h2⟩ := mapset_sound ht hk hs hI (hρ x) (hρ k) (hρ v) hO
          simp only [Sem.run_bind, h1, Result.andThen_ok, Sem.run_pure]
          exact ⟨g, .junk, O', .refl g, h2, .junk _, hk'⟩
        · cases hc
      · cases hc
    · cases hc
  case call c =>
    have harg : ∀ (l : List Operand) (i : Nat) x v, (l.map e.opd)[i]? = some x → (l.map ρ)[i]? = some v → Reads g x v := by
      intro l i x v hx hv
      rw [List.getElem?_map, Option.map_eq_some_iff] at hx hv
      obtain ⟨o, ho, rfl⟩ := hx
      obtain ⟨o', ho', rfl⟩ := hv
      rw [ho] at ho'
      cases ho'
      exact hρ o
    split at hc
    · rename_i f hcal
      split at hc
      · cases hc
        have hf : ρ (.func f) = .func (.func f) #[] #[] := by
          have := hρ (.func f)
          generalize ρ (.func f) = v at this
          cases this with
          | clo _ _ _ cs ds h1 h2 h3 h4 =>
            have e1 : cs = #[] := Array.eq_empty_of_size_eq_zero h1
            have e2 : ds = #[] := Array.eq_empty_of_size_eq_zero h2
            rw [e1, e2]
        simp only [resolve, hcal, hf, Deferred.ofValue, Sem.run_bind, Sem.run_pure, Result.andThen_ok, invoke]
        refine call_sound hI h (by simp) (fun i x v hx hv => harg c.args.toList i x v hx ?_)
        simpa using hv
      · cases hc
    · rename_i x _ hcal
      cases hc
      rcases h with ⟨f, a, b, heq, h⟩ | ⟨id, heq, h⟩
      · have hx := hρ x
        rw [heq] at hx
        have : ∃ cs ds, ρ x = .func (.func f) cs ds ∧ cs.size = a.length ∧ ds.size = b.length ∧ (∀ (i : Nat) x v, a[i]? = some x → cs[i]? = some v → Reads g x v) ∧ (∀ (i : Nat) x v, b[i]? = some x → ds[i]? = some v → Reads g x v) := by
          clear harg hρ h
          generalize ρ x = v at hx
          cases hx with
          | clo _ _ _ cs ds h1 h2 h3 h4 => exact ⟨cs, ds, rfl, h1, h2, h3, h4⟩
        obtain ⟨cs, ds, hfx, s1, s2, r1, r2⟩ := this
        simp only [resolve, hcal, hfx, Deferred.ofValue, Sem.run_bind, Sem.run_pure, Result.andThen_ok, invoke]
        refine call_sound hI h (by simp [s1, s2]) (fun i x v hx hv => ?_)
        by_cases h1 : i < a.length
        · rw [List.append_assoc, List.getElem?_append_left h1] at hx
          rw [Array.append_assoc, Array.getElem?_append_left (by omega)] at hv
          exact r1 i x v hx hv
        · rw [List.append_assoc, List.getElem?_append_right (by omega)] at hx
          rw [Array.append_assoc, Array.getElem?_append_right (by omega), s1] at hv
          by_cases h2 : i - a.length < c.args.size
          · rw [List.getElem?_append_left (by simpa using h2)] at hx
            rw [Array.getElem?_append_left (by simpa using h2)] at hv
            exact harg c.args.toList _ x v hx (by simpa using hv)
          · rw [List.getElem?_append_right (by simpa using h2)] at hx
            rw [Array.getElem?_append_right (by simpa using h2)] at hv
            simp only [List.length_map, Array.length_toList] at hx
            simp only [Array.size_map] at hv
            exact r2 _ x v hx hv
      · have hx := hρ x
        rw [heq] at hx
        have : ∃ b r, ρ x = .func (.yield b) #[] #[] ∧ g.m id = some (b, r) := by
          clear harg hρ h
          generalize ρ x = v at hx
          cases hx with
          | yld _ b r h0 => exact ⟨b, r, rfl, h0⟩
        obtain ⟨b, r, hfx, hm⟩ := this
        obtain ⟨f, tmps, asg, body, h1, h2⟩ := h g W0 w (c.args.map ρ) b r hI hm (by simp) (fun i x v hx hv => harg c.args.toList i x v hx (by simpa using hv))
        simp only [resolve, hcal, hfx, Deferred.ofValue, Sem.run_bind, Sem.run_pure, Result.andThen_ok, invoke]
        simp only [Array.empty_append, h1]
        exact h2
    · rename_i b hcal
      have hres : (do let d ← resolve ρ c o.type; invoke d.target d.args : Sem Next).run P w = (builtin b c.argTypes o.type (c.args.map fun | .const _ => true | _ => false) (c.args.map ρ)).run P w := by
        simp only [resolve, hcal, Sem.run_bind, Sem.run_pure, Result.andThen_ok, invoke]
        rfl
      rw [hres]
      clear hres
      have hts : ∀ l, c.argTypes.toList = l → c.argTypes = l.toArray := fun l h => by rw [← h]
      have has : ∀ l, c.args.toList = l → c.args.map ρ = (l.map ρ).toArray := fun l h => by rw [← h]; apply Array.ext'; simp
      unfold compileBuiltin at hc
      split at hc
      · rename_i t x h1 h2
        rw [hts _ h1, has _ h2]
        split at hc
        · rename_i el ht
          cases hc
          obtain ⟨r, hr, hk⟩ := h
          exact res_pure hI (len_sound ht (hρ x) hr w) hk
        · rename_i k el ht
          cases hc
          obtain ⟨r, hr, hk⟩ := h
          exact res_pure hI (lenm_sound ht hI (hρ x) hr) hk
        · rename_i ht
          cases hc
          obtain ⟨r, hr, hk⟩ := h
          exact res_pure hI (slen_sound ht (hρ x) hr w) hk
        · rename_i n el ht
          cases hc
          obtain ⟨r, hr, hk⟩ := h
          cases hr
          exact res_pure hI ⟨.int .i64 n, by simp [Builtin.len_, run_underlying ht, goInt], .val _⟩ hk
        · cases hc
      · rename_i t x h1 h2
        rw [hts _ h1, has _ h2]
        split at hc
        · rename_i el ht
          cases hc
          obtain ⟨z, e1, e2⟩ := cap_sound (u := o.type) ht hI (hρ x) h
          exact res_out ⟨z, w, e1, e2⟩
        · cases hc
      · rename_i t u s x h1 h2
        rw [hts _ h1, has _ h2]
        split at hc
        · rename_i el _ ht hu
          split at hc
          · rename_i i hi
            split at hc
            · rename_i z hz
              split at hc
              · rename_i htu
                subst htu
                cases hc
                exact res_out (append_sound ht hi hz hI (hρ s) (hρ x) h)
              · cases hc
            · cases hc
          · cases hc
        · rename_i el _ ht hu
          split at hc
          · rename_i i z hi hz
            cases hc
            exact res_out (appz_sound ht hu hi hz hI (hρ s) (hρ x) h)
          · cases hc
        · cases hc
      · rename_i x y h2
        rw [has _ h2]
        cases hc
        obtain ⟨r, hr, hk⟩ := h
        exact res_pure hI (maxmin_sound (ts := c.argTypes) (t := o.type) (mx := true) (hρ x) (hρ y) hr w) hk
      · rename_i x y h2
        rw [has _ h2]
        cases hc
        obtain ⟨r, hr, hk⟩ := h
        exact res_pure hI (maxmin_sound (ts := c.argTypes) (t := o.type) (mx := false) (hρ x) (hρ y) hr w) hk
      · rename_i x y z l h2
        cases hc
        obtain ⟨r, hr, hk⟩ := h
        have hr : maxl2 true (e.opd x) ((y :: z :: l).map e.opd) = some r := hr
        obtain ⟨q, e1, e2⟩ := maxl_sound (P := P) (w := w) ((y :: z :: l).map e.opd) ((y :: z :: l).map ρ) (e.opd x) r (ρ x) (hρ x) (by simp) (fun i y v hy hv => harg _ i y v hy hv) hr
        refine res_pure hI ⟨q, ?_, e2⟩ hk
        have : (Array.map ρ c.args).toList = ρ x :: (y :: z :: l).map ρ := by rw [Array.toList_map, h2]; rfl
        simp only [Builtin.max_, this]
        exact e1
      · rename_i x y z l h2
        cases hc
        obtain ⟨r, hr, hk⟩ := h
        have hr : maxl2 false (e.opd x) ((y :: z :: l).map e.opd) = some r := hr
        obtain ⟨q, e1, e2⟩ := maxl_sound (P := P) (w := w) ((y :: z :: l).map e.opd) ((y :: z :: l).map ρ) (e.opd x) r (ρ x) (hρ x) (by simp) (fun i y v hy hv => harg _ i y v hy hv) hr
        refine res_pure hI ⟨q, ?_, e2⟩ hk
        have : (Array.map ρ c.args).toList = ρ x :: (y :: z :: l).map ρ := by rw [Array.toList_map, h2]; rfl
        simp only [Builtin.min_, this]
        exact e1
      · cases hc
    · cases hc


end
end Go.Ab

/- The abstract walk, thirteenth part: a region whose order is fixed. -/
namespace Go.Ab

/-- An instruction with its destination and its guard (a slot, and what it must hold). -/
abbrev RIns := Option Nat × Option (Nat × Bool) × CI

def guardW (x : AV) (want : Bool) (A B : Prop) : Prop := match x with
  | .val v => (v = .bool want → A) ∧ (v ≠ .bool want → B)
  | _ => False

def opsW (P : Program) : List RIns → (Env → Heap → Prop) → Env → Heap → Prop
  | [], K, e, O => K e O
  | (d, none, ci) :: rest, K, e, O => CiSem P ci e O (fun r O' => opsW P rest K (e.put d r) O')
  | (d, some (s, want), ci) :: rest, K, e, O => guardW (e s) want (CiSem P ci e O (fun r O' => opsW P rest K (e.put d r) O')) (opsW P rest K (e.put d (.val undef)) O)

/-- What follows an instruction. (A name, so that nothing looks into it too early.) -/
def opK (P : Program) (d : Option Nat) (rest : List RIns) (K : Env → Heap → Prop) (e : Env) : AV → Heap → Prop := fun r O' => opsW P rest K (e.put d r) O'

theorem opK_apply (P : Program) (d : Option Nat) (rest : List RIns) (K : Env → Heap → Prop) (e : Env) (r : AV) (O : Heap) : opK P d rest K e r O = opsW P rest K (e.put d r) O := rfl
theorem opsW_nil (P : Program) (K : Env → Heap → Prop) (e : Env) (O : Heap) : opsW P [] K e O = K e O := by unfold opsW; rfl
theorem opsW_cons (P : Program) (d : Option Nat) (ci : CI) (rest : List RIns) (K : Env → Heap → Prop) (e : Env) (O : Heap) : opsW P ((d, none, ci) :: rest) K e O = CiSem P ci e O (opK P d rest K e) := by
  rw [opsW]; rfl
theorem opsW_guard (P : Program) (d : Option Nat) (s : Nat) (want : Bool) (ci : CI) (rest : List RIns) (K : Env → Heap → Prop) (e : Env) (O : Heap) :
    opsW P ((d, some (s, want), ci) :: rest) K e O = guardW (e s) want (CiSem P ci e O (opK P d rest K e)) (opsW P rest K (e.put d (.val undef)) O) := by
  rw [opsW]; rfl

/-- The marks of the ranges over functions that a frame has begun. -/
def Marks (g : Gh) (ds : List Deferred) : Prop := ∃ L : List Nat, ds = L.map (fun b => { target := .collected b, args := #[] }) ∧ L.Nodup ∧ ∀ b ∈ L, g.d b ∧ g.s ≤ b
theorem Marks.mono {g h : Gh} (hle : g.le h) {ds : List Deferred} (hm : Marks g ds) : Marks h ds :=
  let ⟨L, h1, h2, h3⟩ := hm; ⟨L, h1, h2, fun b hb => ⟨hle.d b (h3 b hb).1, by rw [hle.s]; exact (h3 b hb).2⟩⟩
theorem Marks.put {g : Gh} {a : Act} {d : Option Nat} {v : Value} (h : Marks g a.defers) : Marks g (a.put d v).defers := by cases d <;> exact h
theorem Marks.nil (g : Gh) : Marks g [] := ⟨[], rfl, List.nodup_nil, fun b hb => by cases hb⟩

/-- A frame and a world that an abstract state describes. -/
structure St (W0 : World) (g : Gh) (O : Heap) (w : World) (n : Nat) (a : Act) (e : Env) : Prop where
  inv : Inv W0 g O w
  size : a.tmps.size = n
  defers : Marks g a.defers
  reads : ∀ t, Reads g (e t) (a.tmps.getD t undef)

theorem St.opd {W0 : World} {g : Gh} {O : Heap} {w : World} {n : Nat} {a : Act} {e : Env} (h : St W0 g O w n a e) (x : Operand) : Reads g (e.opd x) (a.eval x) := by
  cases x with
  | tmp t => exact h.reads t
  | const v => exact .val v
  | global g' => exact .val _
  | func f => exact .clo _ _ _ _ _ rfl rfl (fun i x v hx => by simp at hx) (fun i x v hx => by simp at hx)

theorem St.put {W0 : World} {g g' : Gh} {O O' : Heap} {w w' : World} {n : Nat} {a : Act} {e : Env} (h : St W0 g O w n a e) (hle : g.le g') (hI : Inv W0 g' O' w') {d : Option Nat} {r : AV} {v : Value} (hd : ∀ k, d = some k → k < n) (hr : Reads g' r v) :
    St W0 g' O' w' n (a.put d v) (e.put d r) := by
  cases d with
  | none => exact ⟨hI, h.size, h.defers.mono hle, fun t => (h.reads t).mono hle⟩
  | some k =>
    refine ⟨hI, by simp [Act.put, h.size], h.defers.mono hle, fun t => ?_⟩
    simp only [Act.put, Env.put, Env.upd_apply]
    by_cases ht : t = k
    · subst ht
      have hlt : t < a.tmps.size := by rw [h.size]; exact hd t rfl
      simp [hlt, hr]
    · rw [if_neg ht]
      have : (a.tmps.setIfInBounds k v).getD t undef = a.tmps.getD t undef := by
        simp [Array.getElem?_setIfInBounds_ne (Ne.symm ht)]
      rw [this]
      exact (h.reads t).mono hle

def dstOK (n : Nat) : Option Nat → Bool
  | some d => decide (d < n)
  | none => true

def dstIn (ow : List Nat) : Option Nat → Bool
  | some d => ow.contains d
  | none => false

def compileOper (P : Program) (n : Nat) (ow : List Nat) (ops : Array Oper) (o : Oper) : Option RIns :=
  match compileOpD P (dstIn ow o.dst) o with
  | some ci =>
    if dstOK n o.dst = true then
      (match o.guard with
       | none => some (o.dst, none, ci)
       | some (j, want) => match (ops[j]?).bind (·.dst) with
         | some s => if s < n then some (o.dst, some (s, want), ci) else none
         | none => none)
    else none
  | none => none

def Post (W0 : World) (g0 : Gh) (n : Nat) (K : Env → Heap → Prop) (a : Act) (w : World) : Prop :=
  ∃ g e O, g0.le g ∧ St W0 g O w n a e ∧ K e O

section
variable {rd : Option Nat} {P : Program} {W0 : World} {g g0 : Gh} {O : Heap} {w : World} {n : Nat} {a : Act} {e : Env}

theorem compileOper_inv {ow : List Nat} {ops : Array Oper} {o : Oper} {d : Option Nat} {gd : Option (Nat × Bool)} {ci : CI} (h : compileOper P n ow ops o = some (d, gd, ci)) :
    d = o.dst ∧ (∀ k, o.dst = some k → k < n) ∧ (∃ b, compileOpD P b o = some ci) ∧
    ((o.guard = none ∧ gd = none) ∨ ∃ j want s, o.guard = some (j, want) ∧ gd = some (s, want) ∧ (ops[j]?).bind (·.dst) = some s ∧ s < n) := by
  unfold compileOper at h
  split at h
  · rename_i ci' hci
    split at h
    · rename_i hd
      have hd' : ∀ k, o.dst = some k → k < n := fun k hk => by rw [hk] at hd; simpa [dstOK] using hd
      split at h
      · rename_i hg
        cases h
        exact ⟨rfl, hd', ⟨_, hci⟩, .inl ⟨hg, rfl⟩⟩
      · rename_i j want hg
        split at h
        · rename_i s hs
          split at h
          · rename_i hsn
            cases h
            exact ⟨rfl, hd', ⟨_, hci⟩, .inr ⟨j, want, s, hg, rfl, hs, hsn⟩⟩
          · cases h
        · cases h
    · cases h
  · cases h

theorem compileOp_nodefer {P : Program} {b : Bool} {o : Oper} {ci : CI} (h : compileOp P b o = some ci) : ∀ c, o.op ≠ .defer c := by
  intro c hc
  unfold compileOp at h
  rw [hc] at h
  cases h
theorem oper_FW {rd : Option Nat} {P : Program} {o : Oper} {a : Act} {w : World} {next : Act → World → Prop} {Q : Exit → Act → World → Prop} (h : ∀ c, o.op ≠ .defer c) :
    o.wpIn (FW rd) 0 P a w next Q = ((∀ f, o.about P w a.eval = some f → (FW rd).fn f) ∧ o.uponIn (FW rd) 0 P a next Q ((execOp a.eval o).run P w)) := by
  unfold Oper.wpIn
  rw [Oper.semAt_eq _ _ _ h]
/-- One operation carried out. -/
theorem oper_sound {b : Bool} {o : Oper} {ci : CI} {K : AV → Heap → Prop} {next : Act → World → Prop} {Q : Exit → Act → World → Prop} (hc : compileOpD P b o = some ci) (hd : ∀ k, o.dst = some k → k < n)
    (hS : St W0 g O w n a e) (h : CiSem P ci e O K) (hn : ∀ g' r O' w' v, g.le g' → St W0 g' O' w' n (a.put o.dst v) (e.put o.dst r) → K r O' → next (a.put o.dst v) w') : o.wpIn (FW rd) 0 P a w next Q := by
  rcases compileOpD_inv hc with hc | rfl
  rotate_left
  · obtain ⟨r, hr, _⟩ := h
    cases hr
  have hop := op_sound (K := K) hc h g W0 w a.eval hS.inv hS.opd
  rw [oper_FW (compileOp_nodefer hc)]
  have out : ∀ v w', Out W0 g K v w' → next (a.put o.dst v) w' := fun v w' ⟨g', r, O', h1, h2, h3, h4⟩ => hn g' r O' w' v h1 (hS.put h1 h2 hd h3) h4
  refine ⟨fun _ _ => trivial, ?_⟩
  split at hop
  · rename_i v w' heq
    rw [heq]
    exact out v w' hop
  · rename_i w' heq
    rw [heq]
    exact out undef w' hop
  · rename_i f args w' heq
    rw [heq]
    refine ⟨fun h => (by cases h), callsIn_FW.2 (hop.mono fun en w'' ⟨v, hv, ho⟩ => ?_)⟩
    subst hv
    exact out v w'' ho
  · rename_i l f tmps asg body w' heq
    rw [heq]
    refine ⟨fun h => (by cases h), roundIn_FW (hop.mono fun en w'' ⟨v, hv, ho⟩ => ?_)⟩
    subst hv
    exact out v w'' ho
  · exact hop.elim

theorem wanted_none {o : Oper} (h : o.guard = none) (y : Nat → Option Bool) : Region.wanted o y = true := by simp [Region.wanted, h]

theorem wanted_some {o : Oper} {ops : Array Oper} {j s : Nat} {want : Bool} (h : o.guard = some (j, want)) (hs : (ops[j]?).bind (·.dst) = some s) (hsn : s < n) (hsz : a.tmps.size = n) {v : Value} (hb : a.tmps.getD s undef = v) :
    (v = .bool want → Region.wanted o (yielded ops a.tmps) = true) ∧ (v ≠ .bool want → Region.wanted o (yielded ops a.tmps) = false) := by
  have hlt : s < a.tmps.size := by omega
  have hv : a.tmps[s]? = some v := by
    rw [Array.getElem?_eq_getElem hlt]
    simp [hlt] at hb
    rw [hb]
  have hy : ((ops[j]?).bind (·.dst)).bind (a.tmps[·]?) = some v := by rw [hs]; exact hv
  clear hb hv
  constructor
  · rintro rfl
    simp [Region.wanted, h, yielded, hy]
  · intro hne
    simp only [Region.wanted, h, yielded, hy]
    cases v <;> simp
    rename_i b
    intro e
    exact hne (by rw [e])

/-- The rest of a region, in its order. -/
theorem ops_sound {ow : List Nat} {ops : Array Oper} {K : Env → Heap → Prop} {Q : Exit → Act → World → Prop} (hQ : ∀ a w, Post W0 g0 n K a w → Q .normal a w) :
    ∀ (m k : Nat) (rs : List RIns) (g : Gh) (O : Heap) (w : World) (a : Act) (e : Env), k + m = ops.size → (ops.toList.drop k).mapM (compileOper P n ow ops) = some rs → g0.le g → St W0 g O w n a e → opsW P rs K e O →
      wpOpsIn (FW rd) 0 P ops Q (List.range' k m) a w
  | 0, k, rs, g, O, w, a, e, hk, hc, hle, hS, h => by
    have : ops.toList.drop k = [] := List.drop_eq_nil_of_le (by simp; omega)
    rw [this] at hc
    simp at hc
    subst hc
    rw [opsW_nil] at h
    simp only [List.range'_zero, wpOpsIn]
    exact hQ _ _ ⟨g, e, O, hle, hS, h⟩
  | m + 1, k, rs, g, O, w, a, e, hk, hc, hle, hS, h => by
    have hlt : k < ops.size := by omega
    have ho : ops[k]? = some ops[k] := Array.getElem?_eq_getElem hlt
    have hdrop : ops.toList.drop k = ops[k] :: ops.toList.drop (k + 1) := by
      rw [List.drop_eq_getElem_cons (by simpa using hlt)]
      simp
    rw [hdrop] at hc
    simp only [List.mapM_cons, Option.bind_eq_bind, Option.pure_def, Option.bind_eq_some_iff, Option.some.injEq] at hc
    obtain ⟨⟨d, gd, ci⟩, h1, rs', h2, rfl⟩ := hc
    obtain ⟨rfl, hd, ⟨b, hb⟩, hg⟩ := compileOper_inv h1
    rw [List.range'_succ]
    simp only [wpOpsIn, ho]
    rcases hg with ⟨hg, rfl⟩ | ⟨j, want, s, hg, rfl, hs, hsn⟩
    · rw [opsW_cons] at h
      rw [if_pos (wanted_none hg _)]
      refine (oper_sound hb hd hS h fun g' r O' w' v h1 h2' h3 => ?_)
      exact ops_sound hQ m (k + 1) rs' g' O' w' _ _ (by omega) h2 (hle.trans h1) h2' h3
    · rw [opsW_guard] at h
      unfold guardW at h
      split at h
      · rename_i bb hbb
        have hr := hS.reads s
        rw [hbb] at hr
        have hw := wanted_some hg hs hsn hS.size hr.val_inv
        rcases Classical.em (bb = .bool want) with hbw | hbw
        · rw [if_pos (hw.1 hbw)]
          refine (oper_sound hb hd hS (h.1 hbw) fun g' r O' w' v h1 h2' h3 => ?_)
          exact ops_sound hQ m (k + 1) rs' g' O' w' _ _ (by omega) h2 (hle.trans h1) h2' h3
        · rw [if_neg (by rw [hw.2 hbw]; simp)]
          exact ⟨fun _ _ => trivial, ops_sound hQ m (k + 1) rs' g O w _ _ (by omega) h2 hle (hS.put (.refl g) hS.inv hd (.val _)) (h.2 hbw)⟩
      · exact h.elim

theorem region_sound {id : Nat} {ow : List Nat} {ops : Array Oper} {rs : List RIns} {K : Env → Heap → Prop} {Q : Exit → Act → World → Prop} (hc : ops.toList.mapM (compileOper P n ow ops) = some rs)
    (hS : St W0 g O w n a e) (h : opsW P rs K e O) (hQ : ∀ a w, Post W0 g n K a w → Q .normal a w) : (Code.region id ops false).wpIn (FW rd) 0 P Q a w := by
  refine wpIn_region ?_
  rw [List.range_eq_range']
  exact ops_sound hQ ops.size 0 rs g O w a e (by omega) (by simpa using hc) (.refl g) hS h

end
end Go.Ab

/- The abstract walk, fourteenth part: a region that draws its order: operations that only compute, or make variables, in whatever order, and then others in theirs. -/
namespace Go.Ab

/-- What an array is when nothing writes to it any more. -/
inductive Fz (id sz : Nat) (elems : List AV) : AV → AV → Prop
  | same (x : AV) : Fz id sz elems x x
  | own (i n : Nat) (c : Option Nat) (t : Bool) (h : i + n ≤ elems.length) (ht : t = true → c = some n) : Fz id sz elems (.own id sz i n c) (.list sz t ((elems.drop i).take n))
  | agg (l l' : List AV) (hl : l.length = l'.length) (h : ∀ (i : Nat) x y, l[i]? = some x → l'[i]? = some y → Fz id sz elems x y) : Fz id sz elems (.agg l) (.agg l')
  | tup (l l' : List AV) (hl : l.length = l'.length) (h : ∀ (i : Nat) x y, l[i]? = some x → l'[i]? = some y → Fz id sz elems x y) : Fz id sz elems (.tup l) (.tup l')
  | optr (i : Nat) (x : AV) (hx : elems[i]? = some x) : Fz id sz elems (.optr id sz i 0) (.ref x)
  | list (s2 : Nat) (t : Bool) (l l' : List AV) (hl : l.length = l'.length) (hn : ∀ (i : Nat) x y, l[i]? = some x → l'[i]? = some y → x.cells.length = y.cells.length)
      (h : ∀ (i : Nat) x y (j : Nat) p q, l[i]? = some x → l'[i]? = some y → x.cells[j]? = some p → y.cells[j]? = some q → Fz id sz elems p q) : Fz id sz elems (.list s2 t l) (.list s2 t l')
  | ref (x y : AV) (hn : x.cells.length = y.cells.length) (h : ∀ (j : Nat) p q, x.cells[j]? = some p → y.cells[j]? = some q → Fz id sz elems p q) : Fz id sz elems (.ref x) (.ref y)
  | clo (f : Fn) (l l' m m' : List AV) (hl : l.length = l'.length) (hm : m.length = m'.length) (h : ∀ (i : Nat) x y, l[i]? = some x → l'[i]? = some y → Fz id sz elems x y)
      (h' : ∀ (i : Nat) x y, m[i]? = some x → m'[i]? = some y → Fz id sz elems x y) : Fz id sz elems (.clo f l m) (.clo f l' m')

theorem freeze_sound {W0 : World} {g : Gh} {O : Heap} {w : World} (hI : Inv W0 g O w) {id sz : Nat} {E : TypeId} {elems : List AV} (ho : O id = some (.arr E sz elems)) :
    ∃ g', g.le g' ∧ Inv W0 g' (O.del id) w ∧ ∀ r r' v, Fz id sz elems r r' → Reads g r v → Reads g' r' v := by
  obtain ⟨b, room, hm, hb, hc, cs, h1, h2, h3, h4, h5⟩ := hI.obj id _ ho
  let f : Nat → Option Value := fun o => if o < elems.length * sz then cs[o]? else none
  have hfr : ∀ j o r', (O.del id) j = some o → g.m j = some (b, r') → False := fun j o r' hj hmj => by
    rw [Heap.del_apply] at hj
    by_cases hji : j = id
    · rw [if_pos hji] at hj; cases hj
    · rw [if_neg hji] at hj
      exact hji (hI.inj j id o _ b r' room hj ho hmj hm)
  have hdrop : Inv W0 g (O.del id) w := hI.drop fun i o hi => by
    rw [Heap.del_apply] at hi
    by_cases hii : i = id
    · rw [if_pos hii] at hi; cases hi
    · rw [if_neg hii] at hi; exact hi
  have hcell : ∀ i x j y, elems[i]? = some x → x.cells[j]? = some y → ∃ v, f (i * sz + j) = some v ∧ cs[i * sz + j]? = some v ∧ v.oneCell' = true ∧ Reads g y v := fun i x j y hx hy => by
    obtain ⟨v, p, q, r⟩ := h5 i x j y hx hy
    refine ⟨v, ?_, p, q, r⟩
    have hi : i < elems.length := (List.getElem?_eq_some_iff.1 hx).1
    have hj : j < sz := by rw [← h4 i x hx]; exact (List.getElem?_eq_some_iff.1 hy).1
    have : i * sz + j < elems.length * sz := by
      have : (i + 1) * sz ≤ elems.length * sz := Nat.mul_le_mul_right sz hi
      rw [Nat.add_mul] at this; omega
    show (if i * sz + j < elems.length * sz then cs[i * sz + j]? else none) = some v
    rw [if_pos this, p]
  have hf : ∀ o v, f o = some v → w.cell? ⟨b, o, none⟩ = some v ∧ v.oneCell' = true := fun o v hv => by
    have hlt : o < elems.length * sz := by
      by_cases h : o < elems.length * sz
      · exact h
      · have hv : (if o < elems.length * sz then cs[o]? else none) = some v := hv
        rw [if_neg h] at hv; cases hv
    have hsz : 0 < sz := by
      rcases Nat.eq_zero_or_pos sz with h | h
      · rw [h] at hlt; omega
      · exact h
    have hi : o / sz < elems.length := Nat.div_lt_of_lt_mul (by rw [Nat.mul_comm]; exact hlt)
    have hj : o % sz < sz := Nat.mod_lt _ hsz
    have hxe : elems[o / sz]? = some elems[o / sz] := List.getElem?_eq_getElem hi
    have hlen := h4 _ _ hxe
    have hye : (elems[o / sz]).cells[o % sz]? = some ((elems[o / sz]).cells[o % sz]'(by omega)) := List.getElem?_eq_getElem (by omega)
    obtain ⟨u, p1, p2, p3, _⟩ := hcell _ _ _ _ hxe hye
    have ho' : o / sz * sz + o % sz = o := by rw [Nat.mul_comm]; exact Nat.div_add_mod o sz
    rw [ho'] at p1 p2
    rw [hv] at p1
    cases p1
    refine ⟨?_, p3⟩
    unfold World.cell?
    simp [h1, p2]
  refine ⟨g.freeze b f, Gh.freeze_le g b f, hdrop.freeze hf hfr, fun r r' v hz => ?_⟩
  induction hz generalizing v with
  | same x => exact fun hr => hr.mono (Gh.freeze_le g b f)
  | own i n c t hle ht =>
    intro hr
    cases hr with
    | own _ _ _ _ _ b' room' off k k0 k1 k2 k3 k4 k5 =>
      rw [hm] at k0
      cases k0
      have hlen : ((elems.drop i).take n).length = n := by simp; omega
      have key : ∀ (p : Nat) x (q : Nat) y, ((elems.drop i).take n)[p]? = some x → x.cells[q]? = some y → elems[i + p]? = some x ∧ off = i * sz := fun p x q y hx hy => by
        have hp : p < n := by have := (List.getElem?_eq_some_iff.1 hx).1; omega
        rw [List.getElem?_take, if_pos hp, List.getElem?_drop] at hx
        refine ⟨hx, ?_⟩
        rcases k1 with h | h
        · omega
        · exact h
      have := Reads.list (g := g.freeze b f) sz t ((elems.drop i).take n) b off k (fun p q => (cs[(i + p) * sz + q]?).getD undef) (by omega) (fun h => by rw [hlen]; exact k4 n (ht h)) k5
        (fun p x hx => by
          have hp : p < n := by have := (List.getElem?_eq_some_iff.1 hx).1; omega
          rw [List.getElem?_take, if_pos hp, List.getElem?_drop] at hx
          exact h4 _ _ hx)
        (fun p x q y hx hy => by
          obtain ⟨h6, h7⟩ := key p x q y hx hy
          obtain ⟨u, p1, p2, _, _⟩ := hcell _ _ _ _ h6 hy
          rw [Gh.freeze_new hc, h7, show i * sz + (p * sz + q) = (i + p) * sz + q by rw [Nat.add_mul]; omega, p1, p2]
          rfl)
        (fun p x q y hx hy => by
          obtain ⟨h6, h7⟩ := key p x q y hx hy
          obtain ⟨u, p1, p2, _, p3⟩ := hcell _ _ _ _ h6 hy
          rw [p2]
          exact p3.mono (Gh.freeze_le g b f))
      rw [hlen] at this
      exact this
  | agg l l' hl h ih =>
    intro hr
    cases hr with
    | agg _ cs' hs h6 h7 =>
      refine .agg l' cs' (hs.trans hl) h6 fun i x v hx hv => ?_
      have hi : i < l.length := by rw [hl]; exact (List.getElem?_eq_some_iff.1 hx).1
      exact ih i _ x (List.getElem?_eq_getElem hi) hx v (h7 i _ v (List.getElem?_eq_getElem hi) hv)
  | tup l l' hl h ih =>
    intro hr
    cases hr with
    | tup _ cs' hs h7 =>
      refine .tup l' cs' (hs.trans hl) fun i x v hx hv => ?_
      have hi : i < l.length := by rw [hl]; exact (List.getElem?_eq_some_iff.1 hx).1
      exact ih i _ x (List.getElem?_eq_getElem hi) hx v (h7 i _ v (List.getElem?_eq_getElem hi) hv)
  | optr i x hx =>
    intro hr
    cases hr with
    | optr _ _ _ _ b' room' k0 =>
      rw [hm] at k0
      cases k0
      rw [Nat.add_zero]
      refine .ref x b (i * sz) (fun q => (cs[i * sz + q]?).getD undef) (fun q y hy => ?_) (fun q y hy => ?_)
      · obtain ⟨u, p1, p2, _, _⟩ := hcell _ _ _ _ hx hy
        rw [Gh.freeze_new hc, p1, p2]
        rfl
      · obtain ⟨u, p1, p2, _, p3⟩ := hcell _ _ _ _ hx hy
        rw [p2]
        exact p3.mono (Gh.freeze_le g b f)
  | list s2 t l l' hl hn h ih =>
    intro hr
    have get : ∀ (i : Nat) y, l'[i]? = some y → ∃ x, l[i]? = some x := fun i y hy => ⟨l[i]'(by rw [hl]; exact (List.getElem?_eq_some_iff.1 hy).1), List.getElem?_eq_getElem _⟩
    cases hr with
    | list _ _ _ b' off' cap' vs' k1 k2 k3 k4 k5 k6 =>
      have := Reads.list (g := g.freeze b f) s2 t l' b' off' cap' vs' (by omega) (fun ht => by rw [← hl]; exact k2 ht) k3
        (fun i y hy => by
          obtain ⟨x, hx⟩ := get i y hy
          rw [← hn i x y hx hy]; exact k4 i x hx)
        (fun i y j q hy hq => by
          obtain ⟨x, hx⟩ := get i y hy
          have hj : j < x.cells.length := by rw [hn i x y hx hy]; exact (List.getElem?_eq_some_iff.1 hq).1
          exact (Gh.freeze_le g b f).c _ _ _ (k5 i x j _ hx (List.getElem?_eq_getElem hj)))
        (fun i y j q hy hq => by
          obtain ⟨x, hx⟩ := get i y hy
          have hj : j < x.cells.length := by rw [hn i x y hx hy]; exact (List.getElem?_eq_some_iff.1 hq).1
          exact ih i x y j _ q hx hy (List.getElem?_eq_getElem hj) hq _ (k6 i x j _ hx (List.getElem?_eq_getElem hj)))
      rw [← hl] at this
      exact this
    | listE _ _ a =>
      have : l' = [] := List.eq_nil_of_length_eq_zero (by rw [← hl]; rfl)
      rw [this]
      exact .listE s2 t a
  | ref x y hn h ih =>
    intro hr
    cases hr with
    | ref _ b' off' vs' k5 k6 =>
      refine .ref y b' off' vs' (fun j q hq => ?_) (fun j q hq => ?_)
      · have hj : j < x.cells.length := by rw [hn]; exact (List.getElem?_eq_some_iff.1 hq).1
        exact (Gh.freeze_le g b f).c _ _ _ (k5 j _ (List.getElem?_eq_getElem hj))
      · have hj : j < x.cells.length := by rw [hn]; exact (List.getElem?_eq_some_iff.1 hq).1
        exact ih j _ q (List.getElem?_eq_getElem hj) hq _ (k6 j _ (List.getElem?_eq_getElem hj))
  | clo fn l l' m m' hl hm' h h' ih ih' =>
    intro hr
    cases hr with
    | clo _ _ _ cs' ds' hs hs' h7 h8 =>
      refine .clo fn l' m' cs' ds' (hs.trans hl) (hs'.trans hm') (fun i x v hx hv => ?_) (fun i x v hx hv => ?_)
      · have hi : i < l.length := by rw [hl]; exact (List.getElem?_eq_some_iff.1 hx).1
        exact ih i _ x (List.getElem?_eq_getElem hi) hx v (h7 i _ v (List.getElem?_eq_getElem hi) hv)
      · have hi : i < m.length := by rw [hm']; exact (List.getElem?_eq_some_iff.1 hx).1
        exact ih' i _ x (List.getElem?_eq_getElem hi) hx v (h8 i _ v (List.getElem?_eq_getElem hi) hv)


def CI.opds : CI → List Operand
  | .mv x => [x]
  | .pick c a b => [c, a, b]
  | .build _ ps => ps.map (·.2.2)
  | .blist _ xs => xs
  | .load _ _ x => [x]
  | .nilchk x => [x]
  | .bin _ x y => [x, y]
  | .binb _ x y => [x, y]
  | .eqagg _ _ x y => [x, y]
  | .eqnil _ _ x => [x]
  | .un _ x => [x]
  | .convi _ x => [x]
  | .mkfn _ a b => a ++ b
  | .fieldA _ _ _ x => [x]
  | .field _ _ _ x => [x]
  | .indexA _ x i => [x, i]
  | .indexP _ _ _ x i => [x, i]
  | .index _ _ _ x i => [x, i]
  | .slice _ x lo hi mx => x :: (lo.toList ++ (hi.toList ++ mx.toList))
  | .extract x _ => [x]
  | .call _ args => args
  | .callv f args => f :: args
  | .len x => [x]
  | .lenm x => [x]
  | .cap x => [x]
  | .append _ _ _ _ s x => [s, x]
  | .maxmin _ x y => [x, y]
  | .maxl _ xs => xs
  | .str _ x y => [x, y]
  | .bstr x => [x]
  | .slen x => [x]
  | .lookup _ _ _ _ x k => [x, k]
  | _ => []

/-- With those of a new slice. -/
def CI.opdsP : CI → List Operand
  | .mkslice _ _ _ _ l c => [l, c]
  | ci => ci.opds

theorem opds_sub {ci : CI} {x : Operand} (h : x ∈ ci.opds) : x ∈ ci.opdsP := by
  cases ci <;> first | exact h | (cases h; done)

theorem map_congr_opds {e e' : Env} {l : List Operand} (h : ∀ x ∈ l, e.opd x = e'.opd x) : l.map e.opd = l.map e'.opd := List.map_congr_left h

theorem opt_congr {e e' : Env} {o : Option Operand} (h : ∀ x ∈ o.toList, e.opd x = e'.opd x) : o.map e.opd = o.map e'.opd := by
  cases o with
  | none => rfl
  | some x => simp [h x (by simp)]

theorem pureI_congr {ci : CI} {e e' : Env} (O : Heap) (h : ∀ x ∈ ci.opds, e.opd x = e'.opd x) : pureI ci e O = pureI ci e' O := by
  cases ci <;> simp only [CI.opds, List.mem_cons, List.mem_append, List.not_mem_nil, or_false, forall_eq_or_imp, forall_eq] at h <;> unfold pureI <;> simp only [] <;> try rfl
  case mv x => rw [h]
  case pick c a b => rw [h.1, h.2.1, h.2.2]
  case build z ps =>
    have : ps.map (fun p => (p.1, p.2.1, e.opd p.2.2)) = ps.map (fun p => (p.1, p.2.1, e'.opd p.2.2)) := List.map_congr_left fun p hp => by rw [h p.2.2 (List.mem_map_of_mem hp)]
    rw [this]
  case blist s xs => rw [map_congr_opds h]
  case load a s x => rw [h]
  case nilchk x => rw [h]
  case bin op x y => rw [h.1, h.2]
  case binb op x y => rw [h.1, h.2]
  case eqagg n k x y => rw [h.1, h.2]
  case eqnil k n x => rw [h]
  case un op x => rw [h]
  case convi k x => rw [h]
  case mkfn fn a b => rw [map_congr_opds (l := a) (fun x hx => h x (.inl hx)), map_congr_opds (l := b) (fun x hx => h x (.inr hx))]
  case fieldA o s a x => rw [h]
  case field o s a x => rw [h]
  case indexA s x i => rw [h.1, h.2]
  case indexP n s a x i => rw [h.1, h.2]
  case index n s a x i => rw [h.1, h.2]
  case slice s x lo hi mx =>
    rw [h.1, opt_congr (o := lo) (fun x hx => h.2 x (.inl hx)), opt_congr (o := hi) (fun x hx => h.2 x (.inr (.inl hx))), opt_congr (o := mx) (fun x hx => h.2 x (.inr (.inr hx)))]
  case extract x i => rw [h]
  case len x => rw [h]
  case lenm x => rw [h]
  case maxmin m x y => rw [h.1, h.2]
  case maxl m xs => rw [map_congr_opds h]
  case str op x y => rw [h.1, h.2]
  case bstr x => rw [h]
  case slen x => rw [h]
  case lookup ok ks agg z x k => rw [h.1, h.2]

def Heap.sub (O O' : Heap) : Prop := ∀ i o, O i = some o → O' i = some o

theorem loadA_mono {O O' : Heap} (hs : O.sub O') {agg : Bool} {s : Nat} {x r : AV} (h : loadA O agg s x = some r) : loadA O' agg s x = some r := by
  unfold loadA at h ⊢
  split at h
  · exact h
  · split at h
    · rename_i ho
      simp only [hs _ _ ho]
      exact h
    · cases h
  · cases h

theorem lenM_mono {O O' : Heap} (hs : O.sub O') {x r : AV} (h : lenM O x = some r) : lenM O' x = some r := by
  unfold lenM at h ⊢
  split at h
  · split at h
    · rename_i ho
      simp only [hs _ _ ho]
      exact h
    · cases h
  · exact h
  · cases h

theorem lookupA_mono {O O' : Heap} (hs : O.sub O') {ok agg : Bool} {ks : List Bool} {z x k r : AV} (h : lookupA O ok ks agg z x k = some r) : lookupA O' ok ks agg z x k = some r := by
  unfold lookupA at h ⊢
  split at h
  · rename_i hok
    rw [if_pos hok]
    split at h
    · split at h
      · rename_i ho
        simp only [hs _ _ ho]
        exact h
      · cases h
    · exact h
    · cases h
  · cases h

theorem elemsA_mono {O O' : Heap} (hs : O.sub O') {s : Nat} {x : AV} {X : List AV} (h : elemsA O s x = some X) : elemsA O' s x = some X := by
  unfold elemsA at h ⊢
  split at h
  · exact h
  · exact h
  · split at h
    · rename_i ho
      simp only [hs _ _ ho]
      exact h
    · cases h
  · cases h

theorem pureI_mono {O O' : Heap} (hs : O.sub O') {ci : CI} {e : Env} {r : AV} (h : pureI ci e O = some r) : pureI ci e O' = some r := by
  cases ci <;> unfold pureI at h ⊢ <;> simp only [] at h ⊢ <;> try exact h
  case load a s x => exact loadA_mono hs h
  case lenm x => exact lenM_mono hs h
  case lookup ok ks agg z x k => exact lookupA_mono hs h
  case bstr x =>
    unfold bstrA at h ⊢
    rw [Option.bind_eq_some_iff] at h ⊢
    obtain ⟨X, hX, h⟩ := h
    exact ⟨X, elemsA_mono hs hX, h⟩

def AppendPure (E : TypeId) (sz bytes : Nat) (s x : AV) (O : Heap) (V : AV) : Prop :=
  ∃ X, elemsA O sz x = some X ∧
  match s with
  | .val (.slice none 0 0) => fits X.length bytes ∧ V = (if X = [] then .val (.slice none 0 0) else .list sz false X)
  | .list s' true L => s' = sz ∧ fits (L.length + X.length) bytes ∧ V = .list sz false (L ++ X)
  | .pend E' s' L cp => E' = E ∧ s' = sz ∧ fits (L.length + X.length) bytes ∧ V = .list sz (decide (cp = some (L.length + X.length))) (L ++ X)
  | _ => False

/-- A new array, to which more is to be appended. -/
def AppendPend (E : TypeId) (sz bytes : Nat) (s x : AV) (O : Heap) (V : AV) : Prop :=
  ∃ X, elemsA O sz x = some X ∧
  match s with
  | .val (.slice none 0 0) => fits X.length bytes ∧ V = (if X = [] then .val (.slice none 0 0) else .pend E sz X none)
  | .list s' true L => s' = sz ∧ fits (L.length + X.length) bytes ∧ V = (if X = [] then .list sz true L else .pend E sz (L ++ X) none)
  | _ => False

/-- The value that an operation computes, whatever else there is in memory. -/
def drawFun (P : Program) (ci : CI) (e : Env) (O : Heap) (V : AV) : Prop :=
  match ci with
  | .alloc .. => V = .junk
  | .call f args => PureAt P f (args.map e.opd) O V
  | .callv fx args => ∃ f a b, e.opd fx = .clo (.func f) a b ∧ PureAt P f (a ++ args.map e.opd ++ b) O V
  | .append false E sz bytes s x => AppendPure E sz bytes (e.opd s) (e.opd x) O V
  | .append true E sz bytes s x => AppendPend E sz bytes (e.opd s) (e.opd x) O V
  | .mkslice E sz bytes zero l c => ∃ n m : Nat, intOfA (e.opd l) = some (n : Int) ∧ intOfA (e.opd c) = some (m : Int) ∧ n ≤ m ∧ m ≤ maxLen ∧ bytes * m ≤ 281474976710656 ∧ V = .pend E sz (List.replicate n zero) (some m)
  | .cap x => ∃ s l, e.opd x = .list s true l ∧ V = .val (.int .i64 l.length)
  | .box .. => False
  | .bown .. => False
  | .store .. => False
  | .mkmap => False
  | .mapset .. => False
  | .appz .. => False
  | ci => pureI ci e O = some V

def isAlloc : CI → Bool
  | .alloc .. => true
  | _ => false

def isPend : CI → Bool
  | .append true .. => true
  | .mkslice .. => true
  | _ => false

theorem drawFun_sem {P : Program} {ci : CI} {e e' : Env} {O O' : Heap} {V : AV} (h : drawFun P ci e O V) (ha : isAlloc ci = false) (hpd : isPend ci = false) (hnp : ∀ E sz b s x, ci = .append false E sz b s x → ∀ E' s' L cp, e.opd s ≠ .pend E' s' L cp) (he : ∀ x ∈ ci.opds, e.opd x = e'.opd x) (hs : O.sub O') :
    CiSem P ci e' O' (fun r O'' => r = V ∧ O'' = O') := by
  have hp : pureI ci e O = some V → pureI ci e' O' = some V := fun h => by
    rw [← pureI_congr O' he]
    exact pureI_mono hs h
  cases ci with
  | alloc => cases ha
  | call f args =>
    show CallA P f (args.map e'.opd) O' _
    rw [← map_congr_opds (l := args) he]
    exact h O' hs
  | callv fx args =>
    obtain ⟨f, a, b, h1, h2⟩ := h
    refine .inl ⟨f, a, b, ?_, ?_⟩
    · rw [← he fx (by simp [CI.opds])]; exact h1
    · rw [← map_congr_opds (l := args) (fun x hx => he x (by simp [CI.opds, hx]))]
      exact h2 O' hs
  | append ow E sz bytes s x =>
    cases ow with
    | true => cases hpd
    | false =>
      have hnp := hnp E sz bytes s x rfl
      obtain ⟨X, hX, h⟩ := h
      show AppendSem false E sz bytes (e'.opd s) (e'.opd x) O' _
      rw [← he s (by simp [CI.opds]), ← he x (by simp [CI.opds])]
      refine ⟨X, elemsA_mono hs hX, ?_⟩
      split at h
      · rename_i heq
        obtain ⟨h1, rfl⟩ := h
        rw [heq]
        refine ⟨h1, fun hx => ?_, fun hx => ?_⟩
        · rw [if_pos hx]; exact ⟨rfl, rfl⟩
        · rw [if_neg (by simp), if_neg hx]; exact ⟨rfl, rfl⟩
      · rename_i heq
        obtain ⟨h0, h1, rfl⟩ := h
        rw [heq]
        refine ⟨h0, h1, ?_⟩
        unfold AppendList
        rw [if_neg (by simp)]
        exact ⟨rfl, rfl⟩
      · rename_i heq
        exact absurd heq (hnp _ _ _ _)
      · exact h.elim
  | cap x =>
    obtain ⟨s, l, h1, rfl⟩ := h
    show CapSem (e'.opd x) O' (fun r O'' => r = .val (.int .i64 l.length) ∧ O'' = O')
    rw [← he x (by simp [CI.opds]), h1]
    exact ⟨rfl, rfl⟩
  | box => exact h.elim
  | bown => exact h.elim
  | store => exact h.elim
  | mkslice => cases hpd
  | mv => exact ⟨V, hp h, rfl, rfl⟩
  | pick => exact ⟨V, hp h, rfl, rfl⟩
  | build => exact ⟨V, hp h, rfl, rfl⟩
  | blist => exact ⟨V, hp h, rfl, rfl⟩
  | load => exact ⟨V, hp h, rfl, rfl⟩
  | nilchk => exact ⟨V, hp h, rfl, rfl⟩
  | bin => exact ⟨V, hp h, rfl, rfl⟩
  | binb => exact ⟨V, hp h, rfl, rfl⟩
  | eqagg => exact ⟨V, hp h, rfl, rfl⟩
  | eqnil => exact ⟨V, hp h, rfl, rfl⟩
  | un => exact ⟨V, hp h, rfl, rfl⟩
  | convi => exact ⟨V, hp h, rfl, rfl⟩
  | mkfn => exact ⟨V, hp h, rfl, rfl⟩
  | fieldA => exact ⟨V, hp h, rfl, rfl⟩
  | field => exact ⟨V, hp h, rfl, rfl⟩
  | indexA => exact ⟨V, hp h, rfl, rfl⟩
  | indexP => exact ⟨V, hp h, rfl, rfl⟩
  | index => exact ⟨V, hp h, rfl, rfl⟩
  | slice => exact ⟨V, hp h, rfl, rfl⟩
  | extract => exact ⟨V, hp h, rfl, rfl⟩
  | len => exact ⟨V, hp h, rfl, rfl⟩
  | lenm => exact ⟨V, hp h, rfl, rfl⟩
  | maxmin => exact ⟨V, hp h, rfl, rfl⟩
  | dead => exact ⟨V, hp h, rfl, rfl⟩
  | maxl => exact ⟨V, hp h, rfl, rfl⟩
  | str => exact ⟨V, hp h, rfl, rfl⟩
  | bstr => exact ⟨V, hp h, rfl, rfl⟩
  | slen => exact ⟨V, hp h, rfl, rfl⟩
  | mkmap => exact h.elim
  | lookup => exact ⟨V, hp h, rfl, rfl⟩
  | mapset => exact h.elim
  | appz => exact h.elim

theorem drawPend_sem {P : Program} {ci : CI} {e e' : Env} {O O' : Heap} {V : AV} (h : drawFun P ci e O V) (hpd : isPend ci = true) (he : ∀ x ∈ CI.opdsP ci, e.opd x = e'.opd x) (hs : O.sub O') :
    CiSem P ci e' O' (fun r O'' => ((∀ E sz L cp, V ≠ .pend E sz L cp) ∧ r = V ∧ O'' = O') ∨ (∃ E sz L id c elems, V = .pend E sz L c ∧ O' id = none ∧ r = .own id sz 0 L.length c ∧ O'' = O'.upd id (.arr E sz elems) ∧ elems.take L.length = L)) := by
  cases ci with
  | append ow E sz bytes s x =>
    cases ow with
    | false => cases hpd
    | true =>
      obtain ⟨X, hX, h⟩ := h
      show AppendSem true E sz bytes (e'.opd s) (e'.opd x) O' _
      rw [← he s (by simp [CI.opdsP, CI.opds]), ← he x (by simp [CI.opdsP, CI.opds])]
      refine ⟨X, elemsA_mono hs hX, ?_⟩
      split at h
      · rename_i heq
        obtain ⟨h1, rfl⟩ := h
        rw [heq]
        refine ⟨h1, fun hx => ?_, fun hx => ?_⟩
        · rw [if_pos hx]; exact .inl ⟨by simp, rfl, rfl⟩
        · rw [if_pos rfl, if_neg hx]
          exact fun id hid => .inr ⟨E, sz, X, id, none, X, rfl, hid, rfl, rfl, List.take_length⟩
      · rename_i heq
        obtain ⟨h0, h1, rfl⟩ := h
        rw [heq]
        refine ⟨h0, h1, ?_⟩
        unfold AppendList
        rw [if_pos rfl]
        refine ⟨fun hx => ?_, fun hx => ?_⟩
        · rw [if_pos hx]; exact .inl ⟨by simp, rfl, rfl⟩
        · rw [if_neg hx]
          exact fun id hid => .inr ⟨E, sz, _, id, none, _, rfl, hid, by simp, rfl, List.take_length⟩
      · exact h.elim
  | mkslice E sz bytes zero l c =>
    obtain ⟨n, m, h1, h2, h3, h4, h5, rfl⟩ := h
    rw [show ∀ K, CiSem P (.mkslice E sz bytes zero l c) e' O' K = MakeSem E sz bytes zero (e'.opd l) (e'.opd c) O' K from fun _ => rfl]
    rw [← he l (by simp [CI.opdsP]), ← he c (by simp [CI.opdsP])]
    refine ⟨n, m, h1, h2, h3, h4, h5, fun id hid => .inr ⟨E, sz, _, id, some m, List.replicate m zero, rfl, hid, by simp, rfl, ?_⟩⟩
    simp [List.take_replicate]
    omega
  | _ => cases hpd

/-- The front of a region that draws: in the order of the text. -/
def drawW (P : Program) : List RIns → (Env → Prop) → Env → Heap → Prop
  | [], K, e, _ => K e
  | (d, none, ci) :: rest, K, e, O => ∃ V, drawFun P ci e O V ∧ drawW P rest K (e.put d V) O
  | (d, some (s, want), ci) :: rest, K, e, O => guardW (e s) want (∃ V, drawFun P ci e O V ∧ drawW P rest K (e.put d V) O) (drawW P rest K (e.put d (.val undef)) O)

/-- The environment before the k-th instruction. -/
def envAt (V : Nat → AV) (e : Env) : List RIns → Nat → Env
  | _, 0 => e
  | [], _ => e
  | r :: rs, k + 1 => envAt (fun i => V (i + 1)) (e.put r.1 (V 0)) rs k

/-- What the front shows of its i-th instruction. -/
def stepOK (P : Program) (O : Heap) (e : Env) (r : RIns) (V : AV) : Prop :=
  match r.2.1 with
  | none => drawFun P r.2.2 e O V
  | some (s, want) => ∃ v, e s = .val v ∧ ((v = .bool want ∧ drawFun P r.2.2 e O V) ∨ (v ≠ .bool want ∧ V = .val undef))

theorem drawW_steps {P : Program} {O : Heap} : ∀ (rs : List RIns) (K : Env → Prop) (e : Env), drawW P rs K e O →
    ∃ V : Nat → AV, (∀ i r, rs[i]? = some r → stepOK P O (envAt V e rs i) r (V i)) ∧ K (envAt V e rs rs.length)
  | [], K, e, h => ⟨fun _ => .junk, fun i r hr => by simp at hr, h⟩
  | (d, gd, ci) :: rest, K, e, h => by
    have key : ∃ V0, stepOK P O e (d, gd, ci) V0 ∧ drawW P rest K (e.put d V0) O := by
      cases gd with
      | none => exact h
      | some p =>
        obtain ⟨s, want⟩ := p
        have h : guardW (e s) want (∃ V, drawFun P ci e O V ∧ drawW P rest K (e.put d V) O) (drawW P rest K (e.put d (.val undef)) O) := h
        unfold guardW at h
        split at h
        · rename_i b hb
          rcases Classical.em (b = .bool want) with hbw | hbw
          · obtain ⟨V, h1, h2⟩ := h.1 hbw
            exact ⟨V, ⟨b, hb, .inl ⟨hbw, h1⟩⟩, h2⟩
          · exact ⟨.val undef, ⟨b, hb, .inr ⟨hbw, rfl⟩⟩, h.2 hbw⟩
        · exact h.elim
    obtain ⟨V0, h1, h2⟩ := key
    obtain ⟨V, h3, h4⟩ := drawW_steps rest K _ h2
    refine ⟨fun i => match i with | 0 => V0 | i + 1 => V i, fun i r hr => ?_, h4⟩
    cases i with
    | zero => simp at hr; subst hr; exact h1
    | succ i => exact h3 i r (by simpa using hr)

/-- A slot before the k-th instruction: what the one instruction before it that writes it has computed, or what it held. -/
theorem envAt_other {t : Nat} : ∀ (rs : List RIns) (V : Nat → AV) (e : Env) (k : Nat), (∀ i r, i < k → rs[i]? = some r → r.1 ≠ some t) → envAt V e rs k t = e t
  | _, _, _, 0, _ => by simp [envAt]
  | [], _, _, k + 1, _ => by simp [envAt]
  | r :: rs, V, e, k + 1, h => by
    rw [envAt, envAt_other rs _ _ k (fun i r' hi hr => h (i + 1) r' (by omega) (by simpa using hr))]
    have := h 0 r (by omega) rfl
    cases hr : r.1 with
    | none => simp [Env.put]
    | some d =>
      simp only [Env.put, Env.upd_apply]
      rw [if_neg (fun e => this (by rw [hr, e]))]

theorem envAt_at {t : Nat} : ∀ (rs : List RIns) (V : Nat → AV) (e : Env) (k i : Nat) (r : RIns), i < k → rs[i]? = some r → r.1 = some t → (∀ j r', j ≠ i → rs[j]? = some r' → r'.1 ≠ some t) → envAt V e rs k t = V i
  | _, _, _, 0, _, _, hi, _, _, _ => by omega
  | [], _, _, k + 1, i, r, _, hr, _, _ => by simp at hr
  | r0 :: rs, V, e, k + 1, 0, r, _, hr, ht, hu => by
    simp at hr
    subst hr
    rw [envAt, envAt_other rs _ _ k (fun i r' _ hr => hu (i + 1) r' (by omega) (by simpa using hr))]
    simp [ht, Env.put, Env.upd_apply]
  | r0 :: rs, V, e, k + 1, i + 1, r, hi, hr, ht, hu => by
    rw [envAt]
    exact envAt_at rs _ _ k i r (by omega) (by simpa using hr) ht (fun j r' hj hr' => hu (j + 1) r' (by omega) (by simpa using hr'))

theorem Reads.not_pend {g : Gh} {E sz : Nat} {L : List AV} {cp : Option Nat} {v : Value} (h : Reads g (.pend E sz L cp) v) : False := by cases h

end Go.Ab

/- The abstract walk, fifteenth part: a region that draws its order is sound. -/
namespace Go.Ab

def tmpsOf (l : List Operand) : List Nat := l.filterMap fun | .tmp t => some t | _ => none

def readsOf (r : RIns) : List Nat := tmpsOf r.2.2.opdsP ++ (match r.2.1 with | some p => [p.1] | none => [])

def dep (ops : Array Oper) (k j : Nat) : Bool := match ops[k]? with
  | some o => o.after.any fun e => e.on == j && Region.binds .any e
  | none => false

/-- It reads slot d as what it appends to, and nowhere else. -/
def consumes (r : RIns) (d : Nat) : Bool := (match r.2.2 with
  | .append false _ _ _ (.tmp t) x => t == d && !(tmpsOf [x]).contains d
  | _ => false) && (match r.2.1 with | some p => p.1 != d | none => true)

theorem consumes_inv {d0 : Option Nat} {gd : Option (Nat × Bool)} {ci : CI} {d : Nat} (h : consumes (d0, gd, ci) d = true) : ∃ E sz b x, ci = .append false E sz b (.tmp d) x ∧ d ∉ tmpsOf [x] := by
  unfold consumes at h
  rw [Bool.and_eq_true] at h
  replace h := h.1
  cases ci
  case append ow E sz b s x =>
    cases ow
    · cases s
      case tmp t =>
        simp only [Bool.and_eq_true, beq_iff_eq, Bool.not_eq_true'] at h
        obtain ⟨h2, h3⟩ := h
        subst h2
        exact ⟨E, sz, b, x, rfl, by simpa using h3⟩
      all_goals cases h
    · cases h
  all_goals cases h

def drawOK0 (ops : Array Oper) (m : Nat) (front : List RIns) : Bool :=
  ((List.range ops.size).all fun k => match ops[k]? with
    | some o => o.after.all fun e => !Region.binds .any e || decide (e.on < k)
    | none => true) &&
  (front.all fun r => r.1.isSome && (!isAlloc r.2.2 || r.2.1.isNone)) &&
  ((List.range m).all fun i => (List.range i).all fun j => (front[i]?.map (·.1)) != (front[j]?.map (·.1))) &&
  ((List.range m).all fun j => match front[j]? with
    | some r => (readsOf r).all fun t => (List.range m).all fun i => (front[i]?.map (·.1)) != some (some t) || (decide (i < j) && dep ops j i)
    | none => true) &&
  (front.all fun r => !isPend r.2.2 || (match r.1 with
    | some d => (front.all fun r' => !(readsOf r').contains d || consumes r' d) && decide ((front.filter fun r' => (readsOf r').contains d).length ≤ 1)
    | none => true))

/-- Behind j and not behind k there is one that waits for j. -/
def waitedFor (ops : Array Oper) (k j : Nat) : Bool := (List.range (k - j)).any fun d => dep ops (j + 1 + d) j

/-- The first m operations compute or make variables, each from what those before it that it waits for have computed; the others wait for all before them. -/
def drawOK (ops : Array Oper) (m : Nat) (front : List RIns) : Bool :=
  ((List.range ops.size).all fun k => decide (k < m) || (List.range k).all fun j => waitedFor ops k j) && drawOK0 ops m front

structure DrawOK0 (ops : Array Oper) (m : Nat) (front : List RIns) : Prop where
  edges : ∀ (k : Nat) (o : Oper) (e : Edge), ops[k]? = some o → e ∈ o.after → Region.binds .any e = true → e.on < k
  dst : ∀ (i : Nat) (r : RIns), front[i]? = some r → ∃ d, r.1 = some d
  al : ∀ (i : Nat) (r : RIns), front[i]? = some r → isAlloc r.2.2 = true → r.2.1 = none
  nodup : ∀ (i j : Nat) (r r' : RIns), i < m → j < m → front[i]? = some r → front[j]? = some r' → r.1 = r'.1 → i = j
  reads : ∀ (j : Nat) (r : RIns) (t : Nat) (i : Nat) (r' : RIns), j < m → i < m → front[j]? = some r → t ∈ readsOf r → front[i]? = some r' → r'.1 = some t → i < j ∧ dep ops j i = true
  pend : ∀ (i : Nat) (r : RIns) (d : Nat), front[i]? = some r → isPend r.2.2 = true → r.1 = some d → ∀ (j : Nat) (r' : RIns), front[j]? = some r' → d ∈ readsOf r' →
    consumes r' d = true ∧ ∀ (j' : Nat) (r'' : RIns), front[j']? = some r'' → d ∈ readsOf r'' → j' = j

theorem filter_one {α : Type} {p : α → Bool} : ∀ {l : List α} {i j : Nat} {x y : α}, (l.filter p).length ≤ 1 → l[i]? = some x → l[j]? = some y → p x = true → p y = true → i = j
  | [], _, _, _, _, _, hx, _, _, _ => by simp at hx
  | z :: l, 0, 0, _, _, _, _, _, _, _ => rfl
  | z :: l, 0, j + 1, x, y, h, hx, hy, px, py => by
    simp at hx; subst hx
    rw [List.filter_cons, if_pos px] at h
    simp only [List.length_cons] at h
    have : y ∈ l.filter p := List.mem_filter.2 ⟨List.mem_of_getElem? (by simpa using hy), py⟩
    have := List.length_pos_of_mem this
    omega
  | z :: l, i + 1, 0, x, y, h, hx, hy, px, py => by
    simp at hy; subst hy
    rw [List.filter_cons, if_pos py] at h
    simp only [List.length_cons] at h
    have : x ∈ l.filter p := List.mem_filter.2 ⟨List.mem_of_getElem? (by simpa using hx), px⟩
    have := List.length_pos_of_mem this
    omega
  | z :: l, i + 1, j + 1, x, y, h, hx, hy, px, py => by
    have h' : (l.filter p).length ≤ 1 := by
      rw [List.filter_cons] at h
      split at h
      · simp only [List.length_cons] at h; omega
      · exact h
    have := filter_one h' (i := i) (j := j) (by simpa using hx) (by simpa using hy) px py
    omega

theorem drawOK0_inv {ops : Array Oper} {m : Nat} {front : List RIns} (h : drawOK0 ops m front = true) : DrawOK0 ops m front := by
  unfold drawOK0 at h
  simp only [Bool.and_eq_true] at h
  obtain ⟨⟨⟨⟨h2, h3⟩, h4⟩, h5⟩, h6⟩ := h
  rw [List.all_eq_true] at h2 h3 h4 h5 h6
  refine ⟨fun k o e ho he hb => ?_, fun i r hr => ?_, fun i r hr ha => ?_, fun i j r r' hi hj hr hr' he => ?_, fun j r t i r' hj hi hr ht hr' he => ?_, fun i r d hr hp hd j r' hj ht => ?_⟩
  · have hk : k < ops.size := (Array.getElem?_eq_some_iff.1 ho).1
    have := h2 k (List.mem_range.2 hk)
    rw [ho] at this
    have this : o.after.all (fun e => !Region.binds .any e || decide (e.on < k)) = true := this
    rw [Array.all_eq_true_iff_forall_mem] at this
    have := this e he
    simp only [Bool.or_eq_true, Bool.not_eq_true', decide_eq_true_eq] at this
    rcases this with h | h
    · rw [hb] at h; cases h
    · exact h
  · have := h3 r (List.mem_of_getElem? hr)
    simp only [Bool.and_eq_true] at this
    exact Option.isSome_iff_exists.1 this.1
  · have := h3 r (List.mem_of_getElem? hr)
    simp only [Bool.and_eq_true, Bool.or_eq_true, Bool.not_eq_true'] at this
    rcases this.2 with h | h
    · rw [ha] at h; cases h
    · simpa using h
  · rcases Nat.lt_trichotomy i j with hlt | heq | hgt
    · have := h4 j (List.mem_range.2 hj)
      rw [List.all_eq_true] at this
      have := this i (List.mem_range.2 hlt)
      rw [hr, hr'] at this
      simp [he] at this
    · exact heq
    · have := h4 i (List.mem_range.2 hi)
      rw [List.all_eq_true] at this
      have := this j (List.mem_range.2 hgt)
      rw [hr, hr'] at this
      simp [he] at this
  · have := h5 j (List.mem_range.2 hj)
    rw [hr] at this
    have this : (readsOf r).all (fun t => (List.range m).all fun i => (front[i]?.map (·.1)) != some (some t) || (decide (i < j) && dep ops j i)) = true := this
    rw [List.all_eq_true] at this
    have := this t ht
    rw [List.all_eq_true] at this
    have := this i (List.mem_range.2 hi)
    rw [hr'] at this
    simp only [Option.map_some, he, Bool.or_eq_true, Bool.and_eq_true, decide_eq_true_eq] at this
    rcases this with h | h
    · simp at h
    · exact h
  · have := h6 r (List.mem_of_getElem? hr)
    simp only [hp, hd, Bool.not_true, Bool.false_or, Bool.and_eq_true, decide_eq_true_eq] at this
    obtain ⟨h7, h8⟩ := this
    rw [List.all_eq_true] at h7
    have h9 := h7 r' (List.mem_of_getElem? hj)
    have hc : (readsOf r').contains d = true := by simpa using ht
    simp only [hc, Bool.not_true, Bool.false_or] at h9
    refine ⟨h9, fun j' r'' hj' ht' => ?_⟩
    exact filter_one h8 hj' hj (by simpa using ht') hc

structure DrawOK (ops : Array Oper) (m : Nat) (front : List RIns) : Prop extends DrawOK0 ops m front where
  tail : ∀ (k j : Nat), k < ops.size → m ≤ k → j < k → ∃ i, j < i ∧ i ≤ k ∧ dep ops i j = true

theorem drawOK_inv {ops : Array Oper} {m : Nat} {front : List RIns} (h : drawOK ops m front = true) : DrawOK ops m front := by
  unfold drawOK at h
  simp only [Bool.and_eq_true] at h
  obtain ⟨h1, h2⟩ := h
  rw [List.all_eq_true] at h1
  refine ⟨drawOK0_inv h2, fun k j hk hm hj => ?_⟩
  have := h1 k (List.mem_range.2 hk)
  simp only [Bool.or_eq_true, decide_eq_true_eq] at this
  rcases this with h | h
  · omega
  · rw [List.all_eq_true] at h
    have := h j (List.mem_range.2 hj)
    unfold waitedFor at this
    rw [List.any_eq_true] at this
    obtain ⟨d, hd, h3⟩ := this
    have := List.mem_range.1 hd
    exact ⟨j + 1 + d, by omega, by omega, h3⟩

theorem dep_listed {ops : Array Oper} {listed : Array Bool} {k j : Nat} (hr : k ∈ Region.ready .any ops listed) (hd : dep ops k j = true) : listed.getD j false = true := by
  obtain ⟨_, o, ho, hed⟩ := mem_ready.1 hr
  unfold dep at hd
  rw [ho] at hd
  have hd : o.after.any (fun e => e.on == j && Region.binds .any e) = true := hd
  rw [Array.any_eq_true] at hd
  obtain ⟨q, hq, hh⟩ := hd
  simp only [Bool.and_eq_true, beq_iff_eq] at hh
  have := hed _ (Array.getElem_mem hq) hh.2
  rw [hh.1] at this
  exact this

/-- What waits, directly or not, for all before it, is ready when all of them are listed. -/
theorem ready_all {ops : Array Oper} {listed : Array Bool} {k : Nat} (ht : ∀ j, j < k → ∃ i, j < i ∧ i ≤ k ∧ dep ops i j = true) (hcl : ∀ i j, listed.getD i false = true → dep ops i j = true → listed.getD j false = true) (hr : k ∈ Region.ready .any ops listed) :
    ∀ (d j : Nat), j < k → k - j ≤ d → listed.getD j false = true
  | 0, j, h1, h2 => by omega
  | d + 1, j, h1, h2 => by
    obtain ⟨i, h3, h4, h5⟩ := ht j h1
    rcases Nat.lt_or_ge i k with h | h
    · exact hcl i j (ready_all ht hcl hr d i h (by omega)) h5
    · have : i = k := by omega
      subst this
      exact dep_listed hr h5
theorem dep_lt {ops : Array Oper} (he : ∀ (k : Nat) (o : Oper) (e : Edge), ops[k]? = some o → e ∈ o.after → Region.binds .any e = true → e.on < k) {i j : Nat} (h : dep ops i j = true) : j < i := by
  unfold dep at h
  cases ho : ops[i]? with
  | none => rw [ho] at h; cases h
  | some o =>
    rw [ho] at h
    have h : o.after.any (fun e => e.on == j && Region.binds .any e) = true := h
    rw [Array.any_eq_true] at h
    obtain ⟨q, hq, hh⟩ := h
    simp only [Bool.and_eq_true, beq_iff_eq] at hh
    have := he i o _ ho (Array.getElem_mem hq) hh.2
    rw [hh.1] at this
    exact this

theorem mapM_get {α β : Type} {f : α → Option β} : ∀ {l : List α} {rs : List β}, l.mapM f = some rs → rs.length = l.length ∧ ∀ (i : Nat) x, l[i]? = some x → ∃ r, rs[i]? = some r ∧ f x = some r
  | [], rs, h => by simp at h; subst h; exact ⟨rfl, fun i x hx => by simp at hx⟩
  | y :: l, rs, h => by
    simp only [List.mapM_cons, Option.bind_eq_bind, Option.pure_def, Option.bind_eq_some_iff, Option.some.injEq] at h
    obtain ⟨r, h1, rs', h2, rfl⟩ := h
    obtain ⟨h3, h4⟩ := mapM_get h2
    refine ⟨by simp [h3], fun i x hx => ?_⟩
    cases i with
    | zero => simp at hx; subst hx; exact ⟨r, rfl, h1⟩
    | succ i => exact h4 i x (by simpa using hx)

section
variable {rd : Option Nat} {P : Program} {W0 : World} {g g0 : Gh} {O OS : Heap} {w : World} {n : Nat} {a : Act} {e e0 : Env} {front : List RIns} {V : Nat → AV} {ops : Array Oper} {m : Nat} {listed : Array Bool} {idf : Nat → Nat}

/-- An operation of the front that has made an object of its own, which nothing has taken up yet. -/
def live (front : List RIns) (V : Nat → AV) (listed : Array Bool) (i : Nat) (r : RIns) : Prop :=
  listed.getD i false = true ∧ (isAlloc r.2.2 = true ∨ (isPend r.2.2 = true ∧ (∃ E sz L cp, V i = .pend E sz L cp) ∧ ∀ d, r.1 = some d → ∀ (j : Nat) r', front[j]? = some r' → listed.getD j false = true → d ∉ readsOf r'))

structure DSt (W0 : World) (n : Nat) (front : List RIns) (V : Nat → AV) (e0 : Env) (O : Heap) (listed : Array Bool) (g : Gh) (OS : Heap) (w : World) (a : Act) (idf : Nat → Nat) : Prop where
  inv : Inv W0 g OS w
  sub : O.sub OS
  size : a.tmps.size = n
  defers : Marks g a.defers
  other : ∀ t, (∀ (i : Nat) r, front[i]? = some r → r.1 ≠ some t) → Reads g (e0 t) (a.tmps.getD t undef)
  done : ∀ (i : Nat) r d, front[i]? = some r → r.1 = some d → listed.getD i false = true → (isPend r.2.2 = true → ∀ E sz L cp, V i ≠ .pend E sz L cp) → Reads g (V i) (a.tmps.getD d undef)
  al : ∀ (i : Nat) r d E sz z, front[i]? = some r → r.1 = some d → r.2.2 = .alloc E sz z → listed.getD i false = true → Reads g (.optr (idf i) sz 0 0) (a.tmps.getD d undef) ∧ OS (idf i) = some (.arr E sz [z]) ∧ O (idf i) = none
  pd : ∀ (i : Nat) r d E sz L c, front[i]? = some r → r.1 = some d → isPend r.2.2 = true → V i = .pend E sz L c → listed.getD i false = true → (∀ (j : Nat) r', front[j]? = some r' → listed.getD j false = true → d ∉ readsOf r') →
    ∃ elems, Reads g (.own (idf i) sz 0 L.length c) (a.tmps.getD d undef) ∧ OS (idf i) = some (.arr E sz elems) ∧ O (idf i) = none ∧ elems.take L.length = L
  inj : ∀ (i j : Nat) r r', front[i]? = some r → front[j]? = some r' → live front V listed i r → live front V listed j r' → idf i = idf j → i = j

theorem alloc_of {c : CI} (h : isAlloc c = true) : ∃ E sz z, c = .alloc E sz z := by
  cases c <;> first | (cases h; done) | exact ⟨_, _, _, rfl⟩

theorem DSt.some_of_live (hok : DrawOK0 ops m front) (hD : DSt W0 n front V e0 O listed g OS w a idf) {i : Nat} {r : RIns} (hr : front[i]? = some r) (hl : live front V listed i r) : OS (idf i) ≠ none := by
  obtain ⟨d, hd⟩ := hok.dst i r hr
  rcases hl with ⟨hl, ha | ⟨hp, ⟨E, sz, L, cp, hV⟩, hn⟩⟩
  · obtain ⟨E, sz, z, hc⟩ := alloc_of ha
    rw [(hD.al i r d E sz z hr hd hc hl).2.1]; simp
  · obtain ⟨elems, _, h, _⟩ := hD.pd i r d E sz L _ hr hd hp hV hl (hn d hd)
    rw [h]; simp

theorem put_getD (a : Act) (h : a.tmps.size = n) {d t : Nat} (hd : d < n) (v : Value) : (a.put (some d) v).tmps.getD t undef = if t = d then v else a.tmps.getD t undef := by
  simp only [Act.put]
  by_cases ht : t = d
  · subst ht
    have hlt : t < a.tmps.size := by omega
    simp [hlt]
  · rw [if_neg ht]
    simp [Array.getElem?_setIfInBounds_ne (Ne.symm ht)]

theorem listed_set {i j : Nat} (hi : i < listed.size) : (listed.setIfInBounds i true).getD j false = if j = i then true else listed.getD j false := by
  by_cases hji : j = i
  · subst hji; simp [hi]
  · rw [if_neg hji]; simp [Array.getElem?_setIfInBounds_ne (Ne.symm hji)]

theorem oper_out {b : Bool} {o : Oper} {ci : CI} {K : AV → Heap → Prop} {next : Act → World → Prop} {Q : Exit → Act → World → Prop} (hc : compileOpD P b o = some ci)
    (hI : Inv W0 g OS w) (hr : ∀ x, Reads g (e.opd x) (a.eval x)) (h : CiSem P ci e OS K) (hn : ∀ v w', Out W0 g K v w' → next (a.put o.dst v) w') : o.wpIn (FW rd) 0 P a w next Q := by
  rcases compileOpD_inv hc with hc | rfl
  rotate_left
  · obtain ⟨r, hr, _⟩ := h
    cases hr
  have hop := op_sound (K := K) hc h g W0 w a.eval hI hr
  rw [oper_FW (compileOp_nodefer hc)]
  refine ⟨fun _ _ => trivial, ?_⟩
  split at hop
  · rename_i v w' heq
    rw [heq]
    exact hn v w' hop
  · rename_i w' heq
    rw [heq]
    exact hn undef w' hop
  · rename_i f args w' heq
    rw [heq]
    refine ⟨fun h => (by cases h), callsIn_FW.2 (hop.mono fun en w'' ⟨v, hv, ho⟩ => ?_)⟩
    subst hv
    exact hn v w'' ho
  · rename_i l f tmps asg body w' heq
    rw [heq]
    refine ⟨fun h => (by cases h), roundIn_FW (hop.mono fun en w'' ⟨v, hv, ho⟩ => ?_)⟩
    subst hv
    exact hn v w'' ho
  · exact hop.elim

theorem mem_tmpsOf {l : List Operand} {t : Nat} : t ∈ tmpsOf l ↔ Operand.tmp t ∈ l := by
  unfold tmpsOf
  rw [List.mem_filterMap]
  constructor
  · rintro ⟨x, hx, h⟩
    cases x <;> simp at h
    subst h; exact hx
  · intro h
    exact ⟨_, h, rfl⟩

theorem draw_step {ow : List Nat} {next : Act → World → Prop} {Q : Exit → Act → World → Prop} (hok : DrawOK0 ops m front) (hm : m ≤ ops.size) (hfl : front.length = m)
    (hcomp : ∀ (i : Nat) o, i < m → ops[i]? = some o → ∃ r, front[i]? = some r ∧ compileOper P n ow ops o = some r)
    (hsteps : ∀ (i : Nat) r, front[i]? = some r → stepOK P O (envAt V e0 front i) r (V i))
    (hls : listed.size = ops.size) (hD : DSt W0 n front V e0 O listed g OS w a idf) {i : Nat} (hi : i < m) (hready : i ∈ Region.ready .any ops listed)
    (hn : ∀ g' OS' w' a' idf', g.le g' → DSt W0 n front V e0 O (listed.setIfInBounds i true) g' OS' w' a' idf' → next a' w') : wpOpIn (FW rd) 0 P ops Q i next a w := by
  obtain ⟨hun, o, ho, hedges⟩ := mem_ready.1 hready
  obtain ⟨⟨d0, gd, ci⟩, hr, hco⟩ := hcomp i o hi ho
  obtain ⟨rfl, hdn, ⟨b, hb⟩, hg⟩ := compileOper_inv hco
  have hstep := hsteps i _ hr
  obtain ⟨d, hd0⟩ := hok.dst i _ hr
  have hd : o.dst = some d := hd0
  clear hd0
  have hdn := hdn d hd
  have hil : i < listed.size := by omega
  have hiun : listed.getD i false = false := by simp [hil] at hun ⊢; exact hun
  have hfm : ∀ {j : Nat} {r'}, front[j]? = some r' → j < m := fun h => by rw [← hfl]; exact (List.getElem?_eq_some_iff.1 h).1
  -- what is read has been computed
  have hlisted : ∀ t, t ∈ readsOf (o.dst, gd, ci) → ∀ j r', front[j]? = some r' → r'.1 = some t → j < i ∧ listed.getD j false = true ∧ envAt V e0 front i t = V j := by
    intro t ht j r' hj hjt
    obtain ⟨hji, hdep⟩ := hok.reads i _ t j r' hi (hfm hj) hr ht hj hjt
    refine ⟨hji, ?_, ?_⟩
    · unfold dep at hdep
      rw [ho] at hdep
      have hdep : o.after.any (fun e => e.on == j && Region.binds .any e) = true := hdep
      rw [Array.any_eq_true] at hdep
      obtain ⟨q, hq, hh⟩ := hdep
      obtain ⟨ed, hed, hh⟩ : ∃ ed ∈ o.after, (ed.on == j && Region.binds .any ed) = true := ⟨o.after[q], Array.getElem_mem hq, hh⟩
      simp only [Bool.and_eq_true, beq_iff_eq] at hh
      rw [← hh.1]
      exact hedges ed hed hh.2
    · exact envAt_at front V e0 i j r' hji hj hjt (fun k r'' hk hr'' hkt => hk (hok.nodup k j r'' r' (hfm hr'') (hfm hj) hr'' hj (hkt.trans hjt.symm)))
  have hread : ∀ t, t ∈ readsOf (o.dst, gd, ci) → (∀ j r' E sz L cp, front[j]? = some r' → r'.1 = some t → isPend r'.2.2 = true → V j ≠ .pend E sz L cp) → Reads g (envAt V e0 front i t) (a.tmps.getD t undef) := by
    intro t ht hnp
    rcases Classical.em (∃ (j : Nat) (r' : RIns), front[j]? = some r' ∧ r'.1 = some t) with ⟨j, r', hj, hjt⟩ | hno
    · obtain ⟨hji, hlj, he⟩ := hlisted t ht j r' hj hjt
      rw [he]
      exact hD.done j r' t hj hjt hlj (fun hp E sz L cp => hnp j r' E sz L cp hj hjt hp)
    · rw [envAt_other front V e0 i (fun j r' _ hj hjt => hno ⟨j, r', hj, hjt⟩)]
      exact hD.other t (fun j r' hj hjt => hno ⟨j, r', hj, hjt⟩)
  have lmono : ∀ {j : Nat} {r'}, j ≠ i → live front V (listed.setIfInBounds i true) j r' → live front V listed j r' := by
    intro j r' hji ⟨hl, h⟩
    rw [listed_set hil, if_neg hji] at hl
    refine ⟨hl, h.imp id fun ⟨hp, hV, hn⟩ => ⟨hp, hV, fun d' hd' k r'' hk hkl => hn d' hd' k r'' hk ?_⟩⟩
    rw [listed_set hil]
    split
    · rfl
    · exact hkl
  -- what is left
  have keep : ∀ {g' : Gh} {OS' : Heap} {w' : World} {v : Value} {idf' : Nat → Nat}, g.le g' → Inv W0 g' OS' w' → O.sub OS' →
      (∀ j r', j ≠ i → front[j]? = some r' → live front V listed j r' → live front V (listed.setIfInBounds i true) j r' → OS' (idf j) = OS (idf j)) →
      ((isPend ci = true → ∀ E sz L cp, V i ≠ .pend E sz L cp) → Reads g' (V i) v) →
      (∀ E sz z, ci = .alloc E sz z → Reads g' (.optr (idf' i) sz 0 0) v ∧ OS' (idf' i) = some (.arr E sz [z]) ∧ OS (idf' i) = none) →
      (∀ E sz L c, isPend ci = true → V i = .pend E sz L c → ∃ elems, Reads g' (.own (idf' i) sz 0 L.length c) v ∧ OS' (idf' i) = some (.arr E sz elems) ∧ OS (idf' i) = none ∧ elems.take L.length = L) →
      (∀ j, j ≠ i → idf' j = idf j) → DSt W0 n front V e0 O (listed.setIfInBounds i true) g' OS' w' (a.put (some d) v) idf' := by
    intro g' OS' w' v idf' hle hI hsub hkeep hv hal hpd hid
    have hnone : ∀ k, OS k = none → O k = none := fun k hk => by
      cases hO : O k with
      | none => rfl
      | some o' => rw [hD.sub _ _ hO] at hk; cases hk
    have hdne : ∀ {j : Nat} {r' d'}, j ≠ i → front[j]? = some r' → r'.1 = some d' → d' ≠ d := fun {j r' d'} hji hj hjd e => hji (hok.nodup j i r' _ (hfm hj) hi hj hr (by rw [hjd, e]; exact hd.symm))
    refine ⟨hI, hsub, by simp [Act.put, hD.size], hD.defers.mono hle, fun t ht => ?_, fun j r' d' hj hjd hl hnp => ?_, fun j r' d' E sz z hj hjd hjc hl => ?_, fun j r' d' E sz L c hj hjd hp hV hl hno => ?_, fun j k r1 r2 hj hk l1 l2 he => ?_⟩
    · rw [put_getD a hD.size hdn]
      have hne : t ≠ d := fun e => ht i _ hr (by rw [e]; exact hd)
      rw [if_neg hne]
      exact (hD.other t ht).mono hle
    · rw [put_getD a hD.size hdn]
      rw [listed_set hil] at hl
      by_cases hji : j = i
      · subst hji
        rw [hr] at hj
        cases hj
        have : d' = d := by rw [hd] at hjd; cases hjd; rfl
        rw [if_pos this]
        exact hv hnp
      · rw [if_neg hji] at hl
        rw [if_neg (hdne hji hj hjd)]
        exact (hD.done j r' d' hj hjd hl hnp).mono hle
    · rw [put_getD a hD.size hdn]
      have hl0 := hl
      rw [listed_set hil] at hl
      by_cases hji : j = i
      · subst hji
        rw [hr] at hj
        cases hj
        have : d' = d := by rw [hd] at hjd; cases hjd; rfl
        rw [if_pos this]
        obtain ⟨p1, p2, p3⟩ := hal E sz z hjc
        exact ⟨p1, p2, hnone _ p3⟩
      · rw [if_neg hji] at hl
        rw [if_neg (hdne hji hj hjd), hid j hji]
        obtain ⟨p1, p2, p3⟩ := hD.al j r' d' E sz z hj hjd hjc hl
        have ha : isAlloc r'.2.2 = true := by rw [hjc]; rfl
        exact ⟨p1.mono hle, by rw [hkeep j r' hji hj ⟨hl, .inl ha⟩ ⟨hl0, .inl ha⟩]; exact p2, p3⟩
    · rw [put_getD a hD.size hdn]
      have hl0 := hl
      rw [listed_set hil] at hl
      by_cases hji : j = i
      · subst hji
        rw [hr] at hj
        cases hj
        have : d' = d := by rw [hd] at hjd; cases hjd; rfl
        rw [if_pos this]
        obtain ⟨elems, p1, p2, p3, p4⟩ := hpd E sz L c hp hV
        exact ⟨elems, p1, p2, hnone _ p3, p4⟩
      · rw [if_neg hji] at hl
        rw [if_neg (hdne hji hj hjd), hid j hji]
        have hl1 : live front V (listed.setIfInBounds i true) j r' := ⟨hl0, .inr ⟨hp, ⟨E, sz, L, c, hV⟩, fun d2 hd2 => by rw [hjd] at hd2; cases hd2; exact hno⟩⟩
        have hl2 := lmono hji hl1
        obtain ⟨elems, p1, p2, p3, p4⟩ := hD.pd j r' d' E sz L c hj hjd hp hV hl (fun k r'' hk hkl => hno k r'' hk (by rw [listed_set hil]; split <;> simp [*]))
        exact ⟨elems, p1.mono hle, by rw [hkeep j r' hji hj hl2 hl1]; exact p2, p3, p4⟩
    · have new : ∀ r1, front[i]? = some r1 → live front V (listed.setIfInBounds i true) i r1 → OS (idf' i) = none := fun r1 h1 ⟨_, h⟩ => by
        rw [hr] at h1
        cases h1
        rcases h with ha | ⟨hp, ⟨E, sz, L, cp, hV⟩, _⟩
        · obtain ⟨E, sz, z, hc⟩ := alloc_of ha
          exact (hal E sz z hc).2.2
        · obtain ⟨_, _, _, h, _⟩ := hpd E sz L _ hp hV
          exact h
      by_cases hji : j = i
      · by_cases hki : k = i
        · exact hji.trans hki.symm
        · subst hji
          have h1 := new r1 hj l1
          have h2 := hD.some_of_live hok hk (lmono hki l2)
          rw [hid k hki] at he
          rw [he] at h1
          exact absurd h1 h2
      · by_cases hki : k = i
        · subst hki
          have h1 := new r2 hk l2
          have h2 := hD.some_of_live hok hj (lmono hji l1)
          rw [hid j hji] at he
          rw [← he] at h1
          exact absurd h1 h2
        · rw [hid j hji, hid k hki] at he
          exact hD.inj j k r1 r2 hj hk (lmono hji l1) (lmono hki l2) he
  -- the operation carried out
  have run : drawFun P ci (envAt V e0 front i) O (V i) → o.wpIn (FW rd) 0 P a w next Q := by
    intro hf
    rcases Classical.em (∃ t j r' E sz L c, t ∈ tmpsOf ci.opdsP ∧ front[j]? = some r' ∧ r'.1 = some t ∧ isPend r'.2.2 = true ∧ V j = .pend E sz L c) with ⟨t, j, r', E, sz, L, c, ht, hj, hjt, hjp, hjV⟩ | hno
    · -- what a new array is appended to
      obtain ⟨hcons, huniq⟩ := hok.pend j r' t hj hjp hjt i _ hr (List.mem_append_left _ ht)
      obtain ⟨E1, sz1, by1, x, rfl, hxt⟩ : ∃ E1 sz1 by1 x, ci = .append false E1 sz1 by1 (.tmp t) x ∧ t ∉ tmpsOf [x] := by
        exact consumes_inv hcons
      obtain ⟨hji, hlj, hej⟩ := hlisted t (List.mem_append_left _ ht) j r' hj hjt
      have hnoread : ∀ (k : Nat) r'', front[k]? = some r'' → listed.getD k false = true → t ∉ readsOf r'' := fun k r'' hk hkl hm => by
        have := huniq k r'' hk hm
        rw [this, hiun] at hkl; cases hkl
      obtain ⟨elems, p1, p2, p3, p4⟩ := hD.pd j r' t E sz L c hj hjt hjp hjV hlj hnoread
      have hf : AppendPure E1 sz1 by1 (envAt V e0 front i t) ((envAt V e0 front i).opd x) O (V i) := hf
      rw [hej, hjV] at hf
      obtain ⟨X, hX, h1, h2, h3, hV⟩ := hf
      subst h1 h2
      let e1 : Env := fun u => if u = t then .own (idf j) sz 0 L.length c else if u ∈ tmpsOf [x] then envAt V e0 front i u else .junk
      have hre : ∀ y, Reads g (e1.opd y) (a.eval y) := by
        intro y
        cases y with
        | tmp u =>
          show Reads g (if u = t then .own (idf j) sz 0 L.length c else if u ∈ tmpsOf [x] then envAt V e0 front i u else .junk) (a.tmps.getD u undef)
          split
          · rename_i hu; rw [hu]; exact p1
          · split
            · rename_i hut hu
              have hu' : u ∈ readsOf (o.dst, gd, CI.append false E sz by1 (.tmp t) x) := by
                refine List.mem_append_left _ (mem_tmpsOf.2 ?_)
                have := mem_tmpsOf.1 hu
                simp only [CI.opdsP, CI.opds, List.mem_cons, List.not_mem_nil, or_false] at this ⊢
                exact .inr this
              refine hread u hu' fun j2 r2 E2 sz2 L2 cp2 hj2 hj2t hp2 hV2 => ?_
              have := (hok.pend j2 r2 u hj2 hp2 hj2t i _ hr hu').1
              unfold consumes at this
              simp only [Bool.and_eq_true, beq_iff_eq] at this
              exact hut this.1.1.symm
            · exact .junk _
        | const v => exact .val v
        | global g' => exact .val _
        | func f => exact .clo _ _ _ _ _ rfl rfl (fun i x v hx => by simp at hx) (fun i x v hx => by simp at hx)
      have hxe : e1.opd x = (envAt V e0 front i).opd x := by
        cases x with
        | tmp u =>
          have hut : u ≠ t := fun e => hxt (by rw [e]; simp [tmpsOf])
          show (if u = t then _ else if u ∈ tmpsOf [Operand.tmp u] then envAt V e0 front i u else .junk) = envAt V e0 front i u
          rw [if_neg hut, if_pos (by simp [tmpsOf])]
        | const v => rfl
        | global g' => rfl
        | func f => rfl
      have hlen : L.length ≤ elems.length := by
        have := congrArg List.length p4
        simp at this; omega
      have hsem : CiSem P (.append false E sz by1 (.tmp t) x) e1 OS (fun r O' => ∃ id' c' elems', (id' = idf j ∨ OS id' = none) ∧ r = .own id' sz 0 (L.length + X.length) c' ∧ (∀ k, k ≠ idf j → k ≠ id' → O' k = OS k) ∧ O' id' = some (.arr E sz elems') ∧
          elems'.take (L.length + X.length) = L ++ X ∧ (decide (c = some (L.length + X.length)) = true → c' = some (L.length + X.length))) := by
        show AppendSem false E sz by1 (e1 t) (e1.opd x) OS _
        refine ⟨X, by rw [hxe]; exact elemsA_mono hD.sub hX, ?_⟩
        have : e1 t = .own (idf j) sz 0 L.length c := if_pos rfl
        rw [this]
        refine ⟨elems, p2, rfl, hlen, h3, ?_⟩
        by_cases hct : c = some (L.length + X.length)
        · refine .inr ⟨L.length + X.length, hct, Nat.le_refl _, idf j, some (L.length + X.length), _, .inl rfl, rfl, fun k hk _ => Heap.upd_ne _ _ hk, Heap.upd_same _ _ _, ?_, fun _ => rfl⟩
          rw [p4, ← List.length_append, List.take_left]
        · refine .inl fun id' hid' => WeakR.now ⟨id', none, _, .inr hid', rfl, fun k hk hk' => by rw [Heap.upd_ne _ _ hk', Heap.del_ne _ hk], Heap.upd_same _ _ _, ?_, fun h => absurd (of_decide_eq_true h) hct⟩
          rw [p4, ← List.length_append, List.take_length]
      refine oper_out hb hD.inv hre hsem fun v w' ⟨g', r, O', q1, q2, q3, id', c', elems', q4, q5, q6, q6b, q6c, q6d⟩ => ?_
      subst q5
      obtain ⟨g'', q7, q8, q9⟩ := freeze_sound q2 q6b
      have q10 := q9 _ _ v (.own 0 (L.length + X.length) c' (decide (c = some (L.length + X.length))) (by
        have := congrArg List.length q6c
        simp at this; omega) q6d) q3
      rw [List.drop_zero, q6c] at q10
      rw [hd]
      have hjlive : live front V listed j r' := ⟨hlj, .inr ⟨hjp, ⟨E, sz, L, c, hjV⟩, fun d2 hd2 => by rw [hjt] at hd2; cases hd2; exact hnoread⟩⟩
      refine hn g'' _ w' _ idf (q1.trans q7) (keep (q1.trans q7) q8 (fun k o' hk => ?_) (fun j2 r2 hji2 hj2 hl2 hl2' => ?_) (fun _ => by rw [hV]; exact q10) (fun E' sz' z' hc => by cases hc) (fun E' sz' L' cp' hp' => by cases hp') (fun _ _ => rfl))
      · have h4 := hD.sub _ _ hk
        have hk1 : k ≠ idf j := fun e => by rw [e, p3] at hk; cases hk
        have hk2 : k ≠ id' := fun e => by
          rcases q4 with q4 | q4
          · exact hk1 (e.trans q4)
          · rw [e, q4] at h4; cases h4
        rw [Heap.del_ne _ hk2, q6 k hk1 hk2]
        exact h4
      · have hne1 : idf j2 ≠ idf j := fun e => by
          have hjj : j2 = j := hD.inj j2 j r2 r' hj2 hj hl2 hjlive e
          subst hjj
          rw [hj] at hj2
          cases hj2
          obtain ⟨_, ha | ⟨_, _, hno⟩⟩ := hl2'
          · obtain ⟨_, _, _, hc⟩ := alloc_of ha
            rw [hc] at hjp; cases hjp
          · exact hno t hjt i _ hr (by rw [listed_set hil, if_pos rfl]) (List.mem_append_left _ ht)
        have hne2 : idf j2 ≠ id' := fun e => by
          rcases q4 with q4 | q4
          · exact hne1 (e.trans q4)
          · exact hD.some_of_live hok hj2 hl2 (by rw [e]; exact q4)
        rw [Heap.del_ne _ hne2, q6 _ hne1 hne2]
    have hread' : ∀ t, t ∈ tmpsOf ci.opdsP → Reads g (envAt V e0 front i t) (a.tmps.getD t undef) := fun t ht => hread t (List.mem_append_left _ ht) fun j r' E sz L cp hj hjt hp hV => hno ⟨t, j, r', E, sz, L, cp, ht, hj, hjt, hp, hV⟩
    let e' : Env := fun t => if t ∈ tmpsOf ci.opdsP then envAt V e0 front i t else .junk
    have hre : ∀ x, Reads g (e'.opd x) (a.eval x) := by
      intro x
      cases x with
      | tmp t =>
        show Reads g (if t ∈ tmpsOf ci.opdsP then envAt V e0 front i t else .junk) (a.tmps.getD t undef)
        split
        · rename_i hmem
          exact hread' t hmem
        · exact .junk _
      | const v => exact .val v
      | global g' => exact .val _
      | func f => exact .clo _ _ _ _ _ rfl rfl (fun i x v hx => by simp at hx) (fun i x v hx => by simp at hx)
    have hopd : ∀ x ∈ ci.opdsP, (envAt V e0 front i).opd x = e'.opd x := by
      intro x hx
      cases x with
      | tmp t => show envAt V e0 front i t = (if t ∈ tmpsOf ci.opdsP then envAt V e0 front i t else .junk); rw [if_pos (mem_tmpsOf.2 hx)]
      | const v => rfl
      | global g' => rfl
      | func f => rfl
    cases hal : isAlloc ci with
    | false =>
      cases hpe : isPend ci with
      | false =>
        have hnp : ∀ E sz b s x, ci = .append false E sz b s x → ∀ E' s' L cp, (envAt V e0 front i).opd s ≠ .pend E' s' L cp := fun E sz b s x hc E' s' L cp he => by
          have h1 := hre s
          rw [← hopd s (by rw [hc]; simp [CI.opdsP, CI.opds]), he] at h1
          exact h1.not_pend
        have hsem := drawFun_sem hf hal hpe hnp (fun x hx => hopd x (opds_sub hx)) hD.sub
        refine oper_out hb hD.inv hre hsem fun v w' ⟨g', r, O', h1, h2, h3, h4, h5⟩ => ?_
        subst h4 h5
        rw [hd]
        refine hn g' O' w' _ idf h1 (keep h1 h2 hD.sub (fun _ _ _ _ _ _ => rfl) (fun _ => h3) (fun E sz z hc => ?_) (fun E sz L cp hp => ?_) (fun _ _ => rfl))
        · rw [hc] at hal
          cases hal
        · rw [hpe] at hp; cases hp
      | true =>
        have hsem := drawPend_sem hf hpe hopd hD.sub
        refine oper_out hb hD.inv hre hsem fun v w' ⟨g', r, O', h1, h2, h3, h4⟩ => ?_
        rw [hd]
        rcases h4 with ⟨hnp, h4, h5⟩ | ⟨E, sz, L, id, c, elems, hV, hid, h4, h5, h6⟩
        · subst h4 h5
          refine hn g' O' w' _ idf h1 (keep h1 h2 hD.sub (fun _ _ _ _ _ _ => rfl) (fun _ => h3) (fun E sz z hc => ?_) (fun E sz L cp _ hV => absurd hV (hnp E sz L cp)) (fun _ _ => rfl))
          rw [hc] at hal
          cases hal
        · subst h4 h5
          refine hn g' _ w' _ (fun j => if j = i then id else idf j) h1 (keep h1 h2 (fun k o' hk => ?_) (fun j r' hji hj hl _ => ?_) (fun hnp => absurd hV (hnp hpe E sz L _)) (fun E sz z hc => ?_) (fun E2 sz2 L2 c2 _ hV2 => ?_) (fun j hj => if_neg hj))
          · have h7 := hD.sub _ _ hk
            rw [Heap.upd_ne _ _ (fun e => by rw [e, hid] at h7; cases h7)]
            exact h7
          · rw [Heap.upd_ne _ _ (fun e => hD.some_of_live hok hj hl (by rw [e]; exact hid))]
          · rw [hc] at hal
            cases hal
          · rw [hV] at hV2
            cases hV2
            simp only [if_true]
            exact ⟨elems, h3, Heap.upd_same _ _ _, hid, h6⟩
    | true =>
      obtain ⟨E, sz, z, rfl⟩ := alloc_of hal
      have hV : V i = .junk := hf
      have hsem : CiSem P (.alloc E sz z) e' OS (fun r O' => ∃ id, OS id = none ∧ r = .optr id sz 0 0 ∧ O' = OS.upd id (.arr E sz [z])) := fun id hid => ⟨id, hid, rfl, rfl⟩
      refine oper_out hb hD.inv hre hsem fun v w' ⟨g', r, O', h1, h2, h3, id, h4, h5, h6⟩ => ?_
      subst h5 h6
      rw [hd]
      refine hn g' _ w' _ (fun j => if j = i then id else idf j) h1 (keep h1 h2 (fun k o' hk => ?_) (fun j r' hji hj hl _ => ?_) (fun _ => by rw [hV]; exact .junk _) (fun E' sz' z' hc => ?_) (fun E sz L cp hp => by cases hp) (fun j hj => if_neg hj))
      · have h7 := hD.sub _ _ hk
        rw [Heap.upd_ne _ _ (fun e => by rw [e, h4] at h7; cases h7)]
        exact h7
      · rw [Heap.upd_ne _ _ (fun e => hD.some_of_live hok hj hl (by rw [e]; exact h4))]
      · cases hc
        simp only [if_true]
        exact ⟨h3, Heap.upd_same _ _ _, h4⟩
  unfold wpOpIn
  rw [ho]
  simp only []
  unfold stepOK at hstep
  rcases hg with ⟨hg, rfl⟩ | ⟨j, want, s, hg, rfl, hs, hsn⟩
  · rw [if_pos (wanted_none hg _)]
    exact run hstep
  · obtain ⟨bb, hbb, hcase⟩ := hstep
    have hrs := hread s (List.mem_append_right _ (by simp)) fun j2 r2 E2 sz2 L2 cp2 hj2 hj2t hp2 _ => by
      have := (hok.pend j2 r2 s hj2 hp2 hj2t i _ hr (List.mem_append_right _ (by simp))).1
      unfold consumes at this
      simp at this
    rw [hbb] at hrs
    have hw := wanted_some hg hs hsn hD.size hrs.val_inv
    rcases hcase with ⟨hbw, hf⟩ | ⟨hbw, hV⟩
    · rw [if_pos (hw.1 hbw)]
      exact run hf
    · rw [if_neg (by rw [hw.2 hbw]; simp), hd]
      refine ⟨fun _ _ => trivial, ?_⟩
      refine hn g OS w _ idf (.refl g) (keep (.refl g) hD.inv hD.sub (fun _ _ _ _ _ _ => rfl) (fun _ => by rw [hV]; exact .val _) (fun E sz z hc => ?_) (fun E sz L cp _ hp => by rw [hV] at hp; cases hp) (fun _ _ => rfl))
      have := hok.al i _ hr (by rw [hc]; rfl)
      cases this

/-- Slots that hold nothing any more. -/
def killE : List Nat → Env → Env
  | [], e => e
  | d :: L, e => (killE L e).upd d .junk

theorem killE_mem : ∀ {L : List Nat} {e : Env} {t : Nat}, t ∈ L → killE L e t = .junk
  | d :: L, e, t, h => by
    show (killE L e).upd d .junk t = .junk
    rw [Env.upd_apply]
    split
    · rfl
    · rename_i hne
      rw [List.mem_cons] at h
      exact killE_mem (h.resolve_left hne)
theorem killE_not : ∀ {L : List Nat} {e : Env} {t : Nat}, t ∉ L → killE L e t = e t
  | [], e, t, _ => rfl
  | d :: L, e, t, h => by
    rw [List.mem_cons, not_or] at h
    show (killE L e).upd d .junk t = e t
    rw [Env.upd_apply, if_neg h.1]
    exact killE_not h.2

def pendDsts (front : List RIns) : List Nat := front.filterMap fun r => if isPend r.2.2 then r.1 else none

theorem mem_pendDsts {front : List RIns} {i : Nat} {r : RIns} {d : Nat} (hr : front[i]? = some r) (hp : isPend r.2.2 = true) (hd : r.1 = some d) : d ∈ pendDsts front := by
  unfold pendDsts
  rw [List.mem_filterMap]
  exact ⟨r, List.mem_of_getElem? hr, by simp [hp, hd]⟩

end
end Go.Ab

/- The abstract walk, sixteenth part: the whole of a region that draws its order. -/
namespace Go.Ab

def allocsOf (front : List RIns) : List RIns := front.filter fun r => isAlloc r.2.2

section
variable {rd : Option Nat} {P : Program} {W0 : World} {g g0 : Gh} {O OS : Heap} {w : World} {n : Nat} {a : Act} {e e0 : Env} {front : List RIns} {V : Nat → AV} {ops : Array Oper} {m : Nat} {listed : Array Bool} {idf : Nat → Nat}

/-- The variables that the front has made get their names. -/
theorem allocs_run {tail : List RIns} {K : Env → Heap → Prop} : ∀ (A : List (RIns × Nat)) (e : Env) (O1 : Heap),
    (∀ r i, (r, i) ∈ A → isAlloc r.2.2 = true ∧ r.2.1 = none ∧ (∃ d E sz z, r.1 = some d ∧ r.2.2 = .alloc E sz z ∧ Reads g (.optr (idf i) sz 0 0) (a.tmps.getD d undef) ∧ OS (idf i) = some (.arr E sz [z]))) →
    (A.map (fun p => idf p.2)).Nodup → (∀ r i, (r, i) ∈ A → O1 (idf i) = none) → O1.sub OS → (∀ t, Reads g (e t) (a.tmps.getD t undef)) → opsW P (A.map (·.1) ++ tail) K e O1 →
    ∃ e' O2, O2.sub OS ∧ (∀ t, Reads g (e' t) (a.tmps.getD t undef)) ∧ opsW P tail K e' O2
  | [], e, O1, _, _, _, hs, hr, h => ⟨e, O1, hs, hr, by simpa using h⟩
  | (r, i) :: A, e, O1, hA, hnd, hO, hs, hr, h => by
    obtain ⟨_, hg, d, E, sz, z, hd, hc, h1, h2⟩ := hA r i (by simp)
    obtain ⟨rd, rg, rc⟩ := r
    simp only at hd hg hc
    subst hd hg hc
    simp only [List.map_cons, List.cons_append] at h
    rw [opsW_cons] at h
    have h3 := h (idf i) (hO (some d, none, .alloc E sz z) i (by simp))
    rw [opK_apply] at h3
    simp only [List.map_cons, List.nodup_cons] at hnd
    refine allocs_run A _ _ (fun r' i' hm => hA r' i' (by simp [hm])) hnd.2 (fun r' i' hm => ?_) (fun k o hk => ?_) (fun t => ?_) h3
    · rw [Heap.upd_ne]
      · exact hO r' i' (by simp [hm])
      · intro he
        exact hnd.1 (List.mem_map.2 ⟨(r', i'), hm, he⟩)
    · rw [Heap.upd_apply] at hk
      split at hk
      · rename_i hki
        cases hk
        rw [hki]; exact h2
      · exact hs k o hk
    · simp only [Env.put, Env.upd_apply]
      split
      · rename_i ht; rw [ht]; exact h1
      · exact hr t

/-- What comes behind the front, in its order. -/
theorem tail_sound {ow : List Nat} {K : Env → Heap → Prop} {Q : Exit → Act → World → Prop} (hQ : ∀ a w, Post W0 g0 n K a w → Q .normal a w) (hok : DrawOK ops m front) :
    ∀ (q k : Nat) (rs : List RIns) (listed : Array Bool) (g : Gh) (O : Heap) (w : World) (a : Act) (e : Env), k + q = ops.size → m ≤ k → listed.size = ops.size → (∀ j, j < ops.size → (listed.getD j false = true ↔ j < k)) →
      (ops.toList.drop k).mapM (compileOper P n ow ops) = some rs → g0.le g → St W0 g O w n a e → opsW P rs K e O → wpAnyIn (FW rd) 0 P .any ops Q q listed a w
  | 0, k, rs, listed, g, O, w, a, e, hk, hm, hls, hl, hc, hle, hS, h => by
    have : ops.toList.drop k = [] := List.drop_eq_nil_of_le (by simp; omega)
    rw [this] at hc
    simp at hc
    subst hc
    rw [opsW_nil] at h
    refine ⟨?_, hQ _ _ ⟨g, e, O, hle, hS, h⟩⟩
    rw [List.eq_nil_iff_forall_not_mem]
    intro j hj
    obtain ⟨hun, o, ho, _⟩ := mem_ready.1 hj
    have hjs : j < ops.size := (Array.getElem?_eq_some_iff.1 ho).1
    have := (hl j hjs).2 (by omega)
    have hlt : j < listed.size := by omega
    simp [hlt] at hun this
    rw [hun] at this
    cases this
  | q + 1, k, rs, listed, g, O, w, a, e, hk, hm, hls, hl, hc, hle, hS, h => by
    have hlt : k < ops.size := by omega
    have ho : ops[k]? = some ops[k] := Array.getElem?_eq_getElem hlt
    have hkready : k ∈ Region.ready .any ops listed := by
      refine mem_ready.2 ⟨?_, _, ho, fun ed hed hb => ?_⟩
      · have := hl k hlt
        have hkl : k < listed.size := by omega
        simp [hkl] at this ⊢
        exact this
      · have := hok.edges k _ ed ho hed hb
        exact (hl ed.on (by omega)).2 this
    refine ⟨fun he => (by rw [he] at hkready; cases hkready), fun i hi => ?_⟩
    have hik : i = k := by
      obtain ⟨hun, o, hoi, hed⟩ := mem_ready.1 hi
      have his : i < ops.size := (Array.getElem?_eq_some_iff.1 hoi).1
      have hige : k ≤ i := by
        rcases Nat.lt_or_ge i k with h' | h'
        · have := (hl i his).2 h'
          have hil : i < listed.size := by omega
          simp [hil] at hun this
          rw [hun] at this; cases this
        · exact h'
      rcases Nat.eq_or_lt_of_le hige with h' | h'
      · exact h'.symm
      · have hcl : ∀ i j, listed.getD i false = true → dep ops i j = true → listed.getD j false = true := fun i j h1 h2 => by
          have h3 := dep_lt hok.edges h2
          have h4 : i < ops.size := Nat.lt_of_not_le fun h => by
            have : listed.getD i false = false := by
              have : listed.size ≤ i := by omega
              simp [Array.getD, Nat.not_lt.2 this]
            rw [this] at h1; cases h1
          exact (hl j (by omega)).2 (by have := (hl i h4).1 h1; omega)
        have := ready_all (fun j hj => hok.tail i j his (by omega) hj) hcl hi (i - k) k h' (Nat.le_refl _)
        have := (hl k hlt).1 this
        omega
    subst hik
    have hdrop : ops.toList.drop i = ops[i] :: ops.toList.drop (i + 1) := by
      rw [List.drop_eq_getElem_cons (by simpa using hlt)]
      simp
    rw [hdrop] at hc
    simp only [List.mapM_cons, Option.bind_eq_bind, Option.pure_def, Option.bind_eq_some_iff, Option.some.injEq] at hc
    obtain ⟨⟨d, gd, ci⟩, h1, rs', h2, rfl⟩ := hc
    obtain ⟨rfl, hd, ⟨b, hb⟩, hg⟩ := compileOper_inv h1
    have hl' : ∀ j, j < ops.size → ((listed.setIfInBounds i true).getD j false = true ↔ j < i + 1) := fun j hj => by
      rw [listed_set (by omega)]
      split
      · simp [*]
      · rw [hl j hj]; omega
    unfold wpOpIn
    rw [ho]
    simp only []
    rcases hg with ⟨hg, rfl⟩ | ⟨j, want, s, hg, rfl, hs, hsn⟩
    · rw [opsW_cons] at h
      rw [if_pos (wanted_none hg _)]
      refine (oper_sound hb hd hS h fun g' r O' w' v h1 h2' h3 => ?_)
      exact tail_sound hQ hok q (i + 1) rs' _ g' O' w' _ _ (by omega) (by omega) (by simpa using hls) hl' h2 (hle.trans h1) h2' h3
    · rw [opsW_guard] at h
      unfold guardW at h
      split at h
      · rename_i bb hbb
        have hr := hS.reads s
        rw [hbb] at hr
        have hw := wanted_some hg hs hsn hS.size hr.val_inv
        rcases Classical.em (bb = .bool want) with hbw | hbw
        · rw [if_pos (hw.1 hbw)]
          refine (oper_sound hb hd hS (h.1 hbw) fun g' r O' w' v h1 h2' h3 => ?_)
          exact tail_sound hQ hok q (i + 1) rs' _ g' O' w' _ _ (by omega) (by omega) (by simpa using hls) hl' h2 (hle.trans h1) h2' h3
        · rw [if_neg (by rw [hw.2 hbw]; simp)]
          refine ⟨fun _ _ => trivial, ?_⟩
          exact tail_sound hQ hok q (i + 1) rs' _ g O w _ _ (by omega) (by omega) (by simpa using hls) hl' h2 hle (hS.put (.refl g) hS.inv hd (.val _)) (h.2 hbw)
      · exact h.elim

/-- How many of the first N are listed. -/
def cnt (listed : Array Bool) (N : Nat) : Nat := (List.range N).countP fun j => listed.getD j false

theorem cnt_set {N i : Nat} (hi : i < N) (hs : listed.size = N) (hun : listed.getD i false = false) : cnt (listed.setIfInBounds i true) N = cnt listed N + 1 := by
  have key : ∀ l : List Nat, l.Nodup → (l.countP fun j => (listed.setIfInBounds i true).getD j false) = (l.countP fun j => listed.getD j false) + if i ∈ l then 1 else 0 := by
    intro l
    induction l with
    | nil => simp
    | cons x l ih =>
      intro hnd
      rw [List.nodup_cons] at hnd
      rw [List.countP_cons, List.countP_cons, ih hnd.2, listed_set (by omega)]
      by_cases hx : x = i
      · subst hx
        rw [if_pos rfl, hun, if_neg hnd.1]
        simp
      · rw [if_neg hx]
        have : (i ∈ x :: l) ↔ i ∈ l := by simp [Ne.symm hx]
        by_cases hil : i ∈ l
        · simp [hil]; omega
        · simp [hil, Ne.symm hx]
  unfold cnt
  rw [key _ List.nodup_range, if_pos (List.mem_range.2 hi)]

theorem countP_lt (m : Nat) : ∀ N, (List.range N).countP (fun j => decide (j < m)) = min m N
  | 0 => by simp
  | N + 1 => by
    rw [List.range_succ, List.countP_append, countP_lt m N]
    by_cases h : N < m
    · simp [h]; omega
    · simp [h]; omega

theorem cnt_front {N : Nat} (hm : m ≤ N) (h : ∀ j, j < N → (listed.getD j false = true ↔ j < m)) : cnt listed N = m := by
  have : cnt listed N = (List.range N).countP (fun j => decide (j < m)) := by
    unfold cnt
    refine List.countP_congr fun j hj => ?_
    rw [h j (List.mem_range.1 hj)]
    simp
  rw [this, countP_lt]
  omega

theorem first_unlisted (listed : Array Bool) : ∀ k, (∀ j, j < k → listed.getD j false = true) ∨ ∃ i, i < k ∧ listed.getD i false = false ∧ ∀ j, j < i → listed.getD j false = true
  | 0 => .inl (fun j hj => by omega)
  | k + 1 => by
    rcases first_unlisted listed k with h | ⟨i, h1, h2, h3⟩
    · cases hk : listed.getD k false with
      | true =>
        refine .inl fun j hj => ?_
        rcases Nat.lt_or_ge j k with h' | h'
        · exact h j h'
        · have : j = k := by omega
          rw [this]; exact hk
      | false => exact .inr ⟨k, by omega, hk, h⟩
    · exact .inr ⟨i, by omega, h2, h3⟩

/-- All of the front is done. -/
theorem front_done {ow : List Nat} {K : Env → Heap → Prop} {Q : Exit → Act → World → Prop} {tail : List RIns} (hQ : ∀ a w, Post W0 g0 n K a w → Q .normal a w) (hok : DrawOK ops m front) (hm : m ≤ ops.size) (hfl : front.length = m)
    (htail : (ops.toList.drop m).mapM (compileOper P n ow ops) = some tail) (hfin : opsW P (allocsOf front ++ tail) K (killE (pendDsts front) (envAt V e0 front front.length)) O)
    {q : Nat} (hls : listed.size = ops.size) (hcnt : cnt listed ops.size + q = ops.size) (hun : ∀ j, m ≤ j → j < ops.size → listed.getD j false = false) (hall : ∀ j, j < m → listed.getD j false = true) (hle : g0.le g)
    (hD : DSt W0 n front V e0 O listed g OS w a idf) : wpAnyIn (FW rd) 0 P .any ops Q q listed a w := by
  have hl : ∀ j, j < ops.size → (listed.getD j false = true ↔ j < m) := fun j hj => by
    constructor
    · intro h
      rcases Nat.lt_or_ge j m with h' | h'
      · exact h'
      · rw [hun j h' hj] at h; cases h
    · exact hall j
  rw [cnt_front hm hl] at hcnt
  have hfr : ∀ (i : Nat) r, front[i]? = some r → i < m := fun i r h => by rw [← hfl]; exact (List.getElem?_eq_some_iff.1 h).1
  have hreads : ∀ t, Reads g (killE (pendDsts front) (envAt V e0 front front.length) t) (a.tmps.getD t undef) := fun t => by
    by_cases htp : t ∈ pendDsts front
    · rw [killE_mem htp]; exact .junk _
    rw [killE_not htp]
    rcases Classical.em (∃ (j : Nat) (r' : RIns), front[j]? = some r' ∧ r'.1 = some t) with ⟨j, r', hj, hjt⟩ | hno
    · rw [envAt_at front V e0 front.length j r' (by rw [hfl]; exact hfr j r' hj) hj hjt (fun k r'' hk hr'' hkt => hk (hok.nodup k j r'' r' (hfr k r'' hr'') (hfr j r' hj) hr'' hj (hkt.trans hjt.symm)))]
      exact hD.done j r' t hj hjt (hall j (hfr j r' hj)) (fun hp => absurd (mem_pendDsts hj hp hjt) htp)
    · rw [envAt_other front V e0 _ (fun j r' _ hj hjt => hno ⟨j, r', hj, hjt⟩)]
      exact hD.other t (fun j r' hj hjt => hno ⟨j, r', hj, hjt⟩)
  have halloc : ∀ {c : CI}, isAlloc c = true → ∃ E sz z, c = .alloc E sz z := fun {c} h => by
    cases c <;> first | (cases h; done) | exact ⟨_, _, _, rfl⟩
  have hmem : ∀ r i, (r, i) ∈ front.zipIdx.filter (fun p => isAlloc p.1.2.2) → front[i]? = some r ∧ isAlloc r.2.2 = true := fun r i h => by
    rw [List.mem_filter] at h
    exact ⟨by have := List.mem_zipIdx_iff_getElem?.1 h.1; exact this, h.2⟩
  have hA : (front.zipIdx.filter (fun p => isAlloc p.1.2.2)).map (·.1) = allocsOf front := by
    have key : ∀ (l : List RIns) k, ((l.zipIdx k).filter (fun p => isAlloc p.1.2.2)).map (·.1) = l.filter (fun r => isAlloc r.2.2) := by
      intro l
      induction l with
      | nil => intro k; rfl
      | cons x l ih =>
        intro k
        rw [List.zipIdx_cons, List.filter_cons, List.filter_cons]
        cases hx : isAlloc x.2.2 <;> simp [hx, ih (k + 1)]
    exact key front 0
  rw [← hA] at hfin
  obtain ⟨e', O2, h1, h2, h3⟩ := allocs_run (g := g) (OS := OS) (a := a) (idf := idf) (front.zipIdx.filter (fun p => isAlloc p.1.2.2)) _ O (fun r i hri => by
    obtain ⟨hr, ha⟩ := hmem r i hri
    obtain ⟨E, sz, z, hc⟩ := halloc ha
    obtain ⟨d, hd⟩ := hok.dst i r hr
    have := hD.al i r d E sz z hr hd hc (hall i (hfr i r hr))
    exact ⟨ha, hok.al i r hr ha, d, E, sz, z, hd, hc, this.1, this.2.1⟩) (by
      have hz : (front.zipIdx).Pairwise (fun p q => p.2 ≠ q.2) := by
        have key : ∀ (l : List RIns) k, (l.zipIdx k).Pairwise (fun p q => p.2 ≠ q.2) ∧ ∀ p ∈ l.zipIdx k, k ≤ p.2 := by
          intro l
          induction l with
          | nil => intro k; exact ⟨.nil, fun p hp => by simp at hp⟩
          | cons x l ih =>
            intro k
            rw [List.zipIdx_cons]
            refine ⟨List.pairwise_cons.2 ⟨fun p hp => ?_, (ih (k + 1)).1⟩, fun p hp => ?_⟩
            · have := (ih (k + 1)).2 p hp
              simp only; omega
            · rw [List.mem_cons] at hp
              rcases hp with rfl | hp
              · simp
              · have := (ih (k + 1)).2 p hp; omega
        exact (key front 0).1
      rw [List.nodup_iff_pairwise_ne, List.pairwise_map]
      have hz2 := hz.filter (fun p => isAlloc p.1.2.2)
      refine hz2.imp_of_mem (fun {p q} hp hq hne he => ?_)
      obtain ⟨rp, ip⟩ := p
      obtain ⟨rq, iq⟩ := q
      obtain ⟨hp1, hp2⟩ := hmem rp ip hp
      obtain ⟨hq1, hq2⟩ := hmem rq iq hq
      exact hne (hD.inj ip iq rp rq hp1 hq1 ⟨hall ip (hfr ip rp hp1), .inl hp2⟩ ⟨hall iq (hfr iq rq hq1), .inl hq2⟩ he)) (fun r i hri => by
    obtain ⟨hr, ha⟩ := hmem r i hri
    obtain ⟨E, sz, z, hc⟩ := halloc ha
    obtain ⟨d, hd⟩ := hok.dst i r hr
    exact (hD.al i r d E sz z hr hd hc (hall i (hfr i r hr))).2.2) hD.sub hreads hfin
  exact tail_sound hQ hok q m tail listed g O2 w a e' hcnt (Nat.le_refl _) hls hl htail hle ⟨hD.inv.drop h1, hD.size, hD.defers, h2⟩ h3

theorem front_sound {ow : List Nat} {K : Env → Heap → Prop} {Q : Exit → Act → World → Prop} {tail : List RIns} (hQ : ∀ a w, Post W0 g0 n K a w → Q .normal a w) (hok : DrawOK ops m front) (hm : m ≤ ops.size) (hfl : front.length = m)
    (hcomp : ∀ (i : Nat) o, i < m → ops[i]? = some o → ∃ r, front[i]? = some r ∧ compileOper P n ow ops o = some r) (htail : (ops.toList.drop m).mapM (compileOper P n ow ops) = some tail)
    (hsteps : ∀ (i : Nat) r, front[i]? = some r → stepOK P O (envAt V e0 front i) r (V i)) (hfin : opsW P (allocsOf front ++ tail) K (killE (pendDsts front) (envAt V e0 front front.length)) O) :
    ∀ (q : Nat) (listed : Array Bool) (g : Gh) (OS : Heap) (w : World) (a : Act) (idf : Nat → Nat), listed.size = ops.size → cnt listed ops.size + q = ops.size → (∀ j, m ≤ j → j < ops.size → listed.getD j false = false) → (∀ i j, listed.getD i false = true → dep ops i j = true → listed.getD j false = true) → g0.le g →
      DSt W0 n front V e0 O listed g OS w a idf → wpAnyIn (FW rd) 0 P .any ops Q q listed a w
  | 0, listed, g, OS, w, a, idf, hls, hcnt, hun, hcl, hle, hD => by
    have hall : ∀ j, j < ops.size → listed.getD j false = true := by
      have : (List.range ops.size).countP (fun j => listed.getD j false) = (List.range ops.size).length := by
        have : cnt listed ops.size = ops.size := by omega
        unfold cnt at this
        rw [this]; simp
      rw [List.countP_eq_length] at this
      exact fun j hj => this j (List.mem_range.2 hj)
    exact front_done hQ hok hm hfl htail hfin hls hcnt hun (fun j hj => hall j (by omega)) hle hD
  | q + 1, listed, g, OS, w, a, idf, hls, hcnt, hun, hcl, hle, hD => by
    rcases first_unlisted listed m with hall | ⟨i0, hi0, hi0u, hi0l⟩
    · exact front_done hQ hok hm hfl htail hfin hls hcnt hun hall hle hD
    · have hi0s : i0 < ops.size := by omega
      have ho0 : ops[i0]? = some ops[i0] := Array.getElem?_eq_getElem hi0s
      have hready : i0 ∈ Region.ready .any ops listed := by
        refine mem_ready.2 ⟨?_, _, ho0, fun ed hed hb => hi0l _ (hok.edges i0 _ ed ho0 hed hb)⟩
        have hil : i0 < listed.size := by omega
        simp [hil] at hi0u ⊢
        exact hi0u
      refine ⟨fun he => (by rw [he] at hready; cases hready), fun i hi => ?_⟩
      obtain ⟨hiu, o, hoi, hed⟩ := mem_ready.1 hi
      have his : i < ops.size := (Array.getElem?_eq_some_iff.1 hoi).1
      have him : i < m := by
        rcases Nat.lt_or_ge i m with h' | h'
        · exact h'
        · have := ready_all (fun j hj => hok.tail i j his h' hj) hcl hi (i - i0) i0 (by omega) (Nat.le_refl _)
          rw [hi0u] at this
          cases this
      have hiu' : listed.getD i false = false := by
        have hil : i < listed.size := by omega
        simp [hil] at hiu ⊢
        exact hiu
      refine draw_step hok.toDrawOK0 hm hfl hcomp hsteps hls hD him hi (fun g' OS' w' a' idf' h1 h2 => ?_)
      refine front_sound hQ hok hm hfl hcomp htail hsteps hfin q _ g' OS' w' a' idf' (by simpa using hls) ?_ (fun j hj hjs => ?_) (fun i' j' h3 h4 => ?_) (hle.trans h1) h2
      · rw [cnt_set (by omega) hls hiu']; omega
      · rw [listed_set (by omega), if_neg (by omega)]
        exact hun j hj hjs
      · rw [listed_set (by omega)] at h3 ⊢
        split
        · rfl
        · split at h3
          · rename_i h5; rw [h5] at h4; exact dep_listed hi h4
          · exact hcl i' j' h3 h4

theorem draw_sound {id : Nat} {ow : List Nat} {K : Env → Heap → Prop} {Q : Exit → Act → World → Prop} {tail : List RIns} (hmix : P.follows .mixedOrders = true) (hm : m ≤ ops.size)
    (hfront : (ops.toList.take m).mapM (compileOper P n ow ops) = some front) (htail : (ops.toList.drop m).mapM (compileOper P n ow ops) = some tail) (hok : drawOK ops m front = true)
    (hS : St W0 g O w n a e) (h : drawW P front (fun e' => opsW P (allocsOf front ++ tail) K (killE (pendDsts front) e') O) e O) (hQ : ∀ a w, Post W0 g n K a w → Q .normal a w) : (Code.region id ops true).wpIn (FW rd) 0 P Q a w := by
  obtain ⟨V, h1, h2⟩ := drawW_steps front _ e h
  have hok := drawOK_inv hok
  obtain ⟨hfl, hget⟩ := mapM_get hfront
  have hfl : front.length = m := by rw [hfl]; simp; omega
  refine wpIn_region_any hmix ?_
  have hlf : ∀ j, (Array.replicate ops.size false).getD j false = false := fun j => by
    by_cases hj : j < ops.size <;> simp [hj]
  refine front_sound (g0 := g) hQ hok hm hfl (fun i o hi ho => ?_) htail h1 h2 ops.size (Array.replicate ops.size false) g O _ a (fun _ => 0) (by simp) ?_ (fun j _ _ => hlf j) (fun i j h => by rw [hlf] at h; cases h) (.refl g) ?_
  · exact hget i o (by rw [List.getElem?_take, if_pos hi]; simpa using ho)
  · have : cnt (Array.replicate ops.size false) ops.size = 0 := by
      unfold cnt
      rw [List.countP_eq_zero]
      intro j _
      rw [hlf j]; simp
    omega
  · refine ⟨hS.inv.drew, fun _ _ h => h, hS.size, hS.defers, fun t _ => hS.reads t, fun i r d _ _ hl => ?_, fun i r d E sz z _ _ _ hl => ?_, fun i r d E sz L cp _ _ _ _ hl => ?_, fun i j r r' _ _ ⟨hl, _⟩ => ?_⟩
    all_goals (rw [hlf] at hl; cases hl)

end
end Go.Ab

/- The abstract walk, part sixteen and a half: a region that draws its order, where some that only computes may come behind the first that write. -/
namespace Go.Ab

def CI.opds2 : CI → List Operand
  | .box _ _ x => [x]
  | .bown _ _ xs => xs
  | .store _ x v => [x, v]
  | .mapset _ _ x k v => [x, k, v]
  | .appz _ _ _ _ s n => [s, n]
  | .mkslice _ _ _ _ l c => [l, c]
  | ci => ci.opds

theorem CiSem_congr {P : Program} {ci : CI} {e e' : Env} {O : Heap} {K : AV → Heap → Prop} (h : ∀ x ∈ ci.opds2, e.opd x = e'.opd x) (hs : CiSem P ci e O K) : CiSem P ci e' O K := by
  have hp : (∀ x ∈ ci.opds, e.opd x = e'.opd x) → (∃ r, pureI ci e O = some r ∧ K r O) → ∃ r, pureI ci e' O = some r ∧ K r O := fun h ⟨r, h1, h2⟩ => ⟨r, by rw [← pureI_congr O h]; exact h1, h2⟩
  cases ci with
  | alloc => exact hs
  | box E sz x =>
    have hx := h x (by simp [CI.opds2])
    unfold CiSem at hs ⊢
    simp only [← hx]
    exact hs
  | bown E sz xs =>
    have hx := map_congr_opds (l := xs) (fun x hx => h x (by simp [CI.opds2, hx]))
    unfold CiSem at hs ⊢
    simp only [← hx]
    exact hs
  | store sz x v =>
    have hx := h x (by simp [CI.opds2])
    have hv := h v (by simp [CI.opds2])
    unfold CiSem at hs ⊢
    simp only [← hx, ← hv]
    exact hs
  | mkslice E sz b z l c =>
    have hx := h l (by simp [CI.opds2])
    have hv := h c (by simp [CI.opds2])
    unfold CiSem at hs ⊢
    simp only [← hx, ← hv]
    exact hs
  | call f args =>
    have hx := map_congr_opds (l := args) (fun x hx => h x (by simpa [CI.opds2, CI.opds] using hx))
    unfold CiSem at hs ⊢
    simp only [← hx]
    exact hs
  | callv f args =>
    have hf := h f (by simp [CI.opds2, CI.opds])
    have hx := map_congr_opds (l := args) (fun x hx => h x (by simp [CI.opds2, CI.opds, hx]))
    unfold CiSem at hs ⊢
    simp only [← hx, ← hf]
    exact hs
  | cap x =>
    have hx := h x (by simp [CI.opds2, CI.opds])
    unfold CiSem at hs ⊢
    simp only [← hx]
    exact hs
  | append o E sz b s x =>
    have hs' := h s (by simp [CI.opds2, CI.opds])
    have hx := h x (by simp [CI.opds2, CI.opds])
    unfold CiSem at hs ⊢
    simp only [← hx, ← hs']
    exact hs
  | mv => exact hp h hs
  | pick => exact hp h hs
  | build => exact hp h hs
  | blist => exact hp h hs
  | load => exact hp h hs
  | nilchk => exact hp h hs
  | bin => exact hp h hs
  | binb => exact hp h hs
  | eqagg => exact hp h hs
  | eqnil => exact hp h hs
  | un => exact hp h hs
  | convi => exact hp h hs
  | mkfn => exact hp h hs
  | fieldA => exact hp h hs
  | field => exact hp h hs
  | indexA => exact hp h hs
  | indexP => exact hp h hs
  | index => exact hp h hs
  | slice => exact hp h hs
  | extract => exact hp h hs
  | len => exact hp h hs
  | lenm => exact hp h hs
  | maxmin => exact hp h hs
  | dead => exact hp h hs
  | maxl => exact hp h hs
  | str => exact hp h hs
  | bstr => exact hp h hs
  | slen => exact hp h hs
  | mkmap => exact hs
  | lookup => exact hp h hs
  | appz E sz b z s n =>
    have hx := h s (by simp [CI.opds2])
    have hv := h n (by simp [CI.opds2])
    unfold CiSem at hs ⊢
    simp only [← hx, ← hv]
    exact hs
  | mapset ks agg x k v =>
    have hx := h x (by simp [CI.opds2])
    have hk := h k (by simp [CI.opds2])
    have hv := h v (by simp [CI.opds2])
    unfold CiSem at hs ⊢
    simp only [← hx, ← hk, ← hv]
    exact hs

theorem pureI_sem {P : Program} {ci : CI} {e : Env} {O : Heap} {K : AV → Heap → Prop} {r : AV} (h : pureI ci e O = some r) (hk : K r O) : CiSem P ci e O K := by
  cases ci <;> first | exact ⟨r, h, hk⟩ | (unfold pureI at h; cases h; done)

def readsOf2 (r : RIns) : List Nat := tmpsOf r.2.2.opds2 ++ (match r.2.1 with | some p => [p.1] | none => [])

/-- Computed again, it gives what is there. -/
def chk : List RIns → Env → Heap → Prop
  | [], _, _ => True
  | (some d, _, ci) :: S, e, O => pureI ci e O = some (e d) ∧ chk S e O
  | (none, _, _) :: S, e, O => chk S e O

theorem chk_mem : ∀ {S : List RIns} {e : Env} {O : Heap} {d : Nat} {gd : Option (Nat × Bool)} {ci : CI}, chk S e O → (some d, gd, ci) ∈ S → pureI ci e O = some (e d)
  | (some d', g', ci') :: S, e, O, d, gd, ci, h, hm => by
    rw [List.mem_cons] at hm
    rcases hm with hm | hm
    · cases hm; exact h.1
    · exact chk_mem (S := S) h.2 hm
  | (none, g', ci') :: S, e, O, d, gd, ci, h, hm => by
    rw [List.mem_cons] at hm
    rcases hm with hm | hm
    · cases hm
    · exact chk_mem (S := S) h hm

def opsS (P : Program) : List (RIns × List RIns) → (Env → Heap → Prop) → Env → Heap → Prop
  | [], K, e, O => K e O
  | ((d, none, ci), S) :: rest, K, e, O => CiSem P ci e O (fun r O' => chk S (e.put d r) O' ∧ opsS P rest K (e.put d r) O')
  | ((d, some (s, want), ci), S) :: rest, K, e, O => guardW (e s) want (CiSem P ci e O (fun r O' => chk S (e.put d r) O' ∧ opsS P rest K (e.put d r) O')) (chk S (e.put d (.val undef)) O ∧ opsS P rest K (e.put d (.val undef)) O)

def opSK (P : Program) (d : Option Nat) (S : List RIns) (rest : List (RIns × List RIns)) (K : Env → Heap → Prop) (e : Env) : AV → Heap → Prop := fun r O' => chk S (e.put d r) O' ∧ opsS P rest K (e.put d r) O'
theorem opSK_apply (P : Program) (d : Option Nat) (S : List RIns) (rest : List (RIns × List RIns)) (K : Env → Heap → Prop) (e : Env) (r : AV) (O : Heap) : opSK P d S rest K e r O = (chk S (e.put d r) O ∧ opsS P rest K (e.put d r) O) := rfl
theorem opsS_nil (P : Program) (K : Env → Heap → Prop) (e : Env) (O : Heap) : opsS P [] K e O = K e O := by unfold opsS; rfl
theorem opsS_cons (P : Program) (d : Option Nat) (ci : CI) (S : List RIns) (rest : List (RIns × List RIns)) (K : Env → Heap → Prop) (e : Env) (O : Heap) : opsS P (((d, none, ci), S) :: rest) K e O = CiSem P ci e O (opSK P d S rest K e) := by
  rw [opsS]; rfl
theorem opsS_guard (P : Program) (d : Option Nat) (s : Nat) (want : Bool) (ci : CI) (S : List RIns) (rest : List (RIns × List RIns)) (K : Env → Heap → Prop) (e : Env) (O : Heap) :
    opsS P (((d, some (s, want), ci), S) :: rest) K e O = guardW (e s) want (CiSem P ci e O (opSK P d S rest K e)) (chk S (e.put d (.val undef)) O ∧ opsS P rest K (e.put d (.val undef)) O) := by
  rw [opsS]; rfl

/-- Those of the front that may still be to come behind the k-th. -/
def strags (ops : Array Oper) (m : Nat) (front : List RIns) (k : Nat) : List RIns :=
  (front.zipIdx.filter fun p => (List.range (k + 1)).all fun k' => decide (k' < m) || !dep ops k' p.2).map (·.1)

theorem mem_strags {ops : Array Oper} {m : Nat} {front : List RIns} {k j : Nat} {r : RIns} (hj : front[j]? = some r) (h : ∀ k', m ≤ k' → k' ≤ k → dep ops k' j = false) : r ∈ strags ops m front k := by
  unfold strags
  rw [List.mem_map]
  refine ⟨(r, j), ?_, rfl⟩
  rw [List.mem_filter]
  refine ⟨List.mem_zipIdx_iff_getElem?.2 hj, ?_⟩
  rw [List.all_eq_true]
  intro k' hk'
  rw [List.mem_range] at hk'
  by_cases h' : k' < m
  · simp [h']
  · simp [h k' (by omega) (by omega)]

def tailS (ops : Array Oper) (m : Nat) (front tail : List RIns) : List (RIns × List RIns) := tail.zipIdx.map fun p => (p.1, strags ops m front (m + p.2))

theorem tailS_drop {ops : Array Oper} {m : Nat} {front tail : List RIns} {k : Nat} {r : RIns} (hk : tail[k]? = some r) : (tailS ops m front tail).drop k = (r, strags ops m front (m + k)) :: (tailS ops m front tail).drop (k + 1) := by
  have h : (tailS ops m front tail)[k]? = some (r, strags ops m front (m + k)) := by
    unfold tailS
    rw [List.getElem?_map, List.getElem?_zipIdx, hk]
    simp
  obtain ⟨hlt, he⟩ := List.getElem?_eq_some_iff.1 h
  rw [List.drop_eq_getElem_cons hlt, he]

def sregOK (ops : Array Oper) (m : Nat) (front tail : List RIns) : Bool :=
  drawOK0 ops m front &&
  ((List.range ops.size).all fun k => (List.range k).all fun j => decide (j < m) || dep ops k j) &&
  (tail.zipIdx.all fun p => front.zipIdx.all fun q => p.1.1 != q.1.1 && (match q.1.1 with
    | some t => !(readsOf2 p.1).contains t || dep ops (m + p.2) q.2
    | none => true)) &&
  (front.zipIdx.all fun q => dep ops m q.2 || (q.1.2.1.isNone && !isAlloc q.1.2.2)) &&
  decide (m < ops.size)

structure SregOK (ops : Array Oper) (m : Nat) (front tail : List RIns) : Prop where
  ok : DrawOK0 ops m front
  tt : ∀ (k j : Nat), k < ops.size → m ≤ j → j < k → dep ops k j = true
  dst : ∀ (p q : Nat) (r r' : RIns), tail[p]? = some r → front[q]? = some r' → r.1 ≠ r'.1
  reads : ∀ (p q : Nat) (r r' : RIns) (t : Nat), tail[p]? = some r → front[q]? = some r' → r'.1 = some t → t ∈ readsOf2 r → dep ops (m + p) q = true
  st : ∀ (q : Nat) (r : RIns), front[q]? = some r → dep ops m q = false → r.2.1 = none ∧ isAlloc r.2.2 = false
  lt : m < ops.size

theorem sregOK_inv {ops : Array Oper} {m : Nat} {front tail : List RIns} (h : sregOK ops m front tail = true) : SregOK ops m front tail := by
  unfold sregOK at h
  simp only [Bool.and_eq_true, decide_eq_true_eq] at h
  obtain ⟨⟨⟨⟨h0, h1⟩, h2⟩, h3⟩, h4⟩ := h
  rw [List.all_eq_true] at h1 h2 h3
  have h2' : ∀ (p q : Nat) (r r' : RIns), tail[p]? = some r → front[q]? = some r' → r.1 ≠ r'.1 ∧ ∀ t, r'.1 = some t → t ∈ readsOf2 r → dep ops (m + p) q = true := fun p q r r' hp hq => by
    have := h2 (r, p) (List.mem_zipIdx_iff_getElem?.2 hp)
    rw [List.all_eq_true] at this
    have := this (r', q) (List.mem_zipIdx_iff_getElem?.2 hq)
    simp only [Bool.and_eq_true, bne_iff_ne] at this
    refine ⟨this.1, fun t ht hm => ?_⟩
    have h5 := this.2
    rw [ht] at h5
    simp only [Bool.or_eq_true, Bool.not_eq_true', List.contains_eq_mem, decide_eq_false_iff_not] at h5
    rcases h5 with h5 | h5
    · exact absurd hm h5
    · exact h5
  refine ⟨drawOK0_inv h0, fun k j hk hm hj => ?_, fun p q r r' hp hq => (h2' p q r r' hp hq).1, fun p q r r' t hp hq => (h2' p q r r' hp hq).2 t, fun q r hq hd => ?_, h4⟩
  · have := h1 k (List.mem_range.2 hk)
    rw [List.all_eq_true] at this
    have := this j (List.mem_range.2 hj)
    simp only [Bool.or_eq_true, decide_eq_true_eq] at this
    rcases this with h | h
    · omega
    · exact h
  · have := h3 (r, q) (List.mem_zipIdx_iff_getElem?.2 hq)
    simp only [Bool.or_eq_true, Bool.and_eq_true, Bool.not_eq_true'] at this
    rcases this with h | h
    · rw [hd] at h; cases h
    · exact ⟨by simpa using h.1, h.2⟩

theorem ready_unlisted {ops : Array Oper} {listed : Array Bool} {i : Nat} (hls : listed.size = ops.size) (hr : i ∈ Region.ready .any ops listed) : i < ops.size ∧ listed.getD i false = false := by
  obtain ⟨hun, o, ho, _⟩ := mem_ready.1 hr
  have his : i < ops.size := (Array.getElem?_eq_some_iff.1 ho).1
  refine ⟨his, ?_⟩
  have hil : i < listed.size := by omega
  simp [hil] at hun ⊢
  exact hun

section
variable {rd : Option Nat} {P : Program} {W0 : World} {g g0 : Gh} {O OS : Heap} {w : World} {n : Nat} {a : Act} {e e0 : Env} {front tail : List RIns} {V : Nat → AV} {ops : Array Oper} {m : Nat} {listed : Array Bool} {idf : Nat → Nat}

structure TSt (W0 : World) (n : Nat) (ops : Array Oper) (m : Nat) (front : List RIns) (k : Nat) (listed : Array Bool) (g : Gh) (O : Heap) (w : World) (a : Act) (e : Env) : Prop where
  inv : Inv W0 g O w
  size : a.tmps.size = n
  defers : Marks g a.defers
  hl : ∀ j, m ≤ j → j < ops.size → (listed.getD j false = true ↔ j < k)
  hdep : ∀ k' j, m ≤ k' → k' < k → j < m → dep ops k' j = true → listed.getD j false = true
  reads : ∀ t, (∀ (j : Nat) r, front[j]? = some r → listed.getD j false = false → r.1 ≠ some t) → Reads g (e t) (a.tmps.getD t undef)
  strag : ∀ (j : Nat) r, front[j]? = some r → listed.getD j false = false → ∃ d ci, r = (some d, none, ci) ∧ pureI ci e O = some (e d)

theorem ready_first (hok : DrawOK0 ops m front) (hls : listed.size = ops.size) {i : Nat} (hi : i < ops.size) (hu : listed.getD i false = false) (hl : ∀ j, j < i → listed.getD j false = true) : i ∈ Region.ready .any ops listed := by
  have ho : ops[i]? = some ops[i] := Array.getElem?_eq_getElem hi
  refine mem_ready.2 ⟨?_, _, ho, fun ed hed hb => hl _ (hok.edges i _ ed ho hed hb)⟩
  have hil : i < listed.size := by omega
  simp [hil] at hu ⊢
  exact hu

theorem strag_sound {ow : List Nat} {K : Env → Heap → Prop} {Q : Exit → Act → World → Prop} (hQ : ∀ a w, Post W0 g0 n K a w → Q .normal a w) (hok : SregOK ops m front tail) (hm : m ≤ ops.size) (hfl : front.length = m)
    (hcomp : ∀ (i : Nat) o, i < m → ops[i]? = some o → ∃ r, front[i]? = some r ∧ compileOper P n ow ops o = some r) (hlen : tail.length + m = ops.size)
    (htail : ∀ (i : Nat) o, m ≤ i → ops[i]? = some o → ∃ r, tail[i - m]? = some r ∧ compileOper P n ow ops o = some r) :
    ∀ (q k : Nat) (listed : Array Bool) (g : Gh) (O : Heap) (w : World) (a : Act) (e : Env), listed.size = ops.size → cnt listed ops.size + q = ops.size → m ≤ k → k ≤ ops.size → g0.le g →
      TSt W0 n ops m front k listed g O w a e → opsS P ((tailS ops m front tail).drop (k - m)) K e O → wpAnyIn (FW rd) 0 P .any ops Q q listed a w
  | 0, k, listed, g, O, w, a, e, hls, hcnt, hmk, hks, hle, hT, h => by
    have hall : ∀ j, j < ops.size → listed.getD j false = true := by
      have : (List.range ops.size).countP (fun j => listed.getD j false) = (List.range ops.size).length := by
        have : cnt listed ops.size = ops.size := by omega
        unfold cnt at this
        rw [this]; simp
      rw [List.countP_eq_length] at this
      exact fun j hj => this j (List.mem_range.2 hj)
    have hke : k = ops.size := by
      rcases Nat.lt_or_ge k ops.size with h' | h'
      · have := (hT.hl k hmk h').1 (hall k h'); omega
      · omega
    have hd : (tailS ops m front tail).drop (k - m) = [] := List.drop_eq_nil_of_le (by simp [tailS]; omega)
    rw [hd, opsS_nil] at h
    refine ⟨?_, hQ _ _ ⟨g, e, O, hle, ⟨hT.inv, hT.size, hT.defers, fun t => hT.reads t fun j r hj hl => ?_⟩, h⟩⟩
    · rw [List.eq_nil_iff_forall_not_mem]
      intro j hj
      obtain ⟨h1, h2⟩ := ready_unlisted hls hj
      rw [hall j h1] at h2; cases h2
    · have := hall j (by have := (List.getElem?_eq_some_iff.1 hj).1; omega)
      rw [this] at hl; cases hl
  | q + 1, k, listed, g, O, w, a, e, hls, hcnt, hmk, hks, hle, hT, h => by
    have hex : Region.ready .any ops listed ≠ [] := by
      rcases first_unlisted listed ops.size with hall | ⟨i0, h1, h2, h3⟩
      · have : cnt listed ops.size = ops.size := by
          unfold cnt
          have : (List.range ops.size).countP (fun j => listed.getD j false) = (List.range ops.size).length := List.countP_eq_length.2 fun j hj => hall j (List.mem_range.1 hj)
          rw [this]; simp
        omega
      · have := ready_first hok.ok hls h1 h2 h3
        intro he; rw [he] at this; cases this
    refine ⟨fun he => absurd he hex, fun i hi => ?_⟩
    obtain ⟨his, hiu⟩ := ready_unlisted hls hi
    have hil : i < listed.size := by omega
    -- the environment without what is still to come
    have henv : ∃ e1 : Env, (∀ t, Reads g (e1 t) (a.tmps.getD t undef)) ∧ ∀ t, (∀ (j : Nat) r, front[j]? = some r → listed.getD j false = false → r.1 ≠ some t) → e1 t = e t := by
      classical
      refine ⟨fun t => if (∀ (j : Nat) r, front[j]? = some r → listed.getD j false = false → r.1 ≠ some t) then e t else .junk, fun t => ?_, fun t ht => by simp only []; rw [if_pos ht]⟩
      simp only []
      split
      · rename_i ht; exact hT.reads t ht
      · exact .junk _
    obtain ⟨e1, hr1, he1⟩ := henv
    have hro : ∀ x, Reads g (e1.opd x) (a.eval x) := by
      intro x
      cases x with
      | tmp t => exact hr1 t
      | const v => exact .val v
      | global g' => exact .val _
      | func f => exact .clo _ _ _ _ _ rfl rfl (fun i x v hx => by simp at hx) (fun i x v hx => by simp at hx)
    have hopd : ∀ (l : List Operand), (∀ t, t ∈ tmpsOf l → e1 t = e t) → ∀ x ∈ l, e.opd x = e1.opd x := by
      intro l hl x hx
      cases x with
      | tmp t => exact (hl t (mem_tmpsOf.2 hx)).symm
      | const v => rfl
      | global g' => rfl
      | func f => rfl
    have ho : ops[i]? = some ops[i] := Array.getElem?_eq_getElem his
    have hcnt' : cnt (listed.setIfInBounds i true) ops.size + q = ops.size := by rw [cnt_set his hls hiu]; omega
    rcases Nat.lt_or_ge i m with him | him
    · -- one of the front
      obtain ⟨r, hr, hco⟩ := hcomp i _ him ho
      obtain ⟨d, ci, rfl, hp⟩ := hT.strag i r hr hiu
      obtain ⟨hd, hdn, ⟨b, hb⟩, hg⟩ := compileOper_inv hco
      have hdn := hdn d hd.symm
      have hp1 : pureI ci e1 O = some (e d) := by
        rw [← pureI_congr O (hopd ci.opds fun t ht => he1 t fun j r' hj hl hjt => ?_)]
        · exact hp
        · have hjm : j < m := by rw [← hfl]; exact (List.getElem?_eq_some_iff.1 hj).1
          have := (hok.ok.reads i _ t j r' him hjm hr (List.mem_append_left _ (mem_tmpsOf.2 (opds_sub (mem_tmpsOf.1 ht)))) hj hjt).2
          rw [dep_listed hi this] at hl; cases hl
      unfold wpOpIn
      rw [ho]
      simp only []
      rcases hg with ⟨hg, _⟩ | ⟨_, _, _, _, hg, _⟩
      · rw [if_pos (wanted_none hg _)]
        refine (oper_out (e := e1) (OS := O) (K := fun r O' => r = e d ∧ O' = O) hb hT.inv hro (pureI_sem hp1 ⟨rfl, rfl⟩) fun v w' ⟨g', r, O', h1, h2, h3, h4, h5⟩ => ?_)
        subst h4 h5
        rw [← hd]
        refine strag_sound hQ hok hm hfl hcomp hlen htail q k _ g' O' w' _ e (by simpa using hls) hcnt' hmk hks (hle.trans h1) ⟨h2, by simp [Act.put, hT.size], hT.defers.mono h1, fun j hj hjs => ?_, fun k' j hk1 hk2 hj hdj => ?_, fun t ht => ?_, fun j r' hj hl => ?_⟩ h
        · rw [listed_set hil, if_neg (by omega)]; exact hT.hl j hj hjs
        · rw [listed_set hil]
          split
          · rfl
          · exact hT.hdep k' j hk1 hk2 hj hdj
        · rw [put_getD a hT.size hdn]
          split
          · rename_i htd; rw [htd]; exact h3
          · rename_i htd
            refine (hT.reads t fun j r' hj hl => ?_).mono h1
            by_cases hji : j = i
            · subst hji; rw [hr] at hj; cases hj
              intro he; cases he; exact htd rfl
            · exact ht j r' hj (by rw [listed_set hil, if_neg hji]; exact hl)
        · refine hT.strag j r' hj ?_
          rw [listed_set hil] at hl
          split at hl
          · cases hl
          · exact hl
      · cases hg
    · -- the next one behind the front
      have hik : i = k := by
        have hki : k ≤ i := by
          rcases Nat.lt_or_ge i k with h' | h'
          · have := (hT.hl i him his).2 h'; rw [this] at hiu; cases hiu
          · exact h'
        rcases Nat.eq_or_lt_of_le hki with h' | h'
        · exact h'.symm
        · have := dep_listed hi (hok.tt i k his hmk h')
          have := (hT.hl k hmk (by omega)).1 this
          omega
      subst hik
      obtain ⟨⟨d, gd, ci⟩, hr, hco⟩ := htail i _ him ho
      obtain ⟨rfl, hdn, ⟨b, hb⟩, hg⟩ := compileOper_inv hco
      have hmi : m + (i - m) = i := by omega
      rw [tailS_drop hr, hmi] at h
      have hrd : ∀ t, t ∈ readsOf2 ((ops[i]).dst, gd, ci) → e1 t = e t := fun t ht => he1 t fun j r' hj hl hjt => by
        have := hok.reads (i - m) j _ r' t hr hj hjt ht
        rw [hmi] at this
        rw [dep_listed hi this] at hl; cases hl
      have hci : ∀ x ∈ ci.opds2, e.opd x = e1.opd x := hopd ci.opds2 fun t ht => hrd t (List.mem_append_left _ ht)
      have next : ∀ g' O' w' v r, g.le g' → Inv W0 g' O' w' → Reads g' r v → chk (strags ops m front i) (e.put (ops[i]).dst r) O' → opsS P ((tailS ops m front tail).drop (i - m + 1)) K (e.put (ops[i]).dst r) O' →
          wpAnyIn (FW rd) 0 P .any ops Q q (listed.setIfInBounds i true) (a.put (ops[i]).dst v) w' := by
        intro g' O' w' v r h1 h2 h3 h4 h5
        have hsz : (a.put (ops[i]).dst v).tmps.size = n := by
          cases (ops[i]).dst <;> simp [Act.put, hT.size]
        have hdf : Marks g' (a.put (ops[i]).dst v).defers := (hT.defers.mono h1).put
        refine strag_sound hQ hok hm hfl hcomp hlen htail q (i + 1) _ g' O' w' _ (e.put (ops[i]).dst r) (by simpa using hls) hcnt' (by omega) (by omega) (hle.trans h1) ⟨h2, hsz, hdf, fun j hj hjs => ?_, fun k' j hk1 hk2 hj hdj => ?_, fun t ht => ?_, fun j r' hj hl => ?_⟩ (by rw [show i + 1 - m = i - m + 1 by omega]; exact h5)
        · rw [listed_set hil]
          split
          · simp [*]
          · rw [hT.hl j hj hjs]; omega
        · rw [listed_set hil, if_neg (by omega)]
          rcases Nat.lt_or_ge k' i with h' | h'
          · exact hT.hdep k' j hk1 h' hj hdj
          · have : k' = i := by omega
            subst this
            exact dep_listed hi hdj
        · have ht' : ∀ (j : Nat) r, front[j]? = some r → listed.getD j false = false → r.1 ≠ some t := fun j r' hj hl => by
            have hjm : j < m := by rw [← hfl]; exact (List.getElem?_eq_some_iff.1 hj).1
            exact ht j r' hj (by rw [listed_set hil, if_neg (by omega)]; exact hl)
          have hrt := (hT.reads t ht').mono h1
          cases hdd : (ops[i]).dst with
          | none => exact hrt
          | some d =>
            rw [put_getD a hT.size (hdn d hdd)]
            simp only [Env.put, Env.upd_apply]
            split
            · exact h3
            · exact hrt
        · have hjm : j < m := by rw [← hfl]; exact (List.getElem?_eq_some_iff.1 hj).1
          rw [listed_set hil, if_neg (by omega)] at hl
          obtain ⟨d, ci', rfl, _⟩ := hT.strag j r' hj hl
          refine ⟨d, ci', rfl, chk_mem h4 (mem_strags (k := i) hj fun k' hk1 hk2 => ?_)⟩
          cases hdj : dep ops k' j with
          | false => rfl
          | true =>
            have : listed.getD j false = true := by
              rcases Nat.lt_or_ge k' i with h' | h'
              · exact hT.hdep k' j hk1 h' hjm hdj
              · have : k' = i := by omega
                subst this
                exact dep_listed hi hdj
            rw [this] at hl; cases hl
      unfold wpOpIn
      rw [ho]
      simp only []
      rcases hg with ⟨hg, rfl⟩ | ⟨j, want, s, hg, rfl, hs, hsn⟩
      · rw [opsS_cons] at h
        rw [if_pos (wanted_none hg _)]
        refine (oper_out (e := e1) hb hT.inv hro (CiSem_congr hci h) fun v w' ⟨g', r, O', h1, h2, h3, h4⟩ => ?_)
        rw [opSK_apply] at h4
        exact next g' O' w' v r h1 h2 h3 h4.1 h4.2
      · rw [opsS_guard] at h
        unfold guardW at h
        split at h
        · rename_i bb hbb
          have hr' := hr1 s
          rw [hrd s (List.mem_append_right _ (by simp)), hbb] at hr'
          have hw := wanted_some hg hs hsn hT.size hr'.val_inv
          rcases Classical.em (bb = .bool want) with hbw | hbw
          · rw [if_pos (hw.1 hbw)]
            refine (oper_out (e := e1) hb hT.inv hro (CiSem_congr hci (h.1 hbw)) fun v w' ⟨g', r, O', h1, h2, h3, h4⟩ => ?_)
            rw [opSK_apply] at h4
            exact next g' O' w' v r h1 h2 h3 h4.1 h4.2
          · rw [if_neg (by rw [hw.2 hbw]; simp)]
            have := h.2 hbw
            refine ⟨fun _ _ => trivial, ?_⟩
            exact next g O w _ (.val undef) (.refl g) hT.inv (.val _) this.1 this.2
        · exact h.elim

/-- The variables that the front has made get their names. -/
theorem allocs_run' {U : Nat → Prop} {K : Env → Heap → Prop} : ∀ (A : List (RIns × Nat)) (e : Env) (O1 : Heap),
    (∀ r i, (r, i) ∈ A → isAlloc r.2.2 = true ∧ r.2.1 = none ∧ (∃ d E sz z, r.1 = some d ∧ r.2.2 = .alloc E sz z ∧ Reads g (.optr (idf i) sz 0 0) (a.tmps.getD d undef) ∧ OS (idf i) = some (.arr E sz [z]))) →
    (A.map (fun p => idf p.2)).Nodup → (∀ r i, (r, i) ∈ A → O1 (idf i) = none) → O1.sub OS → (∀ t, ¬ U t → Reads g (e t) (a.tmps.getD t undef)) → opsW P (A.map (·.1)) K e O1 →
    ∃ e' O2, O2.sub OS ∧ (∀ t, ¬ U t → Reads g (e' t) (a.tmps.getD t undef)) ∧ K e' O2
  | [], e, O1, _, _, _, hs, hr, h => ⟨e, O1, hs, hr, by rw [List.map_nil, opsW_nil] at h; exact h⟩
  | (r, i) :: A, e, O1, hA, hnd, hO, hs, hr, h => by
    obtain ⟨_, hg, d, E, sz, z, hd, hc, h1, h2⟩ := hA r i (by simp)
    obtain ⟨rd, rg, rc⟩ := r
    simp only at hd hg hc
    subst hd hg hc
    simp only [List.map_cons] at h
    rw [opsW_cons] at h
    have h3 := h (idf i) (hO (some d, none, .alloc E sz z) i (by simp))
    rw [opK_apply] at h3
    simp only [List.map_cons, List.nodup_cons] at hnd
    refine allocs_run' A _ _ (fun r' i' hm => hA r' i' (by simp [hm])) hnd.2 (fun r' i' hm => ?_) (fun k o hk => ?_) (fun t ht => ?_) h3
    · rw [Heap.upd_ne]
      · exact hO r' i' (by simp [hm])
      · intro he
        exact hnd.1 (List.mem_map.2 ⟨(r', i'), hm, he⟩)
    · rw [Heap.upd_apply] at hk
      split at hk
      · rename_i hki
        cases hk
        rw [hki]; exact h2
      · exact hs k o hk
    · simp only [Env.put, Env.upd_apply]
      split
      · rename_i ht; rw [ht]; exact h1
      · exact hr t ht

theorem to_tail {ow : List Nat} {K : Env → Heap → Prop} (hok : SregOK ops m front tail) (hm : m ≤ ops.size) (hfl : front.length = m)
    (hcomp : ∀ (i : Nat) o, i < m → ops[i]? = some o → ∃ r, front[i]? = some r ∧ compileOper P n ow ops o = some r)
    (hfin : opsW P (allocsOf front) (fun e O => chk (strags ops m front m) e O ∧ K e O) (killE (pendDsts front) (envAt V e0 front front.length)) O)
    (hls : listed.size = ops.size) (hun : ∀ j, m ≤ j → j < ops.size → listed.getD j false = false) (hall : ∀ j, j < m → listed.getD j false = true ∨ dep ops m j = false)
    (hD : DSt W0 n front V e0 O listed g OS w a idf) : ∃ e' O2, TSt W0 n ops m front m listed g O2 w a e' ∧ K e' O2 := by
  have hfr : ∀ (i : Nat) r, front[i]? = some r → i < m := fun i r h => by rw [← hfl]; exact (List.getElem?_eq_some_iff.1 h).1
  have hreads : ∀ t, ¬ (∃ (j : Nat) (r : RIns), front[j]? = some r ∧ listed.getD j false = false ∧ r.1 = some t) → Reads g (killE (pendDsts front) (envAt V e0 front front.length) t) (a.tmps.getD t undef) := fun t hU => by
    by_cases htp : t ∈ pendDsts front
    · rw [killE_mem htp]; exact .junk _
    rw [killE_not htp]
    rcases Classical.em (∃ (j : Nat) (r' : RIns), front[j]? = some r' ∧ r'.1 = some t) with ⟨j, r', hj, hjt⟩ | hno
    · rw [envAt_at front V e0 front.length j r' (by rw [hfl]; exact hfr j r' hj) hj hjt (fun k r'' hk hr'' hkt => hk (hok.ok.nodup k j r'' r' (hfr k r'' hr'') (hfr j r' hj) hr'' hj (hkt.trans hjt.symm)))]
      refine hD.done j r' t hj hjt ?_ (fun hp => absurd (mem_pendDsts hj hp hjt) htp)
      cases hl : listed.getD j false with
      | true => rfl
      | false => exact absurd ⟨j, r', hj, hl, hjt⟩ hU
    · rw [envAt_other front V e0 _ (fun j r' _ hj hjt => hno ⟨j, r', hj, hjt⟩)]
      exact hD.other t (fun j r' hj hjt => hno ⟨j, r', hj, hjt⟩)
  have halloc : ∀ {c : CI}, isAlloc c = true → ∃ E sz z, c = .alloc E sz z := fun {c} h => by
    cases c <;> first | (cases h; done) | exact ⟨_, _, _, rfl⟩
  have hmem : ∀ r i, (r, i) ∈ front.zipIdx.filter (fun p => isAlloc p.1.2.2) → front[i]? = some r ∧ isAlloc r.2.2 = true := fun r i h => by
    rw [List.mem_filter] at h
    exact ⟨by have := List.mem_zipIdx_iff_getElem?.1 h.1; exact this, h.2⟩
  have hal : ∀ i r, front[i]? = some r → isAlloc r.2.2 = true → listed.getD i false = true := fun i r hr ha => by
    rcases hall i (hfr i r hr) with h | h
    · exact h
    · have := (hok.st i r hr h).2
      rw [ha] at this; cases this
  have hA : (front.zipIdx.filter (fun p => isAlloc p.1.2.2)).map (·.1) = allocsOf front := by
    have key : ∀ (l : List RIns) k, ((l.zipIdx k).filter (fun p => isAlloc p.1.2.2)).map (·.1) = l.filter (fun r => isAlloc r.2.2) := by
      intro l
      induction l with
      | nil => intro k; rfl
      | cons x l ih =>
        intro k
        rw [List.zipIdx_cons, List.filter_cons, List.filter_cons]
        cases hx : isAlloc x.2.2 <;> simp [hx, ih (k + 1)]
    exact key front 0
  rw [← hA] at hfin
  obtain ⟨e', O2, h1, h2, h3, h4⟩ := allocs_run' (g := g) (OS := OS) (a := a) (idf := idf) (front.zipIdx.filter (fun p => isAlloc p.1.2.2)) _ O (fun r i hri => by
    obtain ⟨hr, ha⟩ := hmem r i hri
    obtain ⟨E, sz, z, hc⟩ := halloc ha
    obtain ⟨d, hd⟩ := hok.ok.dst i r hr
    have := hD.al i r d E sz z hr hd hc (hal i r hr ha)
    exact ⟨ha, hok.ok.al i r hr ha, d, E, sz, z, hd, hc, this.1, this.2.1⟩) (by
      have hz : (front.zipIdx).Pairwise (fun p q => p.2 ≠ q.2) := by
        have key : ∀ (l : List RIns) k, (l.zipIdx k).Pairwise (fun p q => p.2 ≠ q.2) ∧ ∀ p ∈ l.zipIdx k, k ≤ p.2 := by
          intro l
          induction l with
          | nil => intro k; exact ⟨.nil, fun p hp => by simp at hp⟩
          | cons x l ih =>
            intro k
            rw [List.zipIdx_cons]
            refine ⟨List.pairwise_cons.2 ⟨fun p hp => ?_, (ih (k + 1)).1⟩, fun p hp => ?_⟩
            · have := (ih (k + 1)).2 p hp
              simp only; omega
            · rw [List.mem_cons] at hp
              rcases hp with rfl | hp
              · simp
              · have := (ih (k + 1)).2 p hp; omega
        exact (key front 0).1
      rw [List.nodup_iff_pairwise_ne, List.pairwise_map]
      have hz2 := hz.filter (fun p => isAlloc p.1.2.2)
      refine hz2.imp_of_mem (fun {p q} hp hq hne he => ?_)
      obtain ⟨rp, ip⟩ := p
      obtain ⟨rq, iq⟩ := q
      obtain ⟨hp1, hp2⟩ := hmem rp ip hp
      obtain ⟨hq1, hq2⟩ := hmem rq iq hq
      exact hne (hD.inj ip iq rp rq hp1 hq1 ⟨hal ip rp hp1 hp2, .inl hp2⟩ ⟨hal iq rq hq1 hq2, .inl hq2⟩ he)) (fun r i hri => by
    obtain ⟨hr, ha⟩ := hmem r i hri
    obtain ⟨E, sz, z, hc⟩ := halloc ha
    obtain ⟨d, hd⟩ := hok.ok.dst i r hr
    exact (hD.al i r d E sz z hr hd hc (hal i r hr ha)).2.2) hD.sub hreads hfin
  refine ⟨e', O2, ⟨hD.inv.drop h1, hD.size, hD.defers, fun j hj hjs => ?_, fun k' j hk1 hk2 => by omega, fun t ht => h2 t fun ⟨j, r, hj, hl, hjt⟩ => ht j r hj hl hjt, fun j r hj hl => ?_⟩, h4⟩
  · constructor
    · intro h; rw [hun j hj hjs] at h; cases h
    · intro h; omega
  · have hd : dep ops m j = false := by
      rcases hall j (hfr j r hj) with h | h
      · rw [hl] at h; cases h
      · exact h
    obtain ⟨hg, _⟩ := hok.st j r hj hd
    obtain ⟨d, hdd⟩ := hok.ok.dst j r hj
    obtain ⟨rd, rg, ci⟩ := r
    simp only at hg hdd
    subst hg hdd
    refine ⟨d, ci, rfl, chk_mem h3 (mem_strags (k := m) hj fun k' hk1 hk2 => ?_)⟩
    have : k' = m := by omega
    rw [this]; exact hd

theorem sfront_sound {ow : List Nat} {K : Env → Heap → Prop} {Q : Exit → Act → World → Prop} (hQ : ∀ a w, Post W0 g0 n K a w → Q .normal a w) (hok : SregOK ops m front tail) (hm : m ≤ ops.size) (hfl : front.length = m)
    (hcomp : ∀ (i : Nat) o, i < m → ops[i]? = some o → ∃ r, front[i]? = some r ∧ compileOper P n ow ops o = some r) (hlen : tail.length + m = ops.size)
    (htail : ∀ (i : Nat) o, m ≤ i → ops[i]? = some o → ∃ r, tail[i - m]? = some r ∧ compileOper P n ow ops o = some r)
    (hsteps : ∀ (i : Nat) r, front[i]? = some r → stepOK P O (envAt V e0 front i) r (V i))
    (hfin : opsW P (allocsOf front) (fun e O => chk (strags ops m front m) e O ∧ opsS P (tailS ops m front tail) K e O) (killE (pendDsts front) (envAt V e0 front front.length)) O) :
    ∀ (q : Nat) (listed : Array Bool) (g : Gh) (OS : Heap) (w : World) (a : Act) (idf : Nat → Nat), listed.size = ops.size → cnt listed ops.size + q = ops.size → (∀ j, m ≤ j → j < ops.size → listed.getD j false = false) → g0.le g →
      DSt W0 n front V e0 O listed g OS w a idf → wpAnyIn (FW rd) 0 P .any ops Q q listed a w := by
  intro q
  induction q with
  | zero =>
    intro listed g OS w a idf hls hcnt hun hle hD
    have hall : ∀ j, j < ops.size → listed.getD j false = true := by
      have : (List.range ops.size).countP (fun j => listed.getD j false) = (List.range ops.size).length := by
        have : cnt listed ops.size = ops.size := by omega
        unfold cnt at this
        rw [this]; simp
      rw [List.countP_eq_length] at this
      exact fun j hj => this j (List.mem_range.2 hj)
    have := hall m hok.lt
    rw [hun m (Nat.le_refl _) hok.lt] at this
    cases this
  | succ q ih =>
    intro listed g OS w a idf hls hcnt hun hle hD
    rcases Classical.em (∀ j, j < m → listed.getD j false = true ∨ dep ops m j = false) with hall | hno
    · obtain ⟨e', O2, hT, h⟩ := to_tail hok hm hfl hcomp hfin hls hun hall hD
      exact strag_sound hQ hok hm hfl hcomp hlen htail (q + 1) m listed g O2 w a e' hls hcnt (Nat.le_refl _) hm hle hT (by rw [Nat.sub_self]; exact h)
    · have hno' : ∃ j0, j0 < m ∧ listed.getD j0 false = false ∧ dep ops m j0 = true := by
        refine Classical.byContradiction fun hc => hno fun j hj => ?_
        cases hl : listed.getD j false with
        | true => exact .inl rfl
        | false =>
          cases hd : dep ops m j with
          | false => exact .inr rfl
          | true => exact absurd ⟨j, hj, hl, hd⟩ hc
      obtain ⟨j0, hj0, hl0, hd0⟩ := hno'
      refine ⟨fun he => ?_, fun i hi => ?_⟩
      · rcases first_unlisted listed m with hall | ⟨i0, h1, h2, h3⟩
        · rw [hall j0 hj0] at hl0; cases hl0
        · have := ready_first hok.ok hls (by omega) h2 h3
          rw [he] at this; cases this
      · obtain ⟨his, hiu⟩ := ready_unlisted hls hi
        have him : i < m := by
          rcases Nat.lt_trichotomy i m with h' | h' | h'
          · exact h'
          · subst h'
            rw [dep_listed hi hd0] at hl0; cases hl0
          · have := dep_listed hi (hok.tt i m his (Nat.le_refl _) h')
            rw [hun m (Nat.le_refl _) hok.lt] at this
            cases this
        refine draw_step hok.ok hm hfl hcomp hsteps hls hD him hi (fun g' OS' w' a' idf' h1 h2 => ?_)
        refine ih _ g' OS' w' a' idf' (by simpa using hls) ?_ (fun j hj hjs => ?_) (hle.trans h1) h2
        · rw [cnt_set (by omega) hls hiu]; omega
        · rw [listed_set (by omega), if_neg (by omega)]
          exact hun j hj hjs

theorem sreg_sound {id : Nat} {ow : List Nat} {K : Env → Heap → Prop} {Q : Exit → Act → World → Prop} (hmix : P.follows .mixedOrders = true) (hm : m ≤ ops.size)
    (hfront : (ops.toList.take m).mapM (compileOper P n ow ops) = some front) (htail : (ops.toList.drop m).mapM (compileOper P n ow ops) = some tail) (hok : sregOK ops m front tail = true)
    (hS : St W0 g O w n a e) (h : drawW P front (fun e' => opsW P (allocsOf front) (fun e O => chk (strags ops m front m) e O ∧ opsS P (tailS ops m front tail) K e O) (killE (pendDsts front) e') O) e O)
    (hQ : ∀ a w, Post W0 g n K a w → Q .normal a w) : (Code.region id ops true).wpIn (FW rd) 0 P Q a w := by
  obtain ⟨V, h1, h2⟩ := drawW_steps front _ e h
  have hok := sregOK_inv hok
  obtain ⟨hfl, hget⟩ := mapM_get hfront
  obtain ⟨htl, htget⟩ := mapM_get htail
  have hfl : front.length = m := by rw [hfl]; simp; omega
  refine wpIn_region_any hmix ?_
  have hlf : ∀ j, (Array.replicate ops.size false).getD j false = false := fun j => by
    by_cases hj : j < ops.size <;> simp [hj]
  refine sfront_sound (ow := ow) (g0 := g) hQ hok hm hfl (fun i o hi ho => ?_) (by rw [htl]; simp; omega) (fun i o hi ho => ?_) h1 h2 ops.size (Array.replicate ops.size false) g O _ a (fun _ => 0) (by simp) ?_ (fun j _ _ => hlf j) (.refl g) ?_
  · exact hget i o (by rw [List.getElem?_take, if_pos hi]; simpa using ho)
  · exact htget (i - m) o (by rw [List.getElem?_drop, show m + (i - m) = i by omega]; simpa using ho)
  · have : cnt (Array.replicate ops.size false) ops.size = 0 := by
      unfold cnt
      rw [List.countP_eq_zero]
      intro j _
      rw [hlf j]; simp
    omega
  · refine ⟨hS.inv.drew, fun _ _ h => h, hS.size, hS.defers, fun t _ => hS.reads t, fun i r d _ _ hl => ?_, fun i r d E sz z _ _ _ hl => ?_, fun i r d E sz L cp _ _ _ _ hl => ?_, fun i j r r' _ _ ⟨hl, _⟩ => ?_⟩
    all_goals (rw [hlf] at hl; cases hl)

end
end Go.Ab

/- The abstract walk, seventeenth part: whole bodies: sequences, branches, blocks, loops. -/
namespace Go.Ab

inductive Cmd where
  | skip
  | reg (rs : List RIns)
  | dreg (kill : List Nat) (front post : List RIns)
  | sreg (kill : List Nat) (front allocs S0 : List RIns) (tail : List (RIns × List RIns))
  | seq (live : List Nat) (a b : Cmd)
  | cond (c : Operand) (a b : Cmd)
  | block (id : Nat) (b : Cmd)
  | loop (live : List Nat) (b : Cmd)
  | exit (id : Nat)
  | ret
  | range (g : Operand) (ps : List Nat) (asg body : Cmd)

/-- How a command ends. -/
inductive Ex where
  | normal
  | exit (id : Nat)
  | ret

abbrev Kont := Ex → Env → Heap → Prop

/-- F holds of the state, or of what may be said of it instead. -/
def WeakE (F : Env → Heap → Prop) (e : Env) (O : Heap) : Prop :=
  ∀ W0 g w n a, St W0 g O w n a e → ∃ g' e' O', g.le g' ∧ St W0 g' O' w n a e' ∧ F e' O'

theorem WeakE.now {F : Env → Heap → Prop} {e : Env} {O : Heap} (h : F e O) : WeakE F e O :=
  fun _ g _ _ _ hS => ⟨g, e, O, .refl g, hS, h⟩

theorem WeakE.mono {F F' : Env → Heap → Prop} {e : Env} {O : Heap} (h : WeakE F e O) (hf : ∀ e O, F e O → F' e O) : WeakE F' e O :=
  fun W0 g w n a hS => let ⟨g', e', O', h1, h2, h3⟩ := h W0 g w n a hS; ⟨g', e', O', h1, h2, hf _ _ h3⟩

theorem WeakE.bind {F F' : Env → Heap → Prop} {e : Env} {O : Heap} (h : WeakE F e O) (hf : ∀ e O, F e O → WeakE F' e O) : WeakE F' e O :=
  fun W0 g w n a hS => let ⟨g', e', O', h1, h2, h3⟩ := h W0 g w n a hS
    let ⟨g'', e'', O'', h4, h5, h6⟩ := hf e' O' h3 W0 g' w n a h2; ⟨g'', e'', O'', h1.trans h4, h5, h6⟩

theorem WeakE.drop {F : Env → Heap → Prop} {e : Env} {O : Heap} (O' : Heap) (hs : ∀ i o, O' i = some o → O i = some o) (h : WeakE F e O') : WeakE F e O :=
  fun W0 g w n a hS => h W0 g w n a ⟨hS.inv.drop hs, hS.size, hS.defers, hS.reads⟩

theorem WeakE.forget {F : Env → Heap → Prop} {e : Env} {O : Heap} (e' : Env) (hs : ∀ t, e' t = e t ∨ e' t = .junk) (h : WeakE F e' O) : WeakE F e O :=
  fun W0 g w n a hS => h W0 g w n a ⟨hS.inv, hS.size, hS.defers, fun t => by
    rcases hs t with h | h
    · rw [h]; exact hS.reads t
    · rw [h]; exact .junk _⟩

def condW (x : AV) (A B : Prop) : Prop := match x with
  | .val (.bool b) => (b = true → A) ∧ (b = false → B)
  | _ => False

/-- What is known of a few slots alone. -/
def keepE : List Nat → Env → Env
  | [], _ => fun _ => .junk
  | d :: L, e => (keepE L e).upd d (e d)

theorem keepE_or : ∀ (L : List Nat) (e : Env) (t : Nat), keepE L e t = e t ∨ keepE L e t = .junk
  | [], e, t => .inr rfl
  | d :: L, e, t => by
    show (keepE L e).upd d (e d) t = e t ∨ (keepE L e).upd d (e d) t = .junk
    rw [Env.upd_apply]
    split
    · rename_i h; rw [h]; exact .inl rfl
    · exact keepE_or L e t

theorem WeakE.keep {F : Env → Heap → Prop} {e : Env} {O : Heap} (L : List Nat) (h : F (keepE L e) O) : WeakE F e O :=
  (WeakE.now h).forget _ (keepE_or L e)

def seqK (_ : List Nat) (K : Kont) (F : Env → Heap → Prop) : Kont
  | .normal => WeakE F
  | x => K x

def blockK (id : Nat) (K : Kont) : Kont
  | .exit id' => if id' = id then K .normal else K (.exit id')
  | x => K x

def loopK (_ : List Nat) (I : Nat → Env → Heap → Prop) (n : Nat) (K : Kont) : Kont
  | .normal => WeakE fun e O => ∃ m, m < n ∧ I m e O
  | x => K x

def putAll (e : Env) : List Nat → List AV → Env
  | p :: ps, x :: xs => putAll (e.upd p x) ps xs
  | _, _ => e

/-- Behind the assignments to a loop's variables. -/
def asgK (id : Nat) (RR : AObj) (F : Env → Heap → Prop) : Kont
  | .normal => fun e O => O id = some RR ∧ F e O
  | _ => fun _ _ => False

/-- Behind a round. -/
def roundK (id : Nat) (RR BB : AObj) (DD : Ex → AObj) (Ky : AV → Heap → Prop) : Kont
  | .normal => fun _ O => O id = some BB ∧ Ky (.val (.bool true)) (O.upd id RR)
  | x => fun _ O => O id = some BB ∧ Ky (.val (.bool false)) (O.upd id (DD x))

/-- What the body of a range over a function is worth. -/
def YieldOK (P : Program) (ps : List Nat) (asgW bodyW : Kont → Env → Heap → Prop) (e : Env) (id : Nat) (RR BB : AObj) (DD : Ex → AObj) : Prop :=
  ∀ (args : List AV) (Oy : Heap) (Ky : AV → Heap → Prop), Oy id = some RR → args.length = ps.length →
    asgW (asgK id RR fun e1 O1 => bodyW (roundK id RR BB DD Ky) e1 (O1.upd id BB)) (putAll e ps args) Oy → YieldA P id args Oy Ky

def rangeEnd (id : Nat) (RR : AObj) (DD : Ex → AObj) (K : Kont) (e : Env) (O : Heap) : Prop :=
  (O id = some RR ∧ K .normal e (O.del id)) ∨ ∃ x, x ≠ .normal ∧ O id = some (DD x) ∧ K x e (O.del id)

def rangeW (P : Program) (ps : List Nat) (asgW bodyW : Kont → Env → Heap → Prop) (x : AV) (K : Kont) (e : Env) (O : Heap) : Prop :=
  ∃ f fa fb, x = .clo (.func f) fa fb ∧ ∀ (id : Nat) (RR BB : AObj) (DD : Ex → AObj), O id = none → YieldOK P ps asgW bodyW e id RR BB DD →
    CallA P f (fa ++ [.yld id] ++ fb) (O.upd id RR) fun _ O' => rangeEnd id RR DD K e O'

def cmdW (P : Program) : Cmd → Kont → Env → Heap → Prop
  | .skip, K, e, O => K .normal e O
  | .reg rs, K, e, O => opsW P rs (K .normal) e O
  | .dreg kill front post, K, e, O => drawW P front (fun e' => opsW P post (K .normal) (killE kill e') O) e O
  | .sreg kill front allocs S0 tail, K, e, O => drawW P front (fun e' => opsW P allocs (fun e O => chk S0 e O ∧ opsS P tail (K .normal) e O) (killE kill e') O) e O
  | .seq L a b, K, e, O => cmdW P a (seqK L K (cmdW P b K)) e O
  | .cond c a b, K, e, O => condW (e.opd c) (cmdW P a K e O) (cmdW P b K e O)
  | .block id b, K, e, O => cmdW P b (blockK id K) e O
  | .loop L b, K, e, O => ∃ (I : Nat → Env → Heap → Prop) (n : Nat), I n e O ∧ ∀ n e O, I n e O → cmdW P b (loopK L I n K) e O
  | .exit id, K, e, O => K (.exit id) e O
  | .ret, K, e, O => K .ret e O
  | .range g ps asg body, K, e, O => rangeW P ps (cmdW P asg) (cmdW P body) (e.opd g) K e O

/-- No range over a function is in it. -/
def Cmd.flat : Cmd → Bool
  | .seq _ a b => a.flat && b.flat
  | .cond _ a b => a.flat && b.flat
  | .block _ b => b.flat
  | .loop _ b => b.flat
  | .range .. => false
  | _ => true

def Cmd.strip : Cmd → Cmd
  | .seq _ a b => .seq [] a.strip b.strip
  | .cond c a b => .cond c a.strip b.strip
  | .block id b => .block id b.strip
  | .loop _ b => .loop [] b.strip
  | .range g ps a b => .range g ps a.strip b.strip
  | c => c

theorem strip_eq (P : Program) : ∀ (c : Cmd) (K : Kont), cmdW P c.strip K = cmdW P c K
  | .skip, K => rfl
  | .reg _, K => rfl
  | .dreg _ _ _, K => rfl
  | .sreg _ _ _ _ _, K => rfl
  | .exit _, K => rfl
  | .ret, K => rfl
  | .range g ps a b, K => by
    funext e O
    show rangeW P ps (cmdW P a.strip) (cmdW P b.strip) (e.opd g) K e O = rangeW P ps (cmdW P a) (cmdW P b) (e.opd g) K e O
    rw [funext (strip_eq P a), funext (strip_eq P b)]
  | .seq L a b, K => by
    funext e O
    show cmdW P a.strip (seqK [] K (cmdW P b.strip K)) e O = cmdW P a (seqK L K (cmdW P b K)) e O
    rw [strip_eq P a, strip_eq P b]
    have : ∀ F, seqK [] K F = seqK L K F := fun F => by funext x; cases x <;> rfl
    rw [this]
  | .cond c a b, K => by
    funext e O
    show condW (e.opd c) (cmdW P a.strip K e O) (cmdW P b.strip K e O) = _
    rw [strip_eq P a, strip_eq P b]; rfl
  | .block id b, K => by
    funext e O
    show cmdW P b.strip (blockK id K) e O = _
    rw [strip_eq P b]; rfl
  | .loop L b, K => by
    funext e O
    have : ∀ I n, loopK [] I n K = loopK L I n K := fun I n => by funext x; cases x <;> rfl
    show (∃ (I : Nat → Env → Heap → Prop) (n : Nat), I n e O ∧ ∀ n e O, I n e O → cmdW P b.strip (loopK [] I n K) e O) = (∃ (I : Nat → Env → Heap → Prop) (n : Nat), I n e O ∧ ∀ n e O, I n e O → cmdW P b (loopK L I n K) e O)
    simp only [strip_eq P b, this]

/-- Where the operations begin that wait for all before them. -/
def tailFrom (ops : Array Oper) : Nat → Nat
  | 0 => 0
  | k + 1 => if (List.range k).all (fun j => dep ops k j) = true then tailFrom ops k else k + 1

/-- Where the first write stands. -/
def firstW : List Oper → Nat
  | [] => 0
  | o :: rest => match o.op with
    | .store .. => 0
    | _ => firstW rest + 1

def compileS (P : Program) (n : Nat) (ow : List Nat) (ops : Array Oper) : Option Cmd :=
  match (ops.toList.take (firstW ops.toList)).mapM (compileOper P n ow ops), (ops.toList.drop (firstW ops.toList)).mapM (compileOper P n ow ops) with
  | some front, some tail => if firstW ops.toList ≤ ops.size ∧ sregOK ops (firstW ops.toList) front tail = true then
      some (.sreg (pendDsts front) front (allocsOf front) (strags ops (firstW ops.toList) front (firstW ops.toList)) (tailS ops (firstW ops.toList) front tail)) else none
  | _, _ => none

/-- .. directly or not. -/
def tailFrom2 (ops : Array Oper) : Nat → Nat
  | 0 => 0
  | k + 1 => if (List.range k).all (fun j => waitedFor ops k j) = true then tailFrom2 ops k else k + 1
def dregAt (P : Program) (n : Nat) (ow : List Nat) (ops : Array Oper) (m : Nat) : Option Cmd :=
  match (ops.toList.take m).mapM (compileOper P n ow ops), (ops.toList.drop m).mapM (compileOper P n ow ops) with
  | some front, some tail => if m ≤ ops.size ∧ drawOK ops m front = true then some (.dreg (pendDsts front) front (allocsOf front ++ tail)) else none
  | _, _ => none
/-- The tail reads what the front forgets. -/
def wasted : Cmd → Bool
  | .dreg kill _ post => post.any fun r => (readsOf2 r).any fun t => kill.contains t
  | _ => false

def compileCode (P : Program) (n : Nat) (ow : List Nat) : Code → Option Cmd
  | .skip => some .skip
  | .region _ ops false => (ops.toList.mapM (compileOper P n ow ops)).map .reg
  | .region _ ops true => match dregAt P n ow ops (tailFrom ops ops.size) with
    | some c => if wasted c = true then (match dregAt P n ow ops (tailFrom2 ops ops.size) with
      | some c2 => some c2
      | none => some c) else some c
    | none => compileS P n ow ops
  | .seq a b => match compileCode P n ow a, compileCode P n ow b with
    | some a, some b => some (.seq [] a b)
    | _, _ => none
  | .cond c a b => match compileCode P n ow a, compileCode P n ow b with
    | some a, some b => some (.cond c a b)
    | _, _ => none
  | .block id b => (compileCode P n ow b).map (.block id)
  | .loop b => (compileCode P n ow b).map (.loop [])
  | .scope b => compileCode P n ow b
  | .label _ => some .skip
  | .exit id => some (.exit id)
  | .ret => some .ret
  | .rangeFunc g ps a b => match compileCode P n ow a, compileCode P n ow b with
    | some a, some b => if (a.flat && b.flat && ps.toList.all (· < n)) = true then some (.range g ps.toList a b) else none
    | _, _ => none
  | _ => none

def Ex.to : Ex → Exit
  | .normal => .normal
  | .exit id => .exit id
  | .ret => .ret

/-- A block that nothing asks for any more. -/
theorem Inv.turn {W0 : World} {g : Gh} {O : Heap} {w : World} (h : Inv W0 g O w) {b : Nat} {o o' : Obj} (hb : w.heap[b]? = some o) (hn : ∀ cs E fr, o ≠ .cells cs E fr) (hW : W0.heap.size ≤ b) (hd : ¬ g.d b)
    (ho : ∀ i ob r, O i = some ob → g.m i = some (b, r) → False) : Inv W0 g O (w.putObj b o') := by
  have hoth : ∀ k, k ≠ b → (w.putObj b o').heap[k]? = w.heap[k]? := fun k hk => World.putObj_heap_other hk
  refine h.step ⟨rfl, rfl, rfl, by simp, fun k hk => hoth k (by omega)⟩ (fun b' k v hv => ?_) (fun i ob b' r hi hm => hoth b' (fun e => by subst e; exact ho i ob r hi hm)) (fun b' hb' => hoth b' (fun e => by subst e; exact hd hb'))
  refine World.cell?_of_block (w := w) (hoth b' (fun e => ?_))
  subst e
  have := (h.cell _ _ _ hv).1
  unfold World.cell? at this
  rw [hb] at this
  cases o <;> first | cases this | exact hn _ _ _ rfl


theorem putAll_reads {g : Gh} : ∀ (ps : List Nat) (xs : List AV) (vs : List Value) (e : Env) (T : Array Value) (n : Nat), T.size = n → (∀ p ∈ ps, p < n) → xs.length = ps.length → vs.length = ps.length → (∀ (i : Nat) x v, xs[i]? = some x → vs[i]? = some v → Reads g x v) →
    (∀ t, Reads g (e t) (T.getD t undef)) → ((ps.zip vs).foldl (fun T p => T.setIfInBounds p.1 p.2) T).size = n ∧ ∀ t, Reads g (putAll e ps xs t) (((ps.zip vs).foldl (fun T p => T.setIfInBounds p.1 p.2) T).getD t undef)
  | [], _, _, e, T, n, hT, _, _, _, _, he => by
    refine ⟨hT, fun t => ?_⟩
    have : ∀ xs, putAll e [] xs = e := fun xs => by cases xs <;> rfl
    rw [this]
    exact he t
  | p :: ps, x :: xs, v :: vs, e, T, n, hT, hp, hx, hv, hr, he => by
    refine putAll_reads ps xs vs (e.upd p x) (T.setIfInBounds p v) n (by simp [hT]) (fun q hq => hp q (by simp [hq])) (by simpa using hx) (by simpa using hv) (fun i y u hy hu => hr (i + 1) y u (by simpa using hy) (by simpa using hu)) fun t => ?_
    rw [Env.upd_apply]
    split
    · rename_i ht
      subst ht
      have hlt : t < T.size := by rw [hT]; exact hp t (by simp)
      have := hr 0 x v rfl rfl
      simpa [hlt] using this
    · rename_i ht
      have : (T.setIfInBounds p v).getD t undef = T.getD t undef := by simp [Array.getElem?_setIfInBounds_ne (Ne.symm ht)]
      rw [this]
      exact he t
  | _ :: _, [], _, _, _, _, _, _, hx, _, _, _ => by simp at hx
  | _ :: _, _ :: _, [], _, _, _, _, _, _, hv, _, _ => by simp at hv

/-- How a jump is written. -/
def Ex.code : Ex → Option Code
  | .normal => none
  | .exit id => some (.exit id)
  | .ret => some .ret

theorem Inv.obj_at {W0 : World} {g : Gh} {O : Heap} {w : World} (h : Inv W0 g O w) {id b r : Nat} {o : AObj} (ho : O id = some o) (hm : g.m id = some (b, r)) : W0.heap.size ≤ b ∧ ObjAt w g b r o := by
  obtain ⟨b', r', hm', h1, _, h2⟩ := h.obj id o ho
  rw [hm] at hm'
  cases hm'
  exact ⟨h1, h2⟩

theorem putObj_change {W0 : World} {g : Gh} {O : Heap} {w : World} (h : Inv W0 g O w) {id b r : Nat} {o ao : AObj} {ob : Obj} (ho : O id = some o) (hm : g.m id = some (b, r)) (hat : ObjAt (w.putObj b ob) g b r ao) : Inv W0 g (O.upd id ao) (w.putObj b ob) :=
  h.change ho hm rfl rfl rfl (by simp) (fun k hk => World.putObj_heap_other hk) hat

section
variable {P : Program} {n : Nat} {ps : Array Tmp} {A B : Code} {asg body : Cmd} {e : Env}

/-- A round. -/
theorem yield_sound (hps : ps.toList.all (· < n) = true)
    (hA : ∀ (rd : Option Nat) (W0 : World) (K : Kont) (Q : Exit → Act → World → Prop) (g0 g : Gh) (O : Heap) (w : World) (a : Act) (e : Env), g0.le g → St W0 g O w n a e → cmdW P asg K e O →
      (∀ x g' e' O' a' w', g0.le g' → St W0 g' O' w' n a' e' → K x e' O' → Q x.to a' w') → A.wpIn (FW rd) 0 P Q a w)
    (hB : ∀ (rd : Option Nat) (W0 : World) (K : Kont) (Q : Exit → Act → World → Prop) (g0 g : Gh) (O : Heap) (w : World) (a : Act) (e : Env), g0.le g → St W0 g O w n a e → cmdW P body K e O →
      (∀ x g' e' O' a' w', g0.le g' → St W0 g' O' w' n a' e' → K x e' O' → Q x.to a' w') → B.wpIn (FW rd) 0 P Q a w)
    (id : Nat) : YieldOK P ps.toList (cmdW P asg) (cmdW P body) e id (.rcd .ready none ps A B n e) (.rcd .busy none ps A B n e) (fun x => .rcd .done x.code ps A B n e) := by
  intro args Oy Ky hid hlen hW g W0 w vs b r hI hm hs hr
  obtain ⟨hW0, L, h1, h2, h3, h4, h5, h6, h7, h8⟩ := hI.obj_at hid hm
  have hsz : vs.size = L.params.size := by rw [hs, hlen, h4]; simp
  refine ⟨L.fn, _, L.assign, L.body, run_yield h1 hsz, ?_⟩
  have hput := putAll_reads (g := g) ps.toList args vs.toList e L.tmps n h7 (fun p hp => by simpa using List.all_eq_true.1 hps p hp) hlen (by simp [hs, hlen]) (fun i x v hx hv => hr i x v hx (by simpa using hv)) h8
  have hfold : (L.params.zip vs).foldl (fun tmps (t, a) => tmps.setIfInBounds t a) L.tmps = (ps.toList.zip vs.toList).foldl (fun T p => T.setIfInBounds p.1 p.2) L.tmps := by
    rw [h4, ← Array.foldl_toList, Array.toList_zip]
  have hfold' : (L.params.zip vs).foldl (fun tmps x => match x with | (t, a) => tmps.setIfInBounds t a) L.tmps = (ps.toList.zip vs.toList).foldl (fun T p => T.setIfInBounds p.1 p.2) L.tmps := hfold
  rw [hfold', h5, h6]
  refine roundIn_of_wpIn (F := FW none) trivial ?_
  have hst : St W0 g Oy w n { tmps := (ps.toList.zip vs.toList).foldl (fun T p => T.setIfInBounds p.1 p.2) L.tmps, defers := [] } (putAll e ps.toList args) := ⟨hI, hput.1, .nil _, hput.2⟩
  refine hA (some b) W0 _ _ g g Oy w _ _ (.refl g) hst hW fun x g1 e1 O1 a1 w1 k1 k2 k3 => ?_
  cases x with
  | exit i => exact k3.elim
  | ret => exact k3.elim
  | normal =>
    obtain ⟨k3, k4⟩ := k3
    have hm1 := k1.m _ _ hm
    obtain ⟨hW1, L1, j1, j2, j3, j4, j5, j6, j7, j8⟩ := k2.inv.obj_at k3 hm1
    have hlt1 := (Array.getElem?_eq_some_iff.1 j1).1
    refine ⟨_, run_beginRound j1 j2, ?_⟩
    have hI2 : Inv W0 g1 (O1.upd id (.rcd .busy none ps A B n e)) (w1.putObj b (.loop { L1 with state := .busy })) :=
      putObj_change k2.inv k3 hm1 ⟨_, World.putObj_heap_same hlt1, rfl, j3, j4, j5, j6, j7, j8⟩
    refine hB (some b) W0 _ _ g1 g1 _ _ a1 e1 (.refl g1) ⟨hI2, k2.size, k2.defers, k2.reads⟩ k4 fun x g2 e2 O2 a2 w2 l1 l2 l3 => ?_
    have hm2 := l1.m _ _ hm1
    have key : ∀ (x : Ex) (K' : Prop), O2 id = some (.rcd .busy none ps A B n e) → ∃ v w3, (Instr.endRound b x.code).run P w2 = .ok v w3 ∧ v = .bool x.code.isNone ∧
        Inv W0 g2 (O2.upd id (.rcd (if x.code.isNone then .ready else .done) x.code ps A B n e)) w3 := fun x K' hid2 => by
      obtain ⟨hW2, L2, i1, i2, i3, i4, i5, i6, i7, i8⟩ := l2.inv.obj_at hid2 hm2
      exact ⟨_, _, run_endRound x.code i1, rfl, putObj_change l2.inv hid2 hm2 ⟨_, World.putObj_heap_same (Array.getElem?_eq_some_iff.1 i1).1, rfl, rfl, i4, i5, i6, i7, i8⟩⟩
    have hle := k1.trans l1
    cases x with
    | normal =>
      obtain ⟨l3, l4⟩ := l3
      obtain ⟨v, w3, i1, rfl, i3⟩ := key .normal True l3
      exact ⟨_, w3, i1, _, rfl, g2, _, _, hle, i3, .val _, l4⟩
    | exit i =>
      obtain ⟨l3, l4⟩ := l3
      obtain ⟨v, w3, i1, rfl, i3⟩ := key (.exit i) True l3
      exact ⟨_, w3, i1, _, rfl, g2, _, _, hle, i3, .val _, l4⟩
    | ret =>
      obtain ⟨l3, l4⟩ := l3
      obtain ⟨v, w3, i1, rfl, i3⟩ := key .ret True l3
      exact ⟨_, w3, i1, _, rfl, g2, _, _, hle, i3, .val _, l4⟩

/-- The statement. -/
theorem range_sound (hps : ps.toList.all (· < n) = true)
    (hA : ∀ (rd : Option Nat) (W0 : World) (K : Kont) (Q : Exit → Act → World → Prop) (g0 g : Gh) (O : Heap) (w : World) (a : Act) (e : Env), g0.le g → St W0 g O w n a e → cmdW P asg K e O →
      (∀ x g' e' O' a' w', g0.le g' → St W0 g' O' w' n a' e' → K x e' O' → Q x.to a' w') → A.wpIn (FW rd) 0 P Q a w)
    (hB : ∀ (rd : Option Nat) (W0 : World) (K : Kont) (Q : Exit → Act → World → Prop) (g0 g : Gh) (O : Heap) (w : World) (a : Act) (e : Env), g0.le g → St W0 g O w n a e → cmdW P body K e O →
      (∀ x g' e' O' a' w', g0.le g' → St W0 g' O' w' n a' e' → K x e' O' → Q x.to a' w') → B.wpIn (FW rd) 0 P Q a w)
    {W0 : World} {G : Operand} {K : Kont} {Q : Exit → Act → World → Prop} {g0 g : Gh} {O : Heap} {w : World} {a : Act} (hle : g0.le g) (hS : St W0 g O w n a e) (h : rangeW P ps.toList (cmdW P asg) (cmdW P body) (e.opd G) K e O)
    (hQ : ∀ x g' e' O' a' w', g0.le g' → St W0 g' O' w' n a' e' → K x e' O' → Q x.to a' w') : (Code.rangeFunc G ps A B).wpIn (FW none) 0 P Q a w := by
  obtain ⟨f, fa, fb, hG, h⟩ := h
  refine wpIn_rangeFunc fun fn _ => ?_
  have hrG := hS.opd G
  rw [hG] at hrG
  have hval : ∃ cs ds, a.eval G = .func (.func f) cs ds ∧ cs.size = fa.length ∧ ds.size = fb.length ∧ (∀ (i : Nat) x v, fa[i]? = some x → cs[i]? = some v → Reads g x v) ∧ (∀ (i : Nat) x v, fb[i]? = some x → ds[i]? = some v → Reads g x v) := by
    generalize a.eval G = v at hrG
    cases hrG with
    | clo _ _ _ cs ds h1 h2 h3 h4 => exact ⟨cs, ds, rfl, h1, h2, h3, h4⟩
  obtain ⟨cs, ds, hv, s1, s2, r1, r2⟩ := hval
  obtain ⟨id, hid1, hid2⟩ := hS.inv.fresh
  -- the two blocks
  have hIa := hS.inv.alloc (.deferred (some []))
  let ga : Gh := { g with d := fun b => g.d b ∨ b = w.heap.size, s := g.s }
  have hlea : g.le ga := ⟨fun _ _ _ e => e, fun _ _ e => e, fun _ e => .inl e, rfl⟩
  have hIb : Inv W0 ga O (w.alloc (.deferred (some []))) :=
    ⟨hIa.below, hIa.cell, hIa.free, fun i o hi => let ⟨b, r, h1, h2, h3, h4⟩ := hIa.obj i o hi; ⟨b, r, h1, h2, h3, ObjAt.mono' (g := g) (h := ga) (w := w.alloc (.deferred (some []))) (fun _ _ _ e => e) (fun _ _ e => e) rfl h4⟩, hIa.inj,
      fun b hb => by
        rcases hb with hb | rfl
        · exact hIa.marks b hb
        · exact ⟨World.alloc_heap_new w _, hS.inv.below.size⟩, hIa.grow⟩
  let rc : Loop := { state := .ready, pending := none, fn, tmps := a.tmps, params := ps, assign := A, body := B, defers := w.heap.size }
  let w1 := (w.alloc (.deferred (some []))).alloc (.loop rc)
  have hIc : Inv W0 ga O w1 := hIb.alloc _
  have hl1 : w1.heap[w.heap.size + 1]? = some (.loop rc) := by
    have := World.alloc_heap_new (w.alloc (.deferred (some []))) (.loop rc)
    rwa [World.size_alloc] at this
  have hnb : (∀ k, ga.c (w.heap.size + 1) k = none) ∧ ∀ j o r', O j = some o → ga.m j = some (w.heap.size + 1, r') → False := by
    have := hIb.newBlock
    rwa [World.size_alloc] at this
  have hg1 := Gh.name_le (g := ga) (i := id) (b := w.heap.size + 1) (r := 0) hid1
  have hId : Inv W0 (ga.name id (w.heap.size + 1) 0) (O.upd id (.rcd .ready none ps A B n e)) w1 :=
    hIc.new hid1 _ (by have := hS.inv.below.size; omega) hnb.1 hnb.2 ⟨rc, hl1, rfl, rfl, rfl, rfl, rfl, hS.size, fun t => (hS.reads t).mono (hlea.trans hg1)⟩
  have hge : g.le (ga.name id (w.heap.size + 1) 0) := hlea.trans hg1
  have hmid : (ga.name id (w.heap.size + 1) 0).m id = some (w.heap.size + 1, 0) := if_pos rfl
  have hC := h id (.rcd .ready none ps A B n e) (.rcd .busy none ps A B n e) (fun x => .rcd .done x.code ps A B n e) hid2 (yield_sound hps hA hB id)
  have hargs : ∀ (i : Nat) x v, (fa ++ [.yld id] ++ fb)[i]? = some x → (cs ++ #[.func (.yield (w.heap.size + 1)) #[] #[]] ++ ds)[i]? = some v → Reads (ga.name id (w.heap.size + 1) 0) x v := by
    intro i x v hx hv
    by_cases h1 : i < fa.length
    · rw [List.append_assoc, List.getElem?_append_left h1] at hx
      rw [Array.append_assoc, Array.getElem?_append_left (by omega)] at hv
      exact (r1 i x v hx hv).mono hge
    · rw [List.append_assoc, List.getElem?_append_right (by omega)] at hx
      rw [Array.append_assoc, Array.getElem?_append_right (by omega)] at hv
      rw [s1] at hv
      by_cases h2 : i - fa.length < 1
      · have : i - fa.length = 0 := by omega
        rw [this] at hx hv
        rw [Array.getElem?_append_left (by simp)] at hv
        simp at hx hv
        subst hx hv
        exact .yld id _ 0 hmid
      · rw [List.getElem?_append_right (by simp; omega)] at hx
        rw [Array.getElem?_append_right (by simp; omega)] at hv
        exact (r2 _ x v hx (by simpa using hv)).mono hge
  have hcall := hC.2 (ga.name id (w.heap.size + 1) 0) W0 w1 (cs ++ #[.func (.yield (w.heap.size + 1)) #[] #[]] ++ ds) hId (by simp [s1, s2]; omega) hargs
  have hres : (resolve a.eval (rangeCall G (w.heap.size + 1)) 0).run P w1 = .ok { target := .fn (.func f) ds, args := cs ++ #[.func (.yield (w.heap.size + 1)) #[] #[]] } w1 := by
    have hmap : Array.map a.eval #[Operand.const (.func (.yield (w.heap.size + 1)) #[] #[])] = #[.func (.yield (w.heap.size + 1)) #[] #[]] := by simp [Act.eval]
    simp only [resolve, rangeCall, hv, Deferred.ofValue, Sem.run_bind, Sem.run_pure, Result.andThen_ok, hmap]
  refine ⟨w.heap.size + 1, _, w1, { target := .fn (.func f) ds, args := cs ++ #[.func (.yield (w.heap.size + 1)) #[] #[]] }, w1, f, _, w1, run_enterLoop_outer fn a.tmps ps A B, hres, fun _ _ => trivial, callFunc_run hC.1 _ _, fun h => (by cases h), callsIn_FW.2 (hcall.mono ?_)⟩
  rintro en w3 ⟨v, rfl, g3, r, O3, k1, k2, _, k4⟩
  have hg3 := hge.trans k1
  have hm3 := k1.m _ _ hmid
  have hmk : Marks g3 ([{ target := .collected w.heap.size, args := #[] }] ++ a.defers) := by
    obtain ⟨L, q1, q2, q3⟩ := hS.defers
    refine ⟨w.heap.size :: L, by rw [q1]; rfl, List.nodup_cons.2 ⟨fun hm => ?_, q2⟩, fun b hb => ?_⟩
    · have := (Array.getElem?_eq_some_iff.1 (hS.inv.marks _ (q3 _ hm).1).1).1
      exact Nat.lt_irrefl _ this
    · rcases List.mem_cons.1 hb with rfl | hb
      · exact ⟨k1.d _ (.inr rfl), by rw [hg3.s]; exact hS.inv.grow⟩
      · exact ⟨hg3.d _ (q3 b hb).1, by rw [hg3.s]; exact (q3 b hb).2⟩
  have done : ∀ (st : LoopState) (pd : Option Code), O3 id = some (.rcd st pd ps A B n e) → st ≠ .busy → ∃ w4, (Instr.endLoop (w.heap.size + 1)).run P w3 = .ok pd w4 ∧ St W0 g3 (O3.del id) w4 n { a with defers := [{ target := .collected w.heap.size, args := #[] }] ++ a.defers } e := by
    intro st pd ho hst
    obtain ⟨hW3, L, i1, i2, i3, i4, i5, i6, i7, i8⟩ := k2.obj_at ho hm3
    have hrun := run_endLoop (P := P) i1 (by rw [i2]; exact hst)
    rw [i3] at hrun
    refine ⟨_, hrun, ?_, hS.size, hmk, fun t => (hS.reads t).mono hg3⟩
    have hd : Inv W0 g3 (O3.del id) w3 := k2.drop fun i o hi => by
      rw [Heap.del_apply] at hi
      by_cases hii : i = id
      · rw [if_pos hii] at hi; cases hi
      · rw [if_neg hii] at hi; exact hi
    refine hd.turn i1 (fun _ _ _ e => by cases e) hW3 (fun hdd => ?_) (fun i ob r' hi hmi => ?_)
    · have := (k2.marks _ hdd).1
      rw [i1] at this
      cases this
    · rw [Heap.del_apply] at hi
      by_cases hii : i = id
      · rw [if_pos hii] at hi; cases hi
      · rw [if_neg hii] at hi
        exact hii (k2.inj i id ob _ _ _ _ hi ho hmi hm3)
  rcases k4 with ⟨ho, hk⟩ | ⟨x, hx, ho, hk⟩
  · obtain ⟨w4, hrun, hst⟩ := done _ _ ho (by simp)
    exact ⟨none, w4, hrun, hQ .normal g3 e _ _ w4 (hle.trans hg3) hst hk⟩
  · obtain ⟨w4, hrun, hst⟩ := done _ _ ho (by simp)
    cases x with
    | normal => exact absurd rfl hx
    | exit i => exact ⟨some (.exit i), w4, hrun, wpIn_exit (hQ (.exit i) g3 e _ _ w4 (hle.trans hg3) hst hk)⟩
    | ret => exact ⟨some .ret, w4, hrun, wpIn_ret (hQ .ret g3 e _ _ w4 (hle.trans hg3) hst hk)⟩
end

theorem wpIn_loop_ghost {F : Fence} {n : Nat} {P : Program} {Q : Exit → Act → World → Prop} {a : Act} {w : World} {c : Code} (I : Nat → Act → World → Prop) (n₀ : Nat) (h₀ : I n₀ a w)
    (round : ∀ n' a w, I n' a w → c.wpIn F n P (Exit.then (fun a' w' => ∃ n'', n'' < n' ∧ I n'' a' w') Q) a w) : (Code.loop c).wpIn F n P Q a w := by
  refine wpIn_loop (fun a w => ∃ n, I n a w) (fun a w => leastOf (fun n => I n a w)) ⟨n₀, h₀⟩ ?_
  intro a w hI
  refine wpIn_mono (round _ a w (leastOf_spec hI).1) ?_
  intro e a' w' hq
  cases e with
  | normal =>
    obtain ⟨n', hlt, hI'⟩ := hq
    exact show (∃ n, I n a' w') ∧ leastOf (fun n => I n a' w') < leastOf (fun n => I n a w) from ⟨⟨n', hI'⟩, Nat.lt_of_le_of_lt ((leastOf_spec ⟨n', hI'⟩).2 n' hI') hlt⟩
  | exit id => exact hq
  | goto l => exact hq
  | ret => exact hq
  | panic ch => exact hq
  | outgrown => exact hq

theorem cmd_sound {P : Program} (hmix : P.follows .mixedOrders = true) {n : Nat} {ow : List Nat} : ∀ (c : Code) (cmd : Cmd) (rd : Option Nat) (W0 : World) (hfl : rd = none ∨ cmd.flat = true) (K : Kont) (Q : Exit → Act → World → Prop) (g0 g : Gh) (O : Heap) (w : World) (a : Act) (e : Env),
    compileCode P n ow c = some cmd → g0.le g → St W0 g O w n a e → cmdW P cmd K e O →
    (∀ x g' e' O' a' w', g0.le g' → St W0 g' O' w' n a' e' → K x e' O' → Q x.to a' w') → c.wpIn (FW rd) 0 P Q a w
  | .skip, cmd, rd, W0, hfl, K, Q, g0, g, O, w, a, e, hc, hle, hS, h, hQ => by
    cases hc
    exact wpIn_skip (hQ .normal g e O a w hle hS h)
  | .region id ops false, cmd, rd, W0, hfl, K, Q, g0, g, O, w, a, e, hc, hle, hS, h, hQ => by
    unfold compileCode at hc
    cases hm : ops.toList.mapM (compileOper P n ow ops) with
    | none => rw [hm] at hc; cases hc
    | some rs =>
      rw [hm] at hc
      cases hc
      exact region_sound (K := K .normal) hm hS h fun a' w' ⟨g', e', O', h1, h2, h3⟩ => hQ .normal g' e' O' a' w' (hle.trans h1) h2 h3
  | .region id ops true, cmd, rd, W0, hfl, K, Q, g0, g, O, w, a, e, hc, hle, hS, h, hQ => by
    have key : ∀ m, dregAt P n ow ops m = some cmd → (Code.region id ops true).wpIn (FW rd) 0 P Q a w := fun m hm => by
      unfold dregAt at hm
      split at hm
      · rename_i front tail hf ht
        split at hm
        · rename_i hok
          cases hm
          exact draw_sound (K := K .normal) hmix hok.1 hf ht hok.2 hS h fun a' w' ⟨g', e', O', h1, h2, h3⟩ => hQ .normal g' e' O' a' w' (hle.trans h1) h2 h3
        · cases hm
      · cases hm
    unfold compileCode at hc
    split at hc
    · rename_i c hd
      split at hc
      · split at hc
        · rename_i c2 hd2
          cases hc
          exact key _ hd2
        · cases hc
          exact key _ hd
      · cases hc
        exact key _ hd
    · unfold compileS at hc
      split at hc
      · rename_i front tail hf ht
        split at hc
        · rename_i hok
          cases hc
          exact sreg_sound (K := K .normal) hmix hok.1 hf ht hok.2 hS h fun a' w' ⟨g', e', O', h1, h2, h3⟩ => hQ .normal g' e' O' a' w' (hle.trans h1) h2 h3
        · cases hc
      · cases hc
  | .seq x y, cmd, rd, W0, hfl, K, Q, g0, g, O, w, a, e, hc, hle, hS, h, hQ => by
    unfold compileCode at hc
    split at hc
    · rename_i cx cy hx hy
      cases hc
      have hf2 : (rd = none ∨ cx.flat = true) ∧ (rd = none ∨ cy.flat = true) := by
        rcases hfl with h | h
        · exact ⟨.inl h, .inl h⟩
        · have h : (cx.flat && cy.flat) = true := h
          rw [Bool.and_eq_true] at h; exact ⟨.inr h.1, .inr h.2⟩
      refine wpIn_seq (cmd_sound hmix x cx rd W0 hf2.1 _ _ g0 g O w a e hx hle hS h fun z g' e' O' a' w' h1 h2 h3 => ?_)
      cases z with
      | normal =>
        obtain ⟨g2, e2, O2, k1, k2, k3⟩ := h3 W0 g' w' n a' h2
        exact cmd_sound hmix y cy rd W0 hf2.2 K Q g0 g2 O2 w' a' e2 hy (h1.trans k1) k2 k3 hQ
      | exit id => exact hQ (.exit id) g' e' O' a' w' h1 h2 h3
      | ret => exact hQ .ret g' e' O' a' w' h1 h2 h3
    · cases hc
  | .cond c x y, cmd, rd, W0, hfl, K, Q, g0, g, O, w, a, e, hc, hle, hS, h, hQ => by
    unfold compileCode at hc
    split at hc
    · rename_i cx cy hx hy
      cases hc
      have hr := hS.opd c
      have h : condW (e.opd c) (cmdW P cx K e O) (cmdW P cy K e O) := h
      unfold condW at h
      split at h
      · rename_i b hb
        rw [hb] at hr
        have hf2 : (rd = none ∨ cx.flat = true) ∧ (rd = none ∨ cy.flat = true) := by
          rcases hfl with h | h
          · exact ⟨.inl h, .inl h⟩
          · have h : (cx.flat && cy.flat) = true := h
            rw [Bool.and_eq_true] at h; exact ⟨.inr h.1, .inr h.2⟩
        refine wpIn_cond_split (t := b) hr.val_inv (fun ht => ?_) (fun hf => ?_)
        · exact cmd_sound hmix x cx rd W0 hf2.1 K Q g0 g O w a e hx hle hS (h.1 ht) hQ
        · exact cmd_sound hmix y cy rd W0 hf2.2 K Q g0 g O w a e hy hle hS (h.2 hf) hQ
      · exact h.elim
    · cases hc
  | .block id b, cmd, rd, W0, hfl, K, Q, g0, g, O, w, a, e, hc, hle, hS, h, hQ => by
    unfold compileCode at hc
    cases hb : compileCode P n ow b with
    | none => rw [hb] at hc; cases hc
    | some cb =>
      rw [hb] at hc
      cases hc
      refine wpIn_block (cmd_sound hmix b cb rd W0 hfl _ _ g0 g O w a e hb hle hS h fun z g' e' O' a' w' h1 h2 h3 => ?_)
      cases z with
      | normal => exact hQ .normal g' e' O' a' w' h1 h2 h3
      | exit id' =>
        have h3 : (if id' = id then K .normal else K (.exit id')) e' O' := h3
        show if id' = id then Q .normal a' w' else Q (.exit id') a' w'
        split
        · rename_i hi; rw [if_pos hi] at h3; exact hQ .normal g' e' O' a' w' h1 h2 h3
        · rename_i hi; rw [if_neg hi] at h3; exact hQ (.exit id') g' e' O' a' w' h1 h2 h3
      | ret => exact hQ .ret g' e' O' a' w' h1 h2 h3
  | .loop b, cmd, rd, W0, hfl, K, Q, g0, g, O, w, a, e, hc, hle, hS, h, hQ => by
    unfold compileCode at hc
    cases hb : compileCode P n ow b with
    | none => rw [hb] at hc; cases hc
    | some cb =>
      rw [hb] at hc
      cases hc
      obtain ⟨I, k, h0, hr⟩ := h
      refine wpIn_loop_ghost (fun k a w => ∃ g e O, g0.le g ∧ St W0 g O w n a e ∧ I k e O) k ⟨g, e, O, hle, hS, h0⟩ fun k a w ⟨g, e, O, h1, h2, h3⟩ => ?_
      refine cmd_sound hmix b cb rd W0 hfl _ _ g0 g O w a e hb h1 h2 (hr k e O h3) fun z g' e' O' a' w' k1 k2 k3 => ?_
      cases z with
      | normal =>
        obtain ⟨g2, e2, O2, j1, j2, m, j3, j4⟩ := k3 W0 g' w' n a' k2
        exact ⟨m, j3, g2, e2, O2, k1.trans j1, j2, j4⟩
      | exit id' => exact hQ (.exit id') g' e' O' a' w' k1 k2 k3
      | ret => exact hQ .ret g' e' O' a' w' k1 k2 k3
  | .exit id, cmd, rd, W0, hfl, K, Q, g0, g, O, w, a, e, hc, hle, hS, h, hQ => by
    cases hc
    exact wpIn_exit (hQ (.exit id) g e O a w hle hS h)
  | .ret, cmd, rd, W0, hfl, K, Q, g0, g, O, w, a, e, hc, hle, hS, h, hQ => by
    cases hc
    exact wpIn_ret (hQ .ret g e O a w hle hS h)
  | .rangeFunc G ps A B, cmd, rd, W0, hfl, K, Q, g0, g, O, w, a, e, hc, hle, hS, h, hQ => by
    unfold compileCode at hc
    split at hc
    · rename_i ca cb hA hB
      split at hc
      · rename_i hfl2
        cases hc
        rw [Bool.and_eq_true, Bool.and_eq_true] at hfl2
        obtain ⟨⟨f1, f2⟩, f3⟩ := hfl2
        rcases hfl with rfl | hfl
        · exact range_sound f3 (fun rd' W' K' Q' g0' g' O' w' a' e' h1 h2 h3 h4 => cmd_sound hmix A ca rd' W' (.inr f1) K' Q' g0' g' O' w' a' e' hA h1 h2 h3 h4) (fun rd' W' K' Q' g0' g' O' w' a' e' h1 h2 h3 h4 => cmd_sound hmix B cb rd' W' (.inr f2) K' Q' g0' g' O' w' a' e' hB h1 h2 h3 h4) hle hS h hQ
        · cases hfl
      · cases hc
    · cases hc
  | .scope b, cmd, rd, W0, hfl, K, Q, g0, g, O, w, a, e, hc, hle, hS, h, hQ => by
    have hc : compileCode P n ow b = some cmd := hc
    refine wpIn_scope (cmd_sound hmix b cmd rd W0 hfl K _ g0 g O w a e hc hle hS h fun x g' e' O' a' w' h1 h2 h3 => ?_)
    have := hQ x g' e' O' a' w' h1 h2 h3
    cases x <;> exact this
  | .label l, cmd, rd, W0, hfl, K, Q, g0, g, O, w, a, e, hc, hle, hS, h, hQ => by
    cases hc
    exact wpIn_label (hQ .normal g e O a w hle hS h)
  | .goto .., cmd, rd, W0, hfl, K, Q, g0, g, O, w, a, e, hc, hle, hS, h, hQ => by cases hc
  | .refuse .., cmd, rd, W0, hfl, K, Q, g0, g, O, w, a, e, hc, hle, hS, h, hQ => by cases hc

end Go.Ab

/- The abstract walk, eighteenth part: functions. -/
namespace Go.Ab

/-- How a result is read. -/
inductive RC where
  | tmp (t : Nat)
  | cell (agg : Bool) (sz t : Nat)

def resA (e : Env) (O : Heap) : List RC → Option (List AV)
  | [] => some []
  | .tmp t :: rs => match resA e O rs with
    | some l => some (e t :: l)
    | none => none
  | .cell agg sz t :: rs => match loadA O agg sz (e t), resA e O rs with
    | some x, some l => some (x :: l)
    | _, _ => none

def resV : List AV → AV
  | [x] => x
  | l => .tup l

def compileRes (P : Program) : List ResultVar → Option (List RC)
  | [] => some []
  | .tmp t :: rs => (compileRes P rs).map (.tmp t :: ·)
  | .cell a t :: rs => match sizeB P t, compileRes P rs with
    | some s, some l => some (.cell (isAggB P t) s a :: l)
    | _, _ => none

theorem WeakR.drop {K : AV → Heap → Prop} {r : AV} {O : Heap} (O' : Heap) (hs : ∀ i o, O' i = some o → O i = some o) (h : WeakR K r O') : WeakR K r O := fun W0 g w v hI hr => h W0 g w v (hI.drop hs) hr

theorem WeakR.freeze {K : AV → Heap → Prop} {r r' : AV} {O : Heap} {id sz : Nat} {E : TypeId} {elems : List AV} (ho : O id = some (.arr E sz elems)) (hz : Fz id sz elems r r') (h : WeakR K r' (O.del id)) : WeakR K r O :=
  fun W0 g w v hI hr => by
    obtain ⟨g', h1, h2, h3⟩ := freeze_sound hI ho
    obtain ⟨g2, r2, O2, h4, h5, h6, h7⟩ := h W0 g' w v h2 (h3 r r' v hz hr)
    exact ⟨g2, r2, O2, h1.trans h4, h5, h6, h7⟩

theorem WeakE.freeze {F : Env → Heap → Prop} {e e' : Env} {O : Heap} {id sz : Nat} {E : TypeId} {elems : List AV} (ho : O id = some (.arr E sz elems)) (hz : ∀ t, Fz id sz elems (e t) (e' t)) (h : WeakE F e' (O.del id)) : WeakE F e O :=
  fun W0 g w n a hS => by
    obtain ⟨g', h1, h2, h3⟩ := freeze_sound hS.inv ho
    obtain ⟨g2, e2, O2, h4, h5, h6⟩ := h W0 g' w n a ⟨h2, hS.size, hS.defers.mono h1, fun t => h3 _ _ _ (hz t) (hS.reads t)⟩
    exact ⟨g2, e2, O2, h1.trans h4, h5, h6⟩

/-- What is asked where a function ends. -/
def retF (rcs : List RC) (K : AV → Heap → Prop) (e : Env) (O : Heap) : Prop := ∃ l, resA e O rcs = some l ∧ WeakR K (resV l) O

def retK (rcs : List RC) (K : AV → Heap → Prop) : Kont
  | .normal => WeakE (retF rcs K)
  | .ret => WeakE (retF rcs K)
  | .exit _ => fun _ _ => False

section
variable {rd : Option Nat} {P : Program} {W0 : World} {g : Gh} {O : Heap} {w : World} {n : Nat} {a : Act} {e : Env}

def readRes (tmps : Array Value) : ResultVar → Sem Value
  | .tmp t => pure (tmps.getD t undef)
  | .cell a t => do loadVar t (← asAddr (tmps.getD a undef))

theorem readRes_cell (tmps : Array Value) (b : Nat) (t : TypeId) {u : Value} {w : World} (h : (Instr.loadAt t (tmps.getD b undef)).run P w = .ok u w) (hp : ∃ ad, tmps.getD b undef = .pointer (some ad)) :
    (readRes tmps (.cell b t)).run P w = .ok u w := by
  obtain ⟨ad, hp⟩ := hp
  unfold readRes
  simp only []
  rw [hp] at h ⊢
  unfold Instr.loadAt Instr.sureAddr at h
  simpa [asAddr] using h

theorem readAll (hS : St W0 g O w n a e) : ∀ (rs : List ResultVar) (rcs : List RC) (l : List AV), compileRes P rs = some rcs → resA e O rcs = some l →
    ∃ vs : List Value, (rs.mapM (readRes a.tmps)).run P w = .ok vs w ∧ vs.length = l.length ∧ ∀ (i : Nat) x v, l[i]? = some x → vs[i]? = some v → Reads g x v
  | [], rcs, l, hc, hr => by
    cases hc; cases hr
    exact ⟨[], by simp, rfl, fun i x v hx => by simp at hx⟩
  | .tmp t :: rs, rcs, l, hc, hr => by
    unfold compileRes at hc
    cases hk : compileRes P rs with
    | none => rw [hk] at hc; cases hc
    | some ks =>
      rw [hk] at hc; cases hc
      unfold resA at hr
      cases hl : resA e O ks with
      | none => rw [hl] at hr; cases hr
      | some l' =>
        rw [hl] at hr; cases hr
        obtain ⟨vs, h1, h2, h3⟩ := readAll hS rs ks l' hk hl
        refine ⟨a.tmps.getD t undef :: vs, ?_, by simp [h2], fun i x v hx hv => ?_⟩
        · rw [List.mapM_cons]
          show ((do let y ← pure (a.tmps.getD t undef); let ys ← rs.mapM (readRes a.tmps); pure (y :: ys) : Sem (List Value))).run P w = _
          simp [h1]
        · cases i with
          | zero => simp at hx hv; subst hx hv; have := hS.reads t; simpa using this
          | succ i => exact h3 i x v (by simpa using hx) (by simpa using hv)
  | .cell b t :: rs, rcs, l, hc, hr => by
    unfold compileRes at hc
    cases hs : sizeB P t with
    | none => rw [hs] at hc; cases hc
    | some s =>
    cases hk : compileRes P rs with
    | none => rw [hs, hk] at hc; cases hc
    | some ks =>
      rw [hs, hk] at hc; cases hc
      unfold resA at hr
      cases hx0 : loadA O (isAggB P t) s (e b) with
      | none => rw [hx0] at hr; cases hr
      | some x0 =>
      cases hl : resA e O ks with
      | none => rw [hx0, hl] at hr; cases hr
      | some l' =>
        rw [hx0, hl] at hr; cases hr
        obtain ⟨vs, h1, h2, h3⟩ := readAll hS rs ks l' hk hl
        obtain ⟨u, hu, hru⟩ := load_sound (P := P) hs rfl (sizeB_u hs) hS.inv (hS.reads b) hx0
        have hp : ∃ ad, a.tmps.getD b undef = .pointer (some ad) := by
          have hb := hS.reads b
          unfold loadA at hx0
          split at hx0
          · rename_i he; rw [he] at hb
            generalize a.tmps.getD b undef = z at hb
            cases hb with
            | ref _ b off vs _ _ => exact ⟨_, rfl⟩
          · rename_i he; rw [he] at hb
            generalize a.tmps.getD b undef = z at hb
            cases hb with
            | optr _ _ _ _ b r hm => exact ⟨_, rfl⟩
          · cases hx0
        have h0 := readRes_cell a.tmps b t hu hp
        refine ⟨u :: vs, ?_, by simp [h2], fun i x v hx hv => ?_⟩
        · rw [List.mapM_cons]
          simp [h1, h0]
        · cases i with
          | zero => simp at hx hv; subst hx hv; exact hru
          | succ i => exact h3 i x v (by simpa using hx) (by simpa using hv)

theorem results_sound {fn : Func} {rcs : List RC} {l : List AV} (hS : St W0 g O w n a e) (hc : compileRes P fn.results.toList = some rcs) (hl : resA e O rcs = some l) :
    ∃ v, (results fn a.tmps).run P w = .ok v w ∧ Reads g (resV l) v := by
  obtain ⟨vs, h1, h2, h3⟩ := readAll hS fn.results.toList rcs l hc hl
  have hm : (fn.results.mapM (readRes a.tmps)).run P w = .ok vs.toArray w := by
    rw [Array.mapM_eq_mapM_toList]
    simp [h1]
  have hres : (results fn a.tmps).run P w = .ok (if h : vs.toArray.size = 1 then vs.toArray[0] else .tuple vs.toArray) w := by
    have he : results fn a.tmps = (do let vs ← fn.results.mapM (readRes a.tmps); pure (if h : vs.size = 1 then vs[0] else .tuple vs)) := by
      unfold results
      rfl
    rw [he]
    simp [hm]
  refine ⟨_, hres, ?_⟩
  match l, vs, h2, h3 with
  | [], [], _, h3 => exact .tup [] #[] rfl (fun i x v hx => by simp at hx)
  | [x], [v], _, h3 => exact h3 0 x v rfl rfl
  | x :: y :: l, v :: u :: vs, h2, h3 =>
    have : ¬ ((v :: u :: vs).toArray.size = 1) := by simp
    rw [dif_neg this]
    exact .tup _ _ (by simpa using h2) (fun i x v hx hv => h3 i x v hx (by simpa using hv))

end

def envOf (args : List AV) : Env := fun t => args.getD t .junk

/-- A function, and the command that it is. -/
def FnOK (P : Program) (f : FuncId) (cmd : Cmd) (rcs : List RC) (nargs : Nat) : Prop :=
  callable P f = true ∧ ∃ fn c ow, P.funcs[f]? = some fn ∧ fn.body = some c ∧ compileCode P fn.ntmps ow c = some cmd.strip ∧ compileRes P fn.results.toList = some rcs ∧ nargs ≤ fn.ntmps

theorem leaves_marks {P : Program} {fn : Func} {tmps : Array Value} {R : Ending → World → Prop} {W0 : World} {g : Gh} {O : Heap} (hfin : ∀ w', Inv W0 g O w' → ∃ v, (results fn tmps).run P w' = .ok v w' ∧ R (.returned v) w') :
    ∀ (L : List Nat) (w : World), Inv W0 g O w → (∀ b ∈ L, w.heap[b]? = some (.deferred (some [])) ∧ W0.heap.size ≤ b ∧ ¬ g.d b) → L.Nodup →
      LeavesInM (FW none) 0 P fn tmps R (L.map fun b => { target := .collected b, args := #[] }) .returning w
  | [], w, h, _, _ => hfin w h
  | b :: L, w, h, hL, hn => by
    obtain ⟨h1, h2, h3⟩ := hL b (by simp)
    refine ⟨by simp, .inl ⟨b, _, rfl, run_takeDeferred h1, ?_⟩⟩
    have hI : Inv W0 g O (w.putObj b (.deferred none)) := h.turn h1 (fun _ _ _ e => by cases e) h2 h3 (fun i ob r hi hm => by
      obtain ⟨b', r', hm', _, _, ho⟩ := h.obj i ob hi
      rw [hm] at hm'
      cases hm'
      exact ho.not_mark h1)
    rw [List.nodup_cons] at hn
    refine leaves_marks hfin L _ hI (fun b' hb' => ?_) hn.2
    obtain ⟨k1, k2, k3⟩ := hL b' (by simp [hb'])
    have hne : b' ≠ b := fun e => hn.1 (e ▸ hb')
    exact ⟨(World.putObj_heap_other hne).trans k1, k2, k3⟩

theorem FnOK.call {P : Program} (hmix : P.follows .mixedOrders = true) {f : FuncId} {cmd : Cmd} {rcs : List RC} {args : List AV} (h : FnOK P f cmd rcs args.length) {O : Heap} {K : AV → Heap → Prop}
    (hw : cmdW P cmd (retK rcs K) (envOf args) O) : CallA P f args O K := by
  obtain ⟨hcall, fn, c, ow, hf, hb, hc, hr, hn⟩ := h
  refine ⟨hcall, fun g W0 w vs hI hs hv => ?_⟩
  refine (callsIn_FW (rd := none) (n := 0)).1 (callsIn_of_wp_marks hf hb trivial ?_ rfl)
  let g1 : Gh := { g with d := g.d, s := w.heap.size }
  have hI1 : Inv W0 g1 O w := hI.less g.d w.heap.size (Nat.le_refl _) (fun _ h => h)
  have hst : St W0 g1 O w fn.ntmps { tmps := vs ++ Array.replicate (fn.ntmps - vs.size) undef, defers := [] } (envOf args) := by
    refine ⟨hI1, by simp; omega, .nil _, fun t => ?_⟩
    unfold envOf
    by_cases ht : t < args.length
    · have h1 : t < vs.size := by omega
      have h2 : (vs ++ Array.replicate (fn.ntmps - vs.size) undef).getD t undef = vs[t] := by
        rw [Array.getD_eq_getD_getElem?, Array.getElem?_append_left h1]
        simp [h1]
      rw [h2]
      refine Reads.mono' (g := g) (h := g1) (fun _ _ _ e => e) (fun _ _ e => e) (hv t _ _ ?_ (Array.getElem?_eq_getElem h1))
      simp [List.getD_eq_getElem?_getD, ht]
    · have : args.getD t .junk = .junk := by simp [List.getD_eq_getElem?_getD, List.getElem?_eq_none (by omega : args.length ≤ t)]
      rw [this]
      exact .junk _
  have fin : ∀ {x : Exit} {g' e' O' a' w'}, (x = .normal ∨ x = .ret) → St W0 g' O' w' fn.ntmps a' e' → WeakE (retF rcs K) e' O' → g1.le g' →
      bodyPostM (FW none) 0 P fn (fun en w' => ∃ v, en = .returned v ∧ Out W0 g K v w') x a' w' := fun {x g' e' O' a' w'} hx h1 h2 hle => by
    obtain ⟨g2, e2, O2, k1, k2, l, k3, k4⟩ := h2 W0 g' w' _ a' h1
    obtain ⟨L, hL1, hL2, hL3⟩ := k2.defers
    have hle2 := hle.trans k1
    let g3 : Gh := { g2 with d := g.d, s := g.s }
    have hle3 : g.le g3 := ⟨hle2.c, hle2.m, fun _ h => h, rfl⟩
    have hgw : g.s ≤ w'.heap.size := by
      have h5 := hI.grow
      have h6 := k2.inv.grow
      rw [hle2.s] at h6
      exact Nat.le_trans h5 h6
    have hI3 : Inv W0 g3 O2 w' := k2.inv.less g.d g.s hgw (fun b hb => hle2.d b hb)
    have main : LeavesInM (FW none) 0 P fn a'.tmps (fun en w' => ∃ v, en = .returned v ∧ Out W0 g K v w') a'.defers .returning w' := by
      rw [hL1]
      refine leaves_marks (g := g3) (O := O2) (W0 := W0) (fun w'' hI'' => ?_) L w' hI3 (fun b hb => ?_) hL2
      · have hst3 : St W0 g3 O2 w'' fn.ntmps { tmps := a'.tmps, defers := [] } e2 := ⟨hI'', k2.size, .nil _, fun t => Reads.mono' (g := g2) (h := g3) (fun _ _ _ e => e) (fun _ _ e => e) (k2.reads t)⟩
        obtain ⟨v, hv1, hv2⟩ := results_sound (P := P) (fn := fn) hst3 hr k3
        obtain ⟨g4, r4, O4, k5, k6, k7, k8⟩ := k4 W0 g3 w'' v hI'' hv2
        exact ⟨v, hv1, v, rfl, g4, r4, O4, hle3.trans k5, k6, k7, k8⟩
      · obtain ⟨h5, h6⟩ := hL3 b hb
        obtain ⟨h7, h8⟩ := k2.inv.marks b h5
        refine ⟨h7, h8, fun hd => ?_⟩
        have h9 := (Array.getElem?_eq_some_iff.1 (hI.marks b hd).1).1
        rw [hle2.s] at h6
        exact absurd h6 (Nat.not_le.2 h9)
    rcases hx with rfl | rfl
    · exact main
    · exact main
  refine cmd_sound hmix c cmd.strip none W0 (.inl rfl) (retK rcs K) _ g1 g1 O w _ (envOf args) hc (.refl g1) hst (by rw [strip_eq]; exact hw) fun x g' e' O' a' w' h1 h2 h3 => ?_
  cases x with
  | normal => exact fin (.inl rfl) h2 h3 h1
  | ret => exact fin (.inr rfl) h2 h3 h1
  | exit id => exact h3.elim

end Go.Ab
