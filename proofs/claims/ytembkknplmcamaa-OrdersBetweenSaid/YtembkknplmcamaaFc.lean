/- The law OrdersBetween of the given program: for every input the call returns true, and its arguments read as before. Here: the walk over abstract states. -/
import Derived.Test.YtembkknplmcamaaFb
import Derived.ProofKit
import Derived.OpenShut
import Derived.Deep.Slices
import Derived.Carry
import Derived.ChangeSame
set_option linter.unusedSimpArgs false
set_option linter.unusedVariables false
/- The abstract walk, nineteenth part: the equations by which a walk goes on. -/
namespace Go.Ab

def optK (o : Option AV) (K : AV → Heap → Prop) (O : Heap) : Prop := match o with
  | some r => K r O
  | none => False

theorem optK_some (r : AV) (K : AV → Heap → Prop) (O : Heap) : optK (some r) K O = K r O := rfl

theorem optK_ex (o : Option AV) (K : AV → Heap → Prop) (O : Heap) : (∃ r, o = some r ∧ K r O) = optK o K O := by
  cases o with
  | none => simp [optK]
  | some r => simp [optK]

def optH (o : Option Heap) (F : Heap → Prop) : Prop := match o with
  | some O => F O
  | none => False

theorem optH_some (O : Heap) (F : Heap → Prop) : optH (some O) F = F O := rfl

section
variable (P : Program) (e : Env) (O : Heap) (K : AV → Heap → Prop)

theorem ci_mv (x : Operand) : CiSem P (.mv x) e O K = K (e.opd x) O := optK_ex (some (e.opd x)) K O
theorem ci_pick (c a b : Operand) : CiSem P (.pick c a b) e O K = optK (pickA (e.opd c) (e.opd a) (e.opd b)) K O := optK_ex _ K O
theorem ci_alloc (E : TypeId) (sz : Nat) (zero : AV) : CiSem P (.alloc E sz zero) e O K = ∀ id, O id = none → K (.optr id sz 0 0) (O.upd id (.arr E sz [zero])) := rfl
theorem ci_box (E : TypeId) (sz : Nat) (x : Operand) : CiSem P (.box E sz x) e O K = (storAll sz [e.opd x] = true ∧ ∀ id, O id = none → K (.optr id sz 0 0) (O.upd id (.arr E sz [e.opd x]))) := rfl
theorem ci_build (zero : List AV) (parts : List (Nat × Nat × Operand)) : CiSem P (.build zero parts) e O K = optK ((fillA zero (parts.map fun p => (p.1, p.2.1, e.opd p.2.2))).map .agg) K O := optK_ex _ K O
theorem ci_blist (sz : Nat) (xs : List Operand) : CiSem P (.blist sz xs) e O K = optK (if storAll sz (xs.map e.opd) = true then some (.list sz true (xs.map e.opd)) else none) K O := optK_ex _ K O
theorem ci_bown (E : TypeId) (sz : Nat) (xs : List Operand) : CiSem P (.bown E sz xs) e O K = (storAll sz (xs.map e.opd) = true ∧ ∀ id, O id = none → K (.own id sz 0 xs.length (some xs.length)) (O.upd id (.arr E sz (xs.map e.opd)))) := rfl
theorem ci_load (agg : Bool) (sz : Nat) (x : Operand) : CiSem P (.load agg sz x) e O K = optK (loadA O agg sz (e.opd x)) K O := optK_ex _ K O
theorem ci_store (sz : Nat) (x v : Operand) : CiSem P (.store sz x v) e O K = optH (storeA O sz (e.opd v) (e.opd x)) (K .junk) := by
  show (∃ O', storeA O sz (e.opd v) (e.opd x) = some O' ∧ K .junk O') = _
  cases storeA O sz (e.opd v) (e.opd x) <;> simp [optH]
def nilchkA : AV → Option AV
  | .optr id s i k => some (.optr id s i k)
  | .ref y => some (.ref y)
  | .clo (.func f) a b => some (.clo (.func f) a b)
  | _ => none
theorem ci_nilchk (x : Operand) : CiSem P (.nilchk x) e O K = optK (nilchkA (e.opd x)) K O := optK_ex _ K O
theorem ci_bin (op : BinOp) (x y : Operand) : CiSem P (.bin op x y) e O K = optK (binA op (e.opd x) (e.opd y)) K O := optK_ex _ K O
theorem ci_binb (neg : Bool) (x y : Operand) : CiSem P (.binb neg x y) e O K = optK (binbA neg (e.opd x) (e.opd y)) K O := optK_ex _ K O
theorem ci_eqagg (neg : Bool) (ks : List Bool) (x y : Operand) : CiSem P (.eqagg neg ks x y) e O K = optK (eqaggA neg ks (e.opd x) (e.opd y)) K O := optK_ex _ K O
theorem ci_eqnil (k : Nat) (neg : Bool) (x : Operand) : CiSem P (.eqnil k neg x) e O K = optK ((isNilA k (e.opd x)).map fun b => .val (.bool (if neg then !b else b))) K O := optK_ex _ K O
theorem ci_un (op : UnOp) (x : Operand) : CiSem P (.un op x) e O K = optK (unA op (e.opd x)) K O := optK_ex _ K O
theorem ci_convi (k : IntKind) (x : Operand) : CiSem P (.convi k x) e O K = optK ((intOfA (e.opd x)).map fun n => .val (.int k (k.wrap n))) K O := optK_ex _ K O
theorem ci_mkfn (fn : Fn) (first cap : List Operand) : CiSem P (.mkfn fn first cap) e O K = K (.clo fn (first.map e.opd) (cap.map e.opd)) O := optK_ex (some _) K O
theorem ci_fieldA (off sz : Nat) (agg : Bool) (x : Operand) : CiSem P (.fieldA off sz agg x) e O K = optK (fieldAddrA off sz agg (e.opd x)) K O := optK_ex _ K O
def fieldV (off sz : Nat) (agg : Bool) : AV → Option AV
  | .agg l => partA (.agg l) off sz agg
  | _ => none
theorem ci_field (off sz : Nat) (agg : Bool) (x : Operand) : CiSem P (.field off sz agg x) e O K = optK (fieldV off sz agg (e.opd x)) K O := optK_ex _ K O
theorem ci_indexA (esz : Nat) (x i : Operand) : CiSem P (.indexA esz x i) e O K = optK ((intOfA (e.opd i)).bind fun n => indexAddrA esz n (e.opd x)) K O := optK_ex _ K O
theorem ci_indexP (len esz : Nat) (eagg : Bool) (x i : Operand) : CiSem P (.indexP len esz eagg x i) e O K = optK ((intOfA (e.opd i)).bind fun n => indexPtrA len esz eagg n (e.opd x)) K O := optK_ex _ K O
theorem ci_slice (esz : Nat) (x : Operand) (lo hi mx : Option Operand) : CiSem P (.slice esz x lo hi mx) e O K = optK (sliceA esz (e.opd x) (lo.map e.opd) (hi.map e.opd) (mx.map e.opd)) K O := optK_ex _ K O
theorem ci_extract (x : Operand) (i : Nat) : CiSem P (.extract x i) e O K = optK (extractA i (e.opd x)) K O := optK_ex _ K O
theorem ci_len (x : Operand) : CiSem P (.len x) e O K = optK (lenA (e.opd x)) K O := optK_ex _ K O
theorem ci_lenm (x : Operand) : CiSem P (.lenm x) e O K = optK (lenM O (e.opd x)) K O := optK_ex _ K O
theorem ci_maxmin (m : Bool) (x y : Operand) : CiSem P (.maxmin m x y) e O K = optK (maxminA m (e.opd x) (e.opd y)) K O := optK_ex _ K O
theorem ci_call (f : FuncId) (args : List Operand) : CiSem P (.call f args) e O K = CallA P f (args.map e.opd) O K := rfl
def callvW (P : Program) (x : AV) (args : List AV) (O : Heap) (K : AV → Heap → Prop) : Prop := match x with
  | .clo (.func f) a b => CallA P f (a ++ args ++ b) O K
  | .yld id => YieldA P id args O K
  | _ => False
theorem ci_callv (fx : Operand) (args : List Operand) : CiSem P (.callv fx args) e O K = callvW P (e.opd fx) (args.map e.opd) O K := by
  show ((∃ f a b, e.opd fx = .clo (.func f) a b ∧ CallA P f (a ++ args.map e.opd ++ b) O K) ∨ ∃ id, e.opd fx = .yld id ∧ YieldA P id (args.map e.opd) O K) = _
  generalize e.opd fx = x
  refine propext ⟨fun h => ?_, fun h => ?_⟩
  · rcases h with ⟨f, a, b, h1, h2⟩ | ⟨id, h1, h2⟩
    · subst h1; exact h2
    · subst h1; exact h2
  · unfold callvW at h
    split at h
    · exact .inl ⟨_, _, _, rfl, h⟩
    · exact .inr ⟨_, rfl, h⟩
    · exact h.elim
theorem callv_yld (id : Nat) (args : List AV) (O : Heap) (K : AV → Heap → Prop) : callvW P (.yld id) args O K = YieldA P id args O K := rfl
theorem callv_clo (f : FuncId) (a b args : List AV) : callvW P (.clo (.func f) a b) args O K = CallA P f (a ++ args ++ b) O K := rfl
theorem ci_cap (x : Operand) : CiSem P (.cap x) e O K = CapSem (e.opd x) O K := rfl
theorem ci_append (ow : Bool) (E : TypeId) (sz bytes : Nat) (s x : Operand) : CiSem P (.append ow E sz bytes s x) e O K = AppendSem ow E sz bytes (e.opd s) (e.opd x) O K := rfl
theorem ci_mkslice (E : TypeId) (sz bytes : Nat) (zero : AV) (l c : Operand) : CiSem P (.mkslice E sz bytes zero l c) e O K = MakeSem E sz bytes zero (e.opd l) (e.opd c) O K := rfl
end

theorem opd_tmp (e : Env) (t : Nat) : e.opd (.tmp t) = e t := rfl
theorem opd_const (e : Env) (v : Value) : e.opd (.const v) = .val v := rfl
theorem opd_func (e : Env) (f : FuncId) : e.opd (.func f) = .clo (.func f) [] [] := rfl
theorem put_some (e : Env) (d : Nat) (r : AV) : e.put (some d) r = e.upd d r := rfl
theorem put_none (e : Env) (r : AV) : e.put none r = e := rfl

section
variable (P : Program) (K : Kont) (e : Env) (O : Heap)
theorem cmd_skip : cmdW P .skip K e O = K .normal e O := rfl
theorem cmd_reg (rs : List RIns) : cmdW P (.reg rs) K e O = opsW P rs (K .normal) e O := rfl
theorem cmd_dreg (kill : List Nat) (front post : List RIns) : cmdW P (.dreg kill front post) K e O = drawW P front (fun e' => opsW P post (K .normal) (killE kill e') O) e O := rfl
theorem cmd_sreg (kill : List Nat) (front allocs S0 : List RIns) (tail : List (RIns × List RIns)) : cmdW P (.sreg kill front allocs S0 tail) K e O = drawW P front (fun e' => opsW P allocs (fun e O => chk S0 e O ∧ opsS P tail (K .normal) e O) (killE kill e') O) e O := rfl
theorem kill_nil (e : Env) : killE [] e = e := rfl
theorem kill_cons (d : Nat) (L : List Nat) (e : Env) : killE (d :: L) e = (killE L e).upd d .junk := rfl
theorem cmd_seq (L : List Nat) (a b : Cmd) : cmdW P (.seq L a b) K e O = cmdW P a (seqK L K (cmdW P b K)) e O := rfl
theorem cmd_cond (c : Operand) (a b : Cmd) : cmdW P (.cond c a b) K e O = condW (e.opd c) (cmdW P a K e O) (cmdW P b K e O) := rfl
theorem cmd_block (id : Nat) (b : Cmd) : cmdW P (.block id b) K e O = cmdW P b (blockK id K) e O := rfl
theorem cmd_exit (id : Nat) : cmdW P (.exit id) K e O = K (.exit id) e O := rfl
theorem cmd_ret : cmdW P .ret K e O = K .ret e O := rfl
theorem cmd_loop {P : Program} {L : List Nat} {b : Cmd} {K : Kont} {e : Env} {O : Heap} (I : Nat → Env → Heap → Prop) (n : Nat) (h0 : I n e O) (h : ∀ n e O, I n e O → cmdW P b (loopK L I n K) e O) : cmdW P (.loop L b) K e O := ⟨I, n, h0, h⟩
variable (F : Env → Heap → Prop)
theorem seqK_exit (L : List Nat) (id : Nat) : seqK L K F (.exit id) = K (.exit id) := rfl
theorem seqK_ret (L : List Nat) : seqK L K F .ret = K .ret := rfl
theorem seqK_now {L : List Nat} {K : Kont} {F : Env → Heap → Prop} {e : Env} {O : Heap} (h : F (keepE L e) O) : seqK L K F .normal e O := WeakE.keep L h
theorem seqK_weak {L : List Nat} {K : Kont} {F : Env → Heap → Prop} {e : Env} {O : Heap} (h : WeakE F e O) : seqK L K F .normal e O := h
theorem blockK_normal (id : Nat) : blockK id K .normal = K .normal := rfl
theorem blockK_ret (id : Nat) : blockK id K .ret = K .ret := rfl
theorem blockK_exit (id id' : Nat) : blockK id K (.exit id') = if id' = id then K .normal else K (.exit id') := rfl
theorem loopK_exit (L : List Nat) (I : Nat → Env → Heap → Prop) (n : Nat) (id : Nat) : loopK L I n K (.exit id) = K (.exit id) := rfl
theorem loopK_ret (L : List Nat) (I : Nat → Env → Heap → Prop) (n : Nat) : loopK L I n K .ret = K .ret := rfl
theorem loopK_now {L : List Nat} {I : Nat → Env → Heap → Prop} {n : Nat} {K : Kont} {e : Env} {O : Heap} (m : Nat) (h : m < n) (hi : I m (keepE L e) O) : loopK L I n K .normal e O := WeakE.keep L ⟨m, h, hi⟩
theorem retK_now {rcs : List RC} {K : AV → Heap → Prop} {e : Env} {O : Heap} (h : retF rcs K e O) : retK rcs K .ret e O := WeakE.now h
theorem retK_now' {rcs : List RC} {K : AV → Heap → Prop} {e : Env} {O : Heap} (h : retF rcs K e O) : retK rcs K .normal e O := WeakE.now h
end

theorem cond_intro {b : Bool} {A B : Prop} (h1 : b = true → A) (h2 : b = false → B) : condW (.val (.bool b)) A B := ⟨h1, h2⟩
theorem cond_tt (A B : Prop) : condW (.val (.bool true)) A B = A := by simp [condW]
theorem cond_ff (A B : Prop) : condW (.val (.bool false)) A B = B := by simp [condW]

/-- x where c holds; else no value at all. -/
def jn (c : Bool) (x : AV) : AV := if c = true then x else .val undef
theorem jn_true (x : AV) : jn true x = x := rfl
theorem jn_false (x : AV) : jn false x = .val undef := rfl

/-- Computed where c holds. -/
def gK (c : Bool) (o : Option AV) (F : AV → Prop) : Prop := ∃ r, (c = true → o = some r) ∧ F (jn c r)

theorem gK_congr {c c' : Bool} {o o' : Option AV} {F : AV → Prop} (hc : c = c') (ho : c' = true → o = o') : gK c o F = gK c' o' F := by
  subst hc
  unfold gK
  congr 1
  funext r
  congr 1
  exact propext ⟨fun h k => (ho k).symm.trans (h k), fun h k => (ho k).trans (h k)⟩

attribute [congr] gK_congr
theorem gK_some (c : Bool) (r : AV) (F : AV → Prop) : gK c (some r) F = F (jn c r) := by
  unfold gK
  refine propext ⟨fun ⟨r', h1, h2⟩ => ?_, fun h => ⟨r, fun _ => rfl, h⟩⟩
  cases c
  · exact h2
  · have := h1 rfl
    cases this
    exact h2
theorem b_eq_t (b : Bool) : (b == true) = b := by cases b <;> rfl
theorem b_eq_f (b : Bool) : (b == false) = !b := by cases b <;> rfl

def gW (x : AV) (want : Bool) (o : Option AV) (F : AV → Prop) : Prop := match x with
  | .val (.bool b) => gK (b == want) o F
  | .val _ => F (.val undef)
  | _ => False

def pureCI : CI → Bool
  | .alloc .. | .box .. | .bown .. | .store .. | .call .. | .callv .. | .cap .. | .append .. | .mkslice .. | .mkmap | .mapset .. | .appz .. => false
  | _ => true

theorem pure_sem {P : Program} {ci : CI} (h : pureCI ci = true) (e : Env) (O : Heap) (K : AV → Heap → Prop) : CiSem P ci e O K = ∃ r, pureI ci e O = some r ∧ K r O := by
  cases ci <;> first | rfl | (cases h; done)

def opF (P : Program) (d : Option Nat) (rest : List RIns) (K : Env → Heap → Prop) (e : Env) (O : Heap) : AV → Prop := fun r => opsW P rest K (e.put d r) O
theorem opF_apply (P : Program) (d : Option Nat) (rest : List RIns) (K : Env → Heap → Prop) (e : Env) (O : Heap) (r : AV) : opF P d rest K e O r = opsW P rest K (e.put d r) O := rfl

theorem gW_eq (x : AV) (want : Bool) (o : Option AV) (F : AV → Prop) : gW x want o F = guardW x want (∃ r, o = some r ∧ F r) (F (.val undef)) := by
  unfold gW guardW
  cases x <;> try rfl
  rename_i v
  have key : ∀ b : Bool, gK (b == want) o F = ((Value.bool b = .bool want → ∃ r, o = some r ∧ F r) ∧ (Value.bool b ≠ .bool want → F (.val undef))) := by
    intro b
    unfold gK
    by_cases hb : b = want
    · subst hb
      simp [jn]
    · have : (b == want) = false := by simp [hb]
      rw [this]
      simp [jn, hb]
      exact ⟨fun ⟨_, h⟩ => h, fun h => ⟨.junk, h⟩⟩
  cases v
  case bool b => exact key b
  all_goals simp

theorem opsW_gpure {P : Program} {d : Option Nat} {s : Nat} {want : Bool} {ci : CI} {rest : List RIns} {K : Env → Heap → Prop} {e : Env} {O : Heap} (h : pureCI ci = true) :
    opsW P ((d, some (s, want), ci) :: rest) K e O = gW (e s) want (pureI ci e O) (opF P d rest K e O) := by
  rw [opsW_guard, pure_sem h, gW_eq]
  rfl

/-- The front of a region that draws. -/
def drF (P : Program) (d : Option Nat) (rest : List RIns) (K : Env → Prop) (e : Env) (O : Heap) : AV → Prop := fun r => drawW P rest K (e.put d r) O
theorem drF_apply (P : Program) (d : Option Nat) (rest : List RIns) (K : Env → Prop) (e : Env) (O : Heap) (r : AV) : drF P d rest K e O r = drawW P rest K (e.put d r) O := rfl
theorem drawW_nil (P : Program) (K : Env → Prop) (e : Env) (O : Heap) : drawW P [] K e O = K e := rfl

def optP (o : Option AV) (F : AV → Prop) : Prop := match o with
  | some r => F r
  | none => False
theorem optP_some (r : AV) (F : AV → Prop) : optP (some r) F = F r := rfl

theorem drawFun_pure {P : Program} {ci : CI} (h : pureCI ci = true) (e : Env) (O : Heap) (V : AV) : drawFun P ci e O V = (pureI ci e O = some V) := by
  cases ci <;> first | (cases h; done) | rfl

theorem drawW_pure {P : Program} {d : Option Nat} {ci : CI} {rest : List RIns} {K : Env → Prop} {e : Env} {O : Heap} (h : pureCI ci = true) :
    drawW P ((d, none, ci) :: rest) K e O = optP (pureI ci e O) (drF P d rest K e O) := by
  show (∃ V, drawFun P ci e O V ∧ drawW P rest K (e.put d V) O) = _
  simp only [drawFun_pure h]
  cases pureI ci e O with
  | none => simp [optP]
  | some r => simp [optP, drF]

theorem drawW_gpure {P : Program} {d : Option Nat} {s : Nat} {want : Bool} {ci : CI} {rest : List RIns} {K : Env → Prop} {e : Env} {O : Heap} (h : pureCI ci = true) :
    drawW P ((d, some (s, want), ci) :: rest) K e O = gW (e s) want (pureI ci e O) (drF P d rest K e O) := by
  rw [gW_eq]
  show guardW (e s) want (∃ V, drawFun P ci e O V ∧ drawW P rest K (e.put d V) O) (drawW P rest K (e.put d (.val undef)) O) = _
  simp only [drawFun_pure h]
  rfl

theorem drawW_alloc {P : Program} {d : Option Nat} {E : TypeId} {sz : Nat} {z : AV} {rest : List RIns} {K : Env → Prop} {e : Env} {O : Heap} :
    drawW P ((d, none, .alloc E sz z) :: rest) K e O = drawW P rest K (e.put d .junk) O := by
  show (∃ V, V = AV.junk ∧ drawW P rest K (e.put d V) O) = _
  simp

/-- A call of a function that only computes. -/
def callF (P : Program) (f : FuncId) (args : List AV) (O : Heap) (F : AV → Prop) : Prop := ∃ V, PureAt P f args O V ∧ F V
theorem callF_use {P : Program} {f : FuncId} {args : List AV} {O : Heap} {F : AV → Prop} {r : AV} (h : PureA P f args r) (hk : F r) : callF P f args O F := ⟨r, h.at_ O, hk⟩
theorem drawW_call {P : Program} {d : Option Nat} {f : FuncId} {args : List Operand} {rest : List RIns} {K : Env → Prop} {e : Env} {O : Heap} :
    drawW P ((d, none, .call f args) :: rest) K e O = callF P f (args.map e.opd) O (drF P d rest K e O) := rfl
/-- A call of such a function, where x says so. -/
def gcallF (P : Program) (f : FuncId) (args : List AV) (O : Heap) (F : AV → Prop) (x : AV) (want : Bool) : Prop := guardW x want (callF P f args O F) (F (.val undef))
def gcallA (P : Program) (f : FuncId) (args : List AV) (O : Heap) (K : AV → Heap → Prop) (x : AV) (want : Bool) : Prop := guardW x want (CallA P f args O K) (K (.val undef) O)
theorem drawW_gcall {P : Program} {d : Option Nat} {s : Nat} {want : Bool} {f : FuncId} {args : List Operand} {rest : List RIns} {K : Env → Prop} {e : Env} {O : Heap} :
    drawW P ((d, some (s, want), .call f args) :: rest) K e O = gcallF P f (args.map e.opd) O (drF P d rest K e O) (e s) want := rfl
theorem opsW_gcall {P : Program} {d : Option Nat} {s : Nat} {want : Bool} {f : FuncId} {args : List Operand} {rest : List RIns} {K : Env → Heap → Prop} {e : Env} {O : Heap} :
    opsW P ((d, some (s, want), .call f args) :: rest) K e O = gcallA P f (args.map e.opd) O (opK P d rest K e) (e s) want := by
  rw [opsW_guard]; rfl
theorem guard_tt (A B : Prop) : guardW (.val (.bool true)) true A B = A := by simp [guardW]
theorem guard_ff (A B : Prop) : guardW (.val (.bool false)) false A B = A := by simp [guardW]
theorem guard_tf (A B : Prop) : guardW (.val (.bool true)) false A B = B := by simp [guardW]
theorem guard_ft (A B : Prop) : guardW (.val (.bool false)) true A B = B := by simp [guardW]
theorem gcF_tt {P : Program} {f : FuncId} {args : List AV} {O : Heap} {F : AV → Prop} : gcallF P f args O F (.val (.bool true)) true = callF P f args O F := guard_tt _ _
theorem gcF_ff {P : Program} {f : FuncId} {args : List AV} {O : Heap} {F : AV → Prop} : gcallF P f args O F (.val (.bool false)) false = callF P f args O F := guard_ff _ _
theorem gcF_tf {P : Program} {f : FuncId} {args : List AV} {O : Heap} {F : AV → Prop} : gcallF P f args O F (.val (.bool true)) false = F (.val undef) := guard_tf _ _
theorem gcF_ft {P : Program} {f : FuncId} {args : List AV} {O : Heap} {F : AV → Prop} : gcallF P f args O F (.val (.bool false)) true = F (.val undef) := guard_ft _ _
theorem gcA_tt {P : Program} {f : FuncId} {args : List AV} {O : Heap} {K : AV → Heap → Prop} : gcallA P f args O K (.val (.bool true)) true = CallA P f args O K := guard_tt _ _
theorem gcA_ff {P : Program} {f : FuncId} {args : List AV} {O : Heap} {K : AV → Heap → Prop} : gcallA P f args O K (.val (.bool false)) false = CallA P f args O K := guard_ff _ _
theorem gcA_tf {P : Program} {f : FuncId} {args : List AV} {O : Heap} {K : AV → Heap → Prop} : gcallA P f args O K (.val (.bool true)) false = K (.val undef) O := guard_tf _ _
theorem gcA_ft {P : Program} {f : FuncId} {args : List AV} {O : Heap} {K : AV → Heap → Prop} : gcallA P f args O K (.val (.bool false)) true = K (.val undef) O := guard_ft _ _
theorem gK_false (o : Option AV) (F : AV → Prop) : gK false o F = F (.val undef) := by
  unfold gK
  simp [jn]
  exact ⟨fun ⟨_, h⟩ => h, fun h => ⟨.junk, h⟩⟩

theorem drawW_append {P : Program} {d : Option Nat} {E : TypeId} {sz bytes : Nat} {s x : Operand} {rest : List RIns} {K : Env → Prop} {e : Env} {O : Heap} (r : AV) (h : AppendPure E sz bytes (e.opd s) (e.opd x) O r) (hk : drawW P rest K (e.put d r) O) :
    drawW P ((d, none, .append false E sz bytes s x) :: rest) K e O := ⟨r, h, hk⟩

theorem pick_and (c y : Bool) : pickA (.val (.bool c)) (jn c (.val (.bool y))) (.val (.bool false)) = some (.val (.bool (c && y))) := by
  cases c <;> rfl
theorem pick_or (c y : Bool) : pickA (.val (.bool c)) (.val (.bool true)) (jn (!c) (.val (.bool y))) = some (.val (.bool (c || y))) := by
  cases c <;> rfl
theorem pick_bool (c x y : Bool) : pickA (.val (.bool c)) (.val (.bool x)) (.val (.bool y)) = some (.val (.bool (if c = true then x else y))) := by cases c <;> rfl
theorem gW_bool (b want : Bool) (o : Option AV) (F : AV → Prop) : gW (.val (.bool b)) want o F = gK (b == want) o F := rfl
theorem gW_jn (c b want : Bool) (o : Option AV) (F : AV → Prop) : gW (jn c (.val (.bool b))) want o F = gK (c && (b == want)) o F := by
  cases c
  · show F (.val undef) = gK false o F
    unfold gK
    simp [jn]
    exact ⟨fun h => ⟨.junk, h⟩, fun ⟨_, h⟩ => h⟩
  · rfl

/-- The results one by one. -/
def resK (rcs : List RC) (acc : List AV) (K : AV → Heap → Prop) (e : Env) (O : Heap) : Prop := ∃ l, resA e O rcs = some l ∧ WeakR K (resV (acc ++ l)) O
theorem retF_res (rcs : List RC) (K : AV → Heap → Prop) (e : Env) (O : Heap) : retF rcs K e O = resK rcs [] K e O := rfl
theorem resK_nil (acc : List AV) (K : AV → Heap → Prop) (e : Env) (O : Heap) : resK [] acc K e O = WeakR K (resV acc) O := by simp [resK, resA]
theorem resK_tmp (t : Nat) (rcs : List RC) (acc : List AV) (K : AV → Heap → Prop) (e : Env) (O : Heap) : resK (.tmp t :: rcs) acc K e O = resK rcs (acc ++ [e t]) K e O := by
  unfold resK
  rw [resA]
  cases resA e O rcs <;> simp
theorem resK_cell (agg : Bool) (sz t : Nat) (rcs : List RC) (acc : List AV) (K : AV → Heap → Prop) (e : Env) (O : Heap) : resK (.cell agg sz t :: rcs) acc K e O = optK (loadA O agg sz (e t)) (fun x O => resK rcs (acc ++ [x]) K e O) O := by
  have h : resA e O (.cell agg sz t :: rcs) = match loadA O agg sz (e t), resA e O rcs with
    | some x, some l => some (x :: l)
    | _, _ => none := rfl
  unfold resK
  rw [h]
  cases hp : loadA O agg sz (e t) <;> cases hq : resA e O rcs <;> simp [optK, hq]
theorem resV_one (x : AV) : resV [x] = x := rfl
theorem resV_two (x y : AV) (l : List AV) : resV (x :: y :: l) = .tup (x :: y :: l) := rfl

theorem envOf_apply (l : List AV) (t : Nat) : envOf l t = l.getD t .junk := rfl

theorem load_optr (O : Heap) (agg : Bool) (sz id s i k : Nat) : loadA O agg sz (.optr id s i k) = match O id with
    | some (.arr _ s' elems) => if s = s' ∧ k + sz ≤ s then (match elems[i]? with | some x => partA x k sz agg | none => none) else none
    | _ => none := rfl
theorem load_ref (O : Heap) (agg : Bool) (sz : Nat) (x : AV) : loadA O agg sz (.ref x) = partA x 0 sz agg := rfl
theorem store_optr (O : Heap) (sz : Nat) (v : AV) (id s i k : Nat) : storeA O sz v (.optr id s i k) = match O id with
    | some (.arr E s' elems) => if s = s' ∧ v.stor = true ∧ v.cells.length = sz ∧ k + sz ≤ s then (match elems[i]? with
      | some x => some (O.upd id (.arr E s (elems.set i (if k = 0 ∧ sz = s then v else .agg (spliceA x.cells k v.cells)))))
      | none => none) else none
    | _ => none := rfl

theorem upd_upd (O : Heap) (i : Nat) (o o' : AObj) : (O.upd i o).upd i o' = O.upd i o' := by
  funext j; simp only [Heap.upd_apply]; split <;> rfl

theorem upd_none {O : Heap} {i j : Nat} {o : AObj} : (O.upd i o) j = none ↔ (¬ j = i ∧ ¬ i = j ∧ O j = none) := by
  rw [Heap.upd_apply]
  by_cases h : j = i
  · subst h; simp
  · simp [h, Ne.symm h]
theorem del_upd_new {O : Heap} {i : Nat} {o : AObj} (h : O i = none) : (O.upd i o).del i = O := by
  funext j; simp only [Heap.del_apply, Heap.upd_apply]; split
  · rename_i hj; rw [hj, h]
  · rfl
theorem keepE_nil (e : Env) : keepE [] e = fun _ => .junk := rfl
theorem keepE_cons (d : Nat) (L : List Nat) (e : Env) : keepE (d :: L) e = (keepE L e).upd d (e d) := rfl

/-- A struct of n cells. -/
def Flat (n : Nat) (x : AV) : Prop := ∃ m, x = .agg m ∧ m.length = n
theorem part_flat {n : Nat} {x : AV} (h : Flat n x) : partA x 0 n true = some x := by
  obtain ⟨m, rfl, h⟩ := h
  simp [partA, isAggA, AV.cells, h]
theorem Flat.cells {n : Nat} {x : AV} (h : Flat n x) : x.cells.length = n := by
  obtain ⟨m, rfl, h⟩ := h
  exact h
theorem Flat.stor {n : Nat} {x : AV} (h : Flat n x) : x.stor = true := by
  obtain ⟨m, rfl, h⟩ := h
  rfl

end Go.Ab

/- The abstract walk, twentieth part: the equations by which values are worked out, and bundles of equations. -/
namespace Go.Ab

section
variable (e : Env) (O : Heap)
theorem pi_mv (x : Operand) : pureI (.mv x) e O = some (e.opd x) := rfl
theorem pi_pick (c a b : Operand) : pureI (.pick c a b) e O = pickA (e.opd c) (e.opd a) (e.opd b) := rfl
theorem pi_build (zero : List AV) (parts : List (Nat × Nat × Operand)) : pureI (.build zero parts) e O = (fillA zero (parts.map fun p => (p.1, p.2.1, e.opd p.2.2))).map .agg := rfl
theorem pi_blist (sz : Nat) (xs : List Operand) : pureI (.blist sz xs) e O = if storAll sz (xs.map e.opd) = true then some (.list sz true (xs.map e.opd)) else none := rfl
theorem pi_load (agg : Bool) (sz : Nat) (x : Operand) : pureI (.load agg sz x) e O = loadA O agg sz (e.opd x) := rfl
theorem pi_nilchk (x : Operand) : pureI (.nilchk x) e O = nilchkA (e.opd x) := rfl
theorem pi_bin (op : BinOp) (x y : Operand) : pureI (.bin op x y) e O = binA op (e.opd x) (e.opd y) := rfl
theorem pi_binb (neg : Bool) (x y : Operand) : pureI (.binb neg x y) e O = binbA neg (e.opd x) (e.opd y) := rfl
theorem pi_eqagg (neg : Bool) (ks : List Bool) (x y : Operand) : pureI (.eqagg neg ks x y) e O = eqaggA neg ks (e.opd x) (e.opd y) := rfl
theorem pi_eqnil (k : Nat) (neg : Bool) (x : Operand) : pureI (.eqnil k neg x) e O = (isNilA k (e.opd x)).map fun b => .val (.bool (if neg then !b else b)) := rfl
theorem pi_un (op : UnOp) (x : Operand) : pureI (.un op x) e O = unA op (e.opd x) := rfl
theorem pi_convi (k : IntKind) (x : Operand) : pureI (.convi k x) e O = (intOfA (e.opd x)).map fun n => .val (.int k (k.wrap n)) := rfl
theorem pi_mkfn (fn : Fn) (first cap : List Operand) : pureI (.mkfn fn first cap) e O = some (.clo fn (first.map e.opd) (cap.map e.opd)) := rfl
theorem pi_fieldA (off sz : Nat) (agg : Bool) (x : Operand) : pureI (.fieldA off sz agg x) e O = fieldAddrA off sz agg (e.opd x) := rfl
theorem pi_field (off sz : Nat) (agg : Bool) (x : Operand) : pureI (.field off sz agg x) e O = fieldV off sz agg (e.opd x) := rfl
theorem pi_indexA (esz : Nat) (x i : Operand) : pureI (.indexA esz x i) e O = (intOfA (e.opd i)).bind fun n => indexAddrA esz n (e.opd x) := rfl
theorem pi_indexP (len esz : Nat) (eagg : Bool) (x i : Operand) : pureI (.indexP len esz eagg x i) e O = (intOfA (e.opd i)).bind fun n => indexPtrA len esz eagg n (e.opd x) := rfl
theorem pi_slice (esz : Nat) (x : Operand) (lo hi mx : Option Operand) : pureI (.slice esz x lo hi mx) e O = sliceA esz (e.opd x) (lo.map e.opd) (hi.map e.opd) (mx.map e.opd) := rfl
theorem pi_extract (x : Operand) (i : Nat) : pureI (.extract x i) e O = extractA i (e.opd x) := rfl
theorem pi_len (x : Operand) : pureI (.len x) e O = lenA (e.opd x) := rfl
theorem pi_lenm (x : Operand) : pureI (.lenm x) e O = lenM O (e.opd x) := rfl
theorem pi_maxmin (m : Bool) (x y : Operand) : pureI (.maxmin m x y) e O = maxminA m (e.opd x) (e.opd y) := rfl
end

section
variable (k : IntKind) (a b : Int)
theorem bin_add : binA .add (.val (.int k a)) (.val (.int k b)) = some (.val (.int k (k.wrap (a + b)))) := by simp [binA, intA]
theorem bin_sub : binA .sub (.val (.int k a)) (.val (.int k b)) = some (.val (.int k (k.wrap (a - b)))) := by simp [binA, intA]
theorem bin_mul : binA .mul (.val (.int k a)) (.val (.int k b)) = some (.val (.int k (k.wrap (a * b)))) := by simp [binA, intA]
theorem bin_quo : binA .quo (.val (.int k a)) (.val (.int k b)) = if b = 0 then none else some (.val (.int k (k.wrap (a.tdiv b)))) := by simp [binA, intA]
theorem bin_rem : binA .rem (.val (.int k a)) (.val (.int k b)) = if b = 0 then none else some (.val (.int k (a.tmod b))) := by simp [binA, intA]
theorem bin_eql : binA .eql (.val (.int k a)) (.val (.int k b)) = some (.val (.bool (decide (a = b)))) := by simp [binA, intA, Int.instDecidableEq]; rfl
theorem bin_neq : binA .neq (.val (.int k a)) (.val (.int k b)) = some (.val (.bool (!decide (a = b)))) := by simp [binA, intA]; rfl
theorem bin_lss : binA .lss (.val (.int k a)) (.val (.int k b)) = some (.val (.bool (decide (a < b)))) := by simp [binA, intA]
theorem bin_leq : binA .leq (.val (.int k a)) (.val (.int k b)) = some (.val (.bool (decide (a ≤ b)))) := by simp [binA, intA]
theorem bin_gtr : binA .gtr (.val (.int k a)) (.val (.int k b)) = some (.val (.bool (decide (b < a)))) := by simp [binA, intA]
theorem bin_geq : binA .geq (.val (.int k a)) (.val (.int k b)) = some (.val (.bool (decide (b ≤ a)))) := by simp [binA, intA]
theorem bin_and : binA .and (.val (.int k a)) (.val (.int k b)) = some (.val (.int k (k.wrap ((BitVec.ofInt k.bits a &&& BitVec.ofInt k.bits b).toNat)))) := by simp [binA, intA, bitsA]
theorem bin_shl (k' : IntKind) : binA .shl (.val (.int k a)) (.val (.int k' b)) = if b < 0 then none else some (.val (.int k (k.wrap (a * 2 ^ (min b.toNat k.bits))))) := by simp [binA, shiftA]
theorem bin_shr (k' : IntKind) : binA .shr (.val (.int k a)) (.val (.int k' b)) = if b < 0 then none else some (.val (.int k (a.fdiv (2 ^ (min b.toNat k.bits))))) := by simp [binA, shiftA]
theorem un_neg : unA .neg (.val (.int k a)) = some (.val (.int k (k.wrap (0 - a)))) := rfl
theorem intOf_int : intOfA (.val (.int k a)) = some a := rfl
end
theorem un_not (b : Bool) : unA .not (.val (.bool b)) = some (.val (.bool (!b))) := rfl
theorem binb_eql (a b : Bool) : binbA false (.val (.bool a)) (.val (.bool b)) = some (.val (.bool (a == b))) := rfl
theorem binb_neq (a b : Bool) : binbA true (.val (.bool a)) (.val (.bool b)) = some (.val (.bool (!(a == b)))) := rfl

theorem part_cell (x : AV) (off : Nat) : partA x off 1 false = x.cells[off]? := by simp [partA, subA]
theorem part_agg (l : List AV) (off n : Nat) : partA (.agg l) off n true = if off + n ≤ l.length then some (.agg ((l.drop off).take n)) else none := by
  unfold partA subA
  simp only [isAggA, AV.cells, and_true, if_true]
  split
  · rename_i h
    obtain ⟨rfl, h⟩ := h
    have h : l.length = n := by simpa using h
    subst h
    simp
  · rfl
theorem cells_agg (l : List AV) : AV.cells (.agg l) = l := rfl
theorem cells_val (v : Value) : AV.cells (.val v) = [.val v] := rfl
theorem cells_list (s : Nat) (t : Bool) (l : List AV) : AV.cells (.list s t l) = [.list s t l] := rfl
theorem cells_own (id s i n : Nat) (c : Option Nat) : AV.cells (.own id s i n c) = [.own id s i n c] := rfl
theorem cells_optr (id s i k : Nat) : AV.cells (.optr id s i k) = [.optr id s i k] := rfl
theorem cells_clo (f : Fn) (l m : List AV) : AV.cells (.clo f l m) = [.clo f l m] := rfl
theorem cells_ref (x : AV) : AV.cells (.ref x) = [.ref x] := rfl
theorem stor_agg (l : List AV) : AV.stor (.agg l) = true := rfl
theorem stor_int (k : IntKind) (n : Int) : AV.stor (.val (.int k n)) = true := rfl
theorem stor_bool (b : Bool) : AV.stor (.val (.bool b)) = true := rfl
theorem stor_nil : AV.stor (.val (.slice none 0 0)) = true := rfl
theorem stor_list (s : Nat) (t : Bool) (l : List AV) : AV.stor (.list s t l) = true := rfl
theorem stor_own (id s i n : Nat) (c : Option Nat) : AV.stor (.own id s i n c) = true := rfl
theorem stor_optr (id s i k : Nat) : AV.stor (.optr id s i k) = true := rfl
theorem stor_clo (f : Fn) (l m : List AV) : AV.stor (.clo f l m) = true := rfl
theorem stor_ref (x : AV) : AV.stor (.ref x) = true := rfl

theorem storAll_nil (s : Nat) : storAll s [] = true := rfl
theorem storAll_cons (s : Nat) (x : AV) (l : List AV) : storAll s (x :: l) = (decide (x.cells.length = s) && x.stor && storAll s l) := rfl

theorem fa_optr (off sz : Nat) (agg : Bool) (id s i k : Nat) : fieldAddrA off sz agg (.optr id s i k) = some (.optr id s i (k + off)) := rfl
theorem fa_ref (off sz : Nat) (agg : Bool) (x : AV) : fieldAddrA off sz agg (.ref x) = (partA x off sz agg).map .ref := rfl
theorem fv_agg (off sz : Nat) (agg : Bool) (l : List AV) : fieldV off sz agg (.agg l) = partA (.agg l) off sz agg := rfl
theorem len_list (s : Nat) (t : Bool) (l : List AV) : lenA (.list s t l) = some (.val (.int .i64 l.length)) := rfl
theorem len_own (id s i n : Nat) (c : Option Nat) : lenA (.own id s i n c) = some (.val (.int .i64 n)) := rfl
theorem len_nil : lenA (.val (.slice none 0 0)) = some (.val (.int .i64 0)) := rfl
theorem ex_tup (l : List AV) (i : Nat) : extractA i (.tup l) = l[i]? := rfl
theorem cap_tight (s : Nat) (l : List AV) (O : Heap) (K : AV → Heap → Prop) : CapSem (.list s true l) O K = K (.val (.int .i64 l.length)) O := rfl
theorem cap_own (id s i n k : Nat) (O : Heap) (K : AV → Heap → Prop) : CapSem (.own id s i n (some k)) O K = K (.val (.int .i64 k)) O := rfl
theorem cap_nil (O : Heap) (K : AV → Heap → Prop) : CapSem (.val (.slice none 0 0)) O K = K (.val (.int .i64 0)) O := rfl
theorem nc_optr (id s i k : Nat) : nilchkA (.optr id s i k) = some (.optr id s i k) := rfl
theorem nc_ref (x : AV) : nilchkA (.ref x) = some (.ref x) := rfl
theorem nc_clo (f : FuncId) (a b : List AV) : nilchkA (.clo (.func f) a b) = some (.clo (.func f) a b) := rfl
theorem nil_nil (a b : Nat) : isNilA 0 (.val (.slice none a b)) = some true := rfl
theorem nil_list (s : Nat) (t : Bool) (l : List AV) : isNilA 0 (.list s t l) = some false := rfl
theorem nil_own (id s i n : Nat) (c : Option Nat) : isNilA 0 (.own id s i n c) = some false := rfl
theorem nil_clo (f : Fn) (l m : List AV) : isNilA 1 (.clo f l m) = some false := rfl
theorem eq_agg (neg : Bool) (ks : List Bool) (l m : List AV) : eqaggA neg ks (.agg l) (.agg m) = (leavesEq ks l m).map fun b => .val (.bool (if neg then !b else b)) := rfl
theorem le_nil : leavesEq [] [] [] = some true := rfl
theorem le_int (ks : List Bool) (xs ys : List AV) (k : IntKind) (a b : Int) : leavesEq (true :: ks) (.val (.int k a) :: xs) (.val (.int k b) :: ys) = (leavesEq ks xs ys).map fun c => decide (a = b) && c := by
  rw [leavesEq]
  simp only [leafEq, intEqA, if_true]
  cases leavesEq ks xs ys <;> simp
  rfl
theorem le_bool (ks : List Bool) (xs ys : List AV) (a b : Bool) : leavesEq (false :: ks) (.val (.bool a) :: xs) (.val (.bool b) :: ys) = (leavesEq ks xs ys).map fun c => (a == b) && c := by
  rw [leavesEq]
  simp only [leafEq, boolEqA]
  cases leavesEq ks xs ys <;> simp

theorem fill_nil (l : List AV) : fillA l [] = some l := rfl
theorem fill_cons (l : List AV) (off n : Nat) (x : AV) (rest : List (Nat × Nat × AV)) : fillA l ((off, n, x) :: rest) = if x.cells.length = n ∧ x.stor = true ∧ off + n ≤ l.length then fillA (spliceA l off x.cells) rest else none := rfl
theorem chk_nil (e : Env) (O : Heap) : chk [] e O = True := rfl
theorem chk_cons (d : Nat) (gd : Option (Nat × Bool)) (ci : CI) (S : List RIns) (e : Env) (O : Heap) : chk ((some d, gd, ci) :: S) e O = (pureI ci e O = some (e d) ∧ chk S e O) := rfl
theorem pick_t (x y : AV) : pickA (.val (.bool true)) x y = some x := rfl
theorem pick_f (x y : AV) : pickA (.val (.bool false)) x y = some y := rfl
theorem splice_eq (l : List AV) (k : Nat) (m : List AV) : spliceA l k m = l.take k ++ m ++ l.drop (k + m.length) := rfl

/-- How a walk goes on. -/
theorem fwc : type_of% @ci_mv ∧ type_of% @ci_pick ∧ type_of% @ci_alloc ∧ type_of% @ci_box ∧ type_of% @ci_build ∧ type_of% @ci_blist ∧ type_of% @ci_bown ∧ type_of% @ci_load ∧ type_of% @ci_store ∧ type_of% @ci_nilchk ∧ type_of% @ci_bin ∧ type_of% @ci_binb ∧ type_of% @ci_eqagg ∧ type_of% @ci_eqnil ∧ type_of% @ci_un ∧ type_of% @ci_convi ∧ type_of% @ci_mkfn ∧ type_of% @ci_fieldA ∧ type_of% @ci_field ∧ type_of% @ci_indexA ∧ type_of% @ci_indexP ∧ type_of% @ci_slice ∧ type_of% @ci_extract ∧ type_of% @ci_len ∧ type_of% @ci_lenm ∧ type_of% @ci_maxmin ∧ type_of% @ci_call ∧ type_of% @ci_callv ∧ type_of% @callv_clo ∧ type_of% @ci_cap ∧ type_of% @ci_append ∧ type_of% @ci_mkslice ∧ type_of% @opd_tmp ∧ type_of% @opd_const ∧ type_of% @opd_func ∧ type_of% @put_some ∧ type_of% @put_none ∧ type_of% @cmd_skip ∧ type_of% @cmd_reg ∧ type_of% @cmd_dreg ∧ type_of% @cmd_sreg ∧ type_of% @kill_nil ∧ type_of% @kill_cons ∧ type_of% @cmd_cond ∧ type_of% @cmd_block ∧ type_of% @cmd_exit ∧ type_of% @cmd_ret ∧ type_of% @seqK_exit ∧ type_of% @seqK_ret ∧ type_of% @blockK_normal ∧ type_of% @blockK_ret ∧ type_of% @blockK_exit ∧ type_of% @loopK_exit ∧ type_of% @loopK_ret ∧ type_of% @cond_tt ∧ type_of% @cond_ff ∧ type_of% @opsW_nil ∧ type_of% @opsW_cons ∧ type_of% @opK_apply ∧ type_of% @opF_apply ∧ type_of% @drF_apply ∧ type_of% @drawW_nil ∧ type_of% @gcF_tt ∧ type_of% @gcF_ff ∧ type_of% @gcF_tf ∧ type_of% @gcF_ft ∧ type_of% @gcA_tt ∧ type_of% @gcA_ff ∧ type_of% @gcA_tf ∧ type_of% @gcA_ft ∧ type_of% @drawW_call ∧ type_of% @drawW_gcall ∧ type_of% @opsW_gcall ∧ type_of% @drawW_alloc ∧ type_of% @optK_some ∧ type_of% @optH_some ∧ type_of% @optP_some ∧ type_of% @opsS_nil ∧ type_of% @opsS_cons ∧ type_of% @opSK_apply ∧ type_of% @retF_res ∧ type_of% @resK_nil ∧ type_of% @resK_tmp ∧ type_of% @resK_cell ∧ type_of% @resV_one ∧ type_of% @resV_two :=
  ⟨@ci_mv, @ci_pick, @ci_alloc, @ci_box, @ci_build, @ci_blist, @ci_bown, @ci_load, @ci_store, @ci_nilchk, @ci_bin, @ci_binb, @ci_eqagg, @ci_eqnil, @ci_un, @ci_convi, @ci_mkfn, @ci_fieldA, @ci_field, @ci_indexA, @ci_indexP, @ci_slice, @ci_extract, @ci_len, @ci_lenm, @ci_maxmin, @ci_call, @ci_callv, @callv_clo, @ci_cap, @ci_append, @ci_mkslice, @opd_tmp, @opd_const, @opd_func, @put_some, @put_none, @cmd_skip, @cmd_reg, @cmd_dreg, @cmd_sreg, @kill_nil, @kill_cons, @cmd_cond, @cmd_block, @cmd_exit, @cmd_ret, @seqK_exit, @seqK_ret, @blockK_normal, @blockK_ret, @blockK_exit, @loopK_exit, @loopK_ret, @cond_tt, @cond_ff, @opsW_nil, @opsW_cons, @opK_apply, @opF_apply, @drF_apply, @drawW_nil, @gcF_tt, @gcF_ff, @gcF_tf, @gcF_ft, @gcA_tt, @gcA_ff, @gcA_tf, @gcA_ft, @drawW_call, @drawW_gcall, @opsW_gcall, @drawW_alloc, @optK_some, @optH_some, @optP_some, @opsS_nil, @opsS_cons, @opSK_apply, @retF_res, @resK_nil, @resK_tmp, @resK_cell, @resV_one, @resV_two⟩

theorem pu_mv {x0} : pureCI (.mv x0) = true := rfl
theorem pu_pick {x0 x1 x2} : pureCI (.pick x0 x1 x2) = true := rfl
theorem pu_build {x0 x1} : pureCI (.build x0 x1) = true := rfl
theorem pu_blist {x0 x1} : pureCI (.blist x0 x1) = true := rfl
theorem pu_load {x0 x1 x2} : pureCI (.load x0 x1 x2) = true := rfl
theorem pu_nilchk {x0} : pureCI (.nilchk x0) = true := rfl
theorem pu_bin {x0 x1 x2} : pureCI (.bin x0 x1 x2) = true := rfl
theorem pu_binb {x0 x1 x2} : pureCI (.binb x0 x1 x2) = true := rfl
theorem pu_eqagg {x0 x1 x2 x3} : pureCI (.eqagg x0 x1 x2 x3) = true := rfl
theorem pu_eqnil {x0 x1 x2} : pureCI (.eqnil x0 x1 x2) = true := rfl
theorem pu_un {x0 x1} : pureCI (.un x0 x1) = true := rfl
theorem pu_convi {x0 x1} : pureCI (.convi x0 x1) = true := rfl
theorem pu_mkfn {x0 x1 x2} : pureCI (.mkfn x0 x1 x2) = true := rfl
theorem pu_fieldA {x0 x1 x2 x3} : pureCI (.fieldA x0 x1 x2 x3) = true := rfl
theorem pu_field {x0 x1 x2 x3} : pureCI (.field x0 x1 x2 x3) = true := rfl
theorem pu_indexA {x0 x1 x2} : pureCI (.indexA x0 x1 x2) = true := rfl
theorem pu_indexP {x0 x1 x2 x3 x4} : pureCI (.indexP x0 x1 x2 x3 x4) = true := rfl
theorem pu_slice {x0 x1 x2 x3 x4} : pureCI (.slice x0 x1 x2 x3 x4) = true := rfl
theorem pu_extract {x0 x1} : pureCI (.extract x0 x1) = true := rfl
theorem pu_len {x0} : pureCI (.len x0) = true := rfl
theorem pu_lenm {x0} : pureCI (.lenm x0) = true := rfl
theorem pu_maxmin {x0 x1 x2} : pureCI (.maxmin x0 x1 x2) = true := rfl

/-- How values are worked out. -/
theorem fwe : type_of% @gW_bool ∧ type_of% @gW_jn ∧ type_of% @pu_mv ∧ type_of% @pu_pick ∧ type_of% @pu_build ∧ type_of% @pu_blist ∧ type_of% @pu_load ∧ type_of% @pu_nilchk ∧ type_of% @pu_bin ∧ type_of% @pu_binb ∧ type_of% @pu_eqagg ∧ type_of% @pu_eqnil ∧ type_of% @pu_un ∧ type_of% @pu_convi ∧ type_of% @pu_mkfn ∧ type_of% @pu_fieldA ∧ type_of% @pu_field ∧ type_of% @pu_indexA ∧ type_of% @pu_indexP ∧ type_of% @pu_slice ∧ type_of% @pu_extract ∧ type_of% @pu_len ∧ type_of% @pu_lenm ∧ type_of% @pu_maxmin ∧ type_of% @gK_false ∧ type_of% @gK_some ∧ type_of% @b_eq_t ∧ type_of% @b_eq_f ∧ type_of% @pi_mv ∧ type_of% @pi_pick ∧ type_of% @pi_build ∧ type_of% @pi_blist ∧ type_of% @pi_load ∧ type_of% @pi_nilchk ∧ type_of% @pi_bin ∧ type_of% @pi_binb ∧ type_of% @pi_eqagg ∧ type_of% @pi_eqnil ∧ type_of% @pi_un ∧ type_of% @pi_convi ∧ type_of% @pi_mkfn ∧ type_of% @pi_fieldA ∧ type_of% @pi_field ∧ type_of% @pi_indexA ∧ type_of% @pi_indexP ∧ type_of% @pi_slice ∧ type_of% @pi_extract ∧ type_of% @pi_len ∧ type_of% @pi_lenm ∧ type_of% @pi_maxmin ∧ type_of% @bin_add ∧ type_of% @bin_sub ∧ type_of% @bin_mul ∧ type_of% @bin_quo ∧ type_of% @bin_rem ∧ type_of% @bin_eql ∧ type_of% @bin_neq ∧ type_of% @bin_lss ∧ type_of% @bin_leq ∧ type_of% @bin_gtr ∧ type_of% @bin_geq ∧ type_of% @bin_and ∧ type_of% @bin_shl ∧ type_of% @bin_shr ∧ type_of% @un_neg ∧ type_of% @intOf_int ∧ type_of% @un_not ∧ type_of% @binb_eql ∧ type_of% @binb_neq ∧ type_of% @part_cell ∧ type_of% @part_agg ∧ type_of% @cells_agg ∧ type_of% @cells_val ∧ type_of% @cells_list ∧ type_of% @cells_own ∧ type_of% @cells_optr ∧ type_of% @cells_clo ∧ type_of% @cells_ref ∧ type_of% @stor_agg ∧ type_of% @stor_int ∧ type_of% @stor_bool ∧ type_of% @stor_nil ∧ type_of% @stor_list ∧ type_of% @stor_own ∧ type_of% @stor_optr ∧ type_of% @stor_clo ∧ type_of% @stor_ref ∧ type_of% @storAll_nil ∧ type_of% @storAll_cons ∧ type_of% @fa_optr ∧ type_of% @fa_ref ∧ type_of% @fv_agg ∧ type_of% @len_list ∧ type_of% @len_own ∧ type_of% @len_nil ∧ type_of% @ex_tup ∧ type_of% @cap_tight ∧ type_of% @cap_own ∧ type_of% @cap_nil ∧ type_of% @nc_optr ∧ type_of% @nc_ref ∧ type_of% @nc_clo ∧ type_of% @nil_nil ∧ type_of% @nil_list ∧ type_of% @nil_own ∧ type_of% @nil_clo ∧ type_of% @eq_agg ∧ type_of% @le_nil ∧ type_of% @le_int ∧ type_of% @le_bool ∧ type_of% @fill_nil ∧ type_of% @fill_cons ∧ type_of% @splice_eq ∧ type_of% @load_optr ∧ type_of% @load_ref ∧ type_of% @store_optr ∧ type_of% @chk_nil ∧ type_of% @chk_cons ∧ type_of% @pick_t ∧ type_of% @pick_f ∧ type_of% @pick_and ∧ type_of% @pick_or ∧ type_of% @pick_bool ∧ type_of% @jn_true ∧ type_of% @jn_false ∧ type_of% @keepE_nil ∧ type_of% @keepE_cons ∧ type_of% @envOf_apply ∧ type_of% @upd_upd :=
  ⟨@gW_bool, @gW_jn, @pu_mv, @pu_pick, @pu_build, @pu_blist, @pu_load, @pu_nilchk, @pu_bin, @pu_binb, @pu_eqagg, @pu_eqnil, @pu_un, @pu_convi, @pu_mkfn, @pu_fieldA, @pu_field, @pu_indexA, @pu_indexP, @pu_slice, @pu_extract, @pu_len, @pu_lenm, @pu_maxmin, @gK_false, @gK_some, @b_eq_t, @b_eq_f, @pi_mv, @pi_pick, @pi_build, @pi_blist, @pi_load, @pi_nilchk, @pi_bin, @pi_binb, @pi_eqagg, @pi_eqnil, @pi_un, @pi_convi, @pi_mkfn, @pi_fieldA, @pi_field, @pi_indexA, @pi_indexP, @pi_slice, @pi_extract, @pi_len, @pi_lenm, @pi_maxmin, @bin_add, @bin_sub, @bin_mul, @bin_quo, @bin_rem, @bin_eql, @bin_neq, @bin_lss, @bin_leq, @bin_gtr, @bin_geq, @bin_and, @bin_shl, @bin_shr, @un_neg, @intOf_int, @un_not, @binb_eql, @binb_neq, @part_cell, @part_agg, @cells_agg, @cells_val, @cells_list, @cells_own, @cells_optr, @cells_clo, @cells_ref, @stor_agg, @stor_int, @stor_bool, @stor_nil, @stor_list, @stor_own, @stor_optr, @stor_clo, @stor_ref, @storAll_nil, @storAll_cons, @fa_optr, @fa_ref, @fv_agg, @len_list, @len_own, @len_nil, @ex_tup, @cap_tight, @cap_own, @cap_nil, @nc_optr, @nc_ref, @nc_clo, @nil_nil, @nil_list, @nil_own, @nil_clo, @eq_agg, @le_nil, @le_int, @le_bool, @fill_nil, @fill_cons, @splice_eq, @load_optr, @load_ref, @store_optr, @chk_nil, @chk_cons, @pick_t, @pick_f, @pick_and, @pick_or, @pick_bool, @jn_true, @jn_false, @keepE_nil, @keepE_cons, @envOf_apply, @upd_upd⟩

end Go.Ab

/- The abstract walk, twenty-first part: helps. -/
namespace Go.Ab

theorem Heap.sub_refl (O : Heap) : O.sub O := fun _ _ h => h
theorem sub_upd {O O' : Heap} {i : Nat} {o : AObj} (h : O i = none) (hs : O.sub O') : O.sub (O'.upd i o) := fun j x hj => by
  rw [Heap.upd_apply, if_neg (fun e => by subst e; rw [h] at hj; cases hj)]
  exact hs j x hj
theorem WeakR.pure {R r : AV} {O O' : Heap} (hs : O.sub O') (h : r = R) : WeakR (fun r' O' => r' = R ∧ O' = O) r O' := WeakR.drop O hs (WeakR.now ⟨h, rfl⟩)
/-- With an array that nothing writes to any more. -/
theorem WeakR.pureF {R r r' : AV} {O O' : Heap} (id sz : Nat) (E : TypeId) (elems : List AV) (ho : O' id = some (.arr E sz elems)) (hz : Fz id sz elems r r') (hs : O.sub (O'.del id)) (h : r' = R) : WeakR (fun r' O' => r' = R ∧ O' = O) r O' :=
  WeakR.freeze ho hz (WeakR.pure hs h)

theorem ite_none {i j : Nat} {o : AObj} {y : Option AObj} : ((if i = j then some o else y) = none) = (¬ i = j ∧ ¬ j = i ∧ y = none) := by
  by_cases h : i = j
  · subst h; simp
  · simp [h, Ne.symm h]
theorem bound_none (d : Nat) : boundA d none = some d := rfl
theorem bound_int (d : Nat) (k : IntKind) (n : Int) : boundA d (some (.val (.int k n))) = if 0 ≤ n then some n.toNat else none := rfl

theorem slice_list_mx {s : Nat} {t : Bool} {l : List AV} {lo hi : Option AV} {m : AV} {a b c : Nat} (ha : boundA 0 lo = some a) (hb : boundA l.length hi = some b) (hc : boundA 0 (some m) = some c) (h1 : a ≤ b) (h2 : b ≤ c) (h3 : c ≤ l.length) :
    sliceA s (.list s t l) lo hi (some m) = some (.list s (c == b) ((l.drop a).take (b - a))) := by
  have : b ≤ l.length := by omega
  simp [sliceA, ha, hb, hc, h1, h2, h3, this]
theorem slice_own_mx {s id i n : Nat} {c : Option Nat} {lo hi : Option AV} {m : AV} {a b d : Nat} (ha : boundA 0 lo = some a) (hb : boundA n hi = some b) (hd : boundA 0 (some m) = some d) (h1 : a ≤ b) (h2 : leCap n c b = true) (h3 : b ≤ d) (h4 : leCap n c d = true) :
    sliceA s (.own id s i n c) lo hi (some m) = some (.own id s (i + a) (b - a) (some (d - a))) := by
  simp [sliceA, ha, hb, hd, h1, h2, h3, h4]

/-- An int of the machine's. -/
theorem wrap_i64 {n : Int} (h1 : -9223372036854775808 ≤ n) (h2 : n ≤ 9223372036854775807) : IntKind.i64.wrap n = n := by
  simp [IntKind.wrap, IntKind.bits, IntKind.signed]
  omega
theorem wrap_u8 {n : Int} (h1 : 0 ≤ n) (h2 : n ≤ 255) : IntKind.u8.wrap n = n := by
  simp [IntKind.wrap, IntKind.bits, IntKind.signed]
  omega

theorem ia_nat {s : Nat} {t : Bool} {l : List AV} {i : Nat} (h : i < l.length) : indexAddrA s (i : Int) (.list s t l) = some (.ref l[i]) := by
  simp [indexAddrA, h]
theorem ia_onat {s id j n : Nat} {c : Option Nat} {i : Nat} (h : i < n) : indexAddrA s (i : Int) (.own id s j n c) = some (.optr id s (j + i) 0) := by
  simp [indexAddrA, h]
theorem wrap_succ {i : Nat} (h : i < 4611686018427387904) : IntKind.i64.wrap ((i : Int) + 1) = ((i + 1 : Nat) : Int) := by
  rw [wrap_i64 (by omega) (by omega)]; rfl
theorem wrap_nat {i : Nat} (h : i < 4611686018427387904) : IntKind.i64.wrap (i : Int) = (i : Int) := wrap_i64 (by omega) (by omega)
theorem ilt_nat (i n : Nat) : decide ((i : Int) < (n : Int)) = decide (i < n) := by
  simp
theorem fits_of {n b : Nat} (h1 : n ≤ 16777216) (h2 : b ≤ 4096) : fits n b := by
  unfold fits maxLen
  constructor
  · omega
  · have := Nat.mul_le_mul h1 h2
    omega

theorem app_list {E : TypeId} {sz bytes : Nat} {L X : List AV} {x : AV} {O : Heap} {K : AV → Heap → Prop} (hX : elemsA O sz x = some X) (hf : fits (L.length + X.length) bytes) (hk : K (.list sz false (L ++ X)) O) :
    AppendSem false E sz bytes (.list sz true L) x O K := ⟨X, hX, rfl, hf, hk⟩
theorem app_nil_own {E : TypeId} {sz bytes : Nat} {X : List AV} {x : AV} {O : Heap} {K : AV → Heap → Prop} (hX : elemsA O sz x = some X) (hf : fits X.length bytes) (hne : X ≠ []) (hk : ∀ id, O id = none → K (.own id sz 0 X.length none) (O.upd id (.arr E sz X))) :
    AppendSem true E sz bytes (.val (.slice none 0 0)) x O K := ⟨X, hX, hf, fun h => absurd h hne, fun _ => hk⟩
theorem app_list_own {E : TypeId} {sz bytes : Nat} {L X : List AV} {x : AV} {O : Heap} {K : AV → Heap → Prop} (hX : elemsA O sz x = some X) (hf : fits (L.length + X.length) bytes) (h0 : X = [] → K (.list sz true L) O)
    (hk : X ≠ [] → ∀ id, O id = none → K (.own id sz 0 (L.length + X.length) none) (O.upd id (.arr E sz (L ++ X)))) : AppendSem true E sz bytes (.list sz true L) x O K := ⟨X, hX, rfl, hf, h0, hk⟩
/-- Appended to an array of one's own, which moves. -/
theorem app_move {ow : Bool} {E : TypeId} {sz bytes id n : Nat} {c : Option Nat} {elems X : List AV} {x : AV} {O : Heap} {K : AV → Heap → Prop} (hX : elemsA O sz x = some X) (ho : O id = some (.arr E sz elems)) (hn : n ≤ elems.length) (hf : fits (n + X.length) bytes)
    (hk : ∀ id', O id' = none → K (.own id' sz 0 (n + X.length) none) ((O.del id).upd id' (.arr E sz (elems.take n ++ X)))) : AppendSem ow E sz bytes (.own id sz 0 n c) x O K := ⟨X, hX, elems, ho, rfl, hn, hf, .inl fun id' hid' => WeakR.now (hk id' hid')⟩
/-- Appended to an array of one's own that has room. -/
theorem app_in {ow : Bool} {E : TypeId} {sz bytes id n k : Nat} {elems X : List AV} {x : AV} {O : Heap} {K : AV → Heap → Prop} (hX : elemsA O sz x = some X) (ho : O id = some (.arr E sz elems)) (hn : n ≤ elems.length) (hf : fits (n + X.length) bytes) (hr : n + X.length ≤ k)
    (hk : K (.own id sz 0 (n + X.length) (some k)) (O.upd id (.arr E sz (elems.take n ++ X ++ elems.drop (n + X.length))))) : AppendSem ow E sz bytes (.own id sz 0 n (some k)) x O K := ⟨X, hX, elems, ho, rfl, hn, hf, .inr ⟨k, rfl, hr, hk⟩⟩

theorem el_list (O : Heap) (sz : Nat) (t : Bool) (l : List AV) : elemsA O sz (.list sz t l) = some l := by simp [elemsA]
/-- A slice that may be nil. -/
def IsL (sz : Nat) (s : AV) (L : List AV) : Prop := (s = .val (.slice none 0 0) ∧ L = []) ∨ ∃ t, s = .list sz t L
theorem IsL.len {sz : Nat} {s : AV} {L : List AV} (h : IsL sz s L) : lenA s = some (.val (.int .i64 L.length)) := by
  rcases h with ⟨rfl, rfl⟩ | ⟨t, rfl⟩ <;> rfl
theorem IsL.el {sz : Nat} {s : AV} {L : List AV} (h : IsL sz s L) (O : Heap) : elemsA O sz s = some L := by
  rcases h with ⟨rfl, rfl⟩ | ⟨t, rfl⟩
  · rfl
  · exact el_list _ _ _ _
theorem IsL.cells {sz : Nat} {s : AV} {L : List AV} (h : IsL sz s L) : s.cells = [s] := by
  rcases h with ⟨rfl, rfl⟩ | ⟨t, rfl⟩ <;> rfl
theorem IsL.stor {sz : Nat} {s : AV} {L : List AV} (h : IsL sz s L) : s.stor = true := by
  rcases h with ⟨rfl, rfl⟩ | ⟨t, rfl⟩ <;> rfl
theorem IsL.ia {sz : Nat} {s : AV} {L : List AV} (h : IsL sz s L) {i : Nat} (hi : i < L.length) : indexAddrA sz (i : Int) s = some (.ref L[i]) := by
  rcases h with ⟨rfl, rfl⟩ | ⟨t, rfl⟩
  · simp at hi
  · exact ia_nat hi
theorem IsL.list {sz : Nat} {t : Bool} {L : List AV} : IsL sz (.list sz t L) L := .inr ⟨t, rfl⟩
theorem IsL.nil {sz : Nat} : IsL sz (.val (.slice none 0 0)) [] := .inl ⟨rfl, rfl⟩
/-- A slice without spare room. -/
def IsT (sz : Nat) (s : AV) (L : List AV) : Prop := (s = .val (.slice none 0 0) ∧ L = []) ∨ s = .list sz true L
theorem IsT.isL {sz : Nat} {s : AV} {L : List AV} (h : IsT sz s L) : IsL sz s L := h.imp id fun h => ⟨true, h⟩
theorem IsT.cap {sz : Nat} {s : AV} {L : List AV} (h : IsT sz s L) (O : Heap) (K : AV → Heap → Prop) : CapSem s O K = K (.val (.int .i64 L.length)) O := by
  rcases h with ⟨rfl, rfl⟩ | rfl <;> rfl
theorem IsT.list {sz : Nat} {L : List AV} : IsT sz (.list sz true L) L := .inr rfl
theorem IsT.nil {sz : Nat} : IsT sz (.val (.slice none 0 0)) [] := .inl ⟨rfl, rfl⟩

theorem opsW_gcap {P : Program} {d : Option Nat} {s : Nat} {want : Bool} {x : Operand} {rest : List RIns} {K : Env → Heap → Prop} {e : Env} {O : Heap} {b : Bool} {sz : Nat} {L : List AV} (hs : e s = .val (.bool b))
    (h : (b == want) = true → IsT sz (e.opd x) L) (hk : opsW P rest K (e.put d (jn (b == want) (.val (.int .i64 L.length)))) O) : opsW P ((d, some (s, want), .cap x) :: rest) K e O := by
  rw [opsW_guard, hs]
  constructor
  · intro hb
    have : (b == want) = true := by cases hb; simp
    rw [this] at hk
    show CapSem (e.opd x) O _
    rw [(h this).cap]
    exact hk
  · intro hb
    have : (b == want) = false := by
      cases hbw : (b == want) with
      | false => rfl
      | true => exact absurd (by rw [eq_of_beq hbw]) hb
    rw [this] at hk
    exact hk

theorem CallA.freeze {P : Program} {f : FuncId} {args args' : List AV} {O : Heap} {K : AV → Heap → Prop} (id sz : Nat) (E : TypeId) (elems : List AV) (ho : O id = some (.arr E sz elems)) (hl : args'.length = args.length)
    (hz : ∀ (i : Nat) x y, args[i]? = some x → args'[i]? = some y → Fz id sz elems x y) (h : CallA P f args' (O.del id) K) : CallA P f args O K := by
  refine ⟨h.1, fun g W0 w vs hI hs hv => ?_⟩
  obtain ⟨g', h1, h2, h3⟩ := freeze_sound hI ho
  refine (h.2 g' W0 w vs h2 (by omega) fun i y v hy hv' => ?_).mono fun en w' ⟨v, he, g2, r, O2, k1, k2⟩ => ⟨v, he, g2, r, O2, h1.trans k1, k2⟩
  have hi : i < args.length := by rw [← hl]; exact (List.getElem?_eq_some_iff.1 hy).1
  exact h3 _ _ _ (hz i _ y (List.getElem?_eq_getElem hi) hy) (hv i _ v (List.getElem?_eq_getElem hi) hv')

theorem CallA.freeze1 {P : Program} {f : FuncId} {x x' : AV} {O : Heap} {K : AV → Heap → Prop} (id sz : Nat) (E : TypeId) (elems : List AV) (ho : O id = some (.arr E sz elems))
    (hz : Fz id sz elems x x') (h : CallA P f [x'] (O.del id) K) : CallA P f [x] O K := by
  refine CallA.freeze (args' := [x']) id sz E elems ho rfl (fun i y z hy hz' => ?_) h
  match i, hy, hz' with
  | 0, hy, hz' => simp at hy hz'; subst hy hz'; exact hz

theorem make_own {E : TypeId} {sz bytes : Nat} {zero l c : AV} {O : Heap} {K : AV → Heap → Prop} (n m : Nat) (h1 : intOfA l = some (n : Int)) (h2 : intOfA c = some (m : Int)) (h3 : n ≤ m) (h4 : m ≤ 16777216) (h5 : bytes ≤ 4096)
    (hk : ∀ id, O id = none → K (.own id sz 0 n (some m)) (O.upd id (.arr E sz (List.replicate m zero)))) : MakeSem E sz bytes zero l c O K := by
  refine ⟨n, m, h1, h2, h3, ?_, ?_, hk⟩
  · unfold maxLen; omega
  · have := Nat.mul_le_mul h5 h4; omega

theorem sub_both {O O' : Heap} {i : Nat} {o : AObj} (h : O.sub O') : (O.upd i o).sub (O'.upd i o) := fun j x hj => by
  rw [Heap.upd_apply] at hj ⊢
  split
  · rename_i hji; rw [if_pos hji] at hj; exact hj
  · rename_i hji; rw [if_neg hji] at hj; exact h j x hj
theorem loopK_drop {L : List Nat} {I : Nat → Env → Heap → Prop} {n : Nat} {K : Kont} {e : Env} {O : Heap} (O1 : Heap) (hs : O1.sub O) (m : Nat) (h : m < n) (hi : I m (keepE L e) O1) : loopK L I n K .normal e O :=
  WeakE.drop O1 hs (WeakE.keep L ⟨m, h, hi⟩)
theorem del_ne {O : Heap} {id a : Nat} {x : AObj} (h : ¬ a = id) : (O.upd a x).del id = (O.del id).upd a x := by
  funext j; simp only [Heap.del_apply, Heap.upd_apply]
  by_cases hj : j = id
  · subst hj; simp [Ne.symm h]
  · simp [hj]
theorem seq_go {P : Program} {L : List Nat} {a b : Cmd} {K : Kont} {e : Env} {O : Heap} (h : cmdW P a (seqK L K (cmdW P b K)) e O) : cmdW P (.seq L a b) K e O := h

/-- An invariant that nothing looks into. -/
theorem hideI (J : Nat → Env → Heap → Prop) : ∃ I : Nat → Env → Heap → Prop, Aside (I = J) := ⟨J, rfl⟩

theorem undef_ne (want : Bool) : (undef : Value) ≠ .bool want := by unfold undef; simp
theorem gW_un (want : Bool) (o : Option AV) (F : AV → Prop) : gW (.val undef) want o F = F (.val undef) := by
  have := gW_jn false true want o F
  rw [jn_false, Bool.false_and] at this
  rw [this, gK_false]
theorem gcF_un {P : Program} {f : FuncId} {args : List AV} {O : Heap} {F : AV → Prop} (want : Bool) : gcallF P f args O F (.val undef) want = F (.val undef) := by
  unfold gcallF guardW
  exact propext ⟨fun h => h.2 (undef_ne want), fun h => ⟨fun e => absurd e (undef_ne want), fun _ => h⟩⟩
theorem gcA_un {P : Program} {f : FuncId} {args : List AV} {O : Heap} {K : AV → Heap → Prop} (want : Bool) : gcallA P f args O K (.val undef) want = K (.val undef) O := by
  unfold gcallA guardW
  exact propext ⟨fun h => h.2 (undef_ne want), fun h => ⟨fun e => absurd e (undef_ne want), fun _ => h⟩⟩
end Go.Ab

/- The abstract walk, twenty-second part: from a law's arguments to abstract values, and from a law's contract to its statement. -/
namespace Go.Ab
open Go.RowKit Go.WideShapes Go.ChangeShapes Go.Deep

/-- What the cells of a type are. -/
inductive Lay where
  | nil
  | bool (r : Lay)
  | int (k : IntKind) (r : Lay)
  | slice (agg : Bool) (e r : Lay)

def Lay.len : Lay → Nat
  | .nil => 0
  | .bool r => r.len + 1
  | .int _ r => r.len + 1
  | .slice _ _ r => r.len + 1

def Lay.app : Lay → Lay → Lay
  | .nil, m => m
  | .bool r, m => .bool (r.app m)
  | .int k r, m => .int k (r.app m)
  | .slice a e r, m => .slice a e (r.app m)

def Lay.rep (l : Lay) : Nat → Lay
  | 0 => .nil
  | n + 1 => (l.rep n).app l

theorem Lay.app_len (l m : Lay) : (l.app m).len = l.len + m.len := by
  induction l with
  | nil => simp [Lay.app, Lay.len]
  | bool r ih => simp [Lay.app, Lay.len, ih]; omega
  | int k r ih => simp [Lay.app, Lay.len, ih]; omega
  | slice a e r _ ih => simp [Lay.app, Lay.len, ih]; omega

def elemIs (agg : Bool) (x : AV) (es : List AV) : Prop := match agg with
  | true => x = .agg es
  | false => es = [x]

def LayOK : Lay → List AV → Prop
  | .nil, qs => qs = []
  | .bool r, qs => ∃ b qs', qs = .val (.bool b) :: qs' ∧ LayOK r qs'
  | .int k r, qs => ∃ n qs', qs = .val (.int k n) :: qs' ∧ (Lit.int k n).wf = true ∧ LayOK r qs'
  | .slice agg e r, qs => ∃ s l qs', qs = s :: qs' ∧ IsL e.len s l ∧ l.length ≤ maxLen ∧ (∀ x ∈ l, ∃ es, elemIs agg x es ∧ LayOK e es) ∧ LayOK r qs'

theorem LayOK.app {l m : Lay} : ∀ {qs bs : List AV}, LayOK l qs → LayOK m bs → LayOK (l.app m) (qs ++ bs) := by
  induction l with
  | nil => intro qs bs h h'; cases h; exact h'
  | bool r ih => intro qs bs ⟨b, qs', e, h⟩ h'; exact ⟨b, qs' ++ bs, by rw [e]; rfl, ih h h'⟩
  | int k r ih => intro qs bs ⟨b, qs', e, hw, h⟩ h'; exact ⟨b, qs' ++ bs, by rw [e]; rfl, hw, ih h h'⟩
  | slice a el r _ ih => intro qs bs ⟨s, l, qs', e, h1, h2, h3, h⟩ h'; exact ⟨s, l, qs' ++ bs, by rw [e]; rfl, h1, h2, h3, ih h h'⟩

def tileL (P : Program) (rec : TypeId → Option Lay) : List Field → Nat → Option Lay
  | [], _ => some .nil
  | f :: fs, off => if f.offset = off then (match rec f.type with
    | some l => if P.cellsOf f.type = l.len then (tileL P rec fs (off + l.len)).map (l.app ·) else none
    | none => none) else none

def layOf (P : Program) : Nat → TypeId → Option Lay
  | 0, _ => none
  | n + 1, t => match P.underlying t with
    | some .bool => some (.bool .nil)
    | some (.int k) => some (.int k .nil)
    | some (.slice e) => match layOf P n e with
      | some l => if P.cellsOf e = l.len ∧ 0 < l.len ∧ (isAggB P e = true ∨ l.len = 1) then some (.slice (isAggB P e) l .nil) else none
      | none => none
    | some (.struct fs) => match tileL P (fun t => layOf P n t) fs.toList 0 with
      | some l => if P.cellsOf t = l.len then some l else none
      | none => none
    | some (.array m e) => match layOf P n e with
      | some l => if P.cellsOf e = l.len ∧ P.cellsOf t = (l.rep m).len then some (l.rep m) else none
      | none => none
    | _ => none

/-- All that is in memory before a call. -/
def gh0 (W : World) : Gh := ⟨fun b o => match W.cell? ⟨b, o, none⟩ with | some v => if v.oneCell' = true then some v else none | none => none, fun _ => none, fun _ => False, 0⟩

theorem gh0_c {W : World} {b o : Nat} {v : Value} : (gh0 W).c b o = some v ↔ W.cell? ⟨b, o, none⟩ = some v ∧ v.oneCell' = true := by
  show (match W.cell? ⟨b, o, none⟩ with | some v => if v.oneCell' = true then some v else none | none => none) = some v ↔ _
  cases W.cell? ⟨b, o, none⟩ with
  | none => simp
  | some u =>
    by_cases hu : u.oneCell' = true
    · simp only [hu, if_true, Option.some.injEq]
      exact ⟨fun h => ⟨h, h ▸ hu⟩, fun h => h.1⟩
    · simp only [hu, if_false, Option.some.injEq]
      exact ⟨fun h => by simp at h, fun ⟨h1, h2⟩ => by subst h1; exact absurd h2 hu⟩

theorem inv0 (W : World) : Inv W (gh0 W) (fun _ => none) W :=
  ⟨Below.refl _ _, fun _ _ _ h => gh0_c.1 h, ⟨0, fun _ _ => rfl⟩, fun _ _ h => (by cases h), fun _ _ _ _ _ _ _ h => (by cases h), fun _ h => h.elim, Nat.zero_le _⟩

structure Opens (W : World) (L : Lay) (cs : List Value) (qs : List AV) : Prop where
  ok : LayOK L qs
  lc : cs.length = L.len
  la : qs.length = L.len
  reads : ∀ (i : Nat) a c, qs[i]? = some a → cs[i]? = some c → Reads (gh0 W) a c
  one : ∀ c ∈ cs, c.oneCell' = true
  cells : ∀ a ∈ qs, a.cells = [a]

theorem Opens.app {W : World} {L M : Lay} {cs ds : List Value} {qs bs : List AV} (h : Opens W L cs qs) (k : Opens W M ds bs) : Opens W (L.app M) (cs ++ ds) (qs ++ bs) where
  ok := h.ok.app k.ok
  lc := by rw [List.length_append, h.lc, k.lc, Lay.app_len]
  la := by rw [List.length_append, h.la, k.la, Lay.app_len]
  reads i a c ha hc := by
    rcases Nat.lt_or_ge i L.len with hi | hi
    · rw [List.getElem?_append_left (by rw [h.la]; exact hi)] at ha
      rw [List.getElem?_append_left (by rw [h.lc]; exact hi)] at hc
      exact h.reads i a c ha hc
    · rw [List.getElem?_append_right (by rw [h.la]; exact hi), h.la] at ha
      rw [List.getElem?_append_right (by rw [h.lc]; exact hi), h.lc] at hc
      exact k.reads _ a c ha hc
  one c hc := by
    rcases List.mem_append.1 hc with hc | hc
    · exact h.one c hc
    · exact k.one c hc
  cells a ha := by
    rcases List.mem_append.1 ha with ha | ha
    · exact h.cells a ha
    · exact k.cells a ha

theorem Opens.nil (W : World) : Opens W .nil [] [] := ⟨rfl, rfl, rfl, fun i a c h => by simp at h, fun c h => by simp at h, fun c h => by simp at h⟩

theorem Opens.single {W : World} {L : Lay} {c : Value} {a : AV} (hl : L.len = 1) (ok : LayOK L [a]) (hr : Reads (gh0 W) a c) (h1 : c.oneCell' = true) (ha : a.cells = [a]) : Opens W L [c] [a] where
  ok := ok
  lc := hl.symm
  la := hl.symm
  reads i a' c' ha' hc' := by
    cases i with
    | zero => simp at ha' hc'; subst ha' hc'; exact hr
    | succ i => simp at ha'
  one c' hc' := by simp at hc'; subst hc'; exact h1
  cells a' ha' := by simp at ha'; subst ha'; exact ha

section
variable {H : Type} {enc : TypeId × Value → H} {P : Program} {W : World}

theorem add_at {a : Addr} (h : a.spot = none) (k : Nat) : a.add k = ⟨a.block, a.off + k, none⟩ := by
  unfold Addr.add
  split
  · rename_i h0; subst h0; cases a; simp_all
  · rfl

theorem spot_of_cell {W : World} {a : Addr} {v : Value} (h : W.cell? a = some v) : a.spot = none := by
  cases hs : a.spot with
  | none => rfl
  | some s =>
    simp only [World.cell?] at h
    split at h
    · simp [hs] at h
    · cases h

theorem tile_opens {rec : TypeId → Option Lay} {fuel : Nat} {cs : List Value}
    (hrec : ∀ t L ds x, rec t = some L → DataW.trod enc P W 0 (fun _ => true) true fuel t ds = some x → ∃ qs, Opens W L ds qs) :
    ∀ (fs : List Field) (off : Nat) (L : Lay), tileL P rec fs off = some L → (∀ f ∈ fs, ∃ x, DataW.trod enc P W 0 (fun _ => true) true fuel f.type ((cs.drop f.offset).take (P.cellsOf f.type)) = some x) →
      ∃ qs, Opens W L ((cs.drop off).take L.len) qs
  | [], off, L, hL, _ => by cases hL; exact ⟨[], by simpa [Lay.len] using Opens.nil W⟩
  | f :: fs, off, L, hL, hx => by
    unfold tileL at hL
    split at hL
    · rename_i hoff
      cases hr : rec f.type with
      | none => rw [hr] at hL; cases hL
      | some l =>
        rw [hr] at hL
        simp only [] at hL
        split at hL
        · rename_i hc
          obtain ⟨M, hM, rfl⟩ := Option.map_eq_some_iff.1 hL
          obtain ⟨x, hx1⟩ := hx f (by simp)
          rw [hoff, hc] at hx1
          obtain ⟨qs, h1⟩ := hrec _ _ _ _ hr hx1
          obtain ⟨bs, h2⟩ := tile_opens hrec fs _ M hM (fun f' hf => hx f' (by simp [hf]))
          refine ⟨qs ++ bs, ?_⟩
          rw [Lay.app_len, List.take_add, List.drop_drop]
          exact h1.app h2
        · cases hL
    · cases hL

theorem opens : ∀ (n : Nat) (t : TypeId) (L : Lay) (cs : List Value) (fuel : Nat) (x : DataW H × List MemPlace), layOf P n t = some L → DataW.trod enc P W 0 (fun _ => true) true fuel t cs = some x → ∃ qs, Opens W L cs qs
  | 0, t, L, cs, fuel, x, hL, _ => by cases hL
  | n + 1, t, L, cs, fuel, x, hL, h => by
    unfold layOf at hL
    split at hL
    · rename_i ht
      cases hL
      obtain ⟨b, rfl, _⟩ := DataW.trod_bool ht h
      exact ⟨[.val (.bool b)], .single rfl ⟨b, [], rfl, rfl⟩ (.val _) rfl rfl⟩
    · rename_i k ht
      cases hL
      obtain ⟨z, rfl, _, hz⟩ := DataW.trod_int ht h
      exact ⟨[.val (.int k z)], .single rfl ⟨z, [], rfl, hz, rfl⟩ (.val _) rfl rfl⟩
    · rename_i e ht
      cases hl : layOf P n e with
      | none => rw [hl] at hL; cases hL
      | some l =>
        rw [hl] at hL
        simp only [] at hL
        split at hL
        · rename_i hc
          obtain ⟨hc, hpos, hag⟩ := hc
          cases hL
          rcases open_slice ht h with ⟨rfl, _⟩ | ⟨a, len, cap, m, n', D, Pl, rfl, _, hlen, hcap, hm, _, hi⟩
          · exact ⟨[.val (.slice none 0 0)], .single rfl ⟨_, [], [], rfl, .nil, by simp, fun x hx => by simp at hx, rfl⟩ (.val _) rfl rfl⟩
          · simp only [if_true] at hm
            subst hm
            rw [hc] at hi
            by_cases hcap0 : m = 0
            · subst hcap0
              have : len = 0 := by omega
              subst this
              exact ⟨[.list l.len false []], .single rfl ⟨_, [], [], rfl, .list, by simp, fun x hx => by simp at hx, rfl⟩ (.listE _ _ _) rfl rfl⟩
            · have hex : ∀ i, ∃ qs : List AV, i < m → ∃ cs', W.cells? 0 (a.add (i * l.len)) l.len = some cs' ∧ Opens W l cs' qs := fun i => by
                by_cases him : i < m
                · obtain ⟨cs', h1, h2⟩ := hi i him
                  obtain ⟨qs, h3⟩ := opens n e l cs' n' _ hl h2
                  exact ⟨qs, fun _ => ⟨cs', h1, h3⟩⟩
                · exact ⟨[], fun h => absurd h him⟩
              obtain ⟨f, hf⟩ := Classical.axiomOfChoice hex
              have hcell : ∀ i, i < m → ∀ j, j < l.len → ∃ c, W.cell? ((a.add (i * l.len)).add j) = some c := fun i hi' j hj => by
                obtain ⟨cs', h1, h2⟩ := hf i hi'
                obtain ⟨_, q1, q2⟩ := World.cells?_some h1
                rw [q2 j hj]
                exact ⟨_, List.getElem?_eq_getElem (by omega)⟩
              have hspot : a.spot = none := by
                obtain ⟨c, hc0⟩ := hcell 0 (by omega) 0 hpos
                rw [Nat.zero_mul] at hc0
                exact spot_of_cell hc0
              have hat : ∀ i j, (a.add (i * l.len)).add j = ⟨a.block, a.off + (i * l.len + j), none⟩ := fun i j => by
                rw [Go.Deep.add_add, add_at hspot]
              let el : Nat → AV := fun i => if isAggB P e = true then .agg (f i) else (f i).headD .junk
              have hel : ∀ i, i < m → elemIs (isAggB P e) (el i) (f i) ∧ (el i).cells = f i := fun i hi' => by
                obtain ⟨cs', h1, h2⟩ := hf i hi'
                show elemIs (isAggB P e) (if isAggB P e = true then .agg (f i) else (f i).headD .junk) (f i) ∧ (if isAggB P e = true then AV.agg (f i) else (f i).headD .junk).cells = f i
                cases hA : isAggB P e with
                | true => exact ⟨rfl, rfl⟩
                | false =>
                  have h1' : l.len = 1 := by rcases hag with h | h; · rw [hA] at h; cases h
                                             · exact h
                  have hla := h2.la
                  rw [h1'] at hla
                  match hfi : f i, hla with
                  | [y], _ =>
                    have hy := h2.cells y (by rw [hfi]; simp)
                    exact ⟨rfl, by simpa using hy⟩
              let xs : List AV := (List.range len).map el
              have hxl : xs.length = len := by simp [xs]
              have hxi : ∀ (i : Nat) y, xs[i]? = some y → i < len ∧ y = el i := fun i y hy => by
                have hil : i < len := by
                  rw [← hxl]; exact (List.getElem?_eq_some_iff.1 hy).1
                refine ⟨hil, ?_⟩
                simp [xs, hil] at hy
                exact hy.symm
              have hgo : ∀ (i : Nat) y (j : Nat) z, xs[i]? = some y → y.cells[j]? = some z → ∃ c, W.cell? ⟨a.block, a.off + (i * l.len + j), none⟩ = some c ∧ c.oneCell' = true ∧ Reads (gh0 W) z c := fun i y j z hy hz => by
                obtain ⟨hil, rfl⟩ := hxi i y hy
                have him : i < m := by omega
                rw [(hel i him).2] at hz
                obtain ⟨cs', h1, h2⟩ := hf i him
                obtain ⟨_, q1, q2⟩ := World.cells?_some h1
                have hj : j < l.len := by rw [← h2.la]; exact (List.getElem?_eq_some_iff.1 hz).1
                have hcj : cs'[j]? = some (cs'[j]'(by omega)) := List.getElem?_eq_getElem (by omega)
                refine ⟨cs'[j]'(by omega), ?_, h2.one _ (List.getElem_mem _), h2.reads j z _ hz hcj⟩
                rw [← hat, q2 j hj, hcj]
              refine ⟨[.list l.len false xs], .single rfl ⟨_, xs, [], rfl, .list, by omega, fun y hy => ?_, rfl⟩ ?_ rfl rfl⟩
              · obtain ⟨i, hi1, hi2⟩ := List.getElem_of_mem hy
                obtain ⟨hil, rfl⟩ := hxi i y (by rw [List.getElem?_eq_getElem hi1, hi2])
                obtain ⟨cs', h1, h2⟩ := hf i (by omega)
                exact ⟨f i, (hel i (by omega)).1, h2.ok⟩
              · have : Value.slice (some a) len m = .slice (some ⟨a.block, a.off, none⟩) xs.length m := by rw [hxl]; cases a; simp_all
                rw [this]
                refine .list l.len false xs a.block a.off m (fun i j => (W.cell? ⟨a.block, a.off + (i * l.len + j), none⟩).getD undef) (by omega) (fun h => by cases h) (by omega) (fun i y hy => ?_) (fun i y j z hy hz => ?_) (fun i y j z hy hz => ?_)
                · obtain ⟨hil, rfl⟩ := hxi i y hy
                  obtain ⟨cs', h1, h2⟩ := hf i (by omega)
                  rw [(hel i (by omega)).2]; exact h2.la
                · obtain ⟨c, h1, h2, _⟩ := hgo i y j z hy hz
                  rw [gh0_c]
                  simp only [h1, Option.getD_some]
                  exact ⟨trivial, h2⟩
                · obtain ⟨c, h1, _, h3⟩ := hgo i y j z hy hz
                  simp only [h1, Option.getD_some]
                  exact h3
        · cases hL
    · rename_i fs ht
      cases hl : tileL P (fun t => layOf P n t) fs.toList 0 with
      | none => rw [hl] at hL; cases hL
      | some l =>
        rw [hl] at hL
        simp only [] at hL
        split at hL
        · rename_i hc
          cases hL
          obtain ⟨xs, m, rfl, _, hlen, hxl, hf⟩ := DataW.trod_struct ht h
          obtain ⟨qs, h1⟩ := tile_opens (enc := enc) (P := P) (W := W) (fuel := m) (cs := cs) (fun t L ds x hL hx => opens n t L ds m x hL hx) fs.toList 0 L hl (fun f hf' => by
            obtain ⟨i, hi1, hi2⟩ := List.getElem_of_mem hf'
            have hi' : i < fs.size := by simpa using hi1
            have hfi : fs[i]? = some f := by rw [Array.getElem?_eq_getElem hi', ← hi2]; simp
            exact ⟨_, (hf i f hfi).trans (List.getElem?_eq_getElem (by omega))⟩)
          refine ⟨qs, ?_⟩
          rwa [List.drop_zero, List.take_of_length_le (by omega)] at h1
        · cases hL
    · rename_i m e ht
      cases hl : layOf P n e with
      | none => rw [hl] at hL; cases hL
      | some l =>
        rw [hl] at hL
        simp only [] at hL
        split at hL
        · rename_i hc
          obtain ⟨hc, hc2⟩ := hc
          cases hL
          obtain ⟨xs, m', rfl, _, hlen, hxl, hf⟩ := DataW.trod_array ht h
          rw [hc] at hf
          have key : ∀ k, k ≤ m → ∃ qs, Opens W (l.rep k) (cs.take (k * l.len)) qs := by
            intro k
            induction k with
            | zero => intro _; exact ⟨[], by simpa [Lay.rep] using Opens.nil W⟩
            | succ k ih =>
              intro hk
              obtain ⟨qs, h1⟩ := ih (by omega)
              have h2 := hf k (by omega)
              rw [List.getElem?_eq_getElem (by omega)] at h2
              obtain ⟨bs, h3⟩ := opens n e l _ m' _ hl h2
              refine ⟨qs ++ bs, ?_⟩
              rw [Nat.succ_mul, List.take_add]
              exact h1.app h3
          obtain ⟨qs, h1⟩ := key m (Nat.le_refl _)
          have hrl : ∀ k, (l.rep k).len = k * l.len := fun k => by
            induction k with
            | zero => simp [Lay.rep, Lay.len]
            | succ k ih => rw [Lay.rep, Lay.app_len, ih, Nat.succ_mul]
          refine ⟨qs, ?_⟩
          rwa [List.take_of_length_le (by rw [← hrl]; omega)] at h1
        · cases hL
    · cases hL

def argLay (P : Program) (t : TypeId) : Option (Bool × Lay) := match layOf P 20 t with
  | some L => if isAggB P t = true ∨ L.len = 1 then some (isAggB P t, L) else none
  | none => none

def ArgsOK : List (Bool × Lay) → List AV → Prop
  | [], qs => qs = []
  | (agg, L) :: ls, qs => ∃ a qs' es, qs = a :: qs' ∧ elemIs agg a es ∧ LayOK L es ∧ ArgsOK ls qs'

theorem open_arg {t : TypeId} {v : Value} {d : DataW H} {ps : List MemPlace} {base : Nat} {agg : Bool} {L : Lay} (hL : argLay P t = some (agg, L)) (hv : Value.okWide P W .any base t v)
    (h : DataW.Trod enc P W 0 (fun _ => true) true t v d ps) : ∃ a es, elemIs agg a es ∧ LayOK L es ∧ Reads (gh0 W) a v := by
  unfold argLay at hL
  cases hl : layOf P 20 t with
  | none => rw [hl] at hL; cases hL
  | some l =>
    rw [hl] at hL
    simp only [] at hL
    split at hL
    · rename_i hag
      simp only [Option.some.injEq, Prod.mk.injEq] at hL
      obtain ⟨rfl, rfl⟩ := hL
      obtain ⟨fuel, hf⟩ := h
      obtain ⟨qs, ho⟩ := opens 20 t l _ fuel _ hl hf
      cases hA : isAggB P t with
      | true =>
        have : ∃ cs, v = .agg cs := by
          unfold isAggB at hA
          unfold Value.okWide at hv
          split at hA
          · rename_i hu; rw [hu] at hv; obtain ⟨cs, e, _⟩ := hv; exact ⟨cs, e⟩
          · rename_i hu; rw [hu] at hv; obtain ⟨cs, e, _⟩ := hv; exact ⟨cs, e⟩
          · cases hA
        obtain ⟨cs, rfl⟩ := this
        have ho : Opens W l cs.toList qs := ho
        refine ⟨.agg qs, qs, rfl, ho.ok, .agg qs cs ?_ (fun i c hc => ?_) (fun i x c hx hc => ?_)⟩
        · have := ho.lc; rw [ho.la, ← this]; simp
        · exact ho.one c (by
            have : cs.toList[i]? = some c := by simpa using hc
            exact List.mem_of_getElem? this)
        · exact ho.reads i x c hx (by simpa using hc)
      | false =>
        have h1 : l.len = 1 := by rcases hag with h | h; · rw [hA] at h; cases h
                                  · exact h
        have hc : v.cells = #[v] := by
          cases v with
          | agg cs =>
            exfalso
            cases hu : P.underlying t with
            | none =>
              unfold layOf at hl
              rw [hu] at hl
              cases hl
            | some u =>
              unfold layOf at hl
              unfold isAggB at hA
              unfold Value.okWide at hv
              rw [hu] at hl hA hv
              cases u <;> simp_all [Cell.okWide, Cell.ok]
          | _ => rfl
        rw [hc] at ho
        have hla := ho.la
        rw [h1] at hla
        match qs, hla, ho with
        | [y], _, ho => exact ⟨y, [y], rfl, ho.ok, ho.reads 0 y v rfl rfl⟩
    · cases hL

theorem open_args : ∀ {ts : List TypeId} {lays : List (Bool × Lay)} {vs : List Value} {ds : List (DataW H)} {ps : List MemPlace} {base : Nat}, ts.map (argLay P) = lays.map some →
    (∀ (j : Nat) t v, ts[j]? = some t → vs[j]? = some v → Value.okWide P W .any base t v) → DataW.TrodAll enc P W 0 (fun _ => true) true ts vs ds ps →
    ∃ qs, ArgsOK lays qs ∧ qs.length = vs.length ∧ ds.length = ts.length ∧ ∀ (i : Nat) a v, qs[i]? = some a → vs[i]? = some v → Reads (gh0 W) a v
  | [], lays, vs, ds, ps, base, hl, hv, h => by
    obtain ⟨rfl, rfl, rfl⟩ := trodAll_nil h
    cases lays with
    | nil => exact ⟨[], rfl, rfl, rfl, fun i a v h => by simp at h⟩
    | cons => simp at hl
  | t :: ts, lays, vs, ds, ps, base, hl, hv, h => by
    obtain ⟨v, vs1, d, ds1, a, b, rfl, rfl, rfl, h1, h2⟩ := trodAll_cons h
    cases lays with
    | nil => simp at hl
    | cons p lays =>
      obtain ⟨agg, L⟩ := p
      simp only [List.map_cons, List.cons.injEq] at hl
      obtain ⟨x, es, k1, k2, k3⟩ := open_arg hl.1 (hv 0 t v rfl rfl) h1
      obtain ⟨qs, j1, j2, j3, j4⟩ := open_args hl.2 (fun j t v ht hvj => hv (j + 1) t v ht hvj) h2
      refine ⟨x :: qs, ⟨x, qs, es, rfl, k1, k2, j1⟩, by simp [j2], by simp [j3], fun i a v ha hv' => ?_⟩
      cases i with
      | zero => simp at ha hv'; subst ha hv'; exact k3
      | succ i => exact j4 i a v (by simpa using ha) (by simpa using hv')

theorem trodAll_stays (hl : laidOutB P = true) {W' : World} {sp : Nat → Bool} : ∀ {ts : List TypeId} {vs : List Value} {ds : List (DataW H)} {ps : List MemPlace}, (∀ t ∈ ts, P.readableRec t = true ∧ t < P.types.size) →
    DataW.TrodAll enc P W 0 (fun _ => true) true ts vs ds ps → (∀ p ∈ ps, W.sameAt W' p) → (∀ p ∈ ps, sp p.block = true) → DataW.TrodAll enc P W' 0 sp true ts vs ds ps
  | [], vs, ds, ps, _, h, _, _ => by
    obtain ⟨rfl, rfl, rfl⟩ := trodAll_nil h
    exact trodAll_mk0
  | t :: ts, vs, ds, ps, hts, h, h1, h2 => by
    obtain ⟨v, vs1, d, ds1, a, b, rfl, rfl, rfl, k1, k2⟩ := trodAll_cons h
    obtain ⟨r1, r2⟩ := hts t (by simp)
    exact trodAll_cons_mk (WideElems.Trod_stays hl r1 r2 k1 (fun p hp => h1 p (by simp [hp])) (fun p hp => h2 p (by simp [hp])))
      (trodAll_stays hl (fun t ht => hts t (by simp [ht])) k2 (fun p hp => h1 p (by simp [hp])) (fun p hp => h2 p (by simp [hp])))

/-- What a law's contract is worth. -/
theorem post_of_below {f : Func} {s : ChangeSpec} {apart fresh handsOn again : Bool} {W' : World} {args : Array Value} {v : Value} {ds gs : List (DataW H)} {before pa pv : List MemPlace}
    (hW : DataW.Whole enc P f.params.toList s.vars apart W args.toList ds gs before)
    (hres : ∀ (b : Nat) (sp : Nat → Bool) (hd : Bool), DataW.TrodAll enc P W' b sp hd f.resultTypes.toList (v.resultList f.resultTypes.size) (s.fn H (ds ++ gs)).results [])
    (hargs : ∀ sp : Nat → Bool, (∀ p ∈ before, sp p.block = true) → DataW.TrodAll enc P W' 0 sp true f.params.toList args.toList (s.fn H (ds ++ gs)).args pa)
    (hvars : ∀ sp : Nat → Bool, (∀ p ∈ before, sp p.block = true) → DataW.TrodVars enc P W' sp s.vars (s.fn H (ds ++ gs)).vars pv)
    (hps : before = pa ++ pv) (hb : Below W.heap.size W W')
    (hok : ∀ (j : Nat) (t : TypeId) (r : Value), f.resultTypes[j]? = some t → (v.resultList f.resultTypes.size)[j]? = some r → Value.okWide P W' .any 0 t r) :
    s.post enc P f apart fresh handsOn again W args v W' := by
  have hlt : ∀ p ∈ before, p.block < W.heap.size := fun p hp => hW.lt p hp
  have hold : ∀ p ∈ before, (fun b => decide (b < W.heap.size)) p.block = true := fun p hp => by simpa using hlt p hp
  refine ⟨ds, gs, before, [], pa, pv, hW, hres _ _ _, hargs _ hold, hvars _ hold, World.keptBut_mono (fun p hp => ⟨hp, ?_⟩) (hb.frame (· ∈ before)), fun _ => ?_⟩
  · rw [hps, List.mem_append] at hp
    exact Or.inr hp
  · obtain ⟨_, _, _, _, _, hz, hn⟩ := hW
    refine ⟨hok, _, _, ([] ++ pa) ++ pv, ⟨[] ++ pa, pv, trodAll_append (hargs _ (fun _ _ => rfl)) (hres _ _ _), hvars _ (fun _ _ => rfl), rfl, ?_, ?_⟩, ?_⟩
    · intro b off hp
      have hin : MemPlace.cell b off ∈ before := by rw [hps]; simpa using hp
      rw [hb.frozen (hlt _ hin)]
      exact hz b off hin
    · intro ha
      have := hn ha
      rw [hps] at this
      simpa using this
    · intro p hp _
      rw [hps]
      simpa using hp

def resBool (P : Program) (fn : Func) : Bool := match fn.resultTypes.toList with
  | [t] => (match P.underlying t with | some .bool => true | _ => false)
  | _ => false
theorem resBool_ex {fn : Func} (h : resBool P fn = true) : ∃ tb, fn.resultTypes = #[tb] ∧ P.underlying tb = some .bool := by
  unfold resBool at h
  split at h
  · rename_i t ht
    refine ⟨t, by rw [← Array.toList_inj, ht], ?_⟩
    split at h
    · assumption
    · cases h
  · cases h

theorem law_calls {f : FuncId} {fn : Func} {s : ChangeSpec} {apart fresh handsOn again : Bool} {lays : List (Bool × Lay)} (hl : laidOutB P = true) (hts : ∀ t ∈ fn.params.toList, P.readableRec t = true ∧ t < P.types.size)
    (hlay : fn.params.toList.map (argLay P) = lays.map some) (hres : resBool P fn = true) (hv0 : s.vars = [])
    (hs : ∀ ds : List (DataW H), ds.length = fn.params.size → s.fn H ds = { results := [.lit (.bool true)], args := ds })
    (hc : ∀ qs : List AV, ArgsOK lays qs → PureA P f qs (.val (.bool true)))
    (W : World) (base : Nat) (args : Array Value) (ds gs : List (DataW H)) (before : List MemPlace)
    (hval : ∀ (j : Nat) t v, fn.params[j]? = some t → args[j]? = some v → Value.okWide P W .any base t v)
    (hW : DataW.Whole enc P fn.params.toList s.vars apart W args.toList ds gs before) :
    Calls P f args W fun e W' => ∃ v, e = .returned v ∧ s.post enc P fn apart fresh handsOn again W args v W' := by
  obtain ⟨tb, hr, htb⟩ := resBool_ex hres
  have hW' := hW
  obtain ⟨p, q, hA, hV, hpq, hfz, hnd⟩ := hW
  rw [hv0] at hV
  obtain ⟨rfl, rfl⟩ := trodVars_none hV
  rw [List.append_nil] at hpq
  subst hpq
  obtain ⟨qs, h1, h2, h3, h4⟩ := open_args hlay (fun j t v ht hv => hval j t v (by simpa using ht) (by simpa using hv)) hA
  refine ((hc qs h1 (fun _ => none)).2 (gh0 W) W W args (inv0 W) (by simpa using h2.symm) (fun i x v hx hv => h4 i x v hx (by simpa using hv))).mono fun e W' ⟨v, he, g', r, O', _, hI, hR, hr', _⟩ => ?_
  subst hr'
  have hv : v = .bool true := hR.val_inv
  subst hv he
  have hb := hI.below
  have hds : ds.length = fn.params.size := by rw [h3]; simp
  refine ⟨_, rfl, post_of_below (pa := before) (pv := []) hW' (fun b sp hd => ?_) (fun sp hsp => ?_) (fun sp _ => ?_) (by simp) hb (ok_one hr rfl (okWide_bool_mk htb _))⟩
  · rw [List.append_nil, hs ds hds, hr]
    exact trodAll_cons_mk (p := []) (p' := []) (shut_bool htb true) trodAll_mk0
  · rw [List.append_nil, hs ds hds]
    exact trodAll_stays hl hts hA (fun x hx => hb.same (hW'.lt x hx)) hsp
  · rw [List.append_nil, hs ds hds, hv0]
    rfl

end

theorem map_of_all {α β : Type} {f : β → α} {Q : β → Prop} : ∀ {l : List α}, (∀ x ∈ l, ∃ y, x = f y ∧ Q y) → ∃ m : List β, l = m.map f ∧ ∀ y ∈ m, Q y
  | [], _ => ⟨[], rfl, fun y h => by simp at h⟩
  | x :: l, h => by
    obtain ⟨y, rfl, hy⟩ := h x (by simp)
    obtain ⟨m, rfl, hm⟩ := map_of_all (l := l) (fun x hx => h x (List.mem_cons_of_mem _ hx))
    exact ⟨y :: m, rfl, fun z hz => by
      rcases List.mem_cons.1 hz with rfl | hz
      · exact hy
      · exact hm z hz⟩

end Go.Ab

/- The abstract walk, twenty-third part: slices that grow, told of as lists. -/
namespace Go.Ab

/-- A slice that can be appended to: a list without spare room, or an array of one's own; and what else is in memory. -/
def OwA (E : TypeId) (sz : Nat) (O0 O' : Heap) (s : AV) (L : List AV) : Prop :=
  (s = .list sz true L ∧ O' = O0) ∨ ∃ id c elems, O0 id = none ∧ s = .own id sz 0 L.length c ∧ O' = O0.upd id (.arr E sz elems) ∧ elems.take L.length = L ∧ L.length ≤ elems.length

/-- A slice that grew. -/
def OwB (E : TypeId) (sz : Nat) (O0 O' : Heap) (s : AV) (L : List AV) : Prop :=
  (∃ t, s = .list sz t L ∧ O' = O0) ∨ ∃ id c elems, O0 id = none ∧ s = .own id sz 0 L.length c ∧ O' = O0.upd id (.arr E sz elems) ∧ elems.take L.length = L ∧ L.length ≤ elems.length

/-- A slice that has no spare room. -/
def OwT (E : TypeId) (sz : Nat) (O0 O' : Heap) (s : AV) (L : List AV) : Prop :=
  (s = .list sz true L ∧ O' = O0) ∨ ∃ id elems, O0 id = none ∧ s = .own id sz 0 L.length (some L.length) ∧ O' = O0.upd id (.arr E sz elems) ∧ elems.take L.length = L ∧ L.length ≤ elems.length

section
variable {P : Program} {E : TypeId} {sz bytes : Nat} {s x : AV} {L X : List AV} {O0 O O' : Heap} {K : AV → Heap → Prop}

theorem OwA.b (h : OwA E sz O0 O' s L) : OwB E sz O0 O' s L := h.imp (fun ⟨h1, h2⟩ => ⟨true, h1, h2⟩) id
theorem OwT.a (h : OwT E sz O0 O' s L) : OwA E sz O0 O' s L := h.imp id fun ⟨id, e, h1, h2, h3, h4, h5⟩ => ⟨id, _, e, h1, h2, h3, h4, h5⟩
theorem OwB.sub (h : OwB E sz O0 O' s L) : O0.sub O' := by
  rcases h with ⟨t, rfl, rfl⟩ | ⟨id, c, elems, h0, rfl, rfl, _, _⟩
  · exact Heap.sub_refl _
  · exact sub_upd h0 (Heap.sub_refl _)
theorem OwA.sub (h : OwA E sz O0 O' s L) : O0.sub O' := h.b.sub
theorem OwT.sub (h : OwT E sz O0 O' s L) : O0.sub O' := h.a.b.sub
theorem OwB.len (h : OwB E sz O0 O' s L) : lenA s = some (.val (.int .i64 L.length)) := by
  rcases h with ⟨t, rfl, rfl⟩ | ⟨id, c, elems, h0, rfl, rfl, _, _⟩ <;> rfl
theorem OwB.cells (h : OwB E sz O0 O' s L) : s.cells = [s] := by
  rcases h with ⟨t, rfl, rfl⟩ | ⟨id, c, elems, h0, rfl, rfl, _, _⟩ <;> rfl
theorem OwB.stor (h : OwB E sz O0 O' s L) : s.stor = true := by
  rcases h with ⟨t, rfl, rfl⟩ | ⟨id, c, elems, h0, rfl, rfl, _, _⟩ <;> rfl

theorem fits.le {n m b : Nat} (h : fits m b) (hn : n ≤ m) : fits n b := by
  unfold fits at h ⊢
  exact ⟨by omega, Nat.le_trans (Nat.mul_le_mul_right b hn) h.2⟩

/-- Appended to a list without spare room, into an array of one's own. -/
theorem app_own1 (hX : IsL sz x X) (hf : fits (L.length + X.length) bytes) (hk : ∀ s O', OwA E sz O O' s (L ++ X) → K s O') : AppendSem true E sz bytes (.list sz true L) x O K := by
  refine app_list_own (hX.el O) hf (fun h0 => hk _ _ (.inl ⟨by rw [h0, List.append_nil], rfl⟩)) (fun _ id hid => ?_)
  refine hk _ _ (.inr ⟨id, none, L ++ X, hid, ?_, rfl, List.take_of_length_le (Nat.le_refl _), Nat.le_refl _⟩)
  rw [List.length_append]
/-- .. and again. -/
theorem ow_app {ow : Bool} (hs : OwA E sz O0 O' s L) (hX : IsL sz x X) (hf : fits (L.length + X.length) bytes) (hk : ∀ s2 O2, OwB E sz O0 O2 s2 (L ++ X) → (ow = true → OwA E sz O0 O2 s2 (L ++ X)) → K s2 O2) : AppendSem ow E sz bytes s x O' K := by
  rcases hs with ⟨rfl, rfl⟩ | ⟨id, c, elems, h0, rfl, rfl, h1, h2⟩
  · cases ow with
    | true => exact app_own1 hX hf fun s2 O2 h => hk s2 O2 h.b fun _ => h
    | false => exact app_list (hX.el _) hf (hk _ _ (.inl ⟨false, rfl, rfl⟩) (fun h => by cases h))
  · refine app_move (hX.el _) (Heap.upd_same _ _ _) h2 hf fun id' hid' => ?_
    rw [upd_none] at hid'
    rw [del_upd_new h0]
    have : OwA E sz O0 (O0.upd id' (.arr E sz (elems.take L.length ++ X))) (.own id' sz 0 (L.length + X.length) none) (L ++ X) :=
      .inr ⟨id', none, elems.take L.length ++ X, hid'.2.2, by rw [List.length_append], rfl, by rw [h1]; exact List.take_of_length_le (Nat.le_refl _), by rw [h1]; exact Nat.le_refl _⟩
    exact hk _ _ this.b fun _ => this
theorem ow_appB (hs : OwA E sz O0 O' s L) (hX : IsL sz x X) (hf : fits (L.length + X.length) bytes) (hk : ∀ s2 O2, OwB E sz O0 O2 s2 (L ++ X) → K s2 O2) : AppendSem false E sz bytes s x O' K :=
  ow_app hs hX hf fun s2 O2 h _ => hk s2 O2 h

theorem OwB.fz (h : OwB E sz O0 O' s L) : (∃ t, s = .list sz t L ∧ O' = O0) ∨ ∃ id elems, O' id = some (.arr E sz elems) ∧ O'.del id = O0 ∧ Fz id sz elems s (.list sz false L) := by
  rcases h with h | ⟨id, c, elems, h0, rfl, rfl, h1, h2⟩
  · exact .inl h
  · refine .inr ⟨id, elems, Heap.upd_same _ _ _, del_upd_new h0, ?_⟩
    have := Fz.own (id := id) (sz := sz) (elems := elems) 0 L.length c false (by omega) (fun h => by cases h)
    rwa [List.drop_zero, h1] at this
theorem OwT.fz (h : OwT E sz O0 O' s L) : (s = .list sz true L ∧ O' = O0) ∨ ∃ id elems, O' id = some (.arr E sz elems) ∧ O'.del id = O0 ∧ Fz id sz elems s (.list sz true L) := by
  rcases h with h | ⟨id, elems, h0, rfl, rfl, h1, h2⟩
  · exact .inl h
  · refine .inr ⟨id, elems, Heap.upd_same _ _ _, del_upd_new h0, ?_⟩
    have := Fz.own (id := id) (sz := sz) (elems := elems) 0 L.length (some L.length) true (by omega) (fun _ => rfl)
    rwa [List.drop_zero, h1] at this

/-- Handed to a function that computes. -/
theorem ow_call {f : FuncId} {r : AV} (hs : OwB E sz O0 O' s L) (hc : ∀ s', IsL sz s' L → PureA P f [s'] r) (hk : K r O0) : CallA P f [s] O' K := by
  rcases hs.fz with ⟨t, rfl, rfl⟩ | ⟨id, elems, h1, h2, h3⟩
  · exact (hc _ .list).use hk
  · exact CallA.freeze1 id sz E elems h1 h3 (by rw [h2]; exact (hc _ .list).use hk)
/-- A slice in a variable is a list from here on. -/
theorem seqK_owB (d : Nat) {Lv : List Nat} {K : Kont} {F : Env → Heap → Prop} {e : Env} (hs : OwB E sz O0 O' (e d) L) (hk : ∀ s', IsL sz s' L → F (keepE Lv (e.upd d s')) O0) : seqK Lv K F .normal e O' := by
  rcases hs.fz with ⟨t, h1, rfl⟩ | ⟨id, elems, h1, h2, h3⟩
  · refine seqK_weak (WeakE.keep Lv ?_)
    have := hk (.list sz t L) .list
    rwa [← h1, show e.upd d (e d) = e from by funext t; rw [Env.upd_apply]; split <;> simp_all] at this
  · refine WeakE.freeze (e' := e.upd d (.list sz false L)) h1 (fun t' => ?_) (by rw [h2]; exact WeakE.keep Lv (hk _ .list))
    rw [Env.upd_apply]
    split
    · rename_i ht; rw [ht]; exact h3
    · exact .same _
end

theorem ixp_optr (len esz : Nat) (eagg : Bool) (i : Int) (id s j k : Nat) : indexPtrA len esz eagg i (.optr id s j k) = if 0 ≤ i ∧ i < len then some (.optr id s j (k + i.toNat * esz)) else none := rfl
/-- What holds between two commands. -/
theorem seq_post {P : Program} {L : List Nat} {a b : Cmd} {K : Kont} {e : Env} {O : Heap} (Q : Env → Heap → Prop) (h2 : ∀ e1 O1, Q e1 O1 → cmdW P b K e1 O1) (h1 : ∀ F : Env → Heap → Prop, (∀ e1 O1, Q e1 O1 → F e1 O1) → cmdW P a (seqK L K F) e O) : cmdW P (.seq L a b) K e O := h1 _ h2

end Go.Ab
namespace Go.Ab
section
variable {P : Program} {e : Env} {O : Heap} {K : AV → Heap → Prop}
theorem ci_appz (E : TypeId) (sz bytes : Nat) (zero : AV) (s n : Operand) : CiSem P (.appz E sz bytes zero s n) e O K = AppzSem E sz bytes zero (e.opd s) (e.opd n) O K := rfl
theorem ci_mkmap : CiSem P .mkmap e O K = ∀ id, O id = none → K (.mapr id) (O.upd id (.mp [])) := rfl
theorem ci_mapset (ks : List Bool) (agg : Bool) (x k v : Operand) : CiSem P (.mapset ks agg x k v) e O K = optH (mapsetA O ks agg (e.opd x) (e.opd k) (e.opd v)) (K .junk) := by
  show (∃ O', mapsetA O ks agg (e.opd x) (e.opd k) (e.opd v) = some O' ∧ K .junk O') = _
  generalize mapsetA O ks agg (e.opd x) (e.opd k) (e.opd v) = o
  cases o with
  | none => exact propext ⟨fun ⟨_, h, _⟩ => (by cases h), fun h => h.elim⟩
  | some O' => exact propext ⟨fun ⟨_, h, hk⟩ => by cases h; exact hk, fun h => ⟨O', rfl, h⟩⟩
theorem ci_lookup (ok agg : Bool) (ks : List Bool) (z : AV) (x k : Operand) : CiSem P (.lookup ok ks agg z x k) e O K = optK (lookupA O ok ks agg z (e.opd x) (e.opd k)) K O := optK_ex _ K O
theorem ci_maxl (m : Bool) (xs : List Operand) : CiSem P (.maxl m xs) e O K = optK (maxlA m (xs.map e.opd)) K O := optK_ex _ K O
theorem pi_lookup (ok agg : Bool) (ks : List Bool) (z : AV) (x k : Operand) : pureI (.lookup ok ks agg z x k) e O = lookupA O ok ks agg z (e.opd x) (e.opd k) := rfl
theorem pi_maxl (m : Bool) (xs : List Operand) : pureI (.maxl m xs) e O = maxlA m (xs.map e.opd) := rfl
end
theorem pu_lookup {x0 x1 x2 x3 x4 x5} : pureCI (.lookup x0 x1 x2 x3 x4 x5) = true := rfl
theorem pu_maxl {x0 x1} : pureCI (.maxl x0 x1) = true := rfl
theorem maxl_nil (m : Bool) (x : AV) : maxl2 m x [] = some x := rfl
theorem maxl_one (m : Bool) (x : AV) (l : List AV) : maxlA m (x :: l) = maxl2 m x l := rfl
theorem maxl_cons (m : Bool) (k k' : IntKind) (x y : Int) (l : List AV) : maxl2 m (.val (.int k x)) (.val (.int k' y) :: l) = maxl2 m (.val (.int k (if m then (if y > x then y else x) else (if y < x then y else x)))) l := rfl
theorem lookup_at {O : Heap} {id : Nat} {l : List (AV × AV)} {ks : List Bool} {agg : Bool} {k : AV} {r : Option (Nat × AV)} (ho : O id = some (.mp l)) (hok : keyOKA ks agg k = true) (hf : findA ks agg k l 0 = some r) (ok : Bool) (z : AV) : lookupA O ok ks agg z (.mapr id) k = some (found ok z r) := by
  simp only [lookupA, hok, if_true, ho, hf, Option.map_some]
theorem mapset_new {O : Heap} {id : Nat} {l : List (AV × AV)} {ks : List Bool} {agg : Bool} {k v : AV} (ho : O id = some (.mp l)) (hok : keyOKA ks agg k = true) (hf : findA ks agg k l 0 = some none) : mapsetA O ks agg (.mapr id) k v = some (O.upd id (.mp (l ++ [(k, v)]))) := by
  simp only [mapsetA, hok, if_true, ho, hf]
theorem cells_mapr (id : Nat) : AV.cells (.mapr id) = [.mapr id] := rfl
theorem stor_mapr (id : Nat) : AV.stor (.mapr id) = true := rfl

/-- A range over a function. -/
theorem cmd_range {P : Program} {g : Operand} {ps : List Nat} {asg body : Cmd} {K : Kont} {e : Env} {O : Heap} {f : FuncId} {fa fb : List AV} (hg : e.opd g = .clo (.func f) fa fb)
    (h : ∀ (id : Nat) (RR BB : AObj) (DD : Ex → AObj), O id = none → YieldOK P ps (cmdW P asg) (cmdW P body) e id RR BB DD → CallA P f (fa ++ [.yld id] ++ fb) (O.upd id RR) fun _ O' => rangeEnd id RR DD K e O') : cmdW P (.range g ps asg body) K e O :=
  ⟨f, fa, fb, hg, h⟩

section
variable {E : TypeId} {sz : Nat} {O0 O' : Heap} {s : AV} {L : List AV}
/-- Nil as long as nothing is in it; then an array of one's own. -/
def OwN (E : TypeId) (sz : Nat) (O0 O' : Heap) (s : AV) (L : List AV) : Prop := (s = .val (.slice none 0 0) ∧ L = [] ∧ O' = O0) ∨ (L ≠ [] ∧ ∃ id c elems, O0 id = none ∧ s = .own id sz 0 L.length c ∧ O' = O0.upd id (.arr E sz elems) ∧ elems.take L.length = L ∧ L.length ≤ elems.length)
theorem OwN.nil : OwN E sz O0 O0 (.val (.slice none 0 0)) [] := .inl ⟨rfl, rfl, rfl⟩
theorem OwN.cells (h : OwN E sz O0 O' s L) : s.cells = [s] := by
  rcases h with ⟨rfl, _, _⟩ | ⟨_, id, c, elems, _, rfl, _⟩ <;> rfl
theorem OwN.stor (h : OwN E sz O0 O' s L) : s.stor = true := by
  rcases h with ⟨rfl, _, _⟩ | ⟨_, id, c, elems, _, rfl, _⟩ <;> rfl
theorem OwN.len (h : OwN E sz O0 O' s L) : lenA s = some (.val (.int .i64 L.length)) := by
  rcases h with ⟨rfl, rfl, _⟩ | ⟨_, id, c, elems, _, rfl, _⟩ <;> rfl
theorem OwN.sub (h : OwN E sz O0 O' s L) : O0.sub O' := by
  rcases h with ⟨_, _, rfl⟩ | ⟨_, id, c, elems, h0, _, rfl, _⟩
  · exact Heap.sub_refl _
  · exact sub_upd h0 (Heap.sub_refl _)
theorem OwN.at_ (h : OwN E sz O0 O' s L) {q : Nat} {x : AObj} (hq : O0 q = some x) : O' q = some x := h.sub q x hq
/-- Appended. -/
theorem own_app {bytes : Nat} {x : AV} {X : List AV} {K : AV → Heap → Prop} (h : OwN E sz O0 O' s L) (hX : IsL sz x X) (hf : fits (L.length + X.length) bytes) (hk : ∀ s2 O2, OwN E sz O0 O2 s2 (L ++ X) → K s2 O2) : AppendSem true E sz bytes s x O' K := by
  rcases h with ⟨rfl, rfl, rfl⟩ | ⟨hne, id, c, elems, h0, rfl, rfl, h1, h2⟩
  · by_cases hx : X = []
    · subst hx
      exact ⟨[], hX.el _, by simpa using hf, fun _ => hk _ _ OwN.nil, fun h => absurd rfl h⟩
    · refine ⟨X, hX.el _, by simpa using hf, fun h => absurd h hx, fun _ => ?_⟩
      rw [if_pos rfl]
      intro id hid
      exact hk _ _ (.inr ⟨by simpa using hx, id, none, X, hid, by simp, rfl, by simp, by simp⟩)
  · refine app_move (hX.el _) (Heap.upd_same _ _ _) h2 hf fun id' hid' => ?_
    rw [upd_none] at hid'
    rw [del_upd_new h0]
    exact hk _ _ (.inr ⟨by simp [hne], id', none, elems.take L.length ++ X, hid'.2.2, by rw [List.length_append], rfl, by rw [h1]; exact List.take_of_length_le (Nat.le_refl _), by rw [h1]; exact Nat.le_refl _⟩)
/-- Other objects change. -/
theorem OwN.put (h : OwN E sz O0 O' s L) {q : Nat} {x : AObj} (hq : O0 q ≠ none) : OwN E sz (O0.upd q x) (O'.upd q x) s L := by
  rcases h with ⟨rfl, rfl, rfl⟩ | ⟨hne, id, c, elems, h0, rfl, rfl, h1, h2⟩
  · exact .inl ⟨rfl, rfl, rfl⟩
  · have hq' : ¬ id = q := fun e => hq (e ▸ h0)
    refine .inr ⟨hne, id, c, elems, by rw [Heap.upd_ne _ _ hq']; exact h0, rfl, ?_, h1, h2⟩
    funext j
    simp only [Heap.upd_apply]
    by_cases hj : j = q
    · subst hj; rw [if_pos rfl, if_neg (Ne.symm hq'), if_pos rfl]
    · rw [if_neg hj, if_neg hj]
theorem OwN.del (h : OwN E sz O0 O' s L) {q : Nat} (hq : O0 q ≠ none) : OwN E sz (O0.del q) (O'.del q) s L := by
  rcases h with ⟨rfl, rfl, rfl⟩ | ⟨hne, id, c, elems, h0, rfl, rfl, h1, h2⟩
  · exact .inl ⟨rfl, rfl, rfl⟩
  · have hq' : ¬ id = q := fun e => hq (e ▸ h0)
    refine .inr ⟨hne, id, c, elems, by rw [Heap.del_ne _ hq']; exact h0, rfl, ?_, h1, h2⟩
    exact del_ne hq'
/-- What it is at last. -/
def frA (sz : Nat) (L : List AV) : AV := if L = [] then .val (.slice none 0 0) else .list sz false L
theorem frA_L (sz : Nat) (L : List AV) : IsL sz (frA sz L) L := by
  unfold frA
  split
  · rename_i h; subst h; exact .nil
  · exact .list
theorem OwN.pure {R : AV} {O : Heap} (h : OwN E sz O0 O' s L) (hs : O.sub O0) (hr : frA sz L = R) : WeakR (fun r' O' => r' = R ∧ O' = O) s O' := by
  rcases h with ⟨rfl, rfl, rfl⟩ | ⟨hne, id, c, elems, h0, rfl, rfl, h1, h2⟩
  · exact WeakR.pure hs hr
  · have hz := Fz.own (id := id) (sz := sz) (elems := elems) 0 L.length c false (by omega) (fun h => by cases h)
    rw [List.drop_zero, h1] at hz
    refine WeakR.pureF id sz E elems (Heap.upd_same _ _ _) hz (by rw [del_upd_new h0]; exact hs) ?_
    rw [← hr, frA, if_neg hne]
end
theorem upd_some {O : Heap} {q j : Nat} {x : AObj} (h : O j ≠ none) : (O.upd q x) j ≠ none := by
  rw [Heap.upd_apply]; split
  · simp
  · exact h
theorem mm_max (k k' : IntKind) (x y : Int) : maxminA true (.val (.int k x)) (.val (.int k' y)) = some (.val (.int k (if x < y then y else x))) := rfl
theorem mm_min (k k' : IntKind) (x y : Int) : maxminA false (.val (.int k x)) (.val (.int k' y)) = some (.val (.int k (if y < x then y else x))) := rfl
theorem YieldA.mono {P : Program} {id : Nat} {args : List AV} {O : Heap} {K K' : AV → Heap → Prop} (h : YieldA P id args O K) (hk : ∀ r O, K r O → K' r O) : YieldA P id args O K' := fun g W0 w vs b r hI hm hs hv => by
  obtain ⟨f, tmps, asg, body, h1, h2⟩ := h g W0 w vs b r hI hm hs hv
  exact ⟨f, tmps, asg, body, h1, h2.mono fun en w' ⟨v, he, ho⟩ => ⟨v, he, ho.mono hk⟩⟩
theorem putAll_cons (e : Env) (p : Nat) (ps : List Nat) (x : AV) (xs : List AV) : putAll e (p :: ps) (x :: xs) = putAll (e.upd p x) ps xs := rfl
theorem putAll_nil (e : Env) (xs : List AV) : putAll e [] xs = e := rfl
theorem asgK_normal (id : Nat) (RR : AObj) (F : Env → Heap → Prop) (e : Env) (O : Heap) : asgK id RR F .normal e O = (O id = some RR ∧ F e O) := rfl
theorem roundK_normal (id : Nat) (RR BB : AObj) (DD : Ex → AObj) (Ky : AV → Heap → Prop) (e : Env) (O : Heap) : roundK id RR BB DD Ky .normal e O = (O id = some BB ∧ Ky (.val (.bool true)) (O.upd id RR)) := rfl
theorem roundK_ret (id : Nat) (RR BB : AObj) (DD : Ex → AObj) (Ky : AV → Heap → Prop) (e : Env) (O : Heap) : roundK id RR BB DD Ky .ret e O = (O id = some BB ∧ Ky (.val (.bool false)) (O.upd id (DD .ret))) := rfl
theorem roundK_exit (id : Nat) (RR BB : AObj) (DD : Ex → AObj) (Ky : AV → Heap → Prop) (n : Nat) (e : Env) (O : Heap) : roundK id RR BB DD Ky (.exit n) e O = (O id = some BB ∧ Ky (.val (.bool false)) (O.upd id (DD (.exit n)))) := rfl

/-- What every walk rewrites with, in one. -/
theorem fww : type_of% @cmd_seq ∧ type_of% @opsW_gpure ∧ type_of% @drawW_pure ∧ type_of% @drawW_gpure ∧ type_of% @Env.upd_apply ∧ type_of% @Heap.upd_same ∧ type_of% @Heap.upd_apply ∧ type_of% @ite_none ∧ type_of% @List.getD_cons_zero.{0} ∧ type_of% @List.getD_cons_succ.{0} ∧ type_of% @List.getD_nil.{0} ∧ type_of% @List.length_cons.{0} ∧ type_of% @List.length_nil.{0} ∧ type_of% @List.map_cons.{0, 0} ∧ type_of% @List.map_nil.{0, 0} ∧ type_of% @List.getElem?_cons_zero.{0} ∧ type_of% @List.getElem?_cons_succ.{0} ∧ type_of% @List.getElem?_nil.{0} ∧ type_of% @List.set_cons_zero.{0} ∧ type_of% @List.set_cons_succ.{0} ∧ type_of% @List.take_succ_cons.{0} ∧ type_of% @List.take_zero.{0} ∧ type_of% @List.drop_succ_cons.{0} ∧ type_of% @List.drop_zero.{0} ∧ type_of% @List.nil_append.{0} ∧ type_of% @List.cons_append.{0} ∧ type_of% @List.append_nil.{0} ∧ type_of% @Option.map_some.{0, 0} ∧ type_of% @Option.map_none.{0, 0} ∧ type_of% @Option.bind_some.{0, 0} ∧ type_of% @Option.bind_none.{0, 0} ∧ type_of% @decide_true ∧ type_of% @decide_false ∧ type_of% @Bool.true_and ∧ type_of% @Bool.and_true ∧ type_of% @Bool.false_and ∧ type_of% @Bool.and_false ∧ type_of% @true_and ∧ type_of% @and_true ∧ type_of% @and_self ∧ type_of% @Nat.zero_add ∧ type_of% @Nat.add_zero ∧ type_of% @Nat.le_refl ∧ type_of% @Nat.zero_le ∧ type_of% @ge_iff_le.{0} ∧ type_of% @Nat.zero_lt_succ ∧ type_of% @if_true.{0} ∧ type_of% @if_false.{0} ∧ type_of% @forall_const.{0} ∧ type_of% @Bool.not_true ∧ type_of% @Bool.not_false ∧ type_of% @Bool.false_eq_true ∧ type_of% @gW_un ∧ type_of% @gcF_un ∧ type_of% @gcA_un ∧ type_of% @ci_mkmap ∧ type_of% @ci_mapset ∧ type_of% @ci_lookup ∧ type_of% @ci_maxl ∧ type_of% @ci_appz ∧ type_of% @pi_lookup ∧ type_of% @pi_maxl ∧ type_of% @pu_lookup ∧ type_of% @pu_maxl ∧ type_of% @maxl_nil ∧ type_of% @maxl_one ∧ type_of% @maxl_cons ∧ type_of% @cells_mapr ∧ type_of% @stor_mapr ∧ type_of% @callv_yld ∧ type_of% @mm_max ∧ type_of% @mm_min ∧ type_of% @putAll_cons ∧ type_of% @putAll_nil ∧ type_of% @asgK_normal ∧ type_of% @roundK_normal ∧ type_of% @roundK_ret ∧ type_of% @roundK_exit :=
  ⟨@cmd_seq, @opsW_gpure, @drawW_pure, @drawW_gpure, @Env.upd_apply, @Heap.upd_same, @Heap.upd_apply, @ite_none, @List.getD_cons_zero.{0}, @List.getD_cons_succ.{0}, @List.getD_nil.{0}, @List.length_cons.{0}, @List.length_nil.{0}, @List.map_cons.{0, 0}, @List.map_nil.{0, 0}, @List.getElem?_cons_zero.{0}, @List.getElem?_cons_succ.{0}, @List.getElem?_nil.{0}, @List.set_cons_zero.{0}, @List.set_cons_succ.{0}, @List.take_succ_cons.{0}, @List.take_zero.{0}, @List.drop_succ_cons.{0}, @List.drop_zero.{0}, @List.nil_append.{0}, @List.cons_append.{0}, @List.append_nil.{0}, @Option.map_some.{0, 0}, @Option.map_none.{0, 0}, @Option.bind_some.{0, 0}, @Option.bind_none.{0, 0}, @decide_true, @decide_false, @Bool.true_and, @Bool.and_true, @Bool.false_and, @Bool.and_false, @true_and, @and_true, @and_self, @Nat.zero_add, @Nat.add_zero, @Nat.le_refl, @Nat.zero_le, @ge_iff_le.{0}, @Nat.zero_lt_succ, @if_true.{0}, @if_false.{0}, @forall_const.{0}, @Bool.not_true, @Bool.not_false, @Bool.false_eq_true, @gW_un, @gcF_un, @gcA_un, @ci_mkmap, @ci_mapset, @ci_lookup, @ci_maxl, @ci_appz, @pi_lookup, @pi_maxl, @pu_lookup, @pu_maxl, @maxl_nil, @maxl_one, @maxl_cons, @cells_mapr, @stor_mapr, @callv_yld, @mm_max, @mm_min, @putAll_cons, @putAll_nil, @asgK_normal, @roundK_normal, @roundK_ret, @roundK_exit⟩
end Go.Ab

/- The abstract walk: names of objects may be exchanged: what instructions compute stays the same. -/
namespace Go.Ab

abbrev Ren := Nat → Option Nat
def Ren.le (ρ σ : Ren) : Prop := ∀ k k', ρ k = some k' → σ k = some k'

/-- The same value, by other names. -/
inductive Rn (ρ : Ren) : AV → AV → Prop
  | junk : Rn ρ .junk .junk
  | val (v : Value) : Rn ρ (.val v) (.val v)
  | agg (l m : List AV) (hl : l.length = m.length) (h : ∀ (i : Nat) x y, l[i]? = some x → m[i]? = some y → Rn ρ x y) : Rn ρ (.agg l) (.agg m)
  | list (sz : Nat) (t : Bool) (l m : List AV) (hl : l.length = m.length) (h : ∀ (i : Nat) x y, l[i]? = some x → m[i]? = some y → Rn ρ x y) : Rn ρ (.list sz t l) (.list sz t m)
  | ref (x y : AV) (h : Rn ρ x y) : Rn ρ (.ref x) (.ref y)
  | own (a b sz i n : Nat) (c : Option Nat) (h : ρ a = some b) : Rn ρ (.own a sz i n c) (.own b sz i n c)
  | optr (a b sz i k : Nat) (h : ρ a = some b) : Rn ρ (.optr a sz i k) (.optr b sz i k)
  | mapr (a b : Nat) (h : ρ a = some b) : Rn ρ (.mapr a) (.mapr b)
  | itr (a b : Nat) (h : ρ a = some b) : Rn ρ (.itr a) (.itr b)
  | yld (a b : Nat) (h : ρ a = some b) : Rn ρ (.yld a) (.yld b)
  | clo (f : Fn) (l m l' m' : List AV) (hl : l.length = l'.length) (hm : m.length = m'.length) (h : ∀ (i : Nat) x y, l[i]? = some x → l'[i]? = some y → Rn ρ x y)
      (h' : ∀ (i : Nat) x y, m[i]? = some x → m'[i]? = some y → Rn ρ x y) : Rn ρ (.clo f l m) (.clo f l' m')
  | tup (l m : List AV) (hl : l.length = m.length) (h : ∀ (i : Nat) x y, l[i]? = some x → m[i]? = some y → Rn ρ x y) : Rn ρ (.tup l) (.tup m)
  | pend (E sz : Nat) (l m : List AV) (c : Option Nat) (hl : l.length = m.length) (h : ∀ (i : Nat) x y, l[i]? = some x → m[i]? = some y → Rn ρ x y) : Rn ρ (.pend E sz l c) (.pend E sz m c)

theorem Rn.mono {ρ σ : Ren} (hle : ρ.le σ) {x y : AV} (h : Rn ρ x y) : Rn σ x y := by
  induction h with
  | junk => exact .junk
  | val v => exact .val v
  | agg l m hl _ ih => exact .agg l m hl ih
  | list sz t l m hl _ ih => exact .list sz t l m hl ih
  | ref x y _ ih => exact .ref x y ih
  | own a b sz i n c h => exact .own a b sz i n c (hle _ _ h)
  | optr a b sz i k h => exact .optr a b sz i k (hle _ _ h)
  | mapr a b h => exact .mapr a b (hle _ _ h)
  | itr a b h => exact .itr a b (hle _ _ h)
  | yld a b h => exact .yld a b (hle _ _ h)
  | clo f l m l' m' hl hm _ _ ih ih' => exact .clo f l m l' m' hl hm ih ih'
  | tup l m hl _ ih => exact .tup l m hl ih
  | pend E sz l m c hl _ ih => exact .pend E sz l m c hl ih

theorem Rn.fn {ρ : Ren} {x y z : AV} (h : Rn ρ x y) : Rn ρ x z → y = z := by
  have L : ∀ (l m m' : List AV), l.length = m.length → l.length = m'.length → (∀ (i : Nat) x y, l[i]? = some x → m[i]? = some y → ∀ z, Rn ρ x z → y = z) → (∀ (i : Nat) x y, l[i]? = some x → m'[i]? = some y → Rn ρ x y) → m = m' := fun l m m' h1 h2 h3 h4 => by
    refine List.ext_getElem (by omega) fun i k1 k2 => ?_
    have k0 : i < l.length := by omega
    exact h3 i _ _ (List.getElem?_eq_getElem k0) (List.getElem?_eq_getElem k1) _ (h4 i _ _ (List.getElem?_eq_getElem k0) (List.getElem?_eq_getElem k2))
  induction h generalizing z with
  | junk => intro k; cases k; rfl
  | val v => intro k; cases k; rfl
  | agg l m hl _ ih => intro k; cases k with | agg _ m' hl' h' => rw [L l m m' hl hl' (fun i x y a b z => ih i x y a b) h']
  | list sz t l m hl _ ih => intro k; cases k with | list _ _ _ m' hl' h' => rw [L l m m' hl hl' (fun i x y a b z => ih i x y a b) h']
  | ref x y _ ih => intro k; cases k with | ref _ y' h' => rw [ih h']
  | own a b sz i n c h => intro k; cases k with | own _ b' _ _ _ _ h' => rw [h] at h'; cases h'; rfl
  | optr a b sz i k h => intro k; cases k with | optr _ b' _ _ _ h' => rw [h] at h'; cases h'; rfl
  | mapr a b h => intro k; cases k with | mapr _ b' h' => rw [h] at h'; cases h'; rfl
  | itr a b h => intro k; cases k with | itr _ b' h' => rw [h] at h'; cases h'; rfl
  | yld a b h => intro k; cases k with | yld _ b' h' => rw [h] at h'; cases h'; rfl
  | clo f l m l' m' hl hm _ _ ih ih' => intro k; cases k with | clo _ _ _ l2 m2 hl2 hm2 h2 h2' => rw [L l l' l2 hl hl2 (fun i x y a b z => ih i x y a b) h2, L m m' m2 hm hm2 (fun i x y a b z => ih' i x y a b) h2']
  | tup l m hl _ ih => intro k; cases k with | tup _ m' hl' h' => rw [L l m m' hl hl' (fun i x y a b z => ih i x y a b) h']
  | pend E sz l m c hl _ ih => intro k; cases k with | pend _ _ _ m' _ hl' h' => rw [L l m m' hl hl' (fun i x y a b z => ih i x y a b) h']

/-- Lists of such values. -/
def RL (ρ : Ren) (l m : List AV) : Prop := l.length = m.length ∧ ∀ (i : Nat) x y, l[i]? = some x → m[i]? = some y → Rn ρ x y

section
variable {ρ σ : Ren} {l m l' m' : List AV} {x y : AV}
theorem RL.mono (hle : ρ.le σ) (h : RL ρ l m) : RL σ l m := ⟨h.1, fun i x y a b => (h.2 i x y a b).mono hle⟩
theorem RL.nil : RL ρ [] [] := ⟨rfl, fun i x y a => by simp at a⟩
theorem RL.cons (hx : Rn ρ x y) (h : RL ρ l m) : RL ρ (x :: l) (y :: m) := ⟨by simp [h.1], fun i a b ha hb => by
  cases i with
  | zero => simp at ha hb; subst ha hb; exact hx
  | succ i => exact h.2 i a b (by simpa using ha) (by simpa using hb)⟩
theorem RL.get (h : RL ρ l m) {i : Nat} (hx : l[i]? = some x) : ∃ y, m[i]? = some y ∧ Rn ρ x y := by
  have hi := (List.getElem?_eq_some_iff.1 hx).1
  exact ⟨_, List.getElem?_eq_getElem (by rw [← h.1]; exact hi), h.2 i _ _ hx (List.getElem?_eq_getElem _)⟩
theorem RL.take (h : RL ρ l m) (n : Nat) : RL ρ (l.take n) (m.take n) := ⟨by simp [h.1], fun i a b ha hb => by
  rw [List.getElem?_take] at ha hb
  split at ha
  · rename_i hi; rw [if_pos hi] at hb; exact h.2 i a b ha hb
  · cases ha⟩
theorem RL.drop (h : RL ρ l m) (n : Nat) : RL ρ (l.drop n) (m.drop n) := ⟨by simp [h.1], fun i a b ha hb => by
  rw [List.getElem?_drop] at ha hb
  exact h.2 _ a b ha hb⟩
theorem RL.append (h : RL ρ l m) (k : RL ρ l' m') : RL ρ (l ++ l') (m ++ m') := ⟨by simp [h.1, k.1], fun i a b ha hb => by
  by_cases hi : i < l.length
  · rw [List.getElem?_append_left hi] at ha
    rw [List.getElem?_append_left (by rw [← h.1]; exact hi)] at hb
    exact h.2 i a b ha hb
  · rw [List.getElem?_append_right (by omega)] at ha
    rw [List.getElem?_append_right (by rw [← h.1]; omega), ← h.1] at hb
    exact k.2 _ a b ha hb⟩
theorem RL.set (h : RL ρ l m) (hx : Rn ρ x y) (n : Nat) : RL ρ (l.set n x) (m.set n y) := ⟨by simp [h.1], fun i a b ha hb => by
  rw [List.getElem?_set] at ha hb
  by_cases hi : n = i
  · rw [if_pos hi] at ha hb
    split at ha
    · rw [if_pos (by rw [← h.1]; assumption)] at hb
      cases ha; cases hb; exact hx
    · cases ha
  · rw [if_neg hi] at ha hb
    exact h.2 i a b ha hb⟩
theorem RL.rep (hx : Rn ρ x y) : ∀ n, RL ρ (List.replicate n x) (List.replicate n y)
  | 0 => .nil
  | n + 1 => RL.cons hx (RL.rep hx n)
theorem RL.one (hx : Rn ρ x y) : RL ρ [x] [y] := RL.cons hx .nil
theorem RL.map {α : Type} {f g : α → AV} (L : List α) (h : ∀ a ∈ L, Rn ρ (f a) (g a)) : RL ρ (L.map f) (L.map g) := by
  induction L with
  | nil => exact .nil
  | cons a L ih => exact RL.cons (h a (by simp)) (ih fun b hb => h b (by simp [hb]))
theorem RL.inv_nil (h : RL ρ [] m) : m = [] := List.eq_nil_of_length_eq_zero h.1.symm
theorem RL.inv_cons (h : RL ρ (x :: l) m) : ∃ y m', m = y :: m' ∧ Rn ρ x y ∧ RL ρ l m' := by
  cases m with
  | nil => cases h.1
  | cons y m' => exact ⟨y, m', rfl, h.2 0 x y rfl rfl, by have := h.1; simpa using this, fun i a b ha hb => h.2 (i + 1) a b (by simpa using ha) (by simpa using hb)⟩
theorem Rn.agg' (h : RL ρ l m) : Rn ρ (.agg l) (.agg m) := .agg l m h.1 h.2
theorem Rn.tup' (h : RL ρ l m) : Rn ρ (.tup l) (.tup m) := .tup l m h.1 h.2
theorem Rn.list' {sz : Nat} {t : Bool} (h : RL ρ l m) : Rn ρ (.list sz t l) (.list sz t m) := .list sz t l m h.1 h.2
theorem Rn.clo' {f : Fn} (h : RL ρ l l') (k : RL ρ m m') : Rn ρ (.clo f l m) (.clo f l' m') := .clo f l m l' m' h.1 k.1 h.2 k.2
theorem Rn.cells (h : Rn ρ x y) : RL ρ x.cells y.cells := by
  cases h with
  | agg l m hl h => exact ⟨hl, h⟩
  | junk => exact RL.one .junk
  | val v => exact RL.one (.val v)
  | list sz t l m hl h => exact RL.one (.list sz t l m hl h)
  | ref x y h => exact RL.one (.ref x y h)
  | own a b sz i n c h => exact RL.one (.own a b sz i n c h)
  | optr a b sz i k h => exact RL.one (.optr a b sz i k h)
  | mapr a b h => exact RL.one (.mapr a b h)
  | itr a b h => exact RL.one (.itr a b h)
  | yld a b h => exact RL.one (.yld a b h)
  | clo f l m l' m' hl hm h h' => exact RL.one (.clo f l m l' m' hl hm h h')
  | tup l m hl h => exact RL.one (.tup l m hl h)
  | pend E sz l m c hl h => exact RL.one (.pend E sz l m c hl h)
theorem Rn.stor (h : Rn ρ x y) : y.stor = x.stor := by cases h <;> rfl
theorem Rn.isAgg (h : Rn ρ x y) : isAggA y = isAggA x := by cases h <;> rfl

theorem subA_rn {off n : Nat} {agg : Bool} {r : AV} (h : RL ρ l m) (hr : subA l off n agg = some r) : ∃ r', subA m off n agg = some r' ∧ Rn ρ r r' := by
  unfold subA at hr ⊢
  split at hr
  · rename_i ha
    rw [if_pos ha]
    split at hr
    · rename_i hle
      cases hr
      rw [if_pos (by rw [← h.1]; exact hle)]
      exact ⟨_, rfl, .agg' ((h.drop off).take n)⟩
    · cases hr
  · rename_i ha
    rw [if_neg ha]
    split at hr
    · rename_i hn
      rw [if_pos hn]
      exact h.get hr
    · cases hr
theorem partA_rn {off n : Nat} {agg : Bool} {r : AV} (h : Rn ρ x y) (hr : partA x off n agg = some r) : ∃ r', partA y off n agg = some r' ∧ Rn ρ r r' := by
  unfold partA at hr ⊢
  have hc := h.cells
  split at hr
  · rename_i hcond
    cases hr
    rw [if_pos ⟨hcond.1, hcond.2.1, by rw [h.isAgg]; exact hcond.2.2.1, by rw [← hc.1]; exact hcond.2.2.2⟩]
    exact ⟨_, rfl, h⟩
  · rename_i hcond
    rw [if_neg (fun k => hcond ⟨k.1, k.2.1, by rw [← h.isAgg]; exact k.2.2.1, by rw [hc.1]; exact k.2.2.2⟩)]
    exact subA_rn hc hr
theorem spliceA_rn {k : Nat} (h : RL ρ l m) (h' : RL ρ l' m') : RL ρ (spliceA l k l') (spliceA m k m') := by
  unfold spliceA
  rw [← h'.1]
  exact ((h.take k).append h').append (h.drop _)
theorem fillA_rn {e e' : Operand → AV} (he : ∀ a, Rn ρ (e a) (e' a)) : ∀ (ps : List (Nat × Nat × Operand)) (l m r : List AV), RL ρ l m → fillA l (ps.map fun p => (p.1, p.2.1, e p.2.2)) = some r → ∃ r', fillA m (ps.map fun p => (p.1, p.2.1, e' p.2.2)) = some r' ∧ RL ρ r r'
  | [], l, m, r, h, hr => by cases hr; exact ⟨m, rfl, h⟩
  | (off, n, a) :: ps, l, m, r, h, hr => by
    simp only [List.map_cons, fillA] at hr ⊢
    have hc := (he a).cells
    split at hr
    · rename_i hcond
      rw [if_pos ⟨by rw [← hc.1]; exact hcond.1, by rw [(he a).stor]; exact hcond.2.1, by rw [← h.1]; exact hcond.2.2⟩]
      exact fillA_rn he ps _ _ r (spliceA_rn h hc) hr
    · cases hr
theorem storAll_rn {sz : Nat} : ∀ (l m : List AV), RL ρ l m → storAll sz m = storAll sz l
  | [], m, h => by rw [h.inv_nil]
  | x :: l, m, h => by
    obtain ⟨y, m', rfl, h1, h2⟩ := h.inv_cons
    simp only [storAll]
    rw [storAll_rn l m' h2, h1.stor, h1.cells.1]

/-- Objects by other names. -/
inductive RO (ρ : Ren) : AObj → AObj → Prop
  | arr (E sz : Nat) (l m : List AV) (h : RL ρ l m) : RO ρ (.arr E sz l) (.arr E sz m)
  | mp (l m : List (AV × AV)) (hl : l.length = m.length) (h : ∀ (i : Nat) p q, l[i]? = some p → m[i]? = some q → Rn ρ p.1 q.1 ∧ Rn ρ p.2 q.2) : RO ρ (.mp l) (.mp m)
theorem RO.mono (hle : ρ.le σ) {o o' : AObj} (h : RO ρ o o') : RO σ o o' := by
  cases h with
  | arr E sz l m h => exact .arr E sz l m (h.mono hle)
  | mp l m hl h => exact .mp l m hl fun i p q a b => ⟨(h i p q a b).1.mono hle, (h i p q a b).2.mono hle⟩

/-- Memory by other names. -/
def RH (ρ : Ren) (H O : Heap) : Prop := ∀ k o, H k = some o → ∃ k' o', ρ k = some k' ∧ O k' = some o' ∧ RO ρ o o'

variable {H O : Heap} {r : AV}
theorem RH.arr (hH : RH ρ H O) {a b E sz : Nat} {elems : List AV} (h : H a = some (.arr E sz elems)) (hb : ρ a = some b) : ∃ m, O b = some (.arr E sz m) ∧ RL ρ elems m := by
  obtain ⟨k', o', h1, h2, h3⟩ := hH _ _ h
  rw [hb] at h1
  cases h1
  cases h3 with
  | arr _ _ _ m h => exact ⟨m, h2, h⟩
theorem RH.mp (hH : RH ρ H O) {a b : Nat} {l : List (AV × AV)} (h : H a = some (.mp l)) (hb : ρ a = some b) : ∃ m, O b = some (.mp m) ∧ l.length = m.length ∧ ∀ (i : Nat) p q, l[i]? = some p → m[i]? = some q → Rn ρ p.1 q.1 ∧ Rn ρ p.2 q.2 := by
  obtain ⟨k', o', h1, h2, h3⟩ := hH _ _ h
  rw [hb] at h1
  cases h1
  cases h3 with
  | mp _ m hl h => exact ⟨m, h2, hl, h⟩

theorem loadA_rn (hH : RH ρ H O) {agg : Bool} {sz : Nat} (h : Rn ρ x y) (hr : loadA H agg sz x = some r) : ∃ r', loadA O agg sz y = some r' ∧ Rn ρ r r' := by
  cases h with
  | ref a b h => exact partA_rn h hr
  | optr a b s i k h =>
    simp only [loadA] at hr ⊢
    split at hr
    · rename_i E s' elems ho
      obtain ⟨m, hm, hl⟩ := hH.arr ho h
      rw [hm]
      simp only []
      split at hr
      · rename_i hc
        rw [if_pos hc]
        split at hr
        · rename_i x0 hx0
          obtain ⟨y0, hy0, hxy⟩ := hl.get hx0
          rw [hy0]
          exact partA_rn hxy hr
        · cases hr
      · cases hr
    · cases hr
  | _ => cases hr
theorem val_rn {v : Value} (h : Rn ρ (.val v) y) : y = .val v := by cases h; rfl
theorem binA_rn {op : BinOp} {x' y' : AV} (h : Rn ρ x x') (k : Rn ρ y y') (hr : binA op x y = some r) : binA op x' y' = some r ∧ Rn ρ r r := by
  have hv : ∃ v, r = .val v := by
    unfold binA at hr
    split at hr
    · split at hr
      · unfold shiftA at hr; split at hr
        · cases hr
        · simp at hr; exact ⟨_, hr.symm⟩
      · unfold shiftA at hr; split at hr
        · cases hr
        · simp at hr; exact ⟨_, hr.symm⟩
      · split at hr
        · unfold intA bitsA at hr
          split at hr
          all_goals first
            | (cases hr; exact ⟨_, rfl⟩)
            | (cases hr; done)
            | (split at hr
               · cases hr
               · cases hr; exact ⟨_, rfl⟩)
        · cases hr
    · cases hr
  obtain ⟨v, rfl⟩ := hv
  refine ⟨?_, .val v⟩
  unfold binA at hr
  split at hr
  · rw [val_rn h, val_rn k]; exact hr
  · cases hr
theorem pickA_rn {c a b c' a' b' : AV} (h : Rn ρ c c') (ha : Rn ρ a a') (hb : Rn ρ b b') (hr : pickA c a b = some r) : ∃ r', pickA c' a' b' = some r' ∧ Rn ρ r r' := by
  unfold pickA at hr
  split at hr
  · rename_i t
    cases hr
    rw [val_rn h]
    refine ⟨_, rfl, ?_⟩
    cases t <;> simp [*]
  · cases hr
theorem leafEq_rn {k : Bool} {x' y' : AV} {b : Bool} (h : Rn ρ x x') (h' : Rn ρ y y') (hr : leafEq k x y = some b) : leafEq k x' y' = some b := by
  cases k
  · have hr : boolEqA x y = some b := hr
    unfold boolEqA at hr
    split at hr
    · rw [val_rn h, val_rn h']; exact hr
    · cases hr
  · have hr : intEqA x y = some b := hr
    unfold intEqA at hr
    split at hr
    · rw [val_rn h, val_rn h']; exact hr
    · cases hr
theorem leavesEq_rn : ∀ (ks : List Bool) (l m l' m' : List AV) (b : Bool), RL ρ l l' → RL ρ m m' → leavesEq ks l m = some b → leavesEq ks l' m' = some b
  | [], [], [], l', m', b, h, h', hr => by rw [h.inv_nil, h'.inv_nil]; exact hr
  | k :: ks, x :: l, y :: m, l', m', b, h, h', hr => by
    obtain ⟨x', l2, rfl, h1, h2⟩ := h.inv_cons
    obtain ⟨y', m2, rfl, h3, h4⟩ := h'.inv_cons
    unfold leavesEq at hr ⊢
    split at hr
    · rename_i a c ha hc
      rw [leafEq_rn h1 h3 ha, leavesEq_rn ks l m l2 m2 c h2 h4 hc]
      exact hr
    · cases hr
  | [], _ :: _, _, _, _, _, _, _, hr => by cases hr
  | [], [], _ :: _, _, _, _, _, _, hr => by cases hr
  | _ :: _, [], _, _, _, _, _, _, hr => by cases hr
  | _ :: _, _ :: _, [], _, _, _, _, _, hr => by cases hr
theorem keyEq_rn {ks : List Bool} {agg : Bool} {x' y' : AV} {b : Bool} (h : Rn ρ x x') (h' : Rn ρ y y') (hr : keyEqA ks agg x y = some b) : keyEqA ks agg x' y' = some b := by
  unfold keyEqA at hr ⊢
  cases agg
  · simp only [] at hr ⊢
    split at hr
    · exact leafEq_rn h h' hr
    · cases hr
  · simp only [] at hr ⊢
    split at hr
    · cases h with
      | agg _ l' h1 h2 => cases h' with
        | agg _ m' h3 h4 => exact leavesEq_rn ks _ _ _ _ b ⟨h1, h2⟩ ⟨h3, h4⟩ hr
    · cases hr
/-- What is found, by other names. -/
inductive RF (ρ : Ren) : Option (Nat × AV) → Option (Nat × AV) → Prop
  | none : RF ρ none none
  | some (i : Nat) (x y : AV) (h : Rn ρ x y) : RF ρ (some (i, x)) (some (i, y))
theorem findA_rn {ks : List Bool} {agg : Bool} {k k' : AV} (hk : Rn ρ k k') : ∀ (l m : List (AV × AV)) (i : Nat) (r : Option (Nat × AV)), l.length = m.length → (∀ (i : Nat) p q, l[i]? = some p → m[i]? = some q → Rn ρ p.1 q.1 ∧ Rn ρ p.2 q.2) → findA ks agg k l i = some r →
    ∃ r', findA ks agg k' m i = some r' ∧ RF ρ r r'
  | [], m, i, r, hl, h, hr => by
    cases m with
    | nil => cases hr; exact ⟨_, rfl, .none⟩
    | cons => cases hl
  | p :: l, [], i, r, hl, h, hr => by cases hl
  | p :: l, q :: m, i, r, hl, h, hr => by
    obtain ⟨h1, h2⟩ := h 0 p q rfl rfl
    simp only [findA] at hr ⊢
    split at hr
    · rename_i he
      cases hr
      rw [keyEq_rn hk h1 he]
      exact ⟨_, rfl, .some i _ _ h2⟩
    · rename_i he
      rw [keyEq_rn hk h1 he]
      exact findA_rn hk l m (i + 1) r (by simpa using hl) (fun j a b ha hb => h (j + 1) a b (by simpa using ha) (by simpa using hb)) hr
    · cases hr
theorem keyOK_rn {ks : List Bool} {agg : Bool} {k k' : AV} (hk : Rn ρ k k') (h : keyOKA ks agg k = true) : keyOKA ks agg k' = true := by
  unfold keyOKA at h ⊢
  cases he : keyEqA ks agg k k with
  | none => rw [he] at h; cases h
  | some b => rw [keyEq_rn hk hk he]; rfl
theorem found_rn {ok : Bool} {z z' : AV} {a b : Option (Nat × AV)} (hz : Rn ρ z z') (h : RF ρ a b) : Rn ρ (found ok z a) (found ok z' b) := by
  cases h with
  | none => cases ok <;> first | exact hz | exact .tup' (RL.cons hz (RL.one (.val _)))
  | some i x y h => cases ok <;> first | exact h | exact .tup' (RL.cons h (RL.one (.val _)))
theorem lookupA_rn (hH : RH ρ H O) {ok agg : Bool} {ks : List Bool} {z z' k k' : AV} (hz : Rn ρ z z') (h : Rn ρ x y) (hk : Rn ρ k k') (hr : lookupA H ok ks agg z x k = some r) : ∃ r', lookupA O ok ks agg z' y k' = some r' ∧ Rn ρ r r' := by
  unfold lookupA at hr ⊢
  split at hr
  · rename_i hok
    rw [if_pos (keyOK_rn hk hok)]
    cases h with
    | mapr a b h =>
      simp only [] at hr ⊢
      split at hr
      · rename_i l ho
        obtain ⟨m, hm, h1, h2⟩ := hH.mp ho h
        rw [hm]
        simp only []
        rw [Option.map_eq_some_iff] at hr
        obtain ⟨f, hf, rfl⟩ := hr
        obtain ⟨f', hf', hrf⟩ := findA_rn hk l m 0 f h1 h2 hf
        rw [hf']
        exact ⟨_, rfl, found_rn hz hrf⟩
      · cases hr
    | val v =>
      split at hr
      · rename_i heq
        cases heq
      · cases hr
        exact ⟨_, rfl, found_rn hz .none⟩
      · cases hr
    | _ => cases hr
  · cases hr
theorem lenA_rn (h : Rn ρ x y) (hr : lenA x = some r) : lenA y = some r ∧ Rn ρ r r := by
  unfold lenA at hr
  split at hr
  · cases hr; cases h with | list _ _ _ m h1 h2 => exact ⟨by simp [lenA, h1], .val _⟩
  · cases hr; cases h with | own _ b _ _ _ _ h1 => exact ⟨rfl, .val _⟩
  · cases hr; rw [val_rn h]; exact ⟨rfl, .val _⟩
  · cases hr
theorem lenM_rn (hH : RH ρ H O) (h : Rn ρ x y) (hr : lenM H x = some r) : lenM O y = some r ∧ Rn ρ r r := by
  unfold lenM at hr
  split at hr
  · split at hr
    · rename_i l ho
      cases hr
      cases h with
      | mapr _ b h1 =>
        obtain ⟨m, hm, h2, _⟩ := hH.mp ho h1
        exact ⟨by simp [lenM, hm, h2], .val _⟩
    · cases hr
  · cases hr; rw [val_rn h]; exact ⟨rfl, .val _⟩
  · cases hr
theorem elemsA_rn (hH : RH ρ H O) {sz : Nat} {X : List AV} (h : Rn ρ x y) (hr : elemsA H sz x = some X) : ∃ X', elemsA O sz y = some X' ∧ RL ρ X X' := by
  unfold elemsA at hr
  split at hr
  · split at hr
    · rename_i hs
      cases hr
      cases h with
      | list _ _ _ m h1 h2 => exact ⟨m, by simp [elemsA, hs], h1, h2⟩
    · cases hr
  · cases hr; rw [val_rn h]; exact ⟨[], rfl, .nil⟩
  · rename_i id s i n c
    split at hr
    · rename_i E s' elems ho
      split at hr
      · rename_i hc
        cases hr
        cases h with
        | own _ b _ _ _ _ h1 =>
          obtain ⟨m, hm, h2⟩ := hH.arr ho h1
          refine ⟨(m.drop i).take n, ?_, (h2.drop i).take n⟩
          simp only [elemsA, hm]
          rw [if_pos ⟨hc.1, hc.2.1, by rw [← h2.1]; exact hc.2.2⟩]
      · cases hr
    · cases hr
  · cases hr
theorem boundA_rn {d : Nat} {o o' : Option AV} {n : Nat} (h : (o = none ∧ o' = none) ∨ ∃ x y, o = some x ∧ o' = some y ∧ Rn ρ x y) (hr : boundA d o = some n) : boundA d o' = some n := by
  rcases h with ⟨rfl, rfl⟩ | ⟨x, y, rfl, rfl, h⟩
  · exact hr
  · unfold boundA at hr
    split at hr
    · rename_i he; cases he
    · rename_i he; cases he; rw [val_rn h]; exact hr
    · cases hr
def RQ (ρ : Ren) (o o' : Option AV) : Prop := (o = none ∧ o' = none) ∨ ∃ x y, o = some x ∧ o' = some y ∧ Rn ρ x y
theorem sliceA_rn {esz : Nat} {lo hi mx lo' hi' mx' : Option AV} (h : Rn ρ x y) (h1 : RQ ρ lo lo') (h2 : RQ ρ hi hi') (h3 : RQ ρ mx mx') (hr : sliceA esz x lo hi mx = some r) : ∃ r', sliceA esz y lo' hi' mx' = some r' ∧ Rn ρ r r' := by
  cases h with
  | list s t l m k1 k2 =>
    have kl : RL ρ l m := ⟨k1, k2⟩
    simp only [sliceA] at hr ⊢
    rw [← k1]
    split at hr
    · rename_i a b ha hb
      rw [boundA_rn h1 ha, boundA_rn h2 hb]
      simp only []
      split at hr
      · rename_i hc
        rw [if_pos hc]
        rcases h3 with ⟨rfl, rfl⟩ | ⟨p, q, rfl, rfl, h3⟩
        · cases hr
          exact ⟨_, rfl, .list' ((kl.drop a).take _)⟩
        · simp only [] at hr ⊢
          split at hr
          · rename_i c hc2
            rw [boundA_rn (.inr ⟨p, q, rfl, rfl, h3⟩) hc2]
            simp only []
            split at hr
            · rename_i hc3
              rw [if_pos hc3]
              cases hr
              exact ⟨_, rfl, .list' ((kl.drop a).take _)⟩
            · cases hr
          · cases hr
      · cases hr
    · cases hr
  | own id id' s i n c k =>
    simp only [sliceA] at hr ⊢
    split at hr
    · rename_i a b ha hb
      rw [boundA_rn h1 ha, boundA_rn h2 hb]
      simp only []
      split at hr
      · rename_i hc
        rw [if_pos hc]
        rcases h3 with ⟨rfl, rfl⟩ | ⟨p, q, rfl, rfl, h3⟩
        · cases hr
          exact ⟨_, rfl, .own _ _ _ _ _ _ k⟩
        · simp only [] at hr ⊢
          split at hr
          · rename_i d hc2
            rw [boundA_rn (.inr ⟨p, q, rfl, rfl, h3⟩) hc2]
            simp only []
            split at hr
            · rename_i hc3
              rw [if_pos hc3]
              cases hr
              exact ⟨_, rfl, .own _ _ _ _ _ _ k⟩
            · cases hr
          · cases hr
      · cases hr
    · cases hr
  | val v =>
    have key : ∀ r, sliceA esz (.val v) lo hi mx = some r → v = .slice none 0 0 ∧ r = .val (.slice none 0 0) := fun r' hr' => by
      unfold sliceA at hr'
      split at hr'
      · rename_i he; cases he
      · rename_i he; cases he
      · rename_i he
        cases he
        refine ⟨rfl, ?_⟩
        split at hr'
        · cases hr'; rfl
        · split at hr'
          · cases hr'; rfl
          · cases hr'
        · cases hr'
      · cases hr'
    obtain ⟨rfl, rfl⟩ := key r hr
    refine ⟨_, ?_, .val _⟩
    simp only [sliceA] at hr ⊢
    split at hr
    · rename_i ha hb
      rw [boundA_rn h1 ha, boundA_rn h2 hb]
      rcases h3 with ⟨_, rfl⟩ | ⟨p, q, h, _⟩
      · rfl
      · cases h
    · rename_i ha hb
      rw [boundA_rn h1 ha, boundA_rn h2 hb]
      rcases h3 with ⟨h, _⟩ | ⟨p, q, h, rfl, h3⟩
      · cases h
      · cases h
        simp only []
        split at hr
        · rename_i hz
          have hz' := boundA_rn (.inr ⟨_, q, rfl, rfl, h3⟩) hz
          simp only [hz']
        · cases hr
    · cases hr
  | _ => cases hr
theorem intOf_rn {n : Int} (h : Rn ρ x y) (hr : intOfA x = some n) : intOfA y = some n := by
  unfold intOfA at hr
  split at hr
  · rw [val_rn h]; exact hr
  · cases hr
theorem fieldAddr_rn {off sz : Nat} {agg : Bool} (h : Rn ρ x y) (hr : fieldAddrA off sz agg x = some r) : ∃ r', fieldAddrA off sz agg y = some r' ∧ Rn ρ r r' := by
  cases h with
  | ref a b h =>
    simp only [fieldAddrA] at hr ⊢
    rw [Option.map_eq_some_iff] at hr
    obtain ⟨q, hq, rfl⟩ := hr
    obtain ⟨q', hq', h'⟩ := partA_rn h hq
    rw [hq']
    exact ⟨_, rfl, .ref _ _ h'⟩
  | optr a b s i k h => cases hr; exact ⟨_, rfl, .optr _ _ _ _ _ h⟩
  | _ => cases hr
theorem indexAddr_rn {esz : Nat} {i : Int} (h : Rn ρ x y) (hr : indexAddrA esz i x = some r) : ∃ r', indexAddrA esz i y = some r' ∧ Rn ρ r r' := by
  cases h with
  | list s t l m k1 k2 =>
    simp only [indexAddrA] at hr ⊢
    rw [← k1]
    split at hr
    · rename_i hc
      rw [if_pos hc]
      rw [Option.map_eq_some_iff] at hr
      obtain ⟨q, hq, rfl⟩ := hr
      obtain ⟨q', hq', h'⟩ := RL.get ⟨k1, k2⟩ hq
      rw [hq']
      exact ⟨_, rfl, .ref _ _ h'⟩
    · cases hr
  | own id id' s j n c k =>
    simp only [indexAddrA] at hr ⊢
    split at hr
    · rename_i hc
      rw [if_pos hc]
      cases hr
      exact ⟨_, rfl, .optr _ _ _ _ _ k⟩
    · cases hr
  | _ => cases hr
theorem indexPtr_rn {len esz : Nat} {eagg : Bool} {i : Int} (h : Rn ρ x y) (hr : indexPtrA len esz eagg i x = some r) : ∃ r', indexPtrA len esz eagg i y = some r' ∧ Rn ρ r r' := by
  cases h with
  | ref a b h =>
    simp only [indexPtrA] at hr ⊢
    split at hr
    · rename_i hc
      rw [if_pos hc]
      rw [Option.map_eq_some_iff] at hr
      obtain ⟨q, hq, rfl⟩ := hr
      obtain ⟨q', hq', h'⟩ := partA_rn h hq
      rw [hq']
      exact ⟨_, rfl, .ref _ _ h'⟩
    · cases hr
  | optr a b s j k h =>
    simp only [indexPtrA] at hr ⊢
    split at hr
    · rename_i hc
      rw [if_pos hc]
      cases hr
      exact ⟨_, rfl, .optr _ _ _ _ _ h⟩
    · cases hr
  | _ => cases hr
theorem isNil_rn {k : Nat} {b : Bool} (h : Rn ρ x y) (hr : isNilA k x = some b) : isNilA k y = some b := by
  unfold isNilA at hr
  split at hr
  · rw [val_rn h]; exact hr
  · cases h; exact hr
  · cases h; exact hr
  · rw [val_rn h]; exact hr
  · cases h; exact hr
  · cases h; exact hr
  · rw [val_rn h]; exact hr
  · cases hr
theorem maxmin_rn {mx : Bool} {x' y' : AV} (h : Rn ρ x x') (k : Rn ρ y y') (hr : maxminA mx x y = some r) : maxminA mx x' y' = some r ∧ Rn ρ r r := by
  unfold maxminA at hr
  split at hr
  · rw [val_rn h, val_rn k]; cases hr; exact ⟨rfl, .val _⟩
  · cases hr
theorem maxl2_rn {mx : Bool} : ∀ (l m : List AV) (x x' r : AV), Rn ρ x x' → RL ρ l m → maxl2 mx x l = some r → ∃ r', maxl2 mx x' m = some r' ∧ Rn ρ r r'
  | [], m, x, x', r, hx, h, hr => by rw [h.inv_nil]; cases hr; exact ⟨_, rfl, hx⟩
  | y :: l, m, x, x', r, hx, h, hr => by
    obtain ⟨y', m', rfl, h1, h2⟩ := h.inv_cons
    simp only [maxl2] at hr ⊢
    split at hr
    · rename_i z hz
      obtain ⟨e1, e2⟩ := maxmin_rn hx h1 hz
      rw [e1]
      exact maxl2_rn l m' z z r e2 h2 hr
    · cases hr
theorem strA_rn {op : BinOp} {x' y' : AV} (h : Rn ρ x x') (k : Rn ρ y y') (hr : strA op x y = some r) : strA op x' y' = some r ∧ Rn ρ r r := by
  unfold strA at hr
  split at hr
  · rename_i a b
    rw [val_rn h, val_rn k]
    refine ⟨hr, ?_⟩
    split at hr
    · split at hr
      · cases hr; exact .val _
      · cases hr
    all_goals first | (cases hr; exact .val _) | cases hr
  · cases hr
theorem bytesOf_rn : ∀ (X Y : List AV) (bs : List UInt8), RL ρ X Y → bytesOf X = some bs → bytesOf Y = some bs
  | [], Y, bs, h, hr => by rw [h.inv_nil]; exact hr
  | x :: X, Y, bs, h, hr => by
    obtain ⟨y, Y', rfl, h1, h2⟩ := h.inv_cons
    unfold bytesOf at hr
    split at hr
    · rename_i he; cases he
    · rename_i he
      cases he
      rw [Option.map_eq_some_iff] at hr
      obtain ⟨b', hb, rfl⟩ := hr
      rw [val_rn h1]
      simp only [bytesOf, bytesOf_rn X Y' b' h2 hb, Option.map_some]
    · cases hr
theorem unA_rn {op : UnOp} (h : Rn ρ x y) (hr : unA op x = some r) : unA op y = some r ∧ Rn ρ r r := by
  unfold unA at hr
  split at hr
  · split at hr
    · rw [val_rn h]; cases hr; exact ⟨rfl, .val _⟩
    · cases hr
  · split at hr
    · rw [val_rn h]; cases hr; exact ⟨rfl, .val _⟩
    · cases hr
  · cases hr
theorem nilchk_rn (h : Rn ρ x y) (hr : nilchkA x = some r) : ∃ r', nilchkA y = some r' ∧ Rn ρ r r' := by
  unfold nilchkA at hr
  split at hr
  · cases hr; cases h with | optr _ b _ _ _ h => exact ⟨_, rfl, .optr _ _ _ _ _ h⟩
  · cases hr; cases h with | ref _ b h => exact ⟨_, rfl, .ref _ _ h⟩
  · cases hr; cases h with | clo _ _ _ l' m' h1 h2 h3 h4 => exact ⟨_, rfl, .clo _ _ _ _ _ h1 h2 h3 h4⟩
  · cases hr
end
end Go.Ab

/- The abstract walk: instructions that compute, by other names. -/
namespace Go.Ab

section
variable {ρ : Ren} {H O : Heap} {e e' : Env}
/-- Slots by other names. -/
def RE (ρ : Ren) (e e' : Env) : Prop := ∀ t, Rn ρ (e t) (e' t)
theorem RE.opd (h : RE ρ e e') (x : Operand) : Rn ρ (e.opd x) (e'.opd x) := by
  cases x with
  | tmp t => exact h t
  | const v => exact .val v
  | global g => exact .val _
  | func f => exact .clo' .nil .nil
theorem RE.opds (h : RE ρ e e') (l : List Operand) : RL ρ (l.map e.opd) (l.map e'.opd) := RL.map l fun a _ => h.opd a
theorem RE.opt (h : RE ρ e e') (o : Option Operand) : RQ ρ (o.map e.opd) (o.map e'.opd) := by
  cases o with
  | none => exact .inl ⟨rfl, rfl⟩
  | some x => exact .inr ⟨_, _, rfl, rfl, h.opd x⟩

/-- Constants without names of objects. -/
def avC : AV → Bool
  | .val _ => true
  | .agg l => l.all fun x => match x with | .val _ => true | _ => false
  | _ => false
theorem avC_rn {x : AV} (h : avC x = true) : Rn ρ x x := by
  unfold avC at h
  split at h
  · exact .val _
  · refine .agg' ⟨rfl, fun i x y hx hy => ?_⟩
    rw [hx] at hy
    cases hy
    have := List.all_eq_true.1 h x (List.mem_of_getElem? hx)
    split at this
    · exact .val _
    · cases this
  · cases h
/-- What is built into an instruction. -/
def ciC : CI → Bool
  | .alloc _ _ z => avC z
  | .build z _ => z.all avC
  | .lookup _ _ _ z _ _ => avC z
  | .mkslice _ _ _ z _ _ => avC z
  | .appz _ _ _ z _ _ => avC z
  | _ => true

theorem pureI_rn (hH : RH ρ H O) (he : RE ρ e e') {ci : CI} (hc : ciC ci = true) {r : AV} (hr : pureI ci e H = some r) : ∃ r', pureI ci e' O = some r' ∧ Rn ρ r r' := by
  cases ci with
  | mv x => cases hr; exact ⟨_, rfl, he.opd x⟩
  | pick c a b => exact pickA_rn (he.opd c) (he.opd a) (he.opd b) hr
  | build z ps =>
    simp only [pureI] at hr ⊢
    rw [Option.map_eq_some_iff] at hr
    obtain ⟨q, hq, rfl⟩ := hr
    have hz : RL ρ z z := ⟨rfl, fun i x y hx hy => by
      rw [hx] at hy
      cases hy
      exact avC_rn (List.all_eq_true.1 hc x (List.mem_of_getElem? hx))⟩
    obtain ⟨q', h1, h2⟩ := fillA_rn (fun a => he.opd a) ps z z q hz hq
    rw [h1]
    exact ⟨_, rfl, .agg' h2⟩
  | blist sz xs =>
    simp only [pureI] at hr ⊢
    have hl := he.opds xs
    rw [storAll_rn _ _ hl]
    split at hr
    · rename_i hs
      rw [if_pos hs]
      cases hr
      exact ⟨_, rfl, .list' hl⟩
    · cases hr
  | load agg sz x => exact loadA_rn hH (he.opd x) hr
  | nilchk x => exact nilchk_rn (he.opd x) hr
  | bin op x y => exact ⟨r, binA_rn (he.opd x) (he.opd y) hr⟩
  | binb neg x y =>
    have hr : binbA neg (e.opd x) (e.opd y) = some r := hr
    have h1 := he.opd x
    have h2 := he.opd y
    show ∃ r', binbA neg (e'.opd x) (e'.opd y) = some r' ∧ _
    unfold binbA at hr
    split at hr
    · rename_i e1 e2
      rw [e1] at h1
      rw [e2] at h2
      rw [val_rn h1, val_rn h2]
      cases hr
      exact ⟨_, rfl, .val _⟩
    · cases hr
  | eqagg neg ks x y =>
    have hr : eqaggA neg ks (e.opd x) (e.opd y) = some r := hr
    have h1 := he.opd x
    have h2 := he.opd y
    show ∃ r', eqaggA neg ks (e'.opd x) (e'.opd y) = some r' ∧ _
    unfold eqaggA at hr
    split at hr
    · rename_i e1 e2
      rw [e1] at h1
      rw [e2] at h2
      rw [Option.map_eq_some_iff] at hr
      obtain ⟨b, hb, rfl⟩ := hr
      generalize e'.opd x = x' at h1 ⊢
      generalize e'.opd y = y' at h2 ⊢
      cases h1 with
      | agg _ l' k1 k2 => cases h2 with
        | agg _ m' k3 k4 => exact ⟨_, by simp only [eqaggA, leavesEq_rn ks _ _ _ _ b ⟨k1, k2⟩ ⟨k3, k4⟩ hb, Option.map_some], .val _⟩
    · cases hr
  | eqnil k neg x =>
    simp only [pureI] at hr ⊢
    rw [Option.map_eq_some_iff] at hr
    obtain ⟨b, hb, rfl⟩ := hr
    rw [isNil_rn (he.opd x) hb]
    exact ⟨_, rfl, .val _⟩
  | un op x => exact ⟨r, unA_rn (he.opd x) hr⟩
  | convi k x =>
    simp only [pureI] at hr ⊢
    rw [Option.map_eq_some_iff] at hr
    obtain ⟨b, hb, rfl⟩ := hr
    rw [intOf_rn (he.opd x) hb]
    exact ⟨_, rfl, .val _⟩
  | mkfn fn a b => cases hr; exact ⟨_, rfl, .clo' (he.opds a) (he.opds b)⟩
  | fieldA off sz agg x => exact fieldAddr_rn (he.opd x) hr
  | field off sz agg x =>
    have h1 := he.opd x
    simp only [pureI] at hr ⊢
    split at hr
    · rename_i l hx
      rw [hx] at h1
      have := partA_rn h1 hr
      generalize e'.opd x = x' at h1 this ⊢
      cases h1 with
      | agg _ l' k1 k2 => exact this
    · cases hr
  | indexA esz x i =>
    simp only [pureI] at hr ⊢
    rw [Option.bind_eq_some_iff] at hr
    obtain ⟨n, hn, hr⟩ := hr
    rw [intOf_rn (he.opd i) hn]
    exact indexAddr_rn (he.opd x) hr
  | indexP len esz eagg x i =>
    simp only [pureI] at hr ⊢
    rw [Option.bind_eq_some_iff] at hr
    obtain ⟨n, hn, hr⟩ := hr
    rw [intOf_rn (he.opd i) hn]
    exact indexPtr_rn (he.opd x) hr
  | index len esz eagg x i =>
    have h1 := he.opd x
    simp only [pureI] at hr ⊢
    rw [Option.bind_eq_some_iff] at hr
    obtain ⟨n, hn, hr⟩ := hr
    rw [intOf_rn (he.opd i) hn]
    simp only [Option.bind_some]
    split at hr
    · rename_i l hx
      rw [hx] at h1
      split at hr
      · rename_i hcond
        have := partA_rn h1 hr
        generalize e'.opd x = x' at h1 this ⊢
        cases h1 with
        | agg _ l' k1 k2 => simp only []; rw [if_pos hcond]; exact this
      · cases hr
    · cases hr
  | slice esz x lo hi mx => exact sliceA_rn (he.opd x) (he.opt lo) (he.opt hi) (he.opt mx) hr
  | extract x i =>
    have h1 := he.opd x
    simp only [pureI, extractA] at hr ⊢
    split at hr
    · rename_i l hx
      rw [hx] at h1
      generalize e'.opd x = x' at h1 ⊢
      cases h1 with
      | tup _ l' k1 k2 => exact RL.get ⟨k1, k2⟩ hr
    · cases hr
  | len x => exact ⟨r, lenA_rn (he.opd x) hr⟩
  | lenm x => exact ⟨r, lenM_rn hH (he.opd x) hr⟩
  | maxmin mx x y => exact ⟨r, maxmin_rn (he.opd x) (he.opd y) hr⟩
  | maxl mx xs =>
    have hl := he.opds xs
    have hr : maxlA mx (xs.map e.opd) = some r := hr
    show ∃ r', maxlA mx (xs.map e'.opd) = some r' ∧ _
    generalize xs.map e.opd = L at hl hr
    generalize xs.map e'.opd = M at hl ⊢
    cases L with
    | nil => cases hr
    | cons x L =>
      obtain ⟨y, M', rfl, h1, h2⟩ := hl.inv_cons
      exact maxl2_rn L M' x y r h1 h2 hr
  | str op x y => exact ⟨r, strA_rn (he.opd x) (he.opd y) hr⟩
  | bstr x =>
    have hr : bstrA H (e.opd x) = some r := hr
    show ∃ r', bstrA O (e'.opd x) = some r' ∧ _
    unfold bstrA at hr ⊢
    rw [Option.bind_eq_some_iff] at hr
    obtain ⟨X, hX, hr⟩ := hr
    rw [Option.map_eq_some_iff] at hr
    obtain ⟨bs, hb, rfl⟩ := hr
    obtain ⟨X', h1, h2⟩ := elemsA_rn hH (he.opd x) hX
    rw [h1]
    simp only [Option.bind_some, bytesOf_rn X X' bs h2 hb, Option.map_some]
    exact ⟨_, rfl, .val _⟩
  | slen x =>
    have h1 := he.opd x
    simp only [pureI, slenA] at hr ⊢
    split at hr
    · rename_i s hx
      rw [hx] at h1
      rw [val_rn h1]
      cases hr
      exact ⟨_, rfl, .val _⟩
    · cases hr
  | lookup ok ks agg z x k => exact lookupA_rn hH (avC_rn hc) (he.opd x) (he.opd k) hr
  | _ => cases hr
end
end Go.Ab

/- The abstract walk: an interpreter that the kernel can run. -/
namespace Go.Ab

/-- Things by their numbers. -/
inductive Tr (α : Type) where
  | em
  | nd (l : Tr α) (v : Option α) (r : Tr α)
def Tr.get {α : Type} : Tr α → Nat → Option α
  | .em, _ => none
  | .nd l v r, k => match k with
    | 0 => v
    | k + 1 => match Nat.beq (k % 2) 0 with
      | true => l.get (k / 2)
      | false => r.get (k / 2)
def Tr.set {α : Type} : Nat → Tr α → Nat → Option α → Option (Tr α)
  | 0, _, _, _ => none
  | f + 1, .em, 0, x => some (.nd .em x .em)
  | f + 1, .nd l _ r, 0, x => some (.nd l x r)
  | f + 1, .em, k + 1, x => match Nat.beq (k % 2) 0 with
    | true => match Tr.set f .em (k / 2) x with
      | some l => some (.nd l none .em)
      | none => none
    | false => match Tr.set f .em (k / 2) x with
      | some r => some (.nd .em none r)
      | none => none
  | f + 1, .nd l v r, k + 1, x => match Nat.beq (k % 2) 0 with
    | true => match Tr.set f l (k / 2) x with
      | some l => some (.nd l v r)
      | none => none
    | false => match Tr.set f r (k / 2) x with
      | some r => some (.nd l v r)
      | none => none

theorem Tr.get_set {α : Type} : ∀ (f : Nat) (t t' : Tr α) (k : Nat) (x : Option α) (j : Nat), Tr.set f t k x = some t' → t'.get j = if j = k then x else t.get j
  | 0, t, t', k, x, j, h => by cases t <;> cases h
  | f + 1, t, t', k, x, j, h => by
    have par : ∀ a b : Nat, a / 2 = b / 2 → Nat.beq (a % 2) 0 = Nat.beq (b % 2) 0 → a = b := fun a b h1 h2 => by
      have e1 : a % 2 = 0 ↔ b % 2 = 0 := by
        have := Nat.beq_eq (x := a % 2) (y := 0)
        have := Nat.beq_eq (x := b % 2) (y := 0)
        simp_all
      omega
    cases t with
    | em =>
      cases k with
      | zero =>
        cases h
        cases j with
        | zero => simp [Tr.get]
        | succ j => simp only [Tr.get]; split <;> simp
      | succ k =>
        simp only [Tr.set] at h
        split at h
        · rename_i hb
          split at h
          · rename_i l hl
            cases h
            cases j with
            | zero => simp [Tr.get]
            | succ j =>
              have ih := Tr.get_set f .em l (k / 2) x (j / 2) hl
              simp only [Tr.get]
              cases hj : Nat.beq (j % 2) 0 with
              | true =>
                simp only []
                rw [ih]
                by_cases he : j / 2 = k / 2
                · rw [if_pos he, if_pos (by rw [par j k he (by rw [hj, hb])])]
                · rw [if_neg he, if_neg (fun h => he (by rw [Nat.succ.inj h]))]; rfl
              | false =>
                simp only []
                rw [if_neg (fun h => by rw [Nat.succ.inj h, hb] at hj; cases hj)]
          · cases h
        · rename_i hb
          split at h
          · rename_i l hl
            cases h
            cases j with
            | zero => simp [Tr.get]
            | succ j =>
              have ih := Tr.get_set f .em l (k / 2) x (j / 2) hl
              simp only [Tr.get]
              cases hj : Nat.beq (j % 2) 0 with
              | false =>
                simp only []
                rw [ih]
                by_cases he : j / 2 = k / 2
                · rw [if_pos he, if_pos (by rw [par j k he (by rw [hj, hb])])]
                · rw [if_neg he, if_neg (fun h => he (by rw [Nat.succ.inj h]))]; rfl
              | true =>
                simp only []
                rw [if_neg (fun h => by rw [Nat.succ.inj h, hb] at hj; cases hj)]
          · cases h
    | nd l0 v0 r0 =>
      cases k with
      | zero =>
        cases h
        cases j with
        | zero => simp [Tr.get]
        | succ j => simp only [Tr.get]; split <;> simp
      | succ k =>
        simp only [Tr.set] at h
        split at h
        · rename_i hb
          split at h
          · rename_i l hl
            cases h
            cases j with
            | zero => simp [Tr.get]
            | succ j =>
              have ih := Tr.get_set f l0 l (k / 2) x (j / 2) hl
              simp only [Tr.get]
              cases hj : Nat.beq (j % 2) 0 with
              | true =>
                simp only []
                rw [ih]
                by_cases he : j / 2 = k / 2
                · rw [if_pos he, if_pos (by rw [par j k he (by rw [hj, hb])])]
                · rw [if_neg he, if_neg (fun h => he (by rw [Nat.succ.inj h]))]
              | false =>
                simp only []
                rw [if_neg (fun h => by rw [Nat.succ.inj h, hb] at hj; cases hj)]
          · cases h
        · rename_i hb
          split at h
          · rename_i l hl
            cases h
            cases j with
            | zero => simp [Tr.get]
            | succ j =>
              have ih := Tr.get_set f r0 l (k / 2) x (j / 2) hl
              simp only [Tr.get]
              cases hj : Nat.beq (j % 2) 0 with
              | false =>
                simp only []
                rw [ih]
                by_cases he : j / 2 = k / 2
                · rw [if_pos he, if_pos (by rw [par j k he (by rw [hj, hb])])]
                · rw [if_neg he, if_neg (fun h => he (by rw [Nat.succ.inj h]))]
              | true =>
                simp only []
                rw [if_neg (fun h => by rw [Nat.succ.inj h, hb] at hj; cases hj)]
          · cases h

/-- Memory of the interpreter: what there is, and the next name. -/
structure IH where
  t : Tr AObj
  n : Nat
def IH.fn (h : IH) : Heap := h.t.get
def IH.add (h : IH) (o : AObj) : Option IH := match h.t.set 40 h.n (some o) with
  | some t => some ⟨t, h.n + 1⟩
  | none => none
def IH.put (h : IH) (fl k : Nat) (o : Option AObj) : Option IH := match Nat.ble fl k with
  | true => match h.t.set 40 k o with
    | some t => some ⟨t, h.n⟩
    | none => none
  | false => none
theorem IH.add_fn {h h' : IH} {o : AObj} (e : h.add o = some h') (j : Nat) : h'.fn j = if j = h.n then some o else h.fn j := by
  unfold IH.add at e
  split at e
  · rename_i t ht; cases e; exact Tr.get_set _ _ _ _ _ j ht
  · cases e
theorem IH.add_n {h h' : IH} {o : AObj} (e : h.add o = some h') : h'.n = h.n + 1 := by
  unfold IH.add at e
  split at e
  · cases e; rfl
  · cases e
theorem IH.put_fn {h h' : IH} {fl k : Nat} {o : Option AObj} (e : h.put fl k o = some h') (j : Nat) : h'.fn j = if j = k then o else h.fn j := by
  unfold IH.put at e
  split at e
  · split at e
    · rename_i t ht; cases e; exact Tr.get_set _ _ _ _ _ j ht
    · cases e
  · cases e
theorem IH.put_n {h h' : IH} {fl k : Nat} {o : Option AObj} (e : h.put fl k o = some h') : h'.n = h.n := by
  unfold IH.put at e
  split at e
  · split at e
    · cases e; rfl
    · cases e
  · cases e
theorem IH.put_fl {h h' : IH} {fl k : Nat} {o : Option AObj} (e : h.put fl k o = some h') : fl ≤ k := by
  unfold IH.put at e
  split at e
  · rename_i hb; exact Nat.le_of_ble_eq_true hb
  · cases e

structure HR (ρ : Ren) (fl : Nat) (h : IH) (O O0 : Heap) : Prop where
  live : RH ρ h.fn O
  inj : ∀ k j a, h.fn k ≠ none → h.fn j ≠ none → ρ k = some a → ρ j = some a → k = j
  sub : O0.sub O
  apart : ∀ k a, fl ≤ k → h.fn k ≠ none → ρ k = some a → O0 a = none
  next : ∀ k, h.n ≤ k → ρ k = none

def Ren.ext (ρ : Ren) (n a : Nat) : Ren := fun k => if k = n then some a else ρ k
theorem Ren.ext_le {ρ : Ren} {n a : Nat} (h : ρ n = none) : ρ.le (ρ.ext n a) := fun k k' e => by
  show (if k = n then some a else ρ k) = some k'
  split
  · rename_i hk; rw [hk, h] at e; cases e
  · exact e
theorem Ren.ext_same (ρ : Ren) (n a : Nat) : (ρ.ext n a) n = some a := if_pos rfl
theorem Ren.le_refl (ρ : Ren) : ρ.le ρ := fun _ _ h => h
theorem Ren.le_trans {ρ σ τ : Ren} (h : ρ.le σ) (k : σ.le τ) : ρ.le τ := fun a b e => k a b (h a b e)

section
variable {ρ : Ren} {fl : Nat} {h h' : IH} {O O0 : Heap}
theorem HR.some_of (hH : HR ρ fl h O O0) {k a : Nat} (hk : h.fn k ≠ none) (ha : ρ k = some a) : O a ≠ none := by
  cases ho : h.fn k with
  | none => exact absurd ho hk
  | some o =>
    obtain ⟨k', o', h1, h2, _⟩ := hH.live k o ho
    rw [ha] at h1; cases h1
    rw [h2]; simp
theorem HR.lt (hH : HR ρ fl h O O0) {k : Nat} (hk : h.fn k ≠ none) : k < h.n := by
  cases ho : h.fn k with
  | none => exact absurd ho hk
  | some o =>
    obtain ⟨k', o', h1, h2, _⟩ := hH.live k o ho
    refine Nat.lt_of_not_le fun hle => ?_
    rw [hH.next k hle] at h1
    cases h1
theorem HR.add (hH : HR ρ fl h O O0) {o o' : AObj} (e : h.add o = some h') (hr : RO ρ o o') {id : Nat} (hid : O id = none) : HR (ρ.ext h.n id) fl h' (O.upd id o') O0 := by
  have hn := hH.next h.n (Nat.le_refl _)
  have hle := Ren.ext_le (a := id) hn
  have hold : ∀ k, k ≠ h.n → ∀ a, (ρ.ext h.n id) k = some a → ρ k = some a := fun k hk a ha => by
    unfold Ren.ext at ha; rw [if_neg hk] at ha; exact ha
  have hne : ∀ k a, k ≠ h.n → h'.fn k ≠ none → (ρ.ext h.n id) k = some a → a ≠ id := fun k a hk hl ha e1 => by
    rw [IH.add_fn e, if_neg hk] at hl
    have := hH.some_of hl (hold k hk a ha)
    rw [e1] at this
    exact this hid
  refine ⟨fun k o1 ho => ?_, fun k j a hk hj ak aj => ?_, fun i x hi => ?_, fun k a hf hk ha => ?_, fun k hk => ?_⟩
  · rw [IH.add_fn e] at ho
    by_cases hk : k = h.n
    · rw [if_pos hk] at ho
      cases ho
      exact ⟨id, o', by rw [hk]; exact Ren.ext_same _ _ _, Heap.upd_same _ _ _, hr.mono hle⟩
    · rw [if_neg hk] at ho
      obtain ⟨k', o2, h1, h2, h3⟩ := hH.live k o1 ho
      refine ⟨k', o2, hle _ _ h1, ?_, h3.mono hle⟩
      rw [Heap.upd_ne _ _ (fun e1 => by rw [e1, hid] at h2; cases h2)]
      exact h2
  · by_cases hkn : k = h.n
    · by_cases hjn : j = h.n
      · rw [hkn, hjn]
      · exfalso
        rw [hkn, Ren.ext_same] at ak
        cases ak
        exact hne j _ hjn hj aj rfl
    · by_cases hjn : j = h.n
      · exfalso
        rw [hjn, Ren.ext_same] at aj
        cases aj
        exact hne k _ hkn hk ak rfl
      · rw [IH.add_fn e, if_neg hkn] at hk
        rw [IH.add_fn e, if_neg hjn] at hj
        exact hH.inj k j a hk hj (hold k hkn a ak) (hold j hjn a aj)
  · have := hH.sub i x hi
    rw [Heap.upd_ne _ _ (fun e1 => by rw [e1, hid] at this; cases this)]
    exact this
  · by_cases hkn : k = h.n
    · rw [hkn, Ren.ext_same] at ha
      cases ha
      cases ho : O0 id with
      | none => rfl
      | some x => rw [hH.sub _ _ ho] at hid; cases hid
    · rw [IH.add_fn e, if_neg hkn] at hk
      exact hH.apart k a hf hk (hold k hkn a ha)
  · rw [IH.add_n e] at hk
    unfold Ren.ext
    rw [if_neg (by omega)]
    exact hH.next k (by omega)
theorem HR.put (hH : HR ρ fl h O O0) {k a : Nat} {o o' : AObj} (e : h.put fl k (some o) = some h') (hl : h.fn k ≠ none) (ha : ρ k = some a) (hr : RO ρ o o') : HR ρ fl h' (O.upd a o') O0 := by
  have hfl := IH.put_fl e
  have hlive : ∀ j, h'.fn j ≠ none → h.fn j ≠ none := fun j hj => by
    rw [IH.put_fn e] at hj
    split at hj
    · rename_i hjk; rw [hjk]; exact hl
    · exact hj
  refine ⟨fun j o1 ho => ?_, fun i j b hi hj => hH.inj i j b (hlive i hi) (hlive j hj), fun i x hi => ?_, fun j b hf hj hb => hH.apart j b hf (hlive j hj) hb, fun j hj => hH.next j (by rw [IH.put_n e] at hj; exact hj)⟩
  · rw [IH.put_fn e] at ho
    by_cases hk : j = k
    · rw [if_pos hk] at ho
      cases ho
      exact ⟨a, o', by rw [hk]; exact ha, Heap.upd_same _ _ _, hr⟩
    · rw [if_neg hk] at ho
      obtain ⟨k', o2, h1, h2, h3⟩ := hH.live j o1 ho
      refine ⟨k', o2, h1, ?_, h3⟩
      rw [Heap.upd_ne _ _ (fun e1 => hk (hH.inj j k a (by rw [ho]; simp) hl (by rw [h1, e1]) ha))]
      exact h2
  · have h0 := hH.sub i x hi
    rw [Heap.upd_ne _ _ (fun e1 => by rw [e1, hH.apart k a hfl hl ha] at hi; cases hi)]
    exact h0
theorem HR.del (hH : HR ρ fl h O O0) {k a : Nat} (e : h.put fl k none = some h') (hl : h.fn k ≠ none) (ha : ρ k = some a) : HR ρ fl h' (O.del a) O0 := by
  have hfl := IH.put_fl e
  have hlive : ∀ j, h'.fn j ≠ none → h.fn j ≠ none ∧ j ≠ k := fun j hj => by
    rw [IH.put_fn e] at hj
    split at hj
    · exact absurd rfl hj
    · rename_i hjk; exact ⟨hj, hjk⟩
  refine ⟨fun j o1 ho => ?_, fun i j b hi hj => hH.inj i j b (hlive i hi).1 (hlive j hj).1, fun i x hi => ?_, fun j b hf hj hb => hH.apart j b hf (hlive j hj).1 hb, fun j hj => hH.next j (by rw [IH.put_n e] at hj; exact hj)⟩
  · obtain ⟨hj1, hj2⟩ := hlive j (by rw [ho]; simp)
    rw [IH.put_fn e, if_neg hj2] at ho
    obtain ⟨k', o2, h1, h2, h3⟩ := hH.live j o1 ho
    refine ⟨k', o2, h1, ?_, h3⟩
    rw [Heap.del_ne _ (fun e1 => hj2 (hH.inj j k a hj1 hl (by rw [h1, e1]) ha))]
    exact h2
  · have h0 := hH.sub i x hi
    rw [Heap.del_ne _ (fun e1 => by rw [e1, hH.apart k a hfl hl ha] at hi; cases hi)]
    exact h0
/-- Nothing of what is there may change. -/
theorem HR.hold (hH : HR ρ fl h O O0) {O2 : Heap} (hs : O.sub O2) : HR ρ h.n h O2 O2 :=
  ⟨fun k o ho => let ⟨k', o', h1, h2, h3⟩ := hH.live k o ho; ⟨k', o', h1, hs _ _ h2, h3⟩, hH.inj, fun _ _ h => h, fun k a hf hk ha => absurd (hH.lt hk) (by omega), hH.next⟩
end
end Go.Ab

/- The abstract walk: the instructions of the interpreter. -/
namespace Go.Ab

instance (n b : Nat) : Decidable (fits n b) := inferInstanceAs (Decidable (_ ∧ _))

def avO : Option AV → AV
  | some v => v
  | none => .junk
def ev (e : Tr AV) : Env := fun t => avO (e.get t)
def putT (e : Tr AV) (d : Option Nat) (r : AV) : Option (Tr AV) := match d with
  | none => some e
  | some d => e.set 20 d (some r)
theorem ev_set {e e1 : Tr AV} {d : Nat} {x : Option AV} {f : Nat} (h : e.set f d x = some e1) : ev e1 = (ev e).upd d (avO x) := by
  funext t
  unfold ev
  rw [Tr.get_set _ _ _ _ _ t h, Env.upd_apply]
  split <;> rfl
theorem RE.upd {ρ : Ren} {e e' : Env} (h : RE ρ e e') {r r' : AV} (hr : Rn ρ r r') (d : Nat) : RE ρ (e.upd d r) (e'.upd d r') := fun t => by
  rw [Env.upd_apply, Env.upd_apply]
  split
  · exact hr
  · exact h t
theorem RE.put {ρ : Ren} {e e1 : Tr AV} {E : Env} (h : RE ρ (ev e) E) {d : Option Nat} {r r' : AV} (hr : Rn ρ r r') (hp : putT e d r = some e1) : RE ρ (ev e1) (E.put d r') := by
  cases d with
  | none => cases hp; exact h
  | some d => rw [ev_set hp]; exact h.upd hr d
theorem RE.mono {ρ σ : Ren} (hle : ρ.le σ) {e e' : Env} (h : RE ρ e e') : RE σ e e' := fun t => (h t).mono hle

def new (h : IH) (o : AObj) (f : Nat → AV) : Option (AV × IH) := match h.add o with
  | some h1 => some (f h.n, h1)
  | none => none

def storeR (fl : Nat) (h : IH) (sz : Nat) (v : AV) : AV → Option (AV × IH)
  | .optr id s i k => match h.fn id with
    | some (.arr E s' elems) => if s = s' ∧ v.stor = true ∧ v.cells.length = sz ∧ k + sz ≤ s then (match elems[i]? with
      | some x => match h.put fl id (some (.arr E s (elems.set i (if k = 0 ∧ sz = s then v else .agg (spliceA x.cells k v.cells))))) with
        | some h1 => some (.junk, h1)
        | none => none
      | none => none) else none
    | _ => none
  | _ => none

def mapsetR (fl : Nat) (h : IH) (ks : List Bool) (agg : Bool) (x k v : AV) : Option (AV × IH) :=
  if keyOKA ks agg k = true then
  (match x with
   | .mapr id => match h.fn id with
     | some (.mp l) => match findA ks agg k l 0 with
       | some (some (i, _)) => match h.put fl id (some (.mp (l.set i (k, v)))) with
         | some h1 => some (.junk, h1)
         | none => none
       | some none => match h.put fl id (some (.mp (l ++ [(k, v)]))) with
         | some h1 => some (.junk, h1)
         | none => none
       | none => none
     | _ => none
   | _ => none) else none

def capR (x : AV) : Option AV := match x with
  | .list _ true l => some (.val (.int .i64 l.length))
  | .own _ _ _ _ (some k) => some (.val (.int .i64 k))
  | .val (.slice none 0 0) => some (.val (.int .i64 0))
  | _ => none

def appR (fl : Nat) (h : IH) (ow : Bool) (E : TypeId) (sz bytes : Nat) (s : AV) (X : List AV) : Option (AV × IH) := match s with
  | .val (.slice none 0 0) => if fits X.length bytes then (match X with
    | [] => some (.val (.slice none 0 0), h)
    | _ => match ow with
      | true => new h (.arr E sz X) fun id => .own id sz 0 X.length none
      | false => some (.list sz false X, h)) else none
  | .list s' true L => if s' = sz ∧ fits (L.length + X.length) bytes then (match ow with
      | true => (match X with
        | [] => some (.list sz true L, h)
        | _ => new h (.arr E sz (L ++ X)) fun id => .own id sz 0 (L.length + X.length) none)
      | false => some (.list sz false (L ++ X), h)) else none
  | .own id s' 0 n c => match h.fn id with
    | some (.arr E' sz' elems) => if E' = E ∧ sz' = sz ∧ s' = sz ∧ n ≤ elems.length ∧ fits (n + X.length) bytes then
        (match (match c with | some k => Nat.ble (n + X.length) k | none => false) with
         | true => match h.put fl id (some (.arr E sz (elems.take n ++ X ++ elems.drop (n + X.length)))) with
           | some h1 => some (.own id sz 0 (n + X.length) c, h1)
           | none => none
         | false => match h.put fl id none with
           | some h1 => new h1 (.arr E sz (elems.take n ++ X)) fun id' => .own id' sz 0 (n + X.length) none
           | none => none) else none
    | _ => none
  | _ => none

def natOf (x : AV) : Option Nat := match intOfA x with
  | some (.ofNat n) => some n
  | _ => none

def ciR (C : FuncId → List AV → IH → Option (AV × IH)) (fl : Nat) (ci : CI) (e : Env) (h : IH) : Option (AV × IH) := match ci with
  | .alloc E sz z => new h (.arr E sz [z]) fun id => .optr id sz 0 0
  | .box E sz x => if storAll sz [e.opd x] = true then new h (.arr E sz [e.opd x]) fun id => .optr id sz 0 0 else none
  | .bown E sz xs => if storAll sz (xs.map e.opd) = true then new h (.arr E sz (xs.map e.opd)) fun id => .own id sz 0 xs.length (some xs.length) else none
  | .store sz x v => storeR fl h sz (e.opd v) (e.opd x)
  | .call f args => C f (args.map e.opd) h
  | .callv fx args => match e.opd fx with
    | .clo (.func f) a b => C f (a ++ args.map e.opd ++ b) h
    | _ => none
  | .cap x => match capR (e.opd x) with
    | some r => some (r, h)
    | none => none
  | .mkmap => new h (.mp []) fun id => .mapr id
  | .mapset ks agg x k v => mapsetR fl h ks agg (e.opd x) (e.opd k) (e.opd v)
  | .append ow E sz bytes s x => match elemsA h.fn sz (e.opd x) with
    | some X => appR fl h ow E sz bytes (e.opd s) X
    | none => none
  | .mkslice E sz bytes zero l c => match natOf (e.opd l), natOf (e.opd c) with
    | some n, some m => if n ≤ m ∧ m ≤ maxLen ∧ bytes * m ≤ 281474976710656 then new h (.arr E sz (List.replicate m zero)) fun id => .own id sz 0 n (some m) else none
    | _, _ => none
  | .appz E sz bytes zero s n => match e.opd s, natOf (e.opd n) with
    | .val (.slice none 0 0), some m => if 0 < m ∧ fits m bytes then new h (.arr E sz (List.replicate m zero)) fun id => .own id sz 0 m none else none
    | _, _ => none
  | ci => match pureI ci e h.fn with
    | some r => some (r, h)
    | none => none

section
variable {P : Program} {ρ : Ren} {fl : Nat} {h h' : IH} {O O0 : Heap} {e e' : Env} {r : AV}

/-- What is to come, by other names. -/
def KR (ρ : Ren) (fl : Nat) (r : AV) (h' : IH) (O0 : Heap) (K : AV → Heap → Prop) : Prop := ∀ σ r' O', ρ.le σ → Rn σ r r' → HR σ fl h' O' O0 → K r' O'

/-- Calls by other names. -/
def CallOK (P : Program) (fl : Nat) (C : FuncId → List AV → IH → Option (AV × IH)) : Prop :=
  ∀ f args h r h', C f args h = some (r, h') → ∀ ρ O O0 args', RL ρ args args' → HR ρ fl h O O0 → ∀ K, KR ρ fl r h' O0 K → CallA P f args' O K

theorem new_rn (hH : HR ρ fl h O O0) {o o' : AObj} {f : Nat → AV} (hn : new h o f = some (r, h')) (ho : RO ρ o o') {K : AV → Heap → Prop} (hK : KR ρ fl r h' O0 K) {f' : Nat → AV} (hf : ∀ (σ : Ren) a, ρ.le σ → σ h.n = some a → Rn σ (f h.n) (f' a)) {id : Nat} (hid : O id = none) : K (f' id) (O.upd id o') := by
  unfold new at hn
  split at hn
  · rename_i h1 ha
    cases hn
    have hle := Ren.ext_le (a := id) (hH.next h.n (Nat.le_refl _))
    exact hK _ _ _ hle (hf _ id hle (Ren.ext_same _ _ _)) (hH.add ha ho hid)
  · cases hn

theorem natOf_rn {x y : AV} {n : Nat} (h : Rn ρ x y) (hr : natOf x = some n) : intOfA y = some (n : Int) := by
  unfold natOf at hr
  split at hr
  · rename_i hi; cases hr; exact intOf_rn h hi
  · cases hr

theorem app_rn (hH : HR ρ fl h O O0) {ow : Bool} {E : TypeId} {sz bytes : Nat} {s s' x' : AV} {X X' : List AV} (hs : Rn ρ s s') (hX : RL ρ X X') (hx : elemsA O sz x' = some X') (hr : appR fl h ow E sz bytes s X = some (r, h')) {K : AV → Heap → Prop} (hK : KR ρ fl r h' O0 K) : AppendSem ow E sz bytes s' x' O K := by
  refine ⟨X', hx, ?_⟩
  have hl := hX.1
  unfold appR at hr
  split at hr
  · rw [val_rn hs]
    split at hr
    · rename_i hf
      refine ⟨by rw [← hl]; exact hf, ?_⟩
      split at hr
      · cases hr
        rw [hX.inv_nil]
        exact ⟨fun _ => hK _ _ _ (Ren.le_refl _) (.val _) hH, fun h => absurd rfl h⟩
      · rename_i hne
        have hne' : X ≠ [] := fun h => hne h
        have hne2 : X' ≠ [] := fun h => hne' (List.eq_nil_of_length_eq_zero (by rw [hl, h]; rfl))
        refine ⟨fun h => absurd h hne2, fun _ => ?_⟩
        split at hr
        · rw [if_pos rfl]
          intro id hid
          exact new_rn hH hr (.arr E sz X X' hX) hK (f' := fun id => .own id sz 0 X'.length none) (fun σ a hle ha => by rw [← hl]; exact .own _ _ _ _ _ _ ha) hid
        · cases hr
          exact hK _ _ _ (Ren.le_refl _) (.list' hX) hH
    · cases hr
  · rename_i s0 L
    cases hs with
    | list _ _ _ M k1 k2 =>
      have hL : RL ρ L M := ⟨k1, k2⟩
      split at hr
      · rename_i hc
        refine ⟨hc.1, by rw [← hl, ← k1]; exact hc.2, ?_⟩
        unfold AppendList
        split at hr
        · rw [if_pos rfl]
          split at hr
          · cases hr
            rw [hX.inv_nil]
            exact ⟨fun _ => hK _ _ _ (Ren.le_refl _) (.list' hL) hH, fun h => absurd rfl h⟩
          · rename_i hne
            have hne' : X ≠ [] := fun h => hne h
            have hne2 : X' ≠ [] := fun h => hne' (List.eq_nil_of_length_eq_zero (by rw [hl, h]; rfl))
            refine ⟨fun h => absurd h hne2, fun _ id hid => ?_⟩
            exact new_rn hH hr (.arr E sz _ _ (hL.append hX)) hK (f' := fun id => .own id sz 0 (M.length + X'.length) none) (fun σ a hle ha => by rw [← hl, ← k1]; exact .own _ _ _ _ _ _ ha) hid
        · cases hr
          rw [if_neg (by simp)]
          exact hK _ _ _ (Ren.le_refl _) (.list' (hL.append hX)) hH
      · cases hr
  · rename_i id s0 n c
    cases hs with
    | own _ a _ _ _ _ ha =>
      split at hr
      · rename_i E' sz' elems ho
        obtain ⟨m, hm, hel⟩ := hH.live.arr ho ha
        split at hr
        · rename_i hc
          obtain ⟨rfl, rfl, rfl, hn, hf⟩ := hc
          refine ⟨m, hm, rfl, by rw [← hel.1]; exact hn, by rw [← hl]; exact hf, ?_⟩
          split at hr
          · rename_i hb
            split at hr
            · rename_i h1 hp
              cases hr
              obtain ⟨k, rfl, hk⟩ : ∃ k, c = some k ∧ n + X.length ≤ k := by
                cases c with
                | none => cases hb
                | some k => exact ⟨k, rfl, Nat.le_of_ble_eq_true hb⟩
              refine .inr ⟨k, rfl, by rw [← hl]; exact hk, ?_⟩
              rw [← hl]
              refine hK ρ _ _ (Ren.le_refl _) (.own _ _ _ _ _ _ ha) (hH.put hp (by rw [ho]; simp) ha (.arr _ _ _ _ ?_))
              exact ((hel.take n).append hX).append (hel.drop _)
            · cases hr
          · split at hr
            · rename_i h1 hp
              refine .inl fun id' hid' => WeakR.now ?_
              have hd := hH.del hp (by rw [ho]; simp) ha
              have hdn : (O.del a) a = none := by rw [Heap.del_apply, if_pos rfl]
              have hn1 := IH.put_n hp
              have hid2 : (O.del a) id' = none := by
                rw [Heap.del_apply]; split
                · rfl
                · exact hid'
              refine new_rn hd hr (.arr _ _ _ _ ((hel.take n).append hX)) hK (f' := fun id => .own id _ 0 (n + X'.length) none) (fun σ b hle hb => by rw [← hl]; exact .own _ _ _ _ _ _ hb) hid2
            · cases hr
        · cases hr
      · cases hr
  · cases hr

theorem store_rn (hH : HR ρ fl h O O0) {sz : Nat} {v v' x x' : AV} (hv : Rn ρ v v') (hx : Rn ρ x x') (hr : storeR fl h sz v x = some (r, h')) {K : AV → Heap → Prop} (hK : KR ρ fl r h' O0 K) : ∃ O', storeA O sz v' x' = some O' ∧ K .junk O' := by
  unfold storeR at hr
  split at hr
  · rename_i id s i k
    cases hx with
    | optr _ a _ _ _ ha =>
      split at hr
      · rename_i E s' elems ho
        obtain ⟨m, hm, hel⟩ := hH.live.arr ho ha
        split at hr
        · rename_i hc
          split at hr
          · rename_i y hy
            obtain ⟨y', hy', hyy⟩ := hel.get hy
            split at hr
            · rename_i h1 hp
              cases hr
              refine ⟨O.upd a (.arr E s (m.set i (if k = 0 ∧ sz = s then v' else .agg (spliceA y'.cells k v'.cells)))), ?_, ?_⟩
              · simp only [storeA, hm]
                rw [if_pos ⟨hc.1, by rw [hv.stor]; exact hc.2.1, by rw [← hv.cells.1]; exact hc.2.2.1, hc.2.2.2⟩, hy']
              · refine hK _ _ _ (Ren.le_refl _) .junk (hH.put hp (by rw [ho]; simp) ha (.arr _ _ _ _ (hel.set ?_ i)))
                split
                · exact hv
                · exact .agg' (spliceA_rn hyy.cells hv.cells)
            · cases hr
          · cases hr
        · cases hr
      · cases hr
  · cases hr

theorem mapset_rn (hH : HR ρ fl h O O0) {ks : List Bool} {agg : Bool} {x x' k k' v v' : AV} (hx : Rn ρ x x') (hk : Rn ρ k k') (hv : Rn ρ v v') (hr : mapsetR fl h ks agg x k v = some (r, h')) {K : AV → Heap → Prop} (hK : KR ρ fl r h' O0 K) : ∃ O', mapsetA O ks agg x' k' v' = some O' ∧ K .junk O' := by
  unfold mapsetR at hr
  split at hr
  · rename_i hok
    have hok' := keyOK_rn hk hok
    split at hr
    · rename_i id
      cases hx with
      | mapr _ a ha =>
        split at hr
        · rename_i l ho
          obtain ⟨m, hm, h1, h2⟩ := hH.live.mp ho ha
          split at hr
          · rename_i i u hf
            obtain ⟨f', hf', hrf⟩ := findA_rn hk l m 0 _ h1 h2 hf
            cases hrf with
            | some _ _ u' hu =>
              split at hr
              · rename_i hh hp
                cases hr
                refine ⟨O.upd a (.mp (m.set i (k', v'))), by simp only [mapsetA, hm, hf', hok', if_true], hK _ _ _ (Ren.le_refl _) .junk (hH.put hp (by rw [ho]; simp) ha (.mp _ _ (by simp [h1]) fun j p q hp hq => ?_))⟩
                rw [List.getElem?_set] at hp hq
                by_cases hij : i = j
                · rw [if_pos hij] at hp hq
                  split at hp
                  · rw [if_pos (by rw [← h1]; assumption)] at hq
                    cases hp; cases hq; exact ⟨hk, hv⟩
                  · cases hp
                · rw [if_neg hij] at hp hq
                  exact h2 j p q hp hq
              · cases hr
          · rename_i hf
            obtain ⟨f', hf', hrf⟩ := findA_rn hk l m 0 _ h1 h2 hf
            cases hrf
            split at hr
            · rename_i hh hp
              cases hr
              refine ⟨O.upd a (.mp (m ++ [(k', v')])), by simp only [mapsetA, hm, hf', hok', if_true], hK _ _ _ (Ren.le_refl _) .junk (hH.put hp (by rw [ho]; simp) ha (.mp _ _ (by simp [h1]) fun j p q hp hq => ?_))⟩
              by_cases hj : j < l.length
              · rw [List.getElem?_append_left hj] at hp
                rw [List.getElem?_append_left (by rw [← h1]; exact hj)] at hq
                exact h2 j p q hp hq
              · rw [List.getElem?_append_right (by omega)] at hp
                rw [List.getElem?_append_right (by omega), ← h1] at hq
                cases hjl : j - l.length with
                | zero => rw [hjl] at hp hq; cases hp; cases hq; exact ⟨hk, hv⟩
                | succ z => rw [hjl] at hp; simp at hp
            · cases hr
          · cases hr
        · cases hr
    · cases hr
  · cases hr

/-- An instruction. -/
theorem ci_rn {C : FuncId → List AV → IH → Option (AV × IH)} (hC : CallOK P fl C) {ci : CI} (hc : ciC ci = true) (hH : HR ρ fl h O O0) (he : RE ρ e e') (hr : ciR C fl ci e h = some (r, h')) {K : AV → Heap → Prop} (hK : KR ρ fl r h' O0 K) : CiSem P ci e' O K := by
  have pure : ∀ r, pureI ci e h.fn = some r → (some (r, h) : Option (AV × IH)) = some (r, h') → KR ρ fl r h' O0 K → CiSem P ci e' O K := fun r h1 h2 hK => by
    cases h2
    obtain ⟨r', h3, h4⟩ := pureI_rn hH.live he hc h1
    exact pureI_sem h3 (hK _ _ _ (Ren.le_refl _) h4 hH)
  cases ci with
  | alloc E sz z =>
    have hr : new h (.arr E sz [z]) (fun id => .optr id sz 0 0) = some (r, h') := hr
    exact fun id hid => new_rn hH hr (.arr _ _ _ _ (RL.one (avC_rn hc))) hK (fun σ a _ ha => .optr _ _ _ _ _ ha) hid
  | box E sz x =>
    have hr : (if storAll sz [e.opd x] = true then new h (.arr E sz [e.opd x]) fun id => .optr id sz 0 0 else none) = some (r, h') := hr
    have hl := RL.one (he.opd x)
    split at hr
    · rename_i hs
      exact ⟨by rw [storAll_rn _ _ hl]; exact hs, fun id hid => new_rn hH hr (.arr _ _ _ _ hl) hK (fun σ a _ ha => .optr _ _ _ _ _ ha) hid⟩
    · cases hr
  | bown E sz xs =>
    have hr : (if storAll sz (xs.map e.opd) = true then new h (.arr E sz (xs.map e.opd)) fun id => .own id sz 0 xs.length (some xs.length) else none) = some (r, h') := hr
    have hl := he.opds xs
    split at hr
    · rename_i hs
      exact ⟨by rw [storAll_rn _ _ hl]; exact hs, fun id hid => new_rn hH hr (.arr _ _ _ _ hl) hK (fun σ a _ ha => .own _ _ _ _ _ _ ha) hid⟩
    · cases hr
  | store sz x v =>
    have hr : storeR fl h sz (e.opd v) (e.opd x) = some (r, h') := hr
    exact store_rn hH (he.opd v) (he.opd x) hr hK
  | call f args => exact hC f _ h r h' hr ρ O O0 _ (he.opds args) hH K hK
  | callv fx args =>
    have hx := he.opd fx
    simp only [ciR] at hr
    split at hr
    · rename_i f a b heq
      rw [heq] at hx
      generalize hy : e'.opd fx = y at hx
      cases hx with
      | clo _ _ _ a' b' k1 k2 k3 k4 =>
        exact .inl ⟨f, a', b', hy, hC f _ h r h' hr ρ O O0 _ (RL.append (RL.append ⟨k1, k3⟩ (he.opds args)) ⟨k2, k4⟩) hH K hK⟩
    · cases hr
  | cap x =>
    have hx := he.opd x
    simp only [ciR] at hr
    split at hr
    · rename_i q hq
      cases hr
      show CapSem (e'.opd x) O K
      unfold capR at hq
      split at hq
      · rename_i s0 l heq
        cases hq
        rw [heq] at hx
        generalize e'.opd x = y at hx
        cases hx with
        | list _ _ _ m k1 k2 => exact hK _ _ _ (Ren.le_refl _) (by rw [k1]; exact .val _) hH
      · rename_i heq
        cases hq
        rw [heq] at hx
        generalize e'.opd x = y at hx
        cases hx with
        | own _ b _ _ _ _ hb => exact hK _ _ _ (Ren.le_refl _) (.val _) hH
      · rename_i heq
        cases hq
        rw [heq] at hx
        rw [val_rn hx]
        exact hK _ _ _ (Ren.le_refl _) (.val _) hH
      · cases hq
    · cases hr
  | mkmap =>
    have hr : new h (.mp []) (fun id => .mapr id) = some (r, h') := hr
    exact fun id hid => new_rn hH hr (.mp _ _ rfl (fun i p q hp => by simp at hp)) hK (fun σ a _ ha => .mapr _ _ ha) hid
  | mapset ks agg x k v =>
    have hr : mapsetR fl h ks agg (e.opd x) (e.opd k) (e.opd v) = some (r, h') := hr
    exact mapset_rn hH (he.opd x) (he.opd k) (he.opd v) hr hK
  | append ow E sz bytes s x =>
    simp only [ciR] at hr
    split at hr
    · rename_i X hX
      obtain ⟨X', h1, h2⟩ := elemsA_rn hH.live (he.opd x) hX
      exact app_rn hH (he.opd s) h2 h1 hr hK
    · cases hr
  | mkslice E sz bytes zero l c =>
    simp only [ciR] at hr
    split at hr
    · rename_i n m hn hm
      split at hr
      · rename_i hcond
        exact ⟨n, m, natOf_rn (he.opd l) hn, natOf_rn (he.opd c) hm, hcond.1, hcond.2.1, hcond.2.2, fun id hid => new_rn hH hr (.arr _ _ _ _ (RL.rep (avC_rn hc) m)) hK (fun σ a _ ha => .own _ _ _ _ _ _ ha) hid⟩
      · cases hr
    · cases hr
  | appz E sz bytes zero s n =>
    simp only [ciR] at hr
    split at hr
    · rename_i m hs hm
      have hx := he.opd s
      rw [hs] at hx
      split at hr
      · rename_i hcond
        exact ⟨val_rn hx, m, natOf_rn (he.opd n) hm, hcond.1, hcond.2, fun id hid => new_rn hH hr (.arr _ _ _ _ (RL.rep (avC_rn hc) m)) hK (fun σ a _ ha => .own _ _ _ _ _ _ ha) hid⟩
      · cases hr
    · cases hr
  | _ =>
    simp only [ciR] at hr
    split at hr
    · rename_i q hq
      exact pure q hq (by cases hr; rfl) (by cases hr; exact hK)
    · cases hr
end
end Go.Ab

/- The abstract walk: the interpreter. -/
namespace Go.Ab

/-- No names of objects in it (told up to a depth). -/
def clD : Nat → AV → Bool
  | 0, _ => false
  | _ + 1, .val _ => true
  | _ + 1, .junk => true
  | f + 1, .agg l => l.all (clD f)
  | f + 1, .list _ _ l => l.all (clD f)
  | f + 1, .ref x => clD f x
  | f + 1, .tup l => l.all (clD f)
  | f + 1, .clo _ l m => l.all (clD f) && m.all (clD f)
  | _ + 1, _ => false
theorem clD_list {ρ : Ren} {f : Nat} (ih : ∀ x y, clD f x = true → Rn ρ x y → y = x) (l m : List AV) (h : l.all (clD f) = true) (hr : RL ρ l m) : m = l := by
  refine List.ext_getElem hr.1.symm fun i h1 h2 => ?_
  exact ih _ _ (List.all_eq_true.1 h _ (List.getElem_mem h2)) (hr.2 i _ _ (List.getElem?_eq_getElem h2) (List.getElem?_eq_getElem h1))
theorem clD_eq {ρ : Ren} : ∀ (f : Nat) (x y : AV), clD f x = true → Rn ρ x y → y = x
  | 0, x, y, h, _ => by cases x <;> cases h
  | f + 1, x, y, h, hr => by
    cases hr with
    | val v => rfl
    | junk => rfl
    | agg l m k1 k2 => rw [clD_list (clD_eq f) l m h ⟨k1, k2⟩]
    | list s t l m k1 k2 => rw [clD_list (clD_eq f) l m h ⟨k1, k2⟩]
    | ref a b k => rw [clD_eq f a b h k]
    | tup l m k1 k2 => rw [clD_list (clD_eq f) l m h ⟨k1, k2⟩]
    | clo fn l m l' m' k1 k2 k3 k4 =>
      have h : (l.all (clD f) && m.all (clD f)) = true := h
      rw [Bool.and_eq_true] at h
      rw [clD_list (clD_eq f) l l' h.1 ⟨k1, k3⟩, clD_list (clD_eq f) m m' h.2 ⟨k2, k4⟩]
    | _ => cases h
theorem clD_rn {ρ : Ren} : ∀ (f : Nat) (x : AV), clD f x = true → Rn ρ x x
  | 0, x, h => by cases x <;> cases h
  | f + 1, x, h => by
    have L : ∀ l : List AV, l.all (clD f) = true → RL ρ l l := fun l hl => ⟨rfl, fun i a b ha hb => by
      rw [ha] at hb
      cases hb
      exact clD_rn f a (List.all_eq_true.1 hl a (List.mem_of_getElem? ha))⟩
    cases x with
    | val v => exact .val v
    | junk => exact .junk
    | agg l => exact .agg' (L l h)
    | list s t l => exact .list' (L l h)
    | ref a => exact .ref _ _ (clD_rn f a h)
    | tup l => exact .tup' (L l h)
    | clo fn l m =>
      have h : (l.all (clD f) && m.all (clD f)) = true := h
      rw [Bool.and_eq_true] at h
      exact .clo' (L l h.1) (L m h.2)
    | _ => cases h

/-- The first name in it. -/
def firstD {α : Type} (f : α → Option Nat) : List α → Option Nat
  | [] => none
  | x :: l => match f x with
    | some k => some k
    | none => firstD f l
def fidD : Nat → AV → Option Nat
  | 0, _ => none
  | f + 1, .agg l => firstD (fidD f) l
  | f + 1, .list _ _ l => firstD (fidD f) l
  | f + 1, .tup l => firstD (fidD f) l
  | _ + 1, .own k _ _ _ _ => some k
  | _ + 1, _ => none
/-- An array that nothing writes to any more. -/
def fzD : Nat → Nat → Nat → List AV → AV → AV
  | 0, _, _, _, x => x
  | _ + 1, id, sz, el, .own id' sz' i n c => if id' = id ∧ sz' = sz ∧ i + n ≤ el.length then .list sz (decide (c = some n)) ((el.drop i).take n) else .own id' sz' i n c
  | f + 1, id, sz, el, .agg l => .agg (l.map (fzD f id sz el))
  | f + 1, id, sz, el, .list s t l => .list s t (l.map (fzD f id sz el))
  | f + 1, id, sz, el, .tup l => .tup (l.map (fzD f id sz el))
  | _ + 1, _, _, _, x => x

theorem Fz.cells {id sz : Nat} {el : List AV} {x y : AV} (h : Fz id sz el x y) : x.cells.length = y.cells.length ∧ ∀ (j : Nat) p q, x.cells[j]? = some p → y.cells[j]? = some q → Fz id sz el p q := by
  have one : ∀ {x y : AV}, x.cells = [x] → y.cells = [y] → Fz id sz el x y → x.cells.length = y.cells.length ∧ ∀ (j : Nat) p q, x.cells[j]? = some p → y.cells[j]? = some q → Fz id sz el p q := fun {x y} hx hy hz => by
    rw [hx, hy]
    refine ⟨rfl, fun j p q hp hq => ?_⟩
    cases j with
    | zero => cases hp; cases hq; exact hz
    | succ j => simp at hp
  cases h with
  | same => exact ⟨rfl, fun j p q hp hq => by rw [hp] at hq; cases hq; exact .same _⟩
  | agg l l' hl h => exact ⟨hl, h⟩
  | own i n c t h1 h2 => exact one rfl rfl (.own i n c t h1 h2)
  | tup l l' h1 h2 => exact one rfl rfl (.tup l l' h1 h2)
  | optr i x hx => exact one rfl rfl (.optr i x hx)
  | list s2 t l l' h1 h2 h3 => exact one rfl rfl (.list s2 t l l' h1 h2 h3)
  | ref x y h1 h2 => exact one rfl rfl (.ref x y h1 h2)
  | clo f l l' m m' h1 h2 h3 h4 => exact one rfl rfl (.clo f l l' m m' h1 h2 h3 h4)

theorem fz_list {σ : Ren} {g : AV → AV} {a sz : Nat} {m : List AV} (ih : ∀ x x', Rn σ x x' → ∃ x'', Fz a sz m x' x'' ∧ Rn σ (g x) x'') : ∀ (l l' : List AV), RL σ l l' → ∃ l'', l'.length = l''.length ∧ (∀ (i : Nat) x y, l'[i]? = some x → l''[i]? = some y → Fz a sz m x y) ∧ RL σ (l.map g) l''
  | [], l', h => by rw [h.inv_nil]; exact ⟨[], rfl, fun i x y hx => by simp at hx, .nil⟩
  | x :: l, l', h => by
    obtain ⟨x', l2, rfl, h1, h2⟩ := h.inv_cons
    obtain ⟨x'', k1, k2⟩ := ih x x' h1
    obtain ⟨l'', k3, k4, k5⟩ := fz_list ih l l2 h2
    refine ⟨x'' :: l'', by simp [k3], fun i p q hp hq => ?_, RL.cons k2 k5⟩
    cases i with
    | zero => cases hp; cases hq; exact k1
    | succ i => exact k4 i p q (by simpa using hp) (by simpa using hq)
theorem fzD_rn {σ : Ren} {k a sz : Nat} {el m : List AV} (ha : σ k = some a) (hl : RL σ el m) : ∀ (f : Nat) (x x' : AV), Rn σ x x' → ∃ x'', Fz a sz m x' x'' ∧ Rn σ (fzD f k sz el x) x''
  | 0, x, x', h => ⟨x', .same _, by cases x <;> exact h⟩
  | f + 1, x, x', h => by
    cases h with
    | own id id' s i n c hid =>
      show ∃ x'', Fz a sz m (.own id' s i n c) x'' ∧ Rn σ (if id = k ∧ s = sz ∧ i + n ≤ el.length then .list sz (decide (c = some n)) ((el.drop i).take n) else .own id s i n c) x''
      split
      · rename_i hc
        obtain ⟨rfl, rfl, hle⟩ := hc
        rw [ha] at hid
        cases hid
        exact ⟨_, .own i n c (decide (c = some n)) (by rw [← hl.1]; exact hle) (fun h => of_decide_eq_true h), .list' ((hl.drop i).take n)⟩
      · exact ⟨_, .same _, .own _ _ _ _ _ _ hid⟩
    | agg l l' k1 k2 =>
      obtain ⟨l'', h1, h2, h3⟩ := fz_list (fun x x' h => fzD_rn ha hl f x x' h) l l' ⟨k1, k2⟩
      exact ⟨.agg l'', .agg _ _ h1 h2, .agg' h3⟩
    | tup l l' k1 k2 =>
      obtain ⟨l'', h1, h2, h3⟩ := fz_list (fun x x' h => fzD_rn ha hl f x x' h) l l' ⟨k1, k2⟩
      exact ⟨.tup l'', .tup _ _ h1 h2, .tup' h3⟩
    | list s t l l' k1 k2 =>
      obtain ⟨l'', h1, h2, h3⟩ := fz_list (fun x x' h => fzD_rn ha hl f x x' h) l l' ⟨k1, k2⟩
      exact ⟨.list s t l'', .list s t _ _ h1 (fun i x y hx hy => (h2 i x y hx hy).cells.1) (fun i x y j p q hx hy => (h2 i x y hx hy).cells.2 j p q), .list' h3⟩
    | junk => exact ⟨_, .same _, .junk⟩
    | val v => exact ⟨_, .same _, .val v⟩
    | ref x y h => exact ⟨_, .same _, .ref _ _ h⟩
    | optr _ _ _ _ _ h => exact ⟨_, .same _, .optr _ _ _ _ _ h⟩
    | mapr _ _ h => exact ⟨_, .same _, .mapr _ _ h⟩
    | itr _ _ h => exact ⟨_, .same _, .itr _ _ h⟩
    | yld _ _ h => exact ⟨_, .same _, .yld _ _ h⟩
    | clo fn l m l' m' h1 h2 h3 h4 => exact ⟨_, .same _, .clo _ _ _ _ _ h1 h2 h3 h4⟩
    | pend E s l m c h1 h2 => exact ⟨_, .same _, .pend _ _ _ _ _ h1 h2⟩

/-- What a call that only computes returns. -/
def frz : Nat → Nat → AV → IH → Option AV
  | 0, _, _, _ => none
  | f + 1, fl, r, h => match clD 9 r with
    | true => some r
    | false => match fidD 9 r with
      | some k => match h.fn k with
        | some (.arr _ sz el) => match h.put fl k none with
          | some h1 => frz f fl (fzD 9 k sz el r) h1
          | none => none
        | _ => none
      | none => none

section
variable {P : Program} {O0 : Heap}
theorem frz_rn {fl : Nat} {V : AV} : ∀ (f : Nat) (r r' : AV) (h : IH) (σ : Ren) (O : Heap), frz f fl r h = some V → Rn σ r r' → HR σ fl h O O0 → WeakR (fun r' O' => r' = V ∧ O' = O0) r' O ∧ clD 9 V = true
  | 0, r, r', h, σ, O, hr, _, _ => by cases hr
  | f + 1, r, r', h, σ, O, hr, hrn, hH => by
    unfold frz at hr
    split at hr
    · rename_i hc
      cases hr
      exact ⟨WeakR.drop O0 hH.sub (WeakR.now ⟨clD_eq 9 _ _ hc hrn, rfl⟩), hc⟩
    · split at hr
      · rename_i k hk
        split at hr
        · rename_i E sz el ho
          split at hr
          · rename_i h1 hp
            obtain ⟨a, o', ha, ho', hro⟩ := hH.live k _ ho
            cases hro with
            | arr _ _ _ m hl =>
              obtain ⟨r'', hz, hrn2⟩ := fzD_rn (sz := sz) ha hl 9 r r' hrn
              have ih := frz_rn f _ r'' h1 σ _ hr hrn2 (hH.del hp (by rw [ho]; simp) ha)
              exact ⟨WeakR.freeze ho' hz ih.1, ih.2⟩
          · cases hr
        · cases hr
      · cases hr
theorem CallA.weak {f : FuncId} {args : List AV} {O : Heap} {K : AV → Heap → Prop} (h : CallA P f args O fun r O' => WeakR K r O') : CallA P f args O K :=
  ⟨h.1, fun g W0 w vs hI hs hv => (h.2 g W0 w vs hI hs hv).mono fun en w' ⟨v, he, g', r, O', h1, h2, h3, h4⟩ => by
    obtain ⟨g2, r2, O2, k1, k2, k3, k4⟩ := h4 _ _ _ _ h2 h3
    exact ⟨v, he, g2, r2, O2, h1.trans k1, k2, k3, k4⟩⟩
end

/-- What a name of a function stands for: its code, or what is known of it. -/
inductive Fe where
  | code (c : Cmd) (rcs : List RC) (n : Nat)
  | nat (F : List AV → Option AV)

def envT : List AV → Nat → Tr AV → Option (Tr AV)
  | [], _, t => some t
  | x :: l, i, t => match t.set 20 i (some x) with
    | some t1 => envT l (i + 1) t1
    | none => none
def leaves : Ex → Bool
  | .exit _ => true
  | _ => false
abbrev Run := Cmd → Tr AV → IH → Option (Ex × Tr AV × IH)

def callWith (Tb : FuncId → Option Fe) (R : Run) (g : FuncId) (args : List AV) (h : IH) : Option (AV × IH) := match Tb g with
  | some (.code c rcs n) => match Nat.beq args.length n with
    | true => match envT args 0 .em with
      | some e => match R c e h with
        | some (x, e1, h1) => match leaves x with
          | true => none
          | false => match resA (ev e1) h1.fn rcs with
            | some l => some (resV l, h1)
            | none => none
        | none => none
      | none => none
    | false => none
  | some (.nat F) => match args.all (clD 9) with
    | true => match F args with
      | some r => match clD 9 r with
        | true => some (r, h)
        | false => none
      | none => none
    | false => none
  | none => none

def pureWith (Tb : FuncId → Option Fe) (R : Nat → Run) (g : FuncId) (args : List AV) (h : IH) : Option AV := match callWith Tb (R h.n) g args h with
  | some (r, h1) => frz 50 h.n r h1
  | none => none

/-- Guards. -/
inductive Gd where
  | yes | no | bad
def gdOf (x : AV) (want : Bool) : Gd := match x with
  | .val (.bool b) => match b == want with
    | true => .yes
    | false => .no
  | .val (.int _ _) => .no
  | .val (.tuple _) => .no
  | _ => .bad

def opsR (C : FuncId → List AV → IH → Option (AV × IH)) (fl : Nat) : List RIns → Tr AV → IH → Option (Tr AV × IH)
  | [], e, h => some (e, h)
  | (d, none, ci) :: rest, e, h => match ciR C fl ci (ev e) h with
    | some (r, h1) => match putT e d r with
      | some e1 => opsR C fl rest e1 h1
      | none => none
    | none => none
  | (d, some (s, want), ci) :: rest, e, h => match gdOf (ev e s) want with
    | .yes => match ciR C fl ci (ev e) h with
      | some (r, h1) => match putT e d r with
        | some e1 => opsR C fl rest e1 h1
        | none => none
      | none => none
    | .no => match putT e d (.val undef) with
      | some e1 => opsR C fl rest e1 h
      | none => none
    | .bad => none

def funR (Cp : FuncId → List AV → IH → Option AV) (ci : CI) (e : Env) (h : IH) : Option AV := match ci with
  | .alloc .. => some .junk
  | .call f args => Cp f (args.map e.opd) h
  | .callv fx args => match e.opd fx with
    | .clo (.func f) a b => Cp f (a ++ args.map e.opd ++ b) h
    | _ => none
  | .append false E sz bytes s x => match elemsA h.fn sz (e.opd x) with
    | some X => match e.opd s with
      | .val (.slice none 0 0) => if fits X.length bytes then (match X with | [] => some (.val (.slice none 0 0)) | _ => some (.list sz false X)) else none
      | .list s' true L => if s' = sz ∧ fits (L.length + X.length) bytes then some (.list sz false (L ++ X)) else none
      | .pend E' s' L cp => if E' = E ∧ s' = sz ∧ fits (L.length + X.length) bytes then some (.list sz (decide (cp = some (L.length + X.length))) (L ++ X)) else none
      | _ => none
    | none => none
  | .append true E sz bytes s x => match elemsA h.fn sz (e.opd x) with
    | some X => match e.opd s with
      | .val (.slice none 0 0) => if fits X.length bytes then (match X with | [] => some (.val (.slice none 0 0)) | _ => some (.pend E sz X none)) else none
      | .list s' true L => if s' = sz ∧ fits (L.length + X.length) bytes then (match X with | [] => some (.list sz true L) | _ => some (.pend E sz (L ++ X) none)) else none
      | _ => none
    | none => none
  | .mkslice E sz bytes zero l c => match natOf (e.opd l), natOf (e.opd c) with
    | some n, some m => if n ≤ m ∧ m ≤ maxLen ∧ bytes * m ≤ 281474976710656 then some (.pend E sz (List.replicate n zero) (some m)) else none
    | _, _ => none
  | .cap x => match e.opd x with
    | .list _ true l => some (.val (.int .i64 l.length))
    | _ => none
  | .box .. => none
  | .bown .. => none
  | .store .. => none
  | .mkmap => none
  | .mapset .. => none
  | .appz .. => none
  | ci => pureI ci e h.fn

def drawR (Cp : FuncId → List AV → IH → Option AV) (h : IH) : List RIns → Tr AV → Option (Tr AV)
  | [], e => some e
  | (d, none, ci) :: rest, e => match funR Cp ci (ev e) h with
    | some r => match putT e d r with
      | some e1 => drawR Cp h rest e1
      | none => none
    | none => none
  | (d, some (s, want), ci) :: rest, e => match gdOf (ev e s) want with
    | .yes => match funR Cp ci (ev e) h with
      | some r => match putT e d r with
        | some e1 => drawR Cp h rest e1
        | none => none
      | none => none
    | .no => match putT e d (.val undef) with
      | some e1 => drawR Cp h rest e1
      | none => none
    | .bad => none

def killR : List Nat → Tr AV → Option (Tr AV)
  | [], e => some e
  | d :: L, e => match killR L e with
    | some e1 => e1.set 20 d none
    | none => none
def keepR : List Nat → Tr AV → Option (Tr AV)
  | [], _ => some .em
  | d :: L, e => match keepR L e with
    | some e1 => match e.get d with
      | some v => e1.set 20 d (some v)
      | none => e1.set 20 d none
    | none => none

def valEq : Value → Value → Bool
  | .bool a, .bool b => a == b
  | .int k a, .int k' b => decide (k = k') && decide (a = b)
  | .slice none 0 0, .slice none 0 0 => true
  | .nilFunc, .nilFunc => true
  | .map none, .map none => true
  | .pointer none, .pointer none => true
  | _, _ => false
theorem valEq_ok {x y : Value} (h : valEq x y = true) : x = y := by
  unfold valEq at h
  split at h
  · rw [eq_of_beq h]
  · rw [Bool.and_eq_true] at h
    rw [of_decide_eq_true h.1, of_decide_eq_true h.2]
  · rfl
  · rfl
  · rfl
  · rfl
  · cases h
def listEq (f : AV → AV → Bool) : List AV → List AV → Bool
  | [], [] => true
  | x :: l, y :: m => f x y && listEq f l m
  | _, _ => false
theorem listEq_ok {f : AV → AV → Bool} (hf : ∀ x y, f x y = true → x = y) : ∀ {l m : List AV}, listEq f l m = true → l = m
  | [], [], _ => rfl
  | x :: l, y :: m, h => by
    have h : (f x y && listEq f l m) = true := h
    rw [Bool.and_eq_true] at h
    rw [hf x y h.1, listEq_ok hf h.2]
  | [], _ :: _, h => by cases h
  | _ :: _, [], h => by cases h
def avEq : Nat → AV → AV → Bool
  | 0, _, _ => false
  | _ + 1, .val v, .val w => valEq v w
  | f + 1, .agg l, .agg m => listEq (avEq f) l m
  | f + 1, .tup l, .tup m => listEq (avEq f) l m
  | f + 1, .list s t l, .list s' t' m => decide (s = s') && decide (t = t') && listEq (avEq f) l m
  | f + 1, .ref x, .ref y => avEq f x y
  | _ + 1, .own a b c d e, .own a' b' c' d' e' => decide (a = a') && decide (b = b') && decide (c = c') && decide (d = d') && decide (e = e')
  | _ + 1, .optr a b c d, .optr a' b' c' d' => decide (a = a') && decide (b = b') && decide (c = c') && decide (d = d')
  | _ + 1, .mapr a, .mapr b => decide (a = b)
  | _ + 1, _, _ => false
theorem avEq_ok : ∀ (f : Nat) (x y : AV), avEq f x y = true → x = y
  | 0, x, y, h => by cases x <;> cases y <;> cases h
  | f + 1, x, y, h => by
    unfold avEq at h
    split at h
    · rename_i he; cases he
    · rw [valEq_ok h]
    · rename_i he; cases he; rw [listEq_ok (avEq_ok _) h]
    · rename_i he; cases he; rw [listEq_ok (avEq_ok _) h]
    · rename_i he
      cases he
      simp only [Bool.and_eq_true, decide_eq_true_eq] at h
      rw [h.1.1, h.1.2, listEq_ok (avEq_ok _) h.2]
    · rename_i he; cases he; rw [avEq_ok _ _ _ h]
    · simp only [Bool.and_eq_true, decide_eq_true_eq] at h
      obtain ⟨⟨⟨⟨rfl, rfl⟩, rfl⟩, rfl⟩, rfl⟩ := h
      rfl
    · simp only [Bool.and_eq_true, decide_eq_true_eq] at h
      obtain ⟨⟨⟨rfl, rfl⟩, rfl⟩, rfl⟩ := h
      rfl
    · rw [of_decide_eq_true h]
    · cases h
def chkR : List RIns → Env → IH → Bool
  | [], _, _ => true
  | (some d, _, ci) :: S, e, h => match pureI ci e h.fn with
    | some r => avEq 9 r (e d) && chkR S e h
    | none => false
  | (none, _, _) :: S, e, h => chkR S e h
def opsSR (C : FuncId → List AV → IH → Option (AV × IH)) (fl : Nat) : List (RIns × List RIns) → Tr AV → IH → Option (Tr AV × IH)
  | [], e, h => some (e, h)
  | ((d, none, ci), S) :: rest, e, h => match ciR C fl ci (ev e) h with
    | some (r, h1) => match putT e d r with
      | some e1 => match chkR S (ev e1) h1 with
        | true => opsSR C fl rest e1 h1
        | false => none
      | none => none
    | none => none
  | ((d, some (s, want), ci), S) :: rest, e, h => match gdOf (ev e s) want with
    | .yes => match ciR C fl ci (ev e) h with
      | some (r, h1) => match putT e d r with
        | some e1 => match chkR S (ev e1) h1 with
          | true => opsSR C fl rest e1 h1
          | false => none
        | none => none
      | none => none
    | .no => match putT e d (.val undef) with
      | some e1 => match chkR S (ev e1) h with
        | true => opsSR C fl rest e1 h
        | false => none
      | none => none
    | .bad => none

def cmdR (Tb : FuncId → Option Fe) : Nat → Nat → Run
  | 0, _, _, _, _ => none
  | f + 1, fl, c, e, h => match c with
    | .skip => some (.normal, e, h)
    | .reg rs => match opsR (callWith Tb (cmdR Tb f fl)) fl rs e h with
      | some (e1, h1) => some (.normal, e1, h1)
      | none => none
    | .dreg kill front post => match drawR (pureWith Tb (cmdR Tb f)) h front e with
      | some e1 => match killR kill e1 with
        | some e2 => match opsR (callWith Tb (cmdR Tb f fl)) fl post e2 h with
          | some (e3, h3) => some (.normal, e3, h3)
          | none => none
        | none => none
      | none => none
    | .sreg kill front allocs S0 tail => match drawR (pureWith Tb (cmdR Tb f)) h front e with
      | some e1 => match killR kill e1 with
        | some e2 => match opsR (callWith Tb (cmdR Tb f fl)) fl allocs e2 h with
          | some (e3, h3) => match chkR S0 (ev e3) h3 with
            | true => match opsSR (callWith Tb (cmdR Tb f fl)) fl tail e3 h3 with
              | some (e4, h4) => some (.normal, e4, h4)
              | none => none
            | false => none
          | none => none
        | none => none
      | none => none
    | .seq L a b => match cmdR Tb f fl a e h with
      | some (.normal, e1, h1) => match keepR L e1 with
        | some e2 => cmdR Tb f fl b e2 h1
        | none => none
      | r => r
    | .cond c a b => match (ev e).opd c with
      | .val (.bool true) => cmdR Tb f fl a e h
      | .val (.bool false) => cmdR Tb f fl b e h
      | _ => none
    | .block id b => match cmdR Tb f fl b e h with
      | some (.exit id', e1, h1) => match Nat.beq id' id with
        | true => some (.normal, e1, h1)
        | false => some (.exit id', e1, h1)
      | r => r
    | .loop L b => match cmdR Tb f fl b e h with
      | some (.normal, e1, h1) => match keepR L e1 with
        | some e2 => cmdR Tb f fl (.loop L b) e2 h1
        | none => none
      | r => r
    | .exit id => some (.exit id, e, h)
    | .ret => some (.ret, e, h)
    | .range .. => none

def rinsC (rs : List RIns) : Bool := rs.all fun r => ciC r.2.2
def tailC (t : List (RIns × List RIns)) : Bool := t.all fun p => ciC p.1.2.2 && rinsC p.2
def cmdC : Cmd → Bool
  | .reg rs => rinsC rs
  | .dreg _ f p => rinsC f && rinsC p
  | .sreg _ f a S t => rinsC f && rinsC a && rinsC S && tailC t
  | .seq _ a b => cmdC a && cmdC b
  | .cond _ a b => cmdC a && cmdC b
  | .block _ b => cmdC b
  | .loop _ b => cmdC b
  | _ => true

def TabOK' (P : Program) (Tb : FuncId → Option Fe) : Prop := ∀ g, match Tb g with
  | some (.code c rcs n) => FnOK P g c rcs n ∧ cmdC c = true
  | some (.nat F) => ∀ args r, F args = some r → PureA P g args r
  | none => True

section
variable {P : Program} {ρ : Ren} {fl : Nat} {h h' : IH} {O O0 : Heap} {E : Env} {e e1 : Tr AV} {r : AV}

theorem gd_rn {x y : AV} {want : Bool} {A B : Prop} (hx : Rn ρ x y) (h1 : gdOf x want = .yes → A) (h2 : gdOf x want = .no → B) (h3 : gdOf x want ≠ .bad) : guardW y want A B := by
  revert h1 h2 h3
  unfold gdOf
  split <;> intro h1 h2 h3
  · rename_i b
    rw [val_rn hx]
    cases b <;> cases want <;> simp [guardW] at h1 h2 ⊢ <;> first | exact h1 | exact h2
  · rw [val_rn hx]
    simp [guardW] at h2 ⊢
    exact h2
  · rw [val_rn hx]
    simp [guardW] at h2 ⊢
    exact h2
  · exact absurd rfl h3

theorem opsR_rn {C : FuncId → List AV → IH → Option (AV × IH)} (hC : CallOK P fl C) : ∀ (rs : List RIns) (e : Tr AV) (h : IH) (ρ : Ren) (E : Env) (O : Heap), rinsC rs = true → opsR C fl rs e h = some (e1, h') → RE ρ (ev e) E → HR ρ fl h O O0 →
    ∀ (K : Env → Heap → Prop), (∀ σ E1 O1, ρ.le σ → RE σ (ev e1) E1 → HR σ fl h' O1 O0 → K E1 O1) → opsW P rs K E O
  | [], e, h, ρ, E, O, _, hr, he, hH, K, hK => by cases hr; exact hK ρ E O (Ren.le_refl _) he hH
  | (d, none, ci) :: rest, e, h, ρ, E, O, hc, hr, he, hH, K, hK => by
    have hc : (ciC ci && rinsC rest) = true := hc
    rw [Bool.and_eq_true] at hc
    simp only [opsR] at hr
    split at hr
    · rename_i q h1 hq
      split at hr
      · rename_i e2 hp
        rw [opsW_cons]
        exact ci_rn hC hc.1 hH he hq fun σ r' O' hle hrn hH' => opsR_rn hC rest e2 h1 σ _ O' hc.2 hr ((he.mono hle).put hrn hp) hH' K fun τ E1 O1 hle2 => hK τ E1 O1 (Ren.le_trans hle hle2)
      · cases hr
    · cases hr
  | (d, some (s, want), ci) :: rest, e, h, ρ, E, O, hc, hr, he, hH, K, hK => by
    have hc : (ciC ci && rinsC rest) = true := hc
    rw [Bool.and_eq_true] at hc
    simp only [opsR] at hr
    rw [opsW_guard]
    refine gd_rn (he s) (fun hg => ?_) (fun hg => ?_) (fun hg => by rw [hg] at hr; cases hr)
    · rw [hg] at hr
      simp only [] at hr
      split at hr
      · rename_i q h1 hq
        split at hr
        · rename_i e2 hp
          exact ci_rn hC hc.1 hH he hq fun σ r' O' hle hrn hH' => opsR_rn hC rest e2 h1 σ _ O' hc.2 hr ((he.mono hle).put hrn hp) hH' K fun τ E1 O1 hle2 => hK τ E1 O1 (Ren.le_trans hle hle2)
        · cases hr
      · cases hr
    · rw [hg] at hr
      simp only [] at hr
      split at hr
      · rename_i e2 hp
        exact opsR_rn hC rest e2 h ρ _ O hc.2 hr (he.put (.val _) hp) hH K hK
      · cases hr

theorem chk_rn (hH : RH ρ h.fn O) {e : Env} (he : RE ρ e E) : ∀ (S : List RIns), rinsC S = true → chkR S e h = true → chk S E O
  | [], _, _ => trivial
  | (some d, gd, ci) :: S, hc, hr => by
    have hc : (ciC ci && rinsC S) = true := hc
    rw [Bool.and_eq_true] at hc
    simp only [chkR] at hr
    split at hr
    · rename_i r hq
      rw [Bool.and_eq_true] at hr
      obtain ⟨r', h1, h2⟩ := pureI_rn hH he hc.1 hq
      have he1 := avEq_ok 9 _ _ hr.1
      rw [he1] at h2
      exact ⟨by rw [h1, h2.fn (he d)], chk_rn hH he S hc.2 hr.2⟩
    · cases hr
  | (none, gd, ci) :: S, hc, hr => by
    have hc : (ciC ci && rinsC S) = true := hc
    rw [Bool.and_eq_true] at hc
    exact chk_rn hH he S hc.2 hr
theorem opsSR_rn {C : FuncId → List AV → IH → Option (AV × IH)} (hC : CallOK P fl C) : ∀ (rs : List (RIns × List RIns)) (e : Tr AV) (h : IH) (ρ : Ren) (E : Env) (O : Heap), tailC rs = true → opsSR C fl rs e h = some (e1, h') → RE ρ (ev e) E → HR ρ fl h O O0 →
    ∀ (K : Env → Heap → Prop), (∀ σ E1 O1, ρ.le σ → RE σ (ev e1) E1 → HR σ fl h' O1 O0 → K E1 O1) → opsS P rs K E O
  | [], e, h, ρ, E, O, _, hr, he, hH, K, hK => by cases hr; exact hK ρ E O (Ren.le_refl _) he hH
  | ((d, none, ci), S) :: rest, e, h, ρ, E, O, hc, hr, he, hH, K, hK => by
    have hc : ((ciC ci && rinsC S) && tailC rest) = true := hc
    rw [Bool.and_eq_true, Bool.and_eq_true] at hc
    simp only [opsSR] at hr
    split at hr
    · rename_i q h1 hq
      split at hr
      · rename_i e2 hp
        split at hr
        · rename_i hch
          rw [opsS_cons]
          refine ci_rn hC hc.1.1 hH he hq fun σ r' O' hle hrn hH' => ?_
          have hE2 := (he.mono hle).put hrn hp
          exact ⟨chk_rn hH'.live hE2 S hc.1.2 hch, opsSR_rn hC rest e2 h1 σ _ O' hc.2 hr hE2 hH' K fun τ E1 O1 hle2 => hK τ E1 O1 (Ren.le_trans hle hle2)⟩
        · cases hr
      · cases hr
    · cases hr
  | ((d, some (s, want), ci), S) :: rest, e, h, ρ, E, O, hc, hr, he, hH, K, hK => by
    have hc : ((ciC ci && rinsC S) && tailC rest) = true := hc
    rw [Bool.and_eq_true, Bool.and_eq_true] at hc
    simp only [opsSR] at hr
    rw [opsS_guard]
    refine gd_rn (he s) (fun hg => ?_) (fun hg => ?_) (fun hg => by rw [hg] at hr; cases hr)
    · rw [hg] at hr
      simp only [] at hr
      split at hr
      · rename_i q h1 hq
        split at hr
        · rename_i e2 hp
          split at hr
          · rename_i hch
            refine ci_rn hC hc.1.1 hH he hq fun σ r' O' hle hrn hH' => ?_
            have hE2 := (he.mono hle).put hrn hp
            exact ⟨chk_rn hH'.live hE2 S hc.1.2 hch, opsSR_rn hC rest e2 h1 σ _ O' hc.2 hr hE2 hH' K fun τ E1 O1 hle2 => hK τ E1 O1 (Ren.le_trans hle hle2)⟩
          · cases hr
        · cases hr
      · cases hr
    · rw [hg] at hr
      simp only [] at hr
      split at hr
      · rename_i e2 hp
        split at hr
        · rename_i hch
          have hE2 := he.put (.val _) hp
          exact ⟨chk_rn hH.live hE2 S hc.1.2 hch, opsSR_rn hC rest e2 h ρ _ O hc.2 hr hE2 hH K hK⟩
        · cases hr
      · cases hr

/-- Calls that only compute. -/
def PureOK (P : Program) (Cp : FuncId → List AV → IH → Option AV) : Prop :=
  ∀ f args h V, Cp f args h = some V → (∀ ρ, Rn ρ V V) ∧ ∀ ρ fl O O0 args', RL ρ args args' → HR ρ fl h O O0 → PureAt P f args' O V

theorem fun_rn {Cp : FuncId → List AV → IH → Option AV} (hC : PureOK P Cp) {ci : CI} (hc : ciC ci = true) {e : Env} (hH : HR ρ fl h O O0) (he : RE ρ e E) (hr : funR Cp ci e h = some r) : ∃ r', drawFun P ci E O r' ∧ Rn ρ r r' := by
  cases ci with
  | alloc => cases hr; exact ⟨_, rfl, .junk⟩
  | call f args =>
    obtain ⟨h1, h2⟩ := hC f _ h r hr
    exact ⟨r, h2 ρ fl O O0 _ (he.opds args) hH, h1 ρ⟩
  | callv fx args =>
    have hx := he.opd fx
    simp only [funR] at hr
    split at hr
    · rename_i f a b heq
      rw [heq] at hx
      generalize hy : E.opd fx = y at hx
      cases hx with
      | clo _ _ _ a' b' k1 k2 k3 k4 =>
        obtain ⟨h1, h2⟩ := hC f _ h r hr
        exact ⟨r, ⟨f, a', b', hy, h2 ρ fl O O0 _ (RL.append (RL.append ⟨k1, k3⟩ (he.opds args)) ⟨k2, k4⟩) hH⟩, h1 ρ⟩
    · cases hr
  | append ow E0 sz bytes s x =>
    cases ow with
    | false =>
      simp only [funR] at hr
      split at hr
      · rename_i X hX
        obtain ⟨X', h1, h2⟩ := elemsA_rn hH.live (he.opd x) hX
        have hs := he.opd s
        show ∃ r', AppendPure E0 sz bytes (E.opd s) (E.opd x) O r' ∧ _
        split at hr
        · rename_i heq
          rw [heq] at hs
          rw [val_rn hs]
          split at hr
          · rename_i hf
            split at hr
            · cases hr
              rw [h2.inv_nil] at h1
              exact ⟨_, ⟨[], h1, hf, by rw [if_pos rfl]⟩, .val _⟩
            · rename_i hne
              cases hr
              have hne' : X ≠ [] := fun h => hne h
              have hne2 : X' ≠ [] := fun h => hne' (List.eq_nil_of_length_eq_zero (by rw [h2.1, h]; rfl))
              exact ⟨_, ⟨X', h1, by rw [← h2.1]; exact hf, by rw [if_neg hne2]⟩, .list' h2⟩
          · cases hr
        · rename_i s' L heq
          rw [heq] at hs
          generalize E.opd s = y at hs
          cases hs with
          | list _ _ _ M k1 k2 =>
            split at hr
            · rename_i hcond
              cases hr
              exact ⟨_, ⟨X', h1, hcond.1, by rw [← h2.1, ← k1]; exact hcond.2, rfl⟩, .list' (RL.append ⟨k1, k2⟩ h2)⟩
            · cases hr
        · rename_i E' s' L cp heq
          rw [heq] at hs
          generalize E.opd s = y at hs
          cases hs with
          | pend _ _ _ M _ k1 k2 =>
            split at hr
            · rename_i hcond
              cases hr
              exact ⟨_, ⟨X', h1, hcond.1, hcond.2.1, by rw [← h2.1, ← k1]; exact hcond.2.2, rfl⟩, by rw [← h2.1, ← k1]; exact .list' (RL.append ⟨k1, k2⟩ h2)⟩
            · cases hr
        · cases hr
      · cases hr
    | true =>
      simp only [funR] at hr
      split at hr
      · rename_i X hX
        obtain ⟨X', h1, h2⟩ := elemsA_rn hH.live (he.opd x) hX
        have hs := he.opd s
        show ∃ r', AppendPend E0 sz bytes (E.opd s) (E.opd x) O r' ∧ _
        split at hr
        · rename_i heq
          rw [heq] at hs
          rw [val_rn hs]
          split at hr
          · rename_i hf
            split at hr
            · cases hr
              rw [h2.inv_nil] at h1
              exact ⟨_, ⟨[], h1, hf, by rw [if_pos rfl]⟩, .val _⟩
            · rename_i hne
              cases hr
              have hne' : X ≠ [] := fun h => hne h
              have hne2 : X' ≠ [] := fun h => hne' (List.eq_nil_of_length_eq_zero (by rw [h2.1, h]; rfl))
              exact ⟨_, ⟨X', h1, by rw [← h2.1]; exact hf, by rw [if_neg hne2]⟩, .pend _ _ _ _ _ h2.1 h2.2⟩
          · cases hr
        · rename_i s' L heq
          rw [heq] at hs
          generalize E.opd s = y at hs
          cases hs with
          | list _ _ _ M k1 k2 =>
            split at hr
            · rename_i hcond
              split at hr
              · cases hr
                rw [h2.inv_nil] at h1
                exact ⟨_, ⟨[], h1, hcond.1, by rw [← k1]; exact hcond.2, by rw [if_pos rfl]⟩, .list' ⟨k1, k2⟩⟩
              · rename_i hne
                cases hr
                have hne' : X ≠ [] := fun h => hne h
                have hne2 : X' ≠ [] := fun h => hne' (List.eq_nil_of_length_eq_zero (by rw [h2.1, h]; rfl))
                have ha := RL.append ⟨k1, k2⟩ h2
                exact ⟨_, ⟨X', h1, hcond.1, by rw [← h2.1, ← k1]; exact hcond.2, by rw [if_neg hne2]⟩, .pend _ _ _ _ _ ha.1 ha.2⟩
            · cases hr
        · cases hr
      · cases hr
  | mkslice E0 sz bytes zero l c =>
    simp only [funR] at hr
    split at hr
    · rename_i n m hn hm
      split at hr
      · rename_i hcond
        cases hr
        have ha := RL.rep (avC_rn (ρ := ρ) hc) n
        exact ⟨_, ⟨n, m, natOf_rn (he.opd l) hn, natOf_rn (he.opd c) hm, hcond.1, hcond.2.1, hcond.2.2, rfl⟩, .pend _ _ _ _ _ ha.1 ha.2⟩
      · cases hr
    · cases hr
  | cap x =>
    have hx := he.opd x
    simp only [funR] at hr
    split at hr
    · rename_i s0 l heq
      cases hr
      rw [heq] at hx
      generalize hy : E.opd x = y at hx
      cases hx with
      | list _ _ _ m k1 k2 => exact ⟨_, ⟨_, _, hy, rfl⟩, by rw [k1]; exact .val _⟩
    · cases hr
  | box => cases hr
  | bown => cases hr
  | store => cases hr
  | mkmap => cases hr
  | mapset => cases hr
  | appz => cases hr
  | _ => exact pureI_rn hH.live he hc hr

theorem drawR_rn {Cp : FuncId → List AV → IH → Option AV} (hC : PureOK P Cp) (hH : HR ρ fl h O O0) : ∀ (rs : List RIns) (e : Tr AV) (E : Env), rinsC rs = true → drawR Cp h rs e = some e1 → RE ρ (ev e) E → ∀ (K : Env → Prop), (∀ E1, RE ρ (ev e1) E1 → K E1) → drawW P rs K E O
  | [], e, E, _, hr, he, K, hK => by cases hr; exact hK E he
  | (d, none, ci) :: rest, e, E, hc, hr, he, K, hK => by
    have hc : (ciC ci && rinsC rest) = true := hc
    rw [Bool.and_eq_true] at hc
    simp only [drawR] at hr
    split at hr
    · rename_i q hq
      split at hr
      · rename_i e2 hp
        obtain ⟨r', h1, h2⟩ := fun_rn hC hc.1 hH he hq
        exact ⟨r', h1, drawR_rn hC hH rest e2 _ hc.2 hr (he.put h2 hp) K hK⟩
      · cases hr
    · cases hr
  | (d, some (s, want), ci) :: rest, e, E, hc, hr, he, K, hK => by
    have hc : (ciC ci && rinsC rest) = true := hc
    rw [Bool.and_eq_true] at hc
    simp only [drawR] at hr
    refine gd_rn (he s) (fun hg => ?_) (fun hg => ?_) (fun hg => by rw [hg] at hr; cases hr)
    · rw [hg] at hr
      simp only [] at hr
      split at hr
      · rename_i q hq
        split at hr
        · rename_i e2 hp
          obtain ⟨r', h1, h2⟩ := fun_rn hC hc.1 hH he hq
          exact ⟨r', h1, drawR_rn hC hH rest e2 _ hc.2 hr (he.put h2 hp) K hK⟩
        · cases hr
      · cases hr
    · rw [hg] at hr
      simp only [] at hr
      split at hr
      · rename_i e2 hp
        exact drawR_rn hC hH rest e2 _ hc.2 hr (he.put (.val _) hp) K hK
      · cases hr

theorem kill_rn : ∀ (L : List Nat) (e e1 : Tr AV) (E : Env), killR L e = some e1 → RE ρ (ev e) E → RE ρ (ev e1) (killE L E)
  | [], e, e1, E, hr, he => by cases hr; exact he
  | d :: L, e, e1, E, hr, he => by
    simp only [killR] at hr
    split at hr
    · rename_i e2 h2
      rw [ev_set hr]
      exact (kill_rn L e e2 E h2 he).upd .junk d
    · cases hr
theorem keep_rn : ∀ (L : List Nat) (e e1 : Tr AV) (E : Env), keepR L e = some e1 → RE ρ (ev e) E → RE ρ (ev e1) (keepE L E)
  | [], e, e1, E, hr, he => by cases hr; exact fun t => .junk
  | d :: L, e, e1, E, hr, he => by
    simp only [keepR] at hr
    split at hr
    · rename_i e2 h2
      have hd := he d
      unfold ev at hd
      split at hr
      · rename_i v hv
        rw [hv] at hd
        rw [ev_set hr]
        exact (keep_rn L e e2 E h2 he).upd hd d
      · rename_i hv
        rw [hv] at hd
        rw [ev_set hr]
        exact (keep_rn L e e2 E h2 he).upd hd d
    · cases hr

def RunOK (P : Program) (fl : Nat) (R : Run) : Prop := ∀ c e h x e1 h1, cmdC c = true → R c e h = some (x, e1, h1) → ∀ ρ E O O0, RE ρ (ev e) E → HR ρ fl h O O0 → ∀ (K : Kont), (∀ σ E1 O1, ρ.le σ → RE σ (ev e1) E1 → HR σ fl h1 O1 O0 → K x E1 O1) → cmdW P c K E O

theorem resA_rn (hH : RH ρ h.fn O) {e : Env} (he : RE ρ e E) : ∀ (rcs : List RC) (l : List AV), resA e h.fn rcs = some l → ∃ l', resA E O rcs = some l' ∧ RL ρ l l'
  | [], l, hr => by cases hr; exact ⟨[], rfl, .nil⟩
  | .tmp t :: rcs, l, hr => by
    simp only [resA] at hr ⊢
    split at hr
    · rename_i l1 h1
      cases hr
      obtain ⟨l', k1, k2⟩ := resA_rn hH he rcs l1 h1
      rw [k1]
      exact ⟨_, rfl, RL.cons (he t) k2⟩
    · cases hr
  | .cell agg sz t :: rcs, l, hr => by
    simp only [resA] at hr ⊢
    split at hr
    · rename_i x l1 hx h1
      cases hr
      obtain ⟨l', k1, k2⟩ := resA_rn hH he rcs l1 h1
      obtain ⟨x', k3, k4⟩ := loadA_rn hH (he t) hx
      rw [k1, k3]
      exact ⟨_, rfl, RL.cons k4 k2⟩
    · cases hr
theorem resV_rn {l l' : List AV} (hl : RL ρ l l') : Rn ρ (resV l) (resV l') := by
  cases l with
  | nil => rw [hl.inv_nil]; exact .tup' .nil
  | cons x l =>
    obtain ⟨y, m, rfl, h1, h2⟩ := hl.inv_cons
    cases l with
    | nil => rw [h2.inv_nil]; exact h1
    | cons z l =>
      obtain ⟨y2, m2, rfl, h3, h4⟩ := h2.inv_cons
      exact .tup' (RL.cons h1 (RL.cons h3 h4))
theorem envT_rn : ∀ (l l' : List AV) (i : Nat) (t t' : Tr AV) (E : Env), envT l i t = some t' → RL ρ l l' → RE ρ (ev t) E → RE ρ (ev t') fun k => if k < i then E k else match l'[k - i]? with | some x => x | none => E k
  | [], l', i, t, t', E, hr, hl, he => by
    cases hr
    rw [hl.inv_nil]
    intro k
    simp
    exact he k
  | x :: l, l', i, t, t', E, hr, hl, he => by
    obtain ⟨y, m, rfl, h1, h2⟩ := hl.inv_cons
    simp only [envT] at hr
    split at hr
    · rename_i t1 ht
      have := envT_rn l m (i + 1) t1 t' (E.upd i y) hr h2 (by rw [ev_set ht]; exact he.upd h1 i)
      intro k
      show Rn ρ (ev t' k) (if k < i then E k else match (y :: m)[k - i]? with | some x => x | none => E k)
      have hk : Rn ρ (ev t' k) (if k < i + 1 then E.upd i y k else match m[k - (i + 1)]? with | some x => x | none => E.upd i y k) := this k
      by_cases hki : k < i
      · rw [if_pos hki]
        rw [if_pos (by omega), Env.upd_ne _ _ (by omega)] at hk
        exact hk
      · rw [if_neg hki]
        by_cases hke : k = i
        · subst hke
          rw [if_pos (by omega), Env.upd_same] at hk
          simpa using hk
        · rw [if_neg (by omega), Env.upd_ne _ _ hke, show k - (i + 1) = (k - i) - 1 by omega] at hk
          rw [show k - i = (k - i - 1) + 1 by omega, List.getElem?_cons_succ]
          exact hk
    · cases hr

theorem call_rn (hmix : P.follows .mixedOrders = true) {Tb : FuncId → Option Fe} (hT : TabOK' P Tb) {R : Run} (hR : RunOK P fl R) {g : FuncId} {args args' : List AV} (hr : callWith Tb R g args h = some (r, h')) (ha : RL ρ args args') (hH : HR ρ fl h O O0) {K : AV → Heap → Prop} (hK : KR ρ fl r h' O0 fun r O => WeakR K r O) : CallA P g args' O K := by
  have ht := hT g
  unfold callWith at hr
  split at hr
  · rename_i c rcs n heq
    rw [heq] at ht
    obtain ⟨hf, hc⟩ := ht
    split at hr
    · rename_i hlen
      have hlen := Nat.eq_of_beq_eq_true hlen
      split at hr
      · rename_i e0 he0
        split at hr
        · rename_i x e1 h1 hx
          split at hr
          · cases hr
          · rename_i hlv
            split at hr
            · rename_i l hl
              cases hr
              rw [← hlen, ha.1] at hf
              refine hf.call hmix ?_
              have hE : RE ρ (ev e0) (envOf args') := by
                have := envT_rn args args' 0 .em e0 (fun _ => .junk) he0 ha (fun t => .junk)
                intro k
                have hk := this k
                simp only [Nat.not_lt_zero, if_false, Nat.sub_zero] at hk
                unfold envOf
                rw [List.getD_eq_getElem?_getD]
                cases hq : args'[k]? with
                | none => rw [hq] at hk; exact hk
                | some y => rw [hq] at hk; exact hk
              refine hR c e0 h x e1 h' hc hx ρ _ O O0 hE hH _ fun σ E1 O1 hle hE1 hH1 => ?_
              have fin : WeakE (retF rcs K) E1 O1 := by
                obtain ⟨l', k1, k2⟩ := resA_rn hH1.live hE1 rcs l hl
                exact WeakE.now ⟨l', k1, hK σ _ _ hle (resV_rn k2) hH1⟩
              cases x with
              | normal => exact fin
              | ret => exact fin
              | exit id => cases hlv
            · cases hr
        · cases hr
      · cases hr
    · cases hr
  · rename_i F heq
    rw [heq] at ht
    split at hr
    · rename_i hcl
      split at hr
      · rename_i q hq
        split at hr
        · rename_i hcq
          cases hr
          have : args' = args := clD_list (clD_eq 9) args args' hcl ha
          subst this
          exact CallA.weak ((ht _ _ hq).use (hK ρ _ _ (Ren.le_refl _) (clD_rn 9 _ hcq) hH))
        · cases hr
      · cases hr
    · cases hr
  · cases hr

theorem callOK (hmix : P.follows .mixedOrders = true) {Tb : FuncId → Option Fe} (hT : TabOK' P Tb) {R : Run} (hR : RunOK P fl R) : CallOK P fl (callWith Tb R) :=
  fun f args h r h' hr ρ O O0 args' ha hH K hK => call_rn hmix hT hR hr ha hH fun σ r' O' h1 h2 h3 => WeakR.now (hK σ r' O' h1 h2 h3)
end
end Go.Ab

/- The abstract walk: the interpreter is sound. -/
namespace Go.Ab
theorem frz_cl {fl : Nat} {V : AV} : ∀ (f : Nat) (r : AV) (h : IH), frz f fl r h = some V → clD 9 V = true
  | 0, r, h, hr => by cases hr
  | f + 1, r, h, hr => by
    unfold frz at hr
    split at hr
    · rename_i hc; cases hr; exact hc
    · split at hr
      · split at hr
        · split at hr
          · exact frz_cl f _ _ hr
          · cases hr
        · cases hr
      · cases hr

section
variable {P : Program} {ρ : Ren} {fl : Nat} {h h' : IH} {O O0 : Heap} {E : Env} {e e1 : Tr AV} {r : AV}
theorem pureOK (hmix : P.follows .mixedOrders = true) {Tb : FuncId → Option Fe} (hT : TabOK' P Tb) {R : Nat → Run} (hR : ∀ fl, RunOK P fl (R fl)) : PureOK P (pureWith Tb R) := fun f args h V hr => by
  unfold pureWith at hr
  split at hr
  · rename_i r h1 hc
    have key : ∀ ρ fl O O0 args', RL ρ args args' → HR ρ fl h O O0 → ∀ O2, O.sub O2 → CallA P f args' O2 fun r' O' => r' = V ∧ O' = O2 := fun ρ fl O O0 args' ha hH O2 hs =>
      call_rn hmix hT (hR h.n) hc ha (hH.hold hs) fun σ r' O' hle hrn hH' => (frz_rn 50 r r' h1 σ O' hr hrn hH').1
    exact ⟨fun ρ => clD_rn 9 _ (frz_cl 50 r h1 hr), fun ρ fl O O0 args' ha hH O2 hs => key ρ fl O O0 args' ha hH O2 hs⟩
  · cases hr

/-- The interpreter is sound. -/
theorem cmdR_ok (hmix : P.follows .mixedOrders = true) {Tb : FuncId → Option Fe} (hT : TabOK' P Tb) : ∀ (N f : Nat), f < N → ∀ fl, RunOK P fl (cmdR Tb f fl)
  | 0, f, hf, _ => by omega
  | N + 1, 0, hf, fl => fun c e h x e1 h1 _ hr => by cases hr
  | N + 1, f + 1, hf, fl => fun c e h x e1 h1 hc hr ρ E O O0 he hH K hK => by
    have ih := cmdR_ok hmix hT N
    have ihf : ∀ fl, RunOK P fl (cmdR Tb f fl) := ih f (by omega)
    cases c with
    | skip => cases hr; exact hK ρ E O (Ren.le_refl _) he hH
    | reg rs =>
      simp only [cmdR] at hr
      split at hr
      · rename_i e2 h2 ho
        cases hr
        exact opsR_rn (callOK hmix hT (ihf fl)) rs e h ρ E O hc ho he hH _ hK
      · cases hr
    | dreg kill front post =>
      have hc : (rinsC front && rinsC post) = true := hc
      rw [Bool.and_eq_true] at hc
      simp only [cmdR] at hr
      split at hr
      · rename_i e2 hd
        split at hr
        · rename_i e3 hk
          split at hr
          · rename_i e4 h4 ho
            cases hr
            exact drawR_rn (pureOK hmix hT ihf) hH front e E hc.1 hd he _ fun E1 hE1 => opsR_rn (callOK hmix hT (ihf fl)) post e3 h ρ _ O hc.2 ho (kill_rn kill e2 e3 E1 hk hE1) hH _ hK
          · cases hr
        · cases hr
      · cases hr
    | sreg kill front allocs S0 tail =>
      have hc : (rinsC front && rinsC allocs && rinsC S0 && tailC tail) = true := hc
      rw [Bool.and_eq_true, Bool.and_eq_true, Bool.and_eq_true] at hc
      obtain ⟨⟨⟨c1, c2⟩, c3⟩, c4⟩ := hc
      simp only [cmdR] at hr
      split at hr
      · rename_i e2 hd
        split at hr
        · rename_i e3 hk
          split at hr
          · rename_i e4 h4 ho
            split at hr
            · rename_i hch
              split at hr
              · rename_i e5 h5 ho2
                cases hr
                exact drawR_rn (pureOK hmix hT ihf) hH front e E c1 hd he _ fun E1 hE1 => opsR_rn (callOK hmix hT (ihf fl)) allocs e3 h ρ _ O c2 ho (kill_rn kill e2 e3 E1 hk hE1) hH _ fun σ E2 O2 hle hE2 hH2 =>
                  ⟨chk_rn hH2.live hE2 S0 c3 hch, opsSR_rn (callOK hmix hT (ihf fl)) tail e4 h4 σ _ O2 c4 ho2 hE2 hH2 _ fun τ E3 O3 hle2 => hK τ E3 O3 (Ren.le_trans hle hle2)⟩
              · cases hr
            · cases hr
          · cases hr
        · cases hr
      · cases hr
    | seq L a b =>
      have hc : (cmdC a && cmdC b) = true := hc
      rw [Bool.and_eq_true] at hc
      simp only [cmdR] at hr
      show cmdW P a (seqK L K (cmdW P b K)) E O
      split at hr
      · rename_i e2 h2 ha
        split at hr
        · rename_i e3 hk
          refine ihf fl a e h _ e2 h2 hc.1 ha ρ E O O0 he hH _ fun σ E1 O1 hle hE hH1 => ?_
          exact WeakE.keep L (ihf fl b e3 h2 x e1 h1 hc.2 hr σ _ O1 O0 (keep_rn L e2 e3 E1 hk hE) hH1 K fun τ E2 O2 hle2 => hK τ E2 O2 (Ren.le_trans hle hle2))
        · cases hr
      · rename_i hne
        refine ihf fl a e h x e1 h1 hc.1 hr ρ E O O0 he hH _ fun σ E1 O1 hle hE hH1 => ?_
        cases x with
        | normal => exact absurd hr (hne e1 h1)
        | exit id => exact hK σ E1 O1 hle hE hH1
        | ret => exact hK σ E1 O1 hle hE hH1
    | cond c a b =>
      have hc : (cmdC a && cmdC b) = true := hc
      rw [Bool.and_eq_true] at hc
      have hx := he.opd c
      simp only [cmdR] at hr
      show condW (E.opd c) (cmdW P a K E O) (cmdW P b K E O)
      split at hr
      · rename_i heq
        rw [heq] at hx
        rw [val_rn hx]
        exact ⟨fun _ => ihf fl a e h x e1 h1 hc.1 hr ρ E O O0 he hH K hK, fun h => by cases h⟩
      · rename_i heq
        rw [heq] at hx
        rw [val_rn hx]
        exact ⟨fun h => (by cases h), fun _ => ihf fl b e h x e1 h1 hc.2 hr ρ E O O0 he hH K hK⟩
      · cases hr
    | block id b =>
      have hc : cmdC b = true := hc
      simp only [cmdR] at hr
      show cmdW P b (blockK id K) E O
      split at hr
      · rename_i id' e2 h2 hb
        refine ihf fl b e h _ e2 h2 hc hb ρ E O O0 he hH _ fun σ E1 O1 hle hE hH1 => ?_
        show (if id' = id then K .normal else K (.exit id')) E1 O1
        split at hr
        · rename_i hq
          rw [if_pos (Nat.eq_of_beq_eq_true hq)]
          cases hr
          exact hK σ E1 O1 hle hE hH1
        · rename_i hq
          rw [if_neg (fun h => by rw [h, Nat.beq_refl] at hq; cases hq)]
          cases hr
          exact hK σ E1 O1 hle hE hH1
      · rename_i hne
        refine ihf fl b e h x e1 h1 hc hr ρ E O O0 he hH _ fun σ E1 O1 hle hE hH1 => ?_
        cases x with
        | normal => exact hK σ E1 O1 hle hE hH1
        | exit id' => exact absurd hr (hne id' e1 h1)
        | ret => exact hK σ E1 O1 hle hE hH1
    | loop L b =>
      have hcb : cmdC b = true := hc
      refine ⟨fun m E O => m ≤ f + 1 ∧ ∃ ρ' e h, ρ.le ρ' ∧ RE ρ' (ev e) E ∧ HR ρ' fl h O O0 ∧ cmdR Tb m fl (.loop L b) e h = some (x, e1, h1), f + 1, ⟨Nat.le_refl _, ρ, e, h, Ren.le_refl _, he, hH, hr⟩, fun m E O ⟨hm, ρ', e, h, hle, he, hH, hr⟩ => ?_⟩
      cases m with
      | zero => cases hr
      | succ m =>
        simp only [cmdR] at hr
        split at hr
        · rename_i e2 h2 hb
          split at hr
          · rename_i e3 hk
            refine ih m (by omega) fl b e h _ e2 h2 hcb hb ρ' E O O0 he hH _ fun σ E1 O1 hle2 hE hH1 => ?_
            exact WeakE.keep L ⟨m, by omega, by omega, σ, e3, h2, Ren.le_trans hle hle2, keep_rn L e2 e3 E1 hk hE, hH1, hr⟩
          · cases hr
        · rename_i hne
          refine ih m (by omega) fl b e h x e1 h1 hcb hr ρ' E O O0 he hH _ fun σ E1 O1 hle2 hE hH1 => ?_
          cases x with
          | normal => exact absurd hr (hne e1 h1)
          | exit id => exact hK σ E1 O1 (Ren.le_trans hle hle2) hE hH1
          | ret => exact hK σ E1 O1 (Ren.le_trans hle hle2) hE hH1
    | exit id => cases hr; exact hK ρ E O (Ren.le_refl _) he hH
    | ret => cases hr; exact hK ρ E O (Ren.le_refl _) he hH
    | range => cases hr

def lookT : List (FuncId × Fe) → FuncId → Option Fe
  | [], _ => none
  | (k, x) :: l, g => match Nat.beq k g with
    | true => some x
    | false => lookT l g
def FeOK (P : Program) : FuncId × Fe → Prop
  | (g, .code c rcs n) => FnOK P g c rcs n ∧ cmdC c = true
  | (g, .nat F) => ∀ args r, F args = some r → PureA P g args r
theorem lookT_mem : ∀ {l : List (FuncId × Fe)} {g : FuncId} {x : Fe}, lookT l g = some x → (g, x) ∈ l
  | (k, y) :: l, g, x, h => by
    simp only [lookT] at h
    split at h
    · rename_i hb
      cases h
      rw [Nat.eq_of_beq_eq_true hb]
      exact List.mem_cons_self
    · exact List.mem_cons_of_mem _ (lookT_mem h)
theorem lookT_ok {l : List (FuncId × Fe)} (h : ∀ p ∈ l, FeOK P p) : TabOK' P (lookT l) := fun g => by
  cases hq : lookT l g with
  | none => trivial
  | some x =>
    have := h _ (lookT_mem hq)
    cases x with
    | code c rcs n => exact this
    | nat F => exact this

/-- A function that the interpreter has run. -/
theorem run_ok (hmix : P.follows .mixedOrders = true) {Tb : FuncId → Option Fe} (hT : TabOK' P Tb) (f : Nat) {g : FuncId} {args : List AV} {V : AV} (ha : args.all (clD 9) = true) (hr : pureWith Tb (cmdR Tb f) g args ⟨.em, 0⟩ = some V) : PureA P g args V := fun O => by
  have h0 : HR (fun _ => none) 0 ⟨.em, 0⟩ O O := ⟨fun k o ho => (by cases ho), fun k j a hk => absurd rfl hk, fun _ _ h => h, fun k a _ hk => absurd rfl hk, fun _ _ => rfl⟩
  have hl : RL (fun _ => none) args args := ⟨rfl, fun i x y hx hy => by
    rw [hx] at hy
    cases hy
    exact clD_rn 9 x (List.all_eq_true.1 ha x (List.mem_of_getElem? hx))⟩
  exact (pureOK hmix hT (fun fl => cmdR_ok hmix hT (f + 1) f (by omega) fl) g args _ V hr).2 _ 0 O O args hl h0 O (fun _ _ h => h)
/-- Calls whose results are known. -/
def natTab : List (List AV × AV) → List AV → Option AV
  | [], _ => none
  | (a, r) :: l, args => match listEq (avEq 9) a args with
    | true => some r
    | false => natTab l args
theorem natTab_ok {P : Program} {g : FuncId} : ∀ {l : List (List AV × AV)}, (∀ p ∈ l, PureA P g p.1 p.2) → ∀ (args : List AV) (r : AV), natTab l args = some r → PureA P g args r
  | [], _, args, r, h => by cases h
  | (a, x) :: l, hl, args, r, h => by
    simp only [natTab] at h
    split at h
    · rename_i hq
      cases h
      rw [← listEq_ok (avEq_ok 9) hq]
      exact hl _ List.mem_cons_self
    · exact natTab_ok (fun p hp => hl p (List.mem_cons_of_mem _ hp)) args r h
end
end Go.Ab

/- The abstract walk: an array that nothing writes to any more, and of which an object tells. -/
namespace Go.Ab
end Go.Ab
