/- The law OrdersBetween of the given program: for every input the call returns true, and its arguments read as before. Here: the walk over abstract states. -/
import Derived.WalkKit
import Derived.CallsIn
import Derived.Lib.AppendZerosOnto
import Derived.MapKept
import Derived.RangeFuncRecord
import Derived.Laws.BytesString
import Derived.Scope
import Derived.ControlIn
set_option linter.unusedSimpArgs false
set_option linter.unusedVariables false
/- The abstract walk, first part: abstract values, the ghost store, what a concrete value has to do with an abstract one, and how the relation is kept when the world changes. -/
namespace Go.Ab

/-- Abstract values. -/
inductive AV where
  | junk
  | val (v : Value)
  | agg (l : List AV)
  | list (sz : Nat) (tight : Bool) (l : List AV)
  | ref (x : AV)
  | own (id sz i len : Nat) (cap : Option Nat)
  | optr (id sz i k : Nat)
  | mapr (id : Nat)
  | itr (id : Nat)
  | yld (id : Nat)
  | clo (f : Fn) (first cap : List AV)
  | tup (l : List AV)
  | pend (E sz : Nat) (l : List AV) (cp : Option Nat)

def AV.cells : AV → List AV
  | .agg l => l
  | x => [x]

/-- May be stored: each of its cells is one cell. -/
def AV.stor : AV → Bool
  | .junk => false
  | .tup _ => false
  | .val v => v.oneCell'
  | _ => true

/-- The ghost: cells that never change again; where the objects with names lie, and how many elements they have room for. -/
structure Gh where
  c : Nat → Nat → Option Value
  m : Nat → Option (Nat × Nat)
  d : Nat → Prop
  s : Nat

structure Gh.le (g h : Gh) : Prop where
  c : ∀ b o v, g.c b o = some v → h.c b o = some v
  m : ∀ i x, g.m i = some x → h.m i = some x
  d : ∀ b, g.d b → h.d b
  s : h.s = g.s

theorem Gh.le.refl (g : Gh) : g.le g := ⟨fun _ _ _ h => h, fun _ _ h => h, fun _ h => h, rfl⟩
theorem Gh.le.trans {a b c : Gh} (h : a.le b) (k : b.le c) : a.le c := ⟨fun x y z e => k.c x y z (h.c x y z e), fun x y e => k.m x y (h.m x y e), fun b e => k.d b (h.d b e), k.s.trans h.s⟩

inductive Reads (g : Gh) : AV → Value → Prop
  | junk (v : Value) : Reads g .junk v
  | val (v : Value) : Reads g (.val v) v
  | agg (l : List AV) (cs : Array Value) (hl : cs.size = l.length) (h1 : ∀ (i : Nat) v, cs[i]? = some v → v.oneCell' = true)
      (h : ∀ (i : Nat) x v, l[i]? = some x → cs[i]? = some v → Reads g x v) : Reads g (.agg l) (.agg cs)
  | list (sz : Nat) (t : Bool) (l : List AV) (b off cap : Nat) (vs : Nat → Nat → Value) (h1 : l.length ≤ cap) (h2 : t = true → cap = l.length) (h3 : cap ≤ maxLen)
      (h4 : ∀ (i : Nat) x, l[i]? = some x → x.cells.length = sz)
      (h5 : ∀ (i : Nat) x (j : Nat) y, l[i]? = some x → x.cells[j]? = some y → g.c b (off + (i * sz + j)) = some (vs i j))
      (h6 : ∀ (i : Nat) x (j : Nat) y, l[i]? = some x → x.cells[j]? = some y → Reads g y (vs i j)) :
      Reads g (.list sz t l) (.slice (some ⟨b, off, none⟩) l.length cap)
  | listE (sz : Nat) (t : Bool) (a : Addr) : Reads g (.list sz t []) (.slice (some a) 0 0)
  | ref (x : AV) (b off : Nat) (vs : Nat → Value)
      (h5 : ∀ (j : Nat) y, x.cells[j]? = some y → g.c b (off + j) = some (vs j))
      (h6 : ∀ (j : Nat) y, x.cells[j]? = some y → Reads g y (vs j)) :
      Reads g (.ref x) (.pointer (some ⟨b, off, none⟩))
  | own (id sz i len : Nat) (cap : Option Nat) (b room off c : Nat) (h0 : g.m id = some (b, room)) (h1 : c = 0 ∨ off = i * sz) (h2 : len ≤ c) (h3 : i + c ≤ room)
      (h4 : ∀ k, cap = some k → c = k) (h5 : c ≤ maxLen) : Reads g (.own id sz i len cap) (.slice (some ⟨b, off, none⟩) len c)
  | optr (id sz i k b room : Nat) (h0 : g.m id = some (b, room)) : Reads g (.optr id sz i k) (.pointer (some ⟨b, i * sz + k, none⟩))
  | mapr (id b room : Nat) (h0 : g.m id = some (b, room)) : Reads g (.mapr id) (.map (some b))
  | itr (id b room : Nat) (h0 : g.m id = some (b, room)) : Reads g (.itr id) (.pointer (some ⟨b, 0, none⟩))
  | yld (id b room : Nat) (h0 : g.m id = some (b, room)) : Reads g (.yld id) (.func (.yield b) #[] #[])
  | clo (f : Fn) (l m : List AV) (cs ds : Array Value) (hl : cs.size = l.length) (hm : ds.size = m.length)
      (h : ∀ (i : Nat) x v, l[i]? = some x → cs[i]? = some v → Reads g x v)
      (h' : ∀ (i : Nat) x v, m[i]? = some x → ds[i]? = some v → Reads g x v) : Reads g (.clo f l m) (.func f cs ds)
  | tup (l : List AV) (cs : Array Value) (hl : cs.size = l.length)
      (h : ∀ (i : Nat) x v, l[i]? = some x → cs[i]? = some v → Reads g x v) : Reads g (.tup l) (.tuple cs)

theorem Reads.mono' {g h : Gh} (hlc : ∀ b o v, g.c b o = some v → h.c b o = some v) (hlm : ∀ i x, g.m i = some x → h.m i = some x) {x : AV} {v : Value} (hr : Reads g x v) : Reads h x v := by
  induction hr with
  | junk v => exact .junk v
  | val v => exact .val v
  | agg l cs hl h1 _ ih => exact .agg l cs hl h1 ih
  | list sz t l b off cap vs h1 h2 h3 h4 h5 _ ih => exact .list sz t l b off cap vs h1 h2 h3 h4 (fun i x j y a b => hlc _ _ _ (h5 i x j y a b)) ih
  | listE sz t a => exact .listE sz t a
  | ref x b off vs h5 _ ih => exact .ref x b off vs (fun j y a => hlc _ _ _ (h5 j y a)) ih
  | own id sz i len cap b room off c h0 h1 h2 h3 h4 h5 => exact .own id sz i len cap b room off c (hlm _ _ h0) h1 h2 h3 h4 h5
  | optr id sz i k b room h0 => exact .optr id sz i k b room (hlm _ _ h0)
  | mapr id b room h0 => exact .mapr id b room (hlm _ _ h0)
  | itr id b room h0 => exact .itr id b room (hlm _ _ h0)
  | yld id b room h0 => exact .yld id b room (hlm _ _ h0)
  | clo f l m cs ds hl hm _ _ ih ih' => exact .clo f l m cs ds hl hm ih ih'
  | tup l cs hl _ ih => exact .tup l cs hl ih

theorem Reads.mono {g h : Gh} (hle : g.le h) {x : AV} {v : Value} (hr : Reads g x v) : Reads h x v := hr.mono' hle.c hle.m

/-- Objects that a walk owns. -/
inductive AObj where
  | arr (E : TypeId) (sz : Nat) (elems : List AV)
  | raw (o : Obj)
  | mp (es : List (AV × AV))
  | rcd (st : LoopState) (pd : Option Code) (ps : Array Tmp) (asg body : Code) (n : Nat) (e : Nat → AV)

abbrev Heap := Nat → Option AObj
def Heap.upd (O : Heap) (i : Nat) (o : AObj) : Heap := fun j => if j = i then some o else O j
def Heap.del (O : Heap) (i : Nat) : Heap := fun j => if j = i then none else O j

theorem Heap.upd_apply (O : Heap) (i : Nat) (o : AObj) (j : Nat) : O.upd i o j = if j = i then some o else O j := rfl
theorem Heap.upd_same (O : Heap) (i : Nat) (o : AObj) : O.upd i o i = some o := if_pos rfl
theorem Heap.upd_ne (O : Heap) {i j : Nat} (o : AObj) (h : j ≠ i) : O.upd i o j = O j := if_neg h
theorem Heap.del_apply (O : Heap) (i j : Nat) : O.del i j = if j = i then none else O j := rfl
theorem Heap.del_ne (O : Heap) {i j : Nat} (h : j ≠ i) : O.del i j = O j := if_neg h

def notCells : Obj → Bool
  | .cells .. => false
  | .deferred _ => false
  | _ => true

/-- What is in memory of an object that lies at block b and has room for r elements. -/
def ObjAt (w : World) (g : Gh) (b r : Nat) : AObj → Prop
  | .arr E sz elems => ∃ cs : Array Value, w.heap[b]? = some (.cells cs E (0, 0)) ∧ cs.size = r * sz ∧ elems.length ≤ r ∧ (∀ (i : Nat) x, elems[i]? = some x → x.cells.length = sz) ∧
      ∀ (i : Nat) x (j : Nat) y, elems[i]? = some x → x.cells[j]? = some y → ∃ v, cs[i * sz + j]? = some v ∧ v.oneCell' = true ∧ Reads g y v
  | .raw o => w.heap[b]? = some o ∧ notCells o = true
  | .mp l => ∃ es clock, w.heap[b]? = some (.map es clock) ∧ es.size = l.length ∧ ∀ (i : Nat) p en, l[i]? = some p → es[i]? = some en → Reads g p.1 en.key ∧ Reads g p.2 en.val
  | .rcd st pd ps asg body n e => ∃ L : Loop, w.heap[b]? = some (.loop L) ∧ L.state = st ∧ L.pending = pd ∧ L.params = ps ∧ L.assign = asg ∧ L.body = body ∧ L.tmps.size = n ∧ ∀ t, Reads g (e t) (L.tmps.getD t undef)

theorem ObjAt.mono' {w w' : World} {g h : Gh} {b r : Nat} {o : AObj} (hlc : ∀ b o v, g.c b o = some v → h.c b o = some v) (hlm : ∀ i x, g.m i = some x → h.m i = some x) (hw : w'.heap[b]? = w.heap[b]?) (ho : ObjAt w g b r o) : ObjAt w' h b r o := by
  cases o with
  | arr E sz elems =>
    obtain ⟨cs, h1, h2, h3, h4, h5⟩ := ho
    refine ⟨cs, hw.trans h1, h2, h3, h4, fun i x j y a b => ?_⟩
    obtain ⟨v, p, q, r⟩ := h5 i x j y a b
    exact ⟨v, p, q, r.mono' hlc hlm⟩
  | raw o => exact ⟨hw.trans ho.1, ho.2⟩
  | mp l =>
    obtain ⟨es, cl, h1, h2, h3⟩ := ho
    exact ⟨es, cl, hw.trans h1, h2, fun i p en a b => ⟨(h3 i p en a b).1.mono' hlc hlm, (h3 i p en a b).2.mono' hlc hlm⟩⟩
  | rcd st pd ps asg body n e =>
    obtain ⟨L, h1, h2, h3, h4, h5, h6, h7, h8⟩ := ho
    exact ⟨L, hw.trans h1, h2, h3, h4, h5, h6, h7, fun t => (h8 t).mono' hlc hlm⟩
theorem ObjAt.mono {w w' : World} {g h : Gh} {b r : Nat} {o : AObj} (hle : g.le h) (hw : w'.heap[b]? = w.heap[b]?) (ho : ObjAt w g b r o) : ObjAt w' h b r o := ho.mono' hle.c hle.m hw

theorem ObjAt.lt {w : World} {g : Gh} {b r : Nat} {o : AObj} (ho : ObjAt w g b r o) : b < w.heap.size := by
  cases o with
  | arr E sz elems => obtain ⟨cs, h1, _⟩ := ho; exact (Array.getElem?_eq_some_iff.1 h1).1
  | raw o => exact (Array.getElem?_eq_some_iff.1 ho.1).1
  | mp l => obtain ⟨es, cl, h1, _⟩ := ho; exact (Array.getElem?_eq_some_iff.1 h1).1
  | rcd st pd ps asg body n e => obtain ⟨L, h1, _⟩ := ho; exact (Array.getElem?_eq_some_iff.1 h1).1
theorem ObjAt.not_mark {w : World} {g : Gh} {b r : Nat} {o : AObj} (ho : ObjAt w g b r o) : w.heap[b]? ≠ some (.deferred (some [])) := by
  intro h
  cases o with
  | arr E sz elems => obtain ⟨cs, h1, _⟩ := ho; rw [h] at h1; cases h1
  | raw o => obtain ⟨h1, h2⟩ := ho; rw [h] at h1; cases h1; cases h2
  | mp l => obtain ⟨es, cl, h1, _⟩ := ho; rw [h] at h1; cases h1
  | rcd st pd ps asg body n e => obtain ⟨L, h1, _⟩ := ho; rw [h] at h1; cases h1

structure Inv (W0 : World) (g : Gh) (O : Heap) (w : World) : Prop where
  below : RowKit.Below W0.heap.size W0 w
  cell : ∀ b o v, g.c b o = some v → w.cell? ⟨b, o, none⟩ = some v ∧ v.oneCell' = true
  free : ∃ N, ∀ i, N ≤ i → g.m i = none
  obj : ∀ i o, O i = some o → ∃ b r, g.m i = some (b, r) ∧ W0.heap.size ≤ b ∧ (∀ k, g.c b k = none) ∧ ObjAt w g b r o
  inj : ∀ i j o o' b r r', O i = some o → O j = some o' → g.m i = some (b, r) → g.m j = some (b, r') → i = j
  marks : ∀ b, g.d b → w.heap[b]? = some (.deferred (some [])) ∧ W0.heap.size ≤ b
  grow : g.s ≤ w.heap.size

theorem Inv.fresh {W0 : World} {g : Gh} {O : Heap} {w : World} (h : Inv W0 g O w) : ∃ i, g.m i = none ∧ O i = none := by
  obtain ⟨N, hN⟩ := h.free
  refine ⟨N, hN N (Nat.le_refl _), ?_⟩
  cases ho : O N with
  | none => rfl
  | some o =>
    obtain ⟨b, r, hm, _⟩ := h.obj N o ho
    rw [hN N (Nat.le_refl _)] at hm
    cases hm

theorem Inv.drop {W0 : World} {g : Gh} {O O' : Heap} {w : World} (h : Inv W0 g O w) (hs : ∀ i o, O' i = some o → O i = some o) : Inv W0 g O' w :=
  ⟨h.below, h.cell, h.free, fun i o ho => h.obj i o (hs i o ho), fun i j o o' b r r' hi hj => h.inj i j o o' b r r' (hs _ _ hi) (hs _ _ hj), h.marks, h.grow⟩

/-- The world has changed at blocks alone that are neither old, nor in the ghost, nor an object's. -/
theorem Inv.step {W0 : World} {g : Gh} {O : Heap} {w w' : World} (h : Inv W0 g O w) (hb : RowKit.Below W0.heap.size w w')
    (hc : ∀ b o v, g.c b o = some v → w'.cell? ⟨b, o, none⟩ = w.cell? ⟨b, o, none⟩)
    (ho : ∀ i o b r, O i = some o → g.m i = some (b, r) → w'.heap[b]? = w.heap[b]?) (hm : ∀ b, g.d b → w'.heap[b]? = w.heap[b]?) : Inv W0 g O w' := by
  refine ⟨h.below.trans hb, fun b o v hv => ?_, h.free, fun i o hi => ?_, h.inj, fun b hd => ⟨(hm b hd).trans (h.marks b hd).1, (h.marks b hd).2⟩, Nat.le_trans h.grow hb.size⟩
  · rw [hc b o v hv]; exact h.cell b o v hv
  · obtain ⟨b, r, hm, h1, h2, h3⟩ := h.obj i o hi
    exact ⟨b, r, hm, h1, h2, h3.mono (Gh.le.refl g) (ho i o b r hi hm)⟩

theorem Inv.drew {W0 : World} {g : Gh} {O : Heap} {w : World} (h : Inv W0 g O w) : Inv W0 g O w.drew :=
  h.step (RowKit.Below.drew (RowKit.Below.refl _ _)) (fun _ _ _ _ => rfl) (fun _ _ _ _ _ _ => rfl) (fun _ _ => rfl)

theorem Inv.alloc {W0 : World} {g : Gh} {O : Heap} {w : World} (h : Inv W0 g O w) (o : Obj) : Inv W0 g O (w.alloc o) := by
  refine h.step (RowKit.Below.alloc (RowKit.Below.refl _ _) h.below.size o) (fun b o' v hv => ?_) (fun i o' b r hi hm => ?_) (fun b hd => RowKit.Below.heap_alloc w o b (Array.getElem?_eq_some_iff.1 (h.marks b hd).1).1)
  · exact World.cell?_alloc_lt w o ⟨b, o', none⟩ (World.block_lt_of_cell? w _ (h.cell b o' v hv).1)
  · obtain ⟨b', r', hm', _, _, h3⟩ := h.obj i o' hi
    rw [hm] at hm'
    cases hm'
    exact RowKit.Below.heap_alloc w o b h3.lt

/-- A name for a new block. -/
def Gh.name (g : Gh) (i b r : Nat) : Gh := { g with m := fun j => if j = i then some (b, r) else g.m j }
theorem Gh.name_le {g : Gh} {i b r : Nat} (h : g.m i = none) : g.le (g.name i b r) :=
  ⟨fun _ _ _ e => e, fun j x e => (by
    show (if j = i then some (b, r) else g.m j) = some x
    by_cases hj : j = i
    · subst hj; rw [h] at e; cases e
    · rw [if_neg hj]; exact e), fun _ e => e, rfl⟩

/-- A new object in a new block. -/
theorem Inv.new {W0 : World} {g : Gh} {O : Heap} {w : World} (h : Inv W0 g O w) {i b r : Nat} (hi : g.m i = none) (ao : AObj)
    (hb : W0.heap.size ≤ b) (hc : ∀ k, g.c b k = none) (hfr : ∀ j o r', O j = some o → g.m j = some (b, r') → False)
    (ho : ObjAt w (g.name i b r) b r ao) : Inv W0 (g.name i b r) (O.upd i ao) w := by
  have hle := Gh.name_le (b := b) (r := r) hi
  have hne : ∀ j o, O j = some o → j ≠ i := fun j o hj e => by
    obtain ⟨b', r', hm, _⟩ := h.obj j o hj
    rw [e, hi] at hm; cases hm
  refine ⟨h.below, fun b' o v hv => h.cell b' o v hv, ?_, fun j o hj => ?_, fun j k o o' b1 r1 r2 hj hk mj mk => ?_, h.marks, h.grow⟩
  · obtain ⟨N, hN⟩ := h.free
    refine ⟨max N (i + 1), fun j hj => ?_⟩
    show (if j = i then some (b, r) else g.m j) = none
    rw [if_neg (by omega)]
    exact hN j (by omega)
  · by_cases hji : j = i
    · subst hji
      rw [Heap.upd_same] at hj
      cases hj
      exact ⟨b, r, if_pos rfl, hb, hc, ho⟩
    · rw [Heap.upd_ne O ao hji] at hj
      obtain ⟨b', r', hm, h1, h2, h3⟩ := h.obj j o hj
      exact ⟨b', r', hle.m _ _ hm, h1, h2, h3.mono hle rfl⟩
  · have mj' : (if j = i then some (b, r) else g.m j) = some (b1, r1) := mj
    have mk' : (if k = i then some (b, r) else g.m k) = some (b1, r2) := mk
    by_cases hji : j = i
    · by_cases hki : k = i
      · exact hji.trans hki.symm
      · rw [if_pos hji] at mj'
        rw [if_neg hki] at mk'
        rw [Heap.upd_ne O ao hki] at hk
        cases mj'
        exact (hfr k o' r2 hk mk').elim
    · rw [if_neg hji] at mj'
      rw [Heap.upd_ne O ao hji] at hj
      by_cases hki : k = i
      · rw [if_pos hki] at mk'
        cases mk'
        exact (hfr j o r1 hj mj').elim
      · rw [if_neg hki] at mk'
        rw [Heap.upd_ne O ao hki] at hk
        exact h.inj j k o o' b1 r1 r2 hj hk mj' mk'

/-- A block with no cells of the ghost and no object. -/
theorem Inv.newBlock {W0 : World} {g : Gh} {O : Heap} {w : World} (h : Inv W0 g O w) : (∀ k, g.c w.heap.size k = none) ∧ ∀ j o r', O j = some o → g.m j = some (w.heap.size, r') → False := by
  constructor
  · intro k
    cases hc : g.c w.heap.size k with
    | none => rfl
    | some v => exact absurd (World.block_lt_of_cell? w _ (h.cell _ _ _ hc).1) (Nat.lt_irrefl _)
  · intro j o r' hj hm
    obtain ⟨b, r, hm', _, _, h3⟩ := h.obj j o hj
    rw [hm] at hm'
    cases hm'
    exact Nat.lt_irrefl _ h3.lt

/-- More cells that never change again, in a block without an object. -/
def Gh.freeze (g : Gh) (b : Nat) (f : Nat → Option Value) : Gh := { g with c := fun b' o => if b' = b then (match g.c b o with | some v => some v | none => f o) else g.c b' o }

theorem Gh.freeze_le (g : Gh) (b : Nat) (f : Nat → Option Value) : g.le (g.freeze b f) := by
  refine ⟨fun b' o v e => ?_, fun _ _ e => e, fun _ e => e, rfl⟩
  show (if b' = b then (match g.c b o with | some v => some v | none => f o) else g.c b' o) = some v
  by_cases hb : b' = b
  · subst hb; rw [if_pos rfl, e]
  · rw [if_neg hb]; exact e

theorem Gh.freeze_new {g : Gh} {b : Nat} {f : Nat → Option Value} (h : ∀ k, g.c b k = none) (o : Nat) : (g.freeze b f).c b o = f o := by
  show (if b = b then (match g.c b o with | some v => some v | none => f o) else g.c b o) = f o
  rw [if_pos rfl, h o]

theorem Inv.freeze {W0 : World} {g : Gh} {O : Heap} {w : World} (h : Inv W0 g O w) {b : Nat} {f : Nat → Option Value}
    (hf : ∀ o v, f o = some v → w.cell? ⟨b, o, none⟩ = some v ∧ v.oneCell' = true) (hfr : ∀ j o r', O j = some o → g.m j = some (b, r') → False) : Inv W0 (g.freeze b f) O w := by
  have hle := Gh.freeze_le g b f
  refine ⟨h.below, fun b' o v hv => ?_, h.free, fun j o hj => ?_, h.inj, h.marks, h.grow⟩
  · have hv' : (if b' = b then (match g.c b o with | some v => some v | none => f o) else g.c b' o) = some v := hv
    by_cases hb : b' = b
    · subst hb
      rw [if_pos rfl] at hv'
      cases hg : g.c b' o with
      | some u => rw [hg] at hv'; cases hv'; exact h.cell _ _ _ hg
      | none => rw [hg] at hv'; exact hf o v hv'
    · rw [if_neg hb] at hv'; exact h.cell _ _ _ hv'
  · obtain ⟨b', r', hm, h1, h2, h3⟩ := h.obj j o hj
    refine ⟨b', r', hm, h1, fun k => ?_, h3.mono hle rfl⟩
    show (if b' = b then (match g.c b k with | some v => some v | none => f k) else g.c b' k) = none
    rw [if_neg (fun e => by subst e; exact hfr j o r' hj hm)]
    exact h2 k

/-- The world has changed at the block of one object, which is another one now. -/
theorem Inv.change {W0 : World} {g : Gh} {O : Heap} {w w' : World} (h : Inv W0 g O w) {i b r : Nat} {o ao : AObj} (hi : O i = some o) (hm : g.m i = some (b, r))
    (h1 : w'.os = w.os) (h2 : w'.tape = w.tape) (h3 : w'.output = w.output) (h4 : w'.heap.size = w.heap.size) (h5 : ∀ k, k ≠ b → w'.heap[k]? = w.heap[k]?)
    (ho : ObjAt w' g b r ao) : Inv W0 g (O.upd i ao) w' := by
  obtain ⟨b', r', hm', hb, hc, h3'⟩ := h.obj i o hi
  rw [hm] at hm'
  cases hm'
  have hbl : RowKit.Below W0.heap.size w w' := ⟨h1, h2, h3, by omega, fun k hk => h5 k (by omega)⟩
  refine ⟨h.below.trans hbl, fun b' o' v hv => ?_, h.free, fun j o' hj => ?_, fun j k o1 o2 b1 r1 r2 hj hk mj mk => ?_, fun b' hd => ⟨(h5 b' (fun e => h3'.not_mark (e ▸ (h.marks b' hd).1))).trans (h.marks b' hd).1, (h.marks b' hd).2⟩, by rw [h4]; exact h.grow⟩
  · have hne : b' ≠ b := fun e => by rw [e, hc o'] at hv; cases hv
    have : w'.cell? ⟨b', o', none⟩ = w.cell? ⟨b', o', none⟩ := World.cell?_of_block (w := w) (h5 b' hne)
    rw [this]
    exact h.cell _ _ _ hv
  · by_cases hji : j = i
    · subst hji
      rw [Heap.upd_same] at hj
      cases hj
      exact ⟨b, r, hm, hb, hc, ho⟩
    · rw [Heap.upd_ne O ao hji] at hj
      obtain ⟨b', r', hm', q1, q2, q3⟩ := h.obj j o' hj
      refine ⟨b', r', hm', q1, q2, q3.mono (Gh.le.refl g) (h5 b' (fun e => ?_))⟩
      subst e
      exact hji (h.inj j i o' o b' r' r hj hi hm' hm)
  · have key : ∀ l x, O.upd i ao l = some x → ∃ y, O l = some y := fun l x hl => by
      by_cases hli : l = i
      · subst hli; exact ⟨o, hi⟩
      · rw [Heap.upd_ne O ao hli] at hl; exact ⟨x, hl⟩
    obtain ⟨y1, e1⟩ := key j o1 hj
    obtain ⟨y2, e2⟩ := key k o2 hk
    exact h.inj j k y1 y2 b1 r1 r2 e1 e2 mj mk

/-- Fewer marks, another beginning. -/
theorem Inv.less {W0 : World} {g : Gh} {O : Heap} {w : World} (h : Inv W0 g O w) (D : Nat → Prop) (S : Nat) (hS : S ≤ w.heap.size) (hD : ∀ b, D b → g.d b) : Inv W0 { g with d := D, s := S } O w :=
  ⟨h.below, h.cell, h.free, fun i o hi => let ⟨b, r, h1, h2, h3, h4⟩ := h.obj i o hi; ⟨b, r, h1, h2, h3, ObjAt.mono' (g := g) (h := { g with d := D, s := S }) (w := w) (fun _ _ _ e => e) (fun _ _ e => e) rfl h4⟩, h.inj, fun b hb => h.marks b (hD b hb), hS⟩

end Go.Ab

/- The abstract walk, second part: the instructions that the walk knows, what each does to an abstract state, and how they are read off the program's own operations. -/
namespace Go.Ab

abbrev Env := Nat → AV
def Env.upd (e : Env) (d : Nat) (x : AV) : Env := fun t => if t = d then x else e t
def Env.put (e : Env) (d : Option Nat) (x : AV) : Env := match d with | some d => e.upd d x | none => e
def Env.opd (e : Env) : Operand → AV
  | .tmp t => e t
  | .const v => .val v
  | .global g => .val (.pointer (some ⟨g, 0, none⟩))
  | .func f => .clo (.func f) [] []

theorem Env.upd_apply (e : Env) (d : Nat) (x : AV) (t : Nat) : e.upd d x t = if t = d then x else e t := rfl
theorem Env.upd_same (e : Env) (d : Nat) (x : AV) : e.upd d x d = x := if_pos rfl
theorem Env.upd_ne (e : Env) {d t : Nat} (x : AV) (h : t ≠ d) : e.upd d x t = e t := if_neg h

inductive CI where
  | mv (x : Operand)
  | pick (c a b : Operand)
  | alloc (E : TypeId) (sz : Nat) (zero : AV)
  | box (E : TypeId) (sz : Nat) (x : Operand)
  | build (zero : List AV) (parts : List (Nat × Nat × Operand))
  | blist (sz : Nat) (xs : List Operand)
  | bown (E : TypeId) (sz : Nat) (xs : List Operand)
  | load (agg : Bool) (sz : Nat) (x : Operand)
  | store (sz : Nat) (x v : Operand)
  | nilchk (x : Operand)
  | bin (op : BinOp) (x y : Operand)
  | binb (neg : Bool) (x y : Operand)
  | eqagg (neg : Bool) (ks : List Bool) (x y : Operand)
  | eqnil (kind : Nat) (neg : Bool) (x : Operand)
  | un (op : UnOp) (x : Operand)
  | convi (k : IntKind) (x : Operand)
  | mkfn (fn : Fn) (first cap : List Operand)
  | fieldA (off sz : Nat) (agg : Bool) (x : Operand)
  | field (off sz : Nat) (agg : Bool) (x : Operand)
  | indexA (esz : Nat) (x i : Operand)
  | indexP (len esz : Nat) (eagg : Bool) (x i : Operand)
  | index (len esz : Nat) (eagg : Bool) (x i : Operand)
  | slice (esz : Nat) (x : Operand) (lo hi mx : Option Operand)
  | extract (x : Operand) (i : Nat)
  | call (f : FuncId) (args : List Operand)
  | callv (f : Operand) (args : List Operand)
  | len (x : Operand)
  | lenm (x : Operand)
  | cap (x : Operand)
  | append (own : Bool) (E : TypeId) (sz bytes : Nat) (s x : Operand)
  | mkslice (E : TypeId) (sz bytes : Nat) (zero : AV) (l c : Operand)
  | maxmin (max : Bool) (x y : Operand)
  | dead
  | maxl (max : Bool) (xs : List Operand)
  | str (op : BinOp) (x y : Operand)
  | bstr (x : Operand)
  | slen (x : Operand)
  | mkmap
  | lookup (ok : Bool) (ks : List Bool) (agg : Bool) (zero : AV) (x k : Operand)
  | mapset (ks : List Bool) (agg : Bool) (x k v : Operand)
  | appz (E : TypeId) (sz bytes : Nat) (zero : AV) (s n : Operand)

def subA (l : List AV) (off n : Nat) (agg : Bool) : Option AV :=
  if agg then (if off + n ≤ l.length then some (.agg ((l.drop off).take n)) else none) else if n = 1 then l[off]? else none

def isAggA : AV → Bool
  | .agg _ => true
  | _ => false

/-- A part of an element: the whole of it stays as it is written. -/
def partA (x : AV) (off n : Nat) (agg : Bool) : Option AV :=
  if off = 0 ∧ agg = true ∧ isAggA x = true ∧ x.cells.length = n then some x else subA x.cells off n agg

def spliceA (l : List AV) (k : Nat) (m : List AV) : List AV := l.take k ++ m ++ l.drop (k + m.length)

def fillA : List AV → List (Nat × Nat × AV) → Option (List AV)
  | l, [] => some l
  | l, (off, n, x) :: rest => if x.cells.length = n ∧ x.stor = true ∧ off + n ≤ l.length then fillA (spliceA l off x.cells) rest else none

def loadA (O : Heap) (agg : Bool) (sz : Nat) : AV → Option AV
  | .ref x => partA x 0 sz agg
  | .optr id s i k => match O id with
    | some (.arr _ s' elems) => if s = s' ∧ k + sz ≤ s then (match elems[i]? with | some x => partA x k sz agg | none => none) else none
    | _ => none
  | _ => none

def storeA (O : Heap) (sz : Nat) (v : AV) : AV → Option Heap
  | .optr id s i k => match O id with
    | some (.arr E s' elems) => if s = s' ∧ v.stor = true ∧ v.cells.length = sz ∧ k + sz ≤ s then (match elems[i]? with
      | some x => some (O.upd id (.arr E s (elems.set i (if k = 0 ∧ sz = s then v else .agg (spliceA x.cells k v.cells)))))
      | none => none) else none
    | _ => none
  | _ => none

def bitsA (op : BinOp) (k : IntKind) (x y : Int) : Option Int :=
  let a := BitVec.ofInt k.bits x
  let b := BitVec.ofInt k.bits y
  match op with
  | .and => some (k.wrap (a &&& b).toNat)
  | .or => some (k.wrap (a ||| b).toNat)
  | .xor => some (k.wrap (a ^^^ b).toNat)
  | .andNot => some (k.wrap (a &&& ~~~b).toNat)
  | _ => none

def intA (op : BinOp) (k : IntKind) (a b : Int) : Option AV :=
  match op with
  | .add => some (.val (.int k (k.wrap (a + b))))
  | .sub => some (.val (.int k (k.wrap (a - b))))
  | .mul => some (.val (.int k (k.wrap (a * b))))
  | .quo => if b = 0 then none else some (.val (.int k (k.wrap (a.tdiv b))))
  | .rem => if b = 0 then none else some (.val (.int k (a.tmod b)))
  | .eql => some (.val (.bool (a == b)))
  | .neq => some (.val (.bool (a != b)))
  | .lss => some (.val (.bool (decide (a < b))))
  | .leq => some (.val (.bool (decide (a ≤ b))))
  | .gtr => some (.val (.bool (decide (a > b))))
  | .geq => some (.val (.bool (decide (a ≥ b))))
  | .and => (bitsA .and k a b).map fun n => .val (.int k n)
  | .or => (bitsA .or k a b).map fun n => .val (.int k n)
  | .xor => (bitsA .xor k a b).map fun n => .val (.int k n)
  | .andNot => (bitsA .andNot k a b).map fun n => .val (.int k n)
  | .shl | .shr => none

def shiftA (op : BinOp) (k : IntKind) (a b : Int) : Option AV :=
  if b < 0 then none else
  match op with
  | .shl => some (.val (.int k (k.wrap (a * 2 ^ (min b.toNat k.bits)))))
  | .shr => some (.val (.int k (a.fdiv (2 ^ (min b.toNat k.bits)))))
  | _ => none

def binA (op : BinOp) : AV → AV → Option AV
  | .val (.int k a), .val (.int k' b) => match op with
    | .shl => shiftA .shl k a b
    | .shr => shiftA .shr k a b
    | op => if k = k' then intA op k a b else none
  | _, _ => none

def binbA (neg : Bool) : AV → AV → Option AV
  | .val (.bool a), .val (.bool b) => some (.val (.bool (if neg then !(a == b) else (a == b))))
  | _, _ => none

def intEqA : AV → AV → Option Bool
  | .val (.int k a), .val (.int k' b) => if k = k' then some (a == b) else none
  | _, _ => none

def boolEqA : AV → AV → Option Bool
  | .val (.bool a), .val (.bool b) => some (a == b)
  | _, _ => none

/-- Two cells compared: integers (true) or bools (false). -/
def leafEq (k : Bool) (x y : AV) : Option Bool := match k with
  | true => intEqA x y
  | false => boolEqA x y

def leavesEq : List Bool → List AV → List AV → Option Bool
  | [], [], [] => some true
  | k :: ks, x :: xs, y :: ys => match leafEq k x y, leavesEq ks xs ys with
    | some a, some b => some (a && b)
    | _, _ => none
  | _, _, _ => none

def eqaggA (neg : Bool) (ks : List Bool) : AV → AV → Option AV
  | .agg l, .agg m => (leavesEq ks l m).map fun b => .val (.bool (if neg then !b else b))
  | _, _ => none

/-- Is it nil? kind 0: a slice; 1: a function; 2: a map. -/
def isNilA : Nat → AV → Option Bool
  | 0, .val (.slice none _ _) => some true
  | 0, .list _ _ _ => some false
  | 0, .own _ _ _ _ _ => some false
  | 1, .val .nilFunc => some true
  | 1, .clo _ _ _ => some false
  | 2, .mapr _ => some false
  | 2, .val (.map none) => some true
  | _, _ => none

def unA (op : UnOp) : AV → Option AV
  | .val (.bool b) => match op with | .not => some (.val (.bool (!b))) | _ => none
  | .val (.int k n) => match op with | .neg => some (.val (.int k (k.wrap (0 - n)))) | _ => none
  | _ => none

def fieldAddrA (off sz : Nat) (agg : Bool) : AV → Option AV
  | .ref x => (partA x off sz agg).map .ref
  | .optr id s i k => some (.optr id s i (k + off))
  | _ => none

def intOfA : AV → Option Int
  | .val (.int _ n) => some n
  | _ => none

def idxA (n : Nat) (i : Int) : Option Nat := if 0 ≤ i ∧ i < n then some i.toNat else none

def indexAddrA (esz : Nat) (i : Int) : AV → Option AV
  | .list s _ l => if s = esz ∧ 0 ≤ i ∧ i < l.length then (l[i.toNat]?).map .ref else none
  | .own id s j n _ => if s = esz ∧ 0 ≤ i ∧ i < n then some (.optr id s (j + i.toNat) 0) else none
  | _ => none

def indexPtrA (len esz : Nat) (eagg : Bool) (i : Int) : AV → Option AV
  | .optr id s j k => if 0 ≤ i ∧ i < len then some (.optr id s j (k + i.toNat * esz)) else none
  | .ref x => if 0 ≤ i ∧ i < len then (partA x (i.toNat * esz) esz eagg).map .ref else none
  | _ => none

/-- The bounds of a slice expression: missing ones from 0 to the length. 'none': no such bound is known. -/
def boundA (d : Nat) : Option AV → Option Nat
  | none => some d
  | some (.val (.int _ n)) => if 0 ≤ n then some n.toNat else none
  | _ => none

/-- A number up to which a slice is known to reach: its length, or its capacity. -/
def leCap (n : Nat) (c : Option Nat) (b : Nat) : Bool := decide (b ≤ n) || (match c with | some k => decide (b ≤ k) | none => false)

def sliceA (esz : Nat) (x : AV) (lo hi mx : Option AV) : Option AV :=
  match x with
  | .list s t l => match boundA 0 lo, boundA l.length hi with
    | some a, some b => if s = esz ∧ a ≤ b ∧ b ≤ l.length then
        (match mx with
         | none => some (.list s (t && (b == l.length)) ((l.drop a).take (b - a)))
         | some m => (match boundA 0 (some m) with
           | some c => if b ≤ c ∧ (c ≤ l.length) then some (.list s (c == b) ((l.drop a).take (b - a))) else none
           | none => none)) else none
    | _, _ => none
  | .own id s i n c => match boundA 0 lo, boundA n hi with
    | some a, some b => if s = esz ∧ a ≤ b ∧ (leCap n c b = true) then
        (match mx with
         | none => some (.own id s (i + a) (b - a) (c.map (· - a)))
         | some m => (match boundA 0 (some m) with
           | some d => if b ≤ d ∧ leCap n c d = true then some (.own id s (i + a) (b - a) (some (d - a))) else none
           | none => none)) else none
    | _, _ => none
  | .val (.slice none 0 0) => match boundA 0 lo, boundA 0 hi, mx with
    | some 0, some 0, none => some (.val (.slice none 0 0))
    | some 0, some 0, some m => (match boundA 0 (some m) with | some 0 => some (.val (.slice none 0 0)) | _ => none)
    | _, _, _ => none
  | _ => none

def lenA : AV → Option AV
  | .list _ _ l => some (.val (.int .i64 l.length))
  | .own _ _ _ n _ => some (.val (.int .i64 n))
  | .val (.slice none 0 0) => some (.val (.int .i64 0))
  | _ => none

def lenM (O : Heap) : AV → Option AV
  | .mapr id => match O id with
    | some (.mp l) => some (.val (.int .i64 l.length))
    | _ => none
  | .val (.map none) => some (.val (.int .i64 0))
  | _ => none

/-- What is appended: the elements of a slice. -/
def elemsA (O : Heap) (sz : Nat) : AV → Option (List AV)
  | .list s _ l => if s = sz then some l else none
  | .val (.slice none 0 0) => some []
  | .own id s i n _ => match O id with
    | some (.arr _ s' elems) => if s = sz ∧ s' = s ∧ i + n ≤ elems.length then some ((elems.drop i).take n) else none
    | _ => none
  | _ => none

def zeroA : Value → AV
  | .agg cs => .agg (cs.toList.map AV.val)
  | v => .val v

def pickA (c a b : AV) : Option AV := match c with | .val (.bool t) => some (if t then a else b) | _ => none

def maxminA (mx : Bool) : AV → AV → Option AV
  | .val (.int k x), .val (.int k' y) => some (.val (.int k (if mx then (if y > x then y else x) else (if y < x then y else x))))
  | _, _ => none

def extractA (i : Nat) : AV → Option AV
  | .tup l => l[i]?
  | _ => none

def maxl2 (mx : Bool) : AV → List AV → Option AV
  | x, [] => some x
  | x, y :: l => match maxminA mx x y with
    | some z => maxl2 mx z l
    | none => none
def maxlA (mx : Bool) : List AV → Option AV
  | [] => none
  | x :: l => maxl2 mx x l

/-- Strings: joined, compared. -/
def strA (op : BinOp) : AV → AV → Option AV
  | .val (.string a), .val (.string b) => match op with
    | .add => if a.data.toList.length + b.data.toList.length ≤ 4611686018427387904 then some (.val (.string ⟨⟨a.data.toList ++ b.data.toList⟩⟩)) else none
    | .eql => some (.val (.bool (a.data.toList == b.data.toList)))
    | .neq => some (.val (.bool (!(a.data.toList == b.data.toList))))
    | .lss => some (.val (.bool (Op.bytesLess a.data.toList b.data.toList)))
    | _ => none
  | _, _ => none

def bytesOf : List AV → Option (List UInt8)
  | [] => some []
  | .val (.int .u8 n) :: l => (bytesOf l).map (UInt8.ofNat n.toNat :: ·)
  | _ => none

def bstrA (O : Heap) (x : AV) : Option AV := (elemsA O 1 x).bind fun X => (bytesOf X).map fun bs => .val (.string ⟨⟨bs⟩⟩)

def slenA : AV → Option AV
  | .val (.string s) => some (.val (.int .i64 s.data.toList.length))
  | _ => none

def keyEqA (ks : List Bool) (agg : Bool) (x y : AV) : Option Bool := match agg with
  | true => (match x, y with | .agg l, .agg m => leavesEq ks l m | _, _ => none)
  | false => (match ks with | [k] => leafEq k x y | _ => none)

def findA (ks : List Bool) (agg : Bool) (k : AV) : List (AV × AV) → Nat → Option (Option (Nat × AV))
  | [], _ => some none
  | p :: l, i => match keyEqA ks agg k p.1 with
    | some true => some (some (i, p.2))
    | some false => findA ks agg k l (i + 1)
    | none => none

def keyOKA (ks : List Bool) (agg : Bool) (k : AV) : Bool := (keyEqA ks agg k k).isSome

def found (ok : Bool) (zero : AV) (r : Option (Nat × AV)) : AV := match r with
  | some (_, v) => if ok then .tup [v, .val (.bool true)] else v
  | none => if ok then .tup [zero, .val (.bool false)] else zero

def lookupA (O : Heap) (ok : Bool) (ks : List Bool) (agg : Bool) (zero : AV) (x k : AV) : Option AV :=
  if keyOKA ks agg k = true then
  (match x with
   | .mapr id => match O id with
     | some (.mp l) => (findA ks agg k l 0).map (found ok zero)
     | _ => none
   | .val (.map none) => some (found ok zero none)
   | _ => none) else none

def mapsetA (O : Heap) (ks : List Bool) (agg : Bool) (x k v : AV) : Option Heap :=
  if keyOKA ks agg k = true then
  (match x with
   | .mapr id => match O id with
     | some (.mp l) => match findA ks agg k l 0 with
       | some (some (i, _)) => some (O.upd id (.mp (l.set i (k, v))))
       | some none => some (O.upd id (.mp (l ++ [(k, v)])))
       | none => none
     | _ => none
   | _ => none) else none

def storAll (sz : Nat) : List AV → Bool
  | [] => true
  | x :: xs => decide (x.cells.length = sz) && x.stor && storAll sz xs

/-- Instructions that compute a value, and leave memory alone. -/
def pureI (ci : CI) (e : Env) (O : Heap) : Option AV :=
  match ci with
  | .mv x => some (e.opd x)
  | .pick c a b => pickA (e.opd c) (e.opd a) (e.opd b)
  | .build zero parts => (fillA zero (parts.map fun p => (p.1, p.2.1, e.opd p.2.2))).map .agg
  | .blist sz xs => if storAll sz (xs.map e.opd) = true then some (.list sz true (xs.map e.opd)) else none
  | .load agg sz x => loadA O agg sz (e.opd x)
  | .nilchk x => match e.opd x with
    | .optr id s i k => some (.optr id s i k)
    | .ref y => some (.ref y)
    | .clo (.func f) a b => some (.clo (.func f) a b)
    | _ => none
  | .bin op x y => binA op (e.opd x) (e.opd y)
  | .binb neg x y => binbA neg (e.opd x) (e.opd y)
  | .eqagg neg ks x y => eqaggA neg ks (e.opd x) (e.opd y)
  | .eqnil k neg x => (isNilA k (e.opd x)).map fun b => .val (.bool (if neg then !b else b))
  | .un op x => unA op (e.opd x)
  | .convi k x => (intOfA (e.opd x)).map fun n => .val (.int k (k.wrap n))
  | .mkfn fn first cap => some (.clo fn (first.map e.opd) (cap.map e.opd))
  | .fieldA off sz agg x => fieldAddrA off sz agg (e.opd x)
  | .field off sz agg x => match e.opd x with
    | .agg l => partA (.agg l) off sz agg
    | _ => none
  | .indexA esz x i => (intOfA (e.opd i)).bind fun n => indexAddrA esz n (e.opd x)
  | .indexP len esz eagg x i => (intOfA (e.opd i)).bind fun n => indexPtrA len esz eagg n (e.opd x)
  | .index len esz eagg x i => (intOfA (e.opd i)).bind fun n => match e.opd x with
    | .agg l => if 0 ≤ n ∧ n < len then partA (.agg l) (n.toNat * esz) esz eagg else none
    | _ => none
  | .slice esz x lo hi mx => sliceA esz (e.opd x) (lo.map e.opd) (hi.map e.opd) (mx.map e.opd)
  | .extract x i => extractA i (e.opd x)
  | .len x => lenA (e.opd x)
  | .lenm x => lenM O (e.opd x)
  | .maxmin mx x y => maxminA mx (e.opd x) (e.opd y)
  | .maxl mx xs => maxlA mx (xs.map e.opd)
  | .str op x y => strA op (e.opd x) (e.opd y)
  | .bstr x => bstrA O (e.opd x)
  | .slen x => slenA (e.opd x)
  | .lookup ok ks agg zero x k => lookupA O ok ks agg zero (e.opd x) (e.opd k)
  | _ => none

end Go.Ab

/- The abstract walk, third part: what an instruction asks of the rest (its weakest precondition on abstract states), calls, and how instructions are read off the program's operations. -/
namespace Go.Ab

/-- What is left behind an operation or a call that gave v: an abstract value for it, with the ghost grown. -/
def Out (W0 : World) (g : Gh) (K : AV → Heap → Prop) (v : Value) (w : World) : Prop :=
  ∃ g' r O', g.le g' ∧ Inv W0 g' O' w ∧ Reads g' r v ∧ K r O'

theorem Out.mono {W0 : World} {g : Gh} {K K' : AV → Heap → Prop} {v : Value} {w : World} (h : Out W0 g K v w) (hk : ∀ r O, K r O → K' r O) : Out W0 g K' v w :=
  let ⟨g', r, O', h1, h2, h3, h4⟩ := h; ⟨g', r, O', h1, h2, h3, hk _ _ h4⟩

def callable (P : Program) (f : FuncId) : Bool := match P.funcs[f]? with
  | some fn => fn.name != "runtime.NumGoroutine" && fn.body.isSome
  | none => false

/-- Called with values that read so, in whatever world that the heap O describes, the function returns, and K holds of its result and of what the heap is then. -/
def CallA (P : Program) (f : FuncId) (args : List AV) (O : Heap) (K : AV → Heap → Prop) : Prop :=
  callable P f = true ∧ ∀ (g : Gh) (W0 w : World) (vs : Array Value), Inv W0 g O w → vs.size = args.length → (∀ (i : Nat) x v, args[i]? = some x → vs[i]? = some v → Reads g x v) →
    Calls P f vs w fun en w' => ∃ v, en = .returned v ∧ Out W0 g K v w'

theorem CallA.mono {P : Program} {f : FuncId} {args : List AV} {O : Heap} {K K' : AV → Heap → Prop} (h : CallA P f args O K) (hk : ∀ r O, K r O → K' r O) : CallA P f args O K' :=
  ⟨h.1, fun g W0 w vs hi hs hr => (h.2 g W0 w vs hi hs hr).mono fun _ _ ⟨v, he, ho⟩ => ⟨v, he, ho.mono hk⟩⟩

/-- The widest fence, in a round or not. -/
def FW (rd : Option Nat) : Fence := { fn := fun _ => True, depth := none, alive := false, round := rd }
theorem callsIn_FW {rd : Option Nat} {n : Nat} {P : Program} {f : FuncId} {args : Array Value} {w : World} {R : Ending → World → Prop} : CallsIn (FW rd) n P f args w R ↔ Calls P f args w R :=
  show CallsIn Fence.wide n P f args w R ↔ Calls P f args w R from callsIn_wide
theorem roundIn_FW {rd : Option Nat} {n : Nat} {P : Program} {l : Nat} {f : FuncId} {tmps : Array Value} {assign body : Code} {w : World} {R : Ending → World → Prop} (h : RoundIn (FW none) 0 P l f tmps assign body w R) : RoundIn (FW rd) n P l f tmps assign body w R :=
  ⟨trivial, fun c cs _ => h.2 c cs (fun _ h => by cases h)⟩

/-- The body of a range over a function, called with values that read so. -/
def YieldA (P : Program) (id : Nat) (args : List AV) (O : Heap) (K : AV → Heap → Prop) : Prop :=
  ∀ (g : Gh) (W0 w : World) (vs : Array Value) (b r : Nat), Inv W0 g O w → g.m id = some (b, r) → vs.size = args.length → (∀ (i : Nat) x v, args[i]? = some x → vs[i]? = some v → Reads g x v) →
    ∃ f tmps asg body, (Instr.yield b vs).run P w = .ok (.round b f tmps asg body) w ∧ RoundIn (FW none) 0 P b f tmps asg body w fun en w' => ∃ v, en = .returned v ∧ Out W0 g K v w'

/-- A function that computes, and leaves alone all that is there. -/
def PureA (P : Program) (f : FuncId) (args : List AV) (r : AV) : Prop := ∀ O, CallA P f args O fun r' O' => r' = r ∧ O' = O

/-- .. beside what is there. -/
def PureAt (P : Program) (f : FuncId) (args : List AV) (O : Heap) (r : AV) : Prop := ∀ O', (∀ i o, O i = some o → O' i = some o) → CallA P f args O' fun r' O'' => r' = r ∧ O'' = O'
theorem PureA.at_ {P : Program} {f : FuncId} {args : List AV} {r : AV} (h : PureA P f args r) (O : Heap) : PureAt P f args O r := fun O' _ => h O'

theorem PureA.use {P : Program} {f : FuncId} {args : List AV} {r : AV} (h : PureA P f args r) {O : Heap} {K : AV → Heap → Prop} (hk : K r O) : CallA P f args O K :=
  (h O).mono fun _ _ ⟨h1, h2⟩ => by rw [h1, h2]; exact hk

def capOK (n c : Nat) : Prop := n ≤ c ∧ c ≤ maxLen

def CapSem (x : AV) (O : Heap) (K : AV → Heap → Prop) : Prop :=
  match x with
  | .list _ true l => K (.val (.int .i64 l.length)) O
  | .list _ false l => ∀ c : Nat, capOK l.length c → K (.val (.int .i64 c)) O
  | .own _ _ _ _ (some k) => K (.val (.int .i64 k)) O
  | .own _ _ _ n none => ∀ c : Nat, capOK n c → K (.val (.int .i64 c)) O
  | .val (.slice none 0 0) => K (.val (.int .i64 0)) O
  | _ => False

/-- A length that no append outgrows. -/
def fits (n bytes : Nat) : Prop := n ≤ maxLen ∧ n * bytes ≤ 140737488355328

def AppendNil (ow : Bool) (E : TypeId) (sz : Nat) (X : List AV) (O : Heap) (K : AV → Heap → Prop) : Prop :=
  (X = [] → K (.val (.slice none 0 0)) O) ∧
  (X ≠ [] → if ow then ∀ id, O id = none → K (.own id sz 0 X.length none) (O.upd id (.arr E sz X)) else K (.list sz false X) O)

def AppendList (ow : Bool) (E : TypeId) (sz : Nat) (L X : List AV) (O : Heap) (K : AV → Heap → Prop) : Prop :=
  if ow then (X = [] → K (.list sz true L) O) ∧ (X ≠ [] → ∀ id, O id = none → K (.own id sz 0 (L.length + X.length) none) (O.upd id (.arr E sz (L ++ X))))
  else K (.list sz false (L ++ X)) O

/-- K holds of a value and a heap, or of what may be said of them instead. -/
def WeakR (K : AV → Heap → Prop) (r : AV) (O : Heap) : Prop :=
  ∀ W0 g w v, Inv W0 g O w → Reads g r v → Out W0 g K v w

theorem WeakR.now {K : AV → Heap → Prop} {r : AV} {O : Heap} (h : K r O) : WeakR K r O := fun _ g _ _ hI hr => ⟨g, r, O, .refl g, hI, hr, h⟩

def AppendOwn0 (E : TypeId) (sz id n : Nat) (c : Option Nat) (elems X : List AV) (O : Heap) (K : AV → Heap → Prop) : Prop :=
  (∀ id', O id' = none → K (.own id' sz 0 (n + X.length) none) ((O.del id).upd id' (.arr E sz (elems.take n ++ X)))) ∨
  (∃ k, c = some k ∧ n + X.length ≤ k ∧ K (.own id sz 0 (n + X.length) (some k)) (O.upd id (.arr E sz (elems.take n ++ X ++ elems.drop (n + X.length)))))

def AppendSem0 (ow : Bool) (E : TypeId) (sz bytes : Nat) (s x : AV) (O : Heap) (K : AV → Heap → Prop) : Prop :=
  ∃ X, elemsA O sz x = some X ∧
  match s with
  | .val (.slice none 0 0) => fits X.length bytes ∧ AppendNil ow E sz X O K
  | .list s' true L => s' = sz ∧ fits (L.length + X.length) bytes ∧ AppendList ow E sz L X O K
  | .own id s' 0 n c => ∃ elems, O id = some (.arr E sz elems) ∧ s' = sz ∧ n ≤ elems.length ∧ fits (n + X.length) bytes ∧ AppendOwn0 E sz id n c elems X O K
  | _ => False

def AppendOwn (E : TypeId) (sz id n : Nat) (c : Option Nat) (elems X : List AV) (O : Heap) (K : AV → Heap → Prop) : Prop :=
  (∀ id', O id' = none → WeakR K (.own id' sz 0 (n + X.length) none) ((O.del id).upd id' (.arr E sz (elems.take n ++ X)))) ∨
  (∃ k, c = some k ∧ n + X.length ≤ k ∧ K (.own id sz 0 (n + X.length) (some k)) (O.upd id (.arr E sz (elems.take n ++ X ++ elems.drop (n + X.length)))))

def AppendSem (ow : Bool) (E : TypeId) (sz bytes : Nat) (s x : AV) (O : Heap) (K : AV → Heap → Prop) : Prop :=
  ∃ X, elemsA O sz x = some X ∧
  match s with
  | .val (.slice none 0 0) => fits X.length bytes ∧ AppendNil ow E sz X O K
  | .list s' true L => s' = sz ∧ fits (L.length + X.length) bytes ∧ AppendList ow E sz L X O K
  | .own id s' 0 n c => ∃ elems, O id = some (.arr E sz elems) ∧ s' = sz ∧ n ≤ elems.length ∧ fits (n + X.length) bytes ∧ AppendOwn E sz id n c elems X O K
  | _ => False

theorem AppendSem.to0 {ow : Bool} {E : TypeId} {sz bytes : Nat} {s x : AV} {O : Heap} {K : AV → Heap → Prop} (h : AppendSem ow E sz bytes s x O K) : AppendSem0 ow E sz bytes s x O (WeakR K) := by
  obtain ⟨X, hX, h⟩ := h
  refine ⟨X, hX, ?_⟩
  split at h
  · refine ⟨h.1, fun e => WeakR.now (h.2.1 e), fun e => ?_⟩
    have := h.2.2 e
    split at this
    · rename_i hw; rw [if_pos hw]; exact fun id hid => WeakR.now (this id hid)
    · rename_i hw; rw [if_neg hw]; exact WeakR.now this
  · refine ⟨h.1, h.2.1, ?_⟩
    have := h.2.2
    unfold AppendList at this ⊢
    split at this
    · rename_i hw; rw [if_pos hw]; exact ⟨fun e => WeakR.now (this.1 e), fun e id hid => WeakR.now (this.2 e id hid)⟩
    · rename_i hw; rw [if_neg hw]; exact WeakR.now this
  · obtain ⟨elems, h1, h2, h3, h4, h5⟩ := h
    refine ⟨elems, h1, h2, h3, h4, ?_⟩
    rcases h5 with h5 | ⟨k, k1, k2, k3⟩
    · exact .inl h5
    · exact .inr ⟨k, k1, k2, WeakR.now k3⟩
  · exact h.elim
theorem Out.weak {W0 : World} {g : Gh} {K : AV → Heap → Prop} {v : Value} {w : World} (h : Out W0 g (WeakR K) v w) : Out W0 g K v w := by
  obtain ⟨g', r, O', h1, h2, h3, h4⟩ := h
  obtain ⟨g2, r2, O2, k1, k2, k3, k4⟩ := h4 _ _ _ _ h2 h3
  exact ⟨g2, r2, O2, h1.trans k1, k2, k3, k4⟩

def MakeSem (E : TypeId) (sz bytes : Nat) (zero : AV) (l c : AV) (O : Heap) (K : AV → Heap → Prop) : Prop :=
  ∃ n m : Nat, intOfA l = some (n : Int) ∧ intOfA c = some (m : Int) ∧ n ≤ m ∧ m ≤ maxLen ∧ bytes * m ≤ 281474976710656 ∧
    ∀ id, O id = none → K (.own id sz 0 n (some m)) (O.upd id (.arr E sz (List.replicate m zero)))

/-- Zeros appended to a slice that is nil. -/
def AppzSem (E : TypeId) (sz bytes : Nat) (zero : AV) (s n : AV) (O : Heap) (K : AV → Heap → Prop) : Prop :=
  s = .val (.slice none 0 0) ∧ ∃ m : Nat, intOfA n = some (m : Int) ∧ 0 < m ∧ fits m bytes ∧ ∀ id, O id = none → K (.own id sz 0 m none) (O.upd id (.arr E sz (List.replicate m zero)))

def CiSem (P : Program) (ci : CI) (e : Env) (O : Heap) (K : AV → Heap → Prop) : Prop :=
  match ci with
  | .alloc E sz zero => ∀ id, O id = none → K (.optr id sz 0 0) (O.upd id (.arr E sz [zero]))
  | .box E sz x => storAll sz [e.opd x] = true ∧ ∀ id, O id = none → K (.optr id sz 0 0) (O.upd id (.arr E sz [e.opd x]))
  | .bown E sz xs => storAll sz (xs.map e.opd) = true ∧ ∀ id, O id = none → K (.own id sz 0 xs.length (some xs.length)) (O.upd id (.arr E sz (xs.map e.opd)))
  | .store sz x v => ∃ O', storeA O sz (e.opd v) (e.opd x) = some O' ∧ K .junk O'
  | .call f args => CallA P f (args.map e.opd) O K
  | .callv fx args => (∃ f a b, e.opd fx = .clo (.func f) a b ∧ CallA P f (a ++ args.map e.opd ++ b) O K) ∨ ∃ id, e.opd fx = .yld id ∧ YieldA P id (args.map e.opd) O K
  | .cap x => CapSem (e.opd x) O K
  | .mkmap => ∀ id, O id = none → K (.mapr id) (O.upd id (.mp []))
  | .mapset ks agg x k v => ∃ O', mapsetA O ks agg (e.opd x) (e.opd k) (e.opd v) = some O' ∧ K .junk O'
  | .append ow E sz bytes s x => AppendSem ow E sz bytes (e.opd s) (e.opd x) O K
  | .mkslice E sz bytes zero l c => MakeSem E sz bytes zero (e.opd l) (e.opd c) O K
  | .appz E sz bytes zero s n => AppzSem E sz bytes zero (e.opd s) (e.opd n) O K
  | ci => ∃ r, pureI ci e O = some r ∧ K r O

def isAggB (P : Program) (t : TypeId) : Bool := match P.underlying t with
  | some (.struct _) | some (.array _ _) => true
  | _ => false

def sizeB (P : Program) (t : TypeId) : Option Nat := match P.info? t with
  | some i => if (P.underlying t).isSome = true then some i.size else none
  | none => none

def isAggV : Value → Bool
  | .agg _ => true
  | _ => false

/-- The value of a variable without an initial value, where each of its cells is one cell, and there are as many as its type has. -/
def zeroB (P : Program) (t : TypeId) : Option AV :=
  match P.info? t with
  | some i => match i.zero with
    | some z => if z.cells.size = i.size ∧ z.cells.all (·.oneCell') = true ∧ 0 < i.size ∧ (isAggB P t == isAggV z) = true then some (zeroA z) else none
    | none => none
  | none => none

/-- Structs of fields that are bools, integers or such structs, which tile them: what their cells are (true: integers). -/
def tileK (P : Program) (rec : TypeId → Option (List Bool)) : List Field → Nat → Option (List Bool)
  | [], _ => some []
  | f :: fs, off => if f.name ≠ "_" ∧ f.offset = off then
      (match rec f.type with
       | some k => if sizeB P f.type = some k.length then (tileK P rec fs (off + k.length)).map (k ++ ·) else none
       | none => none) else none

def flatK (P : Program) : Nat → TypeId → Option (List Bool)
  | 0, _ => none
  | d + 1, t =>
    match P.underlying t with
    | some .bool => some [false]
    | some (.int _) => some [true]
    | some (.struct fs) => if P.stoodInHeld t then none else tileK P (fun t => flatK P d t) fs.toList 0
    | _ => none

def partOf (P : Program) (fs : Array Field) (i : Nat) : Option (Nat × Nat × Bool) :=
  match fs[i]? with
  | some f => match sizeB P f.type with
    | some s => if 0 < s then some (f.offset, s, isAggB P f.type) else none
    | none => none
  | none => none

def compileBuild (P : Program) (t : TypeId) (parts : List (Nat × Operand)) : Option CI :=
  match zeroB P t with
  | some (.agg z) => match P.underlying t with
    | some (.struct fs) => if (fs.toList.all fun f => (sizeB P f.type).isSome) = true then
        (parts.mapM fun p => (partOf P fs p.1).map fun q => (q.1, q.2.1, p.2)).map (.build z ·) else none
    | some (.array _ el) => match sizeB P el with
      | some s => some (.build z (parts.map fun p => (p.1 * s, s, p.2)))
      | none => none
    | _ => none
  | _ => none

def compileBuiltin (P : Program) (ow : Bool) (b : Builtin) (ts : List TypeId) (args : List Operand) : Option CI :=
  match b, ts, args with
  | .len, [t], [x] => match P.underlying t with
    | some (.slice _) => some (.len x)
    | some (.map _ _) => some (.lenm x)
    | some .string => some (.slen x)
    | some (.array n _) => some (.mv (.const (.int .i64 n)))
    | _ => none
  | .cap, [t], [x] => match P.underlying t with
    | some (.slice _) => some (.cap x)
    | _ => none
  | .append, [t, u], [s, x] => match P.underlying t, P.underlying u with
    | some (.slice el), some (.slice _) => match P.info? el with
      | some i => match zeroB P el with
        | some _ => if t = u then some (.append ow el i.size i.bytes s x) else none
        | none => none
      | none => none
    | some (.slice el), some (.int _) => match P.info? el, zeroB P el with
      | some i, some z => some (.appz el i.size i.bytes z s x)
      | _, _ => none
    | _, _ => none
  | .max, _, [x, y] => some (.maxmin true x y)
  | .min, _, [x, y] => some (.maxmin false x y)
  | .max, _, x :: y :: z :: l => some (.maxl true (x :: y :: z :: l))
  | .min, _, x :: y :: z :: l => some (.maxl false (x :: y :: z :: l))
  | _, _, _ => none

def compileBin (P : Program) (op : BinOp) (t : TypeId) (x y : Operand) : Option CI :=
  match P.underlying t with
  | some (.int _) => some (.bin op x y)
  | some .bool => (match op with
    | .eql => some (.binb false x y)
    | .neq => some (.binb true x y)
    | _ => none)
  | some .string => some (.str op x y)
  | some (.slice _) => match op, y with
    | .eql, .const (.slice none 0 0) => some (.eqnil 0 false x)
    | .neq, .const (.slice none 0 0) => some (.eqnil 0 true x)
    | _, _ => none
  | some (.func ..) => match op, y with
    | .eql, .const .nilFunc => some (.eqnil 1 false x)
    | .neq, .const .nilFunc => some (.eqnil 1 true x)
    | _, _ => none
  | some (.map ..) => match op, y with
    | .eql, .const (.map none) => some (.eqnil 2 false x)
    | .neq, .const (.map none) => some (.eqnil 2 true x)
    | _, _ => none
  | some (.struct _) | some (.array _ _) => match flatK P 100 t with
    | some ks => if sizeB P t = some ks.length ∧ P.eqGuardType P.depth t = false then (match op with
      | .eql => some (.eqagg false ks x y)
      | .neq => some (.eqagg true ks x y)
      | _ => none) else none
    | none => none
  | _ => none

/-- The instruction of an operation. -/
def compileOp (P : Program) (ow : Bool) (o : Oper) : Option CI :=
  match o.op with
  | .move x => some (.mv x)
  | .assign x => some (.mv x)
  | .pick c a b => some (.pick c a b)
  | .alloc E => match sizeB P E, zeroB P E with
    | some s, some z => some (.alloc E s z)
    | _, _ => none
  | .box E x => (sizeB P E).bind fun s => if 0 < s then some (.box E s x) else none
  | .build t parts => compileBuild P t parts.toList
  | .buildSlice t n parts => match P.underlying t with
    | some (.slice el) => match sizeB P el with
      | some s => if parts.toList.map (·.1) = List.range n ∧ n * s ≤ 16777216 ∧ (zeroB P el).isSome then
          some (if ow then .bown el s (parts.toList.map (·.2)) else .blist s (parts.toList.map (·.2))) else none
      | none => none
    | _ => none
  | .load t x => (sizeB P t).map fun s => .load (isAggB P t) s x
  | .store t x v => (sizeB P t).map fun s => .store s x v
  | .nilCheck x => some (.nilchk x)
  | .binOp op t x y _ => compileBin P op t x y
  | .unOp op _ x => some (.un op x)
  | .convert src dst x => match P.underlying dst with
    | some (.int k) => if (P.underlying src).isSome = true then some (.convi k x) else none
    | some .string => (match P.underlying src with
      | some (.slice e) => (match P.underlying e with
        | some (.int .u8) => some (.bstr x)
        | _ => none)
      | _ => none)
    | _ => none
  | .makeFunc fn first cap => some (.mkfn fn first.toList cap.toList)
  | .fieldAddr s x f => match P.underlying s with
    | some (.struct fs) => (partOf P fs f).map fun q => .fieldA q.1 q.2.1 q.2.2 x
    | _ => none
  | .field t x f => match P.underlying t with
    | some (.struct fs) => (partOf P fs f).map fun q => .field q.1 q.2.1 q.2.2 x
    | _ => none
  | .indexAddr t x i => match P.underlying t with
    | some (.slice el) => (sizeB P el).bind fun s => if 0 < s then some (.indexA s x i) else none
    | some (.array n el) => (sizeB P el).bind fun s => if 0 < s then some (.indexP n s (isAggB P el) x i) else none
    | _ => none
  | .index t x i => match P.underlying t with
    | some (.array n el) => (sizeB P el).bind fun s => if 0 < s then some (.index n s (isAggB P el) x i) else none
    | _ => none
  | .slice t x lo hi mx => match P.underlying t with
    | some (.slice el) => (sizeB P el).bind fun s => if (mx.isNone || hi.isSome) = true then some (.slice s x lo hi mx) else none
    | _ => none
  | .extract x i => some (.extract x i)
  | .makeSlice t l c => match P.underlying t with
    | some (.slice el) => match P.info? el, zeroB P el with
      | some i, some z => some (.mkslice el i.size i.bytes z l c)
      | _, _ => none
    | _ => none
  | .makeMap t none => match P.underlying t with
    | some (.map _ _) => some .mkmap
    | _ => none
  | .lookup t x k ok => match P.underlying t with
    | some (.map kt el) => match flatK P 100 kt, zeroB P el with
      | some ks, some z => if sizeB P kt = some ks.length then some (.lookup ok ks (isAggB P kt) z x k) else none
      | _, _ => none
    | _ => none
  | .mapUpdate t x k v => match P.underlying t with
    | some (.map kt _) => match flatK P 100 kt with
      | some ks => if sizeB P kt = some ks.length then some (.mapset ks (isAggB P kt) x k v) else none
      | none => none
    | _ => none
  | .call c => match c.callee with
    | .value (.func f) => if callable P f then some (.call f c.args.toList) else none
    | .value x => some (.callv x c.args.toList)
    | .builtin b => compileBuiltin P ow b c.argTypes.toList c.args.toList
    | _ => none
  | _ => none

/-- .. or one that may not be reached. -/
def compileOpD (P : Program) (ow : Bool) (o : Oper) : Option CI := some ((compileOp P ow o).getD .dead)
theorem compileOpD_inv {P : Program} {ow : Bool} {o : Oper} {ci : CI} (h : compileOpD P ow o = some ci) : compileOp P ow o = some ci ∨ ci = .dead := by
  unfold compileOpD at h
  cases hc : compileOp P ow o with
  | some c => rw [hc] at h; exact .inl h
  | none => rw [hc] at h; exact .inr (Option.some.inj h).symm

/-- What an operation of the program asks of the rest, on abstract states. -/
def OpSem (P : Program) (o : Oper) (e : Env) (O : Heap) (K : AV → Heap → Prop) : Prop :=
  ∀ (g : Gh) (W0 w : World) (ρ : Operand → Value), Inv W0 g O w → (∀ x, Reads g (e.opd x) (ρ x)) →
    match (execOp ρ o).run P w with
    | .ok (.value v) w' => Out W0 g K v w'
    | .ok .skip w' => Out W0 g K undef w'
    | .ok (.enter f args) w' => Calls P f args w' fun en w'' => ∃ v, en = .returned v ∧ Out W0 g K v w''
    | .ok (.round l f tmps asg body) w' => RoundIn (FW none) 0 P l f tmps asg body w' fun en w'' => ∃ v, en = .returned v ∧ Out W0 g K v w''
    | _ => False

end Go.Ab

/- The abstract walk, fourth part: reading, writing and making memory are sound. -/
namespace Go.Ab

theorem Out.now {W0 : World} {g : Gh} {O : Heap} {w : World} {K : AV → Heap → Prop} {r : AV} {v : Value} (hI : Inv W0 g O w) (hr : Reads g r v) (hk : K r O) : Out W0 g K v w :=
  ⟨g, r, O, .refl g, hI, hr, hk⟩

theorem oneCell_cells {v : Value} (h : v.oneCell' = true) : v.cells = #[v] := by cases v <;> simp_all [Value.oneCell', Value.cells]

/-- The cells of what is stored. -/
theorem Reads.cellsOf {g : Gh} {x : AV} {v : Value} (h : Reads g x v) (hs : x.stor = true) :
    v.cells.size = x.cells.length ∧ (∀ (j : Nat) y, x.cells[j]? = some y → ∃ u, v.cells[j]? = some u ∧ u.oneCell' = true ∧ Reads g y u) := by
  have one : ∀ {x : AV} {v : Value}, Reads g x v → v.oneCell' = true → x.cells = [x] →
      v.cells.size = x.cells.length ∧ (∀ (j : Nat) y, x.cells[j]? = some y → ∃ u, v.cells[j]? = some u ∧ u.oneCell' = true ∧ Reads g y u) := by
    intro x v hr h1 hx
    rw [oneCell_cells h1, hx]
    refine ⟨rfl, fun j y hj => ?_⟩
    cases j with
    | zero => simp at hj; subst hj; exact ⟨v, rfl, h1, hr⟩
    | succ j => simp at hj
  cases h with
  | junk v => cases hs
  | tup l cs hl h => cases hs
  | agg l cs hl h1 h =>
    refine ⟨hl, fun j y hj => ?_⟩
    have hj' : j < l.length := (List.getElem?_eq_some_iff.1 hj).1
    have hv : cs[j]? = some (cs[j]'(by omega)) := Array.getElem?_eq_getElem (by omega)
    exact ⟨_, hv, h1 j _ hv, h j y _ hj hv⟩
  | val v => exact one (.val v) hs rfl
  | list sz t l b off cap vs h1 h2 h3 h4 h5 h6 => exact one (.list sz t l b off cap vs h1 h2 h3 h4 h5 h6) rfl rfl
  | listE sz t a => exact one (.listE sz t a) rfl rfl
  | ref x b off vs h5 h6 => exact one (.ref x b off vs h5 h6) rfl rfl
  | own id sz i len cap b room off c h0 h1 h2 h3 h4 h5 => exact one (.own id sz i len cap b room off c h0 h1 h2 h3 h4 h5) rfl rfl
  | optr id sz i k b room h0 => exact one (.optr id sz i k b room h0) rfl rfl
  | mapr id b room h0 => exact one (.mapr id b room h0) rfl rfl
  | itr id b room h0 => exact one (.itr id b room h0) rfl rfl
  | yld id b room h0 => exact one (.yld id b room h0) rfl rfl
  | clo f l m cs ds hl hm h h' => exact one (.clo f l m cs ds hl hm h h') rfl rfl

theorem Reads.not_agg {g : Gh} {x : AV} {v : Value} (h : Reads g x v) (h1 : v.oneCell' = true) : x.cells = [x] := by
  cases h <;> first | rfl | (simp [Value.oneCell'] at h1; done)

/-- Cells that hold x: R gives what stands at a distance from the first. -/
def CellsAt (R : Nat → Option Value) (g : Gh) (l : List AV) : Prop := ∀ (j : Nat) y, l[j]? = some y → ∃ v, R j = some v ∧ v.oneCell' = true ∧ Reads g y v

theorem CellsAt.part {R : Nat → Option Value} {g : Gh} {x y : AV} {off n : Nat} {agg : Bool} (h : CellsAt R g x.cells) (hp : partA x off n agg = some y) :
    (agg = true → CellsAt (fun j => R (off + j)) g y.cells ∧ ∃ l, y = .agg l ∧ l.length = n) ∧
    (agg = false → n = 1 ∧ ∃ v, R off = some v ∧ v.oneCell' = true ∧ Reads g y v) := by
  unfold partA at hp
  split at hp
  · rename_i hc
    obtain ⟨rfl, rfl, ha, hn⟩ := hc
    cases hp
    refine ⟨fun _ => ⟨by simpa using h, ?_⟩, fun e => by cases e⟩
    cases x <;> simp [isAggA] at ha
    rename_i l
    exact ⟨l, rfl, hn⟩
  · unfold subA at hp
    cases agg with
    | true =>
      simp only [if_true] at hp
      split at hp
      · rename_i hle
        cases hp
        refine ⟨fun _ => ⟨fun j y hj => ?_, _, rfl, by simp; omega⟩, fun e => by cases e⟩
        simp only [AV.cells] at hj
        rw [List.getElem?_take] at hj
        split at hj
        · rw [List.getElem?_drop] at hj
          exact h (off + j) y hj
        · cases hj
      · cases hp
    | false =>
      simp only [Bool.false_eq_true, if_false] at hp
      split at hp
      · rename_i hn
        exact ⟨fun e => (by cases e), fun _ => ⟨hn, h off y hp⟩⟩
      · cases hp

section
variable {P : Program} {W0 : World} {g : Gh} {O : Heap} {w : World}

theorem underlying_of_sizeB {t : TypeId} {s : Nat} (h : sizeB P t = some s) : ∃ i, P.info? t = some i ∧ i.size = s := by
  unfold sizeB at h
  cases hi : P.info? t with
  | none => simp [hi] at h
  | some i => simp [hi] at h; exact ⟨i, rfl, h.2⟩

theorem sizeB_u {t : TypeId} {s : Nat} (h : sizeB P t = some s) : P.underlying t ≠ none := by
  unfold sizeB at h
  cases hi : P.info? t with
  | none => simp [hi] at h
  | some i =>
    intro e
    simp [hi, e] at h

theorem run_sizeOf' {t : TypeId} {s : Nat} (h : sizeB P t = some s) (w : World) : (sizeOf t).run P w = .ok s w := by
  obtain ⟨i, hi, rfl⟩ := underlying_of_sizeB h
  simp [sizeOf, typeInfo, hi]

theorem isAggB_run {t : TypeId} {s : Nat} (h : sizeB P t = some s) (hu : P.underlying t ≠ none) (w : World) : (isAgg t).run P w = .ok (isAggB P t) w := by
  unfold isAgg isAggB
  cases hd : P.underlying t with
  | none => exact (hu hd).elim
  | some d =>
    simp only [Sem.run_bind, run_underlying hd, Result.andThen_ok]
    cases d <;> simp

/-- A variable read: its cells stand from a on. -/
theorem run_loadVar' {t : TypeId} {s : Nat} {agg : Bool} (hs : sizeB P t = some s) (ha : isAggB P t = agg) (hu : P.underlying t ≠ none) {a : Addr} {x y : AV} {off : Nat}
    (hc : CellsAt (fun j => w.cell? (a.add j)) g x.cells) (hp : partA x off s agg = some y) : ∃ v, (loadVar t (a.add off)).run P w = .ok v w ∧ Reads g y v := by
  obtain ⟨h1, h2⟩ := hc.part hp
  unfold loadVar
  simp only [Sem.run_bind, isAggB_run hs hu, Result.andThen_ok, ha]
  cases agg with
  | true =>
    obtain ⟨hy, l, rfl, hl⟩ := h1 rfl
    have hex : ∃ cs : List Value, cs.length = l.length ∧ ∀ (j : Nat) v, cs[j]? = some v → w.cell? ((a.add off).add j) = some v ∧ v.oneCell' = true ∧ ∀ y, l[j]? = some y → Reads g y v := by
      refine ⟨(List.range l.length).map fun j => (w.cell? ((a.add off).add j)).getD undef, by simp, fun j v hv => ?_⟩
      rw [List.getElem?_map, Option.map_eq_some_iff] at hv
      obtain ⟨k, hk, hv⟩ := hv
      have hk' : k = j ∧ j < l.length := by
        rcases Nat.lt_or_ge j l.length with h | h
        · rw [List.getElem?_range h] at hk
          exact ⟨by cases hk; rfl, h⟩
        · rw [List.getElem?_eq_none (by simpa using h)] at hk; cases hk
      obtain ⟨rfl, hlt⟩ := hk'
      have hyk : l[k]? = some l[k] := List.getElem?_eq_getElem hlt
      obtain ⟨u, hu, h1, hr⟩ := hy k _ hyk
      simp only [← Addr.add_add] at hu
      rw [hu] at hv ⊢
      simp at hv
      subst hv
      exact ⟨rfl, h1, fun y hy => by rw [hyk] at hy; cases hy; exact hr⟩
    obtain ⟨cs, hcl, hcs⟩ := hex
    have hrun := run_loadCells_list (P := P) w (a.add off) cs (fun j v hv => (hcs j v hv).1)
    rw [hcl, hl] at hrun
    refine ⟨.agg cs.toArray, ?_, ?_⟩
    · simp [run_sizeOf' hs, hrun]
    · exact .agg l cs.toArray (by simp [hcl]) (fun i v hv => (hcs i v (by simpa using hv)).2.1) (fun i x v hx hv => (hcs i v (by simpa using hv)).2.2 x hx)
  | false =>
    obtain ⟨hn, v, hv, _, hr⟩ := h2 rfl
    exact ⟨v, by simp [hv], hr⟩

/-- A new array with a name. -/
theorem Inv.newArr (hI : Inv W0 g O w) (cs : Array Value) (E sz r : Nat) (elems : List AV) (hs : cs.size = r * sz) (hl : elems.length ≤ r)
    (h4 : ∀ (i : Nat) x, elems[i]? = some x → x.cells.length = sz)
    (h5 : ∀ (i : Nat) x (j : Nat) y, elems[i]? = some x → x.cells[j]? = some y → ∃ v, cs[i * sz + j]? = some v ∧ v.oneCell' = true ∧ Reads g y v) :
    ∃ id, O id = none ∧ g.m id = none ∧ g.le (g.name id w.heap.size r) ∧ (g.name id w.heap.size r).m id = some (w.heap.size, r) ∧ Inv W0 (g.name id w.heap.size r) (O.upd id (.arr E sz elems)) (w.alloc (.cells cs E)) := by
  obtain ⟨id, hm, ho⟩ := hI.fresh
  have hle := Gh.name_le (b := w.heap.size) (r := r) hm
  refine ⟨id, ho, hm, hle, if_pos rfl, ?_⟩
  have hnb := hI.newBlock
  have hA := hI.alloc (.cells cs E)
  refine hA.new hm (.arr E sz elems) hI.below.size hnb.1 hnb.2 ⟨cs, heap_alloc_new w _, hs, hl, h4, fun i x j y a b => ?_⟩
  obtain ⟨v, p, q, r⟩ := h5 i x j y a b
  exact ⟨v, p, q, r.mono hle⟩

/-- A new block whose cells never change. -/
theorem Inv.newFrozen (hI : Inv W0 g O w) (cs : Array Value) (E : TypeId) (n : Nat) (h1 : ∀ (j : Nat) v, j < n → cs[j]? = some v → v.oneCell' = true) :
    ∃ g', g.le g' ∧ Inv W0 g' O (w.alloc (.cells cs E)) ∧ ∀ o, g'.c w.heap.size o = if o < n then cs[o]? else none := by
  have hnb := hI.newBlock
  have hA := hI.alloc (.cells cs E)
  refine ⟨g.freeze w.heap.size fun o => if o < n then cs[o]? else none, Gh.freeze_le _ _ _, hA.freeze (fun o v hv => ?_) hnb.2, fun o => Gh.freeze_new hnb.1 o⟩
  split at hv
  · rename_i hlt
    exact ⟨by rw [World.cell?_alloc_new]; exact hv, h1 o v hlt hv⟩
  · cases hv

theorem Reads.oneCell_of_list {sz : Nat} {t : Bool} {l : List AV} {v : Value} (hI : Inv W0 g O w) (h : Reads g (.list sz t l) v) :
    ∃ a cap, v = .slice (some a) l.length cap ∧ l.length ≤ cap ∧ cap ≤ maxLen ∧ (t = true → cap = l.length) ∧ (∀ (i : Nat) x, l[i]? = some x → x.cells.length = sz) ∧
      ∀ (i : Nat) x, l[i]? = some x → CellsAt (fun j => w.cell? (a.add (i * sz + j))) g x.cells := by
  cases h with
  | listE _ _ a => exact ⟨a, 0, rfl, Nat.le_refl _, Nat.zero_le _, fun _ => rfl, fun i x hx => by simp at hx, fun i x hx => by simp at hx⟩
  | list _ _ _ b off cap vs h1 h2 h3 h4 h5 h6 =>
    refine ⟨_, _, rfl, h1, h3, h2, h4, fun i x hx j y hy => ?_⟩
    obtain ⟨p, q⟩ := hI.cell _ _ _ (h5 i x j y hx hy)
    refine ⟨vs i j, ?_, q, h6 i x j y hx hy⟩
    show w.cell? (Addr.add ⟨b, off, none⟩ (i * sz + j)) = _
    rw [Addr.add_lit]
    exact p

/-- The object behind a pointer or slice into it. -/
theorem Inv.at (hI : Inv W0 g O w) {id b r E sz : Nat} {elems : List AV} (ho : O id = some (.arr E sz elems)) (hm : g.m id = some (b, r)) :
    ∃ cs : Array Value, w.heap[b]? = some (.cells cs E (0, 0)) ∧ cs.size = r * sz ∧ elems.length ≤ r ∧ (∀ (i : Nat) x, elems[i]? = some x → x.cells.length = sz) ∧
      ∀ (i : Nat) x, elems[i]? = some x → CellsAt (fun j => w.cell? ((⟨b, i * sz, none⟩ : Addr).add j)) g x.cells := by
  obtain ⟨b', r', hm', _, _, cs, h1, h2, h3, h4, h5⟩ := hI.obj id _ ho
  rw [hm] at hm'
  cases hm'
  refine ⟨cs, h1, h2, h3, h4, fun i x hx j y hy => ?_⟩
  obtain ⟨v, p, q, r⟩ := h5 i x j y hx hy
  refine ⟨v, ?_, q, r⟩
  show w.cell? (Addr.add ⟨b, i * sz, none⟩ j) = _
  rw [Addr.add_lit, cell_of_row w b _ cs E (0, 0) h1]
  exact p

/-- Reading through a pointer. -/
theorem load_sound {t : TypeId} {s : Nat} {agg : Bool} (hs : sizeB P t = some s) (ha : isAggB P t = agg) (hu : P.underlying t ≠ none) (hI : Inv W0 g O w) {x y : AV} {v : Value}
    (hr : Reads g x v) (hl : loadA O agg s x = some y) : ∃ u, (Instr.loadAt t v).run P w = .ok u w ∧ Reads g y u := by
  unfold loadA at hl
  split at hl
  · rename_i x
    cases hr with
    | ref _ b off vs h5 h6 =>
      have hc : CellsAt (fun j => w.cell? ((⟨b, off, none⟩ : Addr).add j)) g x.cells := fun j y hy => by
        obtain ⟨p, q⟩ := hI.cell _ _ _ (h5 j y hy)
        refine ⟨_, ?_, q, h6 j y hy⟩
        show w.cell? (Addr.add ⟨b, off, none⟩ j) = _
        rw [Addr.add_lit]
        exact p
      obtain ⟨u, h1, h2⟩ := run_loadVar' (P := P) hs ha hu hc hl
      refine ⟨u, ?_, h2⟩
      rw [Addr.add_zero'] at h1
      simp [Instr.loadAt, Instr.sureAddr, h1]
  · rename_i id s' i k
    split at hl
    · rename_i E s'' elems ho
      split at hl
      · rename_i hss
        obtain ⟨rfl, _⟩ := hss
        cases he : elems[i]? with
        | none => simp [he] at hl
        | some x =>
          simp only [he] at hl
          cases hr with
          | optr _ _ _ _ b r hm =>
            obtain ⟨cs, _, _, _, _, h5⟩ := hI.at ho hm
            obtain ⟨u, h1, h2⟩ := run_loadVar' (P := P) hs ha hu (h5 i x he) hl
            refine ⟨u, ?_, h2⟩
            rw [Addr.add_lit] at h1
            simp [Instr.loadAt, Instr.sureAddr, h1]
      · cases hl
    · cases hl
  · cases hl

/-- Writing through a pointer. -/
theorem store_sound {t : TypeId} {s : Nat} (hs : sizeB P t = some s) (hI : Inv W0 g O w) {x y : AV} {v u : Value} {O' : Heap}
    (hr : Reads g x v) (hru : Reads g y u) (hst : storeA O s y x = some O') : ∃ w', (Instr.storeAt t v u).run P w = .ok () w' ∧ Inv W0 g O' w' := by
  unfold storeA at hst
  split at hst
  · rename_i id s' i k
    split at hst
    · rename_i E s'' elems ho
      split at hst
      · rename_i hc
        obtain ⟨rfl, hsto, hlen, hk⟩ := hc
        cases he : elems[i]? with
        | none => simp [he] at hst
        | some x =>
          simp only [he] at hst
          cases hst
          cases hr with
          | optr _ _ _ _ b r hm =>
            obtain ⟨b', r', hm', _, _, cs, h1, h2, h3, h4, h5⟩ := hI.obj id _ ho
            rw [hm] at hm'
            cases hm'
            obtain ⟨c1, c2⟩ := hru.cellsOf hsto
            have hilt : i < elems.length := (List.getElem?_eq_some_iff.1 he).1
            have hfit : i * s' + k + u.cells.toList.length ≤ cs.size := by
              have : (i + 1) * s' ≤ r * s' := Nat.mul_le_mul_right _ (by omega)
              rw [Nat.add_mul, Nat.one_mul] at this
              simp only [Array.length_toList, c1, hlen, h2]
              omega
            have hone : ∀ z ∈ u.cells.toList, z.oneCell' = true := fun z hz => by
              obtain ⟨j, hj⟩ := List.mem_iff_getElem?.1 hz
              have hjl : j < y.cells.length := by
                have := (List.getElem?_eq_some_iff.1 hj).1
                simp only [Array.length_toList, c1] at this
                exact this
              obtain ⟨z', p, q, _⟩ := c2 j _ (List.getElem?_eq_getElem hjl)
              have hj' : u.cells[j]? = some z := by simpa using hj
              rw [hj'] at p
              cases p
              exact q
            have hrun := run_storeCells_at P b (i * s' + k) E u.cells.toList 0 cs w h1 (by simpa using hfit) hone
            simp only [Nat.add_zero] at hrun
            obtain ⟨cs', hcs'⟩ : ∃ c, c = (cs.toList.take (i * s' + k) ++ u.cells.toList ++ cs.toList.drop (i * s' + k + u.cells.toList.length)).toArray := ⟨_, rfl⟩
            rw [← hcs'] at hrun
            refine ⟨w.setRow b cs', ?hr, hI.change (i := id) ho hm rfl rfl rfl (by simp) (fun q hq => setRow_other w b q _ hq) ?ho⟩
            case hr =>
              have hsz : u.cells.size = s := c1.trans hlen
              simp only [Instr.storeAt, Instr.sureAddr, Sem.run_bind, Sem.run_pure, Result.andThen_ok, storeVar, run_sizeOf' hs, hsz, ne_eq, not_true_eq_false, if_false]
              exact hrun
            case ho =>
              have hxl := h4 i x he
              subst hcs'
              refine ⟨_, setRow_heap w b cs _ E (0, 0) h1, ?_, by simpa using h3, fun q z hz => ?_, fun q z j a hz ha => ?_⟩
              · simp only [List.size_toArray, List.length_append, List.length_take, List.length_drop, Array.length_toList]
                simp only [Array.length_toList] at hfit
                omega
              · rw [List.getElem?_set] at hz
                split at hz
                · subst q
                  simp only [hilt, if_true, Option.some.injEq] at hz
                  subst hz
                  split
                  · rename_i hw; rw [hlen]; exact hw.2
                  · show (spliceA x.cells k y.cells).length = s'
                    simp only [spliceA, List.length_append, List.length_take, List.length_drop]
                    omega
                · exact h4 q z hz
              · have hul : u.cells.toList.length = s := by simp [c1, hlen]
                rw [List.getElem?_set] at hz
                have hget : ∀ p, ((cs.toList.take (i * s' + k) ++ u.cells.toList ++ cs.toList.drop (i * s' + k + u.cells.toList.length)).toArray)[p]? =
                    if p < i * s' + k then cs[p]? else if p < i * s' + k + s then u.cells[p - (i * s' + k)]? else cs[p]? := by
                  intro p
                  have hlt : (cs.toList.take (i * s' + k)).length = i * s' + k := by
                    simp only [List.length_take, Array.length_toList]
                    simp only [Array.length_toList] at hfit
                    omega
                  simp only [List.getElem?_toArray, List.append_assoc]
                  by_cases hp : p < i * s' + k
                  · rw [List.getElem?_append_left (by omega), List.getElem?_take, if_pos hp, if_pos hp]
                    simp
                  · rw [List.getElem?_append_right (by omega), hlt, if_neg hp]
                    by_cases hp2 : p < i * s' + k + s
                    · rw [List.getElem?_append_left (by omega), if_pos hp2]
                      simp
                    · rw [List.getElem?_append_right (by omega), if_neg hp2, List.getElem?_drop, hul]
                      have : i * s' + k + s + (p - (i * s' + k) - s) = p := by omega
                      rw [this]
                      simp
                rw [hget]
                split at hz
                · subst q
                  simp only [hilt, if_true, Option.some.injEq] at hz
                  subst hz
                  split at ha
                  · rename_i hw
                    obtain ⟨rfl, rfl⟩ := hw
                    have hjl : j < s := by rw [← hlen]; exact (List.getElem?_eq_some_iff.1 ha).1
                    rw [if_neg (by omega), if_pos (by omega)]
                    have e : i * s + j - (i * s + 0) = j := by omega
                    rw [e]
                    exact c2 j a ha
                  · have ha : (spliceA x.cells k y.cells)[j]? = some a := ha
                    unfold spliceA at ha
                    have hkl : (x.cells.take k).length = k := by
                      simp only [List.length_take]
                      omega
                    rw [List.append_assoc] at ha
                    by_cases hj : j < k
                    · rw [List.getElem?_append_left (by omega), List.getElem?_take, if_pos hj] at ha
                      rw [if_pos (by omega)]
                      exact h5 i x j a he ha
                    · rw [List.getElem?_append_right (by omega), hkl] at ha
                      by_cases hj2 : j < k + s
                      · rw [List.getElem?_append_left (by omega)] at ha
                        rw [if_neg (by omega), if_pos (by omega)]
                        have e : i * s' + j - (i * s' + k) = j - k := by omega
                        rw [e]
                        exact c2 (j - k) a ha
                      · rw [List.getElem?_append_right (by omega), List.getElem?_drop, hlen] at ha
                        have e : k + s + (j - k - s) = j := by omega
                        rw [e] at ha
                        rw [if_neg (by omega), if_neg (by omega)]
                        exact h5 i x j a he ha
                · rename_i hqi
                  have hzl := h4 q z hz
                  have hjl : j < s' := by rw [← hzl]; exact (List.getElem?_eq_some_iff.1 ha).1
                  have hne : q * s' + j < i * s' + k ∨ i * s' + k + s ≤ q * s' + j := by
                    rcases Nat.lt_or_gt_of_ne hqi with hlt | hgt
                    · right
                      have : (i + 1) * s' ≤ q * s' := Nat.mul_le_mul_right _ hlt
                      rw [Nat.add_mul, Nat.one_mul] at this
                      omega
                    · left
                      have : (q + 1) * s' ≤ i * s' := Nat.mul_le_mul_right _ hgt
                      rw [Nat.add_mul, Nat.one_mul] at this
                      omega
                  rcases hne with hlt | hge
                  · rw [if_pos hlt]; exact h5 q z j a hz ha
                  · rw [if_neg (by omega), if_neg (by omega)]; exact h5 q z j a hz ha
      · cases hst
    · cases hst
  · cases hst

end
end Go.Ab

/- The abstract walk, fifth part: the instructions that compute a value are sound. -/
namespace Go.Ab

theorem Reads.val_inv {g : Gh} {u v : Value} (h : Reads g (.val u) v) : v = u := by cases h; rfl

section
variable {P : Program} {W0 : World} {g : Gh} {O : Heap} {w : World}

theorem intBits_run {op : BinOp} {k : IntKind} {a b n : Int} (h : bitsA op k a b = some n) (w : World) : (Op.intBits op k a b).run P w = .ok (.int k n) w := by
  unfold bitsA at h
  cases op <;> simp at h <;> subst h <;> simp [Op.intBits]

theorem bin_sound {op : BinOp} {t : TypeId} {X Y : Operand} {x y r : AV} {u v : Value} (hx : Reads g x u) (hy : Reads g y v) (h : binA op x y = some r) (w : World) :
    ∃ z, (do eqGuard op t X Y u v; binOp op t u v : Sem Value).run P w = .ok z w ∧ Reads g r z := by
  unfold binA at h
  split at h
  · rename_i k a k' b
    have hx := hx.val_inv
    have hy := hy.val_inv
    subst hx hy
    have hg : (eqGuard op t X Y (.int k a) (.int k' b)).run P w = .ok () w := by cases op <;> simp [eqGuard]
    split at h
    · unfold shiftA at h
      split at h
      · cases h
      · rename_i hb
        simp at h
        subst h
        refine ⟨_, ?_, .val _⟩
        simp only [Sem.run_bind, hg, Result.andThen_ok]
        simp [binOp, Op.shift, hb]
    · unfold shiftA at h
      split at h
      · cases h
      · rename_i hb
        simp at h
        subst h
        refine ⟨_, ?_, .val _⟩
        simp only [Sem.run_bind, hg, Result.andThen_ok]
        simp [binOp, Op.shift, hb]
    · rename_i h1 h2
      split at h
      · rename_i hk
        subst hk
        simp only [Sem.run_bind, hg, Result.andThen_ok]
        unfold intA at h
        cases op <;> simp only [Option.some.injEq, Option.map_eq_some_iff] at h <;>
          first
            | exact (h1 rfl).elim
            | exact (h2 rfl).elim
            | (subst h; exact ⟨_, by simp [binOp, Op.intArith, Op.intCmp], .val _⟩)
            | (obtain ⟨n, hn, rfl⟩ := h; exact ⟨_, by simp [binOp]; exact intBits_run hn w, .val _⟩)
            | (split at h
               · cases h
               · rename_i hb; cases h; exact ⟨_, by simp [binOp, Op.intDiv, hb], .val _⟩)
      · cases h
  · cases h

theorem binb_sound {neg : Bool} {t : TypeId} {X Y : Operand} {x y r : AV} {u v : Value} (ht : P.underlying t = some .bool) (hx : Reads g x u) (hy : Reads g y v) (h : binbA neg x y = some r) (w : World) :
    ∃ z, (do eqGuard (if neg then .neq else .eql) t X Y u v; binOp (if neg then .neq else .eql) t u v : Sem Value).run P w = .ok z w ∧ Reads g r z := by
  unfold binbA at h
  split at h
  · rename_i a b
    have hx := hx.val_inv
    have hy := hy.val_inv
    subst hx hy
    cases h
    cases neg
    · exact ⟨_, by simp only [Bool.false_eq_true, if_false, Sem.run_bind]; simp [eqGuard, run_eql_bool w t a b ht], .val _⟩
    · exact ⟨_, by simp only [if_true, Sem.run_bind]; simp [eqGuard, run_neq_bool w t a b ht], .val _⟩
  · cases h

theorem equal_slice_nil {t el : TypeId} (ht : P.underlying t = some (.slice el)) (a : Option Addr) (n c : Nat) (w : World) : (Op.equal t (.slice a n c) (.slice none 0 0)).run P w = .ok a.isNone w := by
  unfold Op.equal Op.maxDepth
  rw [show (10000 : Nat) = 9999 + 1 from rfl, Op.equalIn]
  simp only [Sem.run_bind, run_underlying ht, Result.andThen_ok]
  cases a <;> rfl

theorem equal_func_nil {t : TypeId} {p q : Array TypeId} {r : Bool} (ht : P.underlying t = some (.func p q r)) (f : Fn) (a b : Array Value) (w : World) : (Op.equal t (.func f a b) .nilFunc).run P w = .ok false w := by
  unfold Op.equal Op.maxDepth
  rw [show (10000 : Nat) = 9999 + 1 from rfl, Op.equalIn]
  simp only [Sem.run_bind, run_underlying ht, Result.andThen_ok]
  rfl

theorem equal_nil_nil {t : TypeId} {p q : Array TypeId} {r : Bool} (ht : P.underlying t = some (.func p q r)) (w : World) : (Op.equal t .nilFunc .nilFunc).run P w = .ok true w := by
  unfold Op.equal Op.maxDepth
  rw [show (10000 : Nat) = 9999 + 1 from rfl, Op.equalIn]
  simp only [Sem.run_bind, run_underlying ht, Result.andThen_ok]
  rfl

theorem equal_map_nil {t k el : TypeId} (ht : P.underlying t = some (.map k el)) (a : Option Nat) (w : World) : (Op.equal t (.map a) (.map none)).run P w = .ok a.isNone w := by
  unfold Op.equal Op.maxDepth
  rw [show (10000 : Nat) = 9999 + 1 from rfl, Op.equalIn]
  simp only [Sem.run_bind, run_underlying ht, Result.andThen_ok]
  cases a <;> rfl

theorem eqnil_slice {neg : Bool} {t el : TypeId} {X : Operand} {x : AV} {b : Bool} {u : Value} (ht : P.underlying t = some (.slice el)) (hx : Reads g x u) (h : isNilA 0 x = some b) (w : World) :
    (do eqGuard (if neg then .neq else .eql) t X (.const (.slice none 0 0)) u (.slice none 0 0); binOp (if neg then .neq else .eql) t u (.slice none 0 0) : Sem Value).run P w = .ok (.bool (if neg then !b else b)) w := by
  have key : ∃ a n c, u = .slice a n c ∧ a.isNone = b := by
    unfold isNilA at h
    split at h
    · cases h; have := hx.val_inv; subst this; exact ⟨_, _, _, rfl, rfl⟩
    · cases h; cases hx <;> exact ⟨_, _, _, rfl, rfl⟩
    · cases h; cases hx; exact ⟨_, _, _, rfl, rfl⟩
    all_goals first | (rename_i e; cases e; done) | (cases h; done) | skip
  obtain ⟨a, n, c, rfl, rfl⟩ := key
  have hk := equal_slice_nil ht a n c w
  cases neg <;> simp [eqGuard, binOp, hk]

theorem eqnil_func {neg : Bool} {t : TypeId} {p q : Array TypeId} {r : Bool} {X : Operand} {x : AV} {b : Bool} {u : Value} (ht : P.underlying t = some (.func p q r)) (hx : Reads g x u) (h : isNilA 1 x = some b) (w : World) :
    (do eqGuard (if neg then .neq else .eql) t X (.const .nilFunc) u .nilFunc; binOp (if neg then .neq else .eql) t u .nilFunc : Sem Value).run P w = .ok (.bool (if neg then !b else b)) w := by
  have key : (u = .nilFunc ∧ b = true) ∨ ∃ f a c, u = .func f a c ∧ b = false := by
    unfold isNilA at h
    split at h
    case h_4 => cases h; exact .inl ⟨hx.val_inv, rfl⟩
    case h_5 => cases h; cases hx; exact .inr ⟨_, _, _, rfl, rfl⟩
    all_goals first | (rename_i e; cases e; done) | (cases h; done) | skip
  rcases key with ⟨rfl, rfl⟩ | ⟨f, a, c, rfl, rfl⟩
  · have hk := equal_nil_nil ht w
    cases neg <;> simp [eqGuard, binOp, hk]
  · have hk := equal_func_nil ht f a c w
    cases neg <;> simp [eqGuard, binOp, hk]

theorem eqnil_map {neg : Bool} {t kt el : TypeId} {X : Operand} {x : AV} {b : Bool} {u : Value} (ht : P.underlying t = some (.map kt el)) (hx : Reads g x u) (h : isNilA 2 x = some b) (w : World) :
    (do eqGuard (if neg then .neq else .eql) t X (.const (.map none)) u (.map none); binOp (if neg then .neq else .eql) t u (.map none) : Sem Value).run P w = .ok (.bool (if neg then !b else b)) w := by
  have key : ∃ a, u = .map a ∧ a.isNone = b := by
    unfold isNilA at h
    split at h
    case h_6 => cases h; cases hx; exact ⟨_, rfl, rfl⟩
    case h_7 => cases h; have := hx.val_inv; subst this; exact ⟨_, rfl, rfl⟩
    all_goals first | (rename_i e; cases e; done) | (cases h; done) | skip
  obtain ⟨a, rfl, rfl⟩ := key
  have hk := equal_map_nil ht a w
  cases neg <;> simp [eqGuard, binOp, hk]

theorem un_sound {op : UnOp} {x r : AV} {u : Value} (hx : Reads g x u) (h : unA op x = some r) (w : World) : ∃ z, (Op.unary op u).run P w = .ok z w ∧ Reads g r z := by
  unfold unA at h
  split at h
  · have hx := hx.val_inv
    subst hx
    cases op <;> simp at h
    subst h
    exact ⟨_, by simp [Op.unary], .val _⟩
  · have hx := hx.val_inv
    subst hx
    cases op <;> simp at h
    subst h
    exact ⟨_, by simp [Op.unary, Op.intArith], .val _⟩
  · cases h

theorem intOfA_inv {x : AV} {n : Int} {u : Value} (hx : Reads g x u) (h : intOfA x = some n) : ∃ k, u = .int k n := by
  unfold intOfA at h
  split at h
  · have hx := hx.val_inv
    subst hx
    cases h
    exact ⟨_, rfl⟩
  · cases h

theorem conv_sound {src dst : TypeId} {k : IntKind} {x : AV} {n : Int} {u : Value} (hs : P.underlying src ≠ none) (hd : P.underlying dst = some (.int k)) (hx : Reads g x u) (h : intOfA x = some n) (w : World) :
    (convert src dst u).run P w = .ok (.int k (k.wrap n)) w := by
  obtain ⟨k', rfl⟩ := intOfA_inv hx h
  cases hsd : P.underlying src with
  | none => exact (hs hsd).elim
  | some d =>
    unfold convert
    simp only [Sem.run_bind, run_underlying hsd, run_underlying hd, Result.andThen_ok]
    cases d <;> simp [Conv.intToInt]

theorem partOf_inv {fs : Array Field} {f : Nat} {off s : Nat} {agg : Bool} (h : partOf P fs f = some (off, s, agg)) : ∃ fd, fs[f]? = some fd ∧ fd.offset = off ∧ sizeB P fd.type = some s ∧ 0 < s ∧ isAggB P fd.type = agg := by
  unfold partOf at h
  cases hf : fs[f]? with
  | none => simp [hf] at h
  | some fd =>
    simp only [hf] at h
    cases hs : sizeB P fd.type with
    | none => simp [hs] at h
    | some s' =>
      simp only [hs] at h
      split at h
      · cases h; exact ⟨fd, rfl, rfl, hs, by assumption, rfl⟩
      · cases h

/-- Cells that never change again hold x. -/
def FrozenAt (g : Gh) (b o : Nat) (x : AV) : Prop := ∃ vs : Nat → Value, (∀ (j : Nat) y, x.cells[j]? = some y → g.c b (o + j) = some (vs j)) ∧ (∀ (j : Nat) y, x.cells[j]? = some y → Reads g y (vs j))

theorem FrozenAt.reads {b o : Nat} {x : AV} (h : FrozenAt g b o x) : Reads g (.ref x) (.pointer (some ⟨b, o, none⟩)) :=
  let ⟨vs, h1, h2⟩ := h; .ref x b o vs h1 h2

theorem FrozenAt.part (hI : Inv W0 g O w) {b o : Nat} {x z : AV} {off n : Nat} {agg : Bool} (h : FrozenAt g b o x) (hz : partA x off n agg = some z) : FrozenAt g b (o + off) z := by
  obtain ⟨vs, h5, h6⟩ := h
  unfold partA at hz
  split at hz
  · rename_i hc
    cases hz
    refine ⟨vs, fun j y' hy => ?_, h6⟩
    rw [hc.1]; exact h5 j y' hy
  · unfold subA at hz
    split at hz
    · split at hz
      · cases hz
        refine ⟨fun j => vs (off + j), fun j y' hy => ?_, fun j y' hy => ?_⟩ <;>
          (simp only [AV.cells] at hy; rw [List.getElem?_take] at hy; split at hy)
        · rw [List.getElem?_drop] at hy
          rw [Nat.add_assoc]
          exact h5 _ y' hy
        · cases hy
        · rw [List.getElem?_drop] at hy
          exact h6 _ y' hy
        · cases hy
      · cases hz
    · split at hz
      · have hr := h6 _ z hz
        have hone := (hI.cell _ _ _ (h5 _ z hz)).2
        have hc := hr.not_agg hone
        refine ⟨fun _ => vs off, fun j y hy => ?_, fun j y hy => ?_⟩ <;> rw [hc] at hy
        · cases j with
          | zero => exact h5 _ z hz
          | succ j => simp at hy
        · cases j with
          | zero => simp at hy; subst hy; exact hr
          | succ j => simp at hy
      · cases hz

theorem fieldA_sound {t : TypeId} {fs : Array Field} {f off s : Nat} {agg : Bool} {x r : AV} {u : Value} (hI : Inv W0 g O w) (ht : P.underlying t = some (.struct fs)) (hp : partOf P fs f = some (off, s, agg))
    (hx : Reads g x u) (h : fieldAddrA off s agg x = some r) : ∃ z, (Instr.fieldAt t u f).run P w = .ok z w ∧ Reads g r z := by
  obtain ⟨fd, hf, rfl, hs, h0, rfl⟩ := partOf_inv hp
  have hne : s ≠ 0 := by omega
  have run : ∀ a : Addr, (Instr.fieldAt t (.pointer (some a)) f).run P w = .ok (.pointer (some (a.add fd.offset))) w := by
    intro a
    simp [Instr.fieldAt, run_underlying ht, hf, Instr.sureAddr, fieldPlace, run_sizeOf' hs, hne]
  unfold fieldAddrA at h
  split at h
  · rename_i y
    rw [Option.map_eq_some_iff] at h
    obtain ⟨z, hz, rfl⟩ := h
    cases hx with
    | ref _ b o vs h5 h6 =>
      refine ⟨_, run _, ?_⟩
      rw [Addr.add_lit]
      exact (FrozenAt.part hI ⟨vs, h5, h6⟩ hz).reads
  · cases h
    cases hx with
    | optr _ _ _ _ b room h0 => exact ⟨_, run _, by rw [Addr.add_lit, Nat.add_assoc]; exact .optr _ _ _ _ b room h0⟩
  · cases h

/-- A part of an aggregate value. -/
theorem part_sound {t : TypeId} {s off : Nat} {agg : Bool} {l : List AV} {cs : Array Value} {r : AV} (hs : sizeB P t = some s) (ha : isAggB P t = agg) (hu : P.underlying t ≠ none)
    (hx : Reads g (.agg l) (.agg cs)) (h : partA (.agg l) off s agg = some r) (w : World) : ∃ z, (part t cs off).run P w = .ok z w ∧ Reads g r z := by
  cases hx with
  | agg _ _ hl h1 hh =>
    have hc : CellsAt (fun j => cs[j]?) g (AV.agg l).cells := fun j y hy => by
      have hj : j < l.length := (List.getElem?_eq_some_iff.1 hy).1
      have hv : cs[j]? = some (cs[j]'(by omega)) := Array.getElem?_eq_getElem (by omega)
      exact ⟨_, hv, h1 j _ hv, hh j y _ hy hv⟩
    obtain ⟨p1, p2⟩ := hc.part h
    unfold part
    simp only [Sem.run_bind, isAggB_run hs hu, Result.andThen_ok, ha]
    cases agg with
    | true =>
      obtain ⟨hy, m, rfl, hm⟩ := p1 rfl
      have hle : off + s ≤ cs.size := by
        rcases Nat.eq_zero_or_pos m.length with h0 | h0
        · unfold partA at h
          split at h
          · rename_i hcc
            cases h
            have := hcc.2.2.2
            simp only [AV.cells] at this
            omega
          · unfold subA at h
            simp only [if_true] at h
            split at h
            · rename_i hh'
              simp only [AV.cells] at hh'
              omega
            · cases h
        · obtain ⟨v, hv, _⟩ := hy (m.length - 1) _ (List.getElem?_eq_getElem (by show m.length - 1 < m.length; omega))
          have := (Array.getElem?_eq_some_iff.1 hv).1
          omega
      refine ⟨.agg (cs.extract off (off + s)), by simp [run_sizeOf' hs], .agg m _ (by simp; omega) (fun i v hv => ?_) (fun i x v hx hv => ?_)⟩
      · rw [Array.getElem?_extract] at hv
        split at hv
        · exact h1 _ v hv
        · cases hv
      · obtain ⟨v', hv', _, hr⟩ := hy i x hx
        rw [Array.getElem?_extract] at hv
        split at hv
        · have hv' : cs[off + i]? = some v' := hv'
          rw [hv'] at hv; cases hv; exact hr
        · cases hv
    | false =>
      obtain ⟨_, v, hv, _, hr⟩ := p2 rfl
      exact ⟨v, by simp [hv], hr⟩

theorem index_sound {t el : TypeId} {n s : Nat} {agg : Bool} {l : List AV} {i : AV} {u v : Value} {m : Int} {r : AV} (ht : P.underlying t = some (.array n el)) (hs : sizeB P el = some s) (ha : isAggB P el = agg) (hu : P.underlying el ≠ none)
    (hx : Reads g (.agg l) u) (hi : Reads g i v) (hm : intOfA i = some m) (h0 : 0 ≤ m ∧ m < n) (h : partA (.agg l) (m.toNat * s) s agg = some r) (w : World) :
    ∃ z, (Instr.index t u v).run P w = .ok z w ∧ Reads g r z := by
  obtain ⟨k, rfl⟩ := intOfA_inv hi hm
  cases hx with
  | agg _ cs hl h1 hh =>
    obtain ⟨z, hz, hr⟩ := part_sound hs ha hu (.agg l cs hl h1 hh) h w
    refine ⟨z, ?_, hr⟩
    simp [Instr.index, asIntOf, run_underlying ht, h0, run_sizeOf' hs, hz]

theorem indexA_sound {t el : TypeId} {s : Nat} {x i r : AV} {u v : Value} {m : Int} (hI : Inv W0 g O w) (ht : P.underlying t = some (.slice el)) (hs : sizeB P el = some s)
    (hx : Reads g x u) (hi : Reads g i v) (hm : intOfA i = some m) (h : indexAddrA s m x = some r) : ∃ z, (Instr.indexAt t u v).run P w = .ok z w ∧ Reads g r z := by
  obtain ⟨k, rfl⟩ := intOfA_inv hi hm
  have run : ∀ (a : Addr) (n c : Nat), 0 ≤ m → m < n → (Instr.indexAt t (.slice (some a) n c) (.int k m)).run P w = .ok (.pointer (some (a.add (m.toNat * s)))) w := by
    intro a n c h0 h1
    simp [Instr.indexAt, asIntOf, run_underlying ht, h0, h1, run_sizeOf' hs]
  unfold indexAddrA at h
  split at h
  · rename_i s' t' l
    split at h
    · rename_i hc
      obtain ⟨rfl, h0, h1⟩ := hc
      rw [Option.map_eq_some_iff] at h
      obtain ⟨z, hz, rfl⟩ := h
      cases hx with
      | listE _ _ a => simp at h1; omega
      | list _ _ _ b off cap vs p1 p2 p3 p4 p5 p6 =>
        refine ⟨_, run _ _ _ h0 h1, ?_⟩
        rw [Addr.add_lit]
        exact .ref _ _ _ (vs m.toNat) (fun j y hy => by rw [Nat.add_assoc]; exact p5 _ _ j y hz hy) (fun j y hy => p6 _ _ j y hz hy)
    · cases h
  · rename_i id s' j n c'
    split at h
    · rename_i hc
      obtain ⟨rfl, h0, h1⟩ := hc
      cases h
      cases hx with
      | own _ _ _ _ _ b room off c q0 q1 q2 q3 q4 q5 =>
        refine ⟨_, run _ _ _ h0 h1, ?_⟩
        rw [Addr.add_lit]
        have : off = j * s' := q1.resolve_left (by omega)
        subst this
        have e : j * s' + m.toNat * s' = (j + m.toNat) * s' + 0 := by rw [Nat.add_mul]; rfl
        rw [e]
        exact .optr _ _ _ _ b room q0
    · cases h
  · cases h

theorem indexP_sound {t el : TypeId} {n s : Nat} {agg : Bool} {x i r : AV} {u v : Value} {m : Int} (hI : Inv W0 g O w) (ht : P.underlying t = some (.array n el)) (hs : sizeB P el = some s)
    (hx : Reads g x u) (hi : Reads g i v) (hm : intOfA i = some m) (h : indexPtrA n s agg m x = some r) : ∃ z, (Instr.indexAt t u v).run P w = .ok z w ∧ Reads g r z := by
  obtain ⟨k, rfl⟩ := intOfA_inv hi hm
  have run : ∀ (a : Addr), 0 ≤ m → m < n → (Instr.indexAt t (.pointer (some a)) (.int k m)).run P w = .ok (.pointer (some (a.add (m.toNat * s)))) w := by
    intro a h0 h1
    simp [Instr.indexAt, asIntOf, run_underlying ht, h0, h1, run_sizeOf' hs, Instr.sureAddr]
  unfold indexPtrA at h
  split at h
  · split at h
    · rename_i hc
      cases h
      cases hx with
      | optr _ _ _ _ b room q0 =>
        refine ⟨_, run _ hc.1 hc.2, ?_⟩
        rw [Addr.add_lit, Nat.add_assoc]
        exact .optr _ _ _ _ b room q0
    · cases h
  · split at h
    · rename_i hc
      rw [Option.map_eq_some_iff] at h
      obtain ⟨z, hz, rfl⟩ := h
      cases hx with
      | ref _ b off vs p5 p6 =>
        refine ⟨_, run _ hc.1 hc.2, ?_⟩
        rw [Addr.add_lit]
        exact (FrozenAt.part hI ⟨vs, p5, p6⟩ hz).reads
    · cases h
  · cases h

theorem bound_sound {d : Nat} {o : Option AV} {o' : Option Value} {n : Nat} (ho : match o, o' with | none, none => True | some x, some v => Reads g x v | _, _ => False) (h : boundA d o = some n) :
    (o' = none ∧ n = d) ∨ (∃ k m, o' = some (.int k m) ∧ 0 ≤ m ∧ m.toNat = n) := by
  unfold boundA at h
  split at h
  · cases h
    cases o' with
    | none => exact .inl ⟨rfl, rfl⟩
    | some v => exact ho.elim
  · cases o' with
    | none => exact ho.elim
    | some v =>
      have ho := Reads.val_inv ho
      subst ho
      split at h
      · rename_i h0
        cases h
        exact .inr ⟨_, _, rfl, h0, rfl⟩
      · cases h
  · cases h

end
end Go.Ab

/- The abstract walk, sixth part: slice expressions, literals, make, len, cap, comparisons of structs are sound. -/
namespace Go.Ab

section
variable {P : Program} {W0 : World} {g : Gh} {O : Heap} {w : World}

theorem bounds_run {len cap a b c : Nat} {lo hi mx : Option Value}
    (hm : (mx = none ∧ c = cap) ∨ (∃ k m, mx = some (.int k m) ∧ 0 ≤ m ∧ m.toNat = c ∧ c ≤ cap ∧ hi ≠ none))
    (hh : (hi = none ∧ b = len) ∨ (∃ k m, hi = some (.int k m) ∧ 0 ≤ m ∧ m.toNat = b)) (hl : (lo = none ∧ a = 0) ∨ (∃ k m, lo = some (.int k m) ∧ 0 ≤ m ∧ m.toNat = a))
    (hbc : b ≤ c) (hab : a ≤ b) (w : World) : (Instr.sliceBounds true len cap lo hi mx).run P w = .ok (a, b, c) w := by
  have one : ∀ (k : IntKind) (m : Int) (y : Nat) (code : BoundsCode), 0 ≤ m → m.toNat ≤ y → (Instr.sliceBound (.int k m) y code).run P w = .ok m.toNat w := fun k m y code h0 h1 => run_sliceBound w k m y code h0 (by omega)
  unfold Instr.sliceBounds
  rcases hm with ⟨rfl, rfl⟩ | ⟨km, mm, rfl, hm0, rfl, hmc, hne⟩
  · rcases hh with ⟨rfl, rfl⟩ | ⟨kh, mh, rfl, hh0, rfl⟩
    · rcases hl with ⟨rfl, rfl⟩ | ⟨kl, ml, rfl, hl0, rfl⟩
      · simp
      · simp [one kl ml _ _ hl0 hab]
    · rcases hl with ⟨rfl, rfl⟩ | ⟨kl, ml, rfl, hl0, rfl⟩
      · simp [one kh mh _ _ hh0 hbc]
      · simp [one kh mh _ _ hh0 hbc, one kl ml _ _ hl0 hab]
  · rcases hh with ⟨rfl, rfl⟩ | ⟨kh, mh, rfl, hh0, rfl⟩
    · exact (hne rfl).elim
    · rcases hl with ⟨rfl, rfl⟩ | ⟨kl, ml, rfl, hl0, rfl⟩
      · simp [one km mm _ _ hm0 hmc, one kh mh _ _ hh0 hbc]
      · simp [one km mm _ _ hm0 hmc, one kh mh _ _ hh0 hbc, one kl ml _ _ hl0 hab]

theorem slice_run {t el : TypeId} {s len cap a b c : Nat} {A : Option Addr} {lo hi mx : Option Value} (ht : P.underlying t = some (.slice el)) (hs : sizeB P el = some s)
    (hb : (Instr.sliceBounds true len cap lo hi mx).run P w = .ok (a, b, c) w) :
    (Instr.sliceAt t (.slice A len cap) lo hi mx).run P w = .ok (.slice (if c = a then A else A.map (·.add (a * s))) (b - a) (c - a)) w := by
  simp [Instr.sliceAt, Instr.slice, run_underlying ht, hb, run_sizeOf' hs]

def optReads (g : Gh) (o : Option AV) (o' : Option Value) : Prop := match o, o' with | none, none => True | some x, some v => Reads g x v | _, _ => False

theorem leCap_le {n : Nat} {c : Option Nat} {b d : Nat} (h : leCap n c b = true) (hn : n ≤ d) (hc : ∀ k, c = some k → d = k) : b ≤ d := by
  unfold leCap at h
  simp only [Bool.or_eq_true, decide_eq_true_eq] at h
  rcases h with h | h
  · omega
  · cases c with
    | none => simp at h
    | some k => simp at h; have := hc k rfl; omega

theorem slice_sound {t el : TypeId} {s : Nat} {x r : AV} {u : Value} {lo hi mx : Option AV} {lo' hi' mx' : Option Value} (ht : P.underlying t = some (.slice el)) (hs : sizeB P el = some s)
    (hx : Reads g x u) (h1 : optReads g lo lo') (h2 : optReads g hi hi') (h3 : optReads g mx mx') (hmh : mx = none ∨ hi ≠ none) (h : sliceA s x lo hi mx = some r) :
    ∃ z, (Instr.sliceAt t u lo' hi' mx').run P w = .ok z w ∧ Reads g r z := by
  have hhn : ∀ {hi : Option AV} {hi' : Option Value}, optReads g hi hi' → hi ≠ none → hi' ≠ none := fun {hi hi'} h2 hne e => by
    subst e; cases hi with
    | none => exact hne rfl
    | some _ => exact h2.elim
  have hmn : mx = none → mx' = none := fun e => by
    subst e; cases mx' with
    | none => rfl
    | some _ => exact h3.elim
  unfold sliceA at h
  split at h
  · rename_i s' t' l
    split at h
    · rename_i a b ha hb
      have La := bound_sound h1 ha
      have Lb := bound_sound h2 hb
      split at h
      · rename_i hc
        obtain ⟨rfl, hab, hbl⟩ := hc
        cases hx with
        | listE _ _ ad =>
          have hb0 : b = 0 := by simpa using hbl
          have ha0 : a = 0 := by omega
          subst hb0 ha0
          have mk : ∀ tt : Bool, (Instr.sliceBounds true 0 0 lo' hi' mx').run P w = .ok (0, 0, 0) w →
              ∃ z, (Instr.sliceAt t (.slice (some ad) 0 0) lo' hi' mx').run P w = .ok z w ∧ Reads g (.list s' tt ((([] : List AV).drop 0).take (0 - 0))) z := by
            intro tt hrun
            refine ⟨_, slice_run ht hs hrun, ?_⟩
            simp only [if_true]
            exact .listE _ _ _
          cases mx with
          | none =>
            cases h
            have hmx := hmn rfl
            subst hmx
            exact mk _ (bounds_run (.inl ⟨rfl, rfl⟩) Lb La (by simp) (by omega) w)
          | some m =>
            simp only at h
            split at h
            · rename_i c hc'
              split at h
              · rename_i hcc
                cases h
                have hc0 : c = 0 := by simpa using hcc.2
                subst hc0
                have hne : hi' ≠ none := hhn h2 (hmh.resolve_left (by simp))
                refine mk _ (bounds_run (.inr ?_) Lb La (by simp) (by omega) w)
                rcases bound_sound h3 hc' with ⟨e, _⟩ | ⟨k, m', e, h0, h1'⟩
                · subst e; exact h3.elim
                · exact ⟨k, m', e, h0, h1', by simp, hne⟩
              · cases h
            · cases h
        | list _ _ _ bk off cap vs q1 q2 q3 q4 q5 q6 =>
          have mk : ∀ (c : Nat) (tt : Bool), b ≤ c → c ≤ cap → (tt = true → c - a = b - a) → (Instr.sliceBounds true l.length cap lo' hi' mx').run P w = .ok (a, b, c) w →
              ∃ z, (Instr.sliceAt t (.slice (some ⟨bk, off, none⟩) l.length cap) lo' hi' mx').run P w = .ok z w ∧ Reads g (.list s' tt ((l.drop a).take (b - a))) z := by
            intro c tt hbc hcc htt hrun
            have hlen : ((l.drop a).take (b - a)).length = b - a := by simp only [List.length_take, List.length_drop]; omega
            refine ⟨_, slice_run ht hs hrun, ?_⟩
            obtain ⟨off', hoff, hoff'⟩ : ∃ off', (if c = a then some (⟨bk, off, none⟩ : Addr) else (some (⟨bk, off, none⟩ : Addr)).map (·.add (a * s'))) = some ⟨bk, off', none⟩ ∧ (c ≠ a → off' = off + a * s') := by
              by_cases hca : c = a
              · exact ⟨off, by rw [if_pos hca], fun hne => (hne hca).elim⟩
              · exact ⟨off + a * s', by rw [if_neg hca]; simp [Addr.add_lit], fun _ => rfl⟩
            rw [hoff]
            have hR := Reads.list (g := g) s' tt ((l.drop a).take (b - a)) bk off' (c - a) (fun i j => vs (a + i) j) (by omega) (fun e => by rw [hlen]; exact htt e) (by omega)
              (fun i x hx => by rw [List.getElem?_take] at hx; split at hx
                                · rw [List.getElem?_drop] at hx; exact q4 _ x hx
                                · cases hx)
              (fun i x j y hx hy => by
                rw [List.getElem?_take] at hx
                split at hx
                · rename_i hlt
                  rw [List.getElem?_drop] at hx
                  rw [hoff' (by omega)]
                  have := q5 _ x j y hx hy
                  rw [Nat.add_mul] at this
                  have e : off + a * s' + (i * s' + j) = off + (a * s' + i * s' + j) := by omega
                  rw [e]; exact this
                · cases hx)
              (fun i x j y hx hy => by
                rw [List.getElem?_take] at hx
                split at hx
                · rw [List.getElem?_drop] at hx; exact q6 _ x j y hx hy
                · cases hx)
            rw [hlen] at hR
            exact hR
          cases mx with
          | none =>
            cases h
            have hmx := hmn rfl
            subst hmx
            refine mk cap _ (by omega) (Nat.le_refl _) (fun e => ?_) (bounds_run (.inl ⟨rfl, rfl⟩) Lb La (by omega) hab w)
            simp only [Bool.and_eq_true, beq_iff_eq] at e
            have := q2 e.1
            omega
          | some m =>
            simp only at h
            split at h
            · rename_i c hc
              split at h
              · rename_i hbc
                cases h
                have hne : hi' ≠ none := hhn h2 (hmh.resolve_left (by simp))
                have Lc := bound_sound h3 hc
                refine mk c _ hbc.1 (by omega) (fun e => ?_) (bounds_run (.inr ?_) Lb La hbc.1 hab w)
                · simp only [beq_iff_eq] at e
                  omega
                · rcases Lc with ⟨e, _⟩ | ⟨k, m', e, h0, h1'⟩
                  · subst e; exact h3.elim
                  · exact ⟨k, m', e, h0, h1', by omega, hne⟩
              · cases h
            · cases h
      · cases h
    · cases h
  · rename_i id s' i n c0
    split at h
    · rename_i a b ha hb
      have La := bound_sound h1 ha
      have Lb := bound_sound h2 hb
      split at h
      · rename_i hc
        obtain ⟨rfl, hab, hbl⟩ := hc
        cases hx with
        | own _ _ _ _ _ bk room off c q0 q1 q2 q3 q4 q5 =>
          have hbc := leCap_le hbl q2 q4
          have mk : ∀ (d : Nat) (dd : Option Nat), b ≤ d → d ≤ c → (∀ k, dd = some k → d - a = k) → (Instr.sliceBounds true n c lo' hi' mx').run P w = .ok (a, b, d) w →
              ∃ z, (Instr.sliceAt t (.slice (some ⟨bk, off, none⟩) n c) lo' hi' mx').run P w = .ok z w ∧ Reads g (.own id s' (i + a) (b - a) dd) z := by
            intro d dd hbd hdc htt hrun
            refine ⟨_, slice_run ht hs hrun, ?_⟩
            obtain ⟨off', hoff, hoff'⟩ : ∃ off', (if d = a then some (⟨bk, off, none⟩ : Addr) else (some (⟨bk, off, none⟩ : Addr)).map (·.add (a * s'))) = some ⟨bk, off', none⟩ ∧ (d ≠ a → off' = off + a * s') := by
              by_cases hca : d = a
              · exact ⟨off, by rw [if_pos hca], fun hne => (hne hca).elim⟩
              · exact ⟨off + a * s', by rw [if_neg hca]; simp [Addr.add_lit], fun _ => rfl⟩
            rw [hoff]
            refine .own id s' (i + a) (b - a) dd bk room off' (d - a) q0 ?_ (by omega) (by omega) htt (by omega)
            by_cases hca : d = a
            · exact .inl (by omega)
            · refine .inr ?_
              rw [hoff' hca, q1.resolve_left (by omega), Nat.add_mul]
          cases mx with
          | none =>
            cases h
            have hmx := hmn rfl
            subst hmx
            refine mk c _ hbc (Nat.le_refl _) (fun k e => ?_) (bounds_run (.inl ⟨rfl, rfl⟩) Lb La hbc hab w)
            rw [Option.map_eq_some_iff] at e
            obtain ⟨k', hk', rfl⟩ := e
            rw [q4 k' hk']
          | some m =>
            simp only at h
            split at h
            · rename_i d hd
              split at h
              · rename_i hbd
                cases h
                have hdc := leCap_le hbd.2 q2 q4
                have hne : hi' ≠ none := hhn h2 (hmh.resolve_left (by simp))
                have Ld := bound_sound h3 hd
                refine mk d _ hbd.1 hdc (fun k e => by cases e; rfl) (bounds_run (.inr ?_) Lb La hbd.1 hab w)
                rcases Ld with ⟨e, _⟩ | ⟨k, m', e, h0, h1'⟩
                · subst e; exact h3.elim
                · exact ⟨k, m', e, h0, h1', hdc, hne⟩
              · cases h
            · cases h
      · cases h
    · cases h
  · have hx := hx.val_inv
    subst hx
    have fin : (Instr.sliceBounds true 0 0 lo' hi' mx').run P w = .ok (0, 0, 0) w → ∃ z, (Instr.sliceAt t (.slice none 0 0) lo' hi' mx').run P w = .ok z w ∧ Reads g (.val (.slice none 0 0)) z :=
      fun hrun => ⟨_, slice_run ht hs hrun, by simp; exact .val _⟩
    split at h
    · rename_i ha hb
      cases h
      have hmx := hmn rfl
      subst hmx
      exact fin (bounds_run (.inl ⟨rfl, rfl⟩) (bound_sound h2 hb) (bound_sound h1 ha) (Nat.le_refl _) (Nat.le_refl _) w)
    · rename_i m ha hb
      split at h
      · rename_i hm
        cases h
        have hne : hi' ≠ none := hhn h2 (hmh.resolve_left (by simp))
        refine fin (bounds_run (.inr ?_) (bound_sound h2 hb) (bound_sound h1 ha) (Nat.le_refl _) (Nat.le_refl _) w)
        rcases bound_sound h3 hm with ⟨e, _⟩ | ⟨k, m', e, h0, h1'⟩
        · subst e; exact h3.elim
        · exact ⟨k, m', e, h0, h1', Nat.le_refl _, hne⟩
      · cases h
    · cases h
  · cases h

theorem maxmin_sound {mx : Bool} {x y r : AV} {u v : Value} {ts : Array TypeId} {t : TypeId} (hx : Reads g x u) (hy : Reads g y v) (h : maxminA mx x y = some r) (w : World) :
    ∃ z, ((if mx then Builtin.max_ ts t #[u, v] else Builtin.min_ ts t #[u, v] : Sem Value)).run P w = .ok z w ∧ Reads g r z := by
  unfold maxminA at h
  split at h
  · have hx := hx.val_inv
    have hy := hy.val_inv
    subst hx hy
    cases h
    cases mx
    · exact ⟨_, by simp only [Bool.false_eq_true, if_false]; exact run_min_int2 w ts t _ _ _ _, .val _⟩
    · exact ⟨_, by simp only [if_true]; exact run_max_int2 w ts t _ _ _ _, .val _⟩
  · cases h

theorem extract_sound {i : Nat} {x r : AV} {u : Value} (hx : Reads g x u) (h : extractA i x = some r) (w : World) : ∃ z, (Instr.extract u i).run P w = .ok z w ∧ Reads g r z := by
  unfold extractA at h
  split at h
  · rename_i l
    cases hx with
    | tup _ cs hl hh =>
      have hi : i < l.length := (List.getElem?_eq_some_iff.1 h).1
      have hv : cs[i]? = some (cs[i]'(by omega)) := Array.getElem?_eq_getElem (by omega)
      exact ⟨_, by simp [Instr.extract, hv], hh i _ _ h hv⟩
  · cases h

theorem len_sound {t u el : TypeId} {x r : AV} {v : Value} (ht : P.underlying t = some (.slice el)) (hx : Reads g x v) (h : lenA x = some r) (w : World) :
    ∃ z, (Builtin.len_ #[t] u #[v]).run P w = .ok z w ∧ Reads g r z := by
  unfold lenA at h
  split at h
  · cases h; cases hx <;> exact ⟨_, by simp [Builtin.len_, run_underlying ht, goInt], .val _⟩
  · cases h; cases hx
    exact ⟨_, by simp [Builtin.len_, run_underlying ht, goInt], .val _⟩
  · cases h; have := hx.val_inv; subst this
    exact ⟨_, by simp [Builtin.len_, run_underlying ht, goInt], .val _⟩
  · cases h

theorem getObj_run {b : Nat} {o : Obj} (h : w.heap[b]? = some o) (hn : notCells o = true) : (getObj b).run P w = .ok o w := by
  cases o <;> first | (simp [notCells] at hn; done) | simp [getObj, Sem.run, h]

theorem lenm_sound {t u k el : TypeId} {x r : AV} {v : Value} (ht : P.underlying t = some (.map k el)) (hI : Inv W0 g O w) (hx : Reads g x v) (h : lenM O x = some r) :
    ∃ z, (Builtin.len_ #[t] u #[v]).run P w = .ok z w ∧ Reads g r z := by
  unfold lenM at h
  split at h
  · rename_i id
    split at h
    · rename_i l ho
      cases h
      cases hx with
      | mapr _ b room hm =>
        obtain ⟨b', r', hm', _, _, es, cl, h3, h4, _⟩ := hI.obj id _ ho
        rw [hm] at hm'
        cases hm'
        rw [← h4]
        exact ⟨_, by simp [Builtin.len_, run_underlying ht, getObj_run h3 rfl, goInt], .val _⟩
    · cases h
  · cases h; have := hx.val_inv; subst this
    exact ⟨_, by simp [Builtin.len_, run_underlying ht, goInt], .val _⟩
  · cases h

end
end Go.Ab

/- The abstract walk, seventh part: literals, new arrays, comparisons of structs are sound. -/
namespace Go.Ab

/-- Values that hold these cells. -/
def CellsIn (g : Gh) (cs : Array Value) (l : List AV) : Prop := cs.size = l.length ∧ ∀ (j : Nat) y, l[j]? = some y → ∃ v, cs[j]? = some v ∧ v.oneCell' = true ∧ Reads g y v

theorem CellsIn.agg {g : Gh} {cs : Array Value} {l : List AV} (h : CellsIn g cs l) : Reads g (.agg l) (.agg cs) := by
  refine .agg l cs h.1 (fun i v hv => ?_) (fun i x v hx hv => ?_)
  · have hi : i < l.length := by have := (Array.getElem?_eq_some_iff.1 hv).1; rw [h.1] at this; exact this
    obtain ⟨u, hu, h1, _⟩ := h.2 i _ (List.getElem?_eq_getElem hi)
    rw [hv] at hu; cases hu; exact h1
  · obtain ⟨u, hu, _, hr⟩ := h.2 i x hx
    rw [hv] at hu; cases hu; exact hr

theorem foldSet (off : Nat) : ∀ (l : List Value) (k : Nat) (cells : Array Value), off + k + l.length ≤ cells.size →
    ((l.zipIdx k).foldl (fun cs p => cs.setIfInBounds (off + p.2) p.1) cells).size = cells.size ∧
    ∀ p, ((l.zipIdx k).foldl (fun cs p => cs.setIfInBounds (off + p.2) p.1) cells)[p]? = if off + k ≤ p ∧ p < off + k + l.length then l[p - (off + k)]? else cells[p]?
  | [], k, cells, _ => ⟨rfl, fun p => by
      rw [if_neg (by simp)]; rfl⟩
  | v :: l, k, cells, h => by
    simp only [List.length_cons] at h
    obtain ⟨h1, h2⟩ := foldSet off l (k + 1) (cells.setIfInBounds (off + k) v) (by simp; omega)
    refine ⟨by simpa [List.zipIdx_cons] using h1, fun p => ?_⟩
    simp only [List.zipIdx_cons, List.foldl_cons]
    rw [h2 p]
    simp only [List.length_cons]
    by_cases hp : off + (k + 1) ≤ p ∧ p < off + (k + 1) + l.length
    · rw [if_pos hp, if_pos (by omega)]
      have : p - (off + k) = (p - (off + (k + 1))) + 1 := by omega
      rw [this, List.getElem?_cons_succ]
    · rw [if_neg hp]
      by_cases hq : p = off + k
      · subst hq
        rw [if_pos (by omega)]
        have hlt : off + k < cells.size := by omega
        simp [hlt]
      · rw [if_neg (by omega), Array.getElem?_setIfInBounds_ne (by omega)]

theorem foldSet_array (off : Nat) (vs cells : Array Value) (h : off + vs.size ≤ cells.size) :
    (vs.zipIdx.foldl (fun cs (c, j) => cs.setIfInBounds (off + j) c) cells).size = cells.size ∧
    ∀ p, (vs.zipIdx.foldl (fun cs (c, j) => cs.setIfInBounds (off + j) c) cells)[p]? = if off ≤ p ∧ p < off + vs.size then vs[p - off]? else cells[p]? := by
  have := foldSet off vs.toList 0 cells (by simpa using h)
  rw [← Array.foldl_toList, Array.toList_zipIdx]
  simpa using this

theorem CellsIn.splice {g : Gh} {cells : Array Value} {l : List AV} {x : AV} {v : Value} {off : Nat} (h : CellsIn g cells l) (hx : Reads g x v) (hs : x.stor = true) (hf : off + x.cells.length ≤ l.length) :
    CellsIn g (v.cells.zipIdx.foldl (fun cs (c, j) => cs.setIfInBounds (off + j) c) cells) (spliceA l off x.cells) := by
  obtain ⟨c1, c2⟩ := hx.cellsOf hs
  obtain ⟨f1, f2⟩ := foldSet_array off v.cells cells (by rw [c1, h.1]; exact hf)
  refine ⟨?_, fun j y hy => ?_⟩
  · rw [f1, h.1]
    simp only [spliceA, List.length_append, List.length_take, List.length_drop]
    omega
  · rw [f2, c1]
    unfold spliceA at hy
    have hkl : (l.take off).length = off := by simp only [List.length_take]; omega
    rw [List.append_assoc] at hy
    by_cases hj : j < off
    · rw [List.getElem?_append_left (by omega), List.getElem?_take, if_pos hj] at hy
      rw [if_neg (by omega)]
      exact h.2 j y hy
    · rw [List.getElem?_append_right (by omega), hkl] at hy
      by_cases hj2 : j < off + x.cells.length
      · rw [List.getElem?_append_left (by omega)] at hy
        rw [if_pos (by omega)]
        exact c2 _ y hy
      · rw [List.getElem?_append_right (by omega), List.getElem?_drop] at hy
        have e : off + x.cells.length + (j - off - x.cells.length) = j := by omega
        rw [e] at hy
        rw [if_neg (by omega)]
        exact h.2 j y hy

def All2 {α β : Type} (R : α → β → Prop) : List α → List β → Prop
  | [], [] => True
  | a :: l, b :: m => R a b ∧ All2 R l m
  | _, _ => False

theorem fill_sound {g : Gh} {place : Nat → Option (Nat × Nat)} : ∀ (parts : List (Nat × Nat × AV)) (parts' : List (Nat × Value)) (l m : List AV) (cells : Array Value),
    All2 (fun p q => place q.1 = some (p.1, p.2.1) ∧ Reads g p.2.2 q.2) parts parts' → CellsIn g cells l → fillA l parts = some m →
    ∃ cs, Instr.fill place cells parts' = some cs ∧ CellsIn g cs m
  | [], [], l, m, cells, hp, hc, h => by
    cases h
    exact ⟨cells, rfl, hc⟩
  | [], q :: rest', l, m, cells, hp, hc, h => hp.elim
  | (off, n, x) :: rest, [], l, m, cells, hp, hc, h => hp.elim
  | (off, n, x) :: rest, (i, v) :: rest', l, m, cells, hp, hc, h => by
      obtain ⟨hq, hrest⟩ := hp
      unfold fillA at h
      split at h
      · rename_i hcond
        obtain ⟨rfl, hs, hf⟩ := hcond
        have hcl := (hq.2.cellsOf hs).1
        have := fill_sound rest rest' _ m _ hrest (hc.splice hq.2 hs hf) h
        simp only [Instr.fill, hq.1]
        have hcl : v.cells.size = x.cells.length := hcl
        have hc1 := hc.1
        have hn : (decide (v.cells.size ≠ x.cells.length) || decide (off + v.cells.size > cells.size)) = false := by
          simp only [Bool.or_eq_false_iff, decide_eq_false_iff_not]
          omega
        rw [if_neg (by rw [hn]; simp)]
        exact this
      · cases h

section
variable {P : Program} {W0 : World} {g : Gh} {O : Heap} {w : World}

theorem zeroB_inv {t : TypeId} {z : AV} (h : zeroB P t = some z) : ∃ i v, P.info? t = some i ∧ i.zero = some v ∧ z = zeroA v ∧ v.cells.size = i.size ∧ (∀ (j : Nat) u, v.cells[j]? = some u → u.oneCell' = true) ∧ 0 < i.size := by
  unfold zeroB at h
  cases hi : P.info? t with
  | none => simp [hi] at h
  | some i =>
    simp only [hi] at h
    cases hz : i.zero with
    | none => simp [hz] at h
    | some v =>
      simp only [hz] at h
      split at h
      · rename_i hc
        cases h
        refine ⟨i, v, rfl, hz, rfl, hc.1, fun j u hu => ?_, hc.2.2.1⟩
        have := hc.2.1
        rw [Array.all_eq_true] at this
        obtain ⟨hlt, rfl⟩ := Array.getElem?_eq_some_iff.1 hu
        exact this j hlt
      · cases h

theorem zeroA_cells (v : Value) (h : ∀ (j : Nat) u, v.cells[j]? = some u → u.oneCell' = true) : CellsIn g v.cells (zeroA v).cells := by
  cases v <;> first
    | (refine ⟨rfl, fun j y hy => ?_⟩
       cases j with
       | zero => simp [zeroA, AV.cells] at hy; subst hy; exact ⟨_, rfl, h 0 _ rfl, .val _⟩
       | succ j => simp [zeroA, AV.cells] at hy)
    | skip
  rename_i cs
  refine ⟨by simp [zeroA, AV.cells, Value.cells], fun j y hy => ?_⟩
  simp only [zeroA, AV.cells, List.getElem?_map, Option.map_eq_some_iff] at hy
  obtain ⟨u, hu, rfl⟩ := hy
  have hu' : cs[j]? = some u := by simpa using hu
  exact ⟨u, hu', h j u hu', .val _⟩

theorem build_sound {t : TypeId} {parts : List (Nat × Operand)} {z : List AV} {ps : List (Nat × Nat × Operand)} {e : Env} {ρ : Operand → Value} {m : List AV} (hc : compileBuild P t parts = some (.build z ps))
    (hρ : ∀ x, Reads g (e.opd x) (ρ x)) (h : fillA z (ps.map fun p => (p.1, p.2.1, e.opd p.2.2)) = some m) (w : World) :
    ∃ v, (Instr.build t (parts.map fun p => (p.1, ρ p.2)).toArray).run P w = .ok v w ∧ Reads g (.agg m) v := by
  unfold compileBuild at hc
  cases hzb : zeroB P t with
  | none => simp [hzb] at hc
  | some za =>
    rw [hzb] at hc
    obtain ⟨i, v, hi, hzv, rfl, hvs, hv1, _⟩ := zeroB_inv hzb
    cases v <;> simp only [zeroA] at hc <;> try (cases hc; done)
    rename_i cs
    have hin : CellsIn g cs (cs.toList.map AV.val) := zeroA_cells (g := g) (.agg cs) hv1
    cases hu : P.underlying t with
    | none => simp [hu] at hc
    | some d =>
      rw [hu] at hc
      cases d <;> simp only [] at hc <;> try (cases hc; done)
      case array n el =>
        cases hs : sizeB P el with
        | none => simp [hs] at hc
        | some s =>
          rw [hs] at hc
          simp only [Option.some.injEq, CI.build.injEq] at hc
          obtain ⟨rfl, rfl⟩ := hc
          obtain ⟨ie, hie, rfl⟩ := underlying_of_sizeB hs
          rw [List.map_map] at h
          obtain ⟨cs', h1, h2⟩ := fill_sound (g := g) (place := fun i => some (i * ie.size, ie.size)) (parts.map ((fun p => (p.1, p.2.1, e.opd p.2.2)) ∘ fun p => (p.1 * ie.size, ie.size, p.2))) (parts.map fun p => (p.1, ρ p.2)) _ m cs (by
            clear h
            induction parts with
            | nil => trivial
            | cons p ps ih => exact ⟨⟨rfl, hρ _⟩, ih⟩) hin h
          exact ⟨_, run_build w t _ cs' (by simp [Program.built, hi, hu, hzv, hie, Value.cells, h1]), h2.agg⟩
      case struct fs =>
        split at hc
        · rename_i hall
          rw [Option.map_eq_some_iff] at hc
          obtain ⟨qs, hqs, hc⟩ := hc
          simp only [CI.build.injEq] at hc
          obtain ⟨rfl, rfl⟩ := hc
          have hpl : ∃ pl, fs.toList.mapM (fun f => (P.info? f.type).map fun i => (f.offset, i.size)) = some pl ∧ pl = fs.toList.map fun f => (f.offset, (sizeB P f.type).getD 0) := by
            generalize fs.toList = l at hall
            induction l with
            | nil => exact ⟨[], rfl, rfl⟩
            | cons f l ih =>
              simp only [List.all_cons, Bool.and_eq_true] at hall
              obtain ⟨pl, hp, rfl⟩ := ih hall.2
              obtain ⟨s, hs⟩ := Option.isSome_iff_exists.1 hall.1
              obtain ⟨i', hi', rfl⟩ := underlying_of_sizeB hs
              exact ⟨(f.offset, i'.size) :: l.map fun f => (f.offset, (sizeB P f.type).getD 0), by simp [List.mapM_cons, hi', hp], by simp [hs]⟩
          obtain ⟨pl, hp, hpl⟩ := hpl
          have hget : ∀ k off s agg, partOf P fs k = some (off, s, agg) → pl[k]? = some (off, s) := by
            intro k off s agg hpo
            obtain ⟨fd, hf, rfl, hs, _, _⟩ := partOf_inv hpo
            have : fs.toList[k]? = some fd := by simpa using hf
            rw [hpl, List.getElem?_map, this]
            simp [hs]
          obtain ⟨cs', h1, h2⟩ := fill_sound (g := g) (place := fun i => pl.toArray[i]?) (qs.map fun p => (p.1, p.2.1, e.opd p.2.2)) (parts.map fun p => (p.1, ρ p.2)) _ m cs (by
            clear h
            induction parts generalizing qs with
            | nil => simp at hqs; subst hqs; trivial
            | cons p ps ih =>
              simp only [List.mapM_cons, Option.bind_eq_bind, Option.pure_def, Option.bind_eq_some_iff, Option.some.injEq] at hqs
              obtain ⟨q, hq, qs', hqs', rfl⟩ := hqs
              rw [Option.map_eq_some_iff] at hq
              obtain ⟨⟨o, s, a⟩, hq, rfl⟩ := hq
              refine ⟨⟨?_, hρ _⟩, ih qs' hqs'⟩
              simpa using hget _ _ _ _ hq) hin h
          exact ⟨_, run_build w t _ cs' (by simp only [Program.built, hi, hu, hzv, hp, Value.cells]; exact h1), h2.agg⟩
        · cases hc

end
end Go.Ab

/- The abstract walk, eighth part: slices as rows of cells; append is sound. -/
namespace Go.Ab

def flat (X : List AV) : List AV := X.flatMap AV.cells

theorem exists_list {p : Nat → Value → Prop} : ∀ n : Nat, (∀ j, j < n → ∃ v, p j v) → ∃ l : List Value, l.length = n ∧ ∀ (j : Nat) v, l[j]? = some v → p j v
  | 0, _ => ⟨[], rfl, fun j v h => by simp at h⟩
  | n + 1, h => by
    obtain ⟨l, hl, hp⟩ := exists_list n (fun j hj => h j (by omega))
    obtain ⟨v, hv⟩ := h n (by omega)
    refine ⟨l ++ [v], by simp [hl], fun j u hu => ?_⟩
    by_cases hj : j < l.length
    · rw [List.getElem?_append_left hj] at hu; exact hp j u hu
    · rw [List.getElem?_append_right (by omega)] at hu
      have : j - l.length = 0 := by
        rcases Nat.eq_zero_or_pos (j - l.length) with h0 | h0
        · exact h0
        · rw [List.getElem?_eq_none (by simp; omega)] at hu; cases hu
      rw [this] at hu
      simp at hu
      subst hu
      have : j = n := by omega
      subst this
      exact hv

/-- Concrete cells of a row of elements. -/
structure RowIn (g : Gh) (cs : List Value) (sz : Nat) (X : List AV) : Prop where
  len : ∀ (i : Nat) x, X[i]? = some x → x.cells.length = sz
  size : cs.length = X.length * sz
  at_ : ∀ (i : Nat) x (j : Nat) y, X[i]? = some x → x.cells[j]? = some y → ∃ v, cs[i * sz + j]? = some v ∧ v.oneCell' = true ∧ Reads g y v

theorem RowIn.mono {g h : Gh} {cs : List Value} {sz : Nat} {X : List AV} (hle : g.le h) (hr : RowIn g cs sz X) : RowIn h cs sz X :=
  ⟨hr.len, hr.size, fun i x j y a b => let ⟨v, p, q, r⟩ := hr.at_ i x j y a b; ⟨v, p, q, r.mono hle⟩⟩

theorem RowIn.nil (g : Gh) (sz : Nat) : RowIn g [] sz [] := ⟨fun i x h => by simp at h, by simp, fun i x j y h => by simp at h⟩

theorem RowIn.append {g : Gh} {cs ds : List Value} {sz : Nat} {X Y : List AV} (h : RowIn g cs sz X) (k : RowIn g ds sz Y) : RowIn g (cs ++ ds) sz (X ++ Y) := by
  refine ⟨fun i x hx => ?_, by simp [h.size, k.size, Nat.add_mul], fun i x j y hx hy => ?_⟩
  · by_cases hi : i < X.length
    · rw [List.getElem?_append_left hi] at hx; exact h.len i x hx
    · rw [List.getElem?_append_right (by omega)] at hx; exact k.len _ x hx
  · by_cases hi : i < X.length
    · rw [List.getElem?_append_left hi] at hx
      obtain ⟨v, p, q⟩ := h.at_ i x j y hx hy
      exact ⟨v, by rw [List.getElem?_append_left (List.getElem?_eq_some_iff.1 p).1]; exact p, q⟩
    · rw [List.getElem?_append_right (by omega)] at hx
      obtain ⟨v, p, q⟩ := k.at_ _ x j y hx hy
      refine ⟨v, ?_, q⟩
      have hge : X.length * sz ≤ i * sz := Nat.mul_le_mul_right _ (by omega)
      rw [List.getElem?_append_right (by rw [h.size]; omega), h.size, ← p]
      congr 1
      rw [Nat.sub_mul]
      omega

theorem RowIn.take {g : Gh} {cs : List Value} {sz : Nat} {X : List AV} (h : RowIn g cs sz X) {n : Nat} (hn : n ≤ X.length) : RowIn g (cs.take (n * sz)) sz (X.take n) := by
  refine ⟨fun i x hx => ?_, ?_, fun i x j y hx hy => ?_⟩
  · rw [List.getElem?_take] at hx
    split at hx
    · exact h.len i x hx
    · cases hx
  · have : n * sz ≤ X.length * sz := Nat.mul_le_mul_right _ hn
    simp only [List.length_take, h.size]
    rw [Nat.min_eq_left this, Nat.min_eq_left hn]
  · rw [List.getElem?_take] at hx
    split at hx
    · rename_i hi
      obtain ⟨v, p, q⟩ := h.at_ i x j y hx hy
      refine ⟨v, ?_, q⟩
      have hj : j < sz := by rw [← h.len i x hx]; exact (List.getElem?_eq_some_iff.1 hy).1
      have : (i + 1) * sz ≤ n * sz := Nat.mul_le_mul_right _ hi
      rw [Nat.add_mul, Nat.one_mul] at this
      rw [List.getElem?_take, if_pos (by omega)]
      exact p
    · cases hx

theorem RowIn.drop {g : Gh} {cs : List Value} {sz : Nat} {X : List AV} (h : RowIn g cs sz X) (n : Nat) : RowIn g (cs.drop (n * sz)) sz (X.drop n) := by
  refine ⟨fun i x hx => ?_, ?_, fun i x j y hx hy => ?_⟩
  · rw [List.getElem?_drop] at hx; exact h.len _ x hx
  · simp only [List.length_drop, h.size, Nat.sub_mul]
  · rw [List.getElem?_drop] at hx
    obtain ⟨v, p, q⟩ := h.at_ _ x j y hx hy
    refine ⟨v, ?_, q⟩
    rw [List.getElem?_drop, ← p]
    congr 1
    rw [Nat.add_mul]
    omega

theorem RowIn.one {g : Gh} {cs : List Value} {sz : Nat} {X : List AV} (h : RowIn g cs sz X) (hsz : 0 < sz) : ∀ u ∈ cs, u.oneCell' = true := by
  intro u hu
  obtain ⟨p, hp⟩ := List.mem_iff_getElem?.1 hu
  have hlt := (List.getElem?_eq_some_iff.1 hp).1
  rw [h.size] at hlt
  have hi : p / sz < X.length := (Nat.div_lt_iff_lt_mul hsz).2 hlt
  have hx : X[p / sz]? = some X[p / sz] := List.getElem?_eq_getElem hi
  have hj : p % sz < X[p / sz].cells.length := by rw [h.len _ _ hx]; exact Nat.mod_lt _ hsz
  obtain ⟨v, q, r, _⟩ := h.at_ _ _ (p % sz) _ hx (List.getElem?_eq_getElem hj)
  have e : p / sz * sz + p % sz = p := by have := Nat.div_add_mod p sz; rw [Nat.mul_comm] at this; exact this
  rw [e, hp] at q
  cases q
  exact r

section
variable {P : Program} {W0 : World} {g : Gh} {O : Heap} {w : World}

/-- The row that cells at an address hold. -/
theorem rowOf {sz : Nat} (hsz : 0 < sz) {X : List AV} (h : ∀ (i : Nat) x, X[i]? = some x → x.cells.length = sz) {a : Addr} {k : Nat}
    (hc : ∀ (i : Nat) x, X[i]? = some x → CellsAt (fun j => w.cell? (a.add ((k + i) * sz + j))) g x.cells) :
    ∃ cs, RowIn g cs sz X ∧ ∀ (j : Nat) v, cs[j]? = some v → w.cell? ((a.add (k * sz)).add j) = some v := by
  obtain ⟨cs, hl, hp⟩ := exists_list (p := fun p v => w.cell? (a.add (k * sz + p)) = some v ∧ v.oneCell' = true ∧ ∀ x y, X[p / sz]? = some x → x.cells[p % sz]? = some y → Reads g y v) (X.length * sz) (fun p hlt => by
    have hi : p / sz < X.length := (Nat.div_lt_iff_lt_mul hsz).2 hlt
    have hx : X[p / sz]? = some X[p / sz] := List.getElem?_eq_getElem hi
    have hj : p % sz < X[p / sz].cells.length := by rw [h _ _ hx]; exact Nat.mod_lt _ hsz
    obtain ⟨v, q, r, s⟩ := hc _ _ hx (p % sz) _ (List.getElem?_eq_getElem hj)
    have e : (k + p / sz) * sz + p % sz = k * sz + p := by have := Nat.div_add_mod p sz; rw [Nat.mul_comm] at this; rw [Nat.add_mul]; omega
    have q : w.cell? (a.add ((k + p / sz) * sz + p % sz)) = some v := q
    rw [e] at q
    refine ⟨v, q, r, fun x y hx' hy => ?_⟩
    rw [hx] at hx'; cases hx'
    rw [List.getElem?_eq_getElem hj] at hy; cases hy
    exact s)
  refine ⟨cs, ⟨h, hl, fun i x j y hx hy => ?_⟩, fun j v hv => by rw [Addr.add_add]; exact (hp j v hv).1⟩
  have hj : j < sz := by rw [← h i x hx]; exact (List.getElem?_eq_some_iff.1 hy).1
  have hi : i < X.length := (List.getElem?_eq_some_iff.1 hx).1
  have hlt : i * sz + j < cs.length := by
    have : (i + 1) * sz ≤ X.length * sz := Nat.mul_le_mul_right _ hi
    rw [Nat.add_mul, Nat.one_mul] at this
    omega
  have hv := List.getElem?_eq_getElem hlt
  obtain ⟨_, q, r⟩ := hp _ _ hv
  have e1 : (i * sz + j) / sz = i := by rw [Nat.mul_comm, Nat.mul_add_div hsz, Nat.div_eq_of_lt hj]; rfl
  have e2 : (i * sz + j) % sz = j := by rw [Nat.mul_comm, Nat.mul_add_mod, Nat.mod_eq_of_lt hj]
  exact ⟨_, hv, q, r x y (by rw [e1]; exact hx) (by rw [e2]; exact hy)⟩

/-- The row of an object. -/
theorem Inv.row (hI : Inv W0 g O w) {id b r E sz : Nat} {elems : List AV} (ho : O id = some (.arr E sz elems)) (hm : g.m id = some (b, r)) :
    ∃ cs : Array Value, w.heap[b]? = some (.cells cs E (0, 0)) ∧ cs.size = r * sz ∧ elems.length ≤ r ∧ RowIn g (cs.toList.take (elems.length * sz)) sz elems := by
  obtain ⟨b', r', hm', _, _, cs, h1, h2, h3, h4, h5⟩ := hI.obj id _ ho
  rw [hm] at hm'
  cases hm'
  have hle : elems.length * sz ≤ r * sz := Nat.mul_le_mul_right _ h3
  refine ⟨cs, h1, h2, h3, h4, by simp only [List.length_take, Array.length_toList]; omega, fun i x j y hx hy => ?_⟩
  obtain ⟨v, p, q⟩ := h5 i x j y hx hy
  refine ⟨v, ?_, q⟩
  have hj : j < sz := by rw [← h4 i x hx]; exact (List.getElem?_eq_some_iff.1 hy).1
  have hi : i < elems.length := (List.getElem?_eq_some_iff.1 hx).1
  have : (i + 1) * sz ≤ elems.length * sz := Nat.mul_le_mul_right _ hi
  rw [Nat.add_mul, Nat.one_mul] at this
  rw [List.getElem?_take, if_pos (by omega)]
  simpa using p

/-- What is appended, in memory. -/
theorem elems_sound {sz : Nat} (hsz : 0 < sz) (hI : Inv W0 g O w) {x : AV} {X : List AV} {v : Value} (hx : Reads g x v) (h : elemsA O sz x = some X) :
    ∃ news, RowIn g news sz X ∧ ((∃ a c, v = .slice (some a) X.length c ∧ ∀ (j : Nat) u, news[j]? = some u → w.cell? (a.add j) = some u) ∨ (v = .slice none 0 0 ∧ X = [])) := by
  unfold elemsA at h
  split at h
  · rename_i s t l
    split at h
    · rename_i hs
      subst hs
      cases h
      obtain ⟨a, cap, rfl, _, _, _, h4, h5⟩ := hx.oneCell_of_list hI
      obtain ⟨cs, h6, h7⟩ := rowOf (k := 0) hsz h4 (a := a) (fun i x hx => by rw [Nat.zero_add]; exact h5 i x hx)
      refine ⟨cs, h6, .inl ⟨a, cap, rfl, fun j u hu => ?_⟩⟩
      have := h7 j u hu
      rw [Nat.zero_mul, Addr.add_zero'] at this
      exact this
    · cases h
  · cases h
    have := hx.val_inv
    subst this
    exact ⟨[], RowIn.nil g sz, .inr ⟨rfl, rfl⟩⟩
  · rename_i id s i n c
    split at h
    · rename_i E s' elems ho
      split at h
      · rename_i hc
        obtain ⟨rfl, rfl, hle⟩ := hc
        cases h
        cases hx with
        | own _ _ _ _ _ b r off c' q0 q1 q2 q3 q4 q5 =>
          obtain ⟨cs, h1, h2, h3, h4⟩ := hI.row ho q0
          have hlen : ((elems.drop i).take n).length = n := by simp only [List.length_take, List.length_drop]; omega
          have hr := (h4.drop i).take (n := n) (by simp only [List.length_drop]; omega)
          refine ⟨_, hr, .inl ⟨_, _, by rw [hlen], fun j u hu => ?_⟩⟩
          rw [List.getElem?_take] at hu
          split at hu
          · rename_i hj
            rw [List.getElem?_drop, List.getElem?_take] at hu
            split at hu
            · rcases Nat.eq_zero_or_pos n with rfl | hn
              · simp at hj
              · rw [q1.resolve_left (by omega), Addr.add_lit, cell_of_row w b _ cs E (0, 0) h1]
                simpa using hu
            · cases hu
          · cases hu
      · cases h
    · cases h
  · cases h

/-- An append that finds no room. -/
theorem run_grow {t ty e : TypeId} {i : TypeInfo} {z : Value} (ht : P.underlying t = some (.slice e)) (hi : P.info? e = some i) (hz : i.zero = some z)
    {b : Option Addr} {sLen sCap m : Nat} {v : Value} {olds news : List Value}
    (ho : (∃ a, b = some a ∧ olds.length = sLen * i.size ∧ ∀ (j : Nat) u, olds[j]? = some u → w.cell? (a.add j) = some u) ∨ (b = none ∧ sLen = 0 ∧ olds = []))
    (hv : ∃ a c, v = .slice (some a) m c ∧ news.length = m * i.size ∧ ∀ (j : Nat) u, news[j]? = some u → w.cell? (a.add j) = some u)
    (hg : sCap < sLen + m) (h63 : sLen + m ≤ maxLen) (hby : (sLen + m) * i.bytes ≤ 140737488355328) :
    (Builtin.append_ #[t, t] ty #[.slice b sLen sCap, v]).run P w =
      .ok (.slice (some ⟨w.heap.size, 0, none⟩) (sLen + m) (grownCap w (sLen + m) sCap e))
        (w.drew.alloc (.cells (olds.toArray ++ news.toArray ++ Builtin.zeroCells z.cells (grownCap w (sLen + m) sCap e - (sLen + m))) e)) := by
  obtain ⟨a, c, rfl, hl, hnews⟩ := hv
  have hn : ¬ (sLen + m ≤ sCap) := by omega
  unfold maxLen at h63
  have h63' : ¬ (9223372036854775807 < ((sLen : Int) + (m : Int))) := by omega
  have hfit := growslice_fits hg hby
  have h48' : ¬ (281474976710656 < Builtin.nextslicecap (sLen + m) sCap * i.bytes) := by omega
  have hf := run_firstCells_some (P := P) w.drew i.size m a m c news hl (by simpa using hnews)
  have hfo : (Builtin.firstCells i.size sLen (.slice b sLen sCap)).run P w.drew = .ok olds.toArray w.drew := by
    rcases ho with ⟨a', rfl, hlo, holds⟩ | ⟨rfl, rfl, rfl⟩
    · exact run_firstCells_some (P := P) w.drew i.size sLen a' sLen sCap olds hlo (by simpa using holds)
    · exact run_firstCells_none w.drew i.size 0 0 sCap
  simp [Builtin.append_, run_underlying ht, sizeOf, typeInfo, zeroValue, hi, hz, Builtin.lenOf, hn, h63', h48', Question.forced, hf, hfo, newRow, grownCap]
  congr 2
  apply Array.ext'
  simp [List.append_assoc]

/-- An append that finds room. -/
theorem run_room {t ty e : TypeId} {i : TypeInfo} (ht : P.underlying t = some (.slice e)) (hi : P.info? e = some i)
    {b o sLen sCap m : Nat} {v : Value} {cur : Array Value} {news : List Value} (hb : w.heap[b]? = some (.cells cur e (0, 0)))
    (hv : (∃ a c, v = .slice (some a) m c ∧ news.length = m * i.size ∧ ∀ (j : Nat) u, news[j]? = some u → w.cell? (a.add j) = some u) ∨ (v = .slice none 0 0 ∧ m = 0 ∧ news = []))
    (h1 : ∀ u ∈ news, u.oneCell' = true) (hroom : sLen + m ≤ sCap) (hfit : o + sLen * i.size + news.length ≤ cur.size) :
    (Builtin.append_ #[t, t] ty #[.slice (some ⟨b, o, none⟩) sLen sCap, v]).run P w =
      .ok (.slice (some ⟨b, o, none⟩) (sLen + m) sCap) (w.setRow b (cur.toList.take (o + sLen * i.size) ++ news ++ cur.toList.drop (o + sLen * i.size + news.length)).toArray) := by
  have hst := run_storeCells_at P b (o + sLen * i.size) e news 0 cur w hb (by simpa using hfit) h1
  simp only [Nat.add_zero] at hst
  rcases hv with ⟨a, c, rfl, hl, hnews⟩ | ⟨rfl, rfl, rfl⟩
  · have hf := run_firstCells_some (P := P) w i.size m a m c news hl hnews
    simp [Builtin.append_, run_underlying ht, sizeOf, typeInfo, hi, Builtin.lenOf, hroom, hf, Addr.add_lit, hst]
  · simp only [List.length_nil, Nat.add_zero, List.append_nil] at hst ⊢
    have hle : sLen ≤ sCap := by omega
    simp [Builtin.append_, run_underlying ht, sizeOf, typeInfo, hi, Builtin.lenOf, hle, Builtin.firstCells, Addr.add_lit, storeCells] at hst ⊢
    exact hst

/-- An append of nothing to a slice without room. -/
theorem run_nothing {t ty e : TypeId} {i : TypeInfo} (ht : P.underlying t = some (.slice e)) (hi : P.info? e = some i) {b : Option Addr} {sLen sCap : Nat} {v : Value}
    (hv : (∃ a c, v = .slice (some a) 0 c) ∨ v = .slice none 0 0) (hroom : sLen ≤ sCap) :
    (Builtin.append_ #[t, t] ty #[.slice b sLen sCap, v]).run P w = .ok (.slice b sLen sCap) w := by
  rcases hv with ⟨a, c, rfl⟩ | rfl <;>
    cases b <;> simp [Builtin.append_, run_underlying ht, sizeOf, typeInfo, hi, Builtin.lenOf, hroom, Builtin.firstCells, loadCells, loadCellsFrom, storeCells]

end
end Go.Ab

/- The abstract walk, ninth part: append, make, literals of slices, cap are sound. -/
namespace Go.Ab

section
variable {P : Program} {W0 : World} {g : Gh} {O : Heap} {w : World}

theorem RowIn.arr {cs : List Value} {sz : Nat} {X : List AV} (h : RowIn g cs sz X) (rest : Array Value) :
    ∀ (i : Nat) x (j : Nat) y, X[i]? = some x → x.cells[j]? = some y → ∃ v, (cs.toArray ++ rest)[i * sz + j]? = some v ∧ v.oneCell' = true ∧ Reads g y v := by
  intro i x j y hx hy
  obtain ⟨v, p, q⟩ := h.at_ i x j y hx hy
  refine ⟨v, ?_, q⟩
  have hlt := (List.getElem?_eq_some_iff.1 p).1
  rw [Array.getElem?_append_left (by simpa using hlt)]
  simpa using p

/-- A new row, with a name. -/
theorem new_own {cs : List Value} {E sz r : Nat} {X : List AV} {rest : Array Value} (hI : Inv W0 g O w) (h : RowIn g cs sz X) (hs : cs.length + rest.size = r * sz) (hl : X.length ≤ r) (hm : r ≤ maxLen) (cap : Option Nat) (hcap : ∀ k, cap = some k → r = k)
    {K : AV → Heap → Prop} (hk : ∀ id, g.m id = none → O id = none → K (.own id sz 0 X.length cap) (O.upd id (.arr E sz X))) :
    Out W0 g K (.slice (some ⟨w.heap.size, 0, none⟩) X.length r) (w.alloc (.cells (cs.toArray ++ rest) E)) := by
  obtain ⟨id, h1, h1', h2, h3, h4⟩ := hI.newArr (cs.toArray ++ rest) E sz r X (by simpa using hs) hl h.len (h.arr rest)
  exact ⟨_, _, _, h2, h4, .own id sz 0 X.length cap w.heap.size r 0 r h3 (.inr (by simp)) hl (by omega) hcap hm, hk id h1' h1⟩

/-- A new row that never changes. -/
theorem new_frozen {cs : List Value} {E sz r : Nat} {X : List AV} {rest : Array Value} (hsz : 0 < sz) (t : Bool) (hI : Inv W0 g O w) (h : RowIn g cs sz X) (hl : X.length ≤ r) (hm : r ≤ maxLen) (ht : t = true → r = X.length)
    {K : AV → Heap → Prop} (hk : K (.list sz t X) O) :
    Out W0 g K (.slice (some ⟨w.heap.size, 0, none⟩) X.length r) (w.alloc (.cells (cs.toArray ++ rest) E)) := by
  obtain ⟨g', h1, h2, h3⟩ := hI.newFrozen (cs.toArray ++ rest) E cs.length (fun j v hj hv => by
    rw [Array.getElem?_append_left (by simpa using hj)] at hv
    exact h.one hsz v (List.mem_of_getElem? (by simpa using hv)))
  have hrd : ∀ (i : Nat) x (j : Nat) y, X[i]? = some x → x.cells[j]? = some y → g'.c w.heap.size (0 + (i * sz + j)) = some (((cs.toArray ++ rest)[i * sz + j]?).getD undef) ∧ Reads g' y (((cs.toArray ++ rest)[i * sz + j]?).getD undef) := by
    intro i x j y hx hy
    obtain ⟨v, p, q, r⟩ := h.arr rest i x j y hx hy
    obtain ⟨_, p', _⟩ := h.at_ i x j y hx hy
    have hlt := (List.getElem?_eq_some_iff.1 p').1
    rw [Nat.zero_add, h3, if_pos hlt, p]
    exact ⟨rfl, r.mono h1⟩
  exact ⟨g', _, _, h1, h2, .list sz t X w.heap.size 0 r (fun i j => ((cs.toArray ++ rest)[i * sz + j]?).getD undef) hl ht hm h.len (fun i x j y hx hy => (hrd i x j y hx hy).1) (fun i x j y hx hy => (hrd i x j y hx hy).2), hk⟩

theorem grown_size {z : Value} {n r s : Nat} (hz : z.cells.size = s) (hr : n ≤ r) : n * s + (Builtin.zeroCells z.cells (r - n)).size = r * s := by
  rw [size_zeroCells, hz, ← Nat.add_mul]
  congr 1
  omega

theorem Reads.loosen {sz : Nat} {t : Bool} {l : List AV} {v : Value} (h : Reads g (.list sz t l) v) : Reads g (.list sz false l) v := by
  cases h with
  | listE _ _ a => exact .listE _ _ _
  | list _ _ _ b off cap vs h1 h2 h3 h4 h5 h6 => exact .list sz false l b off cap vs h1 (fun e => by cases e) h3 h4 h5 h6

/-- An object under a new name, its block changed or not. -/
theorem Inv.rename (hI : Inv W0 g O w) {id b r : Nat} {ob ao : AObj} {w' : World} (ho : O id = some ob) (hm : g.m id = some (b, r))
    (h1 : w'.os = w.os) (h2 : w'.tape = w.tape) (h3 : w'.output = w.output) (h4 : w'.heap.size = w.heap.size) (h5 : ∀ k, k ≠ b → w'.heap[k]? = w.heap[k]?)
    (hob : ∀ id', g.m id' = none → ObjAt w' (g.name id' b r) b r ao) :
    ∃ id', O id' = none ∧ g.le (g.name id' b r) ∧ (g.name id' b r).m id' = some (b, r) ∧ Inv W0 (g.name id' b r) ((O.del id).upd id' ao) w' := by
  obtain ⟨b', r', hm', hB, hC, hOb⟩ := hI.obj id _ ho
  rw [hm] at hm'
  cases hm'
  obtain ⟨id', f1, f2⟩ := hI.fresh
  have hD : Inv W0 g (O.del id) w := hI.drop (fun i o e => by
    rw [Heap.del_apply] at e
    split at e
    · cases e
    · exact e)
  have hno : ∀ j o r', (O.del id) j = some o → g.m j = some (b, r') → False := fun j o r' hj hmj => by
    rw [Heap.del_apply] at hj
    split at hj
    · cases hj
    · rename_i hne
      exact hne (hI.inj j id o ob b r' r hj ho hmj hm)
  have hS : Inv W0 g (O.del id) w' := by
    refine hD.step ⟨h1, h2, h3, by omega, fun k hk => h5 k (by omega)⟩ (fun b' o v hv => ?_) (fun i o b' r' hi hmi => h5 b' (fun e => by subst e; exact hno i o r' hi hmi)) (fun b' hd => h5 b' (fun e => hOb.not_mark (e ▸ (hI.marks b' hd).1)))
    refine World.cell?_of_block (w := w) (h5 b' (fun e => ?_))
    subst e
    rw [hC o] at hv
    cases hv
  exact ⟨id', f2, Gh.name_le f1, if_pos rfl, hS.new f1 ao hB hC hno (hob id' f1)⟩

theorem drop_take (l : List Value) (k M : Nat) : l.drop k = (l.take M).drop k ++ l.drop (max k M) := by
  rw [List.drop_take]
  by_cases h : k ≤ M
  · rw [Nat.max_eq_right h]
    have : l.drop M = (l.drop k).drop (M - k) := by rw [List.drop_drop]; congr 1; omega
    rw [this, List.take_append_drop]
  · rw [Nat.max_eq_left (by omega), show M - k = 0 by omega]
    simp

theorem append_sound {ow : Bool} {t ty e : TypeId} {i : TypeInfo} {za : AV} {s x : AV} {u v : Value} {K : AV → Heap → Prop} (ht : P.underlying t = some (.slice e)) (hi : P.info? e = some i) (hzb : zeroB P e = some za)
    (hI : Inv W0 g O w) (hs : Reads g s u) (hx : Reads g x v) (h : AppendSem ow e i.size i.bytes s x O K) :
    ∃ z w', (Builtin.append_ #[t, t] ty #[u, v]).run P w = .ok z w' ∧ Out W0 g K z w' := by
  replace h := h.to0
  suffices hq : ∃ z w', (Builtin.append_ #[t, t] ty #[u, v]).run P w = .ok z w' ∧ Out W0 g (WeakR K) z w' by
    obtain ⟨z, w', q1, q2⟩ := hq
    exact ⟨z, w', q1, q2.weak⟩
  generalize WeakR K = K at h ⊢
  obtain ⟨i', zv, hi', hz, _, hzs, _, h0⟩ := zeroB_inv hzb
  rw [hi] at hi'
  cases hi'
  obtain ⟨X, hX, h⟩ := h
  obtain ⟨news, hrow, hsrc⟩ := elems_sound h0 hI hx hX
  have hsrc' : X ≠ [] → ∃ a c, v = .slice (some a) X.length c ∧ news.length = X.length * i.size ∧ ∀ (j : Nat) u, news[j]? = some u → w.cell? (a.add j) = some u := fun hne => by
    rcases hsrc with ⟨a, c, h1, h2⟩ | ⟨_, h1⟩
    · exact ⟨a, c, h1, hrow.size, h2⟩
    · exact (hne h1).elim
  have hnil : X = [] → (∃ a c, v = .slice (some a) 0 c) ∨ v = .slice none 0 0 := fun e => by
    subst e
    rcases hsrc with ⟨a, c, h1, _⟩ | ⟨h1, _⟩
    · exact .inl ⟨a, c, h1⟩
    · exact .inr h1
  have hpos : ∀ {l : List AV}, l ≠ [] → 0 < l.length := fun {l} h => by cases l with
    | nil => exact (h rfl).elim
    | cons _ _ => simp
  split at h
  · have := hs.val_inv
    subst this
    obtain ⟨⟨f1, f2⟩, h1, h2⟩ := h
    by_cases hne : X = []
    · exact ⟨_, _, run_nothing ht hi (hnil hne) (Nat.le_refl _), Out.now hI (.val _) (h1 hne)⟩
    · have hlp := hpos hne
      have hr := run_grow (w := w) (ty := ty) ht hi hz (b := none) (sLen := 0) (sCap := 0) (olds := []) (.inr ⟨rfl, rfl, rfl⟩) (hsrc' hne) (by omega) (by omega) (by rw [Nat.zero_add]; exact f2)
      rw [Nat.zero_add, show (([] : List Value).toArray ++ news.toArray) = news.toArray by simp] at hr
      have hge := grownCap_ge w X.length 0 e
      have hle := grownCap_le_maxLen w X.length 0 e f1
      refine ⟨_, _, hr, ?_⟩
      have h2 := h2 hne
      cases ow with
      | true =>
        simp only [if_true] at h2
        exact new_own hI.drew hrow (by rw [hrow.size]; exact grown_size hzs hge) hge hle none (fun k e => by cases e) (fun id _ => h2 id)
      | false =>
        simp only [Bool.false_eq_true, if_false] at h2
        exact new_frozen h0 false hI.drew hrow hge hle (fun e => by cases e) h2
  · rename_i s' L
    obtain ⟨rfl, ⟨f1, f2⟩, h⟩ := h
    obtain ⟨a, cap, rfl, q1, q2, q3, q4, q5⟩ := hs.oneCell_of_list hI
    have hcap := q3 rfl
    subst hcap
    obtain ⟨olds, o1, o2⟩ := rowOf (k := 0) h0 q4 (a := a) (fun i x hx => by rw [Nat.zero_add]; exact q5 i x hx)
    by_cases hne : X = []
    · subst hne
      refine ⟨_, _, run_nothing ht hi (hnil rfl) (Nat.le_refl _), ?_⟩
      unfold AppendList at h
      cases ow with
      | true => rw [if_pos rfl] at h; exact Out.now hI hs (h.1 rfl)
      | false =>
        rw [if_neg (by simp), List.append_nil] at h
        exact Out.now hI hs.loosen h
    · have hlp := hpos hne
      have hr := run_grow (w := w) (ty := ty) ht hi hz (b := some a) (sLen := L.length) (sCap := L.length) (olds := olds) (.inl ⟨a, rfl, o1.size, fun j u hu => by
        have := o2 j u hu
        rw [Nat.zero_mul, Addr.add_zero'] at this
        exact this⟩) (hsrc' hne) (by omega) f1 f2
      have hge := grownCap_ge w (L.length + X.length) L.length e
      have hle := grownCap_le_maxLen w (L.length + X.length) L.length e f1
      have hrr := o1.append hrow
      have hlen : (L ++ X).length = L.length + X.length := by simp
      rw [show olds.toArray ++ news.toArray = (olds ++ news).toArray by simp] at hr
      rw [← hlen] at hr hge hle
      refine ⟨_, _, hr, ?_⟩
      unfold AppendList at h
      cases ow with
      | true =>
        simp only [if_true] at h
        refine new_own hI.drew hrr (by rw [hrr.size]; exact grown_size hzs hge) hge hle none (fun k e => by cases e) ?_
        rw [hlen]; exact fun id _ => h.2 hne id
      | false =>
        simp only [Bool.false_eq_true, if_false] at h
        exact new_frozen h0 false hI.drew hrr hge hle (fun e => by cases e) h
  · rename_i id s' n c
    obtain ⟨elems, ho, rfl, hn, ⟨f1, f2⟩, h⟩ := h
    cases hs with
    | own _ _ _ _ _ b r off cc q0 q1 q2 q3 q4 q5 =>
      obtain ⟨cs, c1, c2, c3, c4⟩ := hI.row ho q0
      have hoff : off = 0 ∨ cc = 0 := by
        rcases q1 with q | q
        · exact .inr q
        · exact .inl (by simpa using q)
      have holds : RowIn g (cs.toList.take (n * i.size)) i.size (elems.take n) := by
        have := c4.take hn
        rw [List.take_take] at this
        have hle : n * i.size ≤ elems.length * i.size := Nat.mul_le_mul_right _ hn
        rw [Nat.min_eq_left hle] at this
        exact this
      have htl : (elems.take n).length = n := by simp only [List.length_take]; omega
      obtain ⟨b', r', hm', hB, hC, _⟩ := hI.obj id _ ho
      rw [q0] at hm'
      cases hm'
      by_cases hroom : n + X.length ≤ cc
      · rcases Nat.eq_zero_or_pos cc with hcc | hcc
        · subst hcc
          have hn0 : n = 0 := by omega
          have hX0 : X = [] := List.eq_nil_of_length_eq_zero (by omega)
          subst hn0 hX0
          refine ⟨_, _, run_nothing ht hi (hnil rfl) (Nat.le_refl _), ?_⟩
          rcases h with h | ⟨k, hk, hkle, h⟩
          · obtain ⟨id', e1, e2, e3, e4⟩ := hI.rename (ao := .arr e i.size []) ho q0 rfl rfl rfl rfl (fun _ _ => rfl) (fun id' _ => ⟨cs, c1, c2, by simp, fun i x hx => by simp at hx, fun i x j y hx => by simp at hx⟩)
            have := h id' e1
            simp only [List.take_zero, List.append_nil, List.length_nil, Nat.add_zero] at this
            exact ⟨_, _, _, e2, e4, .own id' i.size 0 0 none b r off 0 e3 (.inl rfl) (Nat.le_refl _) (by omega) (fun k e => by cases e) q5, this⟩
          · obtain rfl := q4 k hk
            refine Out.now (r := .own id i.size 0 0 (some 0)) hI (.own id i.size 0 0 (some 0) b r off 0 q0 (.inl rfl) (Nat.le_refl _) (by omega) (fun k e => by cases e; rfl) q5) ?_
            simp only [List.take_zero, List.nil_append, List.length_nil, Nat.add_zero, List.drop_zero] at h
            have he : O.upd id (.arr e i.size elems) = O := by
              funext j
              rw [Heap.upd_apply]
              split
              · rename_i hj; rw [hj, ho]
              · rfl
            rw [he] at h
            exact h
        · have hoff0 : off = 0 := hoff.resolve_right (by omega)
          subst hoff0
          have hfit : 0 + n * i.size + news.length ≤ cs.size := by
            have : (n + X.length) * i.size ≤ r * i.size := Nat.mul_le_mul_right _ (by omega)
            rw [Nat.add_mul] at this
            rw [hrow.size, c2]
            omega
          have hrun := run_room (w := w) (ty := ty) ht hi (o := 0) (sLen := n) (sCap := cc) c1 (by
            rcases hsrc with ⟨a, c, h1, h2⟩ | ⟨h1, h2⟩
            · exact .inl ⟨a, c, h1, hrow.size, h2⟩
            · subst h2
              exact .inr ⟨h1, rfl, List.eq_nil_of_length_eq_zero (by simpa using hrow.size)⟩) (hrow.one h0) hroom hfit
          simp only [Nat.zero_add] at hrun
          refine ⟨_, _, hrun, ?_⟩
          have hrr := holds.append hrow
          have hlen : (elems.take n ++ X).length = n + X.length := by simp [htl]
          have harr : (cs.toList.take (n * i.size) ++ news ++ cs.toList.drop (n * i.size + news.length)).toArray = (cs.toList.take (n * i.size) ++ news).toArray ++ (cs.toList.drop (n * i.size + news.length)).toArray := by
            rw [List.append_toArray]
          have hsize : ((cs.toList.take (n * i.size) ++ news ++ cs.toList.drop (n * i.size + news.length)).toArray).size = r * i.size := by
            rw [← c2]
            simp only [List.size_toArray, List.length_append, List.length_take, List.length_drop, Array.length_toList]
            omega
          rcases h with h | ⟨k, hk, hkle, h⟩
          · obtain ⟨id', e1, e2, e3, e4⟩ := hI.rename (w' := w.setRow b (cs.toList.take (n * i.size) ++ news ++ cs.toList.drop (n * i.size + news.length)).toArray) (ao := .arr e i.size (elems.take n ++ X)) ho q0 rfl rfl rfl (by simp) (fun q hq => setRow_other w b q _ hq)
              (fun id' hid => ⟨_, setRow_heap w b cs _ e (0, 0) c1, hsize, by rw [hlen]; omega, hrr.len, fun i' x j y hx hy => by
                rw [harr]
                obtain ⟨v, p1, p2, p3⟩ := hrr.arr _ i' x j y hx hy
                exact ⟨v, p1, p2, p3.mono (Gh.name_le hid)⟩⟩)
            exact ⟨_, _, _, e2, e4, .own id' i.size 0 (n + X.length) none b r 0 cc e3 (.inr (by simp)) hroom q3 (fun k e => by cases e) q5, h id' e1⟩
          · obtain rfl := q4 k hk
            have hr3 := hrr.append (c4.drop (n + X.length))
            have hsplit : cs.toList.take (n * i.size) ++ news ++ cs.toList.drop (n * i.size + news.length) =
                (cs.toList.take (n * i.size) ++ news ++ (cs.toList.take (elems.length * i.size)).drop ((n + X.length) * i.size)) ++ cs.toList.drop (max ((n + X.length) * i.size) (elems.length * i.size)) := by
              rw [hrow.size, ← Nat.add_mul, drop_take cs.toList ((n + X.length) * i.size) (elems.length * i.size)]
              simp only [List.append_assoc]
            refine ⟨g, .own id i.size 0 (n + X.length) (some cc), _, .refl g, hI.change (ao := .arr e i.size (elems.take n ++ X ++ elems.drop (n + X.length))) ho q0 rfl rfl rfl (by simp) (fun q hq => setRow_other w b q _ hq)
              ⟨_, setRow_heap w b cs _ e (0, 0) c1, hsize, ?_, hr3.len, fun i' x j y hx hy => ?_⟩, .own id i.size 0 (n + X.length) (some cc) b r 0 cc q0 (.inr (by simp)) hroom q3 (fun k e => by cases e; rfl) q5, h⟩
            · simp only [List.length_append, htl, List.length_drop]
              omega
            · rw [hsplit, ← List.append_toArray]
              exact hr3.arr _ i' x j y hx hy
      · have hX0 : X ≠ [] := fun e => by subst e; simp at hroom; omega
        have hr := run_grow (w := w) (ty := ty) ht hi hz (b := some ⟨b, off, none⟩) (sLen := n) (sCap := cc) (olds := cs.toList.take (n * i.size)) (.inl ⟨_, rfl, by rw [holds.size, htl], fun j u hu => by
          rw [Addr.add_lit, cell_of_row w b _ cs e (0, 0) c1]
          rw [List.getElem?_take] at hu
          split at hu
          · rename_i hj
            have : off = 0 := hoff.resolve_right (fun e => by subst e; simp at q2; subst q2; simp at hj)
            subst this
            rw [Nat.zero_add]
            simpa using hu
          · cases hu⟩) (hsrc' hX0) (by omega) f1 f2
        have hge := grownCap_ge w (n + X.length) cc e
        have hle := grownCap_le_maxLen w (n + X.length) cc e f1
        have hrr := holds.append hrow
        have hlen : (elems.take n ++ X).length = n + X.length := by simp [htl]
        rw [show (cs.toList.take (n * i.size)).toArray ++ news.toArray = (cs.toList.take (n * i.size) ++ news).toArray by simp] at hr
        rcases h with h | ⟨k, hk, hkle, _⟩
        · have hD : Inv W0 g (O.del id) w.drew := hI.drew.drop (fun i o e => by
            rw [Heap.del_apply] at e
            split at e
            · cases e
            · exact e)
          refine ⟨_, _, hr, ?_⟩
          rw [← hlen] at hge hle ⊢
          rw [← hlen] at h
          refine new_own (w := w.drew) hD hrr (by rw [hrr.size]; exact grown_size hzs hge) hge hle none (fun k e => by cases e) (fun id' hid' _ => h id' ?_)
          cases hoid : O id' with
          | none => rfl
          | some o' =>
            obtain ⟨b1, r1, hm1, _⟩ := hI.obj id' o' hoid
            rw [hid'] at hm1
            cases hm1
        · exact absurd (q4 k hk) (by omega)
  · exact h.elim

end
end Go.Ab

/- The abstract walk, tenth part: every instruction is sound. -/
namespace Go.Ab

section
variable {P : Program} {W0 : World} {g : Gh} {O : Heap} {w : World}

theorem storAll_inv {sz : Nat} : ∀ {l : List AV}, storAll sz l = true → ∀ (i : Nat) x, l[i]? = some x → x.cells.length = sz ∧ x.stor = true
  | [], _, i, x, h => by simp at h
  | y :: l, hs, i, x, h => by
    simp only [storAll, Bool.and_eq_true, decide_eq_true_eq] at hs
    cases i with
    | zero => simp at h; subst h; exact hs.1
    | succ i => exact storAll_inv hs.2 i x (by simpa using h)

/-- Values read so, as a row of cells. -/
theorem rowOfVals {sz : Nat} : ∀ {xs : List AV} {vs : List Value}, storAll sz xs = true → All2 (Reads g) xs vs → RowIn g (vs.flatMap fun v => v.cells.toList) sz xs
  | [], [], _, _ => RowIn.nil g sz
  | [], _ :: _, _, h => h.elim
  | _ :: _, [], _, h => h.elim
  | x :: xs, v :: vs, hs, h => by
    simp only [storAll, Bool.and_eq_true, decide_eq_true_eq] at hs
    obtain ⟨c1, c2⟩ := h.1.cellsOf hs.1.2
    have h1 : RowIn g v.cells.toList sz [x] := by
      refine ⟨fun i y hy => ?_, by simp [c1, hs.1.1], fun i y j z hy hz => ?_⟩
      · cases i with
        | zero => simp at hy; subst hy; exact hs.1.1
        | succ i => simp at hy
      · cases i with
        | zero => simp at hy; subst hy; obtain ⟨u, p, q⟩ := c2 j z hz; exact ⟨u, by simpa using p, q⟩
        | succ i => simp at hy
    have := h1.append (rowOfVals hs.2 h.2)
    simpa using this

theorem fill_row {g : Gh} {sz : Nat} : ∀ (xs : List AV) (vs : List Value) (k : Nat) (done rest : List Value), storAll sz xs = true → All2 (Reads g) xs vs → done.length = k * sz → rest.length = xs.length * sz →
    Instr.fill (fun i => some (i * sz, sz)) (done ++ rest).toArray ((List.range' k xs.length).zip vs) = some (done ++ vs.flatMap fun v => v.cells.toList).toArray
  | [], [], k, done, rest, _, _, _, hr => by
    have : rest = [] := List.eq_nil_of_length_eq_zero (by simpa using hr)
    subst this
    simp [Instr.fill]
  | [], _ :: _, _, _, _, _, h, _, _ => h.elim
  | _ :: _, [], _, _, _, _, h, _, _ => h.elim
  | x :: xs, v :: vs, k, done, rest, hs, h, hd, hr => by
    simp only [storAll, Bool.and_eq_true, decide_eq_true_eq] at hs
    obtain ⟨c1, c2⟩ := h.1.cellsOf hs.1.2
    have hvs : v.cells.size = sz := c1.trans hs.1.1
    simp only [List.length_cons] at hr
    rw [Nat.add_mul, Nat.one_mul] at hr
    have hfit : k * sz + v.cells.size ≤ (done ++ rest).toArray.size := by simp; omega
    obtain ⟨f1, f2⟩ := foldSet_array (k * sz) v.cells (done ++ rest).toArray hfit
    have heq : (v.cells.zipIdx.foldl (fun cs (c, j) => cs.setIfInBounds (k * sz + j) c) (done ++ rest).toArray) = ((done ++ v.cells.toList) ++ rest.drop sz).toArray := by
      apply Array.ext_getElem?
      intro p
      rw [f2 p]
      simp only [List.getElem?_toArray, List.append_assoc]
      by_cases h1 : p < done.length
      · rw [if_neg (by omega), List.getElem?_append_left h1, List.getElem?_append_left h1]
      · rw [List.getElem?_append_right (by omega), List.getElem?_append_right (by omega)]
        by_cases h2 : p - done.length < v.cells.toList.length
        · rw [List.getElem?_append_left h2, if_pos (by simp at h2; omega), ← hd]
          simp
        · rw [List.getElem?_append_right (by omega), if_neg (by simp at h2; omega), List.getElem?_drop]
          congr 1
          simp at h2 ⊢
          omega
    have ih := fill_row xs vs (k + 1) (done ++ v.cells.toList) (rest.drop sz) hs.2 h.2 (by simp [hd, hvs, Nat.add_mul]) (by simp; omega)
    simp only [List.length_cons, List.range'_succ, List.zip_cons_cons, Instr.fill]
    have hn : (decide (v.cells.size ≠ sz) || decide (k * sz + v.cells.size > (done ++ rest).toArray.size)) = false := by
      simp only [Bool.or_eq_false_iff, decide_eq_false_iff_not]
      omega
    rw [if_neg (by rw [hn]; simp), heq, ih]
    simp

theorem All2.map {α β γ : Type} {R : β → γ → Prop} {f : α → β} {h : α → γ} (hr : ∀ x, R (f x) (h x)) : ∀ l : List α, All2 R (l.map f) (l.map h)
  | [] => trivial
  | x :: l => ⟨hr x, All2.map hr l⟩

/-- A literal of a slice. -/
theorem buildSlice_run {t el : TypeId} {s n : Nat} {za : AV} {parts : List (Nat × Operand)} {e : Env} {ρ : Operand → Value} (ht : P.underlying t = some (.slice el)) (hs : sizeB P el = some s) (hz : zeroB P el = some za)
    (hk : parts.map (·.1) = List.range n) (hn : n * s ≤ 16777216) (hρ : ∀ x, Reads g (e.opd x) (ρ x)) (hst : storAll s ((parts.map (·.2)).map e.opd) = true) (w : World) :
    (Instr.buildSlice t n (parts.map fun p => (p.1, ρ p.2)).toArray).run P w = .ok (.slice (some ⟨w.heap.size, 0, none⟩) n n) (w.alloc (.cells (((parts.map (·.2)).map ρ).flatMap fun v => v.cells.toList).toArray el)) := by
  have hl : parts.length = n := by have := congrArg List.length hk; simpa using this
  obtain ⟨i, zv, hi, hzv, _, hzs, _, h0⟩ := zeroB_inv hz
  have hzip : (parts.map fun p => (p.1, ρ p.2)) = (List.range' 0 ((parts.map (·.2)).map e.opd).length).zip ((parts.map (·.2)).map ρ) := by
    simp only [List.length_map, hl, ← List.range_eq_range', ← hk]
    clear hk hst hl
    induction parts with
    | nil => rfl
    | cons p ps ih => simp [ih]
  have hfill : ∀ z : Array Value, Instr.fill (fun i => some (i * s, s)) ((Array.range (n * s)).map (z[· % z.size]!)) (parts.map fun p => (p.1, ρ p.2)) = some (((parts.map (·.2)).map ρ).flatMap fun v => v.cells.toList).toArray := by
    intro z
    have := fill_row (g := g) _ ((parts.map (·.2)).map ρ) 0 [] ((Array.range (n * s)).map (z[· % z.size]!)).toList hst (All2.map hρ _) (by simp) (by simp [hl])
    rw [← hzip, List.nil_append, List.nil_append, Array.toArray_toList] at this
    exact this
  have hn' : ¬ (16777216 < n * s) := by omega
  have hzr : (zeroValue el).run P w = .ok zv w := by simp [zeroValue, typeInfo, hi, hzv]
  by_cases h00 : n * s = 0
  · have := hfill #[]
    rw [h00] at this
    simp [Instr.buildSlice, run_underlying ht, run_sizeOf' hs, h00, newRow]
    simp at this
    rw [this]
    simp
  · simp [Instr.buildSlice, run_underlying ht, run_sizeOf' hs, hn', h00, newRow, hzr, hfill zv.cells]

theorem make_sound {t el : TypeId} {i : TypeInfo} {za l c : AV} {u v : Value} {K : AV → Heap → Prop} (ht : P.underlying t = some (.slice el)) (hi : P.info? el = some i) (hzb : zeroB P el = some za)
    (hI : Inv W0 g O w) (hl : Reads g l u) (hc : Reads g c v) (h : MakeSem el i.size i.bytes za l c O K) :
    ∃ z w', (Instr.makeSlice t u v).run P w = .ok z w' ∧ Out W0 g K z w' := by
  obtain ⟨i', zv, hi', hz, rfl, hzs, hz1, h0⟩ := zeroB_inv hzb
  rw [hi] at hi'
  cases hi'
  obtain ⟨n, m, h1, h2, hnm, hm, hby, hk⟩ := h
  obtain ⟨kl, rfl⟩ := intOfA_inv hl h1
  obtain ⟨kc, rfl⟩ := intOfA_inv hc h2
  have hm' : m ≤ 9223372036854775807 := by unfold maxLen at hm; omega
  have hrun := run_make (P := P) w t el i zv ht hi hz kl kc n m (by omega) (by omega) (by rw [← Int.natCast_mul]; omega) (by omega)
  simp only [Int.toNat_natCast] at hrun
  refine ⟨_, _, hrun, ?_⟩
  have hzc := zeroA_cells (g := g) zv hz1
  have hrow : RowIn g (madeCells zv.cells (m * i.size)).toList i.size (List.replicate m (zeroA zv)) := by
    have hzl : (zeroA zv).cells.length = i.size := hzc.1.symm.trans hzs
    refine ⟨fun j x hx => ?_, by simp [size_madeCells], fun j x k y hx hy => ?_⟩
    · rw [List.getElem?_replicate] at hx
      split at hx
      · cases hx; exact hzl
      · cases hx
    · rw [List.getElem?_replicate] at hx
      split at hx
      · rename_i hj
        cases hx
        have hk' : k < i.size := by rw [← hzl]; exact (List.getElem?_eq_some_iff.1 hy).1
        obtain ⟨v, p, q⟩ := hzc.2 k y hy
        refine ⟨v, ?_, q⟩
        have hlt : j * i.size + k < m * i.size := by
          have : (j + 1) * i.size ≤ m * i.size := Nat.mul_le_mul_right _ hj
          rw [Nat.add_mul, Nat.one_mul] at this
          omega
        have hmod : (j * i.size + k) % zv.cells.size = k := by rw [hzs, Nat.mul_comm, Nat.mul_add_mod, Nat.mod_eq_of_lt hk']
        have hp : zv.cells[k]! = v := by
          obtain ⟨hlt', rfl⟩ := Array.getElem?_eq_some_iff.1 p
          exact getElem!_pos zv.cells k hlt'
        have hg : (List.range (m * i.size))[j * i.size + k]? = some (j * i.size + k) := List.getElem?_range hlt
        simp only [madeCells, Array.toList_map, List.getElem?_map, Array.toList_range, hg, Option.map_some, hmod, hp]
      · cases hx
  obtain ⟨id, e1, e2, e3, e4, e5⟩ := hI.newArr (madeCells zv.cells (m * i.size)) el i.size m (List.replicate m (zeroA zv)) (by simp [size_madeCells]) (by simp) hrow.len (fun i' x j y hx hy => by
    obtain ⟨v, p, q⟩ := hrow.at_ i' x j y hx hy
    exact ⟨v, by simpa using p, q⟩)
  exact ⟨_, _, _, e3, e5, .own id i.size 0 n (some m) w.heap.size m 0 m e4 (.inr (by simp)) hnm (by omega) (fun k e => by cases e; rfl) hm, hk id e1⟩

theorem appz_sound {t tn ty el : TypeId} {kn : IntKind} {i : TypeInfo} {za s n : AV} {u v : Value} {K : AV → Heap → Prop} (ht : P.underlying t = some (.slice el)) (htn : P.underlying tn = some (.int kn)) (hi : P.info? el = some i) (hzb : zeroB P el = some za)
    (hI : Inv W0 g O w) (hs : Reads g s u) (hn : Reads g n v) (h : AppzSem el i.size i.bytes za s n O K) :
    ∃ z w', (Builtin.append_ #[t, tn] ty #[u, v]).run P w = .ok z w' ∧ Out W0 g K z w' := by
  obtain ⟨i', zv, hi', hz, rfl, hzs, hz1, h0⟩ := zeroB_inv hzb
  rw [hi] at hi'
  cases hi'
  obtain ⟨rfl, m, h1, hm, ⟨f1, f2⟩, hk⟩ := h
  have := hs.val_inv
  subst this
  obtain ⟨kq, rfl⟩ := intOfA_inv hn h1
  have f1' : m ≤ 9223372036854775807 := by unfold maxLen at f1; omega
  have hr := Lib.run_append_grow_zeros (P := P) w t tn ty el i zv kq kn ht htn hi hz none 0 0 [] (run_firstCells_none w.drew i.size 0 0 0) m hm h0 (by omega) (by omega) (by omega) (by rw [Nat.zero_add]; exact growslice_fits hm f2)
  rw [Nat.zero_add, show (([] : List Value).toArray ++ Builtin.zeroCells zv.cells m) = ((Builtin.zeroCells zv.cells m).toList).toArray by simp] at hr
  have hge := grownCap_ge w m 0 el
  have hle := grownCap_le_maxLen w m 0 el f1
  have hzc := zeroA_cells (g := g) zv hz1
  have hsz : (Builtin.zeroCells zv.cells m).toList.length = m * i.size := by simp [size_zeroCells, hzs]
  have hrow : RowIn g (Builtin.zeroCells zv.cells m).toList i.size (List.replicate m (zeroA zv)) := by
    have hzl : (zeroA zv).cells.length = i.size := hzc.1.symm.trans hzs
    refine ⟨fun j x hx => ?_, by simpa using hsz, fun j x k y hx hy => ?_⟩
    · rw [List.getElem?_replicate] at hx
      split at hx
      · cases hx; exact hzl
      · cases hx
    · rw [List.getElem?_replicate] at hx
      split at hx
      · rename_i hj
        cases hx
        have hk' : k < i.size := by rw [← hzl]; exact (List.getElem?_eq_some_iff.1 hy).1
        obtain ⟨v, p, q⟩ := hzc.2 k y hy
        refine ⟨v, ?_, q⟩
        have hlt : j * i.size + k < m * zv.cells.size := by
          have : (j + 1) * i.size ≤ m * i.size := Nat.mul_le_mul_right _ hj
          rw [Nat.add_mul, Nat.one_mul] at this
          rw [hzs]
          omega
        have hmod : (j * i.size + k) % zv.cells.size = k := by rw [hzs, Nat.mul_comm, Nat.mul_add_mod, Nat.mod_eq_of_lt hk']
        have hp : zv.cells[k]! = v := by
          obtain ⟨hlt', rfl⟩ := Array.getElem?_eq_some_iff.1 p
          exact getElem!_pos zv.cells k hlt'
        have hg : (List.range (m * zv.cells.size))[j * i.size + k]? = some (j * i.size + k) := List.getElem?_range hlt
        simp only [Builtin.zeroCells, Array.toList_map, List.getElem?_map, Array.toList_range, hg, Option.map_some, hmod, hp]
      · cases hx
  refine ⟨_, _, hr, ?_⟩
  have hlen : (List.replicate m (zeroA zv)).length = m := by simp
  have := new_own (w := w.drew) (rest := Builtin.zeroCells zv.cells (grownCap w m 0 el - m)) (E := el) (sz := i.size) (r := grownCap w m 0 el) (X := List.replicate m (zeroA zv)) (K := K) hI.drew hrow (by rw [hsz]; exact grown_size hzs hge) (by rw [hlen]; exact hge) hle none (fun k e => by cases e) (fun id _ hid => by rw [hlen]; exact hk id hid)
  rw [hlen] at this
  exact this

theorem cap_sound {t u el : TypeId} {x : AV} {v : Value} {K : AV → Heap → Prop} (ht : P.underlying t = some (.slice el)) (hI : Inv W0 g O w) (hx : Reads g x v) (h : CapSem x O K) :
    ∃ z, (Builtin.cap_ #[t] u #[v]).run P w = .ok z w ∧ Out W0 g K z w := by
  have run : ∀ a n c, (Builtin.cap_ #[t] u #[.slice a n c]).run P w = .ok (.int .i64 c) w := fun a n c => by simp [Builtin.cap_, run_underlying ht, goInt]
  unfold CapSem at h
  split at h
  · cases hx with
    | listE _ _ a => exact ⟨_, run _ _ _, Out.now hI (.val _) h⟩
    | list _ _ l b off cap vs h1 h2 h3 h4 h5 h6 => have := h2 rfl; subst this; exact ⟨_, run _ _ _, Out.now hI (.val _) h⟩
  · cases hx with
    | listE _ _ a => exact ⟨_, run _ _ _, Out.now hI (.val _) (h 0 ⟨Nat.le_refl _, Nat.zero_le _⟩)⟩
    | list _ _ l b off cap vs h1 h2 h3 h4 h5 h6 => exact ⟨_, run _ _ _, Out.now hI (.val _) (h cap ⟨h1, h3⟩)⟩
  · cases hx with
    | own _ _ _ _ _ b r off c q0 q1 q2 q3 q4 q5 => have := q4 _ rfl; subst this; exact ⟨_, run _ _ _, Out.now hI (.val _) h⟩
  · cases hx with
    | own _ _ _ _ _ b r off c q0 q1 q2 q3 q4 q5 => exact ⟨_, run _ _ _, Out.now hI (.val _) (h c ⟨q2, q5⟩)⟩
  · have := hx.val_inv
    subst this
    exact ⟨_, run _ _ _, Out.now hI (.val _) h⟩
  · exact h.elim

/-- A new variable. -/
theorem newVar_sound {E sz : Nat} {x : AV} {v : Value} {K : AV → Heap → Prop} (hI : Inv W0 g O w) (hx : Reads g x v) (hs : x.cells.length = sz) (hst : x.stor = true)
    (hk : ∀ id, O id = none → K (.optr id sz 0 0) (O.upd id (.arr E sz [x]))) :
    ∃ w', (newVar E v).run P w = .ok ⟨w.heap.size, 0, none⟩ w' ∧ Out W0 g K (.pointer (some ⟨w.heap.size, 0, none⟩)) w' := by
  have hrow := rowOfVals (g := g) (sz := sz) (xs := [x]) (vs := [v]) (by simp [storAll, hs, hst]) ⟨hx, trivial⟩
  simp only [List.flatMap_cons, List.flatMap_nil, List.append_nil] at hrow
  obtain ⟨id, e1, e2, e3, e4, e5⟩ := hI.newArr v.cells E sz 1 [x] (by have := hrow.size; simpa using this) (by simp) hrow.len (fun i' x j y hx hy => by
    obtain ⟨v, p, q⟩ := hrow.at_ i' x j y hx hy
    exact ⟨v, by simpa using p, q⟩)
  refine ⟨_, by simp [newVar, newRow], _, _, _, e3, e5, ?_, hk id e1⟩
  have := Reads.optr (g := g.name id w.heap.size 1) id sz 0 0 w.heap.size 1 e4
  simpa using this

end
end Go.Ab

/- The abstract walk, eleventh part: comparisons of structs are sound; every instruction is sound. -/
namespace Go.Ab

theorem leavesEq_length : ∀ {ks : List Bool} {l m : List AV} {b : Bool}, leavesEq ks l m = some b → l.length = ks.length ∧ m.length = ks.length
  | [], [], [], _, _ => ⟨rfl, rfl⟩
  | [], [], _ :: _, _, h => by cases h
  | [], _ :: _, _, _, h => by cases h
  | _ :: _, [], _, _, h => by cases h
  | _ :: _, _ :: _, [], _, h => by cases h
  | k :: ks, x :: xs, y :: ys, b, h => by
    unfold leavesEq at h
    split at h
    · rename_i a c _ h2
      have := leavesEq_length h2
      simp [this]
    · cases h

theorem leavesEq_split : ∀ {k ks : List Bool} {l m : List AV} {b : Bool}, leavesEq (k ++ ks) l m = some b →
    ∃ b1 b2, leavesEq k (l.take k.length) (m.take k.length) = some b1 ∧ leavesEq ks (l.drop k.length) (m.drop k.length) = some b2 ∧ b = (b1 && b2)
  | [], ks, l, m, b, h => ⟨true, b, by simp [leavesEq], by simpa using h, by simp⟩
  | _ :: _, _, [], _, _, h => by cases h
  | _ :: _, _, _ :: _, [], _, h => by cases h
  | k :: k', ks, x :: xs, y :: ys, b, h => by
    simp only [List.cons_append] at h
    unfold leavesEq at h
    split at h
    · rename_i a c h1 h2
      cases h
      obtain ⟨b1, b2, e1, e2, rfl⟩ := leavesEq_split h2
      exact ⟨a && b1, b2, by simp [leavesEq, h1, e1], by simpa using e2, by rw [Bool.and_assoc]⟩
    · cases h

section
variable {P : Program} {W0 : World} {g : Gh} {O : Heap} {w : World}

def ReadsFrom (g : Gh) (X : Array Value) (off : Nat) (l : List AV) : Prop := ∀ (j : Nat) y, l[j]? = some y → ∃ v, X[off + j]? = some v ∧ Reads g y v

theorem ReadsFrom.sub {X : Array Value} {off n : Nat} {l : List AV} (h : ReadsFrom g X off l) (hn : l.length ≤ n) : ReadsFrom g (X.extract off (off + n)) 0 l := by
  intro j y hy
  obtain ⟨v, hv, hr⟩ := h j y hy
  have hj : j < l.length := (List.getElem?_eq_some_iff.1 hy).1
  have hlt := (Array.getElem?_eq_some_iff.1 hv).1
  refine ⟨v, ?_, hr⟩
  rw [Array.getElem?_extract, if_pos (by omega), Nat.zero_add]
  exact hv

theorem eqFields_run {d D : Nat} (hD : d ≤ D)
    (ih : ∀ t ks, flatK P d t = some ks → sizeB P t = some ks.length → ∀ (X Y : Array Value) off l m b, ReadsFrom g X off l → ReadsFrom g Y off m → leavesEq ks l m = some b →
      ∃ u v, (part t X off).run P w = .ok u w ∧ (part t Y off).run P w = .ok v w ∧ (Op.equalIn D t u v).run P w = .ok b w)
    (X Y : Array Value) : ∀ (fs : List Field) (off : Nat) ks l m b, tileK P (fun t => flatK P d t) fs off = some ks → ReadsFrom g X off l → ReadsFrom g Y off m → leavesEq ks l m = some b →
      (Op.eqFields D X Y fs).run P w = .ok b w
  | [], off, ks, l, m, b, hk, _, _, h => by
    cases hk
    have hl := leavesEq_length h
    have e1 : l = [] := List.eq_nil_of_length_eq_zero hl.1
    have e2 : m = [] := List.eq_nil_of_length_eq_zero hl.2
    subst e1 e2
    cases h
    simp [Op.eqFields]
  | f :: fs, off, ks, l, m, b, hk, hx, hy, h => by
    unfold tileK at hk
    split at hk
    · rename_i hc
      split at hk
      · rename_i k hk'
        split at hk
        · rename_i hs
          rw [Option.map_eq_some_iff] at hk
          obtain ⟨ks', hks, rfl⟩ := hk
          obtain ⟨b1, b2, e1, e2, rfl⟩ := leavesEq_split h
          have hx1 : ReadsFrom g X off (l.take k.length) := fun j y hj => by
            rw [List.getElem?_take] at hj
            split at hj
            · exact hx j y hj
            · cases hj
          have hy1 : ReadsFrom g Y off (m.take k.length) := fun j y hj => by
            rw [List.getElem?_take] at hj
            split at hj
            · exact hy j y hj
            · cases hj
          have hx2 : ReadsFrom g X (off + k.length) (l.drop k.length) := fun j y hj => by
            rw [List.getElem?_drop] at hj
            rw [Nat.add_assoc]
            exact hx _ y hj
          have hy2 : ReadsFrom g Y (off + k.length) (m.drop k.length) := fun j y hj => by
            rw [List.getElem?_drop] at hj
            rw [Nat.add_assoc]
            exact hy _ y hj
          obtain ⟨u, v, r1, r2, r3⟩ := ih f.type k hk' hs X Y off _ _ b1 hx1 hy1 e1
          have hrec := eqFields_run hD ih X Y fs (off + k.length) ks' _ _ b2 hks hx2 hy2 e2
          obtain ⟨hn, rfl⟩ := hc
          simp only [Op.eqFields, ne_eq, hn, not_false_eq_true, if_true, Sem.run_bind, r1, r2, r3, Result.andThen_ok]
          cases b1 <;> simp [hrec]
        · cases hk
      · cases hk
    · cases hk

theorem flat_eq : ∀ (d D : Nat), d ≤ D → ∀ t ks, flatK P d t = some ks → sizeB P t = some ks.length → ∀ (X Y : Array Value) off l m b, ReadsFrom g X off l → ReadsFrom g Y off m → leavesEq ks l m = some b →
    ∃ u v, (part t X off).run P w = .ok u w ∧ (part t Y off).run P w = .ok v w ∧ (Op.equalIn D t u v).run P w = .ok b w
  | 0, _, _, t, ks, hk, _, _, _, _, _, _, _, _, _, _ => by cases hk
  | d + 1, 0, hD, _, _, _, _, _, _, _, _, _, _, _, _, _ => by omega
  | d + 1, D + 1, hD, t, ks, hk, hs, X, Y, off, l, m, b, hx, hy, h => by
    have hl := leavesEq_length h
    unfold flatK at hk
    cases hu : P.underlying t with
    | none => simp [hu] at hk
    | some ds =>
      rw [hu] at hk
      have hrunagg := isAggB_run hs (by rw [hu]; simp) w
      cases ds <;> simp only [] at hk <;> try (cases hk; done)
      case bool =>
        cases hk
        match l, m, hl with
        | [x], [y], _ =>
          obtain ⟨u, hu1, hr1⟩ := hx 0 x rfl
          obtain ⟨v, hv1, hr2⟩ := hy 0 y rfl
          rw [Nat.add_zero] at hu1 hv1
          unfold leavesEq at h
          split at h
          · rename_i a c h1 h2
            cases h
            have h1 : boolEqA x y = some a := h1
            have hagg : isAggB P t = false := by unfold isAggB; rw [hu]
            unfold boolEqA at h1
            split at h1
            · cases h1
              cases h2
              have := hr1.val_inv
              have := hr2.val_inv
              subst_vars
              refine ⟨_, _, by simp [part, hrunagg, hagg, hu1]; rfl, by simp [part, hrunagg, hagg, hv1]; rfl, ?_⟩
              rw [run_equalIn_bool w D t _ _ hu]
              simp
            · cases h1
          · cases h
      case int kk =>
        cases hk
        match l, m, hl with
        | [x], [y], _ =>
          obtain ⟨u, hu1, hr1⟩ := hx 0 x rfl
          obtain ⟨v, hv1, hr2⟩ := hy 0 y rfl
          rw [Nat.add_zero] at hu1 hv1
          unfold leavesEq at h
          split at h
          · rename_i a c h1 h2
            cases h
            have h1 : intEqA x y = some a := h1
            have hagg : isAggB P t = false := by unfold isAggB; rw [hu]
            unfold intEqA at h1
            split at h1
            · split at h1
              · rename_i hkk
                cases h1
                cases h2
                have := hr1.val_inv
                have := hr2.val_inv
                subst_vars
                refine ⟨_, _, by simp [part, hrunagg, hagg, hu1]; rfl, by simp [part, hrunagg, hagg, hv1]; rfl, ?_⟩
                rw [run_equalIn_int w D t _ _ _ _ hu]
                simp
              · cases h1
            · cases h1
          · cases h
      case struct fs =>
        split at hk
        · cases hk
        · rename_i hst
          have hagg : isAggB P t = true := by unfold isAggB; rw [hu]
          have hfs : P.underlying t = some (.struct (P.fieldsOf t)) := by simp [Program.fieldsOf, hu]
          have hff : (P.fieldsOf t) = fs := by simp [Program.fieldsOf, hu]
          refine ⟨.agg (X.extract off (off + ks.length)), .agg (Y.extract off (off + ks.length)), by simp [part, hrunagg, hagg, run_sizeOf' hs], by simp [part, hrunagg, hagg, run_sizeOf' hs], ?_⟩
          rw [run_equalIn_struct w D t _ _ hfs (by simpa using hst), hff]
          exact eqFields_run (d := d) (D := D) (by omega) (fun t ks h1 h2 X Y off l m b => flat_eq d D (by omega) t ks h1 h2 X Y off l m b) _ _ fs.toList 0 ks l m b hk (hx.sub (by omega)) (hy.sub (by omega)) h

theorem eqagg_sound {neg : Bool} {t : TypeId} {X Y : Operand} {ks : List Bool} {x y r : AV} {u v : Value} (hk : flatK P 100 t = some ks) (hs : sizeB P t = some ks.length) (ha : isAggB P t = true) (hgd : P.eqGuardType P.depth t = false)
    (hx : Reads g x u) (hy : Reads g y v) (h : eqaggA neg ks x y = some r) (w : World) :
    ∃ z, (do eqGuard (if neg then .neq else .eql) t X Y u v; binOp (if neg then .neq else .eql) t u v : Sem Value).run P w = .ok z w ∧ Reads g r z := by
  unfold eqaggA at h
  split at h
  · rename_i l m
    rw [Option.map_eq_some_iff] at h
    obtain ⟨b, hb, rfl⟩ := h
    have hl := leavesEq_length hb
    cases hx with
    | agg _ cs c1 c2 c3 =>
      cases hy with
      | agg _ ds d1 d2 d3 =>
        have hR : ∀ {l : List AV} {cs : Array Value}, cs.size = l.length → (∀ (i : Nat) x v, l[i]? = some x → cs[i]? = some v → Reads g x v) → ReadsFrom g cs 0 l := fun {l cs} h1 h2 j y hy => by
          have hj : j < l.length := (List.getElem?_eq_some_iff.1 hy).1
          have hv : cs[j]? = some (cs[j]'(by omega)) := Array.getElem?_eq_getElem (by omega)
          exact ⟨_, by rw [Nat.zero_add]; exact hv, h2 j y _ hy hv⟩
        obtain ⟨u', v', r1, r2, r3⟩ := flat_eq (P := P) (w := w) 100 10000 (by omega) t ks hk hs cs ds 0 l m b (hR c1 c3) (hR d1 d3) hb
        have hu : P.underlying t ≠ none := by
          intro e
          unfold isAggB at ha
          rw [e] at ha
          cases ha
        have hpart : ∀ (cs : Array Value), cs.size = ks.length → (part t cs 0).run P w = .ok (.agg cs) w := fun cs hc => by
          simp [part, isAggB_run hs hu w, ha, run_sizeOf' hs, ← hc]
        rw [hpart cs (by omega)] at r1
        rw [hpart ds (by omega)] at r2
        cases r1
        cases r2
        have e1 := run_eqGuard_agg (P := P) w (if neg then .neq else .eql) t X Y cs ds hgd
        cases neg
        · refine ⟨_, ?_, .val _⟩
          simp only [Bool.false_eq_true, if_false, Sem.run_bind] at e1 ⊢
          rw [e1, Result.andThen_ok, run_eql_struct, r3]
          rfl
        · refine ⟨_, ?_, .val _⟩
          simp only [if_true, Sem.run_bind] at e1 ⊢
          rw [e1, Result.andThen_ok, run_neq_struct, r3]
          rfl
  · cases h

end
end Go.Ab

/- The abstract walk: maps are sound. -/
namespace Go.Ab

section
variable {P : Program} {W0 : World} {g : Gh} {O : Heap} {w : World}

theorem forIn_ok {α : Type} (f : α → PUnit → Sem (ForInStep PUnit)) : ∀ (l : List α), (∀ x ∈ l, (f x ⟨⟩).run P w = .ok (.yield ⟨⟩) w) → (forIn l PUnit.unit f).run P w = .ok ⟨⟩ w
  | [], _ => by simp
  | x :: l, h => by
    rw [List.forIn_cons, Sem.run_bind, h x (by simp)]
    simp only [Result.andThen_ok]
    exact forIn_ok f l (fun y hy => h y (by simp [hy]))

/-- Cells enough. -/
def Has (X : Array Value) (off n : Nat) (l : List AV) (g : Gh) : Prop := l.length = n ∧ ReadsFrom g X off l

theorem flat_check (b : Bool) : ∀ (d N : Nat), d ≤ N → ∀ t ks, flatK P d t = some ks → sizeB P t = some ks.length → ∀ (X : Array Value) off l, l.length = ks.length → ReadsFrom g X off l →
    (∀ (j : Nat) k y, ks[j]? = some k → l[j]? = some y → (leafEq k y y).isSome = true) →
    ∃ u, (part t X off).run P w = .ok u w ∧ (Instr.checkKey b N t u).run P w = .ok () w
  | 0, _, _, t, ks, hk, _, _, _, _, _, _, _ => by cases hk
  | d + 1, 0, hN, _, _, _, _, _, _, _, _, _, _ => by omega
  | d + 1, N + 1, hN, t, ks, hk, hs, X, off, l, hl, hx, hleaf => by
    unfold flatK at hk
    cases hu : P.underlying t with
    | none => simp [hu] at hk
    | some ds =>
      rw [hu] at hk
      have hrunagg := isAggB_run hs (by rw [hu]; simp) w
      cases ds <;> simp only [] at hk <;> try (cases hk; done)
      case bool =>
        cases hk
        match l, hl with
        | [x], _ =>
          obtain ⟨u, hu1, hr1⟩ := hx 0 x rfl
          rw [Nat.add_zero] at hu1
          have hagg : isAggB P t = false := by unfold isAggB; rw [hu]
          refine ⟨u, by simp [part, hrunagg, hagg, hu1], ?_⟩
          unfold Instr.checkKey
          simp [run_underlying hu]
      case int kk =>
        cases hk
        match l, hl with
        | [x], _ =>
          obtain ⟨u, hu1, hr1⟩ := hx 0 x rfl
          rw [Nat.add_zero] at hu1
          have hagg : isAggB P t = false := by unfold isAggB; rw [hu]
          refine ⟨u, by simp [part, hrunagg, hagg, hu1], ?_⟩
          unfold Instr.checkKey
          simp [run_underlying hu]
      case struct fs =>
        split at hk
        · cases hk
        · have hagg : isAggB P t = true := by unfold isAggB; rw [hu]
          refine ⟨.agg (X.extract off (off + ks.length)), by simp [part, hrunagg, hagg, run_sizeOf' hs], ?_⟩
          have key : ∀ (fl : List Field) (o : Nat) (ks' : List Bool) (l' : List AV), tileK P (fun t => flatK P d t) fl o = some ks' → l'.length = ks'.length → ReadsFrom g (X.extract off (off + ks.length)) o l' →
              (∀ (j : Nat) k y, ks'[j]? = some k → l'[j]? = some y → (leafEq k y y).isSome = true) →
              ∀ f ∈ fl, ∃ u, (part f.type (X.extract off (off + ks.length)) f.offset).run P w = .ok u w ∧ (Instr.checkKey b N f.type u).run P w = .ok () w := by
            intro fl
            induction fl with
            | nil => intro o ks' l' _ _ _ _ f hf; cases hf
            | cons f0 fl ih =>
              intro o ks' l' ht hl' hx' hlf f hf
              unfold tileK at ht
              split at ht
              · rename_i hc
                split at ht
                · rename_i k hk'
                  split at ht
                  · rename_i hsz
                    rw [Option.map_eq_some_iff] at ht
                    obtain ⟨ks2, h2, rfl⟩ := ht
                    rw [List.length_append] at hl'
                    rcases List.mem_cons.1 hf with rfl | hf
                    · rw [hc.2]
                      refine flat_check b d N (by omega) _ k hk' hsz _ o (l'.take k.length) (by simp; omega) (fun j y hj => ?_) (fun j kk y hj hy => ?_)
                      · rw [List.getElem?_take] at hj
                        split at hj
                        · exact hx' j y hj
                        · cases hj
                      · rw [List.getElem?_take] at hy
                        split at hy
                        · rename_i hjk
                          exact hlf j kk y (by rw [List.getElem?_append_left hjk]; exact hj) hy
                        · cases hy
                    · refine ih (o + k.length) ks2 (l'.drop k.length) h2 (by simp; omega) (fun j y hj => ?_) (fun j kk y hj hy => ?_) f hf
                      · rw [List.getElem?_drop] at hj
                        rw [Nat.add_assoc]
                        exact hx' _ y hj
                      · rw [List.getElem?_drop] at hy
                        exact hlf _ kk y (by rw [List.getElem?_append_right (by omega), Nat.add_sub_cancel_left]; exact hj) hy
                  · cases ht
                · cases ht
              · cases ht
          have hall := key fs.toList 0 ks l hk hl (hx.sub (by omega)) hleaf
          unfold Instr.checkKey
          simp only [Sem.run_bind, run_underlying hu, Result.andThen_ok]
          rw [← Array.forIn_toList]
          refine Eq.trans (congrArg (fun r => Result.andThen r (fun _ w' => Sem.run P (pure ()) w')) (forIn_ok (P := P) (w := w) _ fs.toList (fun f hf => ?_))) (by simp)
          obtain ⟨u, h1, h2⟩ := hall f hf
          by_cases hn : f.name = "_"
          · simp [hn]
          · simp [hn, Sem.run_bind, h1, h2]

theorem reads_from {l : List AV} {cs : Array Value} (h1 : cs.size = l.length) (h2 : ∀ (i : Nat) x v, l[i]? = some x → cs[i]? = some v → Reads g x v) : ReadsFrom g cs 0 l := fun j y hy => by
  have hj : j < l.length := (List.getElem?_eq_some_iff.1 hy).1
  have hv : cs[j]? = some (cs[j]'(by omega)) := Array.getElem?_eq_getElem (by omega)
  exact ⟨_, by rw [Nat.zero_add]; exact hv, h2 j y _ hy hv⟩

theorem leavesEq_leaf : ∀ {ks : List Bool} {l m : List AV} {b : Bool}, leavesEq ks l m = some b → ∀ (j : Nat) k y z, ks[j]? = some k → l[j]? = some y → m[j]? = some z → (leafEq k y z).isSome = true
  | [], _, _, _, _, j, k, y, z, hj, _, _ => by simp at hj
  | k0 :: ks, [], _, _, h, j, k, y, z, _, hy, _ => by simp at hy
  | k0 :: ks, x :: xs, [], _, h, j, k, y, z, _, _, hz => by simp at hz
  | k0 :: ks, x :: xs, u :: us, b, h, j, k, y, z, hj, hy, hz => by
    unfold leavesEq at h
    split at h
    · rename_i a c h1 h2
      cases j with
      | zero => simp at hj hy hz; subst hj hy hz; rw [h1]; rfl
      | succ j => exact leavesEq_leaf h2 j k y z (by simpa using hj) (by simpa using hy) (by simpa using hz)
    · cases h

def RelF (g : Gh) : Option (Nat × AV) → Option (Nat × Value) → Prop
  | none, none => True
  | some (i, a), some (j, v) => i = j ∧ Reads g a v
  | _, _ => False

def EnOK (g : Gh) (l : List (AV × AV)) (es : List MapEntry) : Prop := es.length = l.length ∧ ∀ (i : Nat) p en, l[i]? = some p → es[i]? = some en → Reads g p.1 en.key ∧ Reads g p.2 en.val

theorem EnOK.cons {l : List (AV × AV)} {es : List MapEntry} {p : AV × AV} {en : MapEntry} (h : EnOK g (p :: l) (en :: es)) : Reads g p.1 en.key ∧ Reads g p.2 en.val ∧ EnOK g l es :=
  ⟨(h.2 0 p en rfl rfl).1, (h.2 0 p en rfl rfl).2, by simpa using h.1, fun i q e hq he => h.2 (i + 1) q e (by simpa using hq) (by simpa using he)⟩

section
variable {kt : TypeId} {ks : List Bool} (hk : flatK P 100 kt = some ks) (hs : sizeB P kt = some ks.length)
include hk hs

theorem key_check (b : Bool) {k : AV} {u : Value} (hr : Reads g k u) (hok : keyOKA ks (isAggB P kt) k = true) : (Instr.checkKey b 10000 kt u).run P w = .ok () w := by
  unfold keyOKA at hok
  obtain ⟨e, he⟩ := Option.isSome_iff_exists.1 hok
  unfold keyEqA at he
  cases hagg : isAggB P kt with
  | true =>
    rw [hagg] at he
    simp only [] at he
    cases k <;> simp only [] at he <;> try (cases he; done)
    case agg l =>
      have hl := leavesEq_length he
      cases hr with
      | agg _ cs c1 c2 c3 =>
        obtain ⟨u', h1, h2⟩ := flat_check (P := P) (w := w) (g := g) b 100 10000 (by omega) kt ks hk hs cs 0 l hl.1 (reads_from c1 c3) (fun j kk y hj hy => leavesEq_leaf he j kk y y hj hy hy)
        have hu : P.underlying kt ≠ none := by intro e'; unfold isAggB at hagg; rw [e'] at hagg; cases hagg
        have hp : (part kt cs 0).run P w = .ok (.agg cs) w := by
          have : cs.size = ks.length := by omega
          simp [part, isAggB_run hs hu w, hagg, run_sizeOf' hs, ← this]
        rw [hp] at h1
        cases h1
        exact h2
  | false =>
    unfold Instr.checkKey
    cases hu : P.underlying kt with
    | none =>
      unfold flatK at hk
      rw [hu] at hk
      cases hk
    | some ds =>
      unfold flatK at hk
      unfold isAggB at hagg
      rw [hu] at hk hagg
      cases ds <;> first | (cases hk; done) | (cases hagg; done) | simp [run_underlying hu]

theorem key_eq {x y : AV} {u v : Value} {b : Bool} (hx : Reads g x u) (hy : Reads g y v) (h : keyEqA ks (isAggB P kt) x y = some b) : (Op.equal kt u v).run P w = .ok b w := by
  unfold keyEqA at h
  cases hagg : isAggB P kt with
  | true =>
    rw [hagg] at h
    simp only [] at h
    split at h
    · rename_i l m
      have hl := leavesEq_length h
      cases hx with
      | agg _ cs c1 c2 c3 =>
        cases hy with
        | agg _ ds d1 d2 d3 =>
          obtain ⟨u', v', r1, r2, r3⟩ := flat_eq (P := P) (w := w) 100 10000 (by omega) kt ks hk hs cs ds 0 l m b (reads_from c1 c3) (reads_from d1 d3) h
          have hu : P.underlying kt ≠ none := by intro e'; unfold isAggB at hagg; rw [e'] at hagg; cases hagg
          have hpart : ∀ (cs : Array Value), cs.size = ks.length → (part kt cs 0).run P w = .ok (.agg cs) w := fun cs hc => by
            simp [part, isAggB_run hs hu w, hagg, run_sizeOf' hs, ← hc]
          rw [hpart cs (by omega)] at r1
          rw [hpart ds (by omega)] at r2
          cases r1
          cases r2
          exact r3
    · cases h
  | false =>
    rw [hagg] at h
    simp only [] at h
    split at h
    · rename_i kb
      cases hu : P.underlying kt with
      | none =>
        unfold flatK at hk
        rw [hu] at hk
        cases hk
      | some ds =>
        unfold flatK at hk
        unfold isAggB at hagg
        rw [hu] at hk hagg
        cases ds <;> simp only [] at hk <;> try (cases hk; done)
        case bool =>
          cases hk
          have h : boolEqA x y = some b := h
          unfold boolEqA at h
          split at h
          · cases h
            have := hx.val_inv
            have := hy.val_inv
            subst_vars
            show (Op.equalIn 10000 kt _ _).run P w = _
            rw [run_equalIn_bool w 9999 kt _ _ hu]
          · cases h
        case int kk =>
          cases hk
          have h : intEqA x y = some b := h
          unfold intEqA at h
          split at h
          · split at h
            · rename_i hkk
              cases h
              have := hx.val_inv
              have := hy.val_inv
              subst_vars
              show (Op.equalIn 10000 kt _ _).run P w = _
              rw [run_equalIn_int w 9999 kt _ _ _ _ hu]
            · cases h
          · cases h
        case struct fs => cases hagg
    · cases h

theorem findAsking_ok {k : AV} {u : Value} (hr : Reads g k u) : ∀ (l : List (AV × AV)) (es : List MapEntry) (i : Nat) r, EnOK g l es → findA ks (isAggB P kt) k l i = some r → ∃ r', (Instr.findAsking kt u es i).run P w = .ok r' w ∧ RelF g r r'
  | [], [], i, r, _, h => by cases h; exact ⟨none, by simp [Instr.findAsking], trivial⟩
  | [], _ :: _, i, r, h, _ => by have := h.1; simp at this
  | _ :: _, [], i, r, h, _ => by have := h.1; simp at this
  | p :: l, en :: es, i, r, he, h => by
    obtain ⟨h1, h2, h3⟩ := he.cons
    unfold findA at h
    split at h
    · rename_i hq
      cases h
      exact ⟨some (i, en.val), by simp [Instr.findAsking, Sem.run_bind, key_eq hk hs hr h1 hq], rfl, h2⟩
    · rename_i hq
      obtain ⟨r', e1, e2⟩ := findAsking_ok hr l es (i + 1) r h3 h
      exact ⟨r', by simp [Instr.findAsking, Sem.run_bind, key_eq hk hs hr h1 hq, e1], e2⟩
    · cases h

theorem findNow_ok {k : AV} {u : Value} (hr : Reads g k u) {ds : TypeDesc} (hu : P.underlying kt = some ds) (hagg : isAggB P kt = false) : ∀ (l : List (AV × AV)) (es : List MapEntry) (i : Nat) r, EnOK g l es → findA ks (isAggB P kt) k l i = some r → ∃ r', Instr.findNow ds u es i = some r' ∧ RelF g r r'
  | [], [], i, r, _, h => by cases h; exact ⟨none, rfl, trivial⟩
  | [], _ :: _, i, r, h, _ => by have := h.1; simp at this
  | _ :: _, [], i, r, h, _ => by have := h.1; simp at this
  | p :: l, en :: es, i, r, he, h => by
    obtain ⟨h1, h2, h3⟩ := he.cons
    have key : ∀ b, keyEqA ks (isAggB P kt) k p.1 = some b → Instr.sameNow ds u en.key = some b := by
      intro b hb
      unfold keyEqA at hb
      rw [hagg] at hb
      simp only [] at hb
      split at hb
      · rename_i kb
        unfold flatK at hk
        have hagg' := hagg
        unfold isAggB at hagg'
        rw [hu] at hk hagg'
        cases ds <;> simp only [] at hk <;> try (cases hk; done)
        case bool =>
          cases hk
          have hb : boolEqA k p.1 = some b := hb
          unfold boolEqA at hb
          split at hb
          · rename_i a c e1 e2
            cases hb
            have := hr.val_inv
            rw [e1] at h1
            have := h1.val_inv
            subst_vars
            rw [this]
            rfl
          · cases hb
        case int kk =>
          cases hk
          have hb : intEqA k p.1 = some b := hb
          unfold intEqA at hb
          split at hb
          · rename_i k1 a k2 c e1 e2
            split at hb
            · rename_i hkk
              cases hb
              have := hr.val_inv
              rw [e1] at h1
              have := h1.val_inv
              subst_vars
              rw [this]
              simp [Instr.sameNow]
            · cases hb
          · cases hb
        case struct fs => cases hagg'
      · cases hb
    unfold findA at h
    split at h
    · rename_i hq
      cases h
      exact ⟨some (i, en.val), by simp [Instr.findNow, key _ hq], rfl, h2⟩
    · rename_i hq
      obtain ⟨r', e1, e2⟩ := findNow_ok hr hu hagg l es (i + 1) r h3 h
      exact ⟨r', by simp [Instr.findNow, key _ hq, e1], e2⟩
    · cases h

theorem find_ok {k : AV} {u : Value} (hr : Reads g k u) {l : List (AV × AV)} {es : List MapEntry} {r : Option (Nat × AV)} (he : EnOK g l es) (h : findA ks (isAggB P kt) k l 0 = some r) :
    ∃ r', (Instr.findKey kt u es).run P w = .ok r' w ∧ RelF g r r' := by
  cases hu : P.underlying kt with
  | none =>
    unfold flatK at hk
    rw [hu] at hk
    cases hk
  | some ds =>
    cases hagg : isAggB P kt with
    | false =>
      obtain ⟨r', e1, e2⟩ := findNow_ok hk hs hr hu hagg l es 0 r he h
      exact ⟨r', by simp [Instr.findKey, Sem.run_bind, run_underlying hu, e1], e2⟩
    | true =>
      obtain ⟨r', e1, e2⟩ := findAsking_ok (w := w) hk hs hr l es 0 r he h
      cases es with
      | nil =>
        have hl : l = [] := List.eq_nil_of_length_eq_zero (by have := he.1; simpa using this.symm)
        subst hl
        cases h
        exact ⟨none, by simp [Instr.findKey, Sem.run_bind, run_underlying hu, Instr.findNow], trivial⟩
      | cons en es =>
        have hn : Instr.findNow ds u (en :: es) 0 = none := by
          have : Instr.sameNow ds u en.key = none := by
            unfold isAggB at hagg
            rw [hu] at hagg
            cases ds <;> first | (cases hagg; done) | rfl
          simp [Instr.findNow, this]
        exact ⟨r', by simp [Instr.findKey, Sem.run_bind, run_underlying hu, hn, e1], e2⟩
end

theorem findA_spec {ks : List Bool} {agg : Bool} {k : AV} : ∀ {l : List (AV × AV)} {n i : Nat} {v : AV}, findA ks agg k l n = some (some (i, v)) → ∃ j p, i = n + j ∧ l[j]? = some p ∧ keyEqA ks agg k p.1 = some true
  | [], _, _, _, h => by cases h
  | p :: l, n, i, v, h => by
    unfold findA at h
    split at h
    · rename_i hq
      cases h
      exact ⟨0, p, by omega, rfl, hq⟩
    · obtain ⟨j, q, e1, e2, e3⟩ := findA_spec h
      exact ⟨j + 1, q, by omega, by simpa using e2, e3⟩
    · cases h

theorem leaf_bits {k : Bool} {x y : AV} {u v : Value} (n : Nat) (hx : Reads g x u) (hy : Reads g y v) (h : leafEq k x y = some true) : Instr.sameBits n v u = true := by
  cases k with
  | true =>
    have h : intEqA x y = some true := h
    unfold intEqA at h
    split at h
    · split at h
      · rename_i hkk
        simp only [Option.some.injEq, beq_iff_eq] at h
        have := hx.val_inv
        have := hy.val_inv
        subst_vars
        cases n <;> simp [Instr.sameBits]
      · cases h
    · cases h
  | false =>
    have h : boolEqA x y = some true := h
    unfold boolEqA at h
    split at h
    · simp only [Option.some.injEq, beq_iff_eq] at h
      have := hx.val_inv
      have := hy.val_inv
      subst_vars
      cases n <;> simp [Instr.sameBits]
    · cases h

theorem leaves_bits (n : Nat) : ∀ {ks : List Bool} {l m : List AV} {us vs : List Value}, leavesEq ks l m = some true → us.length = l.length → vs.length = m.length → (∀ (i : Nat) x v, l[i]? = some x → us[i]? = some v → Reads g x v) → (∀ (i : Nat) x v, m[i]? = some x → vs[i]? = some v → Reads g x v) →
    ((vs.zip us).all fun p => Instr.sameBits n p.1 p.2) = true
  | [], [], [], us, vs, _, h1, h2, _, _ => by
    have : us = [] := List.eq_nil_of_length_eq_zero h1
    subst this
    simp
  | [], [], _ :: _, _, _, h, _, _, _, _ => by cases h
  | [], _ :: _, _, _, _, h, _, _, _, _ => by cases h
  | _ :: _, [], _, _, _, h, _, _, _, _ => by cases h
  | _ :: _, _ :: _, [], _, _, h, _, _, _, _ => by cases h
  | k :: ks, x :: l, y :: m, [], _, _, h1, _, _, _ => by simp at h1
  | k :: ks, x :: l, y :: m, _ :: _, [], _, _, h2, _, _ => by simp at h2
  | k :: ks, x :: l, y :: m, u :: us, v :: vs, h, h1, h2, r1, r2 => by
    unfold leavesEq at h
    split at h
    · rename_i a c e1 e2
      simp only [Option.some.injEq, Bool.and_eq_true] at h
      obtain ⟨rfl, rfl⟩ := h
      have := leaf_bits n (r1 0 x u rfl rfl) (r2 0 y v rfl rfl) e1
      have := leaves_bits n e2 (by simpa using h1) (by simpa using h2) (fun i x v hx hv => r1 (i + 1) x v (by simpa using hx) (by simpa using hv)) (fun i x v hx hv => r2 (i + 1) x v (by simpa using hx) (by simpa using hv))
      simp [*]
    · cases h

theorem key_stays {ks : List Bool} {agg : Bool} {x y : AV} {u v : Value} (hx : Reads g x u) (hy : Reads g y v) (h : keyEqA ks agg x y = some true) : (Instr.keyThatStays v u).run P w = .ok u w := by
  have hb : Instr.sameBits 10000 v u = true := by
    unfold keyEqA at h
    cases agg with
    | true =>
      simp only [] at h
      split at h
      · rename_i l m
        have hl := leavesEq_length h
        cases hx with
        | agg _ cs c1 c2 c3 =>
          cases hy with
          | agg _ ds d1 d2 d3 =>
            have := leaves_bits (g := g) 9999 h (us := cs.toList) (vs := ds.toList) (by simpa using c1) (by simpa using d1) (fun i x v hx hv => c3 i x v hx (by simpa using hv)) (fun i x v hx hv => d3 i x v hx (by simpa using hv))
            show (ds.size == cs.size && (ds.toList.zip cs.toList).all fun p => Instr.sameBits 9999 p.1 p.2) = true
            rw [this, c1, d1, hl.1, hl.2]
            simp
      · cases h
    | false =>
      simp only [] at h
      split at h
      · exact leaf_bits _ hx hy h
      · cases h
  simp [Instr.keyThatStays, hb]

theorem enOK_at {l : List (AV × AV)} {es : Array MapEntry} (h1 : es.size = l.length) (h2 : ∀ (i : Nat) p en, l[i]? = some p → es[i]? = some en → Reads g p.1 en.key ∧ Reads g p.2 en.val) : EnOK g l es.toList :=
  ⟨by simpa using h1, fun i p en hp he => h2 i p en hp (by simpa using he)⟩

theorem lookup_sound {t kt el : TypeId} {ks : List Bool} {za x k r : AV} {u v : Value} {ok : Bool} (ht : P.underlying t = some (.map kt el)) (hk : flatK P 100 kt = some ks) (hs : sizeB P kt = some ks.length) (hz : zeroB P el = some za)
    (hI : Inv W0 g O w) (hx : Reads g x u) (hv : Reads g k v) (h : lookupA O ok ks (isAggB P kt) za x k = some r) : ∃ z, (Instr.lookup t u v ok).run P w = .ok z w ∧ Reads g r z := by
  unfold lookupA at h
  split at h
  · rename_i hok
    obtain ⟨i, zv, hi, hzv, rfl, _, hz1, _⟩ := zeroB_inv hz
    have hzr : (zeroValue el).run P w = .ok zv w := by simp [zeroValue, typeInfo, hi, hzv]
    have hzz : Reads g (zeroA zv) zv := by
      cases zv with
      | agg cs =>
        refine .agg _ _ (by simp) (fun i v hv => hz1 i v (by simpa [Value.cells] using hv)) (fun i x v hx hv => ?_)
        have hv' : cs.toList[i]? = some v := by simpa using hv
        rw [List.getElem?_map, hv'] at hx
        cases hx
        exact .val _
      | _ => exact .val _
    have fin : ∀ (q : Option (Nat × AV)) (q' : Option (Nat × Value)), RelF g q q' →
        ∃ z, (do let (v, o) ← (match q' with | some (_, v) => pure (v, true) | none => do pure (← zeroValue el, false) : Sem (Value × Bool)); pure (if ok then .tuple #[v, .bool o] else v) : Sem Value).run P w = .ok z w ∧ Reads g (found ok (zeroA zv) q) z := by
      intro q q' hq
      match q, q', hq with
      | none, none, _ =>
        cases ok
        · exact ⟨zv, by simp [Sem.run_bind, hzr], hzz⟩
        · refine ⟨.tuple #[zv, .bool false], by simp [Sem.run_bind, hzr], .tup _ _ rfl (fun i x v hx hv => ?_)⟩
          match i, hx, hv with
          | 0, hx, hv => simp at hx hv; subst hx hv; exact hzz
          | 1, hx, hv => simp at hx hv; subst hx hv; exact .val _
      | some (i, a), some (j, v'), hq =>
        cases ok
        · exact ⟨v', by simp [Sem.run_bind], hq.2⟩
        · refine ⟨.tuple #[v', .bool true], by simp [Sem.run_bind], .tup _ _ rfl (fun i x v hx hv => ?_)⟩
          match i, hx, hv with
          | 0, hx, hv => simp at hx hv; subst hx hv; exact hq.2
          | 1, hx, hv => simp at hx hv; subst hx hv; exact .val _
    split at h
    · rename_i id
      split at h
      · rename_i l ho
        rw [Option.map_eq_some_iff] at h
        obtain ⟨q, hq, rfl⟩ := h
        cases hx with
        | mapr _ b room hm =>
          obtain ⟨b', r', hm', _, _, es, cl, h3, h4, h5⟩ := hI.obj id _ ho
          rw [hm] at hm'
          cases hm'
          obtain ⟨q', e1, e2⟩ := find_ok (w := w) hk hs hv (enOK_at h4 h5) hq
          obtain ⟨z, e3, e4⟩ := fin q q' e2
          refine ⟨z, ?_, e4⟩
          simp only [Instr.lookup, Sem.run_bind, run_underlying ht, Result.andThen_ok, getObj_run h3 rfl, Sem.run_pure, key_check hk hs _ hv hok, e1]
          cases q' <;> simpa [Sem.run_bind] using e3
      · cases h
    · cases h
      have := hx.val_inv
      subst this
      obtain ⟨z, e3, e4⟩ := fin none none trivial
      refine ⟨z, ?_, e4⟩
      have hf : (Instr.findKey kt v []).run P w = .ok none w := by
        obtain ⟨q', e1, e2⟩ := find_ok (w := w) hk hs hv (l := []) (es := []) (r := none) ⟨rfl, fun i p en hp => by simp at hp⟩ rfl
        cases q' with
        | none => exact e1
        | some _ => exact e2.elim
      simp only [Instr.lookup, Sem.run_bind, run_underlying ht, Result.andThen_ok, Sem.run_pure, key_check hk hs _ hv hok]
      rw [hf]
      simpa [Sem.run_bind] using e3
    · cases h
  · cases h

theorem mapset_sound {t kt el : TypeId} {ks : List Bool} {x k y : AV} {u v z : Value} {O' : Heap} (ht : P.underlying t = some (.map kt el)) (hk : flatK P 100 kt = some ks) (hs : sizeB P kt = some ks.length)
    (hI : Inv W0 g O w) (hx : Reads g x u) (hv : Reads g k v) (hz : Reads g y z) (h : mapsetA O ks (isAggB P kt) x k y = some O') : ∃ w', (Instr.mapUpdate t u v z).run P w = .ok () w' ∧ Inv W0 g O' w' := by
  unfold mapsetA at h
  split at h
  · rename_i hok
    split at h
    · rename_i id
      split at h
      · rename_i l ho
        cases hx with
        | mapr _ b room hm =>
          obtain ⟨b', r', hm', _, _, es, cl, h3, h4, h5⟩ := hI.obj id _ ho
          rw [hm] at hm'
          cases hm'
          have hlt := (Array.getElem?_eq_some_iff.1 h3).1
          have hset : ∀ o : Obj, (setObj b o).run P w = .ok () (w.putObj b o) := fun o => by simp [setObj, Sem.run, h3, World.putObj]
          split at h
          · rename_i i v0 hf
            cases h
            obtain ⟨q', e1, e2⟩ := find_ok (w := w) hk hs hv (enOK_at h4 h5) hf
            match q', e2 with
            | some (i', v'), e2 =>
              obtain ⟨rfl, _⟩ := e2
              obtain ⟨j, p, rfl, hj, hq⟩ := findA_spec hf
              rw [Nat.zero_add] at *
              have hjl : j < l.length := (List.getElem?_eq_some_iff.1 hj).1
              have hje : j < es.size := by omega
              have hen : es[j]? = some es[j] := Array.getElem?_eq_getElem hje
              have hst := key_stays (P := P) (w := w) hv (h5 j p _ hj hen).1 hq
              refine ⟨w.putObj b (.map (es.modify j fun e => { e with key := v, val := z }) cl), ?_, ?_⟩
              · simp [Instr.mapUpdate, Sem.run_bind, run_underlying ht, getObj_run h3 rfl, key_check hk hs _ hv hok, e1, hen, hst, hset]
              · refine hI.change ho hm rfl rfl rfl (by simp) (fun k hk => World.putObj_heap_other hk) ⟨_, cl, World.putObj_heap_same hlt, by simp [h4], fun i p' en hp he => ?_⟩
                rw [Array.getElem?_modify] at he
                rw [List.getElem?_set] at hp
                by_cases hij : j = i
                · subst hij
                  rw [if_pos rfl] at he hp
                  rw [if_pos hjl] at hp
                  cases hp
                  rw [hen] at he
                  cases he
                  exact ⟨hv, hz⟩
                · rw [if_neg hij] at he hp
                  exact h5 i p' en hp he
          · rename_i hf
            cases h
            obtain ⟨q', e1, e2⟩ := find_ok (w := w) hk hs hv (enOK_at h4 h5) hf
            match q', e2 with
            | none, _ =>
              refine ⟨w.putObj b (.map (es.push { key := v, val := z, born := cl }) (cl + 1)), ?_, ?_⟩
              · simp [Instr.mapUpdate, Sem.run_bind, run_underlying ht, getObj_run h3 rfl, key_check hk hs _ hv hok, e1, hset]
              · refine hI.change ho hm rfl rfl rfl (by simp) (fun k hk => World.putObj_heap_other hk) ⟨_, cl + 1, World.putObj_heap_same hlt, by simp [h4], fun i p' en hp he => ?_⟩
                rw [Array.getElem?_push] at he
                by_cases hi : i = es.size
                · rw [if_pos hi] at he
                  cases he
                  rw [hi, h4, List.getElem?_append_right (Nat.le_refl _)] at hp
                  simp at hp
                  subst hp
                  exact ⟨hv, hz⟩
                · rw [if_neg hi] at he
                  have hlt' : i < es.size := (Array.getElem?_eq_some_iff.1 he).1
                  rw [List.getElem?_append_left (by omega)] at hp
                  exact h5 i p' en hp he
          · cases h
      · cases h
    · cases h
  · cases h

theorem mkmap_sound {t kt el : TypeId} {K : AV → Heap → Prop} (hI : Inv W0 g O w) (h : ∀ id, O id = none → K (.mapr id) (O.upd id (.mp []))) :
    ∃ z w', (Instr.makeMap t none).run P w = .ok z w' ∧ Out W0 g K z w' := by
  obtain ⟨id, f1, f2⟩ := hI.fresh
  have hnb := hI.newBlock
  have hle := Gh.name_le (g := g) (i := id) (b := w.heap.size) (r := 0) f1
  refine ⟨.map (some w.heap.size), w.alloc (.map #[] 0), by simp [Instr.makeMap, Sem.run_bind, run_newObj_alloc], _, .mapr id, _, hle, (hI.alloc (.map #[] 0)).new f1 (.mp []) hI.below.size hnb.1 hnb.2 ⟨#[], 0, World.alloc_heap_new w _, rfl, fun i p en hp => by simp at hp⟩, .mapr id w.heap.size 0 (if_pos rfl), h id f2⟩

theorem maxl_sound {mx : Bool} : ∀ (l : List AV) (us : List Value) (x r : AV) (u : Value), Reads g x u → us.length = l.length → (∀ (i : Nat) y v, l[i]? = some y → us[i]? = some v → Reads g y v) → maxl2 mx x l = some r →
    ∃ z, ((us.foldlM (if mx then Builtin.max2 else Builtin.min2) u : Sem Value)).run P w = .ok z w ∧ Reads g r z
  | [], us, x, r, u, hx, hl, _, h => by
    have : us = [] := List.eq_nil_of_length_eq_zero hl
    subst this
    cases h
    exact ⟨u, by simp, hx⟩
  | y :: l, [], x, r, u, hx, hl, _, h => by simp at hl
  | y :: l, v :: us, x, r, u, hx, hl, hr, h => by
    unfold maxl2 at h
    split at h
    · rename_i z hz
      have hy := hr 0 y v rfl rfl
      have step : ∃ zv, ((if mx then Builtin.max2 else Builtin.min2) u v : Sem Value).run P w = .ok zv w ∧ Reads g z zv := by
        obtain ⟨zv, e1, e2⟩ := maxmin_sound (P := P) (ts := #[]) (t := 0) hx hy hz w
        refine ⟨zv, ?_, e2⟩
        cases mx
        · simpa [Builtin.min_] using e1
        · simpa [Builtin.max_] using e1
      obtain ⟨zv, e1, e2⟩ := step
      obtain ⟨z', e3, e4⟩ := maxl_sound l us z r zv e2 (by simpa using hl) (fun i y v hy hv => hr (i + 1) y v (by simpa using hy) (by simpa using hv)) h
      exact ⟨z', by simp [List.foldlM_cons, Sem.run_bind, e1, e3], e4⟩
    · cases h
end
end Go.Ab

/- The abstract walk: strings. -/
namespace Go.Ab

theorem bytesOf_inv : ∀ {X : List AV} {bs : List UInt8}, bytesOf X = some bs → ∃ ns : List Int, X = ns.map (fun n => AV.val (.int .u8 n)) ∧ bs = ns.map (fun n => UInt8.ofNat n.toNat)
  | [], bs, h => by cases h; exact ⟨[], rfl, rfl⟩
  | x :: X, bs, h => by
    unfold bytesOf at h
    split at h
    · rename_i heq; cases heq
    · rename_i n l heq
      cases heq
      rw [Option.map_eq_some_iff] at h
      obtain ⟨bs', h1, rfl⟩ := h
      obtain ⟨ns, rfl, rfl⟩ := bytesOf_inv h1
      exact ⟨n :: ns, rfl, rfl⟩
    · cases h

theorem foldl_push : ∀ (ns : List Int) (s : ByteArray), ns.foldl (fun r n => r.push (UInt8.ofNat n.toNat)) s = ⟨⟨s.data.toList ++ ns.map (fun n => UInt8.ofNat n.toNat)⟩⟩
  | [], s => by simp
  | n :: ns, s => by
    rw [List.foldl_cons, foldl_push ns]
    simp [ByteArray.push]

section
variable {P : Program} {W0 : World} {g : Gh} {O : Heap} {w : World}

theorem str_sound {op : BinOp} {t : TypeId} {X Y : Operand} {x y r : AV} {u v : Value} (hx : Reads g x u) (hy : Reads g y v) (h : strA op x y = some r) (w : World) :
    ∃ z, (do eqGuard op t X Y u v; binOp op t u v : Sem Value).run P w = .ok z w ∧ Reads g r z := by
  unfold strA at h
  split at h
  · rename_i a b
    have hx := hx.val_inv
    have hy := hy.val_inv
    subst hx hy
    have hg : (eqGuard op t X Y (.string a) (.string b)).run P w = .ok () w := by cases op <;> simp [eqGuard]
    split at h
    · split at h
      · rename_i hl
        cases h
        have hsz : ¬ (((a.size + b.size : Nat) : Int) > IntKind.i64.max) := by
          have e1 : a.size = a.data.toList.length := rfl
          have e2 : b.size = b.data.toList.length := rfl
          have : IntKind.i64.max = 9223372036854775807 := by decide
          rw [this, e1, e2]; omega
        refine ⟨_, ?_, .val _⟩
        simp only [Sem.run_bind, hg, Result.andThen_ok, binOp, Op.stringOp, hsz, if_false, Sem.run_pure]
        have : a ++ b = ⟨⟨a.data.toList ++ b.data.toList⟩⟩ := ByteArray.ext (by simp [ByteArray.data_append])
        rw [this]
      · cases h
    · cases h
      refine ⟨_, ?_, .val _⟩
      simp only [Sem.run_bind, hg, Result.andThen_ok, binOp, Op.stringOp, Sem.run_pure, ByteArray.toList_eq]
    · cases h
      refine ⟨_, ?_, .val _⟩
      simp only [Sem.run_bind, hg, Result.andThen_ok, binOp, Op.stringOp, Sem.run_pure, ByteArray.toList_eq]
    · cases h
      refine ⟨_, ?_, .val _⟩
      simp only [Sem.run_bind, hg, Result.andThen_ok, binOp, Op.stringOp, Sem.run_pure, ByteArray.toList_eq]
    · cases h
  · cases h

theorem slen_sound {t u : TypeId} {x r : AV} {v : Value} (ht : P.underlying t = some .string) (hx : Reads g x v) (h : slenA x = some r) (w : World) :
    ∃ z, (Builtin.len_ #[t] u #[v]).run P w = .ok z w ∧ Reads g r z := by
  unfold slenA at h
  split at h
  · cases h
    have := hx.val_inv
    subst this
    refine ⟨_, ?_, .val _⟩
    simp [Builtin.len_, run_underlying ht, goInt]
  · cases h

theorem bstr_sound {src dst e : TypeId} {x r : AV} {v : Value} (hI : Inv W0 g O w) (hs : P.underlying src = some (.slice e)) (hd : P.underlying dst = some .string) (he : P.underlying e = some (.int .u8)) (hx : Reads g x v) (h : bstrA O x = some r) :
    ∃ z, (convert src dst v).run P w = .ok z w ∧ Reads g r z := by
  unfold bstrA at h
  rw [Option.bind_eq_some_iff] at h
  obtain ⟨X, hX, h⟩ := h
  rw [Option.map_eq_some_iff] at h
  obtain ⟨bs, hb, rfl⟩ := h
  obtain ⟨ns, rfl, rfl⟩ := bytesOf_inv hb
  obtain ⟨news, hr, hv⟩ := elems_sound (by omega) hI hx hX
  have hn : news = ns.map (Value.int .u8) := by
    refine List.ext_getElem (by rw [hr.size]; simp) fun i h1 h2 => ?_
    have hi : i < ns.length := by simpa using h2
    obtain ⟨u, p, _, q⟩ := hr.at_ i (.val (.int .u8 ns[i])) 0 (.val (.int .u8 ns[i])) (by rw [List.getElem?_map, List.getElem?_eq_getElem hi]; rfl) rfl
    rw [Nat.mul_one, Nat.add_zero, List.getElem?_eq_getElem h1] at p
    cases p
    rw [q.val_inv]
    simp
  rcases hv with ⟨a, c, rfl, hc⟩ | ⟨rfl, hnil⟩
  · have hl := run_loadCells_list (P := P) w a news hc
    rw [hn] at hl
    simp only [List.length_map] at hl ⊢
    refine ⟨_, ?_, .val _⟩
    rw [run_convert_bytes_string w src dst e _ _ _ hs he hd, run_bytesToString w a ns.length c ns hl, foldl_push]
    rfl
  · have : ns = [] := by simpa using hnil
    subst this
    refine ⟨_, ?_, .val _⟩
    rw [run_convert_bytes_string w src dst e _ _ _ hs he hd]
    simp [Conv.bytesToString, Sem.run_pure]
    rfl
end

section
variable {P : Program} {b : Frame} {a : Act} {k : List Item} {cs : List Frame} {w : World} {F : Fence} {n : Nat} {Q : Exit → Act → World → Prop}
theorem stepR_scope {c : Code} : step P (lone (b.atR a (.code (.scope c) :: k)) cs w) = .next (lone (b.atR a (.code c :: .inScope c :: k)) cs w) :=
  step_lone_go (by simp [stepG, stepG.exec, Frame.atR])
theorem stepR_inScope {c : Code} : step P (lone (b.atR a (.inScope c :: k)) cs w) = .next (lone (b.atR a k) cs w) :=
  step_lone_go (by simp [stepG, stepG.exec, Frame.atR])
/-- A scope into which nothing jumps. -/
theorem wpIn_scope {c : Code} (h : c.wpIn F n P (Exit.noGoto Q) a w) : (Code.scope c).wpIn F n P Q a w := by
  intro b k cs hro hb hr
  have h0 : (lone (b.atR a (.code (.scope c) :: k)) cs w).fenced P F := fenced_calm hb hr rfl
  obtain ⟨e, a₁, w₁, hq, harr⟩ := h b (.inScope c :: k) cs hro hb hr
  cases e with
  | normal => exact ⟨.normal, a₁, w₁, hq, .head h0 stepR_scope (StepsIn.trans harr (.one (fenced_calm hb hr rfl) stepR_inScope))⟩
  | exit id =>
    have hx : exitTo id (.inScope c :: k) = exitTo id k := by simp [exitTo]
    exact ⟨.exit id, a₁, w₁, hq, fun k' hk => .head h0 stepR_scope (harr.1 k' (by rw [hx]; exact hk)),
      fun hr' hk => let ⟨k₁, h1, h2⟩ := harr.2 hr' (by rw [hx]; exact hk); ⟨k₁, h1, .head h0 stepR_scope h2⟩⟩
  | goto l => exact hq.elim
  | ret => exact ⟨_, a₁, w₁, hq, .of_steps (.one h0 stepR_scope) harr⟩
  | panic ch => exact ⟨_, a₁, w₁, hq, .of_steps (.one h0 stepR_scope) harr⟩
  | outgrown => exact ⟨_, a₁, w₁, hq, .of_steps (.one h0 stepR_scope) harr⟩
end
end Go.Ab
