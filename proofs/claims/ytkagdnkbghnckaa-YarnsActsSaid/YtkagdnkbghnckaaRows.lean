/-
  No cell of these rows narrows 'for every input' (looked for: loops, veiled, ifaces, maps, wideKeys, modest, calm, conditions, laid).
  DERIVED. THE GIVEN ROWS OF THIS SEAT. 6 by the template 'for every input the law returns true; each argument reads behind the call as it read before'; 0 by the template 'total and deterministic' (their statements: YtkagdnkbghnckaaTotals.lean).
  GIVEN WITH THE SEED: the statements are not yours to turn. If you find one false, say at which input.
  Laid BY PROGRAM, IN A SANDBOX (cutbox-rows.mjs): the forced cells as the released guide's own fill.sh prints them over the translation b9ffb1fe0b5ee1f4… (all of the seat's roots in one cut). By AI agents, Wed Nov 11 2026. No macro, syntax, notation, axiom, sorry.
-/
import Derived.Test.YtkagdnkbghnckaaChecked
import GoSem.Claim
import GoSem.ClaimJoined
import GoSem.ClaimMapViews
import Derived.JoinedTies
import Derived.KernelRfl
namespace Go.Proofs.Ytkagdnkbghnckaa
/- THE CELL 'sum', in the pinned program and in every row, IS THE sha256 OF THE DUMP (.gsa) THAT YtkagdnkbghnckaaProg.lean LOADS. Nothing in Lean hashes anything: it is a label: what it is worth is what the hold of that sum in a sandbox is worth. -/
noncomputable def Try.pinned : Pinned := { name := "ytkagdnkbghnckaa", sum := "b9ffb1fe0b5ee1f40230873825a497344a220039a519c8ff72a60dd276d6a950", checked := Try.checked }
namespace Rows
def none {H : Type} : Left H := { results := [], args := [] }

/-- 'ganseylaw02.YarnsReduce': WHATEVER THE INPUT: true; the input reads as it did. -/
def yarnsReduceSpec : ChangeSpec := { name := "yarnsReduce", fn := fun _ => fun
  | [d1, d2] => { results := [.lit (.bool true)], args := [d1, d2] }
  | _ => none }
def yarnsReduceRow : OpenClaim := { program := "ytkagdnkbghnckaa", sum := "b9ffb1fe0b5ee1f40230873825a497344a220039a519c8ff72a60dd276d6a950", func := "gansey/ganseylaw02.YarnsReduce", spec := "yarnsReduce", unfollowed := true, recurses := true, apart := false }
def YarnsReduceSaid : Prop := yarnsReduceRow.holds Try.pinned (OpenSpec.ofChange yarnsReduceSpec)

/-- ITS FALSE NEIGHBOUR: 'it returns false'. Refute it at one input. -/
def yarnsReduceWrong : ChangeSpec := { name := "yarnsReduce", fn := fun _ => fun
  | [d1, d2] => { results := [.lit (.bool false)], args := [d1, d2] }
  | _ => none }
def YarnsReduceWrongFalsely : Prop := yarnsReduceRow.holds Try.pinned (OpenSpec.ofChange yarnsReduceWrong)

/-- 'ganseylaw02.YarnsInverse': WHATEVER THE INPUT: true; the input reads as it did. -/
def yarnsInverseSpec : ChangeSpec := { name := "yarnsInverse", fn := fun _ => fun
  | [d1, d2, d3] => { results := [.lit (.bool true)], args := [d1, d2, d3] }
  | _ => none }
def yarnsInverseRow : OpenClaim := { program := "ytkagdnkbghnckaa", sum := "b9ffb1fe0b5ee1f40230873825a497344a220039a519c8ff72a60dd276d6a950", func := "gansey/ganseylaw02.YarnsInverse", spec := "yarnsInverse", unfollowed := true, recurses := true, apart := false }
def YarnsInverseSaid : Prop := yarnsInverseRow.holds Try.pinned (OpenSpec.ofChange yarnsInverseSpec)

/-- ITS FALSE NEIGHBOUR: 'it returns false'. Refute it at one input. -/
def yarnsInverseWrong : ChangeSpec := { name := "yarnsInverse", fn := fun _ => fun
  | [d1, d2, d3] => { results := [.lit (.bool false)], args := [d1, d2, d3] }
  | _ => none }
def YarnsInverseWrongFalsely : Prop := yarnsInverseRow.holds Try.pinned (OpenSpec.ofChange yarnsInverseWrong)

/-- 'ganseylaw02.YarnsBack': WHATEVER THE INPUT: true; the input reads as it did. -/
def yarnsBackSpec : ChangeSpec := { name := "yarnsBack", fn := fun _ => fun
  | [d1, d2, d3] => { results := [.lit (.bool true)], args := [d1, d2, d3] }
  | _ => none }
def yarnsBackRow : OpenClaim := { program := "ytkagdnkbghnckaa", sum := "b9ffb1fe0b5ee1f40230873825a497344a220039a519c8ff72a60dd276d6a950", func := "gansey/ganseylaw02.YarnsBack", spec := "yarnsBack", unfollowed := true, recurses := true, apart := false }
def YarnsBackSaid : Prop := yarnsBackRow.holds Try.pinned (OpenSpec.ofChange yarnsBackSpec)

/-- ITS FALSE NEIGHBOUR: 'it returns false'. Refute it at one input. -/
def yarnsBackWrong : ChangeSpec := { name := "yarnsBack", fn := fun _ => fun
  | [d1, d2, d3] => { results := [.lit (.bool false)], args := [d1, d2, d3] }
  | _ => none }
def YarnsBackWrongFalsely : Prop := yarnsBackRow.holds Try.pinned (OpenSpec.ofChange yarnsBackWrong)

/-- 'ganseylaw02.YarnsLimits': WHATEVER THE INPUT: true; the input reads as it did. -/
def yarnsLimitsSpec : ChangeSpec := { name := "yarnsLimits", fn := fun _ => fun
  | [d1, d2] => { results := [.lit (.bool true)], args := [d1, d2] }
  | _ => none }
def yarnsLimitsRow : OpenClaim := { program := "ytkagdnkbghnckaa", sum := "b9ffb1fe0b5ee1f40230873825a497344a220039a519c8ff72a60dd276d6a950", func := "gansey/ganseylaw02.YarnsLimits", spec := "yarnsLimits", unfollowed := true, recurses := true, apart := false }
def YarnsLimitsSaid : Prop := yarnsLimitsRow.holds Try.pinned (OpenSpec.ofChange yarnsLimitsSpec)

/-- ITS FALSE NEIGHBOUR: 'it returns false'. Refute it at one input. -/
def yarnsLimitsWrong : ChangeSpec := { name := "yarnsLimits", fn := fun _ => fun
  | [d1, d2] => { results := [.lit (.bool false)], args := [d1, d2] }
  | _ => none }
def YarnsLimitsWrongFalsely : Prop := yarnsLimitsRow.holds Try.pinned (OpenSpec.ofChange yarnsLimitsWrong)

/-- 'ganseylaw02.YarnsActs': WHATEVER THE INPUT: true; the input reads as it did. -/
def yarnsActsSpec : ChangeSpec := { name := "yarnsActs", fn := fun _ => fun
  | [d] => { results := [.lit (.bool true)], args := [d] }
  | _ => none }
def yarnsActsRow : OpenClaim := { program := "ytkagdnkbghnckaa", sum := "b9ffb1fe0b5ee1f40230873825a497344a220039a519c8ff72a60dd276d6a950", func := "gansey/ganseylaw02.YarnsActs", spec := "yarnsActs", unfollowed := true, recurses := true, apart := false }
def YarnsActsSaid : Prop := yarnsActsRow.holds Try.pinned (OpenSpec.ofChange yarnsActsSpec)

/-- ITS FALSE NEIGHBOUR: 'it returns false'. Refute it at one input. -/
def yarnsActsWrong : ChangeSpec := { name := "yarnsActs", fn := fun _ => fun
  | [d] => { results := [.lit (.bool false)], args := [d] }
  | _ => none }
def YarnsActsWrongFalsely : Prop := yarnsActsRow.holds Try.pinned (OpenSpec.ofChange yarnsActsWrong)

/-- 'ganseylaw02.YarnsCheck': WHATEVER THE INPUT: true; the input reads as it did. -/
def yarnsCheckSpec : ChangeSpec := { name := "yarnsCheck", fn := fun _ => fun
  | [d1, d2] => { results := [.lit (.bool true)], args := [d1, d2] }
  | _ => none }
def yarnsCheckRow : OpenClaim := { program := "ytkagdnkbghnckaa", sum := "b9ffb1fe0b5ee1f40230873825a497344a220039a519c8ff72a60dd276d6a950", func := "gansey/ganseylaw02.YarnsCheck", spec := "yarnsCheck", unfollowed := true, recurses := true, apart := false }
def YarnsCheckSaid : Prop := yarnsCheckRow.holds Try.pinned (OpenSpec.ofChange yarnsCheckSpec)

/-- ITS FALSE NEIGHBOUR: 'it returns false'. Refute it at one input. -/
def yarnsCheckWrong : ChangeSpec := { name := "yarnsCheck", fn := fun _ => fun
  | [d1, d2] => { results := [.lit (.bool false)], args := [d1, d2] }
  | _ => none }
def YarnsCheckWrongFalsely : Prop := yarnsCheckRow.holds Try.pinned (OpenSpec.ofChange yarnsCheckWrong)

/- THE SECOND FORM. 'bulk': how many values and letters a reading holds, each counted each time it is reached (what is shared counts as often as it is met; a slice's spare places count too). A statement '..UptoSaid' is the law's where the arguments, and the package variables that the reading takes, are together of bulk at most 1048576: NARROWER than '..Said'. Prove '..Said' where nothing that the law and all that it calls make is longer than what came in: it says more and counts as full. Else prove '..UptoSaid'. A law counts once. -/
mutual
def uptoBulk {H : Type} : DataW H → Nat
  | .lit (.string bytes) => bytes.length + 1
  | .lit _ => 1
  | .nil => 1
  | .ptr d => uptoBulk d + 1
  | .slice elems spare => uptoBulkAll elems + uptoBulkAll spare + 1
  | .agg parts => uptoBulkAll parts + 1
  | .iface _ d => uptoBulk d + 1
  | .map entries => uptoBulkEntries entries + 1
  | .held _ => 1
def uptoBulkAll {H : Type} : List (DataW H) → Nat
  | [] => 0
  | d :: r => uptoBulk d + uptoBulkAll r
def uptoBulkEntries {H : Type} : List (Lit × DataW H) → Nat
  | [] => 0
  | x :: r => uptoBulkEntry x + uptoBulkEntries r
def uptoBulkEntry {H : Type} : Lit × DataW H → Nat
  | (.string bytes, d) => bytes.length + uptoBulk d + 1
  | (_, d) => uptoBulk d + 1
 end
def uptoSmall : (H : Type) → List (DataW H) → Bool := fun _ ds => decide (uptoBulkAll ds ≤ 1048576)
def OpenSpec.upto (s : _root_.Go.ChangeSpec) : _root_.Go.OpenSpec := { _root_.Go.OpenSpec.ofChange s with cond := some uptoSmall }

/-- 'ganseylaw02.YarnsReduce', WHERE WHAT IT READS IS OF BULK AT MOST 1048576: true; the input reads as it did. -/
def yarnsReduceUptoRow : OpenClaim := { program := "ytkagdnkbghnckaa", sum := "b9ffb1fe0b5ee1f40230873825a497344a220039a519c8ff72a60dd276d6a950", func := "gansey/ganseylaw02.YarnsReduce", spec := "yarnsReduce", unfollowed := true, recurses := true, apart := false, narrowed := true }
def YarnsReduceUptoSaid : Prop := yarnsReduceUptoRow.holds Try.pinned (OpenSpec.upto yarnsReduceSpec)

/-- 'ganseylaw02.YarnsInverse', WHERE WHAT IT READS IS OF BULK AT MOST 1048576: true; the input reads as it did. -/
def yarnsInverseUptoRow : OpenClaim := { program := "ytkagdnkbghnckaa", sum := "b9ffb1fe0b5ee1f40230873825a497344a220039a519c8ff72a60dd276d6a950", func := "gansey/ganseylaw02.YarnsInverse", spec := "yarnsInverse", unfollowed := true, recurses := true, apart := false, narrowed := true }
def YarnsInverseUptoSaid : Prop := yarnsInverseUptoRow.holds Try.pinned (OpenSpec.upto yarnsInverseSpec)

/-- 'ganseylaw02.YarnsBack', WHERE WHAT IT READS IS OF BULK AT MOST 1048576: true; the input reads as it did. -/
def yarnsBackUptoRow : OpenClaim := { program := "ytkagdnkbghnckaa", sum := "b9ffb1fe0b5ee1f40230873825a497344a220039a519c8ff72a60dd276d6a950", func := "gansey/ganseylaw02.YarnsBack", spec := "yarnsBack", unfollowed := true, recurses := true, apart := false, narrowed := true }
def YarnsBackUptoSaid : Prop := yarnsBackUptoRow.holds Try.pinned (OpenSpec.upto yarnsBackSpec)

/-- 'ganseylaw02.YarnsLimits', WHERE WHAT IT READS IS OF BULK AT MOST 1048576: true; the input reads as it did. -/
def yarnsLimitsUptoRow : OpenClaim := { program := "ytkagdnkbghnckaa", sum := "b9ffb1fe0b5ee1f40230873825a497344a220039a519c8ff72a60dd276d6a950", func := "gansey/ganseylaw02.YarnsLimits", spec := "yarnsLimits", unfollowed := true, recurses := true, apart := false, narrowed := true }
def YarnsLimitsUptoSaid : Prop := yarnsLimitsUptoRow.holds Try.pinned (OpenSpec.upto yarnsLimitsSpec)

/-- 'ganseylaw02.YarnsActs', WHERE WHAT IT READS IS OF BULK AT MOST 1048576: true; the input reads as it did. -/
def yarnsActsUptoRow : OpenClaim := { program := "ytkagdnkbghnckaa", sum := "b9ffb1fe0b5ee1f40230873825a497344a220039a519c8ff72a60dd276d6a950", func := "gansey/ganseylaw02.YarnsActs", spec := "yarnsActs", unfollowed := true, recurses := true, apart := false, narrowed := true }
def YarnsActsUptoSaid : Prop := yarnsActsUptoRow.holds Try.pinned (OpenSpec.upto yarnsActsSpec)

/-- 'ganseylaw02.YarnsCheck', WHERE WHAT IT READS IS OF BULK AT MOST 1048576: true; the input reads as it did. -/
def yarnsCheckUptoRow : OpenClaim := { program := "ytkagdnkbghnckaa", sum := "b9ffb1fe0b5ee1f40230873825a497344a220039a519c8ff72a60dd276d6a950", func := "gansey/ganseylaw02.YarnsCheck", spec := "yarnsCheck", unfollowed := true, recurses := true, apart := false, narrowed := true }
def YarnsCheckUptoSaid : Prop := yarnsCheckUptoRow.holds Try.pinned (OpenSpec.upto yarnsCheckSpec)

end Rows
end Go.Proofs.Ytkagdnkbghnckaa
