/-
  No cell of these rows narrows 'for every input' (looked for: loops, veiled, ifaces, maps, wideKeys, modest, calm, conditions, laid).
  DERIVED. THE GIVEN ROWS OF THIS SEAT. 4 by the template 'for every input the law returns true; each argument reads behind the call as it read before'; 0 by the template 'total and deterministic' (their statements: YtembkknplmcamaaTotals.lean).
  GIVEN WITH THE SEED: the statements are not yours to turn. If you find one false, say at which input.
  Laid BY PROGRAM, IN A SANDBOX (cutbox-rows.mjs): the forced cells as the released guide's own fill.sh prints them over the translation c3068943a1708cc3… (all of the seat's roots in one cut). By AI agents, Wed Nov 11 2026. No macro, syntax, notation, axiom, sorry.
-/
import Derived.Test.YtembkknplmcamaaChecked
import GoSem.Claim
import GoSem.ClaimJoined
import GoSem.ClaimMapViews
import Derived.JoinedTies
import Derived.KernelRfl
namespace Go.Proofs.Ytembkknplmcamaa
/- THE CELL 'sum', in the pinned program and in every row, IS THE sha256 OF THE DUMP (.gsa) THAT YtembkknplmcamaaProg.lean LOADS. Nothing in Lean hashes anything: it is a label: what it is worth is what the hold of that sum in a sandbox is worth. -/
noncomputable def Try.pinned : Pinned := { name := "ytembkknplmcamaa", sum := "c3068943a1708cc397c4823fe3bb85885d81f5371e00c6e0f27054cd85d9c4eb", checked := Try.checked }
namespace Rows
def none {H : Type} : Left H := { results := [], args := [] }

/-- 'ganseylaw04.OrdersList': WHATEVER THE INPUT: true; the input reads as it did. -/
def ordersListSpec : ChangeSpec := { name := "ordersList", fn := fun _ => fun
  | [d1, d2] => { results := [.lit (.bool true)], args := [d1, d2] }
  | _ => none }
def ordersListRow : OpenClaim := { program := "ytembkknplmcamaa", sum := "c3068943a1708cc397c4823fe3bb85885d81f5371e00c6e0f27054cd85d9c4eb", func := "gansey/ganseylaw04.OrdersList", spec := "ordersList", unfollowed := true, recurses := true, plainKeys := false, apart := false }
def OrdersListSaid : Prop := ordersListRow.holds Try.pinned (OpenSpec.ofChange ordersListSpec)

/-- ITS FALSE NEIGHBOUR: 'it returns false'. Refute it at one input. -/
def ordersListWrong : ChangeSpec := { name := "ordersList", fn := fun _ => fun
  | [d1, d2] => { results := [.lit (.bool false)], args := [d1, d2] }
  | _ => none }
def OrdersListWrongFalsely : Prop := ordersListRow.holds Try.pinned (OpenSpec.ofChange ordersListWrong)

/-- 'ganseylaw04.OrdersStep': WHATEVER THE INPUT: true; the input reads as it did. -/
def ordersStepSpec : ChangeSpec := { name := "ordersStep", fn := fun _ => fun
  | [d1, d2, d3] => { results := [.lit (.bool true)], args := [d1, d2, d3] }
  | _ => none }
def ordersStepRow : OpenClaim := { program := "ytembkknplmcamaa", sum := "c3068943a1708cc397c4823fe3bb85885d81f5371e00c6e0f27054cd85d9c4eb", func := "gansey/ganseylaw04.OrdersStep", spec := "ordersStep", unfollowed := true, recurses := true, plainKeys := false, apart := false }
def OrdersStepSaid : Prop := ordersStepRow.holds Try.pinned (OpenSpec.ofChange ordersStepSpec)

/-- ITS FALSE NEIGHBOUR: 'it returns false'. Refute it at one input. -/
def ordersStepWrong : ChangeSpec := { name := "ordersStep", fn := fun _ => fun
  | [d1, d2, d3] => { results := [.lit (.bool false)], args := [d1, d2, d3] }
  | _ => none }
def OrdersStepWrongFalsely : Prop := ordersStepRow.holds Try.pinned (OpenSpec.ofChange ordersStepWrong)

/-- 'ganseylaw04.OrdersMeets': WHATEVER THE INPUT: true; the input reads as it did. -/
def ordersMeetsSpec : ChangeSpec := { name := "ordersMeets", fn := fun _ => fun
  | [d1, d2, d3] => { results := [.lit (.bool true)], args := [d1, d2, d3] }
  | _ => none }
def ordersMeetsRow : OpenClaim := { program := "ytembkknplmcamaa", sum := "c3068943a1708cc397c4823fe3bb85885d81f5371e00c6e0f27054cd85d9c4eb", func := "gansey/ganseylaw04.OrdersMeets", spec := "ordersMeets", unfollowed := true, recurses := true, plainKeys := false, apart := false }
def OrdersMeetsSaid : Prop := ordersMeetsRow.holds Try.pinned (OpenSpec.ofChange ordersMeetsSpec)

/-- ITS FALSE NEIGHBOUR: 'it returns false'. Refute it at one input. -/
def ordersMeetsWrong : ChangeSpec := { name := "ordersMeets", fn := fun _ => fun
  | [d1, d2, d3] => { results := [.lit (.bool false)], args := [d1, d2, d3] }
  | _ => none }
def OrdersMeetsWrongFalsely : Prop := ordersMeetsRow.holds Try.pinned (OpenSpec.ofChange ordersMeetsWrong)

/-- 'ganseylaw04.OrdersBetween': WHATEVER THE INPUT: true; the input reads as it did. -/
def ordersBetweenSpec : ChangeSpec := { name := "ordersBetween", fn := fun _ => fun
  | [d1, d2, d3] => { results := [.lit (.bool true)], args := [d1, d2, d3] }
  | _ => none }
def ordersBetweenRow : OpenClaim := { program := "ytembkknplmcamaa", sum := "c3068943a1708cc397c4823fe3bb85885d81f5371e00c6e0f27054cd85d9c4eb", func := "gansey/ganseylaw04.OrdersBetween", spec := "ordersBetween", unfollowed := true, recurses := true, plainKeys := false, apart := false }
def OrdersBetweenSaid : Prop := ordersBetweenRow.holds Try.pinned (OpenSpec.ofChange ordersBetweenSpec)

/-- ITS FALSE NEIGHBOUR: 'it returns false'. Refute it at one input. -/
def ordersBetweenWrong : ChangeSpec := { name := "ordersBetween", fn := fun _ => fun
  | [d1, d2, d3] => { results := [.lit (.bool false)], args := [d1, d2, d3] }
  | _ => none }
def OrdersBetweenWrongFalsely : Prop := ordersBetweenRow.holds Try.pinned (OpenSpec.ofChange ordersBetweenWrong)

/- THE SECOND FORM. 'bulk': how many values and letters a reading holds, each counted each time it is reached (what is shared counts as often as it is met; a slice's spare places count too). A statement '..UptoSaid' is the law's where the arguments, and the package variables that the reading takes, are together of bulk at most 1048576: NARROWER than '..Said'. Prove '..Said' where nothing that the law and all that it calls make is longer than what came in: it says more and counts as full. Else prove '..UptoSaid'. A law counts once. -/
mutual
def uptoBulk {H : Type} : DataW H → Nat
  | .lit (.string bytes) => bytes.length + 1
  | .lit _ => 1
  | .nil => 1
  | .ptr d => uptoBulk d + 1
  | .slice elems spare => uptoBulkAll elems + uptoBulkAll spare + 1
  | .agg parts => uptoBulkAll parts + 1
  | .iface _ d => uptoBulk d + 1
  | .map entries => uptoBulkEntries entries + 1
  | .held _ => 1
def uptoBulkAll {H : Type} : List (DataW H) → Nat
  | [] => 0
  | d :: r => uptoBulk d + uptoBulkAll r
def uptoBulkEntries {H : Type} : List (Lit × DataW H) → Nat
  | [] => 0
  | x :: r => uptoBulkEntry x + uptoBulkEntries r
def uptoBulkEntry {H : Type} : Lit × DataW H → Nat
  | (.string bytes, d) => bytes.length + uptoBulk d + 1
  | (_, d) => uptoBulk d + 1
 end
def uptoSmall : (H : Type) → List (DataW H) → Bool := fun _ ds => decide (uptoBulkAll ds ≤ 1048576)
def OpenSpec.upto (s : _root_.Go.ChangeSpec) : _root_.Go.OpenSpec := { _root_.Go.OpenSpec.ofChange s with cond := some uptoSmall }

/-- 'ganseylaw04.OrdersList', WHERE WHAT IT READS IS OF BULK AT MOST 1048576: true; the input reads as it did. -/
def ordersListUptoRow : OpenClaim := { program := "ytembkknplmcamaa", sum := "c3068943a1708cc397c4823fe3bb85885d81f5371e00c6e0f27054cd85d9c4eb", func := "gansey/ganseylaw04.OrdersList", spec := "ordersList", unfollowed := true, recurses := true, plainKeys := false, apart := false, narrowed := true }
def OrdersListUptoSaid : Prop := ordersListUptoRow.holds Try.pinned (OpenSpec.upto ordersListSpec)

/-- 'ganseylaw04.OrdersStep', WHERE WHAT IT READS IS OF BULK AT MOST 1048576: true; the input reads as it did. -/
def ordersStepUptoRow : OpenClaim := { program := "ytembkknplmcamaa", sum := "c3068943a1708cc397c4823fe3bb85885d81f5371e00c6e0f27054cd85d9c4eb", func := "gansey/ganseylaw04.OrdersStep", spec := "ordersStep", unfollowed := true, recurses := true, plainKeys := false, apart := false, narrowed := true }
def OrdersStepUptoSaid : Prop := ordersStepUptoRow.holds Try.pinned (OpenSpec.upto ordersStepSpec)

/-- 'ganseylaw04.OrdersMeets', WHERE WHAT IT READS IS OF BULK AT MOST 1048576: true; the input reads as it did. -/
def ordersMeetsUptoRow : OpenClaim := { program := "ytembkknplmcamaa", sum := "c3068943a1708cc397c4823fe3bb85885d81f5371e00c6e0f27054cd85d9c4eb", func := "gansey/ganseylaw04.OrdersMeets", spec := "ordersMeets", unfollowed := true, recurses := true, plainKeys := false, apart := false, narrowed := true }
def OrdersMeetsUptoSaid : Prop := ordersMeetsUptoRow.holds Try.pinned (OpenSpec.upto ordersMeetsSpec)

/-- 'ganseylaw04.OrdersBetween', WHERE WHAT IT READS IS OF BULK AT MOST 1048576: true; the input reads as it did. -/
def ordersBetweenUptoRow : OpenClaim := { program := "ytembkknplmcamaa", sum := "c3068943a1708cc397c4823fe3bb85885d81f5371e00c6e0f27054cd85d9c4eb", func := "gansey/ganseylaw04.OrdersBetween", spec := "ordersBetween", unfollowed := true, recurses := true, plainKeys := false, apart := false, narrowed := true }
def OrdersBetweenUptoSaid : Prop := ordersBetweenUptoRow.holds Try.pinned (OpenSpec.upto ordersBetweenSpec)

end Rows
end Go.Proofs.Ytembkknplmcamaa
