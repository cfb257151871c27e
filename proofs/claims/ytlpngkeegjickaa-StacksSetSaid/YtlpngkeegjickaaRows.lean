/-
  No cell of these rows narrows 'for every input' (looked for: loops, veiled, ifaces, maps, wideKeys, modest, calm, conditions, laid).
  DERIVED. THE GIVEN ROWS OF THIS SEAT. 6 by the template 'for every input the law returns true; each argument reads behind the call as it read before'; 0 by the template 'total and deterministic' (their statements: YtlpngkeegjickaaTotals.lean).
  GIVEN WITH THE SEED: the statements are not yours to turn. If you find one false, say at which input.
  Laid BY PROGRAM, IN A SANDBOX (cutbox-rows.mjs): the forced cells as the released guide's own fill.sh prints them over the translation a16b778c824300da… (all of the seat's roots in one cut). By AI agents, Wed Nov 11 2026. No macro, syntax, notation, axiom, sorry.
-/
import Derived.Test.YtlpngkeegjickaaChecked
import GoSem.Claim
import GoSem.ClaimJoined
import GoSem.ClaimMapViews
import Derived.JoinedTies
import Derived.KernelRfl
namespace Go.Proofs.Ytlpngkeegjickaa
/- THE CELL 'sum', in the pinned program and in every row, IS THE sha256 OF THE DUMP (.gsa) THAT YtlpngkeegjickaaProg.lean LOADS. Nothing in Lean hashes anything: it is a label: what it is worth is what the hold of that sum in a sandbox is worth. -/
noncomputable def Try.pinned : Pinned := { name := "ytlpngkeegjickaa", sum := "a16b778c824300da221318fc320e4b4122b744ae9dd4328da5b0ff1669a6fca7", checked := Try.checked }
namespace Rows
def none {H : Type} : Left H := { results := [], args := [] }

/-- 'ganseylaw03.StacksAt': WHATEVER THE INPUT: true; the input reads as it did. -/
def stacksAtSpec : ChangeSpec := { name := "stacksAt", fn := fun _ => fun
  | [d1, d2, d3] => { results := [.lit (.bool true)], args := [d1, d2, d3] }
  | _ => none }
def stacksAtRow : OpenClaim := { program := "ytlpngkeegjickaa", sum := "a16b778c824300da221318fc320e4b4122b744ae9dd4328da5b0ff1669a6fca7", func := "gansey/ganseylaw03.StacksAt", spec := "stacksAt", unfollowed := true, recurses := true, plainKeys := false, apart := false }
def StacksAtSaid : Prop := stacksAtRow.holds Try.pinned (OpenSpec.ofChange stacksAtSpec)

/-- ITS FALSE NEIGHBOUR: 'it returns false'. Refute it at one input. -/
def stacksAtWrong : ChangeSpec := { name := "stacksAt", fn := fun _ => fun
  | [d1, d2, d3] => { results := [.lit (.bool false)], args := [d1, d2, d3] }
  | _ => none }
def StacksAtWrongFalsely : Prop := stacksAtRow.holds Try.pinned (OpenSpec.ofChange stacksAtWrong)

/-- 'ganseylaw03.StacksSet': WHATEVER THE INPUT: true; the input reads as it did. -/
def stacksSetSpec : ChangeSpec := { name := "stacksSet", fn := fun _ => fun
  | [d1, d2, d3] => { results := [.lit (.bool true)], args := [d1, d2, d3] }
  | _ => none }
def stacksSetRow : OpenClaim := { program := "ytlpngkeegjickaa", sum := "a16b778c824300da221318fc320e4b4122b744ae9dd4328da5b0ff1669a6fca7", func := "gansey/ganseylaw03.StacksSet", spec := "stacksSet", unfollowed := true, recurses := true, plainKeys := false, apart := false }
def StacksSetSaid : Prop := stacksSetRow.holds Try.pinned (OpenSpec.ofChange stacksSetSpec)

/-- ITS FALSE NEIGHBOUR: 'it returns false'. Refute it at one input. -/
def stacksSetWrong : ChangeSpec := { name := "stacksSet", fn := fun _ => fun
  | [d1, d2, d3] => { results := [.lit (.bool false)], args := [d1, d2, d3] }
  | _ => none }
def StacksSetWrongFalsely : Prop := stacksSetRow.holds Try.pinned (OpenSpec.ofChange stacksSetWrong)

/-- 'ganseylaw03.StacksJoin': WHATEVER THE INPUT: true; the input reads as it did. -/
def stacksJoinSpec : ChangeSpec := { name := "stacksJoin", fn := fun _ => fun
  | [d1, d2, d3] => { results := [.lit (.bool true)], args := [d1, d2, d3] }
  | _ => none }
def stacksJoinRow : OpenClaim := { program := "ytlpngkeegjickaa", sum := "a16b778c824300da221318fc320e4b4122b744ae9dd4328da5b0ff1669a6fca7", func := "gansey/ganseylaw03.StacksJoin", spec := "stacksJoin", unfollowed := true, recurses := true, plainKeys := false, apart := false }
def StacksJoinSaid : Prop := stacksJoinRow.holds Try.pinned (OpenSpec.ofChange stacksJoinSpec)

/-- ITS FALSE NEIGHBOUR: 'it returns false'. Refute it at one input. -/
def stacksJoinWrong : ChangeSpec := { name := "stacksJoin", fn := fun _ => fun
  | [d1, d2, d3] => { results := [.lit (.bool false)], args := [d1, d2, d3] }
  | _ => none }
def StacksJoinWrongFalsely : Prop := stacksJoinRow.holds Try.pinned (OpenSpec.ofChange stacksJoinWrong)

/-- 'ganseylaw03.StacksSame': WHATEVER THE INPUT: true; the input reads as it did. -/
def stacksSameSpec : ChangeSpec := { name := "stacksSame", fn := fun _ => fun
  | [d1, d2, d3] => { results := [.lit (.bool true)], args := [d1, d2, d3] }
  | _ => none }
def stacksSameRow : OpenClaim := { program := "ytlpngkeegjickaa", sum := "a16b778c824300da221318fc320e4b4122b744ae9dd4328da5b0ff1669a6fca7", func := "gansey/ganseylaw03.StacksSame", spec := "stacksSame", unfollowed := true, recurses := true, plainKeys := false, apart := false }
def StacksSameSaid : Prop := stacksSameRow.holds Try.pinned (OpenSpec.ofChange stacksSameSpec)

/-- ITS FALSE NEIGHBOUR: 'it returns false'. Refute it at one input. -/
def stacksSameWrong : ChangeSpec := { name := "stacksSame", fn := fun _ => fun
  | [d1, d2, d3] => { results := [.lit (.bool false)], args := [d1, d2, d3] }
  | _ => none }
def StacksSameWrongFalsely : Prop := stacksSameRow.holds Try.pinned (OpenSpec.ofChange stacksSameWrong)

/-- 'ganseylaw03.StacksBack': WHATEVER THE INPUT: true; the input reads as it did. -/
def stacksBackSpec : ChangeSpec := { name := "stacksBack", fn := fun _ => fun
  | [d1, d2] => { results := [.lit (.bool true)], args := [d1, d2] }
  | _ => none }
def stacksBackRow : OpenClaim := { program := "ytlpngkeegjickaa", sum := "a16b778c824300da221318fc320e4b4122b744ae9dd4328da5b0ff1669a6fca7", func := "gansey/ganseylaw03.StacksBack", spec := "stacksBack", unfollowed := true, recurses := true, plainKeys := false, apart := false }
def StacksBackSaid : Prop := stacksBackRow.holds Try.pinned (OpenSpec.ofChange stacksBackSpec)

/-- ITS FALSE NEIGHBOUR: 'it returns false'. Refute it at one input. -/
def stacksBackWrong : ChangeSpec := { name := "stacksBack", fn := fun _ => fun
  | [d1, d2] => { results := [.lit (.bool false)], args := [d1, d2] }
  | _ => none }
def StacksBackWrongFalsely : Prop := stacksBackRow.holds Try.pinned (OpenSpec.ofChange stacksBackWrong)

/-- 'ganseylaw04.OrdersList': WHATEVER THE INPUT: true; the input reads as it did. -/
def ordersListSpec : ChangeSpec := { name := "ordersList", fn := fun _ => fun
  | [d1, d2] => { results := [.lit (.bool true)], args := [d1, d2] }
  | _ => none }
def ordersListRow : OpenClaim := { program := "ytlpngkeegjickaa", sum := "a16b778c824300da221318fc320e4b4122b744ae9dd4328da5b0ff1669a6fca7", func := "gansey/ganseylaw04.OrdersList", spec := "ordersList", unfollowed := true, recurses := true, plainKeys := false, apart := false }
def OrdersListSaid : Prop := ordersListRow.holds Try.pinned (OpenSpec.ofChange ordersListSpec)

/-- ITS FALSE NEIGHBOUR: 'it returns false'. Refute it at one input. -/
def ordersListWrong : ChangeSpec := { name := "ordersList", fn := fun _ => fun
  | [d1, d2] => { results := [.lit (.bool false)], args := [d1, d2] }
  | _ => none }
def OrdersListWrongFalsely : Prop := ordersListRow.holds Try.pinned (OpenSpec.ofChange ordersListWrong)

/- THE SECOND FORM. 'bulk': how many values and letters a reading holds, each counted each time it is reached (what is shared counts as often as it is met; a slice's spare places count too). A statement '..UptoSaid' is the law's where the arguments, and the package variables that the reading takes, are together of bulk at most 1048576: NARROWER than '..Said'. Prove '..Said' where nothing that the law and all that it calls make is longer than what came in: it says more and counts as full. Else prove '..UptoSaid'. A law counts once. -/
mutual
def uptoBulk {H : Type} : DataW H → Nat
  | .lit (.string bytes) => bytes.length + 1
  | .lit _ => 1
  | .nil => 1
  | .ptr d => uptoBulk d + 1
  | .slice elems spare => uptoBulkAll elems + uptoBulkAll spare + 1
  | .agg parts => uptoBulkAll parts + 1
  | .iface _ d => uptoBulk d + 1
  | .map entries => uptoBulkEntries entries + 1
  | .held _ => 1
def uptoBulkAll {H : Type} : List (DataW H) → Nat
  | [] => 0
  | d :: r => uptoBulk d + uptoBulkAll r
def uptoBulkEntries {H : Type} : List (Lit × DataW H) → Nat
  | [] => 0
  | x :: r => uptoBulkEntry x + uptoBulkEntries r
def uptoBulkEntry {H : Type} : Lit × DataW H → Nat
  | (.string bytes, d) => bytes.length + uptoBulk d + 1
  | (_, d) => uptoBulk d + 1
 end
def uptoSmall : (H : Type) → List (DataW H) → Bool := fun _ ds => decide (uptoBulkAll ds ≤ 1048576)
def OpenSpec.upto (s : _root_.Go.ChangeSpec) : _root_.Go.OpenSpec := { _root_.Go.OpenSpec.ofChange s with cond := some uptoSmall }

/-- 'ganseylaw03.StacksAt', WHERE WHAT IT READS IS OF BULK AT MOST 1048576: true; the input reads as it did. -/
def stacksAtUptoRow : OpenClaim := { program := "ytlpngkeegjickaa", sum := "a16b778c824300da221318fc320e4b4122b744ae9dd4328da5b0ff1669a6fca7", func := "gansey/ganseylaw03.StacksAt", spec := "stacksAt", unfollowed := true, recurses := true, plainKeys := false, apart := false, narrowed := true }
def StacksAtUptoSaid : Prop := stacksAtUptoRow.holds Try.pinned (OpenSpec.upto stacksAtSpec)

/-- 'ganseylaw03.StacksSet', WHERE WHAT IT READS IS OF BULK AT MOST 1048576: true; the input reads as it did. -/
def stacksSetUptoRow : OpenClaim := { program := "ytlpngkeegjickaa", sum := "a16b778c824300da221318fc320e4b4122b744ae9dd4328da5b0ff1669a6fca7", func := "gansey/ganseylaw03.StacksSet", spec := "stacksSet", unfollowed := true, recurses := true, plainKeys := false, apart := false, narrowed := true }
def StacksSetUptoSaid : Prop := stacksSetUptoRow.holds Try.pinned (OpenSpec.upto stacksSetSpec)

/-- 'ganseylaw03.StacksJoin', WHERE WHAT IT READS IS OF BULK AT MOST 1048576: true; the input reads as it did. -/
def stacksJoinUptoRow : OpenClaim := { program := "ytlpngkeegjickaa", sum := "a16b778c824300da221318fc320e4b4122b744ae9dd4328da5b0ff1669a6fca7", func := "gansey/ganseylaw03.StacksJoin", spec := "stacksJoin", unfollowed := true, recurses := true, plainKeys := false, apart := false, narrowed := true }
def StacksJoinUptoSaid : Prop := stacksJoinUptoRow.holds Try.pinned (OpenSpec.upto stacksJoinSpec)

/-- 'ganseylaw03.StacksSame', WHERE WHAT IT READS IS OF BULK AT MOST 1048576: true; the input reads as it did. -/
def stacksSameUptoRow : OpenClaim := { program := "ytlpngkeegjickaa", sum := "a16b778c824300da221318fc320e4b4122b744ae9dd4328da5b0ff1669a6fca7", func := "gansey/ganseylaw03.StacksSame", spec := "stacksSame", unfollowed := true, recurses := true, plainKeys := false, apart := false, narrowed := true }
def StacksSameUptoSaid : Prop := stacksSameUptoRow.holds Try.pinned (OpenSpec.upto stacksSameSpec)

/-- 'ganseylaw03.StacksBack', WHERE WHAT IT READS IS OF BULK AT MOST 1048576: true; the input reads as it did. -/
def stacksBackUptoRow : OpenClaim := { program := "ytlpngkeegjickaa", sum := "a16b778c824300da221318fc320e4b4122b744ae9dd4328da5b0ff1669a6fca7", func := "gansey/ganseylaw03.StacksBack", spec := "stacksBack", unfollowed := true, recurses := true, plainKeys := false, apart := false, narrowed := true }
def StacksBackUptoSaid : Prop := stacksBackUptoRow.holds Try.pinned (OpenSpec.upto stacksBackSpec)

/-- 'ganseylaw04.OrdersList', WHERE WHAT IT READS IS OF BULK AT MOST 1048576: true; the input reads as it did. -/
def ordersListUptoRow : OpenClaim := { program := "ytlpngkeegjickaa", sum := "a16b778c824300da221318fc320e4b4122b744ae9dd4328da5b0ff1669a6fca7", func := "gansey/ganseylaw04.OrdersList", spec := "ordersList", unfollowed := true, recurses := true, plainKeys := false, apart := false, narrowed := true }
def OrdersListUptoSaid : Prop := ordersListUptoRow.holds Try.pinned (OpenSpec.upto ordersListSpec)

end Rows
end Go.Proofs.Ytlpngkeegjickaa
