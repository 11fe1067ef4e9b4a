/-
  No cell of these rows narrows 'for every input' (looked for: loops, veiled, ifaces, maps, wideKeys, modest, calm, conditions, laid).
  DERIVED. THE GIVEN ROWS OF THIS SEAT. 3 by the template 'for every input the law returns true; each argument reads behind the call as it read before'; 0 by the template 'total and deterministic' (their statements: YtkgekgfmnhccmaaTotals.lean).
  GIVEN WITH THE SEED: the statements are not yours to turn. If you find one false, say at which input.
  Laid BY PROGRAM, IN A SANDBOX (cutbox-rows.mjs): the forced cells as the released guide's own fill.sh prints them over the translation c36742d28275fcbc… (all of the seat's roots in one cut). By AI agents, Wed Nov 11 2026. No macro, syntax, notation, axiom, sorry.
-/
import Derived.Test.YtkgekgfmnhccmaaChecked
import GoSem.Claim
import GoSem.ClaimJoined
import GoSem.ClaimMapViews
import Derived.JoinedTies
import Derived.KernelRfl
namespace Go.Proofs.Ytkgekgfmnhccmaa
/- THE CELL 'sum', in the pinned program and in every row, IS THE sha256 OF THE DUMP (.gsa) THAT YtkgekgfmnhccmaaProg.lean LOADS. Nothing in Lean hashes anything: it is a label: what it is worth is what the hold of that sum in a sandbox is worth. -/
noncomputable def Try.pinned : Pinned := { name := "ytkgekgfmnhccmaa", sum := "c36742d28275fcbca2792312c9cd760bc854b567ae5752291fa3d3b06ee7582b", checked := Try.checked }
namespace Rows
def none {H : Type} : Left H := { results := [], args := [] }

/-- 'laws.FnDelivered': WHATEVER THE INPUT: true; the input reads as it did. -/
def fnDeliveredSpec : ChangeSpec := { name := "fnDelivered", fn := fun _ => fun
  | [d1, d2] => { results := [.lit (.bool true)], args := [d1, d2] }
  | _ => none }
def fnDeliveredRow : OpenClaim := { program := "ytkgekgfmnhccmaa", sum := "c36742d28275fcbca2792312c9cd760bc854b567ae5752291fa3d3b06ee7582b", func := "loop.example/g01144/laws.FnDelivered", spec := "fnDelivered", unfollowed := true, recurses := true, apart := false }
def FnDeliveredSaid : Prop := fnDeliveredRow.holds Try.pinned (OpenSpec.ofChange fnDeliveredSpec)

/-- ITS FALSE NEIGHBOUR: 'it returns false'. Refute it at one input. -/
def fnDeliveredWrong : ChangeSpec := { name := "fnDelivered", fn := fun _ => fun
  | [d1, d2] => { results := [.lit (.bool false)], args := [d1, d2] }
  | _ => none }
def FnDeliveredWrongFalsely : Prop := fnDeliveredRow.holds Try.pinned (OpenSpec.ofChange fnDeliveredWrong)

/-- 'laws.FnExactSolveAt': WHATEVER THE INPUT: true; the input reads as it did. -/
def fnExactSolveAtSpec : ChangeSpec := { name := "fnExactSolveAt", fn := fun _ => fun
  | [d1, d2, d3] => { results := [.lit (.bool true)], args := [d1, d2, d3] }
  | _ => none }
def fnExactSolveAtRow : OpenClaim := { program := "ytkgekgfmnhccmaa", sum := "c36742d28275fcbca2792312c9cd760bc854b567ae5752291fa3d3b06ee7582b", func := "loop.example/g01144/laws.FnExactSolveAt", spec := "fnExactSolveAt", unfollowed := true, recurses := true, apart := false }
def FnExactSolveAtSaid : Prop := fnExactSolveAtRow.holds Try.pinned (OpenSpec.ofChange fnExactSolveAtSpec)

/-- ITS FALSE NEIGHBOUR: 'it returns false'. Refute it at one input. -/
def fnExactSolveAtWrong : ChangeSpec := { name := "fnExactSolveAt", fn := fun _ => fun
  | [d1, d2, d3] => { results := [.lit (.bool false)], args := [d1, d2, d3] }
  | _ => none }
def FnExactSolveAtWrongFalsely : Prop := fnExactSolveAtRow.holds Try.pinned (OpenSpec.ofChange fnExactSolveAtWrong)

/-- 'laws.FnGathered': WHATEVER THE INPUT: true; the input reads as it did. -/
def fnGatheredSpec : ChangeSpec := { name := "fnGathered", fn := fun _ => fun
  | [d1, d2] => { results := [.lit (.bool true)], args := [d1, d2] }
  | _ => none }
def fnGatheredRow : OpenClaim := { program := "ytkgekgfmnhccmaa", sum := "c36742d28275fcbca2792312c9cd760bc854b567ae5752291fa3d3b06ee7582b", func := "loop.example/g01144/laws.FnGathered", spec := "fnGathered", unfollowed := true, recurses := true, apart := false }
def FnGatheredSaid : Prop := fnGatheredRow.holds Try.pinned (OpenSpec.ofChange fnGatheredSpec)

/-- ITS FALSE NEIGHBOUR: 'it returns false'. Refute it at one input. -/
def fnGatheredWrong : ChangeSpec := { name := "fnGathered", fn := fun _ => fun
  | [d1, d2] => { results := [.lit (.bool false)], args := [d1, d2] }
  | _ => none }
def FnGatheredWrongFalsely : Prop := fnGatheredRow.holds Try.pinned (OpenSpec.ofChange fnGatheredWrong)

/- THE SECOND FORM. 'bulk': how many values and letters a reading holds, each counted each time it is reached (what is shared counts as often as it is met; a slice's spare places count too). A statement '..UptoSaid' is the law's where the arguments, and the package variables that the reading takes, are together of bulk at most 1048576: NARROWER than '..Said'. Prove '..Said' where nothing that the law and all that it calls make is longer than what came in: it says more and counts as full. Else prove '..UptoSaid'. A law counts once. -/
mutual
def uptoBulk {H : Type} : DataW H → Nat
  | .lit (.string bytes) => bytes.length + 1
  | .lit _ => 1
  | .nil => 1
  | .ptr d => uptoBulk d + 1
  | .slice elems spare => uptoBulkAll elems + uptoBulkAll spare + 1
  | .agg parts => uptoBulkAll parts + 1
  | .iface _ d => uptoBulk d + 1
  | .map entries => uptoBulkEntries entries + 1
  | .held _ => 1
def uptoBulkAll {H : Type} : List (DataW H) → Nat
  | [] => 0
  | d :: r => uptoBulk d + uptoBulkAll r
def uptoBulkEntries {H : Type} : List (Lit × DataW H) → Nat
  | [] => 0
  | x :: r => uptoBulkEntry x + uptoBulkEntries r
def uptoBulkEntry {H : Type} : Lit × DataW H → Nat
  | (.string bytes, d) => bytes.length + uptoBulk d + 1
  | (_, d) => uptoBulk d + 1
 end
def uptoSmall : (H : Type) → List (DataW H) → Bool := fun _ ds => decide (uptoBulkAll ds ≤ 1048576)
def OpenSpec.upto (s : _root_.Go.ChangeSpec) : _root_.Go.OpenSpec := { _root_.Go.OpenSpec.ofChange s with cond := some uptoSmall }

/-- 'laws.FnDelivered', WHERE WHAT IT READS IS OF BULK AT MOST 1048576: true; the input reads as it did. -/
def fnDeliveredUptoRow : OpenClaim := { program := "ytkgekgfmnhccmaa", sum := "c36742d28275fcbca2792312c9cd760bc854b567ae5752291fa3d3b06ee7582b", func := "loop.example/g01144/laws.FnDelivered", spec := "fnDelivered", unfollowed := true, recurses := true, apart := false, narrowed := true }
def FnDeliveredUptoSaid : Prop := fnDeliveredUptoRow.holds Try.pinned (OpenSpec.upto fnDeliveredSpec)

/-- 'laws.FnExactSolveAt', WHERE WHAT IT READS IS OF BULK AT MOST 1048576: true; the input reads as it did. -/
def fnExactSolveAtUptoRow : OpenClaim := { program := "ytkgekgfmnhccmaa", sum := "c36742d28275fcbca2792312c9cd760bc854b567ae5752291fa3d3b06ee7582b", func := "loop.example/g01144/laws.FnExactSolveAt", spec := "fnExactSolveAt", unfollowed := true, recurses := true, apart := false, narrowed := true }
def FnExactSolveAtUptoSaid : Prop := fnExactSolveAtUptoRow.holds Try.pinned (OpenSpec.upto fnExactSolveAtSpec)

/-- 'laws.FnGathered', WHERE WHAT IT READS IS OF BULK AT MOST 1048576: true; the input reads as it did. -/
def fnGatheredUptoRow : OpenClaim := { program := "ytkgekgfmnhccmaa", sum := "c36742d28275fcbca2792312c9cd760bc854b567ae5752291fa3d3b06ee7582b", func := "loop.example/g01144/laws.FnGathered", spec := "fnGathered", unfollowed := true, recurses := true, apart := false, narrowed := true }
def FnGatheredUptoSaid : Prop := fnGatheredUptoRow.holds Try.pinned (OpenSpec.upto fnGatheredSpec)

end Rows
end Go.Proofs.Ytkgekgfmnhccmaa
