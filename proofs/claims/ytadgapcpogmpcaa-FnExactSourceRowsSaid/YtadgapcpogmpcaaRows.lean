/-
  No cell of these rows narrows 'for every input' (looked for: loops, veiled, ifaces, maps, wideKeys, modest, calm, conditions, laid).
  DERIVED. THE GIVEN ROWS OF THIS SEAT. 4 by the template 'for every input the law returns true; each argument reads behind the call as it read before'; 0 by the template 'total and deterministic' (their statements: YtadgapcpogmpcaaTotals.lean).
  GIVEN WITH THE SEED: the statements are not yours to turn. If you find one false, say at which input.
  Laid BY PROGRAM, IN A SANDBOX (cutbox-rows.mjs): the forced cells as the released guide's own fill.sh prints them over the translation b003a6c5a83e38f0… (all of the seat's roots in one cut). By AI agents, Wed Nov 11 2026. No macro, syntax, notation, axiom, sorry.
-/
import Derived.Test.YtadgapcpogmpcaaChecked
import GoSem.Claim
import GoSem.ClaimJoined
import GoSem.ClaimMapViews
import Derived.JoinedTies
import Derived.KernelRfl
namespace Go.Proofs.Ytadgapcpogmpcaa
/- THE CELL 'sum', in the pinned program and in every row, IS THE sha256 OF THE DUMP (.gsa) THAT YtadgapcpogmpcaaProg.lean LOADS. Nothing in Lean hashes anything: it is a label: what it is worth is what the hold of that sum in a sandbox is worth. -/
noncomputable def Try.pinned : Pinned := { name := "ytadgapcpogmpcaa", sum := "b003a6c5a83e38f06429ff3e50a9cd194ac526eeb0b15f69868904d19ce6bf04", checked := Try.checked }
namespace Rows
def none {H : Type} : Left H := { results := [], args := [] }

/-- 'laws.FnExactValidDeed': WHATEVER THE INPUT: true; the input reads as it did. -/
def fnExactValidDeedSpec : ChangeSpec := { name := "fnExactValidDeed", fn := fun _ => fun
  | [d] => { results := [.lit (.bool true)], args := [d] }
  | _ => none }
def fnExactValidDeedRow : OpenClaim := { program := "ytadgapcpogmpcaa", sum := "b003a6c5a83e38f06429ff3e50a9cd194ac526eeb0b15f69868904d19ce6bf04", func := "loop.example/g01144/laws.FnExactValidDeed", spec := "fnExactValidDeed", apart := false }
def FnExactValidDeedSaid : Prop := fnExactValidDeedRow.holds Try.pinned (OpenSpec.ofChange fnExactValidDeedSpec)

/-- ITS FALSE NEIGHBOUR: 'it returns false'. Refute it at one input. -/
def fnExactValidDeedWrong : ChangeSpec := { name := "fnExactValidDeed", fn := fun _ => fun
  | [d] => { results := [.lit (.bool false)], args := [d] }
  | _ => none }
def FnExactValidDeedWrongFalsely : Prop := fnExactValidDeedRow.holds Try.pinned (OpenSpec.ofChange fnExactValidDeedWrong)

/-- 'laws.FnExactValidGather': WHATEVER THE INPUT: true; the input reads as it did. -/
def fnExactValidGatherSpec : ChangeSpec := { name := "fnExactValidGather", fn := fun _ => fun
  | [d] => { results := [.lit (.bool true)], args := [d] }
  | _ => none }
def fnExactValidGatherRow : OpenClaim := { program := "ytadgapcpogmpcaa", sum := "b003a6c5a83e38f06429ff3e50a9cd194ac526eeb0b15f69868904d19ce6bf04", func := "loop.example/g01144/laws.FnExactValidGather", spec := "fnExactValidGather", unfollowed := true, recurses := true, apart := false }
def FnExactValidGatherSaid : Prop := fnExactValidGatherRow.holds Try.pinned (OpenSpec.ofChange fnExactValidGatherSpec)

/-- ITS FALSE NEIGHBOUR: 'it returns false'. Refute it at one input. -/
def fnExactValidGatherWrong : ChangeSpec := { name := "fnExactValidGather", fn := fun _ => fun
  | [d] => { results := [.lit (.bool false)], args := [d] }
  | _ => none }
def FnExactValidGatherWrongFalsely : Prop := fnExactValidGatherRow.holds Try.pinned (OpenSpec.ofChange fnExactValidGatherWrong)

/-- 'laws.FnExactSourceRows': WHATEVER THE INPUT: true; the input reads as it did. -/
def fnExactSourceRowsSpec : ChangeSpec := { name := "fnExactSourceRows", fn := fun _ => fun
  | [d] => { results := [.lit (.bool true)], args := [d] }
  | _ => none }
def fnExactSourceRowsRow : OpenClaim := { program := "ytadgapcpogmpcaa", sum := "b003a6c5a83e38f06429ff3e50a9cd194ac526eeb0b15f69868904d19ce6bf04", func := "loop.example/g01144/laws.FnExactSourceRows", spec := "fnExactSourceRows", unfollowed := true, recurses := true, apart := false }
def FnExactSourceRowsSaid : Prop := fnExactSourceRowsRow.holds Try.pinned (OpenSpec.ofChange fnExactSourceRowsSpec)

/-- ITS FALSE NEIGHBOUR: 'it returns false'. Refute it at one input. -/
def fnExactSourceRowsWrong : ChangeSpec := { name := "fnExactSourceRows", fn := fun _ => fun
  | [d] => { results := [.lit (.bool false)], args := [d] }
  | _ => none }
def FnExactSourceRowsWrongFalsely : Prop := fnExactSourceRowsRow.holds Try.pinned (OpenSpec.ofChange fnExactSourceRowsWrong)

/-- 'laws.FnExactMissedBy': WHATEVER THE INPUT: true; the input reads as it did. -/
def fnExactMissedBySpec : ChangeSpec := { name := "fnExactMissedBy", fn := fun _ => fun
  | [d1, d2, d3] => { results := [.lit (.bool true)], args := [d1, d2, d3] }
  | _ => none }
def fnExactMissedByRow : OpenClaim := { program := "ytadgapcpogmpcaa", sum := "b003a6c5a83e38f06429ff3e50a9cd194ac526eeb0b15f69868904d19ce6bf04", func := "loop.example/g01144/laws.FnExactMissedBy", spec := "fnExactMissedBy", unfollowed := true, recurses := true, apart := false }
def FnExactMissedBySaid : Prop := fnExactMissedByRow.holds Try.pinned (OpenSpec.ofChange fnExactMissedBySpec)

/-- ITS FALSE NEIGHBOUR: 'it returns false'. Refute it at one input. -/
def fnExactMissedByWrong : ChangeSpec := { name := "fnExactMissedBy", fn := fun _ => fun
  | [d1, d2, d3] => { results := [.lit (.bool false)], args := [d1, d2, d3] }
  | _ => none }
def FnExactMissedByWrongFalsely : Prop := fnExactMissedByRow.holds Try.pinned (OpenSpec.ofChange fnExactMissedByWrong)

/- THE SECOND FORM. 'bulk': how many values and letters a reading holds, each counted each time it is reached (what is shared counts as often as it is met; a slice's spare places count too). A statement '..UptoSaid' is the law's where the arguments, and the package variables that the reading takes, are together of bulk at most 1048576: NARROWER than '..Said'. Prove '..Said' where nothing that the law and all that it calls make is longer than what came in: it says more and counts as full. Else prove '..UptoSaid'. A law counts once. -/
mutual
def uptoBulk {H : Type} : DataW H → Nat
  | .lit (.string bytes) => bytes.length + 1
  | .lit _ => 1
  | .nil => 1
  | .ptr d => uptoBulk d + 1
  | .slice elems spare => uptoBulkAll elems + uptoBulkAll spare + 1
  | .agg parts => uptoBulkAll parts + 1
  | .iface _ d => uptoBulk d + 1
  | .map entries => uptoBulkEntries entries + 1
  | .held _ => 1
def uptoBulkAll {H : Type} : List (DataW H) → Nat
  | [] => 0
  | d :: r => uptoBulk d + uptoBulkAll r
def uptoBulkEntries {H : Type} : List (Lit × DataW H) → Nat
  | [] => 0
  | x :: r => uptoBulkEntry x + uptoBulkEntries r
def uptoBulkEntry {H : Type} : Lit × DataW H → Nat
  | (.string bytes, d) => bytes.length + uptoBulk d + 1
  | (_, d) => uptoBulk d + 1
 end
def uptoSmall : (H : Type) → List (DataW H) → Bool := fun _ ds => decide (uptoBulkAll ds ≤ 1048576)
def OpenSpec.upto (s : _root_.Go.ChangeSpec) : _root_.Go.OpenSpec := { _root_.Go.OpenSpec.ofChange s with cond := some uptoSmall }

/-- 'laws.FnExactValidDeed', WHERE WHAT IT READS IS OF BULK AT MOST 1048576: true; the input reads as it did. -/
def fnExactValidDeedUptoRow : OpenClaim := { program := "ytadgapcpogmpcaa", sum := "b003a6c5a83e38f06429ff3e50a9cd194ac526eeb0b15f69868904d19ce6bf04", func := "loop.example/g01144/laws.FnExactValidDeed", spec := "fnExactValidDeed", apart := false, narrowed := true }
def FnExactValidDeedUptoSaid : Prop := fnExactValidDeedUptoRow.holds Try.pinned (OpenSpec.upto fnExactValidDeedSpec)

/-- 'laws.FnExactValidGather', WHERE WHAT IT READS IS OF BULK AT MOST 1048576: true; the input reads as it did. -/
def fnExactValidGatherUptoRow : OpenClaim := { program := "ytadgapcpogmpcaa", sum := "b003a6c5a83e38f06429ff3e50a9cd194ac526eeb0b15f69868904d19ce6bf04", func := "loop.example/g01144/laws.FnExactValidGather", spec := "fnExactValidGather", unfollowed := true, recurses := true, apart := false, narrowed := true }
def FnExactValidGatherUptoSaid : Prop := fnExactValidGatherUptoRow.holds Try.pinned (OpenSpec.upto fnExactValidGatherSpec)

/-- 'laws.FnExactSourceRows', WHERE WHAT IT READS IS OF BULK AT MOST 1048576: true; the input reads as it did. -/
def fnExactSourceRowsUptoRow : OpenClaim := { program := "ytadgapcpogmpcaa", sum := "b003a6c5a83e38f06429ff3e50a9cd194ac526eeb0b15f69868904d19ce6bf04", func := "loop.example/g01144/laws.FnExactSourceRows", spec := "fnExactSourceRows", unfollowed := true, recurses := true, apart := false, narrowed := true }
def FnExactSourceRowsUptoSaid : Prop := fnExactSourceRowsUptoRow.holds Try.pinned (OpenSpec.upto fnExactSourceRowsSpec)

/-- 'laws.FnExactMissedBy', WHERE WHAT IT READS IS OF BULK AT MOST 1048576: true; the input reads as it did. -/
def fnExactMissedByUptoRow : OpenClaim := { program := "ytadgapcpogmpcaa", sum := "b003a6c5a83e38f06429ff3e50a9cd194ac526eeb0b15f69868904d19ce6bf04", func := "loop.example/g01144/laws.FnExactMissedBy", spec := "fnExactMissedBy", unfollowed := true, recurses := true, apart := false, narrowed := true }
def FnExactMissedByUptoSaid : Prop := fnExactMissedByUptoRow.holds Try.pinned (OpenSpec.upto fnExactMissedBySpec)

end Rows
end Go.Proofs.Ytadgapcpogmpcaa
