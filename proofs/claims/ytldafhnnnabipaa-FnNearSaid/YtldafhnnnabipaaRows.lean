/-
  No cell of these rows narrows 'for every input' (looked for: loops, veiled, ifaces, maps, wideKeys, modest, calm, conditions, laid).
  DERIVED. THE GIVEN ROWS OF THIS SEAT. 4 by the template 'for every input the law returns true; each argument reads behind the call as it read before'; 0 by the template 'total and deterministic' (their statements: YtldafhnnnabipaaTotals.lean).
  GIVEN WITH THE SEED: the statements are not yours to turn. If you find one false, say at which input.
  Laid BY PROGRAM, IN A SANDBOX (cutbox-rows.mjs): the forced cells as the released guide's own fill.sh prints them over the translation e6b95a757d00d0d9… (all of the seat's roots in one cut). By AI agents, Wed Nov 11 2026. No macro, syntax, notation, axiom, sorry.
-/
import Derived.Test.YtldafhnnnabipaaChecked
import GoSem.Claim
import GoSem.ClaimJoined
import GoSem.ClaimMapViews
import Derived.JoinedTies
import Derived.KernelRfl
namespace Go.Proofs.Ytldafhnnnabipaa
/- THE CELL 'sum', in the pinned program and in every row, IS THE sha256 OF THE DUMP (.gsa) THAT YtldafhnnnabipaaProg.lean LOADS. Nothing in Lean hashes anything: it is a label: what it is worth is what the hold of that sum in a sandbox is worth. -/
noncomputable def Try.pinned : Pinned := { name := "ytldafhnnnabipaa", sum := "e6b95a757d00d0d907dafce033f2e140bd4cdd32678c77a69248ee2f76e0e8b3", checked := Try.checked }
namespace Rows
def none {H : Type} : Left H := { results := [], args := [] }

/-- 'laws.FnExactArePathsTo': WHATEVER THE INPUT: true; the input reads as it did. -/
def fnExactArePathsToSpec : ChangeSpec := { name := "fnExactArePathsTo", fn := fun _ => fun
  | [d1, d2, d3] => { results := [.lit (.bool true)], args := [d1, d2, d3] }
  | _ => none }
def fnExactArePathsToRow : OpenClaim := { program := "ytldafhnnnabipaa", sum := "e6b95a757d00d0d907dafce033f2e140bd4cdd32678c77a69248ee2f76e0e8b3", func := "loop.example/g01144/laws.FnExactArePathsTo", spec := "fnExactArePathsTo", unfollowed := true, recurses := true, apart := false }
def FnExactArePathsToSaid : Prop := fnExactArePathsToRow.holds Try.pinned (OpenSpec.ofChange fnExactArePathsToSpec)

/-- ITS FALSE NEIGHBOUR: 'it returns false'. Refute it at one input. -/
def fnExactArePathsToWrong : ChangeSpec := { name := "fnExactArePathsTo", fn := fun _ => fun
  | [d1, d2, d3] => { results := [.lit (.bool false)], args := [d1, d2, d3] }
  | _ => none }
def FnExactArePathsToWrongFalsely : Prop := fnExactArePathsToRow.holds Try.pinned (OpenSpec.ofChange fnExactArePathsToWrong)

/-- 'laws.FnExactFindPoints': WHATEVER THE INPUT: true; the input reads as it did. -/
def fnExactFindPointsSpec : ChangeSpec := { name := "fnExactFindPoints", fn := fun _ => fun
  | [d] => { results := [.lit (.bool true)], args := [d] }
  | _ => none }
def fnExactFindPointsRow : OpenClaim := { program := "ytldafhnnnabipaa", sum := "e6b95a757d00d0d907dafce033f2e140bd4cdd32678c77a69248ee2f76e0e8b3", func := "loop.example/g01144/laws.FnExactFindPoints", spec := "fnExactFindPoints", unfollowed := true, recurses := true, apart := false }
def FnExactFindPointsSaid : Prop := fnExactFindPointsRow.holds Try.pinned (OpenSpec.ofChange fnExactFindPointsSpec)

/-- ITS FALSE NEIGHBOUR: 'it returns false'. Refute it at one input. -/
def fnExactFindPointsWrong : ChangeSpec := { name := "fnExactFindPoints", fn := fun _ => fun
  | [d] => { results := [.lit (.bool false)], args := [d] }
  | _ => none }
def FnExactFindPointsWrongFalsely : Prop := fnExactFindPointsRow.holds Try.pinned (OpenSpec.ofChange fnExactFindPointsWrong)

/-- 'laws.FnAnnihilators': WHATEVER THE INPUT: true; the input reads as it did. -/
def fnAnnihilatorsSpec : ChangeSpec := { name := "fnAnnihilators", fn := fun _ => fun
  | [d1, d2] => { results := [.lit (.bool true)], args := [d1, d2] }
  | _ => none }
def fnAnnihilatorsRow : OpenClaim := { program := "ytldafhnnnabipaa", sum := "e6b95a757d00d0d907dafce033f2e140bd4cdd32678c77a69248ee2f76e0e8b3", func := "loop.example/g01144/laws.FnAnnihilators", spec := "fnAnnihilators", unfollowed := true, recurses := true, apart := false }
def FnAnnihilatorsSaid : Prop := fnAnnihilatorsRow.holds Try.pinned (OpenSpec.ofChange fnAnnihilatorsSpec)

/-- ITS FALSE NEIGHBOUR: 'it returns false'. Refute it at one input. -/
def fnAnnihilatorsWrong : ChangeSpec := { name := "fnAnnihilators", fn := fun _ => fun
  | [d1, d2] => { results := [.lit (.bool false)], args := [d1, d2] }
  | _ => none }
def FnAnnihilatorsWrongFalsely : Prop := fnAnnihilatorsRow.holds Try.pinned (OpenSpec.ofChange fnAnnihilatorsWrong)

/-- 'laws.FnNear': WHATEVER THE INPUT: true; the input reads as it did. -/
def fnNearSpec : ChangeSpec := { name := "fnNear", fn := fun _ => fun
  | [d1, d2] => { results := [.lit (.bool true)], args := [d1, d2] }
  | _ => none }
def fnNearRow : OpenClaim := { program := "ytldafhnnnabipaa", sum := "e6b95a757d00d0d907dafce033f2e140bd4cdd32678c77a69248ee2f76e0e8b3", func := "loop.example/g01144/laws.FnNear", spec := "fnNear", unfollowed := true, recurses := true, apart := false }
def FnNearSaid : Prop := fnNearRow.holds Try.pinned (OpenSpec.ofChange fnNearSpec)

/-- ITS FALSE NEIGHBOUR: 'it returns false'. Refute it at one input. -/
def fnNearWrong : ChangeSpec := { name := "fnNear", fn := fun _ => fun
  | [d1, d2] => { results := [.lit (.bool false)], args := [d1, d2] }
  | _ => none }
def FnNearWrongFalsely : Prop := fnNearRow.holds Try.pinned (OpenSpec.ofChange fnNearWrong)

/- THE SECOND FORM. 'bulk': how many values and letters a reading holds, each counted each time it is reached (what is shared counts as often as it is met; a slice's spare places count too). A statement '..UptoSaid' is the law's where the arguments, and the package variables that the reading takes, are together of bulk at most 1048576: NARROWER than '..Said'. Prove '..Said' where nothing that the law and all that it calls make is longer than what came in: it says more and counts as full. Else prove '..UptoSaid'. A law counts once. -/
mutual
def uptoBulk {H : Type} : DataW H → Nat
  | .lit (.string bytes) => bytes.length + 1
  | .lit _ => 1
  | .nil => 1
  | .ptr d => uptoBulk d + 1
  | .slice elems spare => uptoBulkAll elems + uptoBulkAll spare + 1
  | .agg parts => uptoBulkAll parts + 1
  | .iface _ d => uptoBulk d + 1
  | .map entries => uptoBulkEntries entries + 1
  | .held _ => 1
def uptoBulkAll {H : Type} : List (DataW H) → Nat
  | [] => 0
  | d :: r => uptoBulk d + uptoBulkAll r
def uptoBulkEntries {H : Type} : List (Lit × DataW H) → Nat
  | [] => 0
  | x :: r => uptoBulkEntry x + uptoBulkEntries r
def uptoBulkEntry {H : Type} : Lit × DataW H → Nat
  | (.string bytes, d) => bytes.length + uptoBulk d + 1
  | (_, d) => uptoBulk d + 1
 end
def uptoSmall : (H : Type) → List (DataW H) → Bool := fun _ ds => decide (uptoBulkAll ds ≤ 1048576)
def OpenSpec.upto (s : _root_.Go.ChangeSpec) : _root_.Go.OpenSpec := { _root_.Go.OpenSpec.ofChange s with cond := some uptoSmall }

/-- 'laws.FnExactArePathsTo', WHERE WHAT IT READS IS OF BULK AT MOST 1048576: true; the input reads as it did. -/
def fnExactArePathsToUptoRow : OpenClaim := { program := "ytldafhnnnabipaa", sum := "e6b95a757d00d0d907dafce033f2e140bd4cdd32678c77a69248ee2f76e0e8b3", func := "loop.example/g01144/laws.FnExactArePathsTo", spec := "fnExactArePathsTo", unfollowed := true, recurses := true, apart := false, narrowed := true }
def FnExactArePathsToUptoSaid : Prop := fnExactArePathsToUptoRow.holds Try.pinned (OpenSpec.upto fnExactArePathsToSpec)

/-- 'laws.FnExactFindPoints', WHERE WHAT IT READS IS OF BULK AT MOST 1048576: true; the input reads as it did. -/
def fnExactFindPointsUptoRow : OpenClaim := { program := "ytldafhnnnabipaa", sum := "e6b95a757d00d0d907dafce033f2e140bd4cdd32678c77a69248ee2f76e0e8b3", func := "loop.example/g01144/laws.FnExactFindPoints", spec := "fnExactFindPoints", unfollowed := true, recurses := true, apart := false, narrowed := true }
def FnExactFindPointsUptoSaid : Prop := fnExactFindPointsUptoRow.holds Try.pinned (OpenSpec.upto fnExactFindPointsSpec)

/-- 'laws.FnAnnihilators', WHERE WHAT IT READS IS OF BULK AT MOST 1048576: true; the input reads as it did. -/
def fnAnnihilatorsUptoRow : OpenClaim := { program := "ytldafhnnnabipaa", sum := "e6b95a757d00d0d907dafce033f2e140bd4cdd32678c77a69248ee2f76e0e8b3", func := "loop.example/g01144/laws.FnAnnihilators", spec := "fnAnnihilators", unfollowed := true, recurses := true, apart := false, narrowed := true }
def FnAnnihilatorsUptoSaid : Prop := fnAnnihilatorsUptoRow.holds Try.pinned (OpenSpec.upto fnAnnihilatorsSpec)

/-- 'laws.FnNear', WHERE WHAT IT READS IS OF BULK AT MOST 1048576: true; the input reads as it did. -/
def fnNearUptoRow : OpenClaim := { program := "ytldafhnnnabipaa", sum := "e6b95a757d00d0d907dafce033f2e140bd4cdd32678c77a69248ee2f76e0e8b3", func := "loop.example/g01144/laws.FnNear", spec := "fnNear", unfollowed := true, recurses := true, apart := false, narrowed := true }
def FnNearUptoSaid : Prop := fnNearUptoRow.holds Try.pinned (OpenSpec.upto fnNearSpec)

end Rows
end Go.Proofs.Ytldafhnnnabipaa
