/-
  No cell of these rows narrows 'for every input' (looked for: loops, veiled, ifaces, maps, wideKeys, modest, calm, conditions, laid).
  DERIVED. THE GIVEN ROWS OF THIS SEAT. 4 by the template 'for every input the law returns true; each argument reads behind the call as it read before'; 0 by the template 'total and deterministic' (their statements: YthnkanacjhlhhaaTotals.lean).
  GIVEN WITH THE SEED: the statements are not yours to turn. If you find one false, say at which input.
  Laid BY PROGRAM, IN A SANDBOX (cutbox-rows.mjs): the forced cells as the released guide's own fill.sh prints them over the translation bca56db2a31b588e… (all of the seat's roots in one cut). By AI agents, Wed Nov 11 2026. No macro, syntax, notation, axiom, sorry.
-/
import Derived.Test.YthnkanacjhlhhaaChecked
import GoSem.Claim
import GoSem.ClaimJoined
import GoSem.ClaimMapViews
import Derived.JoinedTies
import Derived.KernelRfl
namespace Go.Proofs.Ythnkanacjhlhhaa
/- THE CELL 'sum', in the pinned program and in every row, IS THE sha256 OF THE DUMP (.gsa) THAT YthnkanacjhlhhaaProg.lean LOADS. Nothing in Lean hashes anything: it is a label: what it is worth is what the hold of that sum in a sandbox is worth. -/
noncomputable def Try.pinned : Pinned := { name := "ythnkanacjhlhhaa", sum := "bca56db2a31b588ed3ea14e5e7d52b91eb56c9b5734ca5ce14daf442652ea016", checked := Try.checked }
namespace Rows
def none {H : Type} : Left H := { results := [], args := [] }

/-- 'laws.FnExactSpreadIndex': WHATEVER THE INPUT: true; the input reads as it did. -/
def fnExactSpreadIndexSpec : ChangeSpec := { name := "fnExactSpreadIndex", fn := fun _ => fun
  | [d1, d2] => { results := [.lit (.bool true)], args := [d1, d2] }
  | _ => none }
def fnExactSpreadIndexRow : OpenClaim := { program := "ythnkanacjhlhhaa", sum := "bca56db2a31b588ed3ea14e5e7d52b91eb56c9b5734ca5ce14daf442652ea016", func := "loop.example/g01144/laws.FnExactSpreadIndex", spec := "fnExactSpreadIndex", unfollowed := true, recurses := true, apart := false }
def FnExactSpreadIndexSaid : Prop := fnExactSpreadIndexRow.holds Try.pinned (OpenSpec.ofChange fnExactSpreadIndexSpec)

/-- ITS FALSE NEIGHBOUR: 'it returns false'. Refute it at one input. -/
def fnExactSpreadIndexWrong : ChangeSpec := { name := "fnExactSpreadIndex", fn := fun _ => fun
  | [d1, d2] => { results := [.lit (.bool false)], args := [d1, d2] }
  | _ => none }
def FnExactSpreadIndexWrongFalsely : Prop := fnExactSpreadIndexRow.holds Try.pinned (OpenSpec.ofChange fnExactSpreadIndexWrong)

/-- 'laws.FnExactSpreadOf': WHATEVER THE INPUT: true; the input reads as it did. -/
def fnExactSpreadOfSpec : ChangeSpec := { name := "fnExactSpreadOf", fn := fun _ => fun
  | [d1, d2] => { results := [.lit (.bool true)], args := [d1, d2] }
  | _ => none }
def fnExactSpreadOfRow : OpenClaim := { program := "ythnkanacjhlhhaa", sum := "bca56db2a31b588ed3ea14e5e7d52b91eb56c9b5734ca5ce14daf442652ea016", func := "loop.example/g01144/laws.FnExactSpreadOf", spec := "fnExactSpreadOf", unfollowed := true, recurses := true, apart := false }
def FnExactSpreadOfSaid : Prop := fnExactSpreadOfRow.holds Try.pinned (OpenSpec.ofChange fnExactSpreadOfSpec)

/-- ITS FALSE NEIGHBOUR: 'it returns false'. Refute it at one input. -/
def fnExactSpreadOfWrong : ChangeSpec := { name := "fnExactSpreadOf", fn := fun _ => fun
  | [d1, d2] => { results := [.lit (.bool false)], args := [d1, d2] }
  | _ => none }
def FnExactSpreadOfWrongFalsely : Prop := fnExactSpreadOfRow.holds Try.pinned (OpenSpec.ofChange fnExactSpreadOfWrong)

/-- 'laws.FnListed': WHATEVER THE INPUT: true; the input reads as it did. -/
def fnListedSpec : ChangeSpec := { name := "fnListed", fn := fun _ => fun
  | [d1, d2] => { results := [.lit (.bool true)], args := [d1, d2] }
  | _ => none }
def fnListedRow : OpenClaim := { program := "ythnkanacjhlhhaa", sum := "bca56db2a31b588ed3ea14e5e7d52b91eb56c9b5734ca5ce14daf442652ea016", func := "loop.example/g01144/laws.FnListed", spec := "fnListed", unfollowed := true, recurses := true, apart := false }
def FnListedSaid : Prop := fnListedRow.holds Try.pinned (OpenSpec.ofChange fnListedSpec)

/-- ITS FALSE NEIGHBOUR: 'it returns false'. Refute it at one input. -/
def fnListedWrong : ChangeSpec := { name := "fnListed", fn := fun _ => fun
  | [d1, d2] => { results := [.lit (.bool false)], args := [d1, d2] }
  | _ => none }
def FnListedWrongFalsely : Prop := fnListedRow.holds Try.pinned (OpenSpec.ofChange fnListedWrong)

/-- 'laws.FnNearSpaces': WHATEVER THE INPUT: true; the input reads as it did. -/
def fnNearSpacesSpec : ChangeSpec := { name := "fnNearSpaces", fn := fun _ => fun
  | [d1, d2] => { results := [.lit (.bool true)], args := [d1, d2] }
  | _ => none }
def fnNearSpacesRow : OpenClaim := { program := "ythnkanacjhlhhaa", sum := "bca56db2a31b588ed3ea14e5e7d52b91eb56c9b5734ca5ce14daf442652ea016", func := "loop.example/g01144/laws.FnNearSpaces", spec := "fnNearSpaces", unfollowed := true, recurses := true, apart := false }
def FnNearSpacesSaid : Prop := fnNearSpacesRow.holds Try.pinned (OpenSpec.ofChange fnNearSpacesSpec)

/-- ITS FALSE NEIGHBOUR: 'it returns false'. Refute it at one input. -/
def fnNearSpacesWrong : ChangeSpec := { name := "fnNearSpaces", fn := fun _ => fun
  | [d1, d2] => { results := [.lit (.bool false)], args := [d1, d2] }
  | _ => none }
def FnNearSpacesWrongFalsely : Prop := fnNearSpacesRow.holds Try.pinned (OpenSpec.ofChange fnNearSpacesWrong)

/- THE SECOND FORM. 'bulk': how many values and letters a reading holds, each counted each time it is reached (what is shared counts as often as it is met; a slice's spare places count too). A statement '..UptoSaid' is the law's where the arguments, and the package variables that the reading takes, are together of bulk at most 1048576: NARROWER than '..Said'. Prove '..Said' where nothing that the law and all that it calls make is longer than what came in: it says more and counts as full. Else prove '..UptoSaid'. A law counts once. -/
mutual
def uptoBulk {H : Type} : DataW H → Nat
  | .lit (.string bytes) => bytes.length + 1
  | .lit _ => 1
  | .nil => 1
  | .ptr d => uptoBulk d + 1
  | .slice elems spare => uptoBulkAll elems + uptoBulkAll spare + 1
  | .agg parts => uptoBulkAll parts + 1
  | .iface _ d => uptoBulk d + 1
  | .map entries => uptoBulkEntries entries + 1
  | .held _ => 1
def uptoBulkAll {H : Type} : List (DataW H) → Nat
  | [] => 0
  | d :: r => uptoBulk d + uptoBulkAll r
def uptoBulkEntries {H : Type} : List (Lit × DataW H) → Nat
  | [] => 0
  | x :: r => uptoBulkEntry x + uptoBulkEntries r
def uptoBulkEntry {H : Type} : Lit × DataW H → Nat
  | (.string bytes, d) => bytes.length + uptoBulk d + 1
  | (_, d) => uptoBulk d + 1
 end
def uptoSmall : (H : Type) → List (DataW H) → Bool := fun _ ds => decide (uptoBulkAll ds ≤ 1048576)
def OpenSpec.upto (s : _root_.Go.ChangeSpec) : _root_.Go.OpenSpec := { _root_.Go.OpenSpec.ofChange s with cond := some uptoSmall }

/-- 'laws.FnExactSpreadIndex', WHERE WHAT IT READS IS OF BULK AT MOST 1048576: true; the input reads as it did. -/
def fnExactSpreadIndexUptoRow : OpenClaim := { program := "ythnkanacjhlhhaa", sum := "bca56db2a31b588ed3ea14e5e7d52b91eb56c9b5734ca5ce14daf442652ea016", func := "loop.example/g01144/laws.FnExactSpreadIndex", spec := "fnExactSpreadIndex", unfollowed := true, recurses := true, apart := false, narrowed := true }
def FnExactSpreadIndexUptoSaid : Prop := fnExactSpreadIndexUptoRow.holds Try.pinned (OpenSpec.upto fnExactSpreadIndexSpec)

/-- 'laws.FnExactSpreadOf', WHERE WHAT IT READS IS OF BULK AT MOST 1048576: true; the input reads as it did. -/
def fnExactSpreadOfUptoRow : OpenClaim := { program := "ythnkanacjhlhhaa", sum := "bca56db2a31b588ed3ea14e5e7d52b91eb56c9b5734ca5ce14daf442652ea016", func := "loop.example/g01144/laws.FnExactSpreadOf", spec := "fnExactSpreadOf", unfollowed := true, recurses := true, apart := false, narrowed := true }
def FnExactSpreadOfUptoSaid : Prop := fnExactSpreadOfUptoRow.holds Try.pinned (OpenSpec.upto fnExactSpreadOfSpec)

/-- 'laws.FnListed', WHERE WHAT IT READS IS OF BULK AT MOST 1048576: true; the input reads as it did. -/
def fnListedUptoRow : OpenClaim := { program := "ythnkanacjhlhhaa", sum := "bca56db2a31b588ed3ea14e5e7d52b91eb56c9b5734ca5ce14daf442652ea016", func := "loop.example/g01144/laws.FnListed", spec := "fnListed", unfollowed := true, recurses := true, apart := false, narrowed := true }
def FnListedUptoSaid : Prop := fnListedUptoRow.holds Try.pinned (OpenSpec.upto fnListedSpec)

/-- 'laws.FnNearSpaces', WHERE WHAT IT READS IS OF BULK AT MOST 1048576: true; the input reads as it did. -/
def fnNearSpacesUptoRow : OpenClaim := { program := "ythnkanacjhlhhaa", sum := "bca56db2a31b588ed3ea14e5e7d52b91eb56c9b5734ca5ce14daf442652ea016", func := "loop.example/g01144/laws.FnNearSpaces", spec := "fnNearSpaces", unfollowed := true, recurses := true, apart := false, narrowed := true }
def FnNearSpacesUptoSaid : Prop := fnNearSpacesUptoRow.holds Try.pinned (OpenSpec.upto fnNearSpacesSpec)

end Rows
end Go.Proofs.Ythnkanacjhlhhaa
