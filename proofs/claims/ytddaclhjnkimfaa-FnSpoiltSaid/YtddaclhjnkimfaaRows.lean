/-
  No cell of these rows narrows 'for every input' (looked for: loops, veiled, ifaces, maps, wideKeys, modest, calm, conditions, laid).
  DERIVED. THE GIVEN ROWS OF THIS SEAT. 4 by the template 'for every input the law returns true; each argument reads behind the call as it read before'; 0 by the template 'total and deterministic' (their statements: YtddaclhjnkimfaaTotals.lean).
  GIVEN WITH THE SEED: the statements are not yours to turn. If you find one false, say at which input.
  Laid BY PROGRAM, IN A SANDBOX (cutbox-rows.mjs): the forced cells as the released guide's own fill.sh prints them over the translation f22682caf75d8b17… (all of the seat's roots in one cut). By AI agents, Wed Nov 11 2026. No macro, syntax, notation, axiom, sorry.
-/
import Derived.Test.YtddaclhjnkimfaaChecked
import GoSem.Claim
import GoSem.ClaimJoined
import GoSem.ClaimMapViews
import Derived.JoinedTies
import Derived.KernelRfl
namespace Go.Proofs.Ytddaclhjnkimfaa
/- THE CELL 'sum', in the pinned program and in every row, IS THE sha256 OF THE DUMP (.gsa) THAT YtddaclhjnkimfaaProg.lean LOADS. Nothing in Lean hashes anything: it is a label: what it is worth is what the hold of that sum in a sandbox is worth. -/
noncomputable def Try.pinned : Pinned := { name := "ytddaclhjnkimfaa", sum := "f22682caf75d8b175e46ce1d26b4dd16edea19ca4ef4593014504e6dc995e8d0", checked := Try.checked }
namespace Rows
def none {H : Type} : Left H := { results := [], args := [] }

/-- 'laws.FnExactMendAfter': WHATEVER THE INPUT: true; the input reads as it did. -/
def fnExactMendAfterSpec : ChangeSpec := { name := "fnExactMendAfter", fn := fun _ => fun
  | [d1, d2, d3] => { results := [.lit (.bool true)], args := [d1, d2, d3] }
  | _ => none }
def fnExactMendAfterRow : OpenClaim := { program := "ytddaclhjnkimfaa", sum := "f22682caf75d8b175e46ce1d26b4dd16edea19ca4ef4593014504e6dc995e8d0", func := "loop.example/g01144/laws.FnExactMendAfter", spec := "fnExactMendAfter", unfollowed := true, recurses := true, apart := false }
def FnExactMendAfterSaid : Prop := fnExactMendAfterRow.holds Try.pinned (OpenSpec.ofChange fnExactMendAfterSpec)

/-- ITS FALSE NEIGHBOUR: 'it returns false'. Refute it at one input. -/
def fnExactMendAfterWrong : ChangeSpec := { name := "fnExactMendAfter", fn := fun _ => fun
  | [d1, d2, d3] => { results := [.lit (.bool false)], args := [d1, d2, d3] }
  | _ => none }
def FnExactMendAfterWrongFalsely : Prop := fnExactMendAfterRow.holds Try.pinned (OpenSpec.ofChange fnExactMendAfterWrong)

/-- 'laws.FnExactFinishDeeds': WHATEVER THE INPUT: true; the input reads as it did. -/
def fnExactFinishDeedsSpec : ChangeSpec := { name := "fnExactFinishDeeds", fn := fun _ => fun
  | [d1, d2] => { results := [.lit (.bool true)], args := [d1, d2] }
  | _ => none }
def fnExactFinishDeedsRow : OpenClaim := { program := "ytddaclhjnkimfaa", sum := "f22682caf75d8b175e46ce1d26b4dd16edea19ca4ef4593014504e6dc995e8d0", func := "loop.example/g01144/laws.FnExactFinishDeeds", spec := "fnExactFinishDeeds", unfollowed := true, recurses := true, apart := false }
def FnExactFinishDeedsSaid : Prop := fnExactFinishDeedsRow.holds Try.pinned (OpenSpec.ofChange fnExactFinishDeedsSpec)

/-- ITS FALSE NEIGHBOUR: 'it returns false'. Refute it at one input. -/
def fnExactFinishDeedsWrong : ChangeSpec := { name := "fnExactFinishDeeds", fn := fun _ => fun
  | [d1, d2] => { results := [.lit (.bool false)], args := [d1, d2] }
  | _ => none }
def FnExactFinishDeedsWrongFalsely : Prop := fnExactFinishDeedsRow.holds Try.pinned (OpenSpec.ofChange fnExactFinishDeedsWrong)

/-- 'laws.FnMixed': WHATEVER THE INPUT: true; the input reads as it did. -/
def fnMixedSpec : ChangeSpec := { name := "fnMixed", fn := fun _ => fun
  | [d1, d2] => { results := [.lit (.bool true)], args := [d1, d2] }
  | _ => none }
def fnMixedRow : OpenClaim := { program := "ytddaclhjnkimfaa", sum := "f22682caf75d8b175e46ce1d26b4dd16edea19ca4ef4593014504e6dc995e8d0", func := "loop.example/g01144/laws.FnMixed", spec := "fnMixed", unfollowed := true, recurses := true, apart := false }
def FnMixedSaid : Prop := fnMixedRow.holds Try.pinned (OpenSpec.ofChange fnMixedSpec)

/-- ITS FALSE NEIGHBOUR: 'it returns false'. Refute it at one input. -/
def fnMixedWrong : ChangeSpec := { name := "fnMixed", fn := fun _ => fun
  | [d1, d2] => { results := [.lit (.bool false)], args := [d1, d2] }
  | _ => none }
def FnMixedWrongFalsely : Prop := fnMixedRow.holds Try.pinned (OpenSpec.ofChange fnMixedWrong)

/-- 'laws.FnSpoilt': WHATEVER THE INPUT: true; the input reads as it did. -/
def fnSpoiltSpec : ChangeSpec := { name := "fnSpoilt", fn := fun _ => fun
  | [d1, d2] => { results := [.lit (.bool true)], args := [d1, d2] }
  | _ => none }
def fnSpoiltRow : OpenClaim := { program := "ytddaclhjnkimfaa", sum := "f22682caf75d8b175e46ce1d26b4dd16edea19ca4ef4593014504e6dc995e8d0", func := "loop.example/g01144/laws.FnSpoilt", spec := "fnSpoilt", unfollowed := true, recurses := true, apart := false }
def FnSpoiltSaid : Prop := fnSpoiltRow.holds Try.pinned (OpenSpec.ofChange fnSpoiltSpec)

/-- ITS FALSE NEIGHBOUR: 'it returns false'. Refute it at one input. -/
def fnSpoiltWrong : ChangeSpec := { name := "fnSpoilt", fn := fun _ => fun
  | [d1, d2] => { results := [.lit (.bool false)], args := [d1, d2] }
  | _ => none }
def FnSpoiltWrongFalsely : Prop := fnSpoiltRow.holds Try.pinned (OpenSpec.ofChange fnSpoiltWrong)

/- THE SECOND FORM. 'bulk': how many values and letters a reading holds, each counted each time it is reached (what is shared counts as often as it is met; a slice's spare places count too). A statement '..UptoSaid' is the law's where the arguments, and the package variables that the reading takes, are together of bulk at most 1048576: NARROWER than '..Said'. Prove '..Said' where nothing that the law and all that it calls make is longer than what came in: it says more and counts as full. Else prove '..UptoSaid'. A law counts once. -/
mutual
def uptoBulk {H : Type} : DataW H → Nat
  | .lit (.string bytes) => bytes.length + 1
  | .lit _ => 1
  | .nil => 1
  | .ptr d => uptoBulk d + 1
  | .slice elems spare => uptoBulkAll elems + uptoBulkAll spare + 1
  | .agg parts => uptoBulkAll parts + 1
  | .iface _ d => uptoBulk d + 1
  | .map entries => uptoBulkEntries entries + 1
  | .held _ => 1
def uptoBulkAll {H : Type} : List (DataW H) → Nat
  | [] => 0
  | d :: r => uptoBulk d + uptoBulkAll r
def uptoBulkEntries {H : Type} : List (Lit × DataW H) → Nat
  | [] => 0
  | x :: r => uptoBulkEntry x + uptoBulkEntries r
def uptoBulkEntry {H : Type} : Lit × DataW H → Nat
  | (.string bytes, d) => bytes.length + uptoBulk d + 1
  | (_, d) => uptoBulk d + 1
 end
def uptoSmall : (H : Type) → List (DataW H) → Bool := fun _ ds => decide (uptoBulkAll ds ≤ 1048576)
def OpenSpec.upto (s : _root_.Go.ChangeSpec) : _root_.Go.OpenSpec := { _root_.Go.OpenSpec.ofChange s with cond := some uptoSmall }

/-- 'laws.FnExactMendAfter', WHERE WHAT IT READS IS OF BULK AT MOST 1048576: true; the input reads as it did. -/
def fnExactMendAfterUptoRow : OpenClaim := { program := "ytddaclhjnkimfaa", sum := "f22682caf75d8b175e46ce1d26b4dd16edea19ca4ef4593014504e6dc995e8d0", func := "loop.example/g01144/laws.FnExactMendAfter", spec := "fnExactMendAfter", unfollowed := true, recurses := true, apart := false, narrowed := true }
def FnExactMendAfterUptoSaid : Prop := fnExactMendAfterUptoRow.holds Try.pinned (OpenSpec.upto fnExactMendAfterSpec)

/-- 'laws.FnExactFinishDeeds', WHERE WHAT IT READS IS OF BULK AT MOST 1048576: true; the input reads as it did. -/
def fnExactFinishDeedsUptoRow : OpenClaim := { program := "ytddaclhjnkimfaa", sum := "f22682caf75d8b175e46ce1d26b4dd16edea19ca4ef4593014504e6dc995e8d0", func := "loop.example/g01144/laws.FnExactFinishDeeds", spec := "fnExactFinishDeeds", unfollowed := true, recurses := true, apart := false, narrowed := true }
def FnExactFinishDeedsUptoSaid : Prop := fnExactFinishDeedsUptoRow.holds Try.pinned (OpenSpec.upto fnExactFinishDeedsSpec)

/-- 'laws.FnMixed', WHERE WHAT IT READS IS OF BULK AT MOST 1048576: true; the input reads as it did. -/
def fnMixedUptoRow : OpenClaim := { program := "ytddaclhjnkimfaa", sum := "f22682caf75d8b175e46ce1d26b4dd16edea19ca4ef4593014504e6dc995e8d0", func := "loop.example/g01144/laws.FnMixed", spec := "fnMixed", unfollowed := true, recurses := true, apart := false, narrowed := true }
def FnMixedUptoSaid : Prop := fnMixedUptoRow.holds Try.pinned (OpenSpec.upto fnMixedSpec)

/-- 'laws.FnSpoilt', WHERE WHAT IT READS IS OF BULK AT MOST 1048576: true; the input reads as it did. -/
def fnSpoiltUptoRow : OpenClaim := { program := "ytddaclhjnkimfaa", sum := "f22682caf75d8b175e46ce1d26b4dd16edea19ca4ef4593014504e6dc995e8d0", func := "loop.example/g01144/laws.FnSpoilt", spec := "fnSpoilt", unfollowed := true, recurses := true, apart := false, narrowed := true }
def FnSpoiltUptoSaid : Prop := fnSpoiltUptoRow.holds Try.pinned (OpenSpec.upto fnSpoiltSpec)

end Rows
end Go.Proofs.Ytddaclhjnkimfaa
