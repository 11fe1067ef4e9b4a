/-
  No cell of these rows narrows 'for every input' (looked for: loops, veiled, ifaces, maps, wideKeys, modest, calm, conditions, laid).
  DERIVED. THE GIVEN ROWS OF THIS SEAT. 4 by the template 'for every input the law returns true; each argument reads behind the call as it read before'; 0 by the template 'total and deterministic' (their statements: YtohnlghdhbignaaTotals.lean).
  GIVEN WITH THE SEED: the statements are not yours to turn. If you find one false, say at which input.
  Laid BY PROGRAM, IN A SANDBOX (cutbox-rows.mjs): the forced cells as the released guide's own fill.sh prints them over the translation 2c494542dcca6362… (all of the seat's roots in one cut). By AI agents, Wed Nov 11 2026. No macro, syntax, notation, axiom, sorry.
-/
import Derived.Test.YtohnlghdhbignaaChecked
import GoSem.Claim
import GoSem.ClaimJoined
import GoSem.ClaimMapViews
import Derived.JoinedTies
import Derived.KernelRfl
namespace Go.Proofs.Ytohnlghdhbignaa
/- THE CELL 'sum', in the pinned program and in every row, IS THE sha256 OF THE DUMP (.gsa) THAT YtohnlghdhbignaaProg.lean LOADS. Nothing in Lean hashes anything: it is a label: what it is worth is what the hold of that sum in a sandbox is worth. -/
noncomputable def Try.pinned : Pinned := { name := "ytohnlghdhbignaa", sum := "2c494542dcca63625a08d5f001d55a850c60c60530ba586cbf390ad705fbe6c8", checked := Try.checked }
namespace Rows
def none {H : Type} : Left H := { results := [], args := [] }

/-- 'laws.FnStationCrash': WHATEVER THE INPUT: true; the input reads as it did. -/
def fnStationCrashSpec : ChangeSpec := { name := "fnStationCrash", fn := fun _ => fun
  | [d1, d2] => { results := [.lit (.bool true)], args := [d1, d2] }
  | _ => none }
def fnStationCrashRow : OpenClaim := { program := "ytohnlghdhbignaa", sum := "2c494542dcca63625a08d5f001d55a850c60c60530ba586cbf390ad705fbe6c8", func := "loop.example/g01144/laws.FnStationCrash", spec := "fnStationCrash", unfollowed := true, recurses := true, apart := false }
def FnStationCrashSaid : Prop := fnStationCrashRow.holds Try.pinned (OpenSpec.ofChange fnStationCrashSpec)

/-- ITS FALSE NEIGHBOUR: 'it returns false'. Refute it at one input. -/
def fnStationCrashWrong : ChangeSpec := { name := "fnStationCrash", fn := fun _ => fun
  | [d1, d2] => { results := [.lit (.bool false)], args := [d1, d2] }
  | _ => none }
def FnStationCrashWrongFalsely : Prop := fnStationCrashRow.holds Try.pinned (OpenSpec.ofChange fnStationCrashWrong)

/-- 'laws.FnParcels': WHATEVER THE INPUT: true; the input reads as it did. -/
def fnParcelsSpec : ChangeSpec := { name := "fnParcels", fn := fun _ => fun
  | [d1, d2] => { results := [.lit (.bool true)], args := [d1, d2] }
  | _ => none }
def fnParcelsRow : OpenClaim := { program := "ytohnlghdhbignaa", sum := "2c494542dcca63625a08d5f001d55a850c60c60530ba586cbf390ad705fbe6c8", func := "loop.example/g01144/laws.FnParcels", spec := "fnParcels", unfollowed := true, recurses := true, apart := false }
def FnParcelsSaid : Prop := fnParcelsRow.holds Try.pinned (OpenSpec.ofChange fnParcelsSpec)

/-- ITS FALSE NEIGHBOUR: 'it returns false'. Refute it at one input. -/
def fnParcelsWrong : ChangeSpec := { name := "fnParcels", fn := fun _ => fun
  | [d1, d2] => { results := [.lit (.bool false)], args := [d1, d2] }
  | _ => none }
def FnParcelsWrongFalsely : Prop := fnParcelsRow.holds Try.pinned (OpenSpec.ofChange fnParcelsWrong)

/-- 'laws.FnExactRankAt': WHATEVER THE INPUT: true; the input reads as it did. -/
def fnExactRankAtSpec : ChangeSpec := { name := "fnExactRankAt", fn := fun _ => fun
  | [d1, d2] => { results := [.lit (.bool true)], args := [d1, d2] }
  | _ => none }
def fnExactRankAtRow : OpenClaim := { program := "ytohnlghdhbignaa", sum := "2c494542dcca63625a08d5f001d55a850c60c60530ba586cbf390ad705fbe6c8", func := "loop.example/g01144/laws.FnExactRankAt", spec := "fnExactRankAt", unfollowed := true, recurses := true, apart := false }
def FnExactRankAtSaid : Prop := fnExactRankAtRow.holds Try.pinned (OpenSpec.ofChange fnExactRankAtSpec)

/-- ITS FALSE NEIGHBOUR: 'it returns false'. Refute it at one input. -/
def fnExactRankAtWrong : ChangeSpec := { name := "fnExactRankAt", fn := fun _ => fun
  | [d1, d2] => { results := [.lit (.bool false)], args := [d1, d2] }
  | _ => none }
def FnExactRankAtWrongFalsely : Prop := fnExactRankAtRow.holds Try.pinned (OpenSpec.ofChange fnExactRankAtWrong)

/-- 'laws.FnExactPlantAfter': WHATEVER THE INPUT: true; the input reads as it did. -/
def fnExactPlantAfterSpec : ChangeSpec := { name := "fnExactPlantAfter", fn := fun _ => fun
  | [d1, d2] => { results := [.lit (.bool true)], args := [d1, d2] }
  | _ => none }
def fnExactPlantAfterRow : OpenClaim := { program := "ytohnlghdhbignaa", sum := "2c494542dcca63625a08d5f001d55a850c60c60530ba586cbf390ad705fbe6c8", func := "loop.example/g01144/laws.FnExactPlantAfter", spec := "fnExactPlantAfter", unfollowed := true, recurses := true, apart := false }
def FnExactPlantAfterSaid : Prop := fnExactPlantAfterRow.holds Try.pinned (OpenSpec.ofChange fnExactPlantAfterSpec)

/-- ITS FALSE NEIGHBOUR: 'it returns false'. Refute it at one input. -/
def fnExactPlantAfterWrong : ChangeSpec := { name := "fnExactPlantAfter", fn := fun _ => fun
  | [d1, d2] => { results := [.lit (.bool false)], args := [d1, d2] }
  | _ => none }
def FnExactPlantAfterWrongFalsely : Prop := fnExactPlantAfterRow.holds Try.pinned (OpenSpec.ofChange fnExactPlantAfterWrong)

/- THE SECOND FORM. 'bulk': how many values and letters a reading holds, each counted each time it is reached (what is shared counts as often as it is met; a slice's spare places count too). A statement '..UptoSaid' is the law's where the arguments, and the package variables that the reading takes, are together of bulk at most 1048576: NARROWER than '..Said'. Prove '..Said' where nothing that the law and all that it calls make is longer than what came in: it says more and counts as full. Else prove '..UptoSaid'. A law counts once. -/
mutual
def uptoBulk {H : Type} : DataW H → Nat
  | .lit (.string bytes) => bytes.length + 1
  | .lit _ => 1
  | .nil => 1
  | .ptr d => uptoBulk d + 1
  | .slice elems spare => uptoBulkAll elems + uptoBulkAll spare + 1
  | .agg parts => uptoBulkAll parts + 1
  | .iface _ d => uptoBulk d + 1
  | .map entries => uptoBulkEntries entries + 1
  | .held _ => 1
def uptoBulkAll {H : Type} : List (DataW H) → Nat
  | [] => 0
  | d :: r => uptoBulk d + uptoBulkAll r
def uptoBulkEntries {H : Type} : List (Lit × DataW H) → Nat
  | [] => 0
  | x :: r => uptoBulkEntry x + uptoBulkEntries r
def uptoBulkEntry {H : Type} : Lit × DataW H → Nat
  | (.string bytes, d) => bytes.length + uptoBulk d + 1
  | (_, d) => uptoBulk d + 1
 end
def uptoSmall : (H : Type) → List (DataW H) → Bool := fun _ ds => decide (uptoBulkAll ds ≤ 1048576)
def OpenSpec.upto (s : _root_.Go.ChangeSpec) : _root_.Go.OpenSpec := { _root_.Go.OpenSpec.ofChange s with cond := some uptoSmall }

/-- 'laws.FnStationCrash', WHERE WHAT IT READS IS OF BULK AT MOST 1048576: true; the input reads as it did. -/
def fnStationCrashUptoRow : OpenClaim := { program := "ytohnlghdhbignaa", sum := "2c494542dcca63625a08d5f001d55a850c60c60530ba586cbf390ad705fbe6c8", func := "loop.example/g01144/laws.FnStationCrash", spec := "fnStationCrash", unfollowed := true, recurses := true, apart := false, narrowed := true }
def FnStationCrashUptoSaid : Prop := fnStationCrashUptoRow.holds Try.pinned (OpenSpec.upto fnStationCrashSpec)

/-- 'laws.FnParcels', WHERE WHAT IT READS IS OF BULK AT MOST 1048576: true; the input reads as it did. -/
def fnParcelsUptoRow : OpenClaim := { program := "ytohnlghdhbignaa", sum := "2c494542dcca63625a08d5f001d55a850c60c60530ba586cbf390ad705fbe6c8", func := "loop.example/g01144/laws.FnParcels", spec := "fnParcels", unfollowed := true, recurses := true, apart := false, narrowed := true }
def FnParcelsUptoSaid : Prop := fnParcelsUptoRow.holds Try.pinned (OpenSpec.upto fnParcelsSpec)

/-- 'laws.FnExactRankAt', WHERE WHAT IT READS IS OF BULK AT MOST 1048576: true; the input reads as it did. -/
def fnExactRankAtUptoRow : OpenClaim := { program := "ytohnlghdhbignaa", sum := "2c494542dcca63625a08d5f001d55a850c60c60530ba586cbf390ad705fbe6c8", func := "loop.example/g01144/laws.FnExactRankAt", spec := "fnExactRankAt", unfollowed := true, recurses := true, apart := false, narrowed := true }
def FnExactRankAtUptoSaid : Prop := fnExactRankAtUptoRow.holds Try.pinned (OpenSpec.upto fnExactRankAtSpec)

/-- 'laws.FnExactPlantAfter', WHERE WHAT IT READS IS OF BULK AT MOST 1048576: true; the input reads as it did. -/
def fnExactPlantAfterUptoRow : OpenClaim := { program := "ytohnlghdhbignaa", sum := "2c494542dcca63625a08d5f001d55a850c60c60530ba586cbf390ad705fbe6c8", func := "loop.example/g01144/laws.FnExactPlantAfter", spec := "fnExactPlantAfter", unfollowed := true, recurses := true, apart := false, narrowed := true }
def FnExactPlantAfterUptoSaid : Prop := fnExactPlantAfterUptoRow.holds Try.pinned (OpenSpec.upto fnExactPlantAfterSpec)

end Rows
end Go.Proofs.Ytohnlghdhbignaa
