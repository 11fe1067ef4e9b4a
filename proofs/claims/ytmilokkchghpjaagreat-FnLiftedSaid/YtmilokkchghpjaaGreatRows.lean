/-
  No cell of these rows narrows 'for every input' (looked for: loops, veiled, ifaces, maps, wideKeys, modest, calm, conditions, laid).
  DERIVED. THE GIVEN ROWS OF THIS SEAT. 3 by the template 'for every input the law returns true; each argument reads behind the call as it read before'; 0 by the template 'total and deterministic' (their statements: YtmilokkchghpjaaGreatTotals.lean).
  GIVEN WITH THE SEED: the statements are not yours to turn. If you find one false, say at which input.
  Laid BY PROGRAM, IN A SANDBOX (cutbox-rows.mjs): the forced cells as the released guide's own fill.sh prints them over the translation 6b9a3a9838fb6ec7… (all of the seat's roots in one cut). By AI agents, Wed Nov 11 2026. No macro, syntax, notation, axiom, sorry.
-/
import Derived.Test.YtmilokkchghpjaaGreatChecked
import GoSem.Claim
import GoSem.ClaimJoined
import GoSem.ClaimMapViews
import Derived.JoinedTies
import Derived.KernelRfl
namespace Go.Proofs.YtmilokkchghpjaaGreat
/- THE CELL 'sum', in the pinned program and in every row, IS THE sha256 OF THE DUMP (.gsa) THAT YtmilokkchghpjaaGreatProg.lean LOADS. Nothing in Lean hashes anything: it is a label: what it is worth is what the hold of that sum in a sandbox is worth. -/
noncomputable def Tryz.pinned : Pinned := { name := "ytmilokkchghpjaagreat", sum := "6b9a3a9838fb6ec75de8c292cf48c2fccadabea46490f740919dbd1fedb6a1df", checked := Tryz.checked }
namespace Rows
def none {H : Type} : Left H := { results := [], args := [] }

/-- 'laws.FnExactDecodeAt': WHATEVER THE INPUT: true; the input reads as it did. -/
def fnExactDecodeAtSpec : ChangeSpec := { name := "fnExactDecodeAt", fn := fun _ => fun
  | [d1, d2, d3, d4] => { results := [.lit (.bool true)], args := [d1, d2, d3, d4] }
  | _ => none }
def fnExactDecodeAtRow : OpenClaim := { program := "ytmilokkchghpjaagreat", sum := "6b9a3a9838fb6ec75de8c292cf48c2fccadabea46490f740919dbd1fedb6a1df", func := "loop.example/g01144/laws.FnExactDecodeAt", spec := "fnExactDecodeAt", unfollowed := true, recurses := true, apart := false }
def FnExactDecodeAtSaid : Prop := fnExactDecodeAtRow.holds Tryz.pinned (OpenSpec.ofChange fnExactDecodeAtSpec)

/-- ITS FALSE NEIGHBOUR: 'it returns false'. Refute it at one input. -/
def fnExactDecodeAtWrong : ChangeSpec := { name := "fnExactDecodeAt", fn := fun _ => fun
  | [d1, d2, d3, d4] => { results := [.lit (.bool false)], args := [d1, d2, d3, d4] }
  | _ => none }
def FnExactDecodeAtWrongFalsely : Prop := fnExactDecodeAtRow.holds Tryz.pinned (OpenSpec.ofChange fnExactDecodeAtWrong)

/-- 'laws.FnLifted': WHATEVER THE INPUT: true; the input reads as it did. -/
def fnLiftedSpec : ChangeSpec := { name := "fnLifted", fn := fun _ => fun
  | [d1, d2] => { results := [.lit (.bool true)], args := [d1, d2] }
  | _ => none }
def fnLiftedRow : OpenClaim := { program := "ytmilokkchghpjaagreat", sum := "6b9a3a9838fb6ec75de8c292cf48c2fccadabea46490f740919dbd1fedb6a1df", func := "loop.example/g01144/laws.FnLifted", spec := "fnLifted", unfollowed := true, recurses := true, apart := false }
def FnLiftedSaid : Prop := fnLiftedRow.holds Tryz.pinned (OpenSpec.ofChange fnLiftedSpec)

/-- ITS FALSE NEIGHBOUR: 'it returns false'. Refute it at one input. -/
def fnLiftedWrong : ChangeSpec := { name := "fnLifted", fn := fun _ => fun
  | [d1, d2] => { results := [.lit (.bool false)], args := [d1, d2] }
  | _ => none }
def FnLiftedWrongFalsely : Prop := fnLiftedRow.holds Tryz.pinned (OpenSpec.ofChange fnLiftedWrong)

/-- 'laws.FnGabidulin': WHATEVER THE INPUT: true; the input reads as it did. -/
def fnGabidulinSpec : ChangeSpec := { name := "fnGabidulin", fn := fun _ => fun
  | [d1, d2] => { results := [.lit (.bool true)], args := [d1, d2] }
  | _ => none }
def fnGabidulinRow : OpenClaim := { program := "ytmilokkchghpjaagreat", sum := "6b9a3a9838fb6ec75de8c292cf48c2fccadabea46490f740919dbd1fedb6a1df", func := "loop.example/g01144/laws.FnGabidulin", spec := "fnGabidulin", unfollowed := true, recurses := true, apart := false }
def FnGabidulinSaid : Prop := fnGabidulinRow.holds Tryz.pinned (OpenSpec.ofChange fnGabidulinSpec)

/-- ITS FALSE NEIGHBOUR: 'it returns false'. Refute it at one input. -/
def fnGabidulinWrong : ChangeSpec := { name := "fnGabidulin", fn := fun _ => fun
  | [d1, d2] => { results := [.lit (.bool false)], args := [d1, d2] }
  | _ => none }
def FnGabidulinWrongFalsely : Prop := fnGabidulinRow.holds Tryz.pinned (OpenSpec.ofChange fnGabidulinWrong)

/- THE SECOND FORM. 'bulk': how many values and letters a reading holds, each counted each time it is reached (what is shared counts as often as it is met; a slice's spare places count too). A statement '..UptoSaid' is the law's where the arguments, and the package variables that the reading takes, are together of bulk at most 1048576: NARROWER than '..Said'. Prove '..Said' where nothing that the law and all that it calls make is longer than what came in: it says more and counts as full. Else prove '..UptoSaid'. A law counts once. -/
mutual
def uptoBulk {H : Type} : DataW H → Nat
  | .lit (.string bytes) => bytes.length + 1
  | .lit _ => 1
  | .nil => 1
  | .ptr d => uptoBulk d + 1
  | .slice elems spare => uptoBulkAll elems + uptoBulkAll spare + 1
  | .agg parts => uptoBulkAll parts + 1
  | .iface _ d => uptoBulk d + 1
  | .map entries => uptoBulkEntries entries + 1
  | .held _ => 1
def uptoBulkAll {H : Type} : List (DataW H) → Nat
  | [] => 0
  | d :: r => uptoBulk d + uptoBulkAll r
def uptoBulkEntries {H : Type} : List (Lit × DataW H) → Nat
  | [] => 0
  | x :: r => uptoBulkEntry x + uptoBulkEntries r
def uptoBulkEntry {H : Type} : Lit × DataW H → Nat
  | (.string bytes, d) => bytes.length + uptoBulk d + 1
  | (_, d) => uptoBulk d + 1
 end
def uptoSmall : (H : Type) → List (DataW H) → Bool := fun _ ds => decide (uptoBulkAll ds ≤ 1048576)
def OpenSpec.upto (s : _root_.Go.ChangeSpec) : _root_.Go.OpenSpec := { _root_.Go.OpenSpec.ofChange s with cond := some uptoSmall }

/-- 'laws.FnExactDecodeAt', WHERE WHAT IT READS IS OF BULK AT MOST 1048576: true; the input reads as it did. -/
def fnExactDecodeAtUptoRow : OpenClaim := { program := "ytmilokkchghpjaagreat", sum := "6b9a3a9838fb6ec75de8c292cf48c2fccadabea46490f740919dbd1fedb6a1df", func := "loop.example/g01144/laws.FnExactDecodeAt", spec := "fnExactDecodeAt", unfollowed := true, recurses := true, apart := false, narrowed := true }
def FnExactDecodeAtUptoSaid : Prop := fnExactDecodeAtUptoRow.holds Tryz.pinned (OpenSpec.upto fnExactDecodeAtSpec)

/-- 'laws.FnLifted', WHERE WHAT IT READS IS OF BULK AT MOST 1048576: true; the input reads as it did. -/
def fnLiftedUptoRow : OpenClaim := { program := "ytmilokkchghpjaagreat", sum := "6b9a3a9838fb6ec75de8c292cf48c2fccadabea46490f740919dbd1fedb6a1df", func := "loop.example/g01144/laws.FnLifted", spec := "fnLifted", unfollowed := true, recurses := true, apart := false, narrowed := true }
def FnLiftedUptoSaid : Prop := fnLiftedUptoRow.holds Tryz.pinned (OpenSpec.upto fnLiftedSpec)

/-- 'laws.FnGabidulin', WHERE WHAT IT READS IS OF BULK AT MOST 1048576: true; the input reads as it did. -/
def fnGabidulinUptoRow : OpenClaim := { program := "ytmilokkchghpjaagreat", sum := "6b9a3a9838fb6ec75de8c292cf48c2fccadabea46490f740919dbd1fedb6a1df", func := "loop.example/g01144/laws.FnGabidulin", spec := "fnGabidulin", unfollowed := true, recurses := true, apart := false, narrowed := true }
def FnGabidulinUptoSaid : Prop := fnGabidulinUptoRow.holds Tryz.pinned (OpenSpec.upto fnGabidulinSpec)

end Rows
end Go.Proofs.YtmilokkchghpjaaGreat
