/-
  No cell of these rows narrows 'for every input' (looked for: loops, veiled, ifaces, maps, wideKeys, modest, calm, conditions, laid).
  DERIVED. THE GIVEN ROWS OF THIS SEAT. 4 by the template 'for every input the law returns true; each argument reads behind the call as it read before'; 0 by the template 'total and deterministic' (their statements: YtihiobjhogpmdaaGreatTotals.lean).
  GIVEN WITH THE SEED: the statements are not yours to turn. If you find one false, say at which input.
  Laid BY PROGRAM, IN A SANDBOX (cutbox-rows.mjs): the forced cells as the released guide's own fill.sh prints them over the translation 694587c87669a1b7… (all of the seat's roots in one cut). By AI agents, Wed Nov 11 2026. No macro, syntax, notation, axiom, sorry.
-/
import Derived.Test.YtihiobjhogpmdaaGreatChecked
import GoSem.Claim
import GoSem.ClaimJoined
import GoSem.ClaimMapViews
import Derived.JoinedTies
import Derived.KernelRfl
namespace Go.Proofs.YtihiobjhogpmdaaGreat
/- THE CELL 'sum', in the pinned program and in every row, IS THE sha256 OF THE DUMP (.gsa) THAT YtihiobjhogpmdaaGreatProg.lean LOADS. Nothing in Lean hashes anything: it is a label: what it is worth is what the hold of that sum in a sandbox is worth. -/
noncomputable def Tryz.pinned : Pinned := { name := "ytihiobjhogpmdaagreat", sum := "694587c87669a1b71190dd703ddfb87af07e4506b5736f9fce04d223897f8077", checked := Tryz.checked }
namespace Rows
def none {H : Type} : Left H := { results := [], args := [] }

/-- 'laws.FnExactDecodeGabidulin': WHATEVER THE INPUT: true; the input reads as it did. -/
def fnExactDecodeGabidulinSpec : ChangeSpec := { name := "fnExactDecodeGabidulin", fn := fun _ => fun
  | [d1, d2] => { results := [.lit (.bool true)], args := [d1, d2] }
  | _ => none }
def fnExactDecodeGabidulinRow : OpenClaim := { program := "ytihiobjhogpmdaagreat", sum := "694587c87669a1b71190dd703ddfb87af07e4506b5736f9fce04d223897f8077", func := "loop.example/g01144/laws.FnExactDecodeGabidulin", spec := "fnExactDecodeGabidulin", unfollowed := true, recurses := true, apart := false }
def FnExactDecodeGabidulinSaid : Prop := fnExactDecodeGabidulinRow.holds Tryz.pinned (OpenSpec.ofChange fnExactDecodeGabidulinSpec)

/-- ITS FALSE NEIGHBOUR: 'it returns false'. Refute it at one input. -/
def fnExactDecodeGabidulinWrong : ChangeSpec := { name := "fnExactDecodeGabidulin", fn := fun _ => fun
  | [d1, d2] => { results := [.lit (.bool false)], args := [d1, d2] }
  | _ => none }
def FnExactDecodeGabidulinWrongFalsely : Prop := fnExactDecodeGabidulinRow.holds Tryz.pinned (OpenSpec.ofChange fnExactDecodeGabidulinWrong)

/-- 'laws.FnExactErrorLocator': WHATEVER THE INPUT: true; the input reads as it did. -/
def fnExactErrorLocatorSpec : ChangeSpec := { name := "fnExactErrorLocator", fn := fun _ => fun
  | [d1, d2] => { results := [.lit (.bool true)], args := [d1, d2] }
  | _ => none }
def fnExactErrorLocatorRow : OpenClaim := { program := "ytihiobjhogpmdaagreat", sum := "694587c87669a1b71190dd703ddfb87af07e4506b5736f9fce04d223897f8077", func := "loop.example/g01144/laws.FnExactErrorLocator", spec := "fnExactErrorLocator", unfollowed := true, recurses := true, apart := false }
def FnExactErrorLocatorSaid : Prop := fnExactErrorLocatorRow.holds Tryz.pinned (OpenSpec.ofChange fnExactErrorLocatorSpec)

/-- ITS FALSE NEIGHBOUR: 'it returns false'. Refute it at one input. -/
def fnExactErrorLocatorWrong : ChangeSpec := { name := "fnExactErrorLocator", fn := fun _ => fun
  | [d1, d2] => { results := [.lit (.bool false)], args := [d1, d2] }
  | _ => none }
def FnExactErrorLocatorWrongFalsely : Prop := fnExactErrorLocatorRow.holds Tryz.pinned (OpenSpec.ofChange fnExactErrorLocatorWrong)

/-- 'laws.FnExactDecodeHinted': WHATEVER THE INPUT: true; the input reads as it did. -/
def fnExactDecodeHintedSpec : ChangeSpec := { name := "fnExactDecodeHinted", fn := fun _ => fun
  | [d1, d2, d3] => { results := [.lit (.bool true)], args := [d1, d2, d3] }
  | _ => none }
def fnExactDecodeHintedRow : OpenClaim := { program := "ytihiobjhogpmdaagreat", sum := "694587c87669a1b71190dd703ddfb87af07e4506b5736f9fce04d223897f8077", func := "loop.example/g01144/laws.FnExactDecodeHinted", spec := "fnExactDecodeHinted", unfollowed := true, recurses := true, apart := false }
def FnExactDecodeHintedSaid : Prop := fnExactDecodeHintedRow.holds Tryz.pinned (OpenSpec.ofChange fnExactDecodeHintedSpec)

/-- ITS FALSE NEIGHBOUR: 'it returns false'. Refute it at one input. -/
def fnExactDecodeHintedWrong : ChangeSpec := { name := "fnExactDecodeHinted", fn := fun _ => fun
  | [d1, d2, d3] => { results := [.lit (.bool false)], args := [d1, d2, d3] }
  | _ => none }
def FnExactDecodeHintedWrongFalsely : Prop := fnExactDecodeHintedRow.holds Tryz.pinned (OpenSpec.ofChange fnExactDecodeHintedWrong)

/-- 'laws.FnExactDecodeErased': WHATEVER THE INPUT: true; the input reads as it did. -/
def fnExactDecodeErasedSpec : ChangeSpec := { name := "fnExactDecodeErased", fn := fun _ => fun
  | [d1, d2, d3] => { results := [.lit (.bool true)], args := [d1, d2, d3] }
  | _ => none }
def fnExactDecodeErasedRow : OpenClaim := { program := "ytihiobjhogpmdaagreat", sum := "694587c87669a1b71190dd703ddfb87af07e4506b5736f9fce04d223897f8077", func := "loop.example/g01144/laws.FnExactDecodeErased", spec := "fnExactDecodeErased", unfollowed := true, recurses := true, apart := false }
def FnExactDecodeErasedSaid : Prop := fnExactDecodeErasedRow.holds Tryz.pinned (OpenSpec.ofChange fnExactDecodeErasedSpec)

/-- ITS FALSE NEIGHBOUR: 'it returns false'. Refute it at one input. -/
def fnExactDecodeErasedWrong : ChangeSpec := { name := "fnExactDecodeErased", fn := fun _ => fun
  | [d1, d2, d3] => { results := [.lit (.bool false)], args := [d1, d2, d3] }
  | _ => none }
def FnExactDecodeErasedWrongFalsely : Prop := fnExactDecodeErasedRow.holds Tryz.pinned (OpenSpec.ofChange fnExactDecodeErasedWrong)

/- THE SECOND FORM. 'bulk': how many values and letters a reading holds, each counted each time it is reached (what is shared counts as often as it is met; a slice's spare places count too). A statement '..UptoSaid' is the law's where the arguments, and the package variables that the reading takes, are together of bulk at most 1048576: NARROWER than '..Said'. Prove '..Said' where nothing that the law and all that it calls make is longer than what came in: it says more and counts as full. Else prove '..UptoSaid'. A law counts once. -/
mutual
def uptoBulk {H : Type} : DataW H → Nat
  | .lit (.string bytes) => bytes.length + 1
  | .lit _ => 1
  | .nil => 1
  | .ptr d => uptoBulk d + 1
  | .slice elems spare => uptoBulkAll elems + uptoBulkAll spare + 1
  | .agg parts => uptoBulkAll parts + 1
  | .iface _ d => uptoBulk d + 1
  | .map entries => uptoBulkEntries entries + 1
  | .held _ => 1
def uptoBulkAll {H : Type} : List (DataW H) → Nat
  | [] => 0
  | d :: r => uptoBulk d + uptoBulkAll r
def uptoBulkEntries {H : Type} : List (Lit × DataW H) → Nat
  | [] => 0
  | x :: r => uptoBulkEntry x + uptoBulkEntries r
def uptoBulkEntry {H : Type} : Lit × DataW H → Nat
  | (.string bytes, d) => bytes.length + uptoBulk d + 1
  | (_, d) => uptoBulk d + 1
 end
def uptoSmall : (H : Type) → List (DataW H) → Bool := fun _ ds => decide (uptoBulkAll ds ≤ 1048576)
def OpenSpec.upto (s : _root_.Go.ChangeSpec) : _root_.Go.OpenSpec := { _root_.Go.OpenSpec.ofChange s with cond := some uptoSmall }

/-- 'laws.FnExactDecodeGabidulin', WHERE WHAT IT READS IS OF BULK AT MOST 1048576: true; the input reads as it did. -/
def fnExactDecodeGabidulinUptoRow : OpenClaim := { program := "ytihiobjhogpmdaagreat", sum := "694587c87669a1b71190dd703ddfb87af07e4506b5736f9fce04d223897f8077", func := "loop.example/g01144/laws.FnExactDecodeGabidulin", spec := "fnExactDecodeGabidulin", unfollowed := true, recurses := true, apart := false, narrowed := true }
def FnExactDecodeGabidulinUptoSaid : Prop := fnExactDecodeGabidulinUptoRow.holds Tryz.pinned (OpenSpec.upto fnExactDecodeGabidulinSpec)

/-- 'laws.FnExactErrorLocator', WHERE WHAT IT READS IS OF BULK AT MOST 1048576: true; the input reads as it did. -/
def fnExactErrorLocatorUptoRow : OpenClaim := { program := "ytihiobjhogpmdaagreat", sum := "694587c87669a1b71190dd703ddfb87af07e4506b5736f9fce04d223897f8077", func := "loop.example/g01144/laws.FnExactErrorLocator", spec := "fnExactErrorLocator", unfollowed := true, recurses := true, apart := false, narrowed := true }
def FnExactErrorLocatorUptoSaid : Prop := fnExactErrorLocatorUptoRow.holds Tryz.pinned (OpenSpec.upto fnExactErrorLocatorSpec)

/-- 'laws.FnExactDecodeHinted', WHERE WHAT IT READS IS OF BULK AT MOST 1048576: true; the input reads as it did. -/
def fnExactDecodeHintedUptoRow : OpenClaim := { program := "ytihiobjhogpmdaagreat", sum := "694587c87669a1b71190dd703ddfb87af07e4506b5736f9fce04d223897f8077", func := "loop.example/g01144/laws.FnExactDecodeHinted", spec := "fnExactDecodeHinted", unfollowed := true, recurses := true, apart := false, narrowed := true }
def FnExactDecodeHintedUptoSaid : Prop := fnExactDecodeHintedUptoRow.holds Tryz.pinned (OpenSpec.upto fnExactDecodeHintedSpec)

/-- 'laws.FnExactDecodeErased', WHERE WHAT IT READS IS OF BULK AT MOST 1048576: true; the input reads as it did. -/
def fnExactDecodeErasedUptoRow : OpenClaim := { program := "ytihiobjhogpmdaagreat", sum := "694587c87669a1b71190dd703ddfb87af07e4506b5736f9fce04d223897f8077", func := "loop.example/g01144/laws.FnExactDecodeErased", spec := "fnExactDecodeErased", unfollowed := true, recurses := true, apart := false, narrowed := true }
def FnExactDecodeErasedUptoSaid : Prop := fnExactDecodeErasedUptoRow.holds Tryz.pinned (OpenSpec.upto fnExactDecodeErasedSpec)

end Rows
end Go.Proofs.YtihiobjhogpmdaaGreat
