/-
  No cell of these rows narrows 'for every input' (looked for: loops, veiled, ifaces, maps, wideKeys, modest, calm, conditions, laid).
  DERIVED. THE GIVEN ROWS OF THIS SEAT. 4 by the template 'for every input the law returns true; each argument reads behind the call as it read before'; 0 by the template 'total and deterministic' (their statements: YtfjbiapiadokfaaTotals.lean).
  GIVEN WITH THE SEED: the statements are not yours to turn. If you find one false, say at which input.
  Laid BY PROGRAM, IN A SANDBOX (cutbox-rows.mjs): the forced cells as the released guide's own fill.sh prints them over the translation d955b78211ff2330… (all of the seat's roots in one cut). By AI agents, Wed Nov 11 2026. No macro, syntax, notation, axiom, sorry.
-/
import Derived.Test.YtfjbiapiadokfaaChecked
import GoSem.Claim
import GoSem.ClaimJoined
import GoSem.ClaimMapViews
import Derived.JoinedTies
import Derived.KernelRfl
namespace Go.Proofs.Ytfjbiapiadokfaa
/- THE CELL 'sum', in the pinned program and in every row, IS THE sha256 OF THE DUMP (.gsa) THAT YtfjbiapiadokfaaProg.lean LOADS. Nothing in Lean hashes anything: it is a label: what it is worth is what the hold of that sum in a sandbox is worth. -/
noncomputable def Try.pinned : Pinned := { name := "ytfjbiapiadokfaa", sum := "d955b78211ff23300f737753b22542a8bfbbc3a253e9cc9401c598cdf0d6aab1", checked := Try.checked }
namespace Rows
def none {H : Type} : Left H := { results := [], args := [] }

/-- 'laws.FnExactRefusedDeed': WHATEVER THE INPUT: true; the input reads as it did. -/
def fnExactRefusedDeedSpec : ChangeSpec := { name := "fnExactRefusedDeed", fn := fun _ => fun
  | [d1, d2] => { results := [.lit (.bool true)], args := [d1, d2] }
  | _ => none }
def fnExactRefusedDeedRow : OpenClaim := { program := "ytfjbiapiadokfaa", sum := "d955b78211ff23300f737753b22542a8bfbbc3a253e9cc9401c598cdf0d6aab1", func := "loop.example/g01144/laws.FnExactRefusedDeed", spec := "fnExactRefusedDeed", unfollowed := true, recurses := true, apart := false }
def FnExactRefusedDeedSaid : Prop := fnExactRefusedDeedRow.holds Try.pinned (OpenSpec.ofChange fnExactRefusedDeedSpec)

/-- ITS FALSE NEIGHBOUR: 'it returns false'. Refute it at one input. -/
def fnExactRefusedDeedWrong : ChangeSpec := { name := "fnExactRefusedDeed", fn := fun _ => fun
  | [d1, d2] => { results := [.lit (.bool false)], args := [d1, d2] }
  | _ => none }
def FnExactRefusedDeedWrongFalsely : Prop := fnExactRefusedDeedRow.holds Try.pinned (OpenSpec.ofChange fnExactRefusedDeedWrong)

/-- 'laws.FnExactRankAfter': WHATEVER THE INPUT: true; the input reads as it did. -/
def fnExactRankAfterSpec : ChangeSpec := { name := "fnExactRankAfter", fn := fun _ => fun
  | [d1, d2, d3] => { results := [.lit (.bool true)], args := [d1, d2, d3] }
  | _ => none }
def fnExactRankAfterRow : OpenClaim := { program := "ytfjbiapiadokfaa", sum := "d955b78211ff23300f737753b22542a8bfbbc3a253e9cc9401c598cdf0d6aab1", func := "loop.example/g01144/laws.FnExactRankAfter", spec := "fnExactRankAfter", unfollowed := true, recurses := true, apart := false }
def FnExactRankAfterSaid : Prop := fnExactRankAfterRow.holds Try.pinned (OpenSpec.ofChange fnExactRankAfterSpec)

/-- ITS FALSE NEIGHBOUR: 'it returns false'. Refute it at one input. -/
def fnExactRankAfterWrong : ChangeSpec := { name := "fnExactRankAfter", fn := fun _ => fun
  | [d1, d2, d3] => { results := [.lit (.bool false)], args := [d1, d2, d3] }
  | _ => none }
def FnExactRankAfterWrongFalsely : Prop := fnExactRankAfterRow.holds Try.pinned (OpenSpec.ofChange fnExactRankAfterWrong)

/-- 'laws.FnExactSpoiltAfter': WHATEVER THE INPUT: true; the input reads as it did. -/
def fnExactSpoiltAfterSpec : ChangeSpec := { name := "fnExactSpoiltAfter", fn := fun _ => fun
  | [d1, d2, d3] => { results := [.lit (.bool true)], args := [d1, d2, d3] }
  | _ => none }
def fnExactSpoiltAfterRow : OpenClaim := { program := "ytfjbiapiadokfaa", sum := "d955b78211ff23300f737753b22542a8bfbbc3a253e9cc9401c598cdf0d6aab1", func := "loop.example/g01144/laws.FnExactSpoiltAfter", spec := "fnExactSpoiltAfter", unfollowed := true, recurses := true, apart := false }
def FnExactSpoiltAfterSaid : Prop := fnExactSpoiltAfterRow.holds Try.pinned (OpenSpec.ofChange fnExactSpoiltAfterSpec)

/-- ITS FALSE NEIGHBOUR: 'it returns false'. Refute it at one input. -/
def fnExactSpoiltAfterWrong : ChangeSpec := { name := "fnExactSpoiltAfter", fn := fun _ => fun
  | [d1, d2, d3] => { results := [.lit (.bool false)], args := [d1, d2, d3] }
  | _ => none }
def FnExactSpoiltAfterWrongFalsely : Prop := fnExactSpoiltAfterRow.holds Try.pinned (OpenSpec.ofChange fnExactSpoiltAfterWrong)

/-- 'laws.FnExactDataAfter': WHATEVER THE INPUT: true; the input reads as it did. -/
def fnExactDataAfterSpec : ChangeSpec := { name := "fnExactDataAfter", fn := fun _ => fun
  | [d1, d2, d3] => { results := [.lit (.bool true)], args := [d1, d2, d3] }
  | _ => none }
def fnExactDataAfterRow : OpenClaim := { program := "ytfjbiapiadokfaa", sum := "d955b78211ff23300f737753b22542a8bfbbc3a253e9cc9401c598cdf0d6aab1", func := "loop.example/g01144/laws.FnExactDataAfter", spec := "fnExactDataAfter", unfollowed := true, recurses := true, apart := false }
def FnExactDataAfterSaid : Prop := fnExactDataAfterRow.holds Try.pinned (OpenSpec.ofChange fnExactDataAfterSpec)

/-- ITS FALSE NEIGHBOUR: 'it returns false'. Refute it at one input. -/
def fnExactDataAfterWrong : ChangeSpec := { name := "fnExactDataAfter", fn := fun _ => fun
  | [d1, d2, d3] => { results := [.lit (.bool false)], args := [d1, d2, d3] }
  | _ => none }
def FnExactDataAfterWrongFalsely : Prop := fnExactDataAfterRow.holds Try.pinned (OpenSpec.ofChange fnExactDataAfterWrong)

/- THE SECOND FORM. 'bulk': how many values and letters a reading holds, each counted each time it is reached (what is shared counts as often as it is met; a slice's spare places count too). A statement '..UptoSaid' is the law's where the arguments, and the package variables that the reading takes, are together of bulk at most 1048576: NARROWER than '..Said'. Prove '..Said' where nothing that the law and all that it calls make is longer than what came in: it says more and counts as full. Else prove '..UptoSaid'. A law counts once. -/
mutual
def uptoBulk {H : Type} : DataW H → Nat
  | .lit (.string bytes) => bytes.length + 1
  | .lit _ => 1
  | .nil => 1
  | .ptr d => uptoBulk d + 1
  | .slice elems spare => uptoBulkAll elems + uptoBulkAll spare + 1
  | .agg parts => uptoBulkAll parts + 1
  | .iface _ d => uptoBulk d + 1
  | .map entries => uptoBulkEntries entries + 1
  | .held _ => 1
def uptoBulkAll {H : Type} : List (DataW H) → Nat
  | [] => 0
  | d :: r => uptoBulk d + uptoBulkAll r
def uptoBulkEntries {H : Type} : List (Lit × DataW H) → Nat
  | [] => 0
  | x :: r => uptoBulkEntry x + uptoBulkEntries r
def uptoBulkEntry {H : Type} : Lit × DataW H → Nat
  | (.string bytes, d) => bytes.length + uptoBulk d + 1
  | (_, d) => uptoBulk d + 1
 end
def uptoSmall : (H : Type) → List (DataW H) → Bool := fun _ ds => decide (uptoBulkAll ds ≤ 1048576)
def OpenSpec.upto (s : _root_.Go.ChangeSpec) : _root_.Go.OpenSpec := { _root_.Go.OpenSpec.ofChange s with cond := some uptoSmall }

/-- 'laws.FnExactRefusedDeed', WHERE WHAT IT READS IS OF BULK AT MOST 1048576: true; the input reads as it did. -/
def fnExactRefusedDeedUptoRow : OpenClaim := { program := "ytfjbiapiadokfaa", sum := "d955b78211ff23300f737753b22542a8bfbbc3a253e9cc9401c598cdf0d6aab1", func := "loop.example/g01144/laws.FnExactRefusedDeed", spec := "fnExactRefusedDeed", unfollowed := true, recurses := true, apart := false, narrowed := true }
def FnExactRefusedDeedUptoSaid : Prop := fnExactRefusedDeedUptoRow.holds Try.pinned (OpenSpec.upto fnExactRefusedDeedSpec)

/-- 'laws.FnExactRankAfter', WHERE WHAT IT READS IS OF BULK AT MOST 1048576: true; the input reads as it did. -/
def fnExactRankAfterUptoRow : OpenClaim := { program := "ytfjbiapiadokfaa", sum := "d955b78211ff23300f737753b22542a8bfbbc3a253e9cc9401c598cdf0d6aab1", func := "loop.example/g01144/laws.FnExactRankAfter", spec := "fnExactRankAfter", unfollowed := true, recurses := true, apart := false, narrowed := true }
def FnExactRankAfterUptoSaid : Prop := fnExactRankAfterUptoRow.holds Try.pinned (OpenSpec.upto fnExactRankAfterSpec)

/-- 'laws.FnExactSpoiltAfter', WHERE WHAT IT READS IS OF BULK AT MOST 1048576: true; the input reads as it did. -/
def fnExactSpoiltAfterUptoRow : OpenClaim := { program := "ytfjbiapiadokfaa", sum := "d955b78211ff23300f737753b22542a8bfbbc3a253e9cc9401c598cdf0d6aab1", func := "loop.example/g01144/laws.FnExactSpoiltAfter", spec := "fnExactSpoiltAfter", unfollowed := true, recurses := true, apart := false, narrowed := true }
def FnExactSpoiltAfterUptoSaid : Prop := fnExactSpoiltAfterUptoRow.holds Try.pinned (OpenSpec.upto fnExactSpoiltAfterSpec)

/-- 'laws.FnExactDataAfter', WHERE WHAT IT READS IS OF BULK AT MOST 1048576: true; the input reads as it did. -/
def fnExactDataAfterUptoRow : OpenClaim := { program := "ytfjbiapiadokfaa", sum := "d955b78211ff23300f737753b22542a8bfbbc3a253e9cc9401c598cdf0d6aab1", func := "loop.example/g01144/laws.FnExactDataAfter", spec := "fnExactDataAfter", unfollowed := true, recurses := true, apart := false, narrowed := true }
def FnExactDataAfterUptoSaid : Prop := fnExactDataAfterUptoRow.holds Try.pinned (OpenSpec.upto fnExactDataAfterSpec)

end Rows
end Go.Proofs.Ytfjbiapiadokfaa
