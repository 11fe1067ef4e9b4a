/- The law FnGathered of the given program, proved for every input of the row; no conditions. -/
import Derived.Test.YtkgekgfmnhccmaaRows
import Derived.Test.YtkgekgfmnhccmaaGx5
namespace Go.Proofs.Ytkgekgfmnhccmaa
open Go Go.Abs Go.Proofs Go.ChangeShapes Go.WideShapes Go.RowKit
set_option maxRecDepth 100000 in
theorem fnGathered_lifted (os : Os) (started : os.Started) (H : Type) (enc : TypeId × Value → H) :
    ReturnsInHanded {} Try.checked os 5 .any (Rows.fnGatheredSpec.pre6 enc Try.prog Try.f5 Rows.fnGatheredRow.domain false) (Rows.fnGatheredSpec.post enc Try.prog Try.f5 false true false false) := by
  refine returnsInHanded_of_change_sized (C := Try.checked) (by kernel_rfl) started (by kernel_rfl) Try.func5
    (ChangeSpec.witness6 (enc := enc) (C := Try.checked) false ⟨#[], #[.slice none 0 0, .slice none 0 0], []⟩ 8 (by kernel_rfl) (by kernel_rfl) (by kernel_rfl) (by kernel_rfl)) ?_
  intro W base args ds gs before hval hW hcnd hsz _
  refine row_calls (P := Try.prog) (fn := Try.f5) l_FnGathered_ok (by kernel_rfl) [(22, (.sl (.int .u8))), (22, (.sl (.int .u8)))] (by kernel_rfl) (by kernel_rfl) (rt := 4) (by kernel_rfl) (by kernel_rfl) rfl ?_ ?_ hval hW
  · intro ds h
    match ds, h with
    | [e0, e1], _ => rfl
  · intro dd hw; exact ⟨true, (run_some_mat (l_FnGathered_law dd.1 dd.2.1 hw.1 hw.2.1)).trans rfl⟩
theorem fnGathered_over : Rows.fnGatheredRow.holds Try.pinned (OpenSpec.ofChange Rows.fnGatheredSpec) :=
  OpenClaim.holds_of_wide 5 Try.f5 rfl rfl rfl rfl rfl rfl rfl ⟨rfl, rfl, rfl, rfl, rfl⟩ rfl rfl rfl rfl rfl (by kernel_rfl) Try.func5 (by kernel_rfl)
    (of_decide_eq_true (by kernel_rfl)) (by unfold Func.isWrapper; first | (rw [if_pos (by decide +kernel)]; kernel_rfl) | (rw [if_neg (by decide +kernel)]; exact ⟨rfl, rfl⟩))
    (fun os started H enc _ => fnGathered_lifted os started H enc)
theorem fnGathered_holds : Rows.FnGatheredSaid := fnGathered_over
#print axioms fnGathered_holds
end Go.Proofs.Ytkgekgfmnhccmaa
