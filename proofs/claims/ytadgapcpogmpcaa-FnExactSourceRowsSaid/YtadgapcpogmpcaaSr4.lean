/- The law FnExactSourceRows of the given program, proved for every input of the row; no conditions. -/
import Derived.Test.YtadgapcpogmpcaaRows
import Derived.Test.YtadgapcpogmpcaaSr3
namespace Go.Proofs.Ytadgapcpogmpcaa
open Go Go.Abs Go.Proofs Go.ChangeShapes Go.WideShapes Go.RowKit

set_option maxRecDepth 100000 in
theorem fnExactSourceRows_lifted (os : Os) (started : os.Started) (H : Type) (enc : TypeId × Value → H) :
    ReturnsInHanded {} Try.checked os 5 .any (Rows.fnExactSourceRowsSpec.pre6 enc Try.prog Try.f5 Rows.fnExactSourceRowsRow.domain false) (Rows.fnExactSourceRowsSpec.post enc Try.prog Try.f5 false true false false) := by
  refine returnsInHanded_of_change_sized (C := Try.checked) (by kernel_rfl) started (by kernel_rfl) Try.func5
    (ChangeSpec.witness6 (enc := enc) (C := Try.checked) false ⟨#[], #[.agg #[.int .i64 0, .int .i64 0, .slice none 0 0, .int .i64 0, .int .i64 0]], []⟩ 8 (by kernel_rfl) (by kernel_rfl) (by kernel_rfl) (by kernel_rfl)) ?_
  intro W base args ds gs before hval hW hcnd hsz _
  refine row_calls (P := Try.prog) (fn := Try.f5) l_FnExactSourceRows_ok (by kernel_rfl) [(30, kGather)] (by kernel_rfl) (by kernel_rfl) (rt := 4) (by kernel_rfl) (by kernel_rfl) rfl ?_ ?_ hval hW
  · intro ds h
    match ds, h with
    | [e0], _ => rfl
  · intro dd hw; exact ⟨true, (run_some_mat (l_FnExactSourceRows_law dd.1 hw.1)).trans rfl⟩
theorem fnExactSourceRows_over : Rows.fnExactSourceRowsRow.holds Try.pinned (OpenSpec.ofChange Rows.fnExactSourceRowsSpec) :=
  OpenClaim.holds_of_wide 5 Try.f5 rfl rfl rfl rfl rfl rfl rfl ⟨rfl, rfl, rfl, rfl, rfl⟩ rfl rfl rfl rfl rfl (by kernel_rfl) Try.func5 (by kernel_rfl)
    (of_decide_eq_true (by kernel_rfl)) (by unfold Func.isWrapper; first | (rw [if_pos (by decide +kernel)]; kernel_rfl) | (rw [if_neg (by decide +kernel)]; exact ⟨rfl, rfl⟩))
    (fun os started H enc _ => fnExactSourceRows_lifted os started H enc)
theorem fnExactSourceRows_holds : Rows.FnExactSourceRowsSaid := fnExactSourceRows_over
#print axioms fnExactSourceRows_holds
end Go.Proofs.Ytadgapcpogmpcaa
