/- The law FnExactValidDeed of the given program, proved for every input of the row; no conditions. -/
import Derived.Test.YtadgapcpogmpcaaRows
import Derived.Test.YtadgapcpogmpcaaVd2
namespace Go.Proofs.Ytadgapcpogmpcaa
open Go Go.Abs Go.Proofs Go.ChangeShapes Go.WideShapes Go.RowKit

set_option maxRecDepth 100000 in
theorem fnExactValidDeed_lifted (os : Os) (started : os.Started) (H : Type) (enc : TypeId × Value → H) :
    ReturnsInHanded {} Try.checked os 3 .any (Rows.fnExactValidDeedSpec.pre6 enc Try.prog Try.f3 Rows.fnExactValidDeedRow.domain false) (Rows.fnExactValidDeedSpec.post enc Try.prog Try.f3 false true false false) := by
  refine returnsInHanded_of_change_sized (C := Try.checked) (by kernel_rfl) started (by kernel_rfl) Try.func3
    (ChangeSpec.witness6 (enc := enc) (C := Try.checked) false ⟨#[], #[.agg #[.int .i64 0, .int .i64 0, .int .i64 0, .int .i64 0]], []⟩ 8 (by kernel_rfl) (by kernel_rfl) (by kernel_rfl) (by kernel_rfl)) ?_
  intro W base args ds gs before hval hW hcnd hsz _
  refine row_calls (P := Try.prog) (fn := Try.f3) l_FnExactValidDeed_ok (by kernel_rfl) [(23, kDeed)] (by kernel_rfl) (by kernel_rfl) (rt := 4) (by kernel_rfl) (by kernel_rfl) rfl ?_ ?_ hval hW
  · intro ds h
    match ds, h with
    | [e0], _ => rfl
  · intro dd hw; exact ⟨true, rfl⟩
theorem fnExactValidDeed_over : Rows.fnExactValidDeedRow.holds Try.pinned (OpenSpec.ofChange Rows.fnExactValidDeedSpec) :=
  OpenClaim.holds_of_wide 3 Try.f3 rfl rfl rfl rfl rfl rfl rfl ⟨rfl, rfl, rfl, rfl, rfl⟩ rfl rfl rfl rfl rfl (by kernel_rfl) Try.func3 (by kernel_rfl)
    (of_decide_eq_true (by kernel_rfl)) (by unfold Func.isWrapper; first | (rw [if_pos (by decide +kernel)]; kernel_rfl) | (rw [if_neg (by decide +kernel)]; exact ⟨rfl, rfl⟩))
    (fun os started H enc _ => fnExactValidDeed_lifted os started H enc)
theorem fnExactValidDeed_holds : Rows.FnExactValidDeedSaid := fnExactValidDeed_over
#print axioms fnExactValidDeed_holds
end Go.Proofs.Ytadgapcpogmpcaa
