/- The law FnMixed of the given program, proved for every input of the row; no conditions. -/
import Derived.Test.YtddaclhjnkimfaaRows
import Derived.Test.YtddaclhjnkimfaaMx5
namespace Go.Proofs.Ytddaclhjnkimfaa
open Go Go.Abs Go.Proofs Go.ChangeShapes Go.WideShapes Go.RowKit
set_option maxRecDepth 100000 in
theorem fnMixed_lifted (os : Os) (started : os.Started) (H : Type) (enc : TypeId × Value → H) :
    ReturnsInHanded {} Try.checked os 5 .any (Rows.fnMixedSpec.pre6 enc Try.prog Try.f5 Rows.fnMixedRow.domain false) (Rows.fnMixedSpec.post enc Try.prog Try.f5 false true false false) := by
  refine returnsInHanded_of_change_sized (C := Try.checked) (by kernel_rfl) started (by kernel_rfl) Try.func5
    (ChangeSpec.witness6 (enc := enc) (C := Try.checked) false ⟨#[], #[.slice none 0 0, .slice none 0 0], []⟩ 8 (by kernel_rfl) (by kernel_rfl) (by kernel_rfl) (by kernel_rfl)) ?_
  intro W base args ds gs before hval hW hcnd hsz _
  refine row_calls (P := Try.prog) (fn := Try.f5) l_FnMixed_ok (by kernel_rfl) [(44, (.sl (.int .u8))), (44, (.sl (.int .u8)))] (by kernel_rfl) (by kernel_rfl) (rt := 4) (by kernel_rfl) (by kernel_rfl) rfl ?_ ?_ hval hW
  · intro ds h
    match ds, h with
    | [e0, e1], _ => rfl
  · intro dd hw; exact ⟨true, (run_some_mat (l_FnMixed_law dd.1 dd.2.1 hw.1 hw.2.1)).trans rfl⟩
theorem fnMixed_over : Rows.fnMixedRow.holds Try.pinned (OpenSpec.ofChange Rows.fnMixedSpec) :=
  OpenClaim.holds_of_wide 5 Try.f5 rfl rfl rfl rfl rfl rfl rfl ⟨rfl, rfl, rfl, rfl, rfl⟩ rfl rfl rfl rfl rfl (by kernel_rfl) Try.func5 (by kernel_rfl)
    (of_decide_eq_true (by kernel_rfl)) (by unfold Func.isWrapper; first | (rw [if_pos (by decide +kernel)]; kernel_rfl) | (rw [if_neg (by decide +kernel)]; exact ⟨rfl, rfl⟩))
    (fun os started H enc _ => fnMixed_lifted os started H enc)
theorem fnMixed_holds : Rows.FnMixedSaid := fnMixed_over
#print axioms fnMixed_holds
end Go.Proofs.Ytddaclhjnkimfaa
