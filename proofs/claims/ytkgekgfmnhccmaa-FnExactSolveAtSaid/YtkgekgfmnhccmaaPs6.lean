/- The law FnExactSolveAt of the given program, proved for every input of the row; no conditions. -/
import Derived.Test.YtkgekgfmnhccmaaRows
import Derived.Test.YtkgekgfmnhccmaaPs5
namespace Go.Proofs.Ytkgekgfmnhccmaa
open Go Go.Abs Go.Proofs Go.ChangeShapes Go.WideShapes Go.RowKit
set_option maxRecDepth 100000 in
theorem fnExactSolveAt_lifted (os : Os) (started : os.Started) (H : Type) (enc : TypeId × Value → H) :
  ReturnsInHanded {} Try.checked os 4 .any (Rows.fnExactSolveAtSpec.pre6 enc Try.prog Try.f4 Rows.fnExactSolveAtRow.domain false) (Rows.fnExactSolveAtSpec.post enc Try.prog Try.f4 false true false false) := by
 refine returnsInHanded_of_change_sized (C := Try.checked) (by kernel_rfl) started (by kernel_rfl) Try.func4
  (ChangeSpec.witness6 (enc := enc) (C := Try.checked) false ⟨#[], #[.agg #[.int .i64 0, .int .i64 0, .int .i64 0, .int .i64 0, .slice none 0 0, .slice none 0 0], .int .i64 0, .slice none 0 0], []⟩ 8 (by kernel_rfl) (by kernel_rfl) (by kernel_rfl) (by kernel_rfl)) ?_
 intro W base args ds gs before hval hW hcnd hsz _
 refine row_calls (P := Try.prog) (fn := Try.f4) l_FnExactSolveAt_ok (by kernel_rfl) [(48, kNet), (2, (.int .i64)), (31, (.sl (.int .i64)))] (by kernel_rfl) (by kernel_rfl) (rt := 4) (by kernel_rfl) (by kernel_rfl) rfl ?_ ?_ hval hW ⟨(fun _ h => nomatch h), trivial⟩
 ·intro ds h
  match ds, h with
  | [e0, e1, e2], _ => rfl
 ·intro dd hw; exact ⟨true, (run_some_mat (l_FnExactSolveAt_law dd.1 dd.2.1 dd.2.2.1 hw.1 hw.2.1 hw.2.2.1)).trans rfl⟩
theorem fnExactSolveAt_over : Rows.fnExactSolveAtRow.holds Try.pinned (OpenSpec.ofChange Rows.fnExactSolveAtSpec) :=
 OpenClaim.holds_of_wide 4 Try.f4 rfl rfl rfl rfl rfl rfl rfl ⟨rfl, rfl, rfl, rfl, rfl⟩ rfl rfl rfl rfl rfl (by kernel_rfl) Try.func4 (by kernel_rfl)
  (of_decide_eq_true (by kernel_rfl)) (by unfold Func.isWrapper; first | (rw [if_pos (by decide +kernel)]; kernel_rfl) | (rw [if_neg (by decide +kernel)]; exact ⟨rfl, rfl⟩))
  (fun os started H enc _ => fnExactSolveAt_lifted os started H enc)
theorem fnExactSolveAt_holds : Rows.FnExactSolveAtSaid := fnExactSolveAt_over
#print axioms fnExactSolveAt_holds
end Go.Proofs.Ytkgekgfmnhccmaa
