/- The law FnErased of the given program, proved for every input of the row; no conditions. -/
import Derived.Test.YtmilokkchghpjaaRows
import Derived.Test.YtmilokkchghpjaaEr6
set_option maxRecDepth 100000
noncomputable section
namespace Go.Proofs.Ytmilokkchghpjaa
open Go Go.Abs Go.Proofs Go.ChangeShapes Go.WideShapes Go.RowKit
theorem acM(os:Os)(started:os.Started)(H:Type)(enc:TypeId×Value→H) :
  ReturnsInHanded {} Try.checked os 3 .any (Rows.fnErasedSpec.pre6 enc Try.prog Try.f3 Rows.fnErasedRow.domain false) (Rows.fnErasedSpec.post enc Try.prog Try.f3 false true false false):=by
 refine returnsInHanded_of_change_sized (C:=Try.checked) (by kernel_rfl) started (by kernel_rfl) Try.func3
  (ChangeSpec.witness6 (enc:=enc) (C:=Try.checked) false ⟨#[],#[.slice none 0 0,.slice none 0 0],[]⟩ 8 (by kernel_rfl) (by kernel_rfl) (by kernel_rfl) (by kernel_rfl)) ?_
 intro W base args ds gs before hval hW hcnd hsz _
 refine arK (P:=Try.prog) (fn:=Try.f3) ag8 (by kernel_rfl) [(22,(.sl (.int .u8))),(22,(.sl (.int .u8)))] (by kernel_rfl) (by kernel_rfl) (rt:=4) (by kernel_rfl) (by kernel_rfl) rfl ?_ ?_ hval hW ⟨(fun _ h=>nomatch h),trivial⟩
 ·intro ds h
  match ds,h with
  |[e0,e1],_=>rfl
 ·intro dd hw;exact ⟨true,(ah (afi dd.1 dd.2.1 hw.1 hw.2.1)).trans rfl⟩
theorem agR:Rows.fnErasedRow.holds Try.pinned (OpenSpec.ofChange Rows.fnErasedSpec):=
 OpenClaim.holds_of_wide 3 Try.f3 rfl rfl rfl rfl rfl rfl rfl ⟨rfl,rfl,rfl,rfl,rfl⟩ rfl rfl rfl rfl rfl (by kernel_rfl) Try.func3 (by kernel_rfl)
  (of_decide_eq_true (by kernel_rfl)) (by unfold Func.isWrapper;first|(rw [if_pos (by decide +kernel)];kernel_rfl)|(rw [if_neg (by decide +kernel)];exact ⟨rfl,rfl⟩))
  (fun os started H enc _=>acM os started H enc)
theorem fnErased_holds:Rows.FnErasedSaid:=agR
#print axioms fnErased_holds
end Go.Proofs.Ytmilokkchghpjaa
