/- The law FnLifted of the given program, proved for every input of the row; no conditions. -/
import Derived.Test.YtmilokkchghpjaaGreatRows
import Derived.Test.YtmilokkchghpjaaGreatLf6
set_option maxRecDepth 100000
noncomputable section
namespace Go.Proofs.YtmilokkchghpjaaGreat
open Go Go.Abs Go.Proofs Go.ChangeShapes Go.WideShapes Go.RowKit
theorem acw(os:Os)(started:os.Started)(H:Type)(enc:TypeId×Value→H) :
  ReturnsInHanded {} Tryz.checked os 4 .any (Rows.fnLiftedSpec.pre6 enc Tryz.prog Tryz.f4 Rows.fnLiftedRow.domain false) (Rows.fnLiftedSpec.post enc Tryz.prog Tryz.f4 false true false false):=by
 refine returnsInHanded_of_change_sized (C:=Tryz.checked) (by kernel_rfl) started (by kernel_rfl) Tryz.func4
  (ChangeSpec.witness6 (enc:=enc) (C:=Tryz.checked) false ⟨#[],#[.slice none 0 0,.slice none 0 0],[]⟩ 8 (by kernel_rfl) (by kernel_rfl) (by kernel_rfl) (by kernel_rfl)) ?_
 intro W base args ds gs before hval hW hcnd hsz _
 refine asa (P:=Tryz.prog) (fn:=Tryz.f4) ahP (by kernel_rfl) [(49,(.sl (.int .u8))),(49,(.sl (.int .u8)))] (by kernel_rfl) (by kernel_rfl) (rt:=4) (by kernel_rfl) (by kernel_rfl) rfl ?_ ?_ hval hW ⟨(fun _ h=>nomatch h),trivial⟩
 ·intro ds h
  match ds,h with
  |[e0,e1],_=>rfl
 ·intro dd hw;exact ⟨true,(ah (afk dd.1 dd.2.1 hw.1 hw.2.1)).trans rfl⟩
theorem ahs:Rows.fnLiftedRow.holds Tryz.pinned (OpenSpec.ofChange Rows.fnLiftedSpec):=
 OpenClaim.holds_of_wide 4 Tryz.f4 rfl rfl rfl rfl rfl rfl rfl ⟨rfl,rfl,rfl,rfl,rfl⟩ rfl rfl rfl rfl rfl (by kernel_rfl) Tryz.func4 (by kernel_rfl)
  (of_decide_eq_true (by kernel_rfl)) (by unfold Func.isWrapper;first|(rw [if_pos (by decide +kernel)];kernel_rfl)|(rw [if_neg (by decide +kernel)];exact ⟨rfl,rfl⟩))
  (fun os started H enc _=>acw os started H enc)
theorem fnLifted_holds:Rows.FnLiftedSaid:=ahs
#print axioms fnLifted_holds
end Go.Proofs.YtmilokkchghpjaaGreat
