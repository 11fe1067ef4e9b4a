/- The law FnNear of the given program, proved for every input of the row; no conditions. -/
import Derived.Test.YtldafhnnnabipaaRows
import Derived.Test.YtldafhnnnabipaaNw6
set_option maxRecDepth 100000
noncomputable section
namespace Go.Proofs.Ytldafhnnnabipaa
open Go Go.Abs Go.Proofs Go.ChangeShapes Go.WideShapes Go.RowKit
theorem aeV(os:Os)(started:os.Started)(H:Type)(enc:TypeId×Value→H) :
  ReturnsInHanded {} Try.checked os 6 .any (Rows.fnNearSpec.pre6 enc Try.prog Try.f6 Rows.fnNearRow.domain false) (Rows.fnNearSpec.post enc Try.prog Try.f6 false true false false):=by
 refine returnsInHanded_of_change_sized (C:=Try.checked) (by kernel_rfl) started (by kernel_rfl) Try.func6
  (ChangeSpec.witness6 (enc:=enc) (C:=Try.checked) false ⟨#[],#[.slice none 0 0,.slice none 0 0],[]⟩ 8 (by kernel_rfl) (by kernel_rfl) (by kernel_rfl) (by kernel_rfl)) ?_
 intro W base args ds gs before hval hW hcnd hsz _
 refine aoN (P:=Try.prog) (fn:=Try.f6) ajq (by kernel_rfl) [(55,(.sl (.int .u8))),(55,(.sl (.int .u8)))] (by kernel_rfl) (by kernel_rfl) (rt:=4) (by kernel_rfl) (by kernel_rfl) rfl ?_ ?_ hval hW ⟨(fun _ h=>nomatch h),trivial⟩
 ·intro ds h
  match ds,h with
  |[e0,e1],_=>rfl
 ·intro dd hw;exact ⟨true,(ah (ahh dd.1 dd.2.1 hw.1 hw.2.1)).trans rfl⟩
theorem ai1:Rows.fnNearRow.holds Try.pinned (OpenSpec.ofChange Rows.fnNearSpec):=
 OpenClaim.holds_of_wide 6 Try.f6 rfl rfl rfl rfl rfl rfl rfl ⟨rfl,rfl,rfl,rfl,rfl⟩ rfl rfl rfl rfl rfl (by kernel_rfl) Try.func6 (by kernel_rfl)
  (of_decide_eq_true (by kernel_rfl)) (by unfold Func.isWrapper;first|(rw [if_pos (by decide +kernel)];kernel_rfl)|(rw [if_neg (by decide +kernel)];exact ⟨rfl,rfl⟩))
  (fun os started H enc _=>aeV os started H enc)
theorem fnNear_holds:Rows.FnNearSaid:=ai1
#print axioms fnNear_holds
end Go.Proofs.Ytldafhnnnabipaa
