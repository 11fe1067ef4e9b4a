/- The law FnExactDecodeErased of the given program, proved for every input of the row; no conditions. -/
import Derived.Test.YtihiobjhogpmdaaGreatRows
import Derived.Test.YtihiobjhogpmdaaGreatDe7
set_option maxRecDepth 100000
noncomputable section
namespace Go.Proofs.YtihiobjhogpmdaaGreat
open Go Go.Abs Go.Proofs Go.ChangeShapes Go.WideShapes Go.RowKit
theorem IL(os:Os)(started:os.Started)(H:Type)(enc:TypeId×Value→H) :
  ReturnsInHanded {} Tryz.checked os 6 .any (Rows.fnExactDecodeErasedSpec.pre6 enc Tryz.prog Tryz.f6 Rows.fnExactDecodeErasedRow.domain false) (Rows.fnExactDecodeErasedSpec.post enc Tryz.prog Tryz.f6 false true false false):=by
 refine returnsInHanded_of_change_sized (C:=Tryz.checked) (by kernel_rfl) started (by kernel_rfl) Tryz.func6
  (ChangeSpec.witness6 (enc:=enc) (C:=Tryz.checked) false ⟨#[],#[.agg #[.int .i64 0,.int .i64 0,.slice none 0 0,.int .i64 0],.slice none 0 0,.agg #[.int .i64 0,.slice none 0 0]],[]⟩ 8 (by kernel_rfl) (by kernel_rfl) (by kernel_rfl) (by kernel_rfl)) ?_
 intro W base args ds gs before hval hW hcnd hsz _
 refine azp (P:=Tryz.prog) (fn:=Tryz.f6) Nq (by kernel_rfl) [(26,aU),(24,.il),(43,bC)] (by kernel_rfl) (by kernel_rfl) (rt:=4) (by kernel_rfl) (by kernel_rfl) rfl ?_ ?_ hval hW ⟨(fun _ h=>nomatch h),trivial⟩
 ·intro ds h
  match ds,h with
  |[e0,e1,e2],_=>rfl
 ·intro dd hw;exact ⟨true,(ah (KJ dd.1 dd.2.1 dd.2.2.1 hw.1 hw.2.1 hw.2.2.1)).trans rfl⟩
theorem MU:Rows.fnExactDecodeErasedRow.holds Tryz.pinned (OpenSpec.ofChange Rows.fnExactDecodeErasedSpec):=
 OpenClaim.holds_of_wide 6 Tryz.f6 rfl rfl rfl rfl rfl rfl rfl ⟨rfl,rfl,rfl,rfl,rfl⟩ rfl rfl rfl rfl rfl (by kernel_rfl) Tryz.func6 (by kernel_rfl)
  (of_decide_eq_true (by kernel_rfl)) (by unfold Func.isWrapper;first|(rw [if_pos (by decide +kernel)];kernel_rfl)|(rw [if_neg (by decide +kernel)];exact ⟨rfl,rfl⟩))
  (fun os started H enc _=>IL os started H enc)
theorem fnExactDecodeErased_holds:Rows.FnExactDecodeErasedSaid:=MU
#print axioms fnExactDecodeErased_holds
end Go.Proofs.YtihiobjhogpmdaaGreat
