/- The law FnExactDecodeGabidulin of the given program, proved for every input of the row; no conditions. -/
import Derived.Test.YtihiobjhogpmdaaGreatRows
import Derived.Test.YtihiobjhogpmdaaGreatDg7
set_option maxRecDepth 100000
namespace Go.Proofs.YtihiobjhogpmdaaGreat
open Go Go.Abs Go.Proofs Go.ChangeShapes Go.WideShapes Go.RowKit
theorem DZ (os:Os) (started:os.Started) (H:Type) (enc:TypeId×Value→H) :
  ReturnsInHanded {} Tryz.checked os 3 .any (Rows.fnExactDecodeGabidulinSpec.pre6 enc Tryz.prog Tryz.f3 Rows.fnExactDecodeGabidulinRow.domain false) (Rows.fnExactDecodeGabidulinSpec.post enc Tryz.prog Tryz.f3 false true false false):=by
 refine returnsInHanded_of_change_sized (C:=Tryz.checked) (by kernel_rfl) started (by kernel_rfl) Tryz.func3
  (ChangeSpec.witness6 (enc:=enc) (C:=Tryz.checked) false ⟨#[],#[.agg #[.int .i64 0,.int .i64 0,.slice none 0 0,.int .i64 0],.slice none 0 0],[]⟩ 8 (by kernel_rfl) (by kernel_rfl) (by kernel_rfl) (by kernel_rfl)) ?_
 intro W base args ds gs before hval hW hcnd hsz _
 refine asU (P:=Tryz.prog) (fn:=Tryz.f3) Hq (by kernel_rfl) [(26,aV),(24,(.sl (.int .i64)))] (by kernel_rfl) (by kernel_rfl) (rt:=4) (by kernel_rfl) (by kernel_rfl) rfl ?_ ?_ hval hW ⟨(fun _ h=>nomatch h),trivial⟩
 ·intro ds h
  match ds,h with
  |[e0,e1],_=>rfl
 ·intro dd hw;exact ⟨true,(ah (FH dd.1 dd.2.1 hw.1 hw.2.1)).trans rfl⟩
theorem G5:Rows.fnExactDecodeGabidulinRow.holds Tryz.pinned (OpenSpec.ofChange Rows.fnExactDecodeGabidulinSpec) :=
 OpenClaim.holds_of_wide 3 Tryz.f3 rfl rfl rfl rfl rfl rfl rfl ⟨rfl,rfl,rfl,rfl,rfl⟩ rfl rfl rfl rfl rfl (by kernel_rfl) Tryz.func3 (by kernel_rfl)
  (of_decide_eq_true (by kernel_rfl)) (by unfold Func.isWrapper;first | (rw [if_pos (by decide +kernel)];kernel_rfl) | (rw [if_neg (by decide +kernel)];exact ⟨rfl,rfl⟩))
  (fun os started H enc _=>DZ os started H enc)
theorem fnExactDecodeGabidulin_holds:Rows.FnExactDecodeGabidulinSaid:=G5
#print axioms fnExactDecodeGabidulin_holds
end Go.Proofs.YtihiobjhogpmdaaGreat
