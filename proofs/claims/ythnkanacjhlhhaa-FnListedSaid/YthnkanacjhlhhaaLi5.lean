/- Part 5 of the proof of FnListed. -/
import Derived.Test.YthnkanacjhlhhaaLi4
namespace Go.Proofs.Ythnkanacjhlhhaa
open Go Go.Abs Go.Proofs
noncomputable def i_matricesCodec1 (p0 : TMatrix) : Tre Bool :=
 .mat (i_ValidMatrix_F p0) fun r1 =>
 .ret (!r1)
noncomputable def i_matricesCodec1_F (p0 : TMatrix) : Option Bool := (i_matricesCodec1 p0).run some
noncomputable def i_matricesCodec1_V : Env := ⟨tau, [(129, i_ValidMatrix_c)], []⟩
noncomputable def i_matricesCodec1_b : Code := (Try.f131.body).getD .skip
noncomputable def i_matricesCodec1_I : FnI := ⟨i_matricesCodec1_b, Try.f131.results.toList, Try.f131.resultTypes.toList, []⟩
noncomputable def i_matricesCodec1_out (_zp0 : Bool) (_p0 : TMatrix) : Bool → CallOut := fun r => ⟨(.imm true .bool r), [], []⟩
set_option maxRecDepth 100000 in
theorem i_matricesCodec1_eq : ∀ (zp0 : Bool) (p0 : TMatrix), denFn i_matricesCodec1_V i_matricesCodec1_I ⟨[(.imm zp0 kMatrix p0)], []⟩ = (i_matricesCodec1 p0).run fun r => some (i_matricesCodec1_out zp0 p0 r) := fun _ _ => by kernel_rfl
noncomputable def i_matricesCodec1_G (av : List AV) (rs : List Root) : Tre CallOut :=
 asCons av fun a0_ av0 =>
 asEnd av0 <|
 asEnd rs <|
 asImm kMatrix a0_ fun z2 d1 =>
 .mat (i_matricesCodec1_F d1) fun r => .ret (i_matricesCodec1_out z2 d1 r)
noncomputable def i_matricesCodec1_c : Ctr := ⟨[], fun ci => i_matricesCodec1_G ci.args ci.roots, false⟩
theorem i_matricesCodec1_env : EnvOK Try.prog .none i_matricesCodec1_V := (envOK_cons i_ValidMatrix_ok ent129 envOK_nil)
set_option maxRecDepth 100000 in
theorem i_matricesCodec1_ok : Contract Try.prog .none 131 i_matricesCodec1_c := by
 have hl : LoopsOK i_matricesCodec1_V [] i_matricesCodec1_b := loopsOK_nil (by kernel_rfl)
 refine (contract_of (F := i_matricesCodec1_I) tau_tys i_matricesCodec1_env Try.func131 (by kernel_rfl) (by kernel_rfl) (by kernel_rfl) hl []).weaken ?_
 rintro ⟨av, rs⟩ co h
 have h : (i_matricesCodec1_G av rs).run some = some co := h
 obtain ⟨a0_, av0, rfl, h_0⟩ := asCons_spec h
 obtain ⟨rfl, h_1⟩ := asEnd_spec h_0
 obtain ⟨rfl, h_2⟩ := asEnd_spec h_1
 obtain ⟨z2, d1, rfl, h_3⟩ := asImm_spec h_2
 exact fin_mat (i_matricesCodec1_eq z2 d1) h_3
end Go.Proofs.Ythnkanacjhlhhaa

namespace Go.Proofs.Ythnkanacjhlhhaa
open Go Go.Abs Go.Proofs
noncomputable def slices_IndexFunc_Matrix_i_matricesCodec1_l2 (h2_0_0 : (List TMatrix)) (h2_0_1 : Int) : Int → Tre (Int ⊕ (Int ⊕ Unit)) := fun s2 =>
 .cond (decide (s2 < h2_0_1))
  (.ite (0 ≤ s2 ∧ s2 < (h2_0_0.length : Int)) <|
  .mat (h2_0_0[s2.toNat]?) fun x1 =>
  .mat (i_matricesCodec1_F x1) fun r2 =>
  .cond r2
   (.ret (.inr (.inl s2)))
   (.ret (.inl (iwrap .i64 (s2 + 1)))))
  (.ret (.inr (.inr ())))
noncomputable def slices_IndexFunc_Matrix_i_matricesCodec1 (p0 : (List TMatrix)) : Tre Int :=
 .mat (loopF (slices_IndexFunc_Matrix_i_matricesCodec1_l2 p0 (p0.length : Int)) 0) fun l3 =>
 .alt l3
  (fun a4 =>
   .ret a4)
  (fun _ =>
   .ret (-1))
noncomputable def slices_IndexFunc_Matrix_i_matricesCodec1_F (p0 : (List TMatrix)) : Option Int := (slices_IndexFunc_Matrix_i_matricesCodec1 p0).run some
noncomputable def slices_IndexFunc_Matrix_i_matricesCodec1_V : Env := ⟨tau, [(131, i_matricesCodec1_c)], []⟩
noncomputable def slices_IndexFunc_Matrix_i_matricesCodec1_b : Code := (Try.f46.body).getD .skip
noncomputable def slices_IndexFunc_Matrix_i_matricesCodec1_l2_mk (z2_0 : Bool) (h2_0_0 : (List TMatrix)) (h2_0_1 : Int) : Int → St := fun x => stOf [(0, (.imm z2_0 (.sl kMatrix) h2_0_0)), (1, (.fn 131 [])), (7, (.imm true (.int .i64) h2_0_1)), (8, (.imm true (.int .i64) x))] []
noncomputable def slices_IndexFunc_Matrix_i_matricesCodec1_l2_out (_z2_0 : Bool) (_h2_0_0 : (List TMatrix)) (_h2_0_1 : Int) : (Int ⊕ Unit) → Ex × St
 | .inl x => (.ret, stOf [(4, (.imm true (.int .i64) x))] [])
 | .inr x => (.exit 0, stOf [(4, .dead)] [])
noncomputable def slices_IndexFunc_Matrix_i_matricesCodec1_l2_D (s : St) : Tre (Ex × St) :=
 asImm (.sl kMatrix) (s.tmps 0) fun z3 d2 =>
 asFn 131 [] (s.tmps 1) <|
 asImmZ true (.int .i64) (s.tmps 7) fun d6 =>
 asImmZ true (.int .i64) (s.tmps 8) fun d8 =>
 .mat (loopF (slices_IndexFunc_Matrix_i_matricesCodec1_l2 d2 d6) d8) fun x => .alt x (fun a0 => .ret (slices_IndexFunc_Matrix_i_matricesCodec1_l2_out z3 d2 d6 (.inl a0))) (fun b0 => .ret (slices_IndexFunc_Matrix_i_matricesCodec1_l2_out z3 d2 d6 (.inr b0)))
noncomputable def slices_IndexFunc_Matrix_i_matricesCodec1_l2_L : LoopI := ⟨([0, 1, 7, 8], []), ([4], []), slices_IndexFunc_Matrix_i_matricesCodec1_l2_D⟩
noncomputable def slices_IndexFunc_Matrix_i_matricesCodec1_A : List (Nat × LoopI) := [(2, slices_IndexFunc_Matrix_i_matricesCodec1_l2_L)]
set_option maxRecDepth 100000 in
theorem slices_IndexFunc_Matrix_i_matricesCodec1_l2_step : ∀ (z2_0 : Bool) (h2_0_0 : (List TMatrix)) (h2_0_1 : Int) (x : Int) (c : St → Option (Ex × St)), den slices_IndexFunc_Matrix_i_matricesCodec1_V slices_IndexFunc_Matrix_i_matricesCodec1_A (loopAt slices_IndexFunc_Matrix_i_matricesCodec1_b 0) (slices_IndexFunc_Matrix_i_matricesCodec1_l2_mk z2_0 h2_0_0 h2_0_1 x) (roundK slices_IndexFunc_Matrix_i_matricesCodec1_l2_L.kp slices_IndexFunc_Matrix_i_matricesCodec1_l2_L.kx c) = (slices_IndexFunc_Matrix_i_matricesCodec1_l2 h2_0_0 h2_0_1 x).run (roundR (slices_IndexFunc_Matrix_i_matricesCodec1_l2_mk z2_0 h2_0_0 h2_0_1) (slices_IndexFunc_Matrix_i_matricesCodec1_l2_out z2_0 h2_0_0 h2_0_1) c) := fun _ _ _ _ _ => by
 kernel_rfl
theorem slices_IndexFunc_Matrix_i_matricesCodec1_l2_ok : LoopOK slices_IndexFunc_Matrix_i_matricesCodec1_V slices_IndexFunc_Matrix_i_matricesCodec1_A (loopAt slices_IndexFunc_Matrix_i_matricesCodec1_b 0) slices_IndexFunc_Matrix_i_matricesCodec1_l2_L := loopOK_of fun s e s' h => by
 generalize hs : restrict slices_IndexFunc_Matrix_i_matricesCodec1_l2_L.kp s = s1 at h
 have h : (slices_IndexFunc_Matrix_i_matricesCodec1_l2_D s1).run some = some (e, s') := h
 obtain ⟨z3, d2, e1, h_0⟩ := asImm_spec h
 obtain ⟨e4, h_1⟩ := asFn_spec h_0
 obtain ⟨d6, e5, h_2⟩ := asImmZ_spec h_1
 obtain ⟨d8, e7, h_3⟩ := asImmZ_spec h_2
 obtain ⟨y, hy, hz⟩ := mat_some h_3
 refine ⟨_, _, slices_IndexFunc_Matrix_i_matricesCodec1_l2_mk z3 d2 d6, slices_IndexFunc_Matrix_i_matricesCodec1_l2_out z3 d2 d6, slices_IndexFunc_Matrix_i_matricesCodec1_l2 d2 d6, d8, y, ?_, hy, ?_, slices_IndexFunc_Matrix_i_matricesCodec1_l2_step z3 d2 d6⟩
 ·subst hs; exact restrict_eq (T := [(0, (.imm z3 (.sl kMatrix) d2)), (1, (.fn 131 [])), (7, (.imm true (.int .i64) d6)), (8, (.imm true (.int .i64) d8))]) (U := []) rfl rfl ⟨e1, e4, e5, e7, trivial⟩ trivial
 ·rcases y with x | x <;> exact Option.some.inj hz
noncomputable def slices_IndexFunc_Matrix_i_matricesCodec1_I : FnI := ⟨slices_IndexFunc_Matrix_i_matricesCodec1_b, Try.f46.results.toList, Try.f46.resultTypes.toList, slices_IndexFunc_Matrix_i_matricesCodec1_A⟩
noncomputable def slices_IndexFunc_Matrix_i_matricesCodec1_out (_zp0 : Bool) (_p0 : (List TMatrix)) : Int → CallOut := fun r => ⟨(.imm true (.int .i64) r), [], []⟩
set_option maxRecDepth 100000 in
theorem slices_IndexFunc_Matrix_i_matricesCodec1_eq : ∀ (zp0 : Bool) (p0 : (List TMatrix)), denFn slices_IndexFunc_Matrix_i_matricesCodec1_V slices_IndexFunc_Matrix_i_matricesCodec1_I ⟨[(.imm zp0 (.sl kMatrix) p0), (.fn 131 [])], []⟩ = (slices_IndexFunc_Matrix_i_matricesCodec1 p0).run fun r => some (slices_IndexFunc_Matrix_i_matricesCodec1_out zp0 p0 r) := fun _ _ => by kernel_rfl
noncomputable def slices_IndexFunc_Matrix_i_matricesCodec1_G (av : List AV) (rs : List Root) : Tre CallOut :=
 asCons av fun a0_ av0 =>
 asCons av0 fun a1_ av1 =>
 asEnd av1 <|
 asEnd rs <|
 asImm (.sl kMatrix) a0_ fun z2 d1 =>
 asFn 131 [] a1_ <|
 .mat (slices_IndexFunc_Matrix_i_matricesCodec1_F d1) fun r => .ret (slices_IndexFunc_Matrix_i_matricesCodec1_out z2 d1 r)
noncomputable def slices_IndexFunc_Matrix_i_matricesCodec1_c : Ctr := ⟨[], fun ci => slices_IndexFunc_Matrix_i_matricesCodec1_G ci.args ci.roots, false⟩
theorem slices_IndexFunc_Matrix_i_matricesCodec1_env : EnvOK Try.prog .none slices_IndexFunc_Matrix_i_matricesCodec1_V := (envOK_cons i_matricesCodec1_ok ent131 envOK_nil)
set_option maxRecDepth 100000 in
theorem slices_IndexFunc_Matrix_i_matricesCodec1_ok : Contract Try.prog .none 46 slices_IndexFunc_Matrix_i_matricesCodec1_c := by
 have hl : LoopsOK slices_IndexFunc_Matrix_i_matricesCodec1_V slices_IndexFunc_Matrix_i_matricesCodec1_A slices_IndexFunc_Matrix_i_matricesCodec1_b := (loopsOK_all (n := 1) (by kernel_rfl) fun k hk => by
   match k, hk with
   | 0, _ => exact loopOK_at (id := 2) (L := slices_IndexFunc_Matrix_i_matricesCodec1_l2_L) (by kernel_rfl) (by kernel_rfl) slices_IndexFunc_Matrix_i_matricesCodec1_l2_ok)
 refine (contract_of (F := slices_IndexFunc_Matrix_i_matricesCodec1_I) tau_tys slices_IndexFunc_Matrix_i_matricesCodec1_env Try.func46 (by kernel_rfl) (by kernel_rfl) (by kernel_rfl) hl []).weaken ?_
 rintro ⟨av, rs⟩ co h
 have h : (slices_IndexFunc_Matrix_i_matricesCodec1_G av rs).run some = some co := h
 obtain ⟨a0_, av0, rfl, h_0⟩ := asCons_spec h
 obtain ⟨a1_, av1, rfl, h_1⟩ := asCons_spec h_0
 obtain ⟨rfl, h_2⟩ := asEnd_spec h_1
 obtain ⟨rfl, h_3⟩ := asEnd_spec h_2
 obtain ⟨z2, d1, rfl, h_4⟩ := asImm_spec h_3
 obtain ⟨rfl, h_5⟩ := asFn_spec h_4
 exact fin_mat (slices_IndexFunc_Matrix_i_matricesCodec1_eq z2 d1) h_5
end Go.Proofs.Ythnkanacjhlhhaa

namespace Go.Proofs.Ythnkanacjhlhhaa
open Go Go.Abs Go.Proofs
noncomputable def slices_ContainsFunc_Matrix_i_matricesCodec1 (p0 : (List TMatrix)) : Tre Bool :=
 .mat (slices_IndexFunc_Matrix_i_matricesCodec1_F p0) fun r1 =>
 .ret (decide (r1 ≥ 0))
noncomputable def slices_ContainsFunc_Matrix_i_matricesCodec1_F (p0 : (List TMatrix)) : Option Bool := (slices_ContainsFunc_Matrix_i_matricesCodec1 p0).run some
noncomputable def slices_ContainsFunc_Matrix_i_matricesCodec1_V : Env := ⟨tau, [(46, slices_IndexFunc_Matrix_i_matricesCodec1_c)], []⟩
noncomputable def slices_ContainsFunc_Matrix_i_matricesCodec1_b : Code := (Try.f88.body).getD .skip
noncomputable def slices_ContainsFunc_Matrix_i_matricesCodec1_I : FnI := ⟨slices_ContainsFunc_Matrix_i_matricesCodec1_b, Try.f88.results.toList, Try.f88.resultTypes.toList, []⟩
noncomputable def slices_ContainsFunc_Matrix_i_matricesCodec1_out (_zp0 : Bool) (_p0 : (List TMatrix)) : Bool → CallOut := fun r => ⟨(.imm true .bool r), [], []⟩
set_option maxRecDepth 100000 in
theorem slices_ContainsFunc_Matrix_i_matricesCodec1_eq : ∀ (zp0 : Bool) (p0 : (List TMatrix)), denFn slices_ContainsFunc_Matrix_i_matricesCodec1_V slices_ContainsFunc_Matrix_i_matricesCodec1_I ⟨[(.imm zp0 (.sl kMatrix) p0), (.fn 131 [])], []⟩ = (slices_ContainsFunc_Matrix_i_matricesCodec1 p0).run fun r => some (slices_ContainsFunc_Matrix_i_matricesCodec1_out zp0 p0 r) := fun _ _ => by kernel_rfl
noncomputable def slices_ContainsFunc_Matrix_i_matricesCodec1_G (av : List AV) (rs : List Root) : Tre CallOut :=
 asCons av fun a0_ av0 =>
 asCons av0 fun a1_ av1 =>
 asEnd av1 <|
 asEnd rs <|
 asImm (.sl kMatrix) a0_ fun z2 d1 =>
 asFn 131 [] a1_ <|
 .mat (slices_ContainsFunc_Matrix_i_matricesCodec1_F d1) fun r => .ret (slices_ContainsFunc_Matrix_i_matricesCodec1_out z2 d1 r)
noncomputable def slices_ContainsFunc_Matrix_i_matricesCodec1_c : Ctr := ⟨[], fun ci => slices_ContainsFunc_Matrix_i_matricesCodec1_G ci.args ci.roots, false⟩
theorem slices_ContainsFunc_Matrix_i_matricesCodec1_env : EnvOK Try.prog .none slices_ContainsFunc_Matrix_i_matricesCodec1_V := (envOK_cons slices_IndexFunc_Matrix_i_matricesCodec1_ok ent46 envOK_nil)
set_option maxRecDepth 100000 in
theorem slices_ContainsFunc_Matrix_i_matricesCodec1_ok : Contract Try.prog .none 88 slices_ContainsFunc_Matrix_i_matricesCodec1_c := by
 have hl : LoopsOK slices_ContainsFunc_Matrix_i_matricesCodec1_V [] slices_ContainsFunc_Matrix_i_matricesCodec1_b := loopsOK_nil (by kernel_rfl)
 refine (contract_of (F := slices_ContainsFunc_Matrix_i_matricesCodec1_I) tau_tys slices_ContainsFunc_Matrix_i_matricesCodec1_env Try.func88 (by kernel_rfl) (by kernel_rfl) (by kernel_rfl) hl []).weaken ?_
 rintro ⟨av, rs⟩ co h
 have h : (slices_ContainsFunc_Matrix_i_matricesCodec1_G av rs).run some = some co := h
 obtain ⟨a0_, av0, rfl, h_0⟩ := asCons_spec h
 obtain ⟨a1_, av1, rfl, h_1⟩ := asCons_spec h_0
 obtain ⟨rfl, h_2⟩ := asEnd_spec h_1
 obtain ⟨rfl, h_3⟩ := asEnd_spec h_2
 obtain ⟨z2, d1, rfl, h_4⟩ := asImm_spec h_3
 obtain ⟨rfl, h_5⟩ := asFn_spec h_4
 exact fin_mat (slices_ContainsFunc_Matrix_i_matricesCodec1_eq z2 d1) h_5
end Go.Proofs.Ythnkanacjhlhhaa

namespace Go.Proofs.Ythnkanacjhlhhaa
open Go Go.Abs Go.Proofs
noncomputable def i_SolveRowsc1_1209 (p0 : TMatrix) (p1 : Int) : Tre Bool :=
 .mat (i_Matrix_has_F p0 p1) fun r1 =>
 .ret r1
noncomputable def i_SolveRowsc1_1209_F (p0 : TMatrix) (p1 : Int) : Option Bool := (i_SolveRowsc1_1209 p0 p1).run some
noncomputable def i_SolveRowsc1_1209_V : Env := ⟨tau, [(45, i_Matrix_has_c)], []⟩
noncomputable def i_SolveRowsc1_1209_b : Code := (Try.f79.body).getD .skip
noncomputable def i_SolveRowsc1_1209_I : FnI := ⟨i_SolveRowsc1_1209_b, Try.f79.results.toList, Try.f79.resultTypes.toList, []⟩
noncomputable def i_SolveRowsc1_1209_out (zp0 : Bool) (p0 : TMatrix) (p1 : Int) : Bool → CallOut := fun r => ⟨(.imm true .bool r), [⟨true, kMatrix, (.imm zp0), p0⟩, ⟨true, (.int .i64), .own, p1⟩], []⟩
set_option maxRecDepth 100000 in
theorem i_SolveRowsc1_1209_eq : ∀ (zp0 : Bool) (p0 : TMatrix) (p1 : Int), denFn i_SolveRowsc1_1209_V i_SolveRowsc1_1209_I ⟨[(.ptr (0, 0) []), (.ptr (0, 1) [])], [⟨true, kMatrix, (.imm zp0), p0⟩, ⟨true, (.int .i64), .own, p1⟩]⟩ = (i_SolveRowsc1_1209 p0 p1).run fun r => some (i_SolveRowsc1_1209_out zp0 p0 p1 r) := fun _ _ _ => by kernel_rfl
noncomputable def i_SolveRowsc1_1209_G (av : List AV) (rs : List Root) : Tre CallOut :=
 asCons av fun a0_ av0 =>
 asCons av0 fun a1_ av1 =>
 asEnd av1 <|
 asCons rs fun r0_ rs0 =>
 asCons rs0 fun r1_ rs1 =>
 asEnd rs1 <|
 asPtr (0, 0) [] a0_ <|
 asPtr (0, 1) [] a1_ <|
 asRt true kMatrix r0_ fun m1 d2 =>
 asMImm m1 fun z3 =>
 asRt true (.int .i64) r1_ fun m4 d5 =>
 asM .own m4 <|
 .mat (i_SolveRowsc1_1209_F d2 d5) fun r => .ret (i_SolveRowsc1_1209_out z3 d2 d5 r)
noncomputable def i_SolveRowsc1_1209_c : Ctr := ⟨[], fun ci => i_SolveRowsc1_1209_G ci.args ci.roots, false⟩
theorem i_SolveRowsc1_1209_env : EnvOK Try.prog .none i_SolveRowsc1_1209_V := (envOK_cons i_Matrix_has_ok ent45 envOK_nil)
set_option maxRecDepth 100000 in
theorem i_SolveRowsc1_1209_ok : Contract Try.prog .none 79 i_SolveRowsc1_1209_c := by
 have hl : LoopsOK i_SolveRowsc1_1209_V [] i_SolveRowsc1_1209_b := loopsOK_nil (by kernel_rfl)
 refine (contract_of (F := i_SolveRowsc1_1209_I) tau_tys i_SolveRowsc1_1209_env Try.func79 (by kernel_rfl) (by kernel_rfl) (by kernel_rfl) hl []).weaken ?_
 rintro ⟨av, rs⟩ co h
 have h : (i_SolveRowsc1_1209_G av rs).run some = some co := h
 obtain ⟨a0_, av0, rfl, h_0⟩ := asCons_spec h
 obtain ⟨a1_, av1, rfl, h_1⟩ := asCons_spec h_0
 obtain ⟨rfl, h_2⟩ := asEnd_spec h_1
 obtain ⟨r0_, rs0, rfl, h_3⟩ := asCons_spec h_2
 obtain ⟨r1_, rs1, rfl, h_4⟩ := asCons_spec h_3
 obtain ⟨rfl, h_5⟩ := asEnd_spec h_4
 obtain ⟨rfl, h_6⟩ := asPtr_spec h_5
 obtain ⟨rfl, h_7⟩ := asPtr_spec h_6
 obtain ⟨m1, d2, rfl, h_8⟩ := asRt_spec h_7
 obtain ⟨z3, rfl, h_9⟩ := asMImm_spec h_8
 obtain ⟨m4, d5, rfl, h_10⟩ := asRt_spec h_9
 obtain ⟨rfl, h_11⟩ := asM_spec h_10
 exact fin_mat (i_SolveRowsc1_1209_eq z3 d2 d5) h_11
end Go.Proofs.Ythnkanacjhlhhaa

namespace Go.Proofs.Ythnkanacjhlhhaa
open Go Go.Abs Go.Proofs
noncomputable def i_matricesCode_i_SolveRowsc1_81a7 (p0 : TMatrix) (p1 : Int) (p2 : (List TMatrix)) : Tre Int :=
 .mat (slices_ContainsFunc_Matrix_i_matricesCodec1_F p2) fun r1 =>
 .cond r1
  (.ret 1)
  (.mat (i_SolveRowsc1_1209_F p0 p1) fun r2 =>
  .cond (!r2)
   (.ret 2)
   (.ret 0))
noncomputable def i_matricesCode_i_SolveRowsc1_81a7_F (p0 : TMatrix) (p1 : Int) (p2 : (List TMatrix)) : Option Int := (i_matricesCode_i_SolveRowsc1_81a7 p0 p1 p2).run some
noncomputable def i_matricesCode_i_SolveRowsc1_81a7_V : Env := ⟨tau, [(88, slices_ContainsFunc_Matrix_i_matricesCodec1_c), (79, i_SolveRowsc1_1209_c)], []⟩
noncomputable def i_matricesCode_i_SolveRowsc1_81a7_b : Code := (Try.f78.body).getD .skip
noncomputable def i_matricesCode_i_SolveRowsc1_81a7_I : FnI := ⟨i_matricesCode_i_SolveRowsc1_81a7_b, Try.f78.results.toList, Try.f78.resultTypes.toList, []⟩
noncomputable def i_matricesCode_i_SolveRowsc1_81a7_out (zp0 : Bool) (zp1 : Bool) (p0 : TMatrix) (p1 : Int) (p2 : (List TMatrix)) : Int → CallOut := fun r => ⟨(.imm true (.int .i64) r), [⟨true, kMatrix, (.imm zp0), p0⟩, ⟨true, (.int .i64), .own, p1⟩, ⟨false, (.sl kMatrix), (.sl (.imm zp1)), p2⟩], []⟩
set_option maxRecDepth 100000 in
theorem i_matricesCode_i_SolveRowsc1_81a7_eq : ∀ (zp0 : Bool) (zp1 : Bool) (p0 : TMatrix) (p1 : Int) (p2 : (List TMatrix)), denFn i_matricesCode_i_SolveRowsc1_81a7_V i_matricesCode_i_SolveRowsc1_81a7_I ⟨[(.fn 79 [(0, 0), (0, 1)]), (.ref (0, 2) [])], [⟨true, kMatrix, (.imm zp0), p0⟩, ⟨true, (.int .i64), .own, p1⟩, ⟨false, (.sl kMatrix), (.sl (.imm zp1)), p2⟩]⟩ = (i_matricesCode_i_SolveRowsc1_81a7 p0 p1 p2).run fun r => some (i_matricesCode_i_SolveRowsc1_81a7_out zp0 zp1 p0 p1 p2 r) := fun _ _ _ _ _ => by kernel_rfl
noncomputable def i_matricesCode_i_SolveRowsc1_81a7_G (av : List AV) (rs : List Root) : Tre CallOut :=
 asCons av fun a0_ av0 =>
 asCons av0 fun a1_ av1 =>
 asEnd av1 <|
 asCons rs fun r0_ rs0 =>
 asCons rs0 fun r1_ rs1 =>
 asCons rs1 fun r2_ rs2 =>
 asEnd rs2 <|
 asFn 79 [(0, 0), (0, 1)] a0_ <|
 asRef (0, 2) [] a1_ <|
 asRt true kMatrix r0_ fun m1 d2 =>
 asMImm m1 fun z3 =>
 asRt true (.int .i64) r1_ fun m4 d5 =>
 asM .own m4 <|
 asRt false (.sl kMatrix) r2_ fun m6 d7 =>
 asMSl m6 fun m8 =>
 asMImm m8 fun z9 =>
 .mat (i_matricesCode_i_SolveRowsc1_81a7_F d2 d5 d7) fun r => .ret (i_matricesCode_i_SolveRowsc1_81a7_out z3 z9 d2 d5 d7 r)
noncomputable def i_matricesCode_i_SolveRowsc1_81a7_c : Ctr := ⟨[1], fun ci => i_matricesCode_i_SolveRowsc1_81a7_G ci.args ci.roots, false⟩
theorem i_matricesCode_i_SolveRowsc1_81a7_env : EnvOK Try.prog .none i_matricesCode_i_SolveRowsc1_81a7_V := (envOK_cons slices_ContainsFunc_Matrix_i_matricesCodec1_ok ent88 (envOK_cons i_SolveRowsc1_1209_ok ent79 envOK_nil))
set_option maxRecDepth 100000 in
theorem i_matricesCode_i_SolveRowsc1_81a7_ok : Contract Try.prog .none 78 i_matricesCode_i_SolveRowsc1_81a7_c := by
 have hl : LoopsOK i_matricesCode_i_SolveRowsc1_81a7_V [] i_matricesCode_i_SolveRowsc1_81a7_b := loopsOK_nil (by kernel_rfl)
 refine (contract_of (F := i_matricesCode_i_SolveRowsc1_81a7_I) tau_tys i_matricesCode_i_SolveRowsc1_81a7_env Try.func78 (by kernel_rfl) (by kernel_rfl) (by kernel_rfl) hl [1]).weaken ?_
 rintro ⟨av, rs⟩ co h
 have h : (i_matricesCode_i_SolveRowsc1_81a7_G av rs).run some = some co := h
 obtain ⟨a0_, av0, rfl, h_0⟩ := asCons_spec h
 obtain ⟨a1_, av1, rfl, h_1⟩ := asCons_spec h_0
 obtain ⟨rfl, h_2⟩ := asEnd_spec h_1
 obtain ⟨r0_, rs0, rfl, h_3⟩ := asCons_spec h_2
 obtain ⟨r1_, rs1, rfl, h_4⟩ := asCons_spec h_3
 obtain ⟨r2_, rs2, rfl, h_5⟩ := asCons_spec h_4
 obtain ⟨rfl, h_6⟩ := asEnd_spec h_5
 obtain ⟨rfl, h_7⟩ := asFn_spec h_6
 obtain ⟨rfl, h_8⟩ := asRef_spec h_7
 obtain ⟨m1, d2, rfl, h_9⟩ := asRt_spec h_8
 obtain ⟨z3, rfl, h_10⟩ := asMImm_spec h_9
 obtain ⟨m4, d5, rfl, h_11⟩ := asRt_spec h_10
 obtain ⟨rfl, h_12⟩ := asM_spec h_11
 obtain ⟨m6, d7, rfl, h_13⟩ := asRt_spec h_12
 obtain ⟨m8, rfl, h_14⟩ := asMSl_spec h_13
 obtain ⟨z9, rfl, h_15⟩ := asMImm_spec h_14
 exact fin_mat (i_matricesCode_i_SolveRowsc1_81a7_eq z3 z9 d2 d5 d7) h_15
end Go.Proofs.Ythnkanacjhlhhaa

namespace Go.Proofs.Ythnkanacjhlhhaa
open Go Go.Abs Go.Proofs
noncomputable def i_SolveRows_l5 (h5_0_0 : Int) (h5_0_2 : TMatrix) (h5_0_3 : Int) : Int → Tre (Int ⊕ ((Int × Int) ⊕ Unit)) := fun s5 =>
 .cond (decide (s5 < h5_0_0))
  (.mat (i_sumOf_F h5_0_2.2.1 s5) fun r3 =>
  .cond (decide (r3 = h5_0_3))
   (.ret (.inr (.inl (s5, 0))))
   (.ret (.inl (iwrap .i64 (s5 + 1)))))
  (.ret (.inr (.inr ())))
noncomputable def i_SolveRows (p0 : TMatrix) (p1 : Int) : Tre (Int × Int) :=
 .mat (i_matricesCode_i_SolveRowsc1_81a7_F p0 p1 ([p0])) fun r1 =>
 .cond (!decide (r1 = 0))
  (.ret (0, r1))
  (.ite (0 ≤ (p0.2.1.length : Int)) <|
  let v2 := ishl .i64 1 (p0.2.1.length : Int)
  .mat (loopF (i_SolveRows_l5 v2 p0 p1) 0) fun l4 =>
  .alt l4
   (fun a5 =>
    .ret (a5.1, a5.2))
   (fun _ =>
    .ret (0, 6)))
noncomputable def i_SolveRows_F (p0 : TMatrix) (p1 : Int) : Option (Int × Int) := (i_SolveRows p0 p1).run some
noncomputable def i_SolveRows_V : Env := ⟨tau, [(78, i_matricesCode_i_SolveRowsc1_81a7_c), (80, i_sumOf_c)], []⟩
noncomputable def i_SolveRows_b : Code := (Try.f24.body).getD .skip
noncomputable def i_SolveRows_l5_mk (z5_0 : Bool) (h5_0_0 : Int) (h5_0_2 : TMatrix) (h5_0_3 : Int) : Int → St := fun x => stOf [(2, (.ptr (4, 0) [])), (3, (.ptr (5, 0) [])), (18, (.imm true (.int .i64) h5_0_0)), (19, (.imm true (.int .i64) x))] [((4, 0), some ⟨true, kMatrix, (.imm z5_0), h5_0_2⟩), ((5, 0), some ⟨true, (.int .i64), .own, h5_0_3⟩)]
noncomputable def i_SolveRows_l5_out (_z5_0 : Bool) (_h5_0_0 : Int) (_h5_0_2 : TMatrix) (_h5_0_3 : Int) : ((Int × Int) ⊕ Unit) → Ex × St
 | .inl x => (.ret, stOf [(4, (.imm true (.int .i64) x.1)), (5, (.imm true (.int .i64) x.2))] [])
 | .inr x => (.exit 0, stOf [(4, .dead), (5, .dead)] [])
noncomputable def i_SolveRows_l5_D (s : St) : Tre (Ex × St) :=
 asPtr (4, 0) [] (s.tmps 2) <|
 asPtr (5, 0) [] (s.tmps 3) <|
 asImmZ true (.int .i64) (s.tmps 18) fun d4 =>
 asImmZ true (.int .i64) (s.tmps 19) fun d6 =>
 asRoot true kMatrix (s.roots (4, 0)) fun m8 d9 =>
 asMImm m8 fun z10 =>
 asRoot true (.int .i64) (s.roots (5, 0)) fun m12 d13 =>
 asM .own m12 <|
 .mat (loopF (i_SolveRows_l5 d4 d9 d13) d6) fun x => .alt x (fun a0 => .ret (i_SolveRows_l5_out z10 d4 d9 d13 (.inl a0))) (fun b0 => .ret (i_SolveRows_l5_out z10 d4 d9 d13 (.inr b0)))
noncomputable def i_SolveRows_l5_L : LoopI := ⟨([2, 3, 18, 19], [(4, 0), (5, 0)]), ([4, 5], []), i_SolveRows_l5_D⟩
noncomputable def i_SolveRows_A : List (Nat × LoopI) := [(5, i_SolveRows_l5_L)]
set_option maxRecDepth 100000 in
theorem i_SolveRows_l5_step : ∀ (z5_0 : Bool) (h5_0_0 : Int) (h5_0_2 : TMatrix) (h5_0_3 : Int) (x : Int) (c : St → Option (Ex × St)), den i_SolveRows_V i_SolveRows_A (loopAt i_SolveRows_b 0) (i_SolveRows_l5_mk z5_0 h5_0_0 h5_0_2 h5_0_3 x) (roundK i_SolveRows_l5_L.kp i_SolveRows_l5_L.kx c) = (i_SolveRows_l5 h5_0_0 h5_0_2 h5_0_3 x).run (roundR (i_SolveRows_l5_mk z5_0 h5_0_0 h5_0_2 h5_0_3) (i_SolveRows_l5_out z5_0 h5_0_0 h5_0_2 h5_0_3) c) := fun _ _ _ _ _ _ => by
 kernel_rfl
theorem i_SolveRows_l5_ok : LoopOK i_SolveRows_V i_SolveRows_A (loopAt i_SolveRows_b 0) i_SolveRows_l5_L := loopOK_of fun s e s' h => by
 generalize hs : restrict i_SolveRows_l5_L.kp s = s1 at h
 have h : (i_SolveRows_l5_D s1).run some = some (e, s') := h
 obtain ⟨e1, h_0⟩ := asPtr_spec h
 obtain ⟨e2, h_1⟩ := asPtr_spec h_0
 obtain ⟨d4, e3, h_2⟩ := asImmZ_spec h_1
 obtain ⟨d6, e5, h_3⟩ := asImmZ_spec h_2
 obtain ⟨m8, d9, e7, h_4⟩ := asRoot_spec h_3
 obtain ⟨z10, rfl, h_5⟩ := asMImm_spec h_4
 obtain ⟨m12, d13, e11, h_6⟩ := asRoot_spec h_5
 obtain ⟨rfl, h_7⟩ := asM_spec h_6
 obtain ⟨y, hy, hz⟩ := mat_some h_7
 refine ⟨_, _, i_SolveRows_l5_mk z10 d4 d9 d13, i_SolveRows_l5_out z10 d4 d9 d13, i_SolveRows_l5 d4 d9 d13, d6, y, ?_, hy, ?_, i_SolveRows_l5_step z10 d4 d9 d13⟩
 ·subst hs; exact restrict_eq (T := [(2, (.ptr (4, 0) [])), (3, (.ptr (5, 0) [])), (18, (.imm true (.int .i64) d4)), (19, (.imm true (.int .i64) d6))]) (U := [((4, 0), some ⟨true, kMatrix, (.imm z10), d9⟩), ((5, 0), some ⟨true, (.int .i64), .own, d13⟩)]) rfl rfl ⟨e1, e2, e3, e5, trivial⟩ ⟨e7, e11, trivial⟩
 ·rcases y with x | x <;> exact Option.some.inj hz
noncomputable def i_SolveRows_I : FnI := ⟨i_SolveRows_b, Try.f24.results.toList, Try.f24.resultTypes.toList, i_SolveRows_A⟩
noncomputable def i_SolveRows_out (_zp0 : Bool) (_p0 : TMatrix) (_p1 : Int) : (Int × Int) → CallOut := fun r => ⟨(.tcons (.imm true (.int .i64) r.1) (.tcons (.imm true (.int .i64) r.2) .tnil)), [], []⟩
set_option maxRecDepth 100000 in
theorem i_SolveRows_eq : ∀ (zp0 : Bool) (p0 : TMatrix) (p1 : Int), denFn i_SolveRows_V i_SolveRows_I ⟨[(.imm zp0 kMatrix p0), (.imm true (.int .i64) p1)], []⟩ = (i_SolveRows p0 p1).run fun r => some (i_SolveRows_out zp0 p0 p1 r) := fun _ _ _ => by kernel_rfl
noncomputable def i_SolveRows_G (av : List AV) (rs : List Root) : Tre CallOut :=
 asCons av fun a0_ av0 =>
 asCons av0 fun a1_ av1 =>
 asEnd av1 <|
 asEnd rs <|
 asImm kMatrix a0_ fun z2 d1 =>
 asImmZ true (.int .i64) a1_ fun d3 =>
 .mat (i_SolveRows_F d1 d3) fun r => .ret (i_SolveRows_out z2 d1 d3 r)
noncomputable def i_SolveRows_c : Ctr := ⟨[], fun ci => i_SolveRows_G ci.args ci.roots, false⟩
theorem i_SolveRows_env : EnvOK Try.prog .none i_SolveRows_V := (envOK_cons i_matricesCode_i_SolveRowsc1_81a7_ok ent78 (envOK_cons i_sumOf_ok ent80 envOK_nil))
set_option maxRecDepth 100000 in
theorem i_SolveRows_ok : Contract Try.prog .none 24 i_SolveRows_c := by
 have hl : LoopsOK i_SolveRows_V i_SolveRows_A i_SolveRows_b := (loopsOK_all (n := 1) (by kernel_rfl) fun k hk => by
   match k, hk with
   | 0, _ => exact loopOK_at (id := 5) (L := i_SolveRows_l5_L) (by kernel_rfl) (by kernel_rfl) i_SolveRows_l5_ok)
 refine (contract_of (F := i_SolveRows_I) tau_tys i_SolveRows_env Try.func24 (by kernel_rfl) (by kernel_rfl) (by kernel_rfl) hl []).weaken ?_
 rintro ⟨av, rs⟩ co h
 have h : (i_SolveRows_G av rs).run some = some co := h
 obtain ⟨a0_, av0, rfl, h_0⟩ := asCons_spec h
 obtain ⟨a1_, av1, rfl, h_1⟩ := asCons_spec h_0
 obtain ⟨rfl, h_2⟩ := asEnd_spec h_1
 obtain ⟨rfl, h_3⟩ := asEnd_spec h_2
 obtain ⟨z2, d1, rfl, h_4⟩ := asImm_spec h_3
 obtain ⟨d3, rfl, h_5⟩ := asImmZ_spec h_4
 exact fin_mat (i_SolveRows_eq z2 d1 d3) h_5
end Go.Proofs.Ythnkanacjhlhhaa

namespace Go.Proofs.Ythnkanacjhlhhaa
open Go Go.Abs Go.Proofs
noncomputable def l_FnListed_l20 (h20_0_3 : Int) (h20_0_5 : (List TMatrix)) : Int → Tre (Int ⊕ Int) := fun s20 =>
 .ite (0 ≤ h20_0_3 ∧ h20_0_3 < (h20_0_5.length : Int)) <|
 .mat (h20_0_5[h20_0_3.toNat]?) fun x19 =>
 .cond (decide (s20 < (x19.2.1.length : Int)))
  (.ite (0 ≤ h20_0_3 ∧ h20_0_3 < (h20_0_5.length : Int)) <|
  .mat (h20_0_5[h20_0_3.toNat]?) fun x20 =>
  .ite (0 ≤ s20 ∧ s20 < (x20.2.1.length : Int)) <|
  .mat (x20.2.1[s20.toNat]?) fun x21 =>
  .ite (0 ≤ iwrap .i64 (h20_0_3 - 1) ∧ iwrap .i64 (h20_0_3 - 1) < (h20_0_5.length : Int)) <|
  .mat (h20_0_5[(iwrap .i64 (h20_0_3 - 1)).toNat]?) fun x22 =>
  .ite (0 ≤ s20 ∧ s20 < (x22.2.1.length : Int)) <|
  .mat (x22.2.1[s20.toNat]?) fun x23 =>
  .cond (decide (x21 = x23))
   (.ret (.inl (iwrap .i64 (s20 + 1))))
   (.ret (.inr s20)))
  (.ret (.inr s20))
noncomputable def l_FnListed_l13 (h13_0_0 : Int) (h13_0_1 : Int) (h13_0_4 : (List TMatrix)) (h13_0_5 : TMatrix) : (Bool × Int) → Tre ((Bool × Int) ⊕ ((Bool × Bool) ⊕ Bool)) := fun s13 =>
 .cond (decide (s13.2 < (h13_0_4.length : Int)))
  (.ite (0 ≤ s13.2 ∧ s13.2 < (h13_0_4.length : Int)) <|
  .mat (h13_0_4[s13.2.toNat]?) fun x15 =>
  .mat (s_IsSpace_F x15) fun r16 =>
  .cond (!r16)
   (.ret (.inr (.inl (false, s13.1))))
   (.ite (0 ≤ s13.2 ∧ s13.2 < (h13_0_4.length : Int)) <|
   .mat (h13_0_4[s13.2.toNat]?) fun x17 =>
   .cond (!decide (x17.1 = h13_0_0))
    (.ret (.inr (.inl (false, s13.1))))
    (.ite (0 ≤ s13.2 ∧ s13.2 < (h13_0_4.length : Int)) <|
    .mat (h13_0_4[s13.2.toNat]?) fun x18 =>
    .cond (!decide ((x18.2.1.length : Int) = h13_0_1))
     (.ret (.inr (.inl (false, s13.1))))
     (.cond s13.1
      (.cond (decide (s13.2 = 0))
       (.ret (.inl (true, iwrap .i64 (s13.2 + 1))))
       (.mat (loopF (l_FnListed_l20 s13.2 h13_0_4) 0) fun l24 =>
       .ite (0 ≤ s13.2 ∧ s13.2 < (h13_0_4.length : Int)) <|
       .mat (h13_0_4[s13.2.toNat]?) fun x25 =>
       .cond (decide (l24 = (x25.2.1.length : Int)))
        (.ret (.inr (.inl (false, true))))
        (.ite (0 ≤ iwrap .i64 (s13.2 - 1) ∧ iwrap .i64 (s13.2 - 1) < (h13_0_4.length : Int)) <|
        .mat (h13_0_4[(iwrap .i64 (s13.2 - 1)).toNat]?) fun x26 =>
        .ite (0 ≤ l24 ∧ l24 < (x26.2.1.length : Int)) <|
        .mat (x26.2.1[l24.toNat]?) fun x27 =>
        .ite (0 ≤ s13.2 ∧ s13.2 < (h13_0_4.length : Int)) <|
        .mat (h13_0_4[s13.2.toNat]?) fun x28 =>
        .ite (0 ≤ l24 ∧ l24 < (x28.2.1.length : Int)) <|
        .mat (x28.2.1[l24.toNat]?) fun x29 =>
        .cond (decide (x27 > x29))
         (.ret (.inr (.inl (false, true))))
         (.ret (.inl (true, iwrap .i64 (s13.2 + 1)))))))
      (.ite (0 ≤ s13.2 ∧ s13.2 < (h13_0_4.length : Int)) <|
      .mat (h13_0_4[s13.2.toNat]?) fun x30 =>
      .mat (s_SameMatrix_F x30 h13_0_5) fun r31 =>
      .cond (decide (s13.2 = 0))
       (.ret (.inl (r31, iwrap .i64 (s13.2 + 1))))
       (.mat (loopF (l_FnListed_l20 s13.2 h13_0_4) 0) fun l32 =>
       .ite (0 ≤ s13.2 ∧ s13.2 < (h13_0_4.length : Int)) <|
       .mat (h13_0_4[s13.2.toNat]?) fun x33 =>
       .cond (decide (l32 = (x33.2.1.length : Int)))
        (.ret (.inr (.inl (false, r31))))
        (.ite (0 ≤ iwrap .i64 (s13.2 - 1) ∧ iwrap .i64 (s13.2 - 1) < (h13_0_4.length : Int)) <|
        .mat (h13_0_4[(iwrap .i64 (s13.2 - 1)).toNat]?) fun x34 =>
        .ite (0 ≤ l32 ∧ l32 < (x34.2.1.length : Int)) <|
        .mat (x34.2.1[l32.toNat]?) fun x35 =>
        .ite (0 ≤ s13.2 ∧ s13.2 < (h13_0_4.length : Int)) <|
        .mat (h13_0_4[s13.2.toNat]?) fun x36 =>
        .ite (0 ≤ l32 ∧ l32 < (x36.2.1.length : Int)) <|
        .mat (x36.2.1[l32.toNat]?) fun x37 =>
        .cond (decide (x35 > x37))
         (.ret (.inr (.inl (false, r31))))
         (.ret (.inl (r31, iwrap .i64 (s13.2 + 1)))))))))))
  (.ret (.inr (.inr s13.1)))
noncomputable def l_FnListed_l28 (h28_0_1 : TMatrix) (h28_0_2 : (List Int)) : Int → Tre (Int ⊕ (Bool ⊕ Unit)) := fun s28 =>
 .cond (decide (s28 < (h28_0_2.length : Int)))
  (.ite (0 ≤ s28 ∧ s28 < (h28_0_2.length : Int)) <|
  .mat (h28_0_2[s28.toNat]?) fun x43 =>
  .mat (i_SolveRows_F h28_0_1 x43) fun r44 =>
  .cond (!decide (r44.2 = 0))
   (.ret (.inr (.inl false)))
   (.cond (decide (s28 > 0))
    (.ite (0 ≤ iwrap .i64 (s28 - 1) ∧ iwrap .i64 (s28 - 1) < (h28_0_2.length : Int)) <|
    .mat (h28_0_2[(iwrap .i64 (s28 - 1)).toNat]?) fun x45 =>
    .ite (0 ≤ s28 ∧ s28 < (h28_0_2.length : Int)) <|
    .mat (h28_0_2[s28.toNat]?) fun x46 =>
    .cond (decide (x45 ≥ x46))
     (.ret (.inr (.inl false)))
     (.ret (.inl (iwrap .i64 (s28 + 1)))))
    (.ret (.inl (iwrap .i64 (s28 + 1))))))
  (.ret (.inr (.inr ())))
noncomputable def l_FnListed (p0 : (List Int)) (p1 : (List Int)) : Tre Bool :=
 .cond (l_a2Long_S p0 p1)
  (.ret true)
  (.mat (l_a2At_F p0 0 4) fun r1 =>
  let v2 := iwrap .i64 ((iwrap .i64 (1 + r1)) + 1)
  .mat (l_a2At_F p0 1 v2) fun r3 =>
  .mat (i_SpacesOf_F (iwrap .i64 (1 + r1)) r3) fun r4 =>
  .alt r4
   (fun a5 =>
    .mat (i_GaussNumber_F (iwrap .i64 (1 + r1)) r3) fun r7 =>
    let v8 := iwrap .i64 ((iwrap .i64 (1 + r1)) - r3)
    .mat (i_GaussNumber_F (iwrap .i64 (1 + r1)) v8) fun r9 =>
    .cond (!decide (a5.1 = 0))
     (.ret false)
     (.cond (!decide (r7.2 = 0))
      (.ret false)
      (.cond (!decide (r9.2 = 0))
       (.ret false)
       (.cond (!decide ((a5.2.length : Int) = r7.1))
        (.ret false)
        (.cond (!decide (r9.1 = r7.1))
         (.ret false)
         (.mat (s_A2Space_F p1 (iwrap .i64 (1 + r1))) fun _ =>
         .fail))))))
   (fun b6 =>
    .mat (i_GaussNumber_F (iwrap .i64 (1 + r1)) r3) fun r11 =>
    let v12 := iwrap .i64 ((iwrap .i64 (1 + r1)) - r3)
    .mat (i_GaussNumber_F (iwrap .i64 (1 + r1)) v12) fun r13 =>
    .cond (!decide (b6.1 = 0))
     (.ret false)
     (.cond (!decide (r11.2 = 0))
      (.ret false)
      (.cond (!decide (r13.2 = 0))
       (.ret false)
       (.cond (!decide ((b6.2.length : Int) = r11.1))
        (.ret false)
        (.cond (!decide (r13.1 = r11.1))
         (.ret false)
         (.mat (s_A2Space_F p1 (iwrap .i64 (1 + r1))) fun r14 =>
         .mat (loopF (l_FnListed_l13 (iwrap .i64 (1 + r1)) r3 b6.2 (iwrap .i64 (1 + r1), (r14, ()))) (false, 0)) fun l38 =>
         .alt l38
          (fun a39 =>
           .ret a39.1)
          (fun b40 =>
           .mat (i_VectorsOf_F (iwrap .i64 (1 + r1), (r14, ()))) fun r41 =>
           .cond (!decide (r41.1 = 0))
            (.ret false)
            (let v42 := iwrap .u64 (r14.length : Int)
            .ite (0 ≤ v42) <|
            .cond (!decide ((r41.2.length : Int) = ishl .i64 1 v42))
             (.ret false)
             (.cond (!(b40 == (decide ((r14.length : Int) = r3))))
              (.ret false)
              (.mat (loopF (l_FnListed_l28 (iwrap .i64 (1 + r1), (r14, ())) r41.2) 0) fun l47 =>
              .alt l47
               (fun a48 =>
                .ret a48)
               (fun _ =>
                .ret true))))))))))))
noncomputable def l_FnListed_F (p0 : (List Int)) (p1 : (List Int)) : Option Bool := (l_FnListed p0 p1).run some
-- lawby %ListedL
noncomputable def l_FnListed_V : Env := ⟨tau, [(16, l_a2Long_c), (17, l_a2At_c), (18, i_SpacesOf_c), (19, i_GaussNumber_c), (20, s_A2Space_c), (21, s_IsSpace_c), (22, s_SameMatrix_c), (23, i_VectorsOf_c), (24, i_SolveRows_c)], []⟩
noncomputable def l_FnListed_b : Code := (Try.f5.body).getD .skip
noncomputable def l_FnListed_l20_mk (h20_0_0 : Int) (h20_0_1 : Int) (h20_0_2 : Bool) (h20_0_3 : Int) (h20_0_5 : (List TMatrix)) (h20_0_6 : TMatrix) : Int → St := fun x => stOf [(5, (.imm true (.int .i64) h20_0_0)), (6, (.imm true (.int .i64) h20_0_1)), (7, (.ref (9, 0) [])), (13, (.ptr (15, 0) [])), (14, (.imm true .bool h20_0_2)), (15, (.imm true (.int .i64) h20_0_3)), (16, (.imm true (.int .i64) x))] [((9, 0), some ⟨false, (.sl kMatrix), (.sl (.imm true)), h20_0_5⟩), ((15, 0), some ⟨true, kMatrix, .own, h20_0_6⟩)]
noncomputable def l_FnListed_l20_out (h20_0_0 : Int) (h20_0_1 : Int) (h20_0_2 : Bool) (h20_0_3 : Int) (h20_0_5 : (List TMatrix)) (h20_0_6 : TMatrix) : Int → Ex × St := fun x => (.exit 2, stOf [(5, (.imm true (.int .i64) h20_0_0)), (6, (.imm true (.int .i64) h20_0_1)), (7, (.ref (9, 0) [])), (13, (.ptr (15, 0) [])), (14, (.imm true .bool h20_0_2)), (15, (.imm true (.int .i64) h20_0_3)), (16, (.imm true (.int .i64) x))] [((9, 0), some ⟨false, (.sl kMatrix), (.sl (.imm true)), h20_0_5⟩), ((15, 0), some ⟨true, kMatrix, .own, h20_0_6⟩)])
noncomputable def l_FnListed_l20_D (s : St) : Tre (Ex × St) :=
 asImmZ true (.int .i64) (s.tmps 5) fun d2 =>
 asImmZ true (.int .i64) (s.tmps 6) fun d4 =>
 asRef (9, 0) [] (s.tmps 7) <|
 asPtr (15, 0) [] (s.tmps 13) <|
 asImmZ true .bool (s.tmps 14) fun d8 =>
 asImmZ true (.int .i64) (s.tmps 15) fun d10 =>
 asImmZ true (.int .i64) (s.tmps 16) fun d12 =>
 asRoot false (.sl kMatrix) (s.roots (9, 0)) fun m14 d15 =>
 asM (.sl (.imm true)) m14 <|
 asRoot true kMatrix (s.roots (15, 0)) fun m17 d18 =>
 asM .own m17 <|
 .mat (loopF (l_FnListed_l20 d10 d15) d12) fun x => .ret (l_FnListed_l20_out d2 d4 d8 d10 d15 d18 x)
noncomputable def l_FnListed_l20_L : LoopI := ⟨([5, 6, 7, 13, 14, 15, 16], [(9, 0), (15, 0)]), ([5, 6, 7, 13, 14, 15, 16], [(9, 0), (15, 0)]), l_FnListed_l20_D⟩
noncomputable def l_FnListed_l13_mk (h13_0_0 : Int) (h13_0_1 : Int) (h13_0_4 : (List TMatrix)) (h13_0_5 : TMatrix) : (Bool × Int) → St := fun x => stOf [(5, (.imm true (.int .i64) h13_0_0)), (6, (.imm true (.int .i64) h13_0_1)), (7, (.ref (9, 0) [])), (13, (.ptr (15, 0) [])), (14, (.imm true .bool x.1)), (15, (.imm true (.int .i64) x.2))] [((9, 0), some ⟨false, (.sl kMatrix), (.sl (.imm true)), h13_0_4⟩), ((15, 0), some ⟨true, kMatrix, .own, h13_0_5⟩)]
noncomputable def l_FnListed_l13_out (_h13_0_0 : Int) (h13_0_1 : Int) (_h13_0_4 : (List TMatrix)) (h13_0_5 : TMatrix) : ((Bool × Bool) ⊕ Bool) → Ex × St
 | .inl x => (.ret, stOf [(4, (.imm true .bool x.1)), (6, (.imm true (.int .i64) h13_0_1)), (13, (.ptr (15, 0) [])), (14, (.imm true .bool x.2))] [((15, 0), some ⟨true, kMatrix, .own, h13_0_5⟩)])
 | .inr x => (.exit 0, stOf [(4, .dead), (6, (.imm true (.int .i64) h13_0_1)), (13, (.ptr (15, 0) [])), (14, (.imm true .bool x))] [((15, 0), some ⟨true, kMatrix, .own, h13_0_5⟩)])
noncomputable def l_FnListed_l13_D (s : St) : Tre (Ex × St) :=
 asImmZ true (.int .i64) (s.tmps 5) fun d2 =>
 asImmZ true (.int .i64) (s.tmps 6) fun d4 =>
 asRef (9, 0) [] (s.tmps 7) <|
 asPtr (15, 0) [] (s.tmps 13) <|
 asImmZ true .bool (s.tmps 14) fun d8 =>
 asImmZ true (.int .i64) (s.tmps 15) fun d10 =>
 asRoot false (.sl kMatrix) (s.roots (9, 0)) fun m12 d13 =>
 asM (.sl (.imm true)) m12 <|
 asRoot true kMatrix (s.roots (15, 0)) fun m15 d16 =>
 asM .own m15 <|
 .mat (loopF (l_FnListed_l13 d2 d4 d13 d16) (d8, d10)) fun x => .alt x (fun a0 => .ret (l_FnListed_l13_out d2 d4 d13 d16 (.inl a0))) (fun b0 => .ret (l_FnListed_l13_out d2 d4 d13 d16 (.inr b0)))
noncomputable def l_FnListed_l13_L : LoopI := ⟨([5, 6, 7, 13, 14, 15], [(9, 0), (15, 0)]), ([4, 6, 13, 14], [(15, 0)]), l_FnListed_l13_D⟩
noncomputable def l_FnListed_l28_mk (h28_0_1 : TMatrix) (h28_0_2 : (List Int)) : Int → St := fun x => stOf [(13, (.ptr (15, 0) [])), (17, (.ref (19, 0) [])), (19, (.imm true (.int .i64) x))] [((15, 0), some ⟨true, kMatrix, .own, h28_0_1⟩), ((19, 0), some ⟨false, (.sl (.int .i64)), .own, h28_0_2⟩)]
noncomputable def l_FnListed_l28_out (_h28_0_1 : TMatrix) (_h28_0_2 : (List Int)) : (Bool ⊕ Unit) → Ex × St
 | .inl x => (.ret, stOf [(4, (.imm true .bool x))] [])
 | .inr x => (.exit 4, stOf [(4, .dead)] [])
noncomputable def l_FnListed_l28_D (s : St) : Tre (Ex × St) :=
 asPtr (15, 0) [] (s.tmps 13) <|
 asRef (19, 0) [] (s.tmps 17) <|
 asImmZ true (.int .i64) (s.tmps 19) fun d4 =>
 asRoot true kMatrix (s.roots (15, 0)) fun m6 d7 =>
 asM .own m6 <|
 asRoot false (.sl (.int .i64)) (s.roots (19, 0)) fun m9 d10 =>
 asM .own m9 <|
 .mat (loopF (l_FnListed_l28 d7 d10) d4) fun x => .alt x (fun a0 => .ret (l_FnListed_l28_out d7 d10 (.inl a0))) (fun b0 => .ret (l_FnListed_l28_out d7 d10 (.inr b0)))
noncomputable def l_FnListed_l28_L : LoopI := ⟨([13, 17, 19], [(15, 0), (19, 0)]), ([4], []), l_FnListed_l28_D⟩
noncomputable def l_FnListed_A : List (Nat × LoopI) := [(20, l_FnListed_l20_L), (13, l_FnListed_l13_L), (28, l_FnListed_l28_L)]
set_option maxRecDepth 100000 in
theorem l_FnListed_l20_step : ∀ (h20_0_0 : Int) (h20_0_1 : Int) (h20_0_2 : Bool) (h20_0_3 : Int) (h20_0_5 : (List TMatrix)) (h20_0_6 : TMatrix) (x : Int) (c : St → Option (Ex × St)), den l_FnListed_V l_FnListed_A (loopAt l_FnListed_b 1) (l_FnListed_l20_mk h20_0_0 h20_0_1 h20_0_2 h20_0_3 h20_0_5 h20_0_6 x) (roundK l_FnListed_l20_L.kp l_FnListed_l20_L.kx c) = (l_FnListed_l20 h20_0_3 h20_0_5 x).run (roundR (l_FnListed_l20_mk h20_0_0 h20_0_1 h20_0_2 h20_0_3 h20_0_5 h20_0_6) (l_FnListed_l20_out h20_0_0 h20_0_1 h20_0_2 h20_0_3 h20_0_5 h20_0_6) c) := fun _ _ _ _ _ _ _ _ => by
 kernel_rfl
theorem l_FnListed_l20_ok : LoopOK l_FnListed_V l_FnListed_A (loopAt l_FnListed_b 1) l_FnListed_l20_L := loopOK_of fun s e s' h => by
 generalize hs : restrict l_FnListed_l20_L.kp s = s1 at h
 have h : (l_FnListed_l20_D s1).run some = some (e, s') := h
 obtain ⟨d2, e1, h_0⟩ := asImmZ_spec h
 obtain ⟨d4, e3, h_1⟩ := asImmZ_spec h_0
 obtain ⟨e5, h_2⟩ := asRef_spec h_1
 obtain ⟨e6, h_3⟩ := asPtr_spec h_2
 obtain ⟨d8, e7, h_4⟩ := asImmZ_spec h_3
 obtain ⟨d10, e9, h_5⟩ := asImmZ_spec h_4
 obtain ⟨d12, e11, h_6⟩ := asImmZ_spec h_5
 obtain ⟨m14, d15, e13, h_7⟩ := asRoot_spec h_6
 obtain ⟨rfl, h_8⟩ := asM_spec h_7
 obtain ⟨m17, d18, e16, h_9⟩ := asRoot_spec h_8
 obtain ⟨rfl, h_10⟩ := asM_spec h_9
 obtain ⟨y, hy, hz⟩ := mat_ret h_10
 refine ⟨_, _, l_FnListed_l20_mk d2 d4 d8 d10 d15 d18, l_FnListed_l20_out d2 d4 d8 d10 d15 d18, l_FnListed_l20 d10 d15, d12, y, ?_, hy, ?_, l_FnListed_l20_step d2 d4 d8 d10 d15 d18⟩
 ·subst hs; exact restrict_eq (T := [(5, (.imm true (.int .i64) d2)), (6, (.imm true (.int .i64) d4)), (7, (.ref (9, 0) [])), (13, (.ptr (15, 0) [])), (14, (.imm true .bool d8)), (15, (.imm true (.int .i64) d10)), (16, (.imm true (.int .i64) d12))]) (U := [((9, 0), some ⟨false, (.sl kMatrix), (.sl (.imm true)), d15⟩), ((15, 0), some ⟨true, kMatrix, .own, d18⟩)]) rfl rfl ⟨e1, e3, e5, e6, e7, e9, e11, trivial⟩ ⟨e13, e16, trivial⟩
 ·exact Option.some.inj hz
set_option maxRecDepth 100000 in
theorem l_FnListed_l13_step : ∀ (h13_0_0 : Int) (h13_0_1 : Int) (h13_0_4 : (List TMatrix)) (h13_0_5 : TMatrix) (x : (Bool × Int)) (c : St → Option (Ex × St)), den l_FnListed_V l_FnListed_A (loopAt l_FnListed_b 0) (l_FnListed_l13_mk h13_0_0 h13_0_1 h13_0_4 h13_0_5 x) (roundK l_FnListed_l13_L.kp l_FnListed_l13_L.kx c) = (l_FnListed_l13 h13_0_0 h13_0_1 h13_0_4 h13_0_5 x).run (roundR (l_FnListed_l13_mk h13_0_0 h13_0_1 h13_0_4 h13_0_5) (l_FnListed_l13_out h13_0_0 h13_0_1 h13_0_4 h13_0_5) c) := fun _ _ _ _ _ _ => by
 kernel_rfl
theorem l_FnListed_l13_ok : LoopOK l_FnListed_V l_FnListed_A (loopAt l_FnListed_b 0) l_FnListed_l13_L := loopOK_of fun s e s' h => by
 generalize hs : restrict l_FnListed_l13_L.kp s = s1 at h
 have h : (l_FnListed_l13_D s1).run some = some (e, s') := h
 obtain ⟨d2, e1, h_0⟩ := asImmZ_spec h
 obtain ⟨d4, e3, h_1⟩ := asImmZ_spec h_0
 obtain ⟨e5, h_2⟩ := asRef_spec h_1
 obtain ⟨e6, h_3⟩ := asPtr_spec h_2
 obtain ⟨d8, e7, h_4⟩ := asImmZ_spec h_3
 obtain ⟨d10, e9, h_5⟩ := asImmZ_spec h_4
 obtain ⟨m12, d13, e11, h_6⟩ := asRoot_spec h_5
 obtain ⟨rfl, h_7⟩ := asM_spec h_6
 obtain ⟨m15, d16, e14, h_8⟩ := asRoot_spec h_7
 obtain ⟨rfl, h_9⟩ := asM_spec h_8
 obtain ⟨y, hy, hz⟩ := mat_some h_9
 refine ⟨_, _, l_FnListed_l13_mk d2 d4 d13 d16, l_FnListed_l13_out d2 d4 d13 d16, l_FnListed_l13 d2 d4 d13 d16, (d8, d10), y, ?_, hy, ?_, l_FnListed_l13_step d2 d4 d13 d16⟩
 ·subst hs; exact restrict_eq (T := [(5, (.imm true (.int .i64) d2)), (6, (.imm true (.int .i64) d4)), (7, (.ref (9, 0) [])), (13, (.ptr (15, 0) [])), (14, (.imm true .bool d8)), (15, (.imm true (.int .i64) d10))]) (U := [((9, 0), some ⟨false, (.sl kMatrix), (.sl (.imm true)), d13⟩), ((15, 0), some ⟨true, kMatrix, .own, d16⟩)]) rfl rfl ⟨e1, e3, e5, e6, e7, e9, trivial⟩ ⟨e11, e14, trivial⟩
 ·rcases y with x | x <;> exact Option.some.inj hz
set_option maxRecDepth 100000 in
theorem l_FnListed_l28_step : ∀ (h28_0_1 : TMatrix) (h28_0_2 : (List Int)) (x : Int) (c : St → Option (Ex × St)), den l_FnListed_V l_FnListed_A (loopAt l_FnListed_b 2) (l_FnListed_l28_mk h28_0_1 h28_0_2 x) (roundK l_FnListed_l28_L.kp l_FnListed_l28_L.kx c) = (l_FnListed_l28 h28_0_1 h28_0_2 x).run (roundR (l_FnListed_l28_mk h28_0_1 h28_0_2) (l_FnListed_l28_out h28_0_1 h28_0_2) c) := fun _ _ _ _ => by
 kernel_rfl
theorem l_FnListed_l28_ok : LoopOK l_FnListed_V l_FnListed_A (loopAt l_FnListed_b 2) l_FnListed_l28_L := loopOK_of fun s e s' h => by
 generalize hs : restrict l_FnListed_l28_L.kp s = s1 at h
 have h : (l_FnListed_l28_D s1).run some = some (e, s') := h
 obtain ⟨e1, h_0⟩ := asPtr_spec h
 obtain ⟨e2, h_1⟩ := asRef_spec h_0
 obtain ⟨d4, e3, h_2⟩ := asImmZ_spec h_1
 obtain ⟨m6, d7, e5, h_3⟩ := asRoot_spec h_2
 obtain ⟨rfl, h_4⟩ := asM_spec h_3
 obtain ⟨m9, d10, e8, h_5⟩ := asRoot_spec h_4
 obtain ⟨rfl, h_6⟩ := asM_spec h_5
 obtain ⟨y, hy, hz⟩ := mat_some h_6
 refine ⟨_, _, l_FnListed_l28_mk d7 d10, l_FnListed_l28_out d7 d10, l_FnListed_l28 d7 d10, d4, y, ?_, hy, ?_, l_FnListed_l28_step d7 d10⟩
 ·subst hs; exact restrict_eq (T := [(13, (.ptr (15, 0) [])), (17, (.ref (19, 0) [])), (19, (.imm true (.int .i64) d4))]) (U := [((15, 0), some ⟨true, kMatrix, .own, d7⟩), ((19, 0), some ⟨false, (.sl (.int .i64)), .own, d10⟩)]) rfl rfl ⟨e1, e2, e3, trivial⟩ ⟨e5, e8, trivial⟩
 ·rcases y with x | x <;> exact Option.some.inj hz
noncomputable def l_FnListed_I : FnI := ⟨l_FnListed_b, Try.f5.results.toList, Try.f5.resultTypes.toList, l_FnListed_A⟩
noncomputable def l_FnListed_out (_zp0 : Bool) (_zp1 : Bool) (_p0 : (List Int)) (_p1 : (List Int)) : Bool → CallOut := fun r => ⟨(.imm true .bool r), [], []⟩
set_option maxRecDepth 100000 in
theorem l_FnListed_eq : ∀ (zp0 : Bool) (zp1 : Bool) (p0 : (List Int)) (p1 : (List Int)), denFn l_FnListed_V l_FnListed_I ⟨[(.imm zp0 (.sl (.int .u8)) p0), (.imm zp1 (.sl (.int .u8)) p1)], []⟩ = (l_FnListed p0 p1).run fun r => some (l_FnListed_out zp0 zp1 p0 p1 r) := fun _ _ _ _ => by kernel_rfl
noncomputable def l_FnListed_G (av : List AV) (rs : List Root) : Tre CallOut :=
 asCons av fun a0_ av0 =>
 asCons av0 fun a1_ av1 =>
 asEnd av1 <|
 asEnd rs <|
 asImm (.sl (.int .u8)) a0_ fun z2 d1 =>
 asImm (.sl (.int .u8)) a1_ fun z4 d3 =>
 .mat (l_FnListed_F d1 d3) fun r => .ret (l_FnListed_out z2 z4 d1 d3 r)
noncomputable def l_FnListed_c : Ctr := ⟨[], fun ci => l_FnListed_G ci.args ci.roots, false⟩
theorem l_FnListed_env : EnvOK Try.prog .none l_FnListed_V := (envOK_cons l_a2Long_ok ent16 (envOK_cons l_a2At_ok ent17 (envOK_cons i_SpacesOf_ok ent18 (envOK_cons i_GaussNumber_ok ent19 (envOK_cons s_A2Space_ok ent20 (envOK_cons s_IsSpace_ok ent21 (envOK_cons s_SameMatrix_ok ent22 (envOK_cons i_VectorsOf_ok ent23 (envOK_cons i_SolveRows_ok ent24 envOK_nil)))))))))
set_option maxRecDepth 100000 in
theorem l_FnListed_ok : Contract Try.prog .none 5 l_FnListed_c := by
 have hl : LoopsOK l_FnListed_V l_FnListed_A l_FnListed_b := (loopsOK_all (n := 3) (by kernel_rfl) fun k hk => by
   match k, hk with
   | 0, _ => exact loopOK_at (id := 13) (L := l_FnListed_l13_L) (by kernel_rfl) (by kernel_rfl) l_FnListed_l13_ok
   | 1, _ => exact loopOK_at (id := 20) (L := l_FnListed_l20_L) (by kernel_rfl) (by kernel_rfl) l_FnListed_l20_ok
   | 2, _ => exact loopOK_at (id := 28) (L := l_FnListed_l28_L) (by kernel_rfl) (by kernel_rfl) l_FnListed_l28_ok)
 refine (contract_of (F := l_FnListed_I) tau_tys l_FnListed_env Try.func5 (by kernel_rfl) (by kernel_rfl) (by kernel_rfl) hl []).weaken ?_
 rintro ⟨av, rs⟩ co h
 have h : (l_FnListed_G av rs).run some = some co := h
 obtain ⟨a0_, av0, rfl, h_0⟩ := asCons_spec h
 obtain ⟨a1_, av1, rfl, h_1⟩ := asCons_spec h_0
 obtain ⟨rfl, h_2⟩ := asEnd_spec h_1
 obtain ⟨rfl, h_3⟩ := asEnd_spec h_2
 obtain ⟨z2, d1, rfl, h_4⟩ := asImm_spec h_3
 obtain ⟨z4, d3, rfl, h_5⟩ := asImm_spec h_4
 exact fin_mat (l_FnListed_eq z2 z4 d1 d3) h_5
end Go.Proofs.Ythnkanacjhlhhaa

namespace Go.Proofs.Ythnkanacjhlhhaa
open Go Go.Abs Go.Proofs
-- shared
theorem at_ok {code : List Int} (hc : ∀ x ∈ code, 0 ≤ x ∧ x ≤ 255) {i n : Int} (hi : 0 ≤ i) : ∃ r, l_a2At_F code i n = some r ∧ (0 ≤ r ∧ (r = 0 ∨ r < n)) := by
 unfold l_a2At_F l_a2At
 refine Fine.run (Fine.condp (fun _ => .ret ⟨Int.le_refl _, .inl rfl⟩) fun h1 => Fine.condp (fun _ => .ret ⟨Int.le_refl _, .inl rfl⟩) fun h2 => Fine.ite ⟨hi, by omega⟩ fun h3 => Fine.at h3 fun x hx => Fine.ifn (by omega) (.ret ?_))
 have hb := hc x hx
 rw [iwrap_i64 (n := x) (by omega) (by omega)]
 have := tmod_rng (x := x) (n := n) (by omega) (by omega)
 exact ⟨this.1, .inr this.2⟩
end Go.Proofs.Ythnkanacjhlhhaa

namespace Go.Proofs.Ythnkanacjhlhhaa
open Go Go.Abs Go.Proofs
-- shared
theorem iwrap_pred {i : Nat} (h0 : 0 < i) (h : i < 4611686018427387904) : iwrap .i64 ((i : Int) - 1) = ((i - 1 : Nat) : Int) := by
 rw [iwrap_i64 (by omega) (by omega)]; omega
end Go.Proofs.Ythnkanacjhlhhaa

namespace Go.Proofs.Ythnkanacjhlhhaa
open Go Go.Abs Go.Proofs
-- shared
def mkL (n k : Nat) : List (Int × List Int × Unit) := (spL n k).map fun r => ((n : Int), r, ())
noncomputable def chkAt (n k : Nat) (L : List (Int × List Int × Unit)) (i : Nat) : Bool := match L[i]? with
 | none => false
 | some x => (s_IsSpace_F x == some true) && (decide (x.1 = (n : Int)) && (decide ((x.2.1.length : Int) = (k : Int)) && (decide (i = 0) || (match loopF (l_FnListed_l20 (i : Int) L) 0, L[i - 1]? with
  | some a, some p => (match p.2.1[a.toNat]?, x.2.1[a.toNat]? with
   | some y, some z => decide (0 ≤ a) && decide (y ≤ z)
   | _, _ => false)
  | _, _ => false))))
noncomputable def chkL (n k : Nat) : Bool := (List.range (mkL n k).length).all (chkAt n k (mkL n k))
noncomputable def chkU (n : Nat) : Bool := (spS n).all fun u => match i_VectorsOf_F ((n : Int), (u, ())) with
 | some (c, V) => decide (c = 0) && (decide ((V.length : Int) = ishl .i64 1 (iwrap .u64 (u.length : Int))) && (match loopF (l_FnListed_l28 ((n : Int), (u, ())) V) 0 with
  | some (.inr ()) => true
  | _ => false))
 | none => false
def chkM (n k : Nat) : Bool := (spS n).all fun u => ((mkL n k).any fun x => sameV x ((n : Int), u, ())) == decide ((u.length : Int) = (k : Int))
end Go.Proofs.Ythnkanacjhlhhaa

namespace Go.Proofs.Ythnkanacjhlhhaa
open Go Go.Abs Go.Proofs
-- shared
set_option maxRecDepth 100000
theorem lst_1_0 : i_SpacesOf_F ((1 : Nat) : Int) ((0 : Nat) : Int) = some (.inr (0, mkL 1 0)) := by kernel_rfl
theorem lst_1_1 : i_SpacesOf_F ((1 : Nat) : Int) ((1 : Nat) : Int) = some (.inr (0, mkL 1 1)) := by kernel_rfl
theorem lst_2_0 : i_SpacesOf_F ((2 : Nat) : Int) ((0 : Nat) : Int) = some (.inr (0, mkL 2 0)) := by kernel_rfl
theorem lst_2_1 : i_SpacesOf_F ((2 : Nat) : Int) ((1 : Nat) : Int) = some (.inr (0, mkL 2 1)) := by kernel_rfl
theorem lst_2_2 : i_SpacesOf_F ((2 : Nat) : Int) ((2 : Nat) : Int) = some (.inr (0, mkL 2 2)) := by kernel_rfl
theorem lst_3_0 : i_SpacesOf_F ((3 : Nat) : Int) ((0 : Nat) : Int) = some (.inr (0, mkL 3 0)) := by kernel_rfl
theorem lst_3_1 : i_SpacesOf_F ((3 : Nat) : Int) ((1 : Nat) : Int) = some (.inr (0, mkL 3 1)) := by kernel_rfl
theorem lst_3_2 : i_SpacesOf_F ((3 : Nat) : Int) ((2 : Nat) : Int) = some (.inr (0, mkL 3 2)) := by kernel_rfl
theorem lst_3_3 : i_SpacesOf_F ((3 : Nat) : Int) ((3 : Nat) : Int) = some (.inr (0, mkL 3 3)) := by kernel_rfl
theorem lst_4_0 : i_SpacesOf_F ((4 : Nat) : Int) ((0 : Nat) : Int) = some (.inr (0, mkL 4 0)) := by kernel_rfl
theorem lst_4_1 : i_SpacesOf_F ((4 : Nat) : Int) ((1 : Nat) : Int) = some (.inr (0, mkL 4 1)) := by kernel_rfl
theorem lst_4_2 : i_SpacesOf_F ((4 : Nat) : Int) ((2 : Nat) : Int) = some (.inr (0, mkL 4 2)) := by kernel_rfl
theorem lst_4_3 : i_SpacesOf_F ((4 : Nat) : Int) ((3 : Nat) : Int) = some (.inr (0, mkL 4 3)) := by kernel_rfl
theorem lst_4_4 : i_SpacesOf_F ((4 : Nat) : Int) ((4 : Nat) : Int) = some (.inr (0, mkL 4 4)) := by kernel_rfl
end Go.Proofs.Ythnkanacjhlhhaa

namespace Go.Proofs.Ythnkanacjhlhhaa
open Go Go.Abs Go.Proofs
-- shared
theorem l13_step (n k : Nat) (hn : n ≤ 4) (hc : chkL n k = true) (u : List Int) (hu : u.length ≤ 1048576) (hl : (mkL n k).length ≤ 1000) {i : Nat} {x : Int × List Int × Unit} (hx : (mkL n k)[i]? = some x) (met : Bool) :
  (l_FnListed_l13 (n : Int) (k : Int) (mkL n k) ((n : Int), (u, ())) (met, (i : Int))).run some = some (.inl (met || sameV x ((n : Int), u, ()), ((i + 1 : Nat) : Int))) := by
 have hi : i < (mkL n k).length := (List.getElem?_eq_some_iff.1 hx).1
 have hchk := List.all_eq_true.1 hc i (List.mem_range.2 hi)
 unfold chkAt at hchk
 rw [hx] at hchk
 simp only [Bool.and_eq_true, Bool.or_eq_true, decide_eq_true_eq] at hchk
 obtain ⟨h1, h2, h3, h4⟩ := hchk
 have h1 := eq_of_beq h1
 have hsame : s_SameMatrix_F x ((n : Int), (u, ())) = some (sameV x ((n : Int), u, ())) := s_SameMatrix_is x _ (by
  have : ∀ i : Nat, i < (mkL n k).length → True := fun _ _ => trivial
  have h5 : (x.2.1.length : Int) = k := h3
  have h6 : k ≤ 1048576 := by
   by_cases hk : k ≤ 1048576
   ·exact hk
   ·exfalso
    have : spL n k = [] := by
     unfold spL
     split <;> first | rfl | omega
    unfold mkL at hi
    rw [this] at hi
    simp at hi
  omega) hu
 unfold l_FnListed_l13
 rw [run_inb hx, run_some_mat h1, Tre.run_cond, Bool.not_true, cond_false, run_at hx, Tre.run_cond, decide_eq_true h2, Bool.not_true, cond_false, run_at hx, Tre.run_cond, decide_eq_true h3, Bool.not_true, cond_false, Tre.run_cond]
 have hw : iwrap .i64 ((i : Int) + 1) = ((i + 1 : Nat) : Int) := iwrap_succ (by omega)
 by_cases h0 : i = 0
 ·subst h0
  cases met
  ·rw [cond_false, run_at hx, run_some_mat hsame, Tre.run_cond, decide_eq_true (by rfl), cond_true, Bool.false_or]
   rfl
  ·rfl
 ·have h4 := h4.resolve_left h0
  split at h4
  case h_2 => cases h4
  case h_1 a p ha hp =>
  split at h4
  case h_2 => cases h4
  case h_1 y z hy hz =>
  simp only [Bool.and_eq_true, decide_eq_true_eq] at h4
  obtain ⟨ha0, hyz⟩ := h4
  obtain ⟨a, rfl⟩ := Int.eq_ofNat_of_zero_le ha0
  rw [Int.toNat_natCast] at hy hz
  have hza : a < x.2.1.length := (List.getElem?_eq_some_iff.1 hz).1
  have tail : ∀ (b : Bool), (Tre.mat (loopF (l_FnListed_l20 (i : Int) (mkL n k)) 0) fun l24 =>
    Tre.ite (0 ≤ (i : Int) ∧ (i : Int) < ((mkL n k).length : Int)) <|
    Tre.mat ((mkL n k)[(i : Int).toNat]?) fun x25 =>
    Tre.cond (decide (l24 = (x25.2.1.length : Int)))
     (Tre.ret (Sum.inr (Sum.inl (false, b))))
     (Tre.ite (0 ≤ iwrap .i64 ((i : Int) - 1) ∧ iwrap .i64 ((i : Int) - 1) < ((mkL n k).length : Int)) <|
     Tre.mat ((mkL n k)[(iwrap .i64 ((i : Int) - 1)).toNat]?) fun x26 =>
     Tre.ite (0 ≤ l24 ∧ l24 < (x26.2.1.length : Int)) <|
     Tre.mat (x26.2.1[l24.toNat]?) fun x27 =>
     Tre.ite (0 ≤ (i : Int) ∧ (i : Int) < ((mkL n k).length : Int)) <|
     Tre.mat ((mkL n k)[(i : Int).toNat]?) fun x28 =>
     Tre.ite (0 ≤ l24 ∧ l24 < (x28.2.1.length : Int)) <|
     Tre.mat (x28.2.1[l24.toNat]?) fun x29 =>
     Tre.cond (decide (x27 > x29))
      (Tre.ret (Sum.inr (Sum.inl (false, b))))
      (Tre.ret (Sum.inl (b, iwrap .i64 ((i : Int) + 1))))) : Tre ((Bool × Int) ⊕ ((Bool × Bool) ⊕ Bool))).run some = some (.inl (b, ((i + 1 : Nat) : Int))) := by
   intro b
   rw [run_some_mat ha, run_at hx, Tre.run_cond, decide_eq_false (by omega), cond_false, iwrap_pred (by omega) (by omega), run_at hp, run_at hy, run_at hx, run_at hz, Tre.run_cond, decide_eq_false (by omega), cond_false, Tre.run_ret, hw]
  cases met
  ·rw [cond_false, run_at hx, run_some_mat hsame, Tre.run_cond, decide_eq_false (show ¬ ((false, (i : Int)) : Bool × Int).2 = 0 by dsimp only; omega), cond_false, Bool.false_or]
   exact tail _
  ·rw [cond_true, Tre.run_cond, decide_eq_false (show ¬ ((true, (i : Int)) : Bool × Int).2 = 0 by dsimp only; omega), cond_false, Bool.true_or]
   exact tail true
theorem l13_is (n k : Nat) (hn : n ≤ 4) (hc : chkL n k = true) (u : List Int) (hu : u.length ≤ 1048576) (hl : (mkL n k).length ≤ 1000) :
  loopF (l_FnListed_l13 (n : Int) (k : Int) (mkL n k) ((n : Int), (u, ()))) (false, 0) = some (.inr ((mkL n k).any fun x => sameV x ((n : Int), u, ()))) := by
 have h := fold_loop' (xs := mkL n k) (step := l_FnListed_l13 (n : Int) (k : Int) (mkL n k) ((n : Int), (u, ()))) (fun i acc => (acc, (i : Int))) (fun _ acc x => .inl (acc || sameV x ((n : Int), u, ()))) (fun acc => .inr acc)
  (fun i acc x hx => l13_step n k hn hc u hu hl hx acc) (fun acc => by unfold l_FnListed_l13; exact run_out) false
 have key : ∀ (l : List (Int × List Int × Unit)) (i : Nat) (acc : Bool), foldE (β := (Bool × Bool) ⊕ Bool) (fun _ acc x => .inl (acc || sameV x ((n : Int), u, ()))) (fun acc => .inr acc) i acc l = .inr (acc || l.any fun x => sameV x ((n : Int), u, ())) := by
  intro l
  induction l with
  | nil => intro i acc; simp [foldE]
  | cons x l ih => intro i acc; simp only [foldE]; rw [ih]; simp [Bool.or_assoc]
 rw [key, Bool.false_or] at h
 exact h
theorem listed_of (n k : Nat) (hn1 : 1 ≤ n) (hn : n ≤ 4) (hk : k ≤ n) (hA : i_SpacesOf_F (n : Int) (k : Int) = some (.inr (0, mkL n k))) (hG : i_GaussNumber_F (n : Int) (k : Int) = some (((mkL n k).length : Int), 0))
  (hG' : i_GaussNumber_F (n : Int) ((n : Int) - (k : Int)) = some (((mkL n k).length : Int), 0)) (hL : chkL n k = true) (hU : chkU n = true) (hM : chkM n k = true) (hl : (mkL n k).length ≤ 1000) (hsl : ∀ u ∈ spS n, u.length ≤ 1048576)
  (p0 p1 : List Int) (h0 : l_a2At_F p0 0 4 = some ((n : Int) - 1)) (h1 : l_a2At_F p0 1 ((n : Int) + 1) = some (k : Int)) (h2 : ∃ u, s_A2Space_F p1 (n : Int) = some u ∧ u ∈ spS n) : l_FnListed_F p0 p1 = some true := by
 obtain ⟨u, hu, huS⟩ := h2
 unfold l_FnListed_F l_FnListed
 rw [Tre.run_cond]
 cases l_a2Long_S p0 p1
 case true => rfl
 have e1 : iwrap .i64 (1 + ((n : Int) - 1)) = (n : Int) := by rw [iwrap_i64 (by omega) (by omega)]; omega
 have e2 : iwrap .i64 ((n : Int) + 1) = (n : Int) + 1 := iwrap_i64 (by omega) (by omega)
 have e3 : iwrap .i64 ((n : Int) - (k : Int)) = (n : Int) - (k : Int) := iwrap_i64 (by omega) (by omega)
 rw [cond_false, run_some_mat h0]
 dsimp only
 rw [e1, e2, run_some_mat h1, run_some_mat hA, Tre.run_inr, run_some_mat hG]
 dsimp only
 rw [e3, run_some_mat hG']
 simp only [Tre.run_cond, decide_true, Bool.not_true, cond_false]
 rw [run_some_mat hu, run_some_mat (l13_is n k hn hL u (hsl u huS) hl), Tre.run_inr]
 have hcu := List.all_eq_true.1 hU u huS
 split at hcu
 case h_2 => cases hcu
 case h_1 c V hV =>
 simp only [Bool.and_eq_true, decide_eq_true_eq] at hcu
 obtain ⟨rfl, hVl, hloop⟩ := hcu
 rw [run_some_mat hV, Tre.run_cond, decide_eq_true rfl, Bool.not_true, cond_false]
 dsimp only
 rw [Tre.run_ite, if_pos (iwrap_u64_nonneg _), Tre.run_cond, decide_eq_true hVl, Bool.not_true, cond_false, Tre.run_cond]
 have hm := List.all_eq_true.1 hM u huS
 rw [hm, Bool.not_true, cond_false]
 split at hloop
 case h_2 => cases hloop
 case h_1 hlp =>
 rw [run_some_mat hlp]
 rfl
end Go.Proofs.Ythnkanacjhlhhaa

namespace Go.Proofs.Ythnkanacjhlhhaa
open Go Go.Abs Go.Proofs
-- shared
set_option maxRecDepth 100000
theorem gau_1_0 : i_GaussNumber_F ((1 : Nat) : Int) ((0 : Nat) : Int) = some (((mkL 1 0).length : Int), 0) := by kernel_rfl
theorem gav_1_0 : i_GaussNumber_F ((1 : Nat) : Int) (((1 : Nat) : Int) - ((0 : Nat) : Int)) = some (((mkL 1 0).length : Int), 0) := by kernel_rfl
theorem ckl_1_0 : chkL 1 0 = true := by kernel_rfl
theorem ckm_1_0 : chkM 1 0 = true := by kernel_rfl
theorem gau_1_1 : i_GaussNumber_F ((1 : Nat) : Int) ((1 : Nat) : Int) = some (((mkL 1 1).length : Int), 0) := by kernel_rfl
theorem gav_1_1 : i_GaussNumber_F ((1 : Nat) : Int) (((1 : Nat) : Int) - ((1 : Nat) : Int)) = some (((mkL 1 1).length : Int), 0) := by kernel_rfl
theorem ckl_1_1 : chkL 1 1 = true := by kernel_rfl
theorem ckm_1_1 : chkM 1 1 = true := by kernel_rfl
theorem gau_2_0 : i_GaussNumber_F ((2 : Nat) : Int) ((0 : Nat) : Int) = some (((mkL 2 0).length : Int), 0) := by kernel_rfl
theorem gav_2_0 : i_GaussNumber_F ((2 : Nat) : Int) (((2 : Nat) : Int) - ((0 : Nat) : Int)) = some (((mkL 2 0).length : Int), 0) := by kernel_rfl
theorem ckl_2_0 : chkL 2 0 = true := by kernel_rfl
theorem ckm_2_0 : chkM 2 0 = true := by kernel_rfl
theorem gau_2_1 : i_GaussNumber_F ((2 : Nat) : Int) ((1 : Nat) : Int) = some (((mkL 2 1).length : Int), 0) := by kernel_rfl
theorem gav_2_1 : i_GaussNumber_F ((2 : Nat) : Int) (((2 : Nat) : Int) - ((1 : Nat) : Int)) = some (((mkL 2 1).length : Int), 0) := by kernel_rfl
theorem ckl_2_1 : chkL 2 1 = true := by kernel_rfl
theorem ckm_2_1 : chkM 2 1 = true := by kernel_rfl
theorem gau_2_2 : i_GaussNumber_F ((2 : Nat) : Int) ((2 : Nat) : Int) = some (((mkL 2 2).length : Int), 0) := by kernel_rfl
theorem gav_2_2 : i_GaussNumber_F ((2 : Nat) : Int) (((2 : Nat) : Int) - ((2 : Nat) : Int)) = some (((mkL 2 2).length : Int), 0) := by kernel_rfl
theorem ckl_2_2 : chkL 2 2 = true := by kernel_rfl
theorem ckm_2_2 : chkM 2 2 = true := by kernel_rfl
theorem gau_3_0 : i_GaussNumber_F ((3 : Nat) : Int) ((0 : Nat) : Int) = some (((mkL 3 0).length : Int), 0) := by kernel_rfl
theorem gav_3_0 : i_GaussNumber_F ((3 : Nat) : Int) (((3 : Nat) : Int) - ((0 : Nat) : Int)) = some (((mkL 3 0).length : Int), 0) := by kernel_rfl
theorem ckl_3_0 : chkL 3 0 = true := by kernel_rfl
theorem ckm_3_0 : chkM 3 0 = true := by kernel_rfl
theorem gau_3_1 : i_GaussNumber_F ((3 : Nat) : Int) ((1 : Nat) : Int) = some (((mkL 3 1).length : Int), 0) := by kernel_rfl
theorem gav_3_1 : i_GaussNumber_F ((3 : Nat) : Int) (((3 : Nat) : Int) - ((1 : Nat) : Int)) = some (((mkL 3 1).length : Int), 0) := by kernel_rfl
theorem ckl_3_1 : chkL 3 1 = true := by kernel_rfl
theorem ckm_3_1 : chkM 3 1 = true := by kernel_rfl
theorem gau_3_2 : i_GaussNumber_F ((3 : Nat) : Int) ((2 : Nat) : Int) = some (((mkL 3 2).length : Int), 0) := by kernel_rfl
theorem gav_3_2 : i_GaussNumber_F ((3 : Nat) : Int) (((3 : Nat) : Int) - ((2 : Nat) : Int)) = some (((mkL 3 2).length : Int), 0) := by kernel_rfl
theorem ckl_3_2 : chkL 3 2 = true := by kernel_rfl
theorem ckm_3_2 : chkM 3 2 = true := by kernel_rfl
theorem gau_3_3 : i_GaussNumber_F ((3 : Nat) : Int) ((3 : Nat) : Int) = some (((mkL 3 3).length : Int), 0) := by kernel_rfl
theorem gav_3_3 : i_GaussNumber_F ((3 : Nat) : Int) (((3 : Nat) : Int) - ((3 : Nat) : Int)) = some (((mkL 3 3).length : Int), 0) := by kernel_rfl
theorem ckl_3_3 : chkL 3 3 = true := by kernel_rfl
theorem ckm_3_3 : chkM 3 3 = true := by kernel_rfl
theorem gau_4_0 : i_GaussNumber_F ((4 : Nat) : Int) ((0 : Nat) : Int) = some (((mkL 4 0).length : Int), 0) := by kernel_rfl
theorem gav_4_0 : i_GaussNumber_F ((4 : Nat) : Int) (((4 : Nat) : Int) - ((0 : Nat) : Int)) = some (((mkL 4 0).length : Int), 0) := by kernel_rfl
theorem ckl_4_0 : chkL 4 0 = true := by kernel_rfl
theorem ckm_4_0 : chkM 4 0 = true := by kernel_rfl
theorem gau_4_1 : i_GaussNumber_F ((4 : Nat) : Int) ((1 : Nat) : Int) = some (((mkL 4 1).length : Int), 0) := by kernel_rfl
theorem gav_4_1 : i_GaussNumber_F ((4 : Nat) : Int) (((4 : Nat) : Int) - ((1 : Nat) : Int)) = some (((mkL 4 1).length : Int), 0) := by kernel_rfl
theorem ckl_4_1 : chkL 4 1 = true := by kernel_rfl
theorem ckm_4_1 : chkM 4 1 = true := by kernel_rfl
theorem gau_4_2 : i_GaussNumber_F ((4 : Nat) : Int) ((2 : Nat) : Int) = some (((mkL 4 2).length : Int), 0) := by kernel_rfl
theorem gav_4_2 : i_GaussNumber_F ((4 : Nat) : Int) (((4 : Nat) : Int) - ((2 : Nat) : Int)) = some (((mkL 4 2).length : Int), 0) := by kernel_rfl
theorem ckl_4_2 : chkL 4 2 = true := by kernel_rfl
theorem ckm_4_2 : chkM 4 2 = true := by kernel_rfl
theorem gau_4_3 : i_GaussNumber_F ((4 : Nat) : Int) ((3 : Nat) : Int) = some (((mkL 4 3).length : Int), 0) := by kernel_rfl
theorem gav_4_3 : i_GaussNumber_F ((4 : Nat) : Int) (((4 : Nat) : Int) - ((3 : Nat) : Int)) = some (((mkL 4 3).length : Int), 0) := by kernel_rfl
theorem ckl_4_3 : chkL 4 3 = true := by kernel_rfl
theorem ckm_4_3 : chkM 4 3 = true := by kernel_rfl
theorem gau_4_4 : i_GaussNumber_F ((4 : Nat) : Int) ((4 : Nat) : Int) = some (((mkL 4 4).length : Int), 0) := by kernel_rfl
theorem gav_4_4 : i_GaussNumber_F ((4 : Nat) : Int) (((4 : Nat) : Int) - ((4 : Nat) : Int)) = some (((mkL 4 4).length : Int), 0) := by kernel_rfl
theorem ckl_4_4 : chkL 4 4 = true := by kernel_rfl
theorem ckm_4_4 : chkM 4 4 = true := by kernel_rfl
end Go.Proofs.Ythnkanacjhlhhaa

namespace Go.Proofs.Ythnkanacjhlhhaa
open Go Go.Abs Go.Proofs
-- shared
set_option maxRecDepth 100000
theorem cku_1 : chkU 1 = true := by kernel_rfl
theorem cku_2 : chkU 2 = true := by kernel_rfl
theorem cku_3 : chkU 3 = true := by kernel_rfl
theorem cku_4 : chkU 4 = true := by kernel_rfl
end Go.Proofs.Ythnkanacjhlhhaa

namespace Go.Proofs.Ythnkanacjhlhhaa
open Go Go.Abs Go.Proofs
-- shared
set_option maxRecDepth 100000
theorem ckc_1 : closedB 1 = true := by kernel_rfl
theorem ck0_1 : ([] : List Int) ∈ spS 1 := List.contains_iff_mem.1 (by kernel_rfl)
theorem cko_1 : ∀ E ∈ spS 1, okRows 1 E = true := List.all_eq_true.1 (by kernel_rfl)
theorem ckc_2 : closedB 2 = true := by kernel_rfl
theorem ck0_2 : ([] : List Int) ∈ spS 2 := List.contains_iff_mem.1 (by kernel_rfl)
theorem cko_2 : ∀ E ∈ spS 2, okRows 2 E = true := List.all_eq_true.1 (by kernel_rfl)
theorem ckc_3 : closedB 3 = true := by kernel_rfl
theorem ck0_3 : ([] : List Int) ∈ spS 3 := List.contains_iff_mem.1 (by kernel_rfl)
theorem cko_3 : ∀ E ∈ spS 3, okRows 3 E = true := List.all_eq_true.1 (by kernel_rfl)
theorem ckc_4 : closedB 4 = true := by kernel_rfl
theorem ck0_4 : ([] : List Int) ∈ spS 4 := List.contains_iff_mem.1 (by kernel_rfl)
theorem cko_4 : ∀ E ∈ spS 4, okRows 4 E = true := List.all_eq_true.1 (by kernel_rfl)
end Go.Proofs.Ythnkanacjhlhhaa

namespace Go.Proofs.Ythnkanacjhlhhaa
open Go Go.Abs Go.Proofs
-- shared
theorem l_FnListed_law (p0 p1 : List Int) (hw0 : (K.sl (.int .u8)).wf p0) (hw1 : (K.sl (.int .u8)).wf p1) : l_FnListed_F p0 p1 = some true := by
 have hb : ∀ {xs : List Int}, (K.sl (.int .u8)).wf xs → ∀ x ∈ xs, 0 ≤ x ∧ x ≤ 255 := by
  intro xs h x hx
  have := h.2 x hx
  have h2 : Lit.wf (.int .u8 x) = true := this
  simp only [Lit.wf, Bool.and_eq_true, decide_eq_true_eq] at h2
  have a : IntKind.u8.min = 0 := by decide
  have b : IntKind.u8.max = 255 := by decide
  omega
 by_cases hlong : l_a2Long_S p0 p1 = true
 ·unfold l_FnListed_F l_FnListed
  rw [Tre.run_cond, hlong]; rfl
 have hlen : p0.length ≤ 3000 ∧ p1.length ≤ 3000 := by
  unfold l_a2Long_S at hlong
  by_cases h1 : (p0.length : Int) > 3000
  ·rw [decide_eq_true h1] at hlong; exact absurd rfl hlong
  ·rw [decide_eq_false h1, cond_false, decide_eq_true_eq] at hlong
   omega
 obtain ⟨r1, hr1, h10, h11⟩ := at_ok (hb hw0) (i := 0) (n := 4) (Int.le_refl _)
 obtain ⟨r3, hr3, h30, h31⟩ := at_ok (hb hw0) (i := 1) (n := r1 + 1 + 1) (by decide)
 have hr1c : r1 = 0 ∨ r1 = 1 ∨ r1 = 2 ∨ r1 = 3 := by omega
 have fin : ∀ (n k : Nat), r1 = (n : Int) - 1 → r3 = (k : Int) → 1 ≤ n → n ≤ 4 → k ≤ n → i_SpacesOf_F (n : Int) (k : Int) = some (.inr (0, mkL n k)) → i_GaussNumber_F (n : Int) (k : Int) = some (((mkL n k).length : Int), 0) →
   i_GaussNumber_F (n : Int) ((n : Int) - (k : Int)) = some (((mkL n k).length : Int), 0) → chkL n k = true → chkU n = true → chkM n k = true → (mkL n k).length ≤ 1000 → ([] : List Int) ∈ spS n → (∀ E ∈ spS n, okRows n E = true) → closedB n = true → l_FnListed_F p0 p1 = some true := by
  intro n k e1 e3 hn1 hn hk hA hG hG' hL hU hM hl h0 ho hc
  subst e1 e3
  refine listed_of n k hn1 hn hk hA hG hG' hL hU hM hl (fun u hu => ?_) p0 p1 hr1 (by rw [show (n : Int) - 1 + 1 + 1 = (n : Int) + 1 by omega] at hr3; exact hr3) (s_A2Space_in n hn h0 ho hc p1 hlen.2 (hb hw1))
  obtain ⟨ns, rfl, hl2, _⟩ := okRows_up (ho u hu)
  rw [up_len]; exact hl2
 rcases hr1c with rfl | rfl | rfl | rfl
 ·have hc : r3 = 0 ∨ r3 = 1 := by omega
  rcases hc with h | h
  ·exact fin 1 0 rfl h (by decide) (by decide) (by decide) lst_1_0 gau_1_0 gav_1_0 ckl_1_0 cku_1 ckm_1_0 (by decide) ck0_1 cko_1 ckc_1
  ·exact fin 1 1 rfl h (by decide) (by decide) (by decide) lst_1_1 gau_1_1 gav_1_1 ckl_1_1 cku_1 ckm_1_1 (by decide) ck0_1 cko_1 ckc_1
 ·have hc : r3 = 0 ∨ r3 = 1 ∨ r3 = 2 := by omega
  rcases hc with h | h | h
  ·exact fin 2 0 rfl h (by decide) (by decide) (by decide) lst_2_0 gau_2_0 gav_2_0 ckl_2_0 cku_2 ckm_2_0 (by decide) ck0_2 cko_2 ckc_2
  ·exact fin 2 1 rfl h (by decide) (by decide) (by decide) lst_2_1 gau_2_1 gav_2_1 ckl_2_1 cku_2 ckm_2_1 (by decide) ck0_2 cko_2 ckc_2
  ·exact fin 2 2 rfl h (by decide) (by decide) (by decide) lst_2_2 gau_2_2 gav_2_2 ckl_2_2 cku_2 ckm_2_2 (by decide) ck0_2 cko_2 ckc_2
 ·have hc : r3 = 0 ∨ r3 = 1 ∨ r3 = 2 ∨ r3 = 3 := by omega
  rcases hc with h | h | h | h
  ·exact fin 3 0 rfl h (by decide) (by decide) (by decide) lst_3_0 gau_3_0 gav_3_0 ckl_3_0 cku_3 ckm_3_0 (by decide) ck0_3 cko_3 ckc_3
  ·exact fin 3 1 rfl h (by decide) (by decide) (by decide) lst_3_1 gau_3_1 gav_3_1 ckl_3_1 cku_3 ckm_3_1 (by decide) ck0_3 cko_3 ckc_3
  ·exact fin 3 2 rfl h (by decide) (by decide) (by decide) lst_3_2 gau_3_2 gav_3_2 ckl_3_2 cku_3 ckm_3_2 (by decide) ck0_3 cko_3 ckc_3
  ·exact fin 3 3 rfl h (by decide) (by decide) (by decide) lst_3_3 gau_3_3 gav_3_3 ckl_3_3 cku_3 ckm_3_3 (by decide) ck0_3 cko_3 ckc_3
 ·have hc : r3 = 0 ∨ r3 = 1 ∨ r3 = 2 ∨ r3 = 3 ∨ r3 = 4 := by omega
  rcases hc with h | h | h | h | h
  ·exact fin 4 0 rfl h (by decide) (by decide) (by decide) lst_4_0 gau_4_0 gav_4_0 ckl_4_0 cku_4 ckm_4_0 (by decide) ck0_4 cko_4 ckc_4
  ·exact fin 4 1 rfl h (by decide) (by decide) (by decide) lst_4_1 gau_4_1 gav_4_1 ckl_4_1 cku_4 ckm_4_1 (by decide) ck0_4 cko_4 ckc_4
  ·exact fin 4 2 rfl h (by decide) (by decide) (by decide) lst_4_2 gau_4_2 gav_4_2 ckl_4_2 cku_4 ckm_4_2 (by decide) ck0_4 cko_4 ckc_4
  ·exact fin 4 3 rfl h (by decide) (by decide) (by decide) lst_4_3 gau_4_3 gav_4_3 ckl_4_3 cku_4 ckm_4_3 (by decide) ck0_4 cko_4 ckc_4
  ·exact fin 4 4 rfl h (by decide) (by decide) (by decide) lst_4_4 gau_4_4 gav_4_4 ckl_4_4 cku_4 ckm_4_4 (by decide) ck0_4 cko_4 ckc_4
end Go.Proofs.Ythnkanacjhlhhaa
