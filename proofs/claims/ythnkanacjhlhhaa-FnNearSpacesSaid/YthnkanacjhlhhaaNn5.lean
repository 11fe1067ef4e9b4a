/- Part 5 of the proof of FnNearSpaces. -/
import Derived.Test.YthnkanacjhlhhaaNn4
namespace Go.Proofs.Ythnkanacjhlhhaa
open Go Go.Abs Go.Proofs
noncomputable def nm18_l2 (h2_0_0 : (List Int)) (h2_0_1 : Int) (h2_0_3 : TMatrix) : Int → Tre (Int ⊕ (Int ⊕ Unit)) := fun s2 =>
 .cond (decide (s2 < h2_0_1))
  (.ite (0 ≤ s2 ∧ s2 < (h2_0_0.length : Int)) <|
  .mat (h2_0_0[s2.toNat]?) fun x1 =>
  .mat (i_ValidMatrixc1_ccae_F x1 h2_0_3) fun r2 =>
  .cond r2
   (.ret (.inr (.inl s2)))
   (.ret (.inl (iwrap .i64 (s2 + 1)))))
  (.ret (.inr (.inr ())))
noncomputable def nm18 (p0 : (List Int)) (p1 : TMatrix) : Tre Int :=
 .mat (loopF (nm18_l2 p0 (p0.length : Int) p1) 0) fun l3 =>
 .alt l3
  (fun a4 =>
   .ret a4)
  (fun _ =>
   .ret (-1))
noncomputable def nm18_F (p0 : (List Int)) (p1 : TMatrix) : Option Int := (nm18 p0 p1).run some
noncomputable def nm18_V : Env := ⟨tau, [(162, i_ValidMatrixc1_ccae_c)], []⟩
noncomputable def nm18_b : Code := (Try.f116.body).getD .skip
noncomputable def nm18_l2_mk (z2_0 : Bool) (z2_1 : Bool) (h2_0_0 : (List Int)) (h2_0_1 : Int) (h2_0_3 : TMatrix) : Int → St := fun x => stOf [(0, (.imm z2_0 (.sl (.int .i64)) h2_0_0)), (1, (.fn 162 [(0, 0)])), (7, (.imm true (.int .i64) h2_0_1)), (8, (.imm true (.int .i64) x))] [((0, 0), some ⟨true, kMatrix, (.imm z2_1), h2_0_3⟩)]
noncomputable def nm18_l2_out (_z2_0 : Bool) (z2_1 : Bool) (_h2_0_0 : (List Int)) (_h2_0_1 : Int) (h2_0_3 : TMatrix) : (Int ⊕ Unit) → Ex × St
 | .inl x => (.ret, stOf [(4, (.imm true (.int .i64) x))] [((0, 0), some ⟨true, kMatrix, (.imm z2_1), h2_0_3⟩)])
 | .inr x => (.exit 0, stOf [(4, .dead)] [((0, 0), some ⟨true, kMatrix, (.imm z2_1), h2_0_3⟩)])
noncomputable def nm18_l2_D (s : St) : Tre (Ex × St) :=
 asImm (.sl (.int .i64)) (s.tmps 0) fun z3 d2 =>
 asFn 162 [(0, 0)] (s.tmps 1) <|
 asImmZ true (.int .i64) (s.tmps 7) fun d6 =>
 asImmZ true (.int .i64) (s.tmps 8) fun d8 =>
 asRoot true kMatrix (s.roots (0, 0)) fun m10 d11 =>
 asMImm m10 fun z12 =>
 .mat (loopF (nm18_l2 d2 d6 d11) d8) fun x => .alt x (fun a0 => .ret (nm18_l2_out z3 z12 d2 d6 d11 (.inl a0))) (fun b0 => .ret (nm18_l2_out z3 z12 d2 d6 d11 (.inr b0)))
noncomputable def nm18_l2_L : LoopI := ⟨([0, 1, 7, 8], [(0, 0)]), ([4], [(0, 0)]), nm18_l2_D⟩
noncomputable def nm18_A : List (Nat × LoopI) := [(2, nm18_l2_L)]
set_option maxRecDepth 100000 in
theorem nm18_l2_step : ∀ (z2_0 : Bool) (z2_1 : Bool) (h2_0_0 : (List Int)) (h2_0_1 : Int) (h2_0_3 : TMatrix) (x : Int) (c : St → Option (Ex × St)), den nm18_V nm18_A (loopAt nm18_b 0) (nm18_l2_mk z2_0 z2_1 h2_0_0 h2_0_1 h2_0_3 x) (roundK nm18_l2_L.kp nm18_l2_L.kx c) = (nm18_l2 h2_0_0 h2_0_1 h2_0_3 x).run (roundR (nm18_l2_mk z2_0 z2_1 h2_0_0 h2_0_1 h2_0_3) (nm18_l2_out z2_0 z2_1 h2_0_0 h2_0_1 h2_0_3) c) := fun _ _ _ _ _ _ _ => by
 kernel_rfl
theorem nm18_l2_ok : LoopOK nm18_V nm18_A (loopAt nm18_b 0) nm18_l2_L := loopOK_of fun s e s' h => by
 generalize hs : restrict nm18_l2_L.kp s = s1 at h
 have h : (nm18_l2_D s1).run some = some (e, s') := h
 obtain ⟨z3, d2, e1, h_0⟩ := asImm_spec h
 obtain ⟨e4, h_1⟩ := asFn_spec h_0
 obtain ⟨d6, e5, h_2⟩ := asImmZ_spec h_1
 obtain ⟨d8, e7, h_3⟩ := asImmZ_spec h_2
 obtain ⟨m10, d11, e9, h_4⟩ := asRoot_spec h_3
 obtain ⟨z12, rfl, h_5⟩ := asMImm_spec h_4
 obtain ⟨y, hy, hz⟩ := mat_some h_5
 refine ⟨_, _, nm18_l2_mk z3 z12 d2 d6 d11, nm18_l2_out z3 z12 d2 d6 d11, nm18_l2 d2 d6 d11, d8, y, ?_, hy, ?_, nm18_l2_step z3 z12 d2 d6 d11⟩
 ·subst hs; exact restrict_eq (T := [(0, (.imm z3 (.sl (.int .i64)) d2)), (1, (.fn 162 [(0, 0)])), (7, (.imm true (.int .i64) d6)), (8, (.imm true (.int .i64) d8))]) (U := [((0, 0), some ⟨true, kMatrix, (.imm z12), d11⟩)]) rfl rfl ⟨e1, e4, e5, e7, trivial⟩ ⟨e9, trivial⟩
 ·rcases y with x | x <;> exact Option.some.inj hz
noncomputable def nm18_I : FnI := ⟨nm18_b, Try.f116.results.toList, Try.f116.resultTypes.toList, nm18_A⟩
noncomputable def nm18_out (_zp0 : Bool) (zp1 : Bool) (_p0 : (List Int)) (p1 : TMatrix) : Int → CallOut := fun r => ⟨(.imm true (.int .i64) r), [⟨true, kMatrix, (.imm zp1), p1⟩], []⟩
set_option maxRecDepth 100000 in
theorem nm18_eq : ∀ (zp0 : Bool) (zp1 : Bool) (p0 : (List Int)) (p1 : TMatrix), denFn nm18_V nm18_I ⟨[(.imm zp0 (.sl (.int .i64)) p0), (.fn 162 [(0, 0)])], [⟨true, kMatrix, (.imm zp1), p1⟩]⟩ = (nm18 p0 p1).run fun r => some (nm18_out zp0 zp1 p0 p1 r) := fun _ _ _ _ => by kernel_rfl
noncomputable def nm18_G (av : List AV) (rs : List Root) : Tre CallOut :=
 asCons av fun a0_ av0 =>
 asCons av0 fun a1_ av1 =>
 asEnd av1 <|
 asCons rs fun r0_ rs0 =>
 asEnd rs0 <|
 asImm (.sl (.int .i64)) a0_ fun z2 d1 =>
 asFn 162 [(0, 0)] a1_ <|
 asRt true kMatrix r0_ fun m3 d4 =>
 asMImm m3 fun z5 =>
 .mat (nm18_F d1 d4) fun r => .ret (nm18_out z2 z5 d1 d4 r)
noncomputable def nm18_c : Ctr := ⟨[], fun ci => nm18_G ci.args ci.roots, false⟩
theorem nm18_env : EnvOK Try.prog .none nm18_V := (envOK_cons i_ValidMatrixc1_ccae_ok ent162 envOK_nil)
set_option maxRecDepth 100000 in
theorem nm18_ok : Contract Try.prog .none 116 nm18_c := by
 have hl : LoopsOK nm18_V nm18_A nm18_b := (loopsOK_all (n := 1) (by kernel_rfl) fun k hk => by
   match k, hk with
   | 0, _ => exact loopOK_at (id := 2) (L := nm18_l2_L) (by kernel_rfl) (by kernel_rfl) nm18_l2_ok)
 refine (contract_of (F := nm18_I) tau_tys nm18_env Try.func116 (by kernel_rfl) (by kernel_rfl) (by kernel_rfl) hl []).weaken ?_
 rintro ⟨av, rs⟩ co h
 have h : (nm18_G av rs).run some = some co := h
 obtain ⟨a0_, av0, rfl, h_0⟩ := asCons_spec h
 obtain ⟨a1_, av1, rfl, h_1⟩ := asCons_spec h_0
 obtain ⟨rfl, h_2⟩ := asEnd_spec h_1
 obtain ⟨r0_, rs0, rfl, h_3⟩ := asCons_spec h_2
 obtain ⟨rfl, h_4⟩ := asEnd_spec h_3
 obtain ⟨z2, d1, rfl, h_5⟩ := asImm_spec h_4
 obtain ⟨rfl, h_6⟩ := asFn_spec h_5
 obtain ⟨m3, d4, rfl, h_7⟩ := asRt_spec h_6
 obtain ⟨z5, rfl, h_8⟩ := asMImm_spec h_7
 exact fin_mat (nm18_eq z2 z5 d1 d4) h_8
end Go.Proofs.Ythnkanacjhlhhaa

namespace Go.Proofs.Ythnkanacjhlhhaa
open Go Go.Abs Go.Proofs
noncomputable def nm14 (p0 : (List Int)) (p1 : TMatrix) : Tre Bool :=
 .mat (nm18_F p0 p1) fun r1 =>
 .ret (decide (r1 ≥ 0))
noncomputable def nm14_F (p0 : (List Int)) (p1 : TMatrix) : Option Bool := (nm14 p0 p1).run some
noncomputable def nm14_V : Env := ⟨tau, [(116, nm18_c)], []⟩
noncomputable def nm14_b : Code := (Try.f161.body).getD .skip
noncomputable def nm14_I : FnI := ⟨nm14_b, Try.f161.results.toList, Try.f161.resultTypes.toList, []⟩
noncomputable def nm14_out (_zp0 : Bool) (zp1 : Bool) (_p0 : (List Int)) (p1 : TMatrix) : Bool → CallOut := fun r => ⟨(.imm true .bool r), [⟨true, kMatrix, (.imm zp1), p1⟩], []⟩
set_option maxRecDepth 100000 in
theorem nm14_eq : ∀ (zp0 : Bool) (zp1 : Bool) (p0 : (List Int)) (p1 : TMatrix), denFn nm14_V nm14_I ⟨[(.imm zp0 (.sl (.int .i64)) p0), (.fn 162 [(0, 0)])], [⟨true, kMatrix, (.imm zp1), p1⟩]⟩ = (nm14 p0 p1).run fun r => some (nm14_out zp0 zp1 p0 p1 r) := fun _ _ _ _ => by kernel_rfl
noncomputable def nm14_G (av : List AV) (rs : List Root) : Tre CallOut :=
 asCons av fun a0_ av0 =>
 asCons av0 fun a1_ av1 =>
 asEnd av1 <|
 asCons rs fun r0_ rs0 =>
 asEnd rs0 <|
 asImm (.sl (.int .i64)) a0_ fun z2 d1 =>
 asFn 162 [(0, 0)] a1_ <|
 asRt true kMatrix r0_ fun m3 d4 =>
 asMImm m3 fun z5 =>
 .mat (nm14_F d1 d4) fun r => .ret (nm14_out z2 z5 d1 d4 r)
noncomputable def nm14_c : Ctr := ⟨[], fun ci => nm14_G ci.args ci.roots, false⟩
theorem nm14_env : EnvOK Try.prog .none nm14_V := (envOK_cons nm18_ok ent116 envOK_nil)
set_option maxRecDepth 100000 in
theorem nm14_ok : Contract Try.prog .none 161 nm14_c := by
 have hl : LoopsOK nm14_V [] nm14_b := loopsOK_nil (by kernel_rfl)
 refine (contract_of (F := nm14_I) tau_tys nm14_env Try.func161 (by kernel_rfl) (by kernel_rfl) (by kernel_rfl) hl []).weaken ?_
 rintro ⟨av, rs⟩ co h
 have h : (nm14_G av rs).run some = some co := h
 obtain ⟨a0_, av0, rfl, h_0⟩ := asCons_spec h
 obtain ⟨a1_, av1, rfl, h_1⟩ := asCons_spec h_0
 obtain ⟨rfl, h_2⟩ := asEnd_spec h_1
 obtain ⟨r0_, rs0, rfl, h_3⟩ := asCons_spec h_2
 obtain ⟨rfl, h_4⟩ := asEnd_spec h_3
 obtain ⟨z2, d1, rfl, h_5⟩ := asImm_spec h_4
 obtain ⟨rfl, h_6⟩ := asFn_spec h_5
 obtain ⟨m3, d4, rfl, h_7⟩ := asRt_spec h_6
 obtain ⟨z5, rfl, h_8⟩ := asMImm_spec h_7
 exact fin_mat (nm14_eq z2 z5 d1 d4) h_8
end Go.Proofs.Ythnkanacjhlhhaa

namespace Go.Proofs.Ythnkanacjhlhhaa
open Go Go.Abs Go.Proofs
noncomputable def i_ValidMatrix (p0 : TMatrix) : Tre Bool :=
 .cond (i_within_S p0.1 1 10)
  (.cond (decide ((p0.2.1.length : Int) ≤ 10))
   (.mat (nm14_F p0.2.1 p0) fun r1 =>
   .ret (!r1))
   (.ret false))
  (.ret false)
noncomputable def i_ValidMatrix_F (p0 : TMatrix) : Option Bool := (i_ValidMatrix p0).run some
noncomputable def i_ValidMatrix_V : Env := ⟨tau, [(57, i_within_c), (161, nm14_c)], []⟩
noncomputable def i_ValidMatrix_b : Code := (Try.f129.body).getD .skip
noncomputable def i_ValidMatrix_I : FnI := ⟨i_ValidMatrix_b, Try.f129.results.toList, Try.f129.resultTypes.toList, []⟩
noncomputable def i_ValidMatrix_out (_zp0 : Bool) (_p0 : TMatrix) : Bool → CallOut := fun r => ⟨(.imm true .bool r), [], []⟩
set_option maxRecDepth 100000 in
theorem i_ValidMatrix_eq : ∀ (zp0 : Bool) (p0 : TMatrix), denFn i_ValidMatrix_V i_ValidMatrix_I ⟨[(.imm zp0 kMatrix p0)], []⟩ = (i_ValidMatrix p0).run fun r => some (i_ValidMatrix_out zp0 p0 r) := fun _ _ => by kernel_rfl
noncomputable def i_ValidMatrix_G (av : List AV) (rs : List Root) : Tre CallOut :=
 asCons av fun a0_ av0 =>
 asEnd av0 <|
 asEnd rs <|
 asImm kMatrix a0_ fun z2 d1 =>
 .mat (i_ValidMatrix_F d1) fun r => .ret (i_ValidMatrix_out z2 d1 r)
noncomputable def i_ValidMatrix_c : Ctr := ⟨[], fun ci => i_ValidMatrix_G ci.args ci.roots, false⟩
theorem i_ValidMatrix_env : EnvOK Try.prog .none i_ValidMatrix_V := (envOK_cons i_within_ok ent57 (envOK_cons nm14_ok ent161 envOK_nil))
set_option maxRecDepth 100000 in
theorem i_ValidMatrix_ok : Contract Try.prog .none 129 i_ValidMatrix_c := by
 have hl : LoopsOK i_ValidMatrix_V [] i_ValidMatrix_b := loopsOK_nil (by kernel_rfl)
 refine (contract_of (F := i_ValidMatrix_I) tau_tys i_ValidMatrix_env Try.func129 (by kernel_rfl) (by kernel_rfl) (by kernel_rfl) hl []).weaken ?_
 rintro ⟨av, rs⟩ co h
 have h : (i_ValidMatrix_G av rs).run some = some co := h
 obtain ⟨a0_, av0, rfl, h_0⟩ := asCons_spec h
 obtain ⟨rfl, h_1⟩ := asEnd_spec h_0
 obtain ⟨rfl, h_2⟩ := asEnd_spec h_1
 obtain ⟨z2, d1, rfl, h_3⟩ := asImm_spec h_2
 exact fin_mat (i_ValidMatrix_eq z2 d1) h_3
end Go.Proofs.Ythnkanacjhlhhaa

namespace Go.Proofs.Ythnkanacjhlhhaa
open Go Go.Abs Go.Proofs
noncomputable def i_IsSpace (p0 : TMatrix) : Tre Bool :=
 .mat (i_ValidMatrix_F p0) fun r1 =>
 .cond r1
  (.mat (i_echelon_F p0.2.1) fun r2 =>
  .mat (slices_Equal_int64_F r2 p0.2.1) fun r3 =>
  .ret r3)
  (.ret false)
noncomputable def i_IsSpace_F (p0 : TMatrix) : Option Bool := (i_IsSpace p0).run some
noncomputable def i_IsSpace_V : Env := ⟨tau, [(129, i_ValidMatrix_c), (62, i_echelon_c), (121, slices_Equal_int64_c)], []⟩
noncomputable def i_IsSpace_b : Code := (Try.f76.body).getD .skip
noncomputable def i_IsSpace_I : FnI := ⟨i_IsSpace_b, Try.f76.results.toList, Try.f76.resultTypes.toList, []⟩
noncomputable def i_IsSpace_out (_zp0 : Bool) (_p0 : TMatrix) : Bool → CallOut := fun r => ⟨(.imm true .bool r), [], []⟩
set_option maxRecDepth 100000 in
theorem i_IsSpace_eq : ∀ (zp0 : Bool) (p0 : TMatrix), denFn i_IsSpace_V i_IsSpace_I ⟨[(.imm zp0 kMatrix p0)], []⟩ = (i_IsSpace p0).run fun r => some (i_IsSpace_out zp0 p0 r) := fun _ _ => by kernel_rfl
noncomputable def i_IsSpace_G (av : List AV) (rs : List Root) : Tre CallOut :=
 asCons av fun a0_ av0 =>
 asEnd av0 <|
 asEnd rs <|
 asImm kMatrix a0_ fun z2 d1 =>
 .mat (i_IsSpace_F d1) fun r => .ret (i_IsSpace_out z2 d1 r)
noncomputable def i_IsSpace_c : Ctr := ⟨[], fun ci => i_IsSpace_G ci.args ci.roots, false⟩
theorem i_IsSpace_env : EnvOK Try.prog .none i_IsSpace_V := (envOK_cons i_ValidMatrix_ok ent129 (envOK_cons i_echelon_ok ent62 (envOK_cons slices_Equal_int64_ok ent121 envOK_nil)))
set_option maxRecDepth 100000 in
theorem i_IsSpace_ok : Contract Try.prog .none 76 i_IsSpace_c := by
 have hl : LoopsOK i_IsSpace_V [] i_IsSpace_b := loopsOK_nil (by kernel_rfl)
 refine (contract_of (F := i_IsSpace_I) tau_tys i_IsSpace_env Try.func76 (by kernel_rfl) (by kernel_rfl) (by kernel_rfl) hl []).weaken ?_
 rintro ⟨av, rs⟩ co h
 have h : (i_IsSpace_G av rs).run some = some co := h
 obtain ⟨a0_, av0, rfl, h_0⟩ := asCons_spec h
 obtain ⟨rfl, h_1⟩ := asEnd_spec h_0
 obtain ⟨rfl, h_2⟩ := asEnd_spec h_1
 obtain ⟨z2, d1, rfl, h_3⟩ := asImm_spec h_2
 exact fin_mat (i_IsSpace_eq z2 d1) h_3
end Go.Proofs.Ythnkanacjhlhhaa

namespace Go.Proofs.Ythnkanacjhlhhaa
open Go Go.Abs Go.Proofs
noncomputable def i_SameMatrix (p0 : TMatrix) (p1 : TMatrix) : Tre Bool :=
 .cond (decide (p0.1 = p1.1))
  (.mat (slices_Equal_int64_F p0.2.1 p1.2.1) fun r1 =>
  .ret r1)
  (.ret false)
noncomputable def i_SameMatrix_F (p0 : TMatrix) (p1 : TMatrix) : Option Bool := (i_SameMatrix p0 p1).run some
noncomputable def i_SameMatrix_V : Env := ⟨tau, [(121, slices_Equal_int64_c)], []⟩
noncomputable def i_SameMatrix_b : Code := (Try.f67.body).getD .skip
noncomputable def i_SameMatrix_I : FnI := ⟨i_SameMatrix_b, Try.f67.results.toList, Try.f67.resultTypes.toList, []⟩
noncomputable def i_SameMatrix_out (_zp0 : Bool) (_zp1 : Bool) (_p0 : TMatrix) (_p1 : TMatrix) : Bool → CallOut := fun r => ⟨(.imm true .bool r), [], []⟩
set_option maxRecDepth 100000 in
theorem i_SameMatrix_eq : ∀ (zp0 : Bool) (zp1 : Bool) (p0 : TMatrix) (p1 : TMatrix), denFn i_SameMatrix_V i_SameMatrix_I ⟨[(.imm zp0 kMatrix p0), (.imm zp1 kMatrix p1)], []⟩ = (i_SameMatrix p0 p1).run fun r => some (i_SameMatrix_out zp0 zp1 p0 p1 r) := fun _ _ _ _ => by kernel_rfl
noncomputable def i_SameMatrix_G (av : List AV) (rs : List Root) : Tre CallOut :=
 asCons av fun a0_ av0 =>
 asCons av0 fun a1_ av1 =>
 asEnd av1 <|
 asEnd rs <|
 asImm kMatrix a0_ fun z2 d1 =>
 asImm kMatrix a1_ fun z4 d3 =>
 .mat (i_SameMatrix_F d1 d3) fun r => .ret (i_SameMatrix_out z2 z4 d1 d3 r)
noncomputable def i_SameMatrix_c : Ctr := ⟨[], fun ci => i_SameMatrix_G ci.args ci.roots, false⟩
theorem i_SameMatrix_env : EnvOK Try.prog .none i_SameMatrix_V := (envOK_cons slices_Equal_int64_ok ent121 envOK_nil)
set_option maxRecDepth 100000 in
theorem i_SameMatrix_ok : Contract Try.prog .none 67 i_SameMatrix_c := by
 have hl : LoopsOK i_SameMatrix_V [] i_SameMatrix_b := loopsOK_nil (by kernel_rfl)
 refine (contract_of (F := i_SameMatrix_I) tau_tys i_SameMatrix_env Try.func67 (by kernel_rfl) (by kernel_rfl) (by kernel_rfl) hl []).weaken ?_
 rintro ⟨av, rs⟩ co h
 have h : (i_SameMatrix_G av rs).run some = some co := h
 obtain ⟨a0_, av0, rfl, h_0⟩ := asCons_spec h
 obtain ⟨a1_, av1, rfl, h_1⟩ := asCons_spec h_0
 obtain ⟨rfl, h_2⟩ := asEnd_spec h_1
 obtain ⟨rfl, h_3⟩ := asEnd_spec h_2
 obtain ⟨z2, d1, rfl, h_4⟩ := asImm_spec h_3
 obtain ⟨z4, d3, rfl, h_5⟩ := asImm_spec h_4
 exact fin_mat (i_SameMatrix_eq z2 z4 d1 d3) h_5
end Go.Proofs.Ythnkanacjhlhhaa

namespace Go.Proofs.Ythnkanacjhlhhaa
open Go Go.Abs Go.Proofs
noncomputable def i_ValidSpaces_l9 (h9_0_4 : (List TMatrix)) (h9_0_5 : Int) (h9_0_7 : TMatrix) : Int → Tre (Int ⊕ (Bool ⊕ Unit)) := fun s9 =>
 .cond (decide (s9 < h9_0_5))
  (.ite (0 ≤ s9 ∧ s9 < (h9_0_4.length : Int)) <|
  .mat (h9_0_4[s9.toNat]?) fun x7 =>
  .mat (i_SameMatrix_F h9_0_7 x7) fun r8 =>
  .cond r8
   (.ret (.inr (.inl false)))
   (.ret (.inl (iwrap .i64 (s9 + 1)))))
  (.ret (.inr (.inr ())))
noncomputable def i_ValidSpaces_l4 (h4_0_0 : (List TMatrix)) (h4_0_1 : (List TMatrix)) (h4_0_2 : Int) : Int → Tre (Int ⊕ (Bool ⊕ Unit)) := fun s4 =>
 .cond (decide (s4 < h4_0_2))
  (.ite (0 ≤ s4 ∧ s4 < (h4_0_1.length : Int)) <|
  .mat (h4_0_1[s4.toNat]?) fun x2 =>
  .mat (i_IsSpace_F x2) fun r3 =>
  .cond (!r3)
   (.ret (.inr (.inl false)))
   (.ite ((0 : Int) ≤ 0 ∧ (0 : Int) < (h4_0_0.length : Int)) <|
   .mat (h4_0_0[0]?) fun x4 =>
   .cond (!decide (x2.1 = x4.1))
    (.ret (.inr (.inl false)))
    (.ite ((0 : Int) ≤ 0 ∧ (0 : Int) < (h4_0_0.length : Int)) <|
    .mat (h4_0_0[0]?) fun x5 =>
    .cond (!decide ((x2.2.1.length : Int) = (x5.2.1.length : Int)))
     (.ret (.inr (.inl false)))
     (.ite (0 ≤ (0 : Int) ∧ (0 : Int) ≤ s4 ∧ s4 ≤ (h4_0_0.length : Int)) <|
     let v6 := (h4_0_0.drop 0).take (s4 - 0).toNat
     .mat (loopF (i_ValidSpaces_l9 v6 (v6.length : Int) x2) 0) fun l9 =>
     .alt l9
      (fun a10 =>
       .ret (.inr (.inl a10)))
      (fun _ =>
       .ret (.inl (iwrap .i64 (s4 + 1))))))))
  (.ret (.inr (.inr ())))
noncomputable def i_ValidSpaces (p0 : (List TMatrix)) : Tre Bool :=
 let v1 := i_within_S (p0.length : Int) 1 400
 .cond (!v1)
  (.ret false)
  (.mat (loopF (i_ValidSpaces_l4 p0 p0 (p0.length : Int)) 0) fun l12 =>
  .alt l12
   (fun a13 =>
    .ret a13)
   (fun _ =>
    .ret true))
noncomputable def i_ValidSpaces_F (p0 : (List TMatrix)) : Option Bool := (i_ValidSpaces p0).run some
noncomputable def i_ValidSpaces_V : Env := ⟨tau, [(95, i_size_Matrix_c), (57, i_within_c), (76, i_IsSpace_c), (67, i_SameMatrix_c)], []⟩
noncomputable def i_ValidSpaces_b : Code := (Try.f43.body).getD .skip
noncomputable def i_ValidSpaces_l9_mk (z9_0 : Bool) (z9_1 : Bool) (z9_2 : Bool) (z9_3 : Bool) (h9_0_0 : (List TMatrix)) (h9_0_1 : (List TMatrix)) (h9_0_2 : Int) (h9_0_3 : Int) (h9_0_4 : (List TMatrix)) (h9_0_5 : Int) (h9_0_7 : TMatrix) : Int → St := fun x => stOf [(0, (.imm z9_0 (.sl kMatrix) h9_0_0)), (4, (.ptr (6, 0) [])), (11, (.imm z9_1 (.sl kMatrix) h9_0_1)), (12, (.imm true (.int .i64) h9_0_2)), (13, (.imm true (.int .i64) h9_0_3)), (43, (.imm z9_2 (.sl kMatrix) h9_0_4)), (44, (.imm true (.int .i64) h9_0_5)), (45, (.imm true (.int .i64) x))] [((6, 0), some ⟨true, kMatrix, (.imm z9_3), h9_0_7⟩)]
noncomputable def i_ValidSpaces_l9_out (z9_0 : Bool) (z9_1 : Bool) (_z9_2 : Bool) (_z9_3 : Bool) (h9_0_0 : (List TMatrix)) (h9_0_1 : (List TMatrix)) (h9_0_2 : Int) (h9_0_3 : Int) (_h9_0_4 : (List TMatrix)) (_h9_0_5 : Int) (_h9_0_7 : TMatrix) : (Bool ⊕ Unit) → Ex × St
 | .inl x => (.ret, stOf [(0, (.imm z9_0 (.sl kMatrix) h9_0_0)), (2, (.imm true .bool x)), (11, (.imm z9_1 (.sl kMatrix) h9_0_1)), (12, (.imm true (.int .i64) h9_0_2)), (13, (.imm true (.int .i64) h9_0_3))] [])
 | .inr x => (.exit 2, stOf [(0, (.imm z9_0 (.sl kMatrix) h9_0_0)), (2, .dead), (11, (.imm z9_1 (.sl kMatrix) h9_0_1)), (12, (.imm true (.int .i64) h9_0_2)), (13, (.imm true (.int .i64) h9_0_3))] [])
noncomputable def i_ValidSpaces_l9_D (s : St) : Tre (Ex × St) :=
 asImm (.sl kMatrix) (s.tmps 0) fun z3 d2 =>
 asPtr (6, 0) [] (s.tmps 4) <|
 asImm (.sl kMatrix) (s.tmps 11) fun z7 d6 =>
 asImmZ true (.int .i64) (s.tmps 12) fun d9 =>
 asImmZ true (.int .i64) (s.tmps 13) fun d11 =>
 asImm (.sl kMatrix) (s.tmps 43) fun z14 d13 =>
 asImmZ true (.int .i64) (s.tmps 44) fun d16 =>
 asImmZ true (.int .i64) (s.tmps 45) fun d18 =>
 asRoot true kMatrix (s.roots (6, 0)) fun m20 d21 =>
 asMImm m20 fun z22 =>
 .mat (loopF (i_ValidSpaces_l9 d13 d16 d21) d18) fun x => .alt x (fun a0 => .ret (i_ValidSpaces_l9_out z3 z7 z14 z22 d2 d6 d9 d11 d13 d16 d21 (.inl a0))) (fun b0 => .ret (i_ValidSpaces_l9_out z3 z7 z14 z22 d2 d6 d9 d11 d13 d16 d21 (.inr b0)))
noncomputable def i_ValidSpaces_l9_L : LoopI := ⟨([0, 4, 11, 12, 13, 43, 44, 45], [(6, 0)]), ([0, 2, 11, 12, 13], []), i_ValidSpaces_l9_D⟩
noncomputable def i_ValidSpaces_l4_mk (z4_0 : Bool) (z4_1 : Bool) (h4_0_0 : (List TMatrix)) (h4_0_1 : (List TMatrix)) (h4_0_2 : Int) : Int → St := fun x => stOf [(0, (.imm z4_0 (.sl kMatrix) h4_0_0)), (11, (.imm z4_1 (.sl kMatrix) h4_0_1)), (12, (.imm true (.int .i64) h4_0_2)), (13, (.imm true (.int .i64) x))] []
noncomputable def i_ValidSpaces_l4_out (_z4_0 : Bool) (_z4_1 : Bool) (_h4_0_0 : (List TMatrix)) (_h4_0_1 : (List TMatrix)) (_h4_0_2 : Int) : (Bool ⊕ Unit) → Ex × St
 | .inl x => (.ret, stOf [(2, (.imm true .bool x))] [])
 | .inr x => (.exit 0, stOf [(2, .dead)] [])
noncomputable def i_ValidSpaces_l4_D (s : St) : Tre (Ex × St) :=
 asImm (.sl kMatrix) (s.tmps 0) fun z3 d2 =>
 asImm (.sl kMatrix) (s.tmps 11) fun z6 d5 =>
 asImmZ true (.int .i64) (s.tmps 12) fun d8 =>
 asImmZ true (.int .i64) (s.tmps 13) fun d10 =>
 .mat (loopF (i_ValidSpaces_l4 d2 d5 d8) d10) fun x => .alt x (fun a0 => .ret (i_ValidSpaces_l4_out z3 z6 d2 d5 d8 (.inl a0))) (fun b0 => .ret (i_ValidSpaces_l4_out z3 z6 d2 d5 d8 (.inr b0)))
noncomputable def i_ValidSpaces_l4_L : LoopI := ⟨([0, 11, 12, 13], []), ([2], []), i_ValidSpaces_l4_D⟩
noncomputable def i_ValidSpaces_A : List (Nat × LoopI) := [(9, i_ValidSpaces_l9_L), (4, i_ValidSpaces_l4_L)]
set_option maxRecDepth 100000 in
theorem i_ValidSpaces_l9_step : ∀ (z9_0 : Bool) (z9_1 : Bool) (z9_2 : Bool) (z9_3 : Bool) (h9_0_0 : (List TMatrix)) (h9_0_1 : (List TMatrix)) (h9_0_2 : Int) (h9_0_3 : Int) (h9_0_4 : (List TMatrix)) (h9_0_5 : Int) (h9_0_7 : TMatrix) (x : Int) (c : St → Option (Ex × St)), den i_ValidSpaces_V i_ValidSpaces_A (loopAt i_ValidSpaces_b 1) (i_ValidSpaces_l9_mk z9_0 z9_1 z9_2 z9_3 h9_0_0 h9_0_1 h9_0_2 h9_0_3 h9_0_4 h9_0_5 h9_0_7 x) (roundK i_ValidSpaces_l9_L.kp i_ValidSpaces_l9_L.kx c) = (i_ValidSpaces_l9 h9_0_4 h9_0_5 h9_0_7 x).run (roundR (i_ValidSpaces_l9_mk z9_0 z9_1 z9_2 z9_3 h9_0_0 h9_0_1 h9_0_2 h9_0_3 h9_0_4 h9_0_5 h9_0_7) (i_ValidSpaces_l9_out z9_0 z9_1 z9_2 z9_3 h9_0_0 h9_0_1 h9_0_2 h9_0_3 h9_0_4 h9_0_5 h9_0_7) c) := fun _ _ _ _ _ _ _ _ _ _ _ _ _ => by
 kernel_rfl
theorem i_ValidSpaces_l9_ok : LoopOK i_ValidSpaces_V i_ValidSpaces_A (loopAt i_ValidSpaces_b 1) i_ValidSpaces_l9_L := loopOK_of fun s e s' h => by
 generalize hs : restrict i_ValidSpaces_l9_L.kp s = s1 at h
 have h : (i_ValidSpaces_l9_D s1).run some = some (e, s') := h
 obtain ⟨z3, d2, e1, h_0⟩ := asImm_spec h
 obtain ⟨e4, h_1⟩ := asPtr_spec h_0
 obtain ⟨z7, d6, e5, h_2⟩ := asImm_spec h_1
 obtain ⟨d9, e8, h_3⟩ := asImmZ_spec h_2
 obtain ⟨d11, e10, h_4⟩ := asImmZ_spec h_3
 obtain ⟨z14, d13, e12, h_5⟩ := asImm_spec h_4
 obtain ⟨d16, e15, h_6⟩ := asImmZ_spec h_5
 obtain ⟨d18, e17, h_7⟩ := asImmZ_spec h_6
 obtain ⟨m20, d21, e19, h_8⟩ := asRoot_spec h_7
 obtain ⟨z22, rfl, h_9⟩ := asMImm_spec h_8
 obtain ⟨y, hy, hz⟩ := mat_some h_9
 refine ⟨_, _, i_ValidSpaces_l9_mk z3 z7 z14 z22 d2 d6 d9 d11 d13 d16 d21, i_ValidSpaces_l9_out z3 z7 z14 z22 d2 d6 d9 d11 d13 d16 d21, i_ValidSpaces_l9 d13 d16 d21, d18, y, ?_, hy, ?_, i_ValidSpaces_l9_step z3 z7 z14 z22 d2 d6 d9 d11 d13 d16 d21⟩
 ·subst hs; exact restrict_eq (T := [(0, (.imm z3 (.sl kMatrix) d2)), (4, (.ptr (6, 0) [])), (11, (.imm z7 (.sl kMatrix) d6)), (12, (.imm true (.int .i64) d9)), (13, (.imm true (.int .i64) d11)), (43, (.imm z14 (.sl kMatrix) d13)), (44, (.imm true (.int .i64) d16)), (45, (.imm true (.int .i64) d18))]) (U := [((6, 0), some ⟨true, kMatrix, (.imm z22), d21⟩)]) rfl rfl ⟨e1, e4, e5, e8, e10, e12, e15, e17, trivial⟩ ⟨e19, trivial⟩
 ·rcases y with x | x <;> exact Option.some.inj hz
set_option maxRecDepth 100000 in
theorem i_ValidSpaces_l4_step : ∀ (z4_0 : Bool) (z4_1 : Bool) (h4_0_0 : (List TMatrix)) (h4_0_1 : (List TMatrix)) (h4_0_2 : Int) (x : Int) (c : St → Option (Ex × St)), den i_ValidSpaces_V i_ValidSpaces_A (loopAt i_ValidSpaces_b 0) (i_ValidSpaces_l4_mk z4_0 z4_1 h4_0_0 h4_0_1 h4_0_2 x) (roundK i_ValidSpaces_l4_L.kp i_ValidSpaces_l4_L.kx c) = (i_ValidSpaces_l4 h4_0_0 h4_0_1 h4_0_2 x).run (roundR (i_ValidSpaces_l4_mk z4_0 z4_1 h4_0_0 h4_0_1 h4_0_2) (i_ValidSpaces_l4_out z4_0 z4_1 h4_0_0 h4_0_1 h4_0_2) c) := fun _ _ _ _ _ _ _ => by
 kernel_rfl
theorem i_ValidSpaces_l4_ok : LoopOK i_ValidSpaces_V i_ValidSpaces_A (loopAt i_ValidSpaces_b 0) i_ValidSpaces_l4_L := loopOK_of fun s e s' h => by
 generalize hs : restrict i_ValidSpaces_l4_L.kp s = s1 at h
 have h : (i_ValidSpaces_l4_D s1).run some = some (e, s') := h
 obtain ⟨z3, d2, e1, h_0⟩ := asImm_spec h
 obtain ⟨z6, d5, e4, h_1⟩ := asImm_spec h_0
 obtain ⟨d8, e7, h_2⟩ := asImmZ_spec h_1
 obtain ⟨d10, e9, h_3⟩ := asImmZ_spec h_2
 obtain ⟨y, hy, hz⟩ := mat_some h_3
 refine ⟨_, _, i_ValidSpaces_l4_mk z3 z6 d2 d5 d8, i_ValidSpaces_l4_out z3 z6 d2 d5 d8, i_ValidSpaces_l4 d2 d5 d8, d10, y, ?_, hy, ?_, i_ValidSpaces_l4_step z3 z6 d2 d5 d8⟩
 ·subst hs; exact restrict_eq (T := [(0, (.imm z3 (.sl kMatrix) d2)), (11, (.imm z6 (.sl kMatrix) d5)), (12, (.imm true (.int .i64) d8)), (13, (.imm true (.int .i64) d10))]) (U := []) rfl rfl ⟨e1, e4, e7, e9, trivial⟩ trivial
 ·rcases y with x | x <;> exact Option.some.inj hz
noncomputable def i_ValidSpaces_I : FnI := ⟨i_ValidSpaces_b, Try.f43.results.toList, Try.f43.resultTypes.toList, i_ValidSpaces_A⟩
noncomputable def i_ValidSpaces_out (_zp0 : Bool) (_p0 : (List TMatrix)) : Bool → CallOut := fun r => ⟨(.imm true .bool r), [], []⟩
set_option maxRecDepth 100000 in
theorem i_ValidSpaces_eq : ∀ (zp0 : Bool) (p0 : (List TMatrix)), denFn i_ValidSpaces_V i_ValidSpaces_I ⟨[(.imm zp0 (.sl kMatrix) p0)], []⟩ = (i_ValidSpaces p0).run fun r => some (i_ValidSpaces_out zp0 p0 r) := fun _ _ => by kernel_rfl
noncomputable def i_ValidSpaces_G (av : List AV) (rs : List Root) : Tre CallOut :=
 asCons av fun a0_ av0 =>
 asEnd av0 <|
 asEnd rs <|
 asImm (.sl kMatrix) a0_ fun z2 d1 =>
 .mat (i_ValidSpaces_F d1) fun r => .ret (i_ValidSpaces_out z2 d1 r)
noncomputable def i_ValidSpaces_c : Ctr := ⟨[], fun ci => i_ValidSpaces_G ci.args ci.roots, false⟩
theorem i_ValidSpaces_env : EnvOK Try.prog .none i_ValidSpaces_V := (envOK_cons i_size_Matrix_ok ent95 (envOK_cons i_within_ok ent57 (envOK_cons i_IsSpace_ok ent76 (envOK_cons i_SameMatrix_ok ent67 envOK_nil))))
set_option maxRecDepth 100000 in
theorem i_ValidSpaces_ok : Contract Try.prog .none 43 i_ValidSpaces_c := by
 have hl : LoopsOK i_ValidSpaces_V i_ValidSpaces_A i_ValidSpaces_b := (loopsOK_all (n := 2) (by kernel_rfl) fun k hk => by
   match k, hk with
   | 0, _ => exact loopOK_at (id := 4) (L := i_ValidSpaces_l4_L) (by kernel_rfl) (by kernel_rfl) i_ValidSpaces_l4_ok
   | 1, _ => exact loopOK_at (id := 9) (L := i_ValidSpaces_l9_L) (by kernel_rfl) (by kernel_rfl) i_ValidSpaces_l9_ok)
 refine (contract_of (F := i_ValidSpaces_I) tau_tys i_ValidSpaces_env Try.func43 (by kernel_rfl) (by kernel_rfl) (by kernel_rfl) hl []).weaken ?_
 rintro ⟨av, rs⟩ co h
 have h : (i_ValidSpaces_G av rs).run some = some co := h
 obtain ⟨a0_, av0, rfl, h_0⟩ := asCons_spec h
 obtain ⟨rfl, h_1⟩ := asEnd_spec h_0
 obtain ⟨rfl, h_2⟩ := asEnd_spec h_1
 obtain ⟨z2, d1, rfl, h_3⟩ := asImm_spec h_2
 exact fin_mat (i_ValidSpaces_eq z2 d1) h_3
end Go.Proofs.Ythnkanacjhlhhaa

namespace Go.Proofs.Ythnkanacjhlhhaa
open Go Go.Abs Go.Proofs
noncomputable def i_NearestSpaces_l7 : ((Int × (List TMatrix) × Int × Int × TMatrix × (List Int)) ⊕ (Int × (List TMatrix) × Int × Int × TMatrix × (List Int))) → Tre (((Int × (List TMatrix) × Int × Int × TMatrix × (List Int)) ⊕ (Int × (List TMatrix) × Int × Int × TMatrix × (List Int))) ⊕ ((Int × (List Int)) ⊕ (Int × (List Int))))
 | .inl s7 =>
  .cond (decide (s7.2.2.2.1 < s7.2.2.1))
   (.ite (0 ≤ s7.2.2.2.1 ∧ s7.2.2.2.1 < (s7.2.1.length : Int)) <|
   .mat (s7.2.1[s7.2.2.2.1.toNat]?) fun x4 =>
   .mat (i_Matrix_distance_F s7.2.2.2.2.1 x4) fun r5 =>
   .cond (decide (r5 < s7.1))
    (.cond (decide (r5 = r5))
     (.ret (.inl (.inl (r5, s7.2.1, s7.2.2.1, iwrap .i64 (s7.2.2.2.1 + 1), s7.2.2.2.2.1, [s7.2.2.2.1]))))
     (.ret (.inl (.inr (r5, s7.2.1, s7.2.2.1, iwrap .i64 (s7.2.2.2.1 + 1), s7.2.2.2.2.1, s7.2.2.2.2.2)))))
    (.cond (decide (r5 = s7.1))
     (.ite ((s7.2.2.2.2.2.length + 1) * 8 ≤ appendMax ∧ 1 ≤ 8) <|
     .ret (.inl (.inl (s7.1, s7.2.1, s7.2.2.1, iwrap .i64 (s7.2.2.2.1 + 1), s7.2.2.2.2.1, s7.2.2.2.2.2 ++ ([s7.2.2.2.1])))))
     (.ret (.inl (.inl (s7.1, s7.2.1, s7.2.2.1, iwrap .i64 (s7.2.2.2.1 + 1), s7.2.2.2.2.1, s7.2.2.2.2.2))))))
   (.ret (.inr (.inl (s7.1, s7.2.2.2.2.2))))
 | .inr s7 =>
  .cond (decide (s7.2.2.2.1 < s7.2.2.1))
   (.ite (0 ≤ s7.2.2.2.1 ∧ s7.2.2.2.1 < (s7.2.1.length : Int)) <|
   .mat (s7.2.1[s7.2.2.2.1.toNat]?) fun x6 =>
   .mat (i_Matrix_distance_F s7.2.2.2.2.1 x6) fun r7 =>
   .cond (decide (r7 < s7.1))
    (.cond (decide (r7 = r7))
     (.ret (.inl (.inl (r7, s7.2.1, s7.2.2.1, iwrap .i64 (s7.2.2.2.1 + 1), s7.2.2.2.2.1, [s7.2.2.2.1]))))
     (.ret (.inl (.inr (r7, s7.2.1, s7.2.2.1, iwrap .i64 (s7.2.2.2.1 + 1), s7.2.2.2.2.1, s7.2.2.2.2.2)))))
    (.cond (decide (r7 = s7.1))
     (.ret (.inl (.inl (s7.1, s7.2.1, s7.2.2.1, iwrap .i64 (s7.2.2.2.1 + 1), s7.2.2.2.2.1, [s7.2.2.2.1]))))
     (.ret (.inl (.inr (s7.1, s7.2.1, s7.2.2.1, iwrap .i64 (s7.2.2.2.1 + 1), s7.2.2.2.2.1, s7.2.2.2.2.2))))))
   (.ret (.inr (.inr (s7.1, s7.2.2.2.2.2))))
noncomputable def i_NearestSpaces (p0 : (List TMatrix)) (p1 : TMatrix) : Tre (Int × Int × (List Int)) :=
 .mat (i_ValidSpaces_F p0) fun r1 =>
 .cond (!r1)
  (.ret (0, 1, []))
  (.mat (i_IsSpace_F p1) fun r2 =>
  .cond (!r2)
   (.ret (0, 1, []))
   (.ite ((0 : Int) ≤ 0 ∧ (0 : Int) < (p0.length : Int)) <|
   .mat (p0[0]?) fun x3 =>
   .cond (!decide (p1.1 = x3.1))
    (.ret (0, 2, []))
    (.mat (loopF i_NearestSpaces_l7 (.inl (20, p0, (p0.length : Int), 0, p1, []))) fun l8 =>
    .alt l8
     (fun a9 =>
      .ret (a9.1, 0, a9.2))
     (fun b10 =>
      .ret (b10.1, 0, [])))))
noncomputable def i_NearestSpaces_F (p0 : (List TMatrix)) (p1 : TMatrix) : Option (Int × Int × (List Int)) := (i_NearestSpaces p0 p1).run some
noncomputable def i_NearestSpaces_V : Env := ⟨tau, [(43, i_ValidSpaces_c), (76, i_IsSpace_c), (90, i_Matrix_distance_c)], []⟩
noncomputable def i_NearestSpaces_b : Code := (Try.f35.body).getD .skip
noncomputable def i_NearestSpaces_l7_mk (z7_0 : Bool) (z7_1 : Bool) : ((Int × (List TMatrix) × Int × Int × TMatrix × (List Int)) ⊕ (Int × (List TMatrix) × Int × Int × TMatrix × (List Int))) → St
 | .inl x => stOf [(3, (.ptr (5, 0) [])), (7, (.imm true (.int .i64) x.1)), (8, (.ref (10, 0) [])), (30, (.imm z7_0 (.sl kMatrix) x.2.1)), (31, (.imm true (.int .i64) x.2.2.1)), (32, (.imm true (.int .i64) x.2.2.2.1))] [((5, 0), some ⟨true, kMatrix, (.imm z7_1), x.2.2.2.2.1⟩), ((10, 0), some ⟨false, (.sl (.int .i64)), .own, x.2.2.2.2.2⟩)]
 | .inr x => stOf [(3, (.ptr (5, 0) [])), (7, (.imm true (.int .i64) x.1)), (8, .nil), (30, (.imm z7_0 (.sl kMatrix) x.2.1)), (31, (.imm true (.int .i64) x.2.2.1)), (32, (.imm true (.int .i64) x.2.2.2.1))] [((5, 0), some ⟨true, kMatrix, (.imm z7_1), x.2.2.2.2.1⟩), ((10, 0), some ⟨false, (.sl (.int .i64)), .own, x.2.2.2.2.2⟩)]
noncomputable def i_NearestSpaces_l7_out (_z7_0 : Bool) (_z7_1 : Bool) : ((Int × (List Int)) ⊕ (Int × (List Int))) → Ex × St
 | .inl x => (.exit 1, stOf [(7, (.imm true (.int .i64) x.1)), (8, (.ref (10, 0) []))] [((10, 0), some ⟨false, (.sl (.int .i64)), .own, x.2⟩)])
 | .inr x => (.exit 1, stOf [(7, (.imm true (.int .i64) x.1)), (8, .nil)] [((10, 0), some ⟨false, (.sl (.int .i64)), .own, x.2⟩)])
noncomputable def i_NearestSpaces_l7_D (s : St) : Tre (Ex × St) :=
 cond (AV.isRef (s.tmps 8))
 (asPtr (5, 0) [] (s.tmps 3) <|
 asImmZ true (.int .i64) (s.tmps 7) fun d3 =>
 asRef (10, 0) [] (s.tmps 8) <|
 asImm (.sl kMatrix) (s.tmps 30) fun z7 d6 =>
 asImmZ true (.int .i64) (s.tmps 31) fun d9 =>
 asImmZ true (.int .i64) (s.tmps 32) fun d11 =>
 asRoot true kMatrix (s.roots (5, 0)) fun m13 d14 =>
 asMImm m13 fun z15 =>
 asRoot false (.sl (.int .i64)) (s.roots (10, 0)) fun m17 d18 =>
 asM .own m17 <|
 .mat (loopF i_NearestSpaces_l7 (.inl (d3, d6, d9, d11, d14, d18))) fun x => .alt x (fun a0 => .ret (i_NearestSpaces_l7_out z7 z15 (.inl a0))) (fun b0 => .ret (i_NearestSpaces_l7_out z7 z15 (.inr b0))))
 (asPtr (5, 0) [] (s.tmps 3) <|
 asImmZ true (.int .i64) (s.tmps 7) fun d3 =>
 asNil (s.tmps 8) <|
 asImm (.sl kMatrix) (s.tmps 30) fun z7 d6 =>
 asImmZ true (.int .i64) (s.tmps 31) fun d9 =>
 asImmZ true (.int .i64) (s.tmps 32) fun d11 =>
 asRoot true kMatrix (s.roots (5, 0)) fun m13 d14 =>
 asMImm m13 fun z15 =>
 asRoot false (.sl (.int .i64)) (s.roots (10, 0)) fun m17 d18 =>
 asM .own m17 <|
 .mat (loopF i_NearestSpaces_l7 (.inr (d3, d6, d9, d11, d14, d18))) fun x => .alt x (fun a0 => .ret (i_NearestSpaces_l7_out z7 z15 (.inl a0))) (fun b0 => .ret (i_NearestSpaces_l7_out z7 z15 (.inr b0))))
noncomputable def i_NearestSpaces_l7_L : LoopI := ⟨([3, 7, 8, 30, 31, 32], [(5, 0), (10, 0)]), ([7, 8], [(10, 0)]), i_NearestSpaces_l7_D⟩
noncomputable def i_NearestSpaces_A : List (Nat × LoopI) := [(7, i_NearestSpaces_l7_L)]
set_option maxRecDepth 100000 in
theorem i_NearestSpaces_l7_step : ∀ (z7_0 : Bool) (z7_1 : Bool) (x : ((Int × (List TMatrix) × Int × Int × TMatrix × (List Int)) ⊕ (Int × (List TMatrix) × Int × Int × TMatrix × (List Int)))) (c : St → Option (Ex × St)), den i_NearestSpaces_V i_NearestSpaces_A (loopAt i_NearestSpaces_b 0) (i_NearestSpaces_l7_mk z7_0 z7_1 x) (roundK i_NearestSpaces_l7_L.kp i_NearestSpaces_l7_L.kx c) = (i_NearestSpaces_l7 x).run (roundR (i_NearestSpaces_l7_mk z7_0 z7_1) (i_NearestSpaces_l7_out z7_0 z7_1) c) := fun _ _ x _ => by
 rcases x with x | x <;> kernel_rfl
theorem i_NearestSpaces_l7_ok : LoopOK i_NearestSpaces_V i_NearestSpaces_A (loopAt i_NearestSpaces_b 0) i_NearestSpaces_l7_L := loopOK_of fun s e s' h => by
 generalize hs : restrict i_NearestSpaces_l7_L.kp s = s1 at h
 have h : (i_NearestSpaces_l7_D s1).run some = some (e, s') := h
 cases ht0 : AV.isRef (s1.tmps 8) with
 | true =>
  have h := tre_true ht0 h
  obtain ⟨e1, h_0⟩ := asPtr_spec h
  obtain ⟨d3, e2, h_1⟩ := asImmZ_spec h_0
  obtain ⟨e4, h_2⟩ := asRef_spec h_1
  obtain ⟨z7, d6, e5, h_3⟩ := asImm_spec h_2
  obtain ⟨d9, e8, h_4⟩ := asImmZ_spec h_3
  obtain ⟨d11, e10, h_5⟩ := asImmZ_spec h_4
  obtain ⟨m13, d14, e12, h_6⟩ := asRoot_spec h_5
  obtain ⟨z15, rfl, h_7⟩ := asMImm_spec h_6
  obtain ⟨m17, d18, e16, h_8⟩ := asRoot_spec h_7
  obtain ⟨rfl, h_9⟩ := asM_spec h_8
  obtain ⟨y, hy, hz⟩ := mat_some h_9
  refine ⟨_, _, i_NearestSpaces_l7_mk z7 z15, i_NearestSpaces_l7_out z7 z15, i_NearestSpaces_l7, (.inl (d3, d6, d9, d11, d14, d18)), y, ?_, hy, ?_, i_NearestSpaces_l7_step z7 z15⟩
  ·subst hs; exact restrict_eq (T := [(3, (.ptr (5, 0) [])), (7, (.imm true (.int .i64) d3)), (8, (.ref (10, 0) [])), (30, (.imm z7 (.sl kMatrix) d6)), (31, (.imm true (.int .i64) d9)), (32, (.imm true (.int .i64) d11))]) (U := [((5, 0), some ⟨true, kMatrix, (.imm z15), d14⟩), ((10, 0), some ⟨false, (.sl (.int .i64)), .own, d18⟩)]) rfl rfl ⟨e1, e2, e4, e5, e8, e10, trivial⟩ ⟨e12, e16, trivial⟩
  ·rcases y with x | x <;> exact Option.some.inj hz
 | false =>
  have h := tre_false ht0 h
  obtain ⟨e1, h_0⟩ := asPtr_spec h
  obtain ⟨d3, e2, h_1⟩ := asImmZ_spec h_0
  obtain ⟨e4, h_2⟩ := asNil_spec h_1
  obtain ⟨z7, d6, e5, h_3⟩ := asImm_spec h_2
  obtain ⟨d9, e8, h_4⟩ := asImmZ_spec h_3
  obtain ⟨d11, e10, h_5⟩ := asImmZ_spec h_4
  obtain ⟨m13, d14, e12, h_6⟩ := asRoot_spec h_5
  obtain ⟨z15, rfl, h_7⟩ := asMImm_spec h_6
  obtain ⟨m17, d18, e16, h_8⟩ := asRoot_spec h_7
  obtain ⟨rfl, h_9⟩ := asM_spec h_8
  obtain ⟨y, hy, hz⟩ := mat_some h_9
  refine ⟨_, _, i_NearestSpaces_l7_mk z7 z15, i_NearestSpaces_l7_out z7 z15, i_NearestSpaces_l7, (.inr (d3, d6, d9, d11, d14, d18)), y, ?_, hy, ?_, i_NearestSpaces_l7_step z7 z15⟩
  ·subst hs; exact restrict_eq (T := [(3, (.ptr (5, 0) [])), (7, (.imm true (.int .i64) d3)), (8, .nil), (30, (.imm z7 (.sl kMatrix) d6)), (31, (.imm true (.int .i64) d9)), (32, (.imm true (.int .i64) d11))]) (U := [((5, 0), some ⟨true, kMatrix, (.imm z15), d14⟩), ((10, 0), some ⟨false, (.sl (.int .i64)), .own, d18⟩)]) rfl rfl ⟨e1, e2, e4, e5, e8, e10, trivial⟩ ⟨e12, e16, trivial⟩
  ·rcases y with x | x <;> exact Option.some.inj hz
noncomputable def i_NearestSpaces_I : FnI := ⟨i_NearestSpaces_b, Try.f35.results.toList, Try.f35.resultTypes.toList, i_NearestSpaces_A⟩
noncomputable def i_NearestSpaces_out (_zp0 : Bool) (_zp1 : Bool) (_p0 : (List TMatrix)) (_p1 : TMatrix) : (Int × Int × (List Int)) → CallOut := fun r => ⟨(.tcons (.imm true (.int .i64) r.1) (.tcons (.ref (1, 0) []) (.tcons (.imm true (.int .i64) r.2.1) .tnil))), [], [⟨false, (.sl (.int .i64)), .own, r.2.2⟩]⟩
set_option maxRecDepth 100000 in
theorem i_NearestSpaces_eq : ∀ (zp0 : Bool) (zp1 : Bool) (p0 : (List TMatrix)) (p1 : TMatrix), denFn i_NearestSpaces_V i_NearestSpaces_I ⟨[(.imm zp0 (.sl kMatrix) p0), (.imm zp1 kMatrix p1)], []⟩ = (i_NearestSpaces p0 p1).run fun r => some (i_NearestSpaces_out zp0 zp1 p0 p1 r) := fun _ _ _ _ => by kernel_rfl
noncomputable def i_NearestSpaces_G (av : List AV) (rs : List Root) : Tre CallOut :=
 asCons av fun a0_ av0 =>
 asCons av0 fun a1_ av1 =>
 asEnd av1 <|
 asEnd rs <|
 asImm (.sl kMatrix) a0_ fun z2 d1 =>
 asImm kMatrix a1_ fun z4 d3 =>
 .mat (i_NearestSpaces_F d1 d3) fun r => .ret (i_NearestSpaces_out z2 z4 d1 d3 r)
noncomputable def i_NearestSpaces_c : Ctr := ⟨[], fun ci => i_NearestSpaces_G ci.args ci.roots, false⟩
theorem i_NearestSpaces_env : EnvOK Try.prog .none i_NearestSpaces_V := (envOK_cons i_ValidSpaces_ok ent43 (envOK_cons i_IsSpace_ok ent76 (envOK_cons i_Matrix_distance_ok ent90 envOK_nil)))
set_option maxRecDepth 100000 in
theorem i_NearestSpaces_ok : Contract Try.prog .none 35 i_NearestSpaces_c := by
 have hl : LoopsOK i_NearestSpaces_V i_NearestSpaces_A i_NearestSpaces_b := (loopsOK_all (n := 1) (by kernel_rfl) fun k hk => by
   match k, hk with
   | 0, _ => exact loopOK_at (id := 7) (L := i_NearestSpaces_l7_L) (by kernel_rfl) (by kernel_rfl) i_NearestSpaces_l7_ok)
 refine (contract_of (F := i_NearestSpaces_I) tau_tys i_NearestSpaces_env Try.func35 (by kernel_rfl) (by kernel_rfl) (by kernel_rfl) hl []).weaken ?_
 rintro ⟨av, rs⟩ co h
 have h : (i_NearestSpaces_G av rs).run some = some co := h
 obtain ⟨a0_, av0, rfl, h_0⟩ := asCons_spec h
 obtain ⟨a1_, av1, rfl, h_1⟩ := asCons_spec h_0
 obtain ⟨rfl, h_2⟩ := asEnd_spec h_1
 obtain ⟨rfl, h_3⟩ := asEnd_spec h_2
 obtain ⟨z2, d1, rfl, h_4⟩ := asImm_spec h_3
 obtain ⟨z4, d3, rfl, h_5⟩ := asImm_spec h_4
 exact fin_mat (i_NearestSpaces_eq z2 z4 d1 d3) h_5
end Go.Proofs.Ythnkanacjhlhhaa

namespace Go.Proofs.Ythnkanacjhlhhaa
open Go Go.Abs Go.Proofs
noncomputable def i_LeastSpaceDistance_l10 (h10_0_5 : (List TMatrix)) (h10_0_6 : Int) (h10_0_8 : TMatrix) : (Int × Int) → Tre ((Int × Int) ⊕ Int) := fun s10 =>
 .cond (decide (s10.2 < h10_0_6))
  (.ite (0 ≤ s10.2 ∧ s10.2 < (h10_0_5.length : Int)) <|
  .mat (h10_0_5[s10.2.toNat]?) fun x4 =>
  .mat (i_Matrix_distance_F h10_0_8 x4) fun r5 =>
  let v6 := if r5 < s10.1 then r5 else s10.1
  .ret (.inl (v6, iwrap .i64 (s10.2 + 1))))
  (.ret (.inr s10.1))
noncomputable def i_LeastSpaceDistance_l7 (h7_0_0 : (List TMatrix)) (h7_0_2 : (List TMatrix)) (h7_0_3 : Int) : (Int × Int) → Tre ((Int × Int) ⊕ Int) := fun s7 =>
 .cond (decide (s7.2 < h7_0_3))
  (.ite (0 ≤ s7.2 ∧ s7.2 < (h7_0_2.length : Int)) <|
  .mat (h7_0_2[s7.2.toNat]?) fun x2 =>
  .ite (0 ≤ (0 : Int) ∧ (0 : Int) ≤ s7.2 ∧ s7.2 ≤ (h7_0_0.length : Int)) <|
  let v3 := (h7_0_0.drop 0).take (s7.2 - 0).toNat
  .mat (loopF (i_LeastSpaceDistance_l10 v3 (v3.length : Int) x2) (s7.1, 0)) fun l7 =>
  .ret (.inl (l7, iwrap .i64 (s7.2 + 1))))
  (.ret (.inr s7.1))
noncomputable def i_LeastSpaceDistance (p0 : (List TMatrix)) : Tre (Int × Int) :=
 .mat (i_ValidSpaces_F p0) fun r1 =>
 .cond (!r1)
  (.ret (0, 1))
  (.cond (decide ((p0.length : Int) = 1))
   (.ret (0, 4))
   (.mat (loopF (i_LeastSpaceDistance_l7 p0 p0 (p0.length : Int)) (20, 0)) fun l8 =>
   .ret (l8, 0)))
noncomputable def i_LeastSpaceDistance_F (p0 : (List TMatrix)) : Option (Int × Int) := (i_LeastSpaceDistance p0).run some
noncomputable def i_LeastSpaceDistance_V : Env := ⟨tau, [(43, i_ValidSpaces_c), (90, i_Matrix_distance_c)], []⟩
noncomputable def i_LeastSpaceDistance_b : Code := (Try.f36.body).getD .skip
noncomputable def i_LeastSpaceDistance_l10_mk (z10_0 : Bool) (z10_1 : Bool) (z10_2 : Bool) (z10_3 : Bool) (h10_0_0 : (List TMatrix)) (h10_0_2 : (List TMatrix)) (h10_0_3 : Int) (h10_0_4 : Int) (h10_0_5 : (List TMatrix)) (h10_0_6 : Int) (h10_0_8 : TMatrix) : (Int × Int) → St := fun x => stOf [(0, (.imm z10_0 (.sl kMatrix) h10_0_0)), (4, (.imm true (.int .i64) x.1)), (6, (.ptr (8, 0) [])), (17, (.imm z10_1 (.sl kMatrix) h10_0_2)), (18, (.imm true (.int .i64) h10_0_3)), (19, (.imm true (.int .i64) h10_0_4)), (26, (.imm z10_2 (.sl kMatrix) h10_0_5)), (27, (.imm true (.int .i64) h10_0_6)), (28, (.imm true (.int .i64) x.2))] [((8, 0), some ⟨true, kMatrix, (.imm z10_3), h10_0_8⟩)]
noncomputable def i_LeastSpaceDistance_l10_out (z10_0 : Bool) (z10_1 : Bool) (_z10_2 : Bool) (_z10_3 : Bool) (h10_0_0 : (List TMatrix)) (h10_0_2 : (List TMatrix)) (h10_0_3 : Int) (h10_0_4 : Int) (_h10_0_5 : (List TMatrix)) (_h10_0_6 : Int) (_h10_0_8 : TMatrix) : Int → Ex × St := fun x => (.exit 3, stOf [(0, (.imm z10_0 (.sl kMatrix) h10_0_0)), (4, (.imm true (.int .i64) x)), (17, (.imm z10_1 (.sl kMatrix) h10_0_2)), (18, (.imm true (.int .i64) h10_0_3)), (19, (.imm true (.int .i64) h10_0_4))] [])
noncomputable def i_LeastSpaceDistance_l10_D (s : St) : Tre (Ex × St) :=
 asImm (.sl kMatrix) (s.tmps 0) fun z3 d2 =>
 asImmZ true (.int .i64) (s.tmps 4) fun d5 =>
 asPtr (8, 0) [] (s.tmps 6) <|
 asImm (.sl kMatrix) (s.tmps 17) fun z9 d8 =>
 asImmZ true (.int .i64) (s.tmps 18) fun d11 =>
 asImmZ true (.int .i64) (s.tmps 19) fun d13 =>
 asImm (.sl kMatrix) (s.tmps 26) fun z16 d15 =>
 asImmZ true (.int .i64) (s.tmps 27) fun d18 =>
 asImmZ true (.int .i64) (s.tmps 28) fun d20 =>
 asRoot true kMatrix (s.roots (8, 0)) fun m22 d23 =>
 asMImm m22 fun z24 =>
 .mat (loopF (i_LeastSpaceDistance_l10 d15 d18 d23) (d5, d20)) fun x => .ret (i_LeastSpaceDistance_l10_out z3 z9 z16 z24 d2 d8 d11 d13 d15 d18 d23 x)
noncomputable def i_LeastSpaceDistance_l10_L : LoopI := ⟨([0, 4, 6, 17, 18, 19, 26, 27, 28], [(8, 0)]), ([0, 4, 17, 18, 19], []), i_LeastSpaceDistance_l10_D⟩
noncomputable def i_LeastSpaceDistance_l7_mk (z7_0 : Bool) (z7_1 : Bool) (h7_0_0 : (List TMatrix)) (h7_0_2 : (List TMatrix)) (h7_0_3 : Int) : (Int × Int) → St := fun x => stOf [(0, (.imm z7_0 (.sl kMatrix) h7_0_0)), (4, (.imm true (.int .i64) x.1)), (17, (.imm z7_1 (.sl kMatrix) h7_0_2)), (18, (.imm true (.int .i64) h7_0_3)), (19, (.imm true (.int .i64) x.2))] []
noncomputable def i_LeastSpaceDistance_l7_out (_z7_0 : Bool) (_z7_1 : Bool) (_h7_0_0 : (List TMatrix)) (_h7_0_2 : (List TMatrix)) (_h7_0_3 : Int) : Int → Ex × St := fun x => (.exit 1, stOf [(4, (.imm true (.int .i64) x))] [])
noncomputable def i_LeastSpaceDistance_l7_D (s : St) : Tre (Ex × St) :=
 asImm (.sl kMatrix) (s.tmps 0) fun z3 d2 =>
 asImmZ true (.int .i64) (s.tmps 4) fun d5 =>
 asImm (.sl kMatrix) (s.tmps 17) fun z8 d7 =>
 asImmZ true (.int .i64) (s.tmps 18) fun d10 =>
 asImmZ true (.int .i64) (s.tmps 19) fun d12 =>
 .mat (loopF (i_LeastSpaceDistance_l7 d2 d7 d10) (d5, d12)) fun x => .ret (i_LeastSpaceDistance_l7_out z3 z8 d2 d7 d10 x)
noncomputable def i_LeastSpaceDistance_l7_L : LoopI := ⟨([0, 4, 17, 18, 19], []), ([4], []), i_LeastSpaceDistance_l7_D⟩
noncomputable def i_LeastSpaceDistance_A : List (Nat × LoopI) := [(10, i_LeastSpaceDistance_l10_L), (7, i_LeastSpaceDistance_l7_L)]
set_option maxRecDepth 100000 in
theorem i_LeastSpaceDistance_l10_step : ∀ (z10_0 : Bool) (z10_1 : Bool) (z10_2 : Bool) (z10_3 : Bool) (h10_0_0 : (List TMatrix)) (h10_0_2 : (List TMatrix)) (h10_0_3 : Int) (h10_0_4 : Int) (h10_0_5 : (List TMatrix)) (h10_0_6 : Int) (h10_0_8 : TMatrix) (x : (Int × Int)) (c : St → Option (Ex × St)), den i_LeastSpaceDistance_V i_LeastSpaceDistance_A (loopAt i_LeastSpaceDistance_b 1) (i_LeastSpaceDistance_l10_mk z10_0 z10_1 z10_2 z10_3 h10_0_0 h10_0_2 h10_0_3 h10_0_4 h10_0_5 h10_0_6 h10_0_8 x) (roundK i_LeastSpaceDistance_l10_L.kp i_LeastSpaceDistance_l10_L.kx c) = (i_LeastSpaceDistance_l10 h10_0_5 h10_0_6 h10_0_8 x).run (roundR (i_LeastSpaceDistance_l10_mk z10_0 z10_1 z10_2 z10_3 h10_0_0 h10_0_2 h10_0_3 h10_0_4 h10_0_5 h10_0_6 h10_0_8) (i_LeastSpaceDistance_l10_out z10_0 z10_1 z10_2 z10_3 h10_0_0 h10_0_2 h10_0_3 h10_0_4 h10_0_5 h10_0_6 h10_0_8) c) := fun _ _ _ _ _ _ _ _ _ _ _ _ _ => by
 kernel_rfl
theorem i_LeastSpaceDistance_l10_ok : LoopOK i_LeastSpaceDistance_V i_LeastSpaceDistance_A (loopAt i_LeastSpaceDistance_b 1) i_LeastSpaceDistance_l10_L := loopOK_of fun s e s' h => by
 generalize hs : restrict i_LeastSpaceDistance_l10_L.kp s = s1 at h
 have h : (i_LeastSpaceDistance_l10_D s1).run some = some (e, s') := h
 obtain ⟨z3, d2, e1, h_0⟩ := asImm_spec h
 obtain ⟨d5, e4, h_1⟩ := asImmZ_spec h_0
 obtain ⟨e6, h_2⟩ := asPtr_spec h_1
 obtain ⟨z9, d8, e7, h_3⟩ := asImm_spec h_2
 obtain ⟨d11, e10, h_4⟩ := asImmZ_spec h_3
 obtain ⟨d13, e12, h_5⟩ := asImmZ_spec h_4
 obtain ⟨z16, d15, e14, h_6⟩ := asImm_spec h_5
 obtain ⟨d18, e17, h_7⟩ := asImmZ_spec h_6
 obtain ⟨d20, e19, h_8⟩ := asImmZ_spec h_7
 obtain ⟨m22, d23, e21, h_9⟩ := asRoot_spec h_8
 obtain ⟨z24, rfl, h_10⟩ := asMImm_spec h_9
 obtain ⟨y, hy, hz⟩ := mat_ret h_10
 refine ⟨_, _, i_LeastSpaceDistance_l10_mk z3 z9 z16 z24 d2 d8 d11 d13 d15 d18 d23, i_LeastSpaceDistance_l10_out z3 z9 z16 z24 d2 d8 d11 d13 d15 d18 d23, i_LeastSpaceDistance_l10 d15 d18 d23, (d5, d20), y, ?_, hy, ?_, i_LeastSpaceDistance_l10_step z3 z9 z16 z24 d2 d8 d11 d13 d15 d18 d23⟩
 ·subst hs; exact restrict_eq (T := [(0, (.imm z3 (.sl kMatrix) d2)), (4, (.imm true (.int .i64) d5)), (6, (.ptr (8, 0) [])), (17, (.imm z9 (.sl kMatrix) d8)), (18, (.imm true (.int .i64) d11)), (19, (.imm true (.int .i64) d13)), (26, (.imm z16 (.sl kMatrix) d15)), (27, (.imm true (.int .i64) d18)), (28, (.imm true (.int .i64) d20))]) (U := [((8, 0), some ⟨true, kMatrix, (.imm z24), d23⟩)]) rfl rfl ⟨e1, e4, e6, e7, e10, e12, e14, e17, e19, trivial⟩ ⟨e21, trivial⟩
 ·exact Option.some.inj hz
set_option maxRecDepth 100000 in
theorem i_LeastSpaceDistance_l7_step : ∀ (z7_0 : Bool) (z7_1 : Bool) (h7_0_0 : (List TMatrix)) (h7_0_2 : (List TMatrix)) (h7_0_3 : Int) (x : (Int × Int)) (c : St → Option (Ex × St)), den i_LeastSpaceDistance_V i_LeastSpaceDistance_A (loopAt i_LeastSpaceDistance_b 0) (i_LeastSpaceDistance_l7_mk z7_0 z7_1 h7_0_0 h7_0_2 h7_0_3 x) (roundK i_LeastSpaceDistance_l7_L.kp i_LeastSpaceDistance_l7_L.kx c) = (i_LeastSpaceDistance_l7 h7_0_0 h7_0_2 h7_0_3 x).run (roundR (i_LeastSpaceDistance_l7_mk z7_0 z7_1 h7_0_0 h7_0_2 h7_0_3) (i_LeastSpaceDistance_l7_out z7_0 z7_1 h7_0_0 h7_0_2 h7_0_3) c) := fun _ _ _ _ _ _ _ => by
 kernel_rfl
theorem i_LeastSpaceDistance_l7_ok : LoopOK i_LeastSpaceDistance_V i_LeastSpaceDistance_A (loopAt i_LeastSpaceDistance_b 0) i_LeastSpaceDistance_l7_L := loopOK_of fun s e s' h => by
 generalize hs : restrict i_LeastSpaceDistance_l7_L.kp s = s1 at h
 have h : (i_LeastSpaceDistance_l7_D s1).run some = some (e, s') := h
 obtain ⟨z3, d2, e1, h_0⟩ := asImm_spec h
 obtain ⟨d5, e4, h_1⟩ := asImmZ_spec h_0
 obtain ⟨z8, d7, e6, h_2⟩ := asImm_spec h_1
 obtain ⟨d10, e9, h_3⟩ := asImmZ_spec h_2
 obtain ⟨d12, e11, h_4⟩ := asImmZ_spec h_3
 obtain ⟨y, hy, hz⟩ := mat_ret h_4
 refine ⟨_, _, i_LeastSpaceDistance_l7_mk z3 z8 d2 d7 d10, i_LeastSpaceDistance_l7_out z3 z8 d2 d7 d10, i_LeastSpaceDistance_l7 d2 d7 d10, (d5, d12), y, ?_, hy, ?_, i_LeastSpaceDistance_l7_step z3 z8 d2 d7 d10⟩
 ·subst hs; exact restrict_eq (T := [(0, (.imm z3 (.sl kMatrix) d2)), (4, (.imm true (.int .i64) d5)), (17, (.imm z8 (.sl kMatrix) d7)), (18, (.imm true (.int .i64) d10)), (19, (.imm true (.int .i64) d12))]) (U := []) rfl rfl ⟨e1, e4, e6, e9, e11, trivial⟩ trivial
 ·exact Option.some.inj hz
noncomputable def i_LeastSpaceDistance_I : FnI := ⟨i_LeastSpaceDistance_b, Try.f36.results.toList, Try.f36.resultTypes.toList, i_LeastSpaceDistance_A⟩
noncomputable def i_LeastSpaceDistance_out (_zp0 : Bool) (_p0 : (List TMatrix)) : (Int × Int) → CallOut := fun r => ⟨(.tcons (.imm true (.int .i64) r.1) (.tcons (.imm true (.int .i64) r.2) .tnil)), [], []⟩
set_option maxRecDepth 100000 in
theorem i_LeastSpaceDistance_eq : ∀ (zp0 : Bool) (p0 : (List TMatrix)), denFn i_LeastSpaceDistance_V i_LeastSpaceDistance_I ⟨[(.imm zp0 (.sl kMatrix) p0)], []⟩ = (i_LeastSpaceDistance p0).run fun r => some (i_LeastSpaceDistance_out zp0 p0 r) := fun _ _ => by kernel_rfl
noncomputable def i_LeastSpaceDistance_G (av : List AV) (rs : List Root) : Tre CallOut :=
 asCons av fun a0_ av0 =>
 asEnd av0 <|
 asEnd rs <|
 asImm (.sl kMatrix) a0_ fun z2 d1 =>
 .mat (i_LeastSpaceDistance_F d1) fun r => .ret (i_LeastSpaceDistance_out z2 d1 r)
noncomputable def i_LeastSpaceDistance_c : Ctr := ⟨[], fun ci => i_LeastSpaceDistance_G ci.args ci.roots, false⟩
theorem i_LeastSpaceDistance_env : EnvOK Try.prog .none i_LeastSpaceDistance_V := (envOK_cons i_ValidSpaces_ok ent43 (envOK_cons i_Matrix_distance_ok ent90 envOK_nil))
set_option maxRecDepth 100000 in
theorem i_LeastSpaceDistance_ok : Contract Try.prog .none 36 i_LeastSpaceDistance_c := by
 have hl : LoopsOK i_LeastSpaceDistance_V i_LeastSpaceDistance_A i_LeastSpaceDistance_b := (loopsOK_all (n := 2) (by kernel_rfl) fun k hk => by
   match k, hk with
   | 0, _ => exact loopOK_at (id := 7) (L := i_LeastSpaceDistance_l7_L) (by kernel_rfl) (by kernel_rfl) i_LeastSpaceDistance_l7_ok
   | 1, _ => exact loopOK_at (id := 10) (L := i_LeastSpaceDistance_l10_L) (by kernel_rfl) (by kernel_rfl) i_LeastSpaceDistance_l10_ok)
 refine (contract_of (F := i_LeastSpaceDistance_I) tau_tys i_LeastSpaceDistance_env Try.func36 (by kernel_rfl) (by kernel_rfl) (by kernel_rfl) hl []).weaken ?_
 rintro ⟨av, rs⟩ co h
 have h : (i_LeastSpaceDistance_G av rs).run some = some co := h
 obtain ⟨a0_, av0, rfl, h_0⟩ := asCons_spec h
 obtain ⟨rfl, h_1⟩ := asEnd_spec h_0
 obtain ⟨rfl, h_2⟩ := asEnd_spec h_1
 obtain ⟨z2, d1, rfl, h_3⟩ := asImm_spec h_2
 exact fin_mat (i_LeastSpaceDistance_eq z2 d1) h_3
end Go.Proofs.Ythnkanacjhlhhaa

namespace Go.Proofs.Ythnkanacjhlhhaa
open Go Go.Abs Go.Proofs
noncomputable def l_FnNearSpaces_l16 (h16_0_4 : Int) (h16_0_9 : (List TMatrix)) (h16_0_10 : TMatrix) : (Int × Int) → Tre ((Int × Int) ⊕ Int) := fun s16 =>
 .cond (decide (s16.2 < (h16_0_9.length : Int)))
  (.ite (0 ≤ s16.2 ∧ s16.2 < (h16_0_9.length : Int)) <|
  .mat (h16_0_9[s16.2.toNat]?) fun x10 =>
  .mat (s_DistanceOf_F h16_0_10 x10) fun r11 =>
  .cond (decide (r11.2 = 0))
   (.cond (decide (r11.1 = iwrap .i64 (2 * h16_0_4)))
    (.ret (.inl (iwrap .i64 (s16.1 + 1), iwrap .i64 (s16.2 + 1))))
    (.ret (.inl (s16.1, iwrap .i64 (s16.2 + 1)))))
   (.ret (.inl (s16.1, iwrap .i64 (s16.2 + 1)))))
  (.ret (.inr s16.1))
noncomputable def l_FnNearSpaces_l11 (h11_0_1 : Int) (h11_0_2 : Int) (h11_0_5 : (List TMatrix)) (h11_0_6 : TMatrix) : (Int × Int) → Tre ((Int × Int) ⊕ ((Bool × Int) ⊕ Int)) := fun s11 =>
 .cond (decide (s11.2 ≤ h11_0_1))
  (.mat (i_CountNear_F h11_0_1 h11_0_2 s11.2) fun r9 =>
  .mat (loopF (l_FnNearSpaces_l16 s11.2 h11_0_5 h11_0_6) (0, 0)) fun l12 =>
  .cond (!decide (r9.2 = 0))
   (.ret (.inr (.inl (false, s11.1))))
   (.cond (!decide (r9.1 = l12))
    (.ret (.inr (.inl (false, s11.1))))
    (let v13 := iwrap .i64 (s11.1 + r9.1)
    .ret (.inl (v13, iwrap .i64 (s11.2 + 1))))))
  (.ret (.inr (.inr s11.1)))
set_option maxHeartbeats 4000000 in
noncomputable def l_FnNearSpaces (p0 : (List Int)) (p1 : (List Int)) : Tre Bool :=
 .cond (l_f6big_S p0)
  (.ret true)
  (.cond (l_f6big_S p1)
   (.ret true)
   (.mat (s_P6Pick_F p0 4) fun r1 =>
   let v2 := iwrap .i64 ((iwrap .i64 (1 + r1)) + 1)
   .mat (s_P6Pick_F p1 v2) fun r3 =>
   .mat (s_SpacesOf_F (iwrap .i64 (1 + r1)) r3) fun r4 =>
   .alt r4
    (fun a5 =>
     .cond (!decide (a5.1 = 0))
      (.ret false)
      (.mat (s_P6Pick_F p1 (a5.2.length : Int)) fun r7 =>
      .ite (0 ≤ r7 ∧ r7 < (a5.2.length : Int)) <|
      .mat (a5.2[r7.toNat]?) fun x8 =>
      .mat (loopF (l_FnNearSpaces_l11 (iwrap .i64 (1 + r1)) r3 a5.2 x8) (0, 0)) fun l14 =>
      .alt l14
       (fun a15 =>
        .ret a15.1)
       (fun b16 =>
        .mat (i_GaussNumber_F (iwrap .i64 (1 + r1)) r3) fun r17 =>
        .cond (!decide (r17.2 = 0))
         (.ret false)
         (.cond (!decide (b16 = r17.1))
          (.ret false)
          (.mat (s_P6Pick_F p0 3) fun r18 =>
          let v19 := iwrap .i64 (2 + (iwrap .i64 (2 * r18)))
          .mat (i_GreedySpaces_F (iwrap .i64 (1 + r1)) r3 v19) fun r20 =>
          .alt r20
           (fun a21 =>
            .mat (s_GreedySpaces_F (iwrap .i64 (1 + r1)) r3 v19) fun r23 =>
            .alt r23
             (fun a24 =>
              .cond (!decide (a21.1 = a24.1))
               (.ret false)
               (.mat (l_f6spaces_F a21.2 a24.2) fun r26 =>
               .cond (!r26)
                (.ret false)
                (.cond (!decide (a21.1 = 0))
                 (.cond (decide (a21.1 = 2))
                  (.ret (decide (v19 > iwrap .i64 (2 * r3))))
                  (.ret false))
                 (.mat (i_PackingBound_F (iwrap .i64 (1 + r1)) r3 v19) fun r27 =>
                 .mat (i_DesignBound_F (iwrap .i64 (1 + r1)) r3 v19) fun r28 =>
                 .cond (!decide (r27.2 = 0))
                  (.ret false)
                  (.cond (!decide (r28.2 = 0))
                   (.ret false)
                   (.cond (decide ((a24.2.length : Int) > r27.1))
                    (.ret false)
                    (.cond (decide ((a24.2.length : Int) > r28.1))
                     (.ret false)
                     (.cond (decide ((a24.2.length : Int) < 1))
                      (.ret false)
                      (.mat (i_NearestSpaces_F a24.2 x8) fun r29 =>
                      .cond (!decide (r29.2.1 = 0))
                       (.ret false)
                       (.cond (decide (r29.1 ≥ v19))
                        (.ret false)
                        (.mat (i_LeastSpaceDistance_F a24.2) fun r30 =>
                        .cond (decide ((a24.2.length : Int) = 1))
                         (.cond (decide (r30.2 = 4))
                          (.ret true)
                          (.cond (decide (r30.2 = 0))
                           (.ret (decide (r30.1 ≥ v19)))
                           (.ret false)))
                         (.cond (decide (r30.2 = 0))
                          (.ret (decide (r30.1 ≥ v19)))
                          (.ret false)))))))))))))
             (fun b25 =>
              .cond (!decide (a21.1 = b25.1))
               (.ret false)
               (.mat (l_f6spaces_F a21.2 b25.2) fun r31 =>
               .cond (!r31)
                (.ret false)
                (.cond (!decide (a21.1 = 0))
                 (.cond (decide (a21.1 = 2))
                  (.ret (decide (v19 > iwrap .i64 (2 * r3))))
                  (.ret false))
                 (.mat (i_PackingBound_F (iwrap .i64 (1 + r1)) r3 v19) fun r32 =>
                 .mat (i_DesignBound_F (iwrap .i64 (1 + r1)) r3 v19) fun r33 =>
                 .cond (!decide (r32.2 = 0))
                  (.ret false)
                  (.cond (!decide (r33.2 = 0))
                   (.ret false)
                   (.cond (decide ((b25.2.length : Int) > r32.1))
                    (.ret false)
                    (.cond (decide ((b25.2.length : Int) > r33.1))
                     (.ret false)
                     (.cond (decide ((b25.2.length : Int) < 1))
                      (.ret false)
                      (.mat (i_NearestSpaces_F b25.2 x8) fun r34 =>
                      .cond (!decide (r34.2.1 = 0))
                       (.ret false)
                       (.cond (decide (r34.1 ≥ v19))
                        (.ret false)
                        (.mat (i_LeastSpaceDistance_F b25.2) fun r35 =>
                        .cond (decide ((b25.2.length : Int) = 1))
                         (.cond (decide (r35.2 = 4))
                          (.ret true)
                          (.cond (decide (r35.2 = 0))
                           (.ret (decide (r35.1 ≥ v19)))
                           (.ret false)))
                         (.cond (decide (r35.2 = 0))
                          (.ret (decide (r35.1 ≥ v19)))
                          (.ret false))))))))))))))
           (fun b22 =>
            .mat (s_GreedySpaces_F (iwrap .i64 (1 + r1)) r3 v19) fun r36 =>
            .alt r36
             (fun a37 =>
              .cond (!decide (b22.1 = a37.1))
               (.ret false)
               (.mat (l_f6spaces_F b22.2 a37.2) fun r39 =>
               .cond (!r39)
                (.ret false)
                (.cond (!decide (b22.1 = 0))
                 (.cond (decide (b22.1 = 2))
                  (.ret (decide (v19 > iwrap .i64 (2 * r3))))
                  (.ret false))
                 (.mat (i_PackingBound_F (iwrap .i64 (1 + r1)) r3 v19) fun r40 =>
                 .mat (i_DesignBound_F (iwrap .i64 (1 + r1)) r3 v19) fun r41 =>
                 .cond (!decide (r40.2 = 0))
                  (.ret false)
                  (.cond (!decide (r41.2 = 0))
                   (.ret false)
                   (.cond (decide ((a37.2.length : Int) > r40.1))
                    (.ret false)
                    (.cond (decide ((a37.2.length : Int) > r41.1))
                     (.ret false)
                     (.cond (decide ((a37.2.length : Int) < 1))
                      (.ret false)
                      (.mat (i_NearestSpaces_F a37.2 x8) fun r42 =>
                      .cond (!decide (r42.2.1 = 0))
                       (.ret false)
                       (.cond (decide (r42.1 ≥ v19))
                        (.ret false)
                        (.mat (i_LeastSpaceDistance_F a37.2) fun r43 =>
                        .cond (decide ((a37.2.length : Int) = 1))
                         (.cond (decide (r43.2 = 4))
                          (.ret true)
                          (.cond (decide (r43.2 = 0))
                           (.ret (decide (r43.1 ≥ v19)))
                           (.ret false)))
                         (.cond (decide (r43.2 = 0))
                          (.ret (decide (r43.1 ≥ v19)))
                          (.ret false)))))))))))))
             (fun b38 =>
              .cond (!decide (b22.1 = b38.1))
               (.ret false)
               (.mat (l_f6spaces_F b22.2 b38.2) fun r44 =>
               .cond (!r44)
                (.ret false)
                (.cond (!decide (b22.1 = 0))
                 (.cond (decide (b22.1 = 2))
                  (.ret (decide (v19 > iwrap .i64 (2 * r3))))
                  (.ret false))
                 (.mat (i_PackingBound_F (iwrap .i64 (1 + r1)) r3 v19) fun r45 =>
                 .mat (i_DesignBound_F (iwrap .i64 (1 + r1)) r3 v19) fun r46 =>
                 .cond (!decide (r45.2 = 0))
                  (.ret false)
                  (.cond (!decide (r46.2 = 0))
                   (.ret false)
                   (.cond (decide ((b38.2.length : Int) > r45.1))
                    (.ret false)
                    (.cond (decide ((b38.2.length : Int) > r46.1))
                     (.ret false)
                     (.cond (decide ((b38.2.length : Int) < 1))
                      (.ret false)
                      (.mat (i_NearestSpaces_F b38.2 x8) fun r47 =>
                      .cond (!decide (r47.2.1 = 0))
                       (.ret false)
                       (.cond (decide (r47.1 ≥ v19))
                        (.ret false)
                        (.mat (i_LeastSpaceDistance_F b38.2) fun r48 =>
                        .cond (decide ((b38.2.length : Int) = 1))
                         (.cond (decide (r48.2 = 4))
                          (.ret true)
                          (.cond (decide (r48.2 = 0))
                           (.ret (decide (r48.1 ≥ v19)))
                           (.ret false)))
                         (.cond (decide (r48.2 = 0))
                          (.ret (decide (r48.1 ≥ v19)))
                          (.ret false)))))))))))))))))))
    (fun b6 =>
     .cond (!decide (b6.1 = 0))
      (.ret false)
      (.mat (s_P6Pick_F p1 (b6.2.length : Int)) fun r49 =>
      .ite (0 ≤ r49 ∧ r49 < (b6.2.length : Int)) <|
      .mat (b6.2[r49.toNat]?) fun x50 =>
      .mat (loopF (l_FnNearSpaces_l11 (iwrap .i64 (1 + r1)) r3 b6.2 x50) (0, 0)) fun l51 =>
      .alt l51
       (fun a52 =>
        .ret a52.1)
       (fun b53 =>
        .mat (i_GaussNumber_F (iwrap .i64 (1 + r1)) r3) fun r54 =>
        .cond (!decide (r54.2 = 0))
         (.ret false)
         (.cond (!decide (b53 = r54.1))
          (.ret false)
          (.mat (s_P6Pick_F p0 3) fun r55 =>
          let v56 := iwrap .i64 (2 + (iwrap .i64 (2 * r55)))
          .mat (i_GreedySpaces_F (iwrap .i64 (1 + r1)) r3 v56) fun r57 =>
          .alt r57
           (fun a58 =>
            .mat (s_GreedySpaces_F (iwrap .i64 (1 + r1)) r3 v56) fun r60 =>
            .alt r60
             (fun a61 =>
              .cond (!decide (a58.1 = a61.1))
               (.ret false)
               (.mat (l_f6spaces_F a58.2 a61.2) fun r63 =>
               .cond (!r63)
                (.ret false)
                (.cond (!decide (a58.1 = 0))
                 (.cond (decide (a58.1 = 2))
                  (.ret (decide (v56 > iwrap .i64 (2 * r3))))
                  (.ret false))
                 (.mat (i_PackingBound_F (iwrap .i64 (1 + r1)) r3 v56) fun r64 =>
                 .mat (i_DesignBound_F (iwrap .i64 (1 + r1)) r3 v56) fun r65 =>
                 .cond (!decide (r64.2 = 0))
                  (.ret false)
                  (.cond (!decide (r65.2 = 0))
                   (.ret false)
                   (.cond (decide ((a61.2.length : Int) > r64.1))
                    (.ret false)
                    (.cond (decide ((a61.2.length : Int) > r65.1))
                     (.ret false)
                     (.cond (decide ((a61.2.length : Int) < 1))
                      (.ret false)
                      (.mat (i_NearestSpaces_F a61.2 x50) fun r66 =>
                      .cond (!decide (r66.2.1 = 0))
                       (.ret false)
                       (.cond (decide (r66.1 ≥ v56))
                        (.ret false)
                        (.mat (i_LeastSpaceDistance_F a61.2) fun r67 =>
                        .cond (decide ((a61.2.length : Int) = 1))
                         (.cond (decide (r67.2 = 4))
                          (.ret true)
                          (.cond (decide (r67.2 = 0))
                           (.ret (decide (r67.1 ≥ v56)))
                           (.ret false)))
                         (.cond (decide (r67.2 = 0))
                          (.ret (decide (r67.1 ≥ v56)))
                          (.ret false)))))))))))))
             (fun b62 =>
              .cond (!decide (a58.1 = b62.1))
               (.ret false)
               (.mat (l_f6spaces_F a58.2 b62.2) fun r68 =>
               .cond (!r68)
                (.ret false)
                (.cond (!decide (a58.1 = 0))
                 (.cond (decide (a58.1 = 2))
                  (.ret (decide (v56 > iwrap .i64 (2 * r3))))
                  (.ret false))
                 (.mat (i_PackingBound_F (iwrap .i64 (1 + r1)) r3 v56) fun r69 =>
                 .mat (i_DesignBound_F (iwrap .i64 (1 + r1)) r3 v56) fun r70 =>
                 .cond (!decide (r69.2 = 0))
                  (.ret false)
                  (.cond (!decide (r70.2 = 0))
                   (.ret false)
                   (.cond (decide ((b62.2.length : Int) > r69.1))
                    (.ret false)
                    (.cond (decide ((b62.2.length : Int) > r70.1))
                     (.ret false)
                     (.cond (decide ((b62.2.length : Int) < 1))
                      (.ret false)
                      (.mat (i_NearestSpaces_F b62.2 x50) fun r71 =>
                      .cond (!decide (r71.2.1 = 0))
                       (.ret false)
                       (.cond (decide (r71.1 ≥ v56))
                        (.ret false)
                        (.mat (i_LeastSpaceDistance_F b62.2) fun r72 =>
                        .cond (decide ((b62.2.length : Int) = 1))
                         (.cond (decide (r72.2 = 4))
                          (.ret true)
                          (.cond (decide (r72.2 = 0))
                           (.ret (decide (r72.1 ≥ v56)))
                           (.ret false)))
                         (.cond (decide (r72.2 = 0))
                          (.ret (decide (r72.1 ≥ v56)))
                          (.ret false))))))))))))))
           (fun b59 =>
            .mat (s_GreedySpaces_F (iwrap .i64 (1 + r1)) r3 v56) fun r73 =>
            .alt r73
             (fun a74 =>
              .cond (!decide (b59.1 = a74.1))
               (.ret false)
               (.mat (l_f6spaces_F b59.2 a74.2) fun r76 =>
               .cond (!r76)
                (.ret false)
                (.cond (!decide (b59.1 = 0))
                 (.cond (decide (b59.1 = 2))
                  (.ret (decide (v56 > iwrap .i64 (2 * r3))))
                  (.ret false))
                 (.mat (i_PackingBound_F (iwrap .i64 (1 + r1)) r3 v56) fun r77 =>
                 .mat (i_DesignBound_F (iwrap .i64 (1 + r1)) r3 v56) fun r78 =>
                 .cond (!decide (r77.2 = 0))
                  (.ret false)
                  (.cond (!decide (r78.2 = 0))
                   (.ret false)
                   (.cond (decide ((a74.2.length : Int) > r77.1))
                    (.ret false)
                    (.cond (decide ((a74.2.length : Int) > r78.1))
                     (.ret false)
                     (.cond (decide ((a74.2.length : Int) < 1))
                      (.ret false)
                      (.mat (i_NearestSpaces_F a74.2 x50) fun r79 =>
                      .cond (!decide (r79.2.1 = 0))
                       (.ret false)
                       (.cond (decide (r79.1 ≥ v56))
                        (.ret false)
                        (.mat (i_LeastSpaceDistance_F a74.2) fun r80 =>
                        .cond (decide ((a74.2.length : Int) = 1))
                         (.cond (decide (r80.2 = 4))
                          (.ret true)
                          (.cond (decide (r80.2 = 0))
                           (.ret (decide (r80.1 ≥ v56)))
                           (.ret false)))
                         (.cond (decide (r80.2 = 0))
                          (.ret (decide (r80.1 ≥ v56)))
                          (.ret false)))))))))))))
             (fun b75 =>
              .cond (!decide (b59.1 = b75.1))
               (.ret false)
               (.mat (l_f6spaces_F b59.2 b75.2) fun r81 =>
               .cond (!r81)
                (.ret false)
                (.cond (!decide (b59.1 = 0))
                 (.cond (decide (b59.1 = 2))
                  (.ret (decide (v56 > iwrap .i64 (2 * r3))))
                  (.ret false))
                 (.mat (i_PackingBound_F (iwrap .i64 (1 + r1)) r3 v56) fun r82 =>
                 .mat (i_DesignBound_F (iwrap .i64 (1 + r1)) r3 v56) fun r83 =>
                 .cond (!decide (r82.2 = 0))
                  (.ret false)
                  (.cond (!decide (r83.2 = 0))
                   (.ret false)
                   (.cond (decide ((b75.2.length : Int) > r82.1))
                    (.ret false)
                    (.cond (decide ((b75.2.length : Int) > r83.1))
                     (.ret false)
                     (.cond (decide ((b75.2.length : Int) < 1))
                      (.ret false)
                      (.mat (i_NearestSpaces_F b75.2 x50) fun r84 =>
                      .cond (!decide (r84.2.1 = 0))
                       (.ret false)
                       (.cond (decide (r84.1 ≥ v56))
                        (.ret false)
                        (.mat (i_LeastSpaceDistance_F b75.2) fun r85 =>
                        .cond (decide ((b75.2.length : Int) = 1))
                         (.cond (decide (r85.2 = 4))
                          (.ret true)
                          (.cond (decide (r85.2 = 0))
                           (.ret (decide (r85.1 ≥ v56)))
                           (.ret false)))
                         (.cond (decide (r85.2 = 0))
                          (.ret (decide (r85.1 ≥ v56)))
                          (.ret false)))))))))))))))))))))
noncomputable def l_FnNearSpaces_F (p0 : (List Int)) (p1 : (List Int)) : Option Bool := (l_FnNearSpaces p0 p1).run some
-- lawby %NearL
noncomputable def l_FnNearSpaces_V : Env := ⟨tau, [(25, l_f6big_c), (26, s_P6Pick_c), (27, s_SpacesOf_c), (28, i_CountNear_c), (29, s_DistanceOf_c), (19, i_GaussNumber_c), (30, i_GreedySpaces_c), (31, s_GreedySpaces_c), (32, l_f6spaces_c), (33, i_PackingBound_c), (34, i_DesignBound_c), (35, i_NearestSpaces_c), (36, i_LeastSpaceDistance_c)], [(8, [((9, 0), [], true)])]⟩
noncomputable def l_FnNearSpaces_b : Code := (Try.f6.body).getD .skip
noncomputable def l_FnNearSpaces_l16_mk (z16_0 : Bool) (h16_0_0 : (List Int)) (h16_0_1 : Int) (h16_0_2 : Int) (h16_0_3 : Int) (h16_0_4 : Int) (h16_0_5 : Int) (h16_0_6 : Int) (h16_0_9 : (List TMatrix)) (h16_0_10 : TMatrix) : (Int × Int) → St := fun x => stOf [(0, (.imm z16_0 (.sl (.int .u8)) h16_0_0)), (5, (.imm true (.int .i64) h16_0_1)), (6, (.imm true (.int .i64) h16_0_2)), (7, (.ref (9, 0) [])), (9, (.ptr (11, 0) [])), (10, (.imm true (.int .i64) h16_0_3)), (11, (.imm true (.int .i64) h16_0_4)), (12, (.imm true (.int .i64) h16_0_5)), (13, (.imm true (.int .i64) h16_0_6)), (14, (.imm true (.int .i64) x.1)), (15, (.imm true (.int .i64) x.2))] [((9, 0), some ⟨false, (.sl kMatrix), (.sl (.imm true)), h16_0_9⟩), ((11, 0), some ⟨true, kMatrix, (.imm true), h16_0_10⟩)]
noncomputable def l_FnNearSpaces_l16_out (z16_0 : Bool) (h16_0_0 : (List Int)) (h16_0_1 : Int) (h16_0_2 : Int) (h16_0_3 : Int) (h16_0_4 : Int) (h16_0_5 : Int) (h16_0_6 : Int) (h16_0_9 : (List TMatrix)) (h16_0_10 : TMatrix) : Int → Ex × St := fun x => (.exit 2, stOf [(0, (.imm z16_0 (.sl (.int .u8)) h16_0_0)), (5, (.imm true (.int .i64) h16_0_1)), (6, (.imm true (.int .i64) h16_0_2)), (7, (.ref (9, 0) [])), (9, (.ptr (11, 0) [])), (10, (.imm true (.int .i64) h16_0_3)), (11, (.imm true (.int .i64) h16_0_4)), (12, (.imm true (.int .i64) h16_0_5)), (13, (.imm true (.int .i64) h16_0_6)), (14, (.imm true (.int .i64) x))] [((9, 0), some ⟨false, (.sl kMatrix), (.sl (.imm true)), h16_0_9⟩), ((11, 0), some ⟨true, kMatrix, (.imm true), h16_0_10⟩)])
noncomputable def l_FnNearSpaces_l16_D (s : St) : Tre (Ex × St) :=
 asImm (.sl (.int .u8)) (s.tmps 0) fun z3 d2 =>
 asImmZ true (.int .i64) (s.tmps 5) fun d5 =>
 asImmZ true (.int .i64) (s.tmps 6) fun d7 =>
 asRef (9, 0) [] (s.tmps 7) <|
 asPtr (11, 0) [] (s.tmps 9) <|
 asImmZ true (.int .i64) (s.tmps 10) fun d11 =>
 asImmZ true (.int .i64) (s.tmps 11) fun d13 =>
 asImmZ true (.int .i64) (s.tmps 12) fun d15 =>
 asImmZ true (.int .i64) (s.tmps 13) fun d17 =>
 asImmZ true (.int .i64) (s.tmps 14) fun d19 =>
 asImmZ true (.int .i64) (s.tmps 15) fun d21 =>
 asRoot false (.sl kMatrix) (s.roots (9, 0)) fun m23 d24 =>
 asM (.sl (.imm true)) m23 <|
 asRoot true kMatrix (s.roots (11, 0)) fun m26 d27 =>
 asM (.imm true) m26 <|
 .mat (loopF (l_FnNearSpaces_l16 d13 d24 d27) (d19, d21)) fun x => .ret (l_FnNearSpaces_l16_out z3 d2 d5 d7 d11 d13 d15 d17 d24 d27 x)
noncomputable def l_FnNearSpaces_l16_L : LoopI := ⟨([0, 5, 6, 7, 9, 10, 11, 12, 13, 14, 15], [(9, 0), (11, 0)]), ([0, 5, 6, 7, 9, 10, 11, 12, 13, 14], [(9, 0), (11, 0)]), l_FnNearSpaces_l16_D⟩
noncomputable def l_FnNearSpaces_l11_mk (z11_0 : Bool) (h11_0_0 : (List Int)) (h11_0_1 : Int) (h11_0_2 : Int) (h11_0_5 : (List TMatrix)) (h11_0_6 : TMatrix) : (Int × Int) → St := fun x => stOf [(0, (.imm z11_0 (.sl (.int .u8)) h11_0_0)), (5, (.imm true (.int .i64) h11_0_1)), (6, (.imm true (.int .i64) h11_0_2)), (7, (.ref (9, 0) [])), (9, (.ptr (11, 0) [])), (10, (.imm true (.int .i64) x.1)), (11, (.imm true (.int .i64) x.2))] [((9, 0), some ⟨false, (.sl kMatrix), (.sl (.imm true)), h11_0_5⟩), ((11, 0), some ⟨true, kMatrix, (.imm true), h11_0_6⟩)]
noncomputable def l_FnNearSpaces_l11_out (z11_0 : Bool) (h11_0_0 : (List Int)) (h11_0_1 : Int) (h11_0_2 : Int) (_h11_0_5 : (List TMatrix)) (h11_0_6 : TMatrix) : ((Bool × Int) ⊕ Int) → Ex × St
 | .inl x => (.ret, stOf [(0, (.imm z11_0 (.sl (.int .u8)) h11_0_0)), (4, (.imm true .bool x.1)), (5, (.imm true (.int .i64) h11_0_1)), (6, (.imm true (.int .i64) h11_0_2)), (9, (.ptr (11, 0) [])), (10, (.imm true (.int .i64) x.2))] [((11, 0), some ⟨true, kMatrix, (.imm true), h11_0_6⟩)])
 | .inr x => (.exit 0, stOf [(0, (.imm z11_0 (.sl (.int .u8)) h11_0_0)), (4, .dead), (5, (.imm true (.int .i64) h11_0_1)), (6, (.imm true (.int .i64) h11_0_2)), (9, (.ptr (11, 0) [])), (10, (.imm true (.int .i64) x))] [((11, 0), some ⟨true, kMatrix, (.imm true), h11_0_6⟩)])
noncomputable def l_FnNearSpaces_l11_D (s : St) : Tre (Ex × St) :=
 asImm (.sl (.int .u8)) (s.tmps 0) fun z3 d2 =>
 asImmZ true (.int .i64) (s.tmps 5) fun d5 =>
 asImmZ true (.int .i64) (s.tmps 6) fun d7 =>
 asRef (9, 0) [] (s.tmps 7) <|
 asPtr (11, 0) [] (s.tmps 9) <|
 asImmZ true (.int .i64) (s.tmps 10) fun d11 =>
 asImmZ true (.int .i64) (s.tmps 11) fun d13 =>
 asRoot false (.sl kMatrix) (s.roots (9, 0)) fun m15 d16 =>
 asM (.sl (.imm true)) m15 <|
 asRoot true kMatrix (s.roots (11, 0)) fun m18 d19 =>
 asM (.imm true) m18 <|
 .mat (loopF (l_FnNearSpaces_l11 d5 d7 d16 d19) (d11, d13)) fun x => .alt x (fun a0 => .ret (l_FnNearSpaces_l11_out z3 d2 d5 d7 d16 d19 (.inl a0))) (fun b0 => .ret (l_FnNearSpaces_l11_out z3 d2 d5 d7 d16 d19 (.inr b0)))
noncomputable def l_FnNearSpaces_l11_L : LoopI := ⟨([0, 5, 6, 7, 9, 10, 11], [(9, 0), (11, 0)]), ([0, 4, 5, 6, 9, 10], [(11, 0)]), l_FnNearSpaces_l11_D⟩
noncomputable def l_FnNearSpaces_A : List (Nat × LoopI) := [(16, l_FnNearSpaces_l16_L), (11, l_FnNearSpaces_l11_L)]
set_option maxRecDepth 100000 in
theorem l_FnNearSpaces_l16_step : ∀ (z16_0 : Bool) (h16_0_0 : (List Int)) (h16_0_1 : Int) (h16_0_2 : Int) (h16_0_3 : Int) (h16_0_4 : Int) (h16_0_5 : Int) (h16_0_6 : Int) (h16_0_9 : (List TMatrix)) (h16_0_10 : TMatrix) (x : (Int × Int)) (c : St → Option (Ex × St)), den l_FnNearSpaces_V l_FnNearSpaces_A (loopAt l_FnNearSpaces_b 1) (l_FnNearSpaces_l16_mk z16_0 h16_0_0 h16_0_1 h16_0_2 h16_0_3 h16_0_4 h16_0_5 h16_0_6 h16_0_9 h16_0_10 x) (roundK l_FnNearSpaces_l16_L.kp l_FnNearSpaces_l16_L.kx c) = (l_FnNearSpaces_l16 h16_0_4 h16_0_9 h16_0_10 x).run (roundR (l_FnNearSpaces_l16_mk z16_0 h16_0_0 h16_0_1 h16_0_2 h16_0_3 h16_0_4 h16_0_5 h16_0_6 h16_0_9 h16_0_10) (l_FnNearSpaces_l16_out z16_0 h16_0_0 h16_0_1 h16_0_2 h16_0_3 h16_0_4 h16_0_5 h16_0_6 h16_0_9 h16_0_10) c) := fun _ _ _ _ _ _ _ _ _ _ _ _ => by
 kernel_rfl
theorem l_FnNearSpaces_l16_ok : LoopOK l_FnNearSpaces_V l_FnNearSpaces_A (loopAt l_FnNearSpaces_b 1) l_FnNearSpaces_l16_L := loopOK_of fun s e s' h => by
 generalize hs : restrict l_FnNearSpaces_l16_L.kp s = s1 at h
 have h : (l_FnNearSpaces_l16_D s1).run some = some (e, s') := h
 obtain ⟨z3, d2, e1, h_0⟩ := asImm_spec h
 obtain ⟨d5, e4, h_1⟩ := asImmZ_spec h_0
 obtain ⟨d7, e6, h_2⟩ := asImmZ_spec h_1
 obtain ⟨e8, h_3⟩ := asRef_spec h_2
 obtain ⟨e9, h_4⟩ := asPtr_spec h_3
 obtain ⟨d11, e10, h_5⟩ := asImmZ_spec h_4
 obtain ⟨d13, e12, h_6⟩ := asImmZ_spec h_5
 obtain ⟨d15, e14, h_7⟩ := asImmZ_spec h_6
 obtain ⟨d17, e16, h_8⟩ := asImmZ_spec h_7
 obtain ⟨d19, e18, h_9⟩ := asImmZ_spec h_8
 obtain ⟨d21, e20, h_10⟩ := asImmZ_spec h_9
 obtain ⟨m23, d24, e22, h_11⟩ := asRoot_spec h_10
 obtain ⟨rfl, h_12⟩ := asM_spec h_11
 obtain ⟨m26, d27, e25, h_13⟩ := asRoot_spec h_12
 obtain ⟨rfl, h_14⟩ := asM_spec h_13
 obtain ⟨y, hy, hz⟩ := mat_ret h_14
 refine ⟨_, _, l_FnNearSpaces_l16_mk z3 d2 d5 d7 d11 d13 d15 d17 d24 d27, l_FnNearSpaces_l16_out z3 d2 d5 d7 d11 d13 d15 d17 d24 d27, l_FnNearSpaces_l16 d13 d24 d27, (d19, d21), y, ?_, hy, ?_, l_FnNearSpaces_l16_step z3 d2 d5 d7 d11 d13 d15 d17 d24 d27⟩
 ·subst hs; exact restrict_eq (T := [(0, (.imm z3 (.sl (.int .u8)) d2)), (5, (.imm true (.int .i64) d5)), (6, (.imm true (.int .i64) d7)), (7, (.ref (9, 0) [])), (9, (.ptr (11, 0) [])), (10, (.imm true (.int .i64) d11)), (11, (.imm true (.int .i64) d13)), (12, (.imm true (.int .i64) d15)), (13, (.imm true (.int .i64) d17)), (14, (.imm true (.int .i64) d19)), (15, (.imm true (.int .i64) d21))]) (U := [((9, 0), some ⟨false, (.sl kMatrix), (.sl (.imm true)), d24⟩), ((11, 0), some ⟨true, kMatrix, (.imm true), d27⟩)]) rfl rfl ⟨e1, e4, e6, e8, e9, e10, e12, e14, e16, e18, e20, trivial⟩ ⟨e22, e25, trivial⟩
 ·exact Option.some.inj hz
set_option maxRecDepth 100000 in
theorem l_FnNearSpaces_l11_step : ∀ (z11_0 : Bool) (h11_0_0 : (List Int)) (h11_0_1 : Int) (h11_0_2 : Int) (h11_0_5 : (List TMatrix)) (h11_0_6 : TMatrix) (x : (Int × Int)) (c : St → Option (Ex × St)), den l_FnNearSpaces_V l_FnNearSpaces_A (loopAt l_FnNearSpaces_b 0) (l_FnNearSpaces_l11_mk z11_0 h11_0_0 h11_0_1 h11_0_2 h11_0_5 h11_0_6 x) (roundK l_FnNearSpaces_l11_L.kp l_FnNearSpaces_l11_L.kx c) = (l_FnNearSpaces_l11 h11_0_1 h11_0_2 h11_0_5 h11_0_6 x).run (roundR (l_FnNearSpaces_l11_mk z11_0 h11_0_0 h11_0_1 h11_0_2 h11_0_5 h11_0_6) (l_FnNearSpaces_l11_out z11_0 h11_0_0 h11_0_1 h11_0_2 h11_0_5 h11_0_6) c) := fun _ _ _ _ _ _ _ _ => by
 kernel_rfl
theorem l_FnNearSpaces_l11_ok : LoopOK l_FnNearSpaces_V l_FnNearSpaces_A (loopAt l_FnNearSpaces_b 0) l_FnNearSpaces_l11_L := loopOK_of fun s e s' h => by
 generalize hs : restrict l_FnNearSpaces_l11_L.kp s = s1 at h
 have h : (l_FnNearSpaces_l11_D s1).run some = some (e, s') := h
 obtain ⟨z3, d2, e1, h_0⟩ := asImm_spec h
 obtain ⟨d5, e4, h_1⟩ := asImmZ_spec h_0
 obtain ⟨d7, e6, h_2⟩ := asImmZ_spec h_1
 obtain ⟨e8, h_3⟩ := asRef_spec h_2
 obtain ⟨e9, h_4⟩ := asPtr_spec h_3
 obtain ⟨d11, e10, h_5⟩ := asImmZ_spec h_4
 obtain ⟨d13, e12, h_6⟩ := asImmZ_spec h_5
 obtain ⟨m15, d16, e14, h_7⟩ := asRoot_spec h_6
 obtain ⟨rfl, h_8⟩ := asM_spec h_7
 obtain ⟨m18, d19, e17, h_9⟩ := asRoot_spec h_8
 obtain ⟨rfl, h_10⟩ := asM_spec h_9
 obtain ⟨y, hy, hz⟩ := mat_some h_10
 refine ⟨_, _, l_FnNearSpaces_l11_mk z3 d2 d5 d7 d16 d19, l_FnNearSpaces_l11_out z3 d2 d5 d7 d16 d19, l_FnNearSpaces_l11 d5 d7 d16 d19, (d11, d13), y, ?_, hy, ?_, l_FnNearSpaces_l11_step z3 d2 d5 d7 d16 d19⟩
 ·subst hs; exact restrict_eq (T := [(0, (.imm z3 (.sl (.int .u8)) d2)), (5, (.imm true (.int .i64) d5)), (6, (.imm true (.int .i64) d7)), (7, (.ref (9, 0) [])), (9, (.ptr (11, 0) [])), (10, (.imm true (.int .i64) d11)), (11, (.imm true (.int .i64) d13))]) (U := [((9, 0), some ⟨false, (.sl kMatrix), (.sl (.imm true)), d16⟩), ((11, 0), some ⟨true, kMatrix, (.imm true), d19⟩)]) rfl rfl ⟨e1, e4, e6, e8, e9, e10, e12, trivial⟩ ⟨e14, e17, trivial⟩
 ·rcases y with x | x <;> exact Option.some.inj hz
noncomputable def l_FnNearSpaces_I : FnI := ⟨l_FnNearSpaces_b, Try.f6.results.toList, Try.f6.resultTypes.toList, l_FnNearSpaces_A⟩
noncomputable def l_FnNearSpaces_out (_zp0 : Bool) (_zp1 : Bool) (_p0 : (List Int)) (_p1 : (List Int)) : Bool → CallOut := fun r => ⟨(.imm true .bool r), [], []⟩
set_option maxRecDepth 100000 in
theorem l_FnNearSpaces_eq : ∀ (zp0 : Bool) (zp1 : Bool) (p0 : (List Int)) (p1 : (List Int)), denFn l_FnNearSpaces_V l_FnNearSpaces_I ⟨[(.imm zp0 (.sl (.int .u8)) p0), (.imm zp1 (.sl (.int .u8)) p1)], []⟩ = (l_FnNearSpaces p0 p1).run fun r => some (l_FnNearSpaces_out zp0 zp1 p0 p1 r) := fun _ _ _ _ => by kernel_rfl
noncomputable def l_FnNearSpaces_G (av : List AV) (rs : List Root) : Tre CallOut :=
 asCons av fun a0_ av0 =>
 asCons av0 fun a1_ av1 =>
 asEnd av1 <|
 asEnd rs <|
 asImm (.sl (.int .u8)) a0_ fun z2 d1 =>
 asImm (.sl (.int .u8)) a1_ fun z4 d3 =>
 .mat (l_FnNearSpaces_F d1 d3) fun r => .ret (l_FnNearSpaces_out z2 z4 d1 d3 r)
noncomputable def l_FnNearSpaces_c : Ctr := ⟨[], fun ci => l_FnNearSpaces_G ci.args ci.roots, false⟩
theorem l_FnNearSpaces_env : EnvOK Try.prog .none l_FnNearSpaces_V := (envOK_cons l_f6big_ok ent25 (envOK_cons s_P6Pick_ok ent26 (envOK_cons s_SpacesOf_ok ent27 (envOK_cons i_CountNear_ok ent28 (envOK_cons s_DistanceOf_ok ent29 (envOK_cons i_GaussNumber_ok ent19 (envOK_cons i_GreedySpaces_ok ent30 (envOK_cons s_GreedySpaces_ok ent31 (envOK_cons l_f6spaces_ok ent32 (envOK_cons i_PackingBound_ok ent33 (envOK_cons i_DesignBound_ok ent34 (envOK_cons i_NearestSpaces_ok ent35 (envOK_cons i_LeastSpaceDistance_ok ent36 envOK_nil)))))))))))))
set_option maxRecDepth 100000 in
theorem l_FnNearSpaces_ok : Contract Try.prog .none 6 l_FnNearSpaces_c := by
 have hl : LoopsOK l_FnNearSpaces_V l_FnNearSpaces_A l_FnNearSpaces_b := (loopsOK_all (n := 2) (by kernel_rfl) fun k hk => by
   match k, hk with
   | 0, _ => exact loopOK_at (id := 11) (L := l_FnNearSpaces_l11_L) (by kernel_rfl) (by kernel_rfl) l_FnNearSpaces_l11_ok
   | 1, _ => exact loopOK_at (id := 16) (L := l_FnNearSpaces_l16_L) (by kernel_rfl) (by kernel_rfl) l_FnNearSpaces_l16_ok)
 refine (contract_of (F := l_FnNearSpaces_I) tau_tys l_FnNearSpaces_env Try.func6 (by kernel_rfl) (by kernel_rfl) (by kernel_rfl) hl []).weaken ?_
 rintro ⟨av, rs⟩ co h
 have h : (l_FnNearSpaces_G av rs).run some = some co := h
 obtain ⟨a0_, av0, rfl, h_0⟩ := asCons_spec h
 obtain ⟨a1_, av1, rfl, h_1⟩ := asCons_spec h_0
 obtain ⟨rfl, h_2⟩ := asEnd_spec h_1
 obtain ⟨rfl, h_3⟩ := asEnd_spec h_2
 obtain ⟨z2, d1, rfl, h_4⟩ := asImm_spec h_3
 obtain ⟨z4, d3, rfl, h_5⟩ := asImm_spec h_4
 exact fin_mat (l_FnNearSpaces_eq z2 z4 d1 d3) h_5
end Go.Proofs.Ythnkanacjhlhhaa

namespace Go.Proofs.Ythnkanacjhlhhaa
open Go Go.Abs Go.Proofs
-- shared
def Fine {α : Type} (t : Tre α) (Q : α → Prop) : Prop := ∃ a, t.run some = some a ∧ Q a
theorem Fine.ret {α : Type} {a : α} {Q : α → Prop} (h : Q a) : Fine (.ret a) Q := ⟨a, rfl, h⟩
theorem Fine.cond {α : Type} {b : Bool} {t f : Tre α} {Q : α → Prop} (ht : b = true → Fine t Q) (hf : b = false → Fine f Q) : Fine (.cond b t f) Q := by
 cases b
 ·exact hf rfl
 ·exact ht rfl
theorem Fine.condp {α : Type} {p : Prop} [Decidable p] {t f : Tre α} {Q : α → Prop} (ht : p → Fine t Q) (hf : ¬ p → Fine f Q) : Fine (.cond (decide p) t f) Q :=
 Fine.cond (fun h => ht (of_decide_eq_true h)) (fun h => hf (of_decide_eq_false h))
theorem Fine.ite {α : Type} {p : Prop} [h : Decidable p] {t : Tre α} {Q : α → Prop} (hp : p) (ht : p → Fine t Q) : Fine (.ite p t) Q := by
 obtain ⟨a, h1, h2⟩ := ht hp
 exact ⟨a, by rw [Tre.run_ite, if_pos hp]; exact h1, h2⟩
theorem Fine.ifn {α : Type} {p : Prop} [h : Decidable p] {t : Tre α} {Q : α → Prop} (hp : ¬ p) (ht : Fine t Q) : Fine (.ifn p t) Q := by
 obtain ⟨a, h1, h2⟩ := ht
 exact ⟨a, by rw [Tre.run_ifn, if_neg hp]; exact h1, h2⟩
theorem Fine.mat {α β : Type} {o : Option β} {k : β → Tre α} {P : β → Prop} {Q : α → Prop} (h : ∃ x, o = some x ∧ P x) (hk : ∀ x, P x → Fine (k x) Q) : Fine (.mat o k) Q := by
 obtain ⟨x, rfl, hx⟩ := h
 exact hk x hx
theorem Fine.get {α β : Type} {o : Option β} {x : β} {k : β → Tre α} {Q : α → Prop} (h : o = some x) (hk : Fine (k x) Q) : Fine (.mat o k) Q := by
 subst h; exact hk
theorem Fine.at {α β : Type} {xs : List β} {i : Int} {k : β → Tre α} {Q : α → Prop} (hi : 0 ≤ i ∧ i < (xs.length : Int)) (hk : ∀ x, x ∈ xs → Fine (k x) Q) : Fine (.mat xs[i.toNat]? k) Q := by
 have hl : i.toNat < xs.length := by omega
 exact .get (List.getElem?_eq_getElem hl) (hk _ (List.getElem_mem hl))
theorem Fine.run {α : Type} {t : Tre α} {Q : α → Prop} (h : Fine t Q) : ∃ a, t.run some = some a ∧ Q a := h
abbrev Src := List Int × Int × Int × Unit
def srcOK (c : Nat) (s : Src) : Prop := s.1.length ≤ 5000 ∧ (∀ x ∈ s.1, 0 ≤ x ∧ x ≤ 255) ∧ 0 ≤ s.2.1 ∧ s.2.1 ≤ (c : Int)
theorem srcOK.mono {c c' : Nat} {s : Src} (h : srcOK c s) (hc : c ≤ c') : srcOK c' s := ⟨h.1, h.2.1, h.2.2.1, by have := h.2.2.2; omega⟩
theorem and255 (a : Int) : 0 ≤ iand .u64 a 255 ∧ iand .u64 a 255 ≤ 255 := by
 have h : (BitVec.ofInt 64 a &&& BitVec.ofInt 64 255).toNat ≤ 255 := by
  rw [BitVec.toNat_and]
  exact Nat.le_trans Nat.and_le_right (by decide)
 unfold iand
 show 0 ≤ iwrap .u64 (((BitVec.ofInt 64 a &&& BitVec.ofInt 64 255).toNat : Nat) : Int) ∧ iwrap .u64 (((BitVec.ofInt 64 a &&& BitVec.ofInt 64 255).toNat : Nat) : Int) ≤ 255
 rw [iwrap_u64 (by omega) (by omega)]
 omega
theorem next_ok {c : Nat} {s : Src} (h : srcOK c s) (hc : c ≤ 100000) : ∃ r, s_l00Src_next_6913_F s = some r ∧ ((0 ≤ r.1 ∧ r.1 ≤ 255) ∧ srcOK (c + 1) r.2) := by
 obtain ⟨h1, h2, h3, h4⟩ := h
 have hw : iwrap .i64 (s.2.1 + 1) = s.2.1 + 1 := iwrap_i64 (by omega) (by omega)
 have hsrc : ∀ v : Int, srcOK (c + 1) (s.1, iwrap .i64 (s.2.1 + 1), v, s.2.2.2) := fun v => ⟨h1, h2, by show 0 ≤ iwrap .i64 (s.2.1 + 1); omega, by show iwrap .i64 (s.2.1 + 1) ≤ ((c + 1 : Nat) : Int); omega⟩
 have hand : ∀ a : Int, 0 ≤ iwrap .i64 (iand .u64 a 255) ∧ iwrap .i64 (iand .u64 a 255) ≤ 255 := fun a => by
  have := and255 a
  rw [iwrap_i64 (by omega) (by omega)]; exact this
 unfold s_l00Src_next_6913_F s_l00Src_next_6913
 refine Fine.run (Fine.condp (fun hlt => Fine.ite ⟨h3, hlt⟩ fun hi => Fine.at hi fun x hx => ?_) (fun _ => ?_))
 ·have hb := h2 x hx
  have hx1 : iwrap .i64 x = x := iwrap_i64 (by omega) (by omega)
  exact Fine.condp (fun _ => .ret ⟨by rw [hx1]; exact hb, hsrc _⟩) (fun _ => .ret ⟨hand _, hsrc _⟩)
 ·exact Fine.condp (fun _ => .ret ⟨⟨Int.le_refl 0, by show (0 : Int) ≤ 255; omega⟩, hsrc _⟩) (fun _ => .ret ⟨hand _, hsrc _⟩)
theorem tmod_rng {x n : Int} (hx : 0 ≤ x) (hn : 0 < n) : 0 ≤ Int.tmod x n ∧ Int.tmod x n < n := ⟨Int.tmod_nonneg n hx, Int.tmod_lt_of_pos x hn⟩
theorem pick_ok {n : Int} {c : Nat} {s : Src} (h : srcOK c s) (hc : c ≤ 90000) : ∃ r, s_l00Src_pick_9f69_F n s = some r ∧ ((0 ≤ r.1 ∧ (r.1 = 0 ∨ r.1 < n)) ∧ srcOK (c + 2) r.2) := by
 unfold s_l00Src_pick_9f69_F s_l00Src_pick_9f69
 refine Fine.run (Fine.condp (fun _ => .ret ⟨⟨Int.le_refl _, .inl rfl⟩, h.mono (by omega)⟩) (fun hn => Fine.mat (next_ok h (by omega)) fun x hx => Fine.condp (fun _ => Fine.mat (next_ok hx.2 (by omega)) fun y hy => ?_) (fun _ => ?_)))
 ·refine Fine.ifn (by omega) (.ret ⟨?_, hy.2⟩)
  have h1 : iwrap .i64 (x.1 * 256) = x.1 * 256 := iwrap_i64 (by omega) (by omega)
  have h2 : iwrap .i64 (iwrap .i64 (x.1 * 256) + y.1) = x.1 * 256 + y.1 := by rw [h1]; exact iwrap_i64 (by omega) (by omega)
  show 0 ≤ Int.tmod (iwrap .i64 (iwrap .i64 (x.1 * 256) + y.1)) n ∧ (Int.tmod (iwrap .i64 (iwrap .i64 (x.1 * 256) + y.1)) n = 0 ∨ Int.tmod (iwrap .i64 (iwrap .i64 (x.1 * 256) + y.1)) n < n)
  rw [h2]
  have := tmod_rng (x := x.1 * 256 + y.1) (n := n) (by omega) (by omega)
  exact ⟨this.1, .inr this.2⟩
 ·refine Fine.ifn (by omega) (.ret ⟨?_, hx.2.mono (by omega)⟩)
  have := tmod_rng (x := x.1) (n := n) (by omega) (by omega)
  exact ⟨this.1, .inr this.2⟩
end Go.Proofs.Ythnkanacjhlhhaa

namespace Go.Proofs.Ythnkanacjhlhhaa
open Go Go.Abs Go.Proofs
-- shared
def spL : Nat → Nat → List (List Int)
 | 1, 0 => [[]]
 | 1, 1 => [[1]]
 | 2, 0 => [[]]
 | 2, 1 => [[1], [2], [3]]
 | 2, 2 => [[1, 2]]
 | 3, 0 => [[]]
 | 3, 1 => [[1], [2], [3], [4], [5], [6], [7]]
 | 3, 2 => [[1, 2], [1, 4], [1, 6], [2, 4], [3, 4], [5, 2], [5, 6]]
 | 3, 3 => [[1, 2, 4]]
 | 4, 0 => [[]]
 | 4, 1 => [[1], [2], [3], [4], [5], [6], [7], [8], [9], [10], [11], [12], [13], [14], [15]]
 | 4, 2 => [[1, 2], [1, 4], [1, 6], [1, 8], [1, 10], [1, 12], [1, 14], [2, 4], [2, 8], [2, 12], [3, 4], [3, 8], [3, 12], [4, 8], [5, 2], [5, 6], [5, 8], [5, 10], [5, 14], [6, 8], [7, 8], [9, 2], [9, 4], [9, 6], [9, 10], [9, 12], [9, 14], [10, 4], [10, 12], [11, 4], [11, 12], [13, 2], [13, 6], [13, 10], [13, 14]]
 | 4, 3 => [[1, 2, 4], [1, 2, 8], [1, 2, 12], [1, 4, 8], [1, 6, 8], [1, 10, 4], [1, 10, 12], [2, 4, 8], [3, 4, 8], [5, 2, 8], [5, 6, 8], [9, 2, 4], [9, 2, 12], [9, 10, 4], [9, 10, 12]]
 | 4, 4 => [[1, 2, 4, 8]]
 | _, _ => []
end Go.Proofs.Ythnkanacjhlhhaa

namespace Go.Proofs.Ythnkanacjhlhhaa
open Go Go.Abs Go.Proofs
-- shared
end Go.Proofs.Ythnkanacjhlhhaa

namespace Go.Proofs.Ythnkanacjhlhhaa
open Go Go.Abs Go.Proofs
-- shared
def mkN (n k : Nat) : List (Int × List Int × Unit) := (spL n k).map fun r => ((n : Int), r, ())
noncomputable def rOK (n k : Nat) (x : Int × List Int × Unit) : Bool := match loopF (l_FnNearSpaces_l11 (n : Int) (k : Int) (mkN n k) x) (0, 0) with
 | some (.inr g) => decide (g = ((mkN n k).length : Int))
 | _ => false
noncomputable def nOK (d : Int) (D : List (Int × List Int × Unit)) (x : Int × List Int × Unit) : Bool := match i_NearestSpaces_F D x with
 | some r => decide (r.2.1 = 0) && decide (r.1 < d)
 | none => false
noncomputable def bOK (n k : Nat) (d : Int) (D : List (Int × List Int × Unit)) : Bool :=
 (match l_f6spaces_F D D with
  | some b => b
  | none => false) && ((match i_PackingBound_F (n : Int) (k : Int) d with
  | some a => decide (a.2 = 0) && decide ((D.length : Int) ≤ a.1)
  | none => false) && ((match i_DesignBound_F (n : Int) (k : Int) d with
  | some a => decide (a.2 = 0) && decide ((D.length : Int) ≤ a.1)
  | none => false) && (decide (1 ≤ (D.length : Int)) && (match i_LeastSpaceDistance_F D with
  | some l => cond (decide ((D.length : Int) = 1)) (decide (l.2 = 4) || (decide (l.2 = 0) && decide (l.1 ≥ d))) (decide (l.2 = 0) && decide (l.1 ≥ d))
  | none => false))))
def atD (n k : Nat) (d : Int) : Prop :=
 (i_GreedySpaces_F (n : Int) (k : Int) d = some (.inl (2, [])) ∧ s_GreedySpaces_F (n : Int) (k : Int) d = some (.inl (2, [])) ∧ 2 * (k : Int) < d) ∨
 ∃ D, i_GreedySpaces_F (n : Int) (k : Int) d = some (.inr (0, D)) ∧ s_GreedySpaces_F (n : Int) (k : Int) d = some (.inr (0, D)) ∧ bOK n k d D = true ∧ (mkN n k).all (nOK d D) = true
theorem p6_ok {code : List Int} (h1 : code.length ≤ 5000) (hc : ∀ x ∈ code, 0 ≤ x ∧ x ≤ 255) (n : Int) : ∃ r, s_P6Pick_F code n = some r ∧ (0 ≤ r ∧ (r = 0 ∨ r < n)) := by
 obtain ⟨r, hr, h, _⟩ := pick_ok (n := n) (c := 0) (s := (code, 0, 0, ())) ⟨h1, hc, Int.le_refl _, Int.le_refl _⟩ (by omega)
 refine ⟨r.1, ?_, h⟩
 unfold s_P6Pick_F s_P6Pick
 rw [run_some_mat hr]
 rfl
theorem f6_nil : l_f6spaces_F [] [] = some true := by kernel_rfl
theorem near_of (n k : Nat) (hn1 : 1 ≤ n) (hn : n ≤ 4) (hk : k ≤ n) (hA : s_SpacesOf_F (n : Int) (k : Int) = some (.inr (0, mkN n k))) (hl0 : 0 < (mkN n k).length) (hl : (mkN n k).length ≤ 1000) (hR : (mkN n k).all (rOK n k) = true)
  (hG : i_GaussNumber_F (n : Int) (k : Int) = some (((mkN n k).length : Int), 0)) (hD : ∀ j : Nat, j < 3 → atD n k (2 + 2 * (j : Int)))
  (p0 p1 : List Int) (h0 : s_P6Pick_F p0 4 = some ((n : Int) - 1)) (h1 : s_P6Pick_F p1 ((n : Int) + 1) = some (k : Int)) (hi : ∃ r, s_P6Pick_F p1 ((mkN n k).length : Int) = some r ∧ (0 ≤ r ∧ (r = 0 ∨ r < ((mkN n k).length : Int)))) (hj : ∃ r, s_P6Pick_F p0 3 = some r ∧ (0 ≤ r ∧ (r = 0 ∨ r < 3))) :
  l_FnNearSpaces_F p0 p1 = some true := by
 unfold l_FnNearSpaces_F l_FnNearSpaces
 rw [Tre.run_cond]
 cases l_f6big_S p0
 case true => rfl
 rw [cond_false, Tre.run_cond]
 cases l_f6big_S p1
 case true => rfl
 have e1 : iwrap .i64 (1 + ((n : Int) - 1)) = (n : Int) := by rw [iwrap_i64 (by omega) (by omega)]; omega
 have e2 : iwrap .i64 ((n : Int) + 1) = (n : Int) + 1 := iwrap_i64 (by omega) (by omega)
 rw [cond_false, run_some_mat h0]
 dsimp only
 rw [e1, e2, run_some_mat h1, run_some_mat hA, Tre.run_inr, Tre.run_cond, decide_eq_true rfl, Bool.not_true, cond_false]
 obtain ⟨i, hi, hi0, hi1⟩ := hi
 obtain ⟨i, rfl⟩ := Int.eq_ofNat_of_zero_le hi0
 rw [run_some_mat hi]
 obtain ⟨x, hx⟩ : ∃ x, (mkN n k)[i]? = some x := ⟨_, List.getElem?_eq_getElem (by omega)⟩
 rw [run_at hx]
 have hxm := List.mem_of_getElem? hx
 have hrx := List.all_eq_true.1 hR x hxm
 unfold rOK at hrx
 split at hrx
 case h_2 => cases hrx
 case h_1 g hg =>
 have hrx := of_decide_eq_true hrx
 subst hrx
 rw [run_some_mat hg, Tre.run_inr, run_some_mat hG]
 simp only [Tre.run_cond, decide_true, Bool.not_true, cond_false]
 obtain ⟨j, hj, hj0, hj1⟩ := hj
 obtain ⟨j, rfl⟩ := Int.eq_ofNat_of_zero_le hj0
 rw [run_some_mat hj]
 have e3 : iwrap .i64 (2 + iwrap .i64 (2 * (j : Int))) = 2 + 2 * (j : Int) := by rw [iwrap_i64 (n := 2 * (j : Int)) (by omega) (by omega), iwrap_i64 (by omega) (by omega)]
 have e4 : iwrap .i64 (2 * (k : Int)) = 2 * (k : Int) := iwrap_i64 (by omega) (by omega)
 rw [e3, e4]
 rcases hD j (by omega) with ⟨g1, g2, g3⟩ | ⟨D, g1, g2, g3, g4⟩
 ·rw [run_some_mat g1, Tre.run_inl, run_some_mat g2, Tre.run_inl]
  simp only [Tre.run_cond, decide_true, Bool.not_true, cond_false]
  rw [run_some_mat f6_nil]
  simp only [Tre.run_cond, Bool.not_true, cond_false]
  rw [show decide ((2 : Int) = 0) = false from rfl, Bool.not_false, cond_true, cond_true, Tre.run_ret, decide_eq_true (show 2 + 2 * (j : Int) > 2 * (k : Int) by omega)]
 ·rw [run_some_mat g1, Tre.run_inr, run_some_mat g2, Tre.run_inr]
  simp only [Tre.run_cond, decide_true, Bool.not_true, cond_false]
  unfold bOK at g3
  simp only [Bool.and_eq_true] at g3
  obtain ⟨b1, b2, b3, b4, b5⟩ := g3
  have hf : l_f6spaces_F D D = some true := by
   cases hh : l_f6spaces_F D D with
   | none => rw [hh] at b1; cases b1
   | some b => rw [hh] at b1; rw [show b = true from b1]
  rw [run_some_mat hf]
  simp only [Tre.run_cond, Bool.not_true, cond_false]
  split at b2
  case h_2 => cases b2
  case h_1 a ha =>
  split at b3
  case h_2 => cases b3
  case h_1 a' ha' =>
  rw [Bool.and_eq_true, decide_eq_true_eq, decide_eq_true_eq] at b2 b3
  have b4 := of_decide_eq_true b4
  rw [run_some_mat ha, run_some_mat ha', Tre.run_cond, decide_eq_true b2.1, Bool.not_true, cond_false, Tre.run_cond, decide_eq_true b3.1, Bool.not_true, cond_false, Tre.run_cond, decide_eq_false (by omega), cond_false, Tre.run_cond, decide_eq_false (by omega), cond_false, Tre.run_cond, decide_eq_false (by omega), cond_false]
  have hnx := List.all_eq_true.1 g4 x hxm
  unfold nOK at hnx
  split at hnx
  case h_2 => cases hnx
  case h_1 q hq =>
  rw [Bool.and_eq_true, decide_eq_true_eq, decide_eq_true_eq] at hnx
  rw [run_some_mat hq, Tre.run_cond, decide_eq_true hnx.1, Bool.not_true, cond_false, Tre.run_cond, decide_eq_false (by omega), cond_false]
  split at b5
  case h_2 => cases b5
  case h_1 l hl5 =>
  rw [run_some_mat hl5, Tre.run_cond]
  by_cases hd1 : (D.length : Int) = 1
  ·rw [decide_eq_true hd1, cond_true] at b5 ⊢
   rw [Tre.run_cond]
   by_cases h4 : l.2 = 4
   ·rw [decide_eq_true h4]; rfl
   ·rw [decide_eq_false h4, Bool.false_or, Bool.and_eq_true] at b5
    rw [decide_eq_false h4, cond_false, Tre.run_cond, b5.1, cond_true, Tre.run_ret, b5.2]
  ·rw [decide_eq_false hd1, cond_false] at b5 ⊢
   rw [Bool.and_eq_true] at b5
   rw [Tre.run_cond, b5.1, cond_true, Tre.run_ret, b5.2]
end Go.Proofs.Ythnkanacjhlhhaa

namespace Go.Proofs.Ythnkanacjhlhhaa
open Go Go.Abs Go.Proofs
-- shared
def mkD (n : Int) (l : List (List Int)) : List (Int × List Int × Unit) := l.map fun r => (n, r, ())
def grd_1_1_0 : List (Int × List Int × Unit) := mkD 1 [[1]]
def grd_2_1_0 : List (Int × List Int × Unit) := mkD 2 [[1], [2], [3]]
def grd_2_2_0 : List (Int × List Int × Unit) := mkD 2 [[1, 2]]
def grd_2_2_1 : List (Int × List Int × Unit) := mkD 2 [[1, 2]]
def grd_3_1_0 : List (Int × List Int × Unit) := mkD 3 [[1], [2], [3], [4], [5], [6], [7]]
def grd_3_2_0 : List (Int × List Int × Unit) := mkD 3 [[1, 2], [1, 4], [1, 6], [2, 4], [3, 4], [5, 2], [5, 6]]
def grd_3_2_1 : List (Int × List Int × Unit) := mkD 3 [[1, 2]]
def grd_3_3_0 : List (Int × List Int × Unit) := mkD 3 [[1, 2, 4]]
def grd_3_3_1 : List (Int × List Int × Unit) := mkD 3 [[1, 2, 4]]
def grd_3_3_2 : List (Int × List Int × Unit) := mkD 3 [[1, 2, 4]]
def grd_4_1_0 : List (Int × List Int × Unit) := mkD 4 [[1], [2], [3], [4], [5], [6], [7], [8], [9], [10], [11], [12], [13], [14], [15]]
def grd_4_2_0 : List (Int × List Int × Unit) := mkD 4 [[1, 2], [1, 4], [1, 6], [1, 8], [1, 10], [1, 12], [1, 14], [2, 4], [2, 8], [2, 12], [3, 4], [3, 8], [3, 12], [4, 8], [5, 2], [5, 6], [5, 8], [5, 10], [5, 14], [6, 8], [7, 8], [9, 2], [9, 4], [9, 6], [9, 10], [9, 12], [9, 14], [10, 4], [10, 12], [11, 4], [11, 12], [13, 2], [13, 6], [13, 10], [13, 14]]
def grd_4_2_1 : List (Int × List Int × Unit) := mkD 4 [[1, 2], [4, 8], [5, 10], [9, 14], [13, 6]]
def grd_4_3_0 : List (Int × List Int × Unit) := mkD 4 [[1, 2, 4], [1, 2, 8], [1, 2, 12], [1, 4, 8], [1, 6, 8], [1, 10, 4], [1, 10, 12], [2, 4, 8], [3, 4, 8], [5, 2, 8], [5, 6, 8], [9, 2, 4], [9, 2, 12], [9, 10, 4], [9, 10, 12]]
def grd_4_3_1 : List (Int × List Int × Unit) := mkD 4 [[1, 2, 4]]
def grd_4_3_2 : List (Int × List Int × Unit) := mkD 4 [[1, 2, 4]]
def grd_4_4_0 : List (Int × List Int × Unit) := mkD 4 [[1, 2, 4, 8]]
def grd_4_4_1 : List (Int × List Int × Unit) := mkD 4 [[1, 2, 4, 8]]
def grd_4_4_2 : List (Int × List Int × Unit) := mkD 4 [[1, 2, 4, 8]]
end Go.Proofs.Ythnkanacjhlhhaa

namespace Go.Proofs.Ythnkanacjhlhhaa
open Go Go.Abs Go.Proofs
-- shared
set_option maxRecDepth 100000
theorem nsp_1_0 : s_SpacesOf_F ((1 : Nat) : Int) ((0 : Nat) : Int) = some (.inr (0, mkN 1 0)) := by kernel_rfl
theorem ngs_1_0 : i_GaussNumber_F ((1 : Nat) : Int) ((0 : Nat) : Int) = some (((mkN 1 0).length : Int), 0) := by kernel_rfl
theorem nrr_1_0_0 : (((mkN 1 0).drop 0).take 1).all (rOK 1 0) = true := by kernel_rfl
theorem nat_1_0_0 : atD 1 0 (2 + 2 * ((0 : Nat) : Int)) := .inl ⟨by kernel_rfl, by kernel_rfl, by decide⟩
theorem nat_1_0_1 : atD 1 0 (2 + 2 * ((1 : Nat) : Int)) := .inl ⟨by kernel_rfl, by kernel_rfl, by decide⟩
theorem nat_1_0_2 : atD 1 0 (2 + 2 * ((2 : Nat) : Int)) := .inl ⟨by kernel_rfl, by kernel_rfl, by decide⟩
theorem nsp_1_1 : s_SpacesOf_F ((1 : Nat) : Int) ((1 : Nat) : Int) = some (.inr (0, mkN 1 1)) := by kernel_rfl
theorem ngs_1_1 : i_GaussNumber_F ((1 : Nat) : Int) ((1 : Nat) : Int) = some (((mkN 1 1).length : Int), 0) := by kernel_rfl
theorem nrr_1_1_0 : (((mkN 1 1).drop 0).take 1).all (rOK 1 1) = true := by kernel_rfl
theorem ngi_1_1_0 : i_GreedySpaces_F ((1 : Nat) : Int) ((1 : Nat) : Int) (2 + 2 * ((0 : Nat) : Int)) = some (.inr (0, grd_1_1_0)) := by kernel_rfl
theorem ngt_1_1_0 : s_GreedySpaces_F ((1 : Nat) : Int) ((1 : Nat) : Int) (2 + 2 * ((0 : Nat) : Int)) = some (.inr (0, grd_1_1_0)) := by kernel_rfl
theorem nbo_1_1_0 : bOK 1 1 (2 + 2 * ((0 : Nat) : Int)) grd_1_1_0 = true := by kernel_rfl
theorem nnn_1_1_0_0 : (((mkN 1 1).drop 0).take 1).all (nOK (2 + 2 * ((0 : Nat) : Int)) grd_1_1_0) = true := by kernel_rfl
theorem nat_1_1_1 : atD 1 1 (2 + 2 * ((1 : Nat) : Int)) := .inl ⟨by kernel_rfl, by kernel_rfl, by decide⟩
theorem nat_1_1_2 : atD 1 1 (2 + 2 * ((2 : Nat) : Int)) := .inl ⟨by kernel_rfl, by kernel_rfl, by decide⟩
theorem nsp_2_0 : s_SpacesOf_F ((2 : Nat) : Int) ((0 : Nat) : Int) = some (.inr (0, mkN 2 0)) := by kernel_rfl
theorem ngs_2_0 : i_GaussNumber_F ((2 : Nat) : Int) ((0 : Nat) : Int) = some (((mkN 2 0).length : Int), 0) := by kernel_rfl
theorem nrr_2_0_0 : (((mkN 2 0).drop 0).take 1).all (rOK 2 0) = true := by kernel_rfl
theorem nat_2_0_0 : atD 2 0 (2 + 2 * ((0 : Nat) : Int)) := .inl ⟨by kernel_rfl, by kernel_rfl, by decide⟩
theorem nat_2_0_1 : atD 2 0 (2 + 2 * ((1 : Nat) : Int)) := .inl ⟨by kernel_rfl, by kernel_rfl, by decide⟩
theorem nat_2_0_2 : atD 2 0 (2 + 2 * ((2 : Nat) : Int)) := .inl ⟨by kernel_rfl, by kernel_rfl, by decide⟩
theorem nsp_2_1 : s_SpacesOf_F ((2 : Nat) : Int) ((1 : Nat) : Int) = some (.inr (0, mkN 2 1)) := by kernel_rfl
theorem ngs_2_1 : i_GaussNumber_F ((2 : Nat) : Int) ((1 : Nat) : Int) = some (((mkN 2 1).length : Int), 0) := by kernel_rfl
theorem nrr_2_1_0 : (((mkN 2 1).drop 0).take 3).all (rOK 2 1) = true := by kernel_rfl
theorem ngi_2_1_0 : i_GreedySpaces_F ((2 : Nat) : Int) ((1 : Nat) : Int) (2 + 2 * ((0 : Nat) : Int)) = some (.inr (0, grd_2_1_0)) := by kernel_rfl
theorem ngt_2_1_0 : s_GreedySpaces_F ((2 : Nat) : Int) ((1 : Nat) : Int) (2 + 2 * ((0 : Nat) : Int)) = some (.inr (0, grd_2_1_0)) := by kernel_rfl
theorem nbo_2_1_0 : bOK 2 1 (2 + 2 * ((0 : Nat) : Int)) grd_2_1_0 = true := by kernel_rfl
theorem nnn_2_1_0_0 : (((mkN 2 1).drop 0).take 3).all (nOK (2 + 2 * ((0 : Nat) : Int)) grd_2_1_0) = true := by kernel_rfl
theorem nat_2_1_1 : atD 2 1 (2 + 2 * ((1 : Nat) : Int)) := .inl ⟨by kernel_rfl, by kernel_rfl, by decide⟩
theorem nat_2_1_2 : atD 2 1 (2 + 2 * ((2 : Nat) : Int)) := .inl ⟨by kernel_rfl, by kernel_rfl, by decide⟩
theorem nsp_2_2 : s_SpacesOf_F ((2 : Nat) : Int) ((2 : Nat) : Int) = some (.inr (0, mkN 2 2)) := by kernel_rfl
theorem ngs_2_2 : i_GaussNumber_F ((2 : Nat) : Int) ((2 : Nat) : Int) = some (((mkN 2 2).length : Int), 0) := by kernel_rfl
theorem nrr_2_2_0 : (((mkN 2 2).drop 0).take 1).all (rOK 2 2) = true := by kernel_rfl
theorem ngi_2_2_0 : i_GreedySpaces_F ((2 : Nat) : Int) ((2 : Nat) : Int) (2 + 2 * ((0 : Nat) : Int)) = some (.inr (0, grd_2_2_0)) := by kernel_rfl
theorem ngt_2_2_0 : s_GreedySpaces_F ((2 : Nat) : Int) ((2 : Nat) : Int) (2 + 2 * ((0 : Nat) : Int)) = some (.inr (0, grd_2_2_0)) := by kernel_rfl
theorem nbo_2_2_0 : bOK 2 2 (2 + 2 * ((0 : Nat) : Int)) grd_2_2_0 = true := by kernel_rfl
theorem nnn_2_2_0_0 : (((mkN 2 2).drop 0).take 1).all (nOK (2 + 2 * ((0 : Nat) : Int)) grd_2_2_0) = true := by kernel_rfl
theorem ngi_2_2_1 : i_GreedySpaces_F ((2 : Nat) : Int) ((2 : Nat) : Int) (2 + 2 * ((1 : Nat) : Int)) = some (.inr (0, grd_2_2_1)) := by kernel_rfl
theorem ngt_2_2_1 : s_GreedySpaces_F ((2 : Nat) : Int) ((2 : Nat) : Int) (2 + 2 * ((1 : Nat) : Int)) = some (.inr (0, grd_2_2_1)) := by kernel_rfl
theorem nbo_2_2_1 : bOK 2 2 (2 + 2 * ((1 : Nat) : Int)) grd_2_2_1 = true := by kernel_rfl
theorem nnn_2_2_1_0 : (((mkN 2 2).drop 0).take 1).all (nOK (2 + 2 * ((1 : Nat) : Int)) grd_2_2_1) = true := by kernel_rfl
theorem nat_2_2_2 : atD 2 2 (2 + 2 * ((2 : Nat) : Int)) := .inl ⟨by kernel_rfl, by kernel_rfl, by decide⟩
theorem nsp_3_0 : s_SpacesOf_F ((3 : Nat) : Int) ((0 : Nat) : Int) = some (.inr (0, mkN 3 0)) := by kernel_rfl
theorem ngs_3_0 : i_GaussNumber_F ((3 : Nat) : Int) ((0 : Nat) : Int) = some (((mkN 3 0).length : Int), 0) := by kernel_rfl
theorem nrr_3_0_0 : (((mkN 3 0).drop 0).take 1).all (rOK 3 0) = true := by kernel_rfl
theorem nat_3_0_0 : atD 3 0 (2 + 2 * ((0 : Nat) : Int)) := .inl ⟨by kernel_rfl, by kernel_rfl, by decide⟩
theorem nat_3_0_1 : atD 3 0 (2 + 2 * ((1 : Nat) : Int)) := .inl ⟨by kernel_rfl, by kernel_rfl, by decide⟩
theorem nat_3_0_2 : atD 3 0 (2 + 2 * ((2 : Nat) : Int)) := .inl ⟨by kernel_rfl, by kernel_rfl, by decide⟩
theorem nsp_3_1 : s_SpacesOf_F ((3 : Nat) : Int) ((1 : Nat) : Int) = some (.inr (0, mkN 3 1)) := by kernel_rfl
theorem ngs_3_1 : i_GaussNumber_F ((3 : Nat) : Int) ((1 : Nat) : Int) = some (((mkN 3 1).length : Int), 0) := by kernel_rfl
theorem nrr_3_1_0 : (((mkN 3 1).drop 0).take 7).all (rOK 3 1) = true := by kernel_rfl
theorem ngi_3_1_0 : i_GreedySpaces_F ((3 : Nat) : Int) ((1 : Nat) : Int) (2 + 2 * ((0 : Nat) : Int)) = some (.inr (0, grd_3_1_0)) := by kernel_rfl
theorem ngt_3_1_0 : s_GreedySpaces_F ((3 : Nat) : Int) ((1 : Nat) : Int) (2 + 2 * ((0 : Nat) : Int)) = some (.inr (0, grd_3_1_0)) := by kernel_rfl
theorem nbo_3_1_0 : bOK 3 1 (2 + 2 * ((0 : Nat) : Int)) grd_3_1_0 = true := by kernel_rfl
theorem nnn_3_1_0_0 : (((mkN 3 1).drop 0).take 7).all (nOK (2 + 2 * ((0 : Nat) : Int)) grd_3_1_0) = true := by kernel_rfl
theorem nat_3_1_1 : atD 3 1 (2 + 2 * ((1 : Nat) : Int)) := .inl ⟨by kernel_rfl, by kernel_rfl, by decide⟩
theorem nat_3_1_2 : atD 3 1 (2 + 2 * ((2 : Nat) : Int)) := .inl ⟨by kernel_rfl, by kernel_rfl, by decide⟩
theorem nsp_3_2 : s_SpacesOf_F ((3 : Nat) : Int) ((2 : Nat) : Int) = some (.inr (0, mkN 3 2)) := by kernel_rfl
theorem ngs_3_2 : i_GaussNumber_F ((3 : Nat) : Int) ((2 : Nat) : Int) = some (((mkN 3 2).length : Int), 0) := by kernel_rfl
theorem nrr_3_2_0 : (((mkN 3 2).drop 0).take 7).all (rOK 3 2) = true := by kernel_rfl
theorem ngi_3_2_0 : i_GreedySpaces_F ((3 : Nat) : Int) ((2 : Nat) : Int) (2 + 2 * ((0 : Nat) : Int)) = some (.inr (0, grd_3_2_0)) := by kernel_rfl
theorem ngt_3_2_0 : s_GreedySpaces_F ((3 : Nat) : Int) ((2 : Nat) : Int) (2 + 2 * ((0 : Nat) : Int)) = some (.inr (0, grd_3_2_0)) := by kernel_rfl
theorem nbo_3_2_0 : bOK 3 2 (2 + 2 * ((0 : Nat) : Int)) grd_3_2_0 = true := by kernel_rfl
theorem nnn_3_2_0_0 : (((mkN 3 2).drop 0).take 7).all (nOK (2 + 2 * ((0 : Nat) : Int)) grd_3_2_0) = true := by kernel_rfl
theorem ngi_3_2_1 : i_GreedySpaces_F ((3 : Nat) : Int) ((2 : Nat) : Int) (2 + 2 * ((1 : Nat) : Int)) = some (.inr (0, grd_3_2_1)) := by kernel_rfl
theorem ngt_3_2_1 : s_GreedySpaces_F ((3 : Nat) : Int) ((2 : Nat) : Int) (2 + 2 * ((1 : Nat) : Int)) = some (.inr (0, grd_3_2_1)) := by kernel_rfl
theorem nbo_3_2_1 : bOK 3 2 (2 + 2 * ((1 : Nat) : Int)) grd_3_2_1 = true := by kernel_rfl
theorem nnn_3_2_1_0 : (((mkN 3 2).drop 0).take 7).all (nOK (2 + 2 * ((1 : Nat) : Int)) grd_3_2_1) = true := by kernel_rfl
theorem nat_3_2_2 : atD 3 2 (2 + 2 * ((2 : Nat) : Int)) := .inl ⟨by kernel_rfl, by kernel_rfl, by decide⟩
theorem nsp_3_3 : s_SpacesOf_F ((3 : Nat) : Int) ((3 : Nat) : Int) = some (.inr (0, mkN 3 3)) := by kernel_rfl
theorem ngs_3_3 : i_GaussNumber_F ((3 : Nat) : Int) ((3 : Nat) : Int) = some (((mkN 3 3).length : Int), 0) := by kernel_rfl
theorem nrr_3_3_0 : (((mkN 3 3).drop 0).take 1).all (rOK 3 3) = true := by kernel_rfl
theorem ngi_3_3_0 : i_GreedySpaces_F ((3 : Nat) : Int) ((3 : Nat) : Int) (2 + 2 * ((0 : Nat) : Int)) = some (.inr (0, grd_3_3_0)) := by kernel_rfl
theorem ngt_3_3_0 : s_GreedySpaces_F ((3 : Nat) : Int) ((3 : Nat) : Int) (2 + 2 * ((0 : Nat) : Int)) = some (.inr (0, grd_3_3_0)) := by kernel_rfl
theorem nbo_3_3_0 : bOK 3 3 (2 + 2 * ((0 : Nat) : Int)) grd_3_3_0 = true := by kernel_rfl
theorem nnn_3_3_0_0 : (((mkN 3 3).drop 0).take 1).all (nOK (2 + 2 * ((0 : Nat) : Int)) grd_3_3_0) = true := by kernel_rfl
theorem ngi_3_3_1 : i_GreedySpaces_F ((3 : Nat) : Int) ((3 : Nat) : Int) (2 + 2 * ((1 : Nat) : Int)) = some (.inr (0, grd_3_3_1)) := by kernel_rfl
theorem ngt_3_3_1 : s_GreedySpaces_F ((3 : Nat) : Int) ((3 : Nat) : Int) (2 + 2 * ((1 : Nat) : Int)) = some (.inr (0, grd_3_3_1)) := by kernel_rfl
theorem nbo_3_3_1 : bOK 3 3 (2 + 2 * ((1 : Nat) : Int)) grd_3_3_1 = true := by kernel_rfl
theorem nnn_3_3_1_0 : (((mkN 3 3).drop 0).take 1).all (nOK (2 + 2 * ((1 : Nat) : Int)) grd_3_3_1) = true := by kernel_rfl
theorem ngi_3_3_2 : i_GreedySpaces_F ((3 : Nat) : Int) ((3 : Nat) : Int) (2 + 2 * ((2 : Nat) : Int)) = some (.inr (0, grd_3_3_2)) := by kernel_rfl
theorem ngt_3_3_2 : s_GreedySpaces_F ((3 : Nat) : Int) ((3 : Nat) : Int) (2 + 2 * ((2 : Nat) : Int)) = some (.inr (0, grd_3_3_2)) := by kernel_rfl
theorem nbo_3_3_2 : bOK 3 3 (2 + 2 * ((2 : Nat) : Int)) grd_3_3_2 = true := by kernel_rfl
theorem nnn_3_3_2_0 : (((mkN 3 3).drop 0).take 1).all (nOK (2 + 2 * ((2 : Nat) : Int)) grd_3_3_2) = true := by kernel_rfl
theorem nsp_4_0 : s_SpacesOf_F ((4 : Nat) : Int) ((0 : Nat) : Int) = some (.inr (0, mkN 4 0)) := by kernel_rfl
theorem ngs_4_0 : i_GaussNumber_F ((4 : Nat) : Int) ((0 : Nat) : Int) = some (((mkN 4 0).length : Int), 0) := by kernel_rfl
theorem nrr_4_0_0 : (((mkN 4 0).drop 0).take 1).all (rOK 4 0) = true := by kernel_rfl
theorem nat_4_0_0 : atD 4 0 (2 + 2 * ((0 : Nat) : Int)) := .inl ⟨by kernel_rfl, by kernel_rfl, by decide⟩
theorem nat_4_0_1 : atD 4 0 (2 + 2 * ((1 : Nat) : Int)) := .inl ⟨by kernel_rfl, by kernel_rfl, by decide⟩
theorem nat_4_0_2 : atD 4 0 (2 + 2 * ((2 : Nat) : Int)) := .inl ⟨by kernel_rfl, by kernel_rfl, by decide⟩
theorem nsp_4_4 : s_SpacesOf_F ((4 : Nat) : Int) ((4 : Nat) : Int) = some (.inr (0, mkN 4 4)) := by kernel_rfl
theorem ngs_4_4 : i_GaussNumber_F ((4 : Nat) : Int) ((4 : Nat) : Int) = some (((mkN 4 4).length : Int), 0) := by kernel_rfl
theorem nrr_4_4_0 : (((mkN 4 4).drop 0).take 1).all (rOK 4 4) = true := by kernel_rfl
theorem ngi_4_4_0 : i_GreedySpaces_F ((4 : Nat) : Int) ((4 : Nat) : Int) (2 + 2 * ((0 : Nat) : Int)) = some (.inr (0, grd_4_4_0)) := by kernel_rfl
theorem ngt_4_4_0 : s_GreedySpaces_F ((4 : Nat) : Int) ((4 : Nat) : Int) (2 + 2 * ((0 : Nat) : Int)) = some (.inr (0, grd_4_4_0)) := by kernel_rfl
theorem nbo_4_4_0 : bOK 4 4 (2 + 2 * ((0 : Nat) : Int)) grd_4_4_0 = true := by kernel_rfl
theorem nnn_4_4_0_0 : (((mkN 4 4).drop 0).take 1).all (nOK (2 + 2 * ((0 : Nat) : Int)) grd_4_4_0) = true := by kernel_rfl
theorem ngi_4_4_1 : i_GreedySpaces_F ((4 : Nat) : Int) ((4 : Nat) : Int) (2 + 2 * ((1 : Nat) : Int)) = some (.inr (0, grd_4_4_1)) := by kernel_rfl
theorem ngt_4_4_1 : s_GreedySpaces_F ((4 : Nat) : Int) ((4 : Nat) : Int) (2 + 2 * ((1 : Nat) : Int)) = some (.inr (0, grd_4_4_1)) := by kernel_rfl
theorem nbo_4_4_1 : bOK 4 4 (2 + 2 * ((1 : Nat) : Int)) grd_4_4_1 = true := by kernel_rfl
theorem nnn_4_4_1_0 : (((mkN 4 4).drop 0).take 1).all (nOK (2 + 2 * ((1 : Nat) : Int)) grd_4_4_1) = true := by kernel_rfl
theorem ngi_4_4_2 : i_GreedySpaces_F ((4 : Nat) : Int) ((4 : Nat) : Int) (2 + 2 * ((2 : Nat) : Int)) = some (.inr (0, grd_4_4_2)) := by kernel_rfl
theorem ngt_4_4_2 : s_GreedySpaces_F ((4 : Nat) : Int) ((4 : Nat) : Int) (2 + 2 * ((2 : Nat) : Int)) = some (.inr (0, grd_4_4_2)) := by kernel_rfl
theorem nbo_4_4_2 : bOK 4 4 (2 + 2 * ((2 : Nat) : Int)) grd_4_4_2 = true := by kernel_rfl
theorem nnn_4_4_2_0 : (((mkN 4 4).drop 0).take 1).all (nOK (2 + 2 * ((2 : Nat) : Int)) grd_4_4_2) = true := by kernel_rfl
end Go.Proofs.Ythnkanacjhlhhaa

namespace Go.Proofs.Ythnkanacjhlhhaa
open Go Go.Abs Go.Proofs
-- shared
set_option maxRecDepth 100000
theorem nsp_4_1 : s_SpacesOf_F ((4 : Nat) : Int) ((1 : Nat) : Int) = some (.inr (0, mkN 4 1)) := by kernel_rfl
theorem ngs_4_1 : i_GaussNumber_F ((4 : Nat) : Int) ((1 : Nat) : Int) = some (((mkN 4 1).length : Int), 0) := by kernel_rfl
theorem nrr_4_1_0 : (((mkN 4 1).drop 0).take 9).all (rOK 4 1) = true := by kernel_rfl
theorem nrr_4_1_9 : (((mkN 4 1).drop 9).take 6).all (rOK 4 1) = true := by kernel_rfl
theorem ngi_4_1_0 : i_GreedySpaces_F ((4 : Nat) : Int) ((1 : Nat) : Int) (2 + 2 * ((0 : Nat) : Int)) = some (.inr (0, grd_4_1_0)) := by kernel_rfl
theorem ngt_4_1_0 : s_GreedySpaces_F ((4 : Nat) : Int) ((1 : Nat) : Int) (2 + 2 * ((0 : Nat) : Int)) = some (.inr (0, grd_4_1_0)) := by kernel_rfl
theorem nbo_4_1_0 : bOK 4 1 (2 + 2 * ((0 : Nat) : Int)) grd_4_1_0 = true := by kernel_rfl
theorem nnn_4_1_0_0 : (((mkN 4 1).drop 0).take 9).all (nOK (2 + 2 * ((0 : Nat) : Int)) grd_4_1_0) = true := by kernel_rfl
theorem nnn_4_1_0_9 : (((mkN 4 1).drop 9).take 6).all (nOK (2 + 2 * ((0 : Nat) : Int)) grd_4_1_0) = true := by kernel_rfl
theorem nat_4_1_1 : atD 4 1 (2 + 2 * ((1 : Nat) : Int)) := .inl ⟨by kernel_rfl, by kernel_rfl, by decide⟩
theorem nat_4_1_2 : atD 4 1 (2 + 2 * ((2 : Nat) : Int)) := .inl ⟨by kernel_rfl, by kernel_rfl, by decide⟩
end Go.Proofs.Ythnkanacjhlhhaa

namespace Go.Proofs.Ythnkanacjhlhhaa
open Go Go.Abs Go.Proofs
-- shared
set_option maxRecDepth 100000
theorem nsp_4_3 : s_SpacesOf_F ((4 : Nat) : Int) ((3 : Nat) : Int) = some (.inr (0, mkN 4 3)) := by kernel_rfl
theorem ngs_4_3 : i_GaussNumber_F ((4 : Nat) : Int) ((3 : Nat) : Int) = some (((mkN 4 3).length : Int), 0) := by kernel_rfl
theorem nrr_4_3_0 : (((mkN 4 3).drop 0).take 9).all (rOK 4 3) = true := by kernel_rfl
theorem nrr_4_3_9 : (((mkN 4 3).drop 9).take 6).all (rOK 4 3) = true := by kernel_rfl
theorem ngi_4_3_0 : i_GreedySpaces_F ((4 : Nat) : Int) ((3 : Nat) : Int) (2 + 2 * ((0 : Nat) : Int)) = some (.inr (0, grd_4_3_0)) := by kernel_rfl
theorem ngt_4_3_0 : s_GreedySpaces_F ((4 : Nat) : Int) ((3 : Nat) : Int) (2 + 2 * ((0 : Nat) : Int)) = some (.inr (0, grd_4_3_0)) := by kernel_rfl
theorem nbo_4_3_0 : bOK 4 3 (2 + 2 * ((0 : Nat) : Int)) grd_4_3_0 = true := by kernel_rfl
theorem nnn_4_3_0_0 : (((mkN 4 3).drop 0).take 9).all (nOK (2 + 2 * ((0 : Nat) : Int)) grd_4_3_0) = true := by kernel_rfl
theorem nnn_4_3_0_9 : (((mkN 4 3).drop 9).take 6).all (nOK (2 + 2 * ((0 : Nat) : Int)) grd_4_3_0) = true := by kernel_rfl
theorem ngi_4_3_1 : i_GreedySpaces_F ((4 : Nat) : Int) ((3 : Nat) : Int) (2 + 2 * ((1 : Nat) : Int)) = some (.inr (0, grd_4_3_1)) := by kernel_rfl
theorem ngt_4_3_1 : s_GreedySpaces_F ((4 : Nat) : Int) ((3 : Nat) : Int) (2 + 2 * ((1 : Nat) : Int)) = some (.inr (0, grd_4_3_1)) := by kernel_rfl
theorem nbo_4_3_1 : bOK 4 3 (2 + 2 * ((1 : Nat) : Int)) grd_4_3_1 = true := by kernel_rfl
theorem nnn_4_3_1_0 : (((mkN 4 3).drop 0).take 9).all (nOK (2 + 2 * ((1 : Nat) : Int)) grd_4_3_1) = true := by kernel_rfl
theorem nnn_4_3_1_9 : (((mkN 4 3).drop 9).take 6).all (nOK (2 + 2 * ((1 : Nat) : Int)) grd_4_3_1) = true := by kernel_rfl
theorem ngi_4_3_2 : i_GreedySpaces_F ((4 : Nat) : Int) ((3 : Nat) : Int) (2 + 2 * ((2 : Nat) : Int)) = some (.inr (0, grd_4_3_2)) := by kernel_rfl
theorem ngt_4_3_2 : s_GreedySpaces_F ((4 : Nat) : Int) ((3 : Nat) : Int) (2 + 2 * ((2 : Nat) : Int)) = some (.inr (0, grd_4_3_2)) := by kernel_rfl
theorem nbo_4_3_2 : bOK 4 3 (2 + 2 * ((2 : Nat) : Int)) grd_4_3_2 = true := by kernel_rfl
theorem nnn_4_3_2_0 : (((mkN 4 3).drop 0).take 9).all (nOK (2 + 2 * ((2 : Nat) : Int)) grd_4_3_2) = true := by kernel_rfl
theorem nnn_4_3_2_9 : (((mkN 4 3).drop 9).take 6).all (nOK (2 + 2 * ((2 : Nat) : Int)) grd_4_3_2) = true := by kernel_rfl
end Go.Proofs.Ythnkanacjhlhhaa
