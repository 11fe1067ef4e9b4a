/- Part 5 of the proof of FnExactSolveAt. -/
import Derived.Test.YtkgekgfmnhccmaaPs4
namespace Go.Proofs.Ytkgekgfmnhccmaa
open Go Go.Abs Go.Proofs
noncomputable def i_Field_power_l2 (h2_0_3 : (Int × (Int × Unit))) : (Int × Int × Int) → Tre ((Int × Int × Int) ⊕ Int) := fun s2 =>
 .cond (decide (s2.2.1 > 0))
  (.cond (decide (iand .i64 s2.2.1 1 = 1))
   (.mat (i_Field_mul_F h2_0_3 s2.2.2 s2.1) fun r1 =>
   .mat (i_Field_mul_F h2_0_3 s2.1 s2.1) fun r2 =>
   .ret (.inl (r2, ishr .i64 s2.2.1 1, r1)))
   (.mat (i_Field_mul_F h2_0_3 s2.1 s2.1) fun r3 =>
   .ret (.inl (r3, ishr .i64 s2.2.1 1, s2.2.2))))
  (.ret (.inr s2.2.2))
noncomputable def i_Field_power (p0 : (Int × (Int × Unit))) (p1 : Int) (p2 : Int) : Tre Int :=
 .mat (loopF (i_Field_power_l2 p0) (p1, p2, 1)) fun l4 =>
 .ret l4
noncomputable def i_Field_power_F (p0 : (Int × (Int × Unit))) (p1 : Int) (p2 : Int) : Option Int := (i_Field_power p0 p1 p2).run some
noncomputable def i_Field_power_V : Env := ⟨tau, [(109, i_Field_mul_c)], []⟩
noncomputable def i_Field_power_b : Code := (Try.f141.body).getD .skip
noncomputable def i_Field_power_l2_mk (h2_0_3 : (Int × (Int × Unit))) : (Int × Int × Int) → St := fun x => stOf [(1, (.imm true (.int .i64) x.1)), (2, (.imm true (.int .i64) x.2.1)), (3, (.ptr (5, 0) [])), (7, (.imm true (.int .i64) x.2.2))] [((5, 0), some ⟨true, kField, .own, h2_0_3⟩)]
noncomputable def i_Field_power_l2_out (_h2_0_3 : (Int × (Int × Unit))) : Int → Ex × St := fun x => (.exit 0, stOf [(7, (.imm true (.int .i64) x))] [])
noncomputable def i_Field_power_l2_D (s : St) : Tre (Ex × St) :=
 asImmZ true (.int .i64) (s.tmps 1) fun d2 =>
 asImmZ true (.int .i64) (s.tmps 2) fun d4 =>
 asPtr (5, 0) [] (s.tmps 3) <|
 asImmZ true (.int .i64) (s.tmps 7) fun d7 =>
 asRoot true kField (s.roots (5, 0)) fun m9 d10 =>
 asM .own m9 <|
 .mat (loopF (i_Field_power_l2 d10) (d2, d4, d7)) fun x => .ret (i_Field_power_l2_out d10 x)
noncomputable def i_Field_power_l2_L : LoopI := ⟨([1, 2, 3, 7], [(5, 0)]), ([7], []), i_Field_power_l2_D⟩
noncomputable def i_Field_power_A : List (Nat × LoopI) := [(2, i_Field_power_l2_L)]
set_option maxRecDepth 100000 in
theorem i_Field_power_l2_step : ∀ (h2_0_3 : (Int × (Int × Unit))) (x : (Int × Int × Int)) (c : St → Option (Ex × St)), den i_Field_power_V i_Field_power_A (loopAt i_Field_power_b 0) (i_Field_power_l2_mk h2_0_3 x) (roundK i_Field_power_l2_L.kp i_Field_power_l2_L.kx c) = (i_Field_power_l2 h2_0_3 x).run (roundR (i_Field_power_l2_mk h2_0_3) (i_Field_power_l2_out h2_0_3) c) := fun _ _ _ => by
 kernel_rfl
theorem i_Field_power_l2_ok : LoopOK i_Field_power_V i_Field_power_A (loopAt i_Field_power_b 0) i_Field_power_l2_L := loopOK_of fun s e s' h => by
 generalize hs : restrict i_Field_power_l2_L.kp s = s1 at h
 have h : (i_Field_power_l2_D s1).run some = some (e, s') := h
 obtain ⟨d2, e1, h_0⟩ := asImmZ_spec h
 obtain ⟨d4, e3, h_1⟩ := asImmZ_spec h_0
 obtain ⟨e5, h_2⟩ := asPtr_spec h_1
 obtain ⟨d7, e6, h_3⟩ := asImmZ_spec h_2
 obtain ⟨m9, d10, e8, h_4⟩ := asRoot_spec h_3
 obtain ⟨rfl, h_5⟩ := asM_spec h_4
 obtain ⟨y, hy, hz⟩ := mat_ret h_5
 refine ⟨_, _, i_Field_power_l2_mk d10, i_Field_power_l2_out d10, i_Field_power_l2 d10, (d2, d4, d7), y, ?_, hy, ?_, i_Field_power_l2_step d10⟩
 ·subst hs; exact restrict_eq (T := [(1, (.imm true (.int .i64) d2)), (2, (.imm true (.int .i64) d4)), (3, (.ptr (5, 0) [])), (7, (.imm true (.int .i64) d7))]) (U := [((5, 0), some ⟨true, kField, .own, d10⟩)]) rfl rfl ⟨e1, e3, e5, e6, trivial⟩ ⟨e8, trivial⟩
 ·exact Option.some.inj hz
noncomputable def i_Field_power_I : FnI := ⟨i_Field_power_b, Try.f141.results.toList, Try.f141.resultTypes.toList, i_Field_power_A⟩
noncomputable def i_Field_power_out (_p0 : (Int × (Int × Unit))) (_p1 : Int) (_p2 : Int) : Int → CallOut := fun r => ⟨(.imm true (.int .i64) r), [], []⟩
set_option maxRecDepth 100000 in
theorem i_Field_power_eq : ∀ (p0 : (Int × (Int × Unit))) (p1 : Int) (p2 : Int), denFn i_Field_power_V i_Field_power_I ⟨[(.imm true kField p0), (.imm true (.int .i64) p1), (.imm true (.int .i64) p2)], []⟩ = (i_Field_power p0 p1 p2).run fun r => some (i_Field_power_out p0 p1 p2 r) := fun _ _ _ => by kernel_rfl
noncomputable def i_Field_power_G (av : List AV) (rs : List Root) : Tre CallOut :=
 asCons av fun a0_ av0 =>
 asCons av0 fun a1_ av1 =>
 asCons av1 fun a2_ av2 =>
 asEnd av2 <|
 asEnd rs <|
 asImmZ true kField a0_ fun d1 =>
 asImmZ true (.int .i64) a1_ fun d2 =>
 asImmZ true (.int .i64) a2_ fun d3 =>
 .mat (i_Field_power_F d1 d2 d3) fun r => .ret (i_Field_power_out d1 d2 d3 r)
noncomputable def i_Field_power_c : Ctr := ⟨[], fun ci => i_Field_power_G ci.args ci.roots, false⟩
theorem i_Field_power_env : EnvOK Try.prog .none i_Field_power_V := (envOK_cons i_Field_mul_ok ent109 envOK_nil)
set_option maxRecDepth 100000 in
theorem i_Field_power_ok : Contract Try.prog .none 141 i_Field_power_c := by
 have hl : LoopsOK i_Field_power_V i_Field_power_A i_Field_power_b := (loopsOK_all (n := 1) (by kernel_rfl) fun k hk => by
   match k, hk with
   | 0, _ => exact loopOK_at (id := 2) (L := i_Field_power_l2_L) (by kernel_rfl) (by kernel_rfl) i_Field_power_l2_ok)
 refine (contract_of (F := i_Field_power_I) tau_tys i_Field_power_env Try.func141 (by kernel_rfl) (by kernel_rfl) (by kernel_rfl) hl []).weaken ?_
 rintro ⟨av, rs⟩ co h
 have h : (i_Field_power_G av rs).run some = some co := h
 obtain ⟨a0_, av0, rfl, h_0⟩ := asCons_spec h
 obtain ⟨a1_, av1, rfl, h_1⟩ := asCons_spec h_0
 obtain ⟨a2_, av2, rfl, h_2⟩ := asCons_spec h_1
 obtain ⟨rfl, h_3⟩ := asEnd_spec h_2
 obtain ⟨rfl, h_4⟩ := asEnd_spec h_3
 obtain ⟨d1, rfl, h_5⟩ := asImmZ_spec h_4
 obtain ⟨d2, rfl, h_6⟩ := asImmZ_spec h_5
 obtain ⟨d3, rfl, h_7⟩ := asImmZ_spec h_6
 exact fin_mat (i_Field_power_eq d1 d2 d3) h_7
end Go.Proofs.Ytkgekgfmnhccmaa

namespace Go.Proofs.Ytkgekgfmnhccmaa
open Go Go.Abs Go.Proofs
noncomputable def i_Field_inverse (p0 : (Int × (Int × Unit))) (p1 : Int) : Tre Int :=
 .mat (i_Field_count_F p0) fun r1 =>
 .mat (i_Field_power_F p0 p1 (iwrap .i64 (r1 - 2))) fun r2 =>
 .ret r2
noncomputable def i_Field_inverse_F (p0 : (Int × (Int × Unit))) (p1 : Int) : Option Int := (i_Field_inverse p0 p1).run some
-- more
set_option maxRecDepth 100000
theorem iinv_2 : chk1 i_Field_inverse_F invN 1 2 = true := by kernel_rfl
theorem iinv_3 : chk1 i_Field_inverse_F invN 1 3 = true := by kernel_rfl
theorem iinv_7 : chk1 i_Field_inverse_F invN 2 7 = true := by kernel_rfl
theorem iinv_11 : chk1 i_Field_inverse_F invN 3 11 = true := by kernel_rfl
theorem iinv_13 : chk1 i_Field_inverse_F invN 3 13 = true := by kernel_rfl
theorem iinv_19 : chk1 i_Field_inverse_F invN 4 19 = true := by kernel_rfl
theorem iinv_25 : chk1 i_Field_inverse_F invN 4 25 = true := by kernel_rfl
theorem iinv_31 : chk1 i_Field_inverse_F invN 4 31 = true := by kernel_rfl
theorem iinv_37 : chk1 i_Field_inverse_F invN 5 37 = true := by kernel_rfl
theorem iinv_41 : chk1 i_Field_inverse_F invN 5 41 = true := by kernel_rfl
theorem iinv_47 : chk1 i_Field_inverse_F invN 5 47 = true := by kernel_rfl
theorem iinv_55 : chk1 i_Field_inverse_F invN 5 55 = true := by kernel_rfl
theorem iinv_59 : chk1 i_Field_inverse_F invN 5 59 = true := by kernel_rfl
theorem iinv_61 : chk1 i_Field_inverse_F invN 5 61 = true := by kernel_rfl
theorem iinv_is {f : TF3} (hf : fieldOk f = true) {a : Int} (ha : inF f a) : i_Field_inverse_F f a = some (invI f a) := by
 refine one_of (fun q hq => ?_) hf ha
 simp only [fieldN, List.mem_cons, List.not_mem_nil, or_false] at hq
 rcases hq with rfl | rfl | rfl | rfl | rfl | rfl | rfl | rfl | rfl | rfl | rfl | rfl | rfl | rfl
 ·exact iinv_2
 ·exact iinv_3
 ·exact iinv_7
 ·exact iinv_11
 ·exact iinv_13
 ·exact iinv_19
 ·exact iinv_25
 ·exact iinv_31
 ·exact iinv_37
 ·exact iinv_41
 ·exact iinv_47
 ·exact iinv_55
 ·exact iinv_59
 ·exact iinv_61
noncomputable def i_Field_inverse_V : Env := ⟨tau, [(105, i_Field_count_c), (141, i_Field_power_c)], []⟩
noncomputable def i_Field_inverse_b : Code := (Try.f108.body).getD .skip
noncomputable def i_Field_inverse_I : FnI := ⟨i_Field_inverse_b, Try.f108.results.toList, Try.f108.resultTypes.toList, []⟩
noncomputable def i_Field_inverse_out (_p0 : (Int × (Int × Unit))) (_p1 : Int) : Int → CallOut := fun r => ⟨(.imm true (.int .i64) r), [], []⟩
set_option maxRecDepth 100000 in
theorem i_Field_inverse_eq : ∀ (p0 : (Int × (Int × Unit))) (p1 : Int), denFn i_Field_inverse_V i_Field_inverse_I ⟨[(.imm true kField p0), (.imm true (.int .i64) p1)], []⟩ = (i_Field_inverse p0 p1).run fun r => some (i_Field_inverse_out p0 p1 r) := fun _ _ => by kernel_rfl
noncomputable def i_Field_inverse_G (av : List AV) (rs : List Root) : Tre CallOut :=
 asCons av fun a0_ av0 =>
 asCons av0 fun a1_ av1 =>
 asEnd av1 <|
 asEnd rs <|
 asImmZ true kField a0_ fun d1 =>
 asImmZ true (.int .i64) a1_ fun d2 =>
 .mat (i_Field_inverse_F d1 d2) fun r => .ret (i_Field_inverse_out d1 d2 r)
noncomputable def i_Field_inverse_c : Ctr := ⟨[], fun ci => i_Field_inverse_G ci.args ci.roots, false⟩
theorem i_Field_inverse_env : EnvOK Try.prog .none i_Field_inverse_V := (envOK_cons i_Field_count_ok ent105 (envOK_cons i_Field_power_ok ent141 envOK_nil))
set_option maxRecDepth 100000 in
theorem i_Field_inverse_ok : Contract Try.prog .none 108 i_Field_inverse_c := by
 have hl : LoopsOK i_Field_inverse_V [] i_Field_inverse_b := loopsOK_nil (by kernel_rfl)
 refine (contract_of (F := i_Field_inverse_I) tau_tys i_Field_inverse_env Try.func108 (by kernel_rfl) (by kernel_rfl) (by kernel_rfl) hl []).weaken ?_
 rintro ⟨av, rs⟩ co h
 have h : (i_Field_inverse_G av rs).run some = some co := h
 obtain ⟨a0_, av0, rfl, h_0⟩ := asCons_spec h
 obtain ⟨a1_, av1, rfl, h_1⟩ := asCons_spec h_0
 obtain ⟨rfl, h_2⟩ := asEnd_spec h_1
 obtain ⟨rfl, h_3⟩ := asEnd_spec h_2
 obtain ⟨d1, rfl, h_4⟩ := asImmZ_spec h_3
 obtain ⟨d2, rfl, h_5⟩ := asImmZ_spec h_4
 exact fin_mat (i_Field_inverse_eq d1 d2) h_5
end Go.Proofs.Ytkgekgfmnhccmaa

namespace Go.Proofs.Ytkgekgfmnhccmaa
open Go Go.Abs Go.Proofs
noncomputable def i_Field_reduce_l3 (h3_0_2 : (List (List Int))) (h3_0_3 : Int) : (Int × (List (List Int))) → Tre ((Int × (List (List Int))) ⊕ (List (List Int))) := fun s3 =>
 .cond (decide (s3.1 < h3_0_3))
  (.ite (0 ≤ s3.1 ∧ s3.1 < (h3_0_2.length : Int)) <|
  .mat (h3_0_2[s3.1.toNat]?) fun x1 =>
  .mat (cloneR x1) fun r2 =>
  .ite ((s3.2.length + 1) * 24 ≤ appendMax ∧ 1 ≤ 24) <|
  .ret (.inl (iwrap .i64 (s3.1 + 1), s3.2 ++ ([r2]))))
  (.ret (.inr s3.2))
noncomputable def i_Field_reduce_l15 (h15_0_1 : Nat) (h15_0_2 : Int) (h15_0_5 : Int) (h15_0_7 : (Int × (Int × Unit))) : (Int × (List (List Int))) → Tre ((Int × (List (List Int))) ⊕ (List (List Int))) := fun s15 =>
 .cond (decide (s15.1 < h15_0_5))
  (.mat (s15.2[h15_0_1]?) fun x15 =>
  .ite (0 ≤ s15.1 ∧ s15.1 < (x15.length : Int)) <|
  .mat (s15.2[h15_0_1]?) fun x16 =>
  .mat (x16[s15.1.toNat]?) fun x17 =>
  .mat (i_Field_mul_F h15_0_7 x17 h15_0_2) fun r18 =>
  .mat (s15.2[h15_0_1]?) fun x19 =>
  .ite (0 ≤ s15.1 ∧ s15.1 < (x19.length : Int)) <|
  .mat (s15.2[h15_0_1]?) fun x20 =>
  .mat (x20[s15.1.toNat]?) fun _ =>
  let v22 := x20.set s15.1.toNat r18
  .ret (.inl (iwrap .i64 (s15.1 + 1), s15.2.set h15_0_1 v22)))
  (.ret (.inr s15.2))
noncomputable def i_Field_reduce_l25 (h25_0_1 : Nat) (h25_0_2 : Nat) (h25_0_3 : Int) (h25_0_8 : Int) (h25_0_10 : (Int × (Int × Unit))) : (Int × (List (List Int))) → Tre ((Int × (List (List Int))) ⊕ (List (List Int))) := fun s25 =>
 .cond (decide (s25.1 < h25_0_8))
  (.mat (s25.2[h25_0_2]?) fun x29 =>
  .ite (0 ≤ s25.1 ∧ s25.1 < (x29.length : Int)) <|
  .mat (s25.2[h25_0_2]?) fun x30 =>
  .mat (x30[s25.1.toNat]?) fun x31 =>
  .mat (s25.2[h25_0_1]?) fun x32 =>
  .ite (0 ≤ s25.1 ∧ s25.1 < (x32.length : Int)) <|
  .mat (s25.2[h25_0_1]?) fun x33 =>
  .mat (x33[s25.1.toNat]?) fun x34 =>
  .mat (i_Field_mul_F h25_0_10 h25_0_3 x34) fun r35 =>
  .mat (s25.2[h25_0_2]?) fun x36 =>
  .ite (0 ≤ s25.1 ∧ s25.1 < (x36.length : Int)) <|
  .mat (s25.2[h25_0_2]?) fun x37 =>
  .mat (x37[s25.1.toNat]?) fun _ =>
  let v39 := x37.set s25.1.toNat (ixor .i64 x31 r35)
  .ret (.inl (iwrap .i64 (s25.1 + 1), s25.2.set h25_0_2 v39)))
  (.ret (.inr s25.2))
noncomputable def i_Field_reduce_l20 (h20_0_0 : Int) (h20_0_1 : Nat) (h20_0_4 : Int) (h20_0_6 : (Int × (Int × Unit))) (h20_0_8 : Int) : (Int × (List (List Int))) → Tre ((Int × (List (List Int))) ⊕ (List (List Int))) := fun s20 =>
 .cond (decide (s20.1 < h20_0_4))
  (.ite (0 ≤ s20.1 ∧ s20.1 < (s20.2.length : Int)) <|
  .mat (s20.2[s20.1.toNat]?) fun _ =>
  .mat (s20.2[s20.1.toNat]?) fun x25 =>
  .ite (0 ≤ h20_0_8 ∧ h20_0_8 < (x25.length : Int)) <|
  .mat (s20.2[s20.1.toNat]?) fun x26 =>
  .mat (x26[h20_0_8.toNat]?) fun x27 =>
  .cond (!decide (s20.1 = h20_0_0))
   (.cond (!decide (x27 = 0))
    (.mat (s20.2[s20.1.toNat]?) fun x28 =>
    .mat (loopF (i_Field_reduce_l25 h20_0_1 s20.1.toNat x27 (x28.length : Int) h20_0_6) (0, s20.2)) fun l40 =>
    .ret (.inl (iwrap .i64 (s20.1 + 1), l40)))
    (.ret (.inl (iwrap .i64 (s20.1 + 1), s20.2))))
   (.ret (.inl (iwrap .i64 (s20.1 + 1), s20.2))))
  (.ret (.inr s20.2))
noncomputable def i_Field_reduce_l8 (h8_0_1 : Int) (h8_0_3 : (Int × (Int × Unit))) : (Int × Int × (List (List Int))) → Tre ((Int × Int × (List (List Int))) ⊕ (Int × (List (List Int)))) := fun s8 =>
 .cond (decide (s8.2.1 < h8_0_1))
  (.ite (0 ≤ s8.1 ∧ s8.1 ≤ (s8.2.2.length : Int) ∧ (s8.2.2.length : Int) ≤ (s8.2.2.length : Int)) <|
  .mat (nm1_F ((s8.2.2.drop s8.1.toNat).take (((s8.2.2.length : Int) - s8.1).toNat)) s8.2.1) fun r4 =>
  .cond (decide (r4 < 0))
   (.ret (.inl (s8.1, iwrap .i64 (s8.2.1 + 1), s8.2.2)))
   (.ite (0 ≤ iwrap .i64 (s8.1 + r4) ∧ iwrap .i64 (s8.1 + r4) < (s8.2.2.length : Int)) <|
   .mat (s8.2.2[(iwrap .i64 (s8.1 + r4)).toNat]?) fun _ =>
   .ite (0 ≤ s8.1 ∧ s8.1 < (s8.2.2.length : Int)) <|
   .mat (s8.2.2[s8.1.toNat]?) fun _ =>
   .ite (0 ≤ s8.1 ∧ s8.1 < (s8.2.2.length : Int)) <|
   .ite (0 ≤ iwrap .i64 (s8.1 + r4) ∧ iwrap .i64 (s8.1 + r4) < (s8.2.2.length : Int)) <|
   .ite (Int.ofNat s8.1.toNat = Int.ofNat s8.1.toNat ∧ Int.ofNat ((iwrap .i64 (s8.1 + r4)).toNat) = Int.ofNat ((iwrap .i64 (s8.1 + r4)).toNat)) <|
   let v7 := swapL ((iwrap .i64 (s8.1 + r4)).toNat) s8.1.toNat s8.2.2
   .ite (0 ≤ s8.1 ∧ s8.1 < (v7.length : Int)) <|
   .mat (v7[s8.1.toNat]?) fun _ =>
   .ite (0 ≤ s8.1 ∧ s8.1 < (v7.length : Int)) <|
   .mat (v7[s8.1.toNat]?) fun _ =>
   .mat (v7[s8.1.toNat]?) fun x10 =>
   .ite (0 ≤ s8.2.1 ∧ s8.2.1 < (x10.length : Int)) <|
   .mat (v7[s8.1.toNat]?) fun x11 =>
   .mat (x11[s8.2.1.toNat]?) fun x12 =>
   .mat (i_Field_inverse_F h8_0_3 x12) fun r13 =>
   .mat (v7[s8.1.toNat]?) fun x14 =>
   .mat (loopF (i_Field_reduce_l15 s8.1.toNat r13 (x14.length : Int) h8_0_3) (0, v7)) fun l23 =>
   .mat (loopF (i_Field_reduce_l20 s8.1 s8.1.toNat (l23.length : Int) h8_0_3 s8.2.1) (0, l23)) fun l41 =>
   .ret (.inl (iwrap .i64 (s8.1 + 1), iwrap .i64 (s8.2.1 + 1), l41))))
  (.ret (.inr (s8.1, s8.2.2)))
noncomputable def i_Field_reduce (p0 : (Int × (Int × Unit))) (p1 : Int) (p2 : (List (List Int))) : Tre (List (List Int)) :=
 .mat (loopF (i_Field_reduce_l3 p2 (p2.length : Int)) (0, [])) fun l3 =>
 .mat (loopF (i_Field_reduce_l8 p1 p0) (0, 0, l3)) fun l42 =>
 .ite (0 ≤ (0 : Int) ∧ (0 : Int) ≤ l42.1 ∧ l42.1 ≤ (l42.2.length : Int)) <|
 .ret ((l42.2.drop 0).take ((l42.1 - 0).toNat))
noncomputable def i_Field_reduce_F (p0 : (Int × (Int × Unit))) (p1 : Int) (p2 : (List (List Int))) : Option (List (List Int)) := (i_Field_reduce p0 p1 p2).run some
-- more
theorem foldE_setm {α β γ : Type} (g : α → γ) (fin : List γ → β) : ∀ (l : List α) (i : Nat) (acc : List γ), acc.length = i + l.length → foldE (fun i acc x => (.inl (acc.set i (g x)) : List γ ⊕ β)) fin i acc l = fin (acc.take i ++ l.map g) := by
 intro l
 induction l with
 | nil => intro i acc h; simp only [foldE, List.map_nil, List.append_nil]; rw [List.take_of_length_le (by simp at h; omega)]
 | cons x l ih =>
  intro i acc h
  simp only [List.length_cons] at h
  simp only [foldE]
  rw [ih (i + 1) _ (by simp; omega), List.take_add_one]
  simp [show i < acc.length by omega, List.take_set_of_le (Nat.le_refl i)]
theorem red_scale {f : TF3} (hf : fieldOk f = true) {L : List (List Int)} {k : Nat} {row : List Int} (hk : L[k]? = some row) (hn : row.length ≤ 1000000) (hr : ∀ y ∈ row, inF f y) {x : Int} (hx : inF f x) :
  loopF (i_Field_reduce_l15 k x (row.length : Int) f) (0, L) = some (L.set k (row.map fun y => mulI f y x)) := by
 have hkl := (List.getElem?_eq_some_iff.1 hk).1
 have key := fold_loop (xs := row) (step := i_Field_reduce_l15 k x (row.length : Int) f) (fun (i : Nat) (acc : List Int) => ((i : Int), L.set k acc)) (fun i acc y => .inl (acc.set i (mulI f y x))) (fun acc => L.set k acc) (fun i acc => acc.length = row.length ∧ acc.drop i = row.drop i) (by
  intro i acc y hy hi
  have hlt := (List.getElem?_eq_some_iff.1 hy).1
  have hg : (L.set k acc)[k]? = some acc := by rw [List.getElem?_set_self hkl]
  have hai : acc[i]? = some y := by
   have := congrArg (·[0]?) hi.2
   simpa [hy] using this
  refine ⟨?_, fun a ha => ?_⟩
  ·unfold i_Field_reduce_l15
   dsimp only
   rw [Tre.run_cond, decide_eq_true (by omega), cond_true, run_some_mat hg, Tre.run_ite, if_pos (by omega), run_some_mat hg, Int.toNat_natCast, run_some_mat hai, run_some_mat (imul_is hf (hr _ (List.mem_of_getElem? hy)) hx), run_some_mat hg, Tre.run_ite, if_pos (by omega), run_some_mat hg, run_some_mat hai, Tre.run_ret, iwrap_succ (by omega), List.set_set]
  ·cases ha
   refine ⟨by simp [hi.1], ?_⟩
   rw [List.drop_set_of_lt (by omega), ← List.drop_drop, ← List.drop_drop, hi.2]) (by
  intro acc _
  unfold i_Field_reduce_l15
  dsimp only
  rw [Tre.run_cond, decide_eq_false (by omega), cond_false]
  rfl) row 0 row rfl (Nat.zero_le _) ⟨rfl, rfl⟩
 rw [foldE_setm _ _ _ _ _ (by simp)] at key
 have h0 : L.set k row = L := by
  apply List.ext_getElem?
  intro j
  rw [List.getElem?_set]
  split
  ·rename_i h; subst h; exact hk.symm
  ·rfl
 rw [h0] at key
 simpa using key
theorem red_clear {f : TF3} (hf : fieldOk f = true) {L : List (List Int)} {k i2 : Nat} (hne : k ≠ i2) {own r : List Int} (hk : L[k]? = some own) (h2 : L[i2]? = some r) (hl : r.length = own.length) (hn : r.length ≤ 1000000) (hr : ∀ y ∈ own, inF f y) {x : Int} (hx : inF f x) :
  loopF (i_Field_reduce_l25 k i2 x (r.length : Int) f) (0, L) = some (L.set i2 ((r.zip own).map fun p => ixor .i64 p.1 (mulI f x p.2))) := by
 have hkl := (List.getElem?_eq_some_iff.1 h2).1
 have key := fold_loop (xs := r.zip own) (step := i_Field_reduce_l25 k i2 x (r.length : Int) f) (fun (i : Nat) (acc : List Int) => ((i : Int), L.set i2 acc)) (fun i acc p => .inl (acc.set i (ixor .i64 p.1 (mulI f x p.2)))) (fun acc => L.set i2 acc) (fun i acc => acc.length = r.length ∧ acc.drop i = r.drop i) (by
  intro i acc p hp hi
  have hlt := (List.getElem?_eq_some_iff.1 hp).1
  rw [List.length_zip] at hlt
  obtain ⟨p1, p2⟩ := p
  rw [List.getElem?_zip_eq_some] at hp
  obtain ⟨hp1, hp2⟩ := hp
  have hg : (L.set i2 acc)[i2]? = some acc := by rw [List.getElem?_set_self hkl]
  have hgk : (L.set i2 acc)[k]? = some own := by rw [List.getElem?_set_ne (Ne.symm hne)]; exact hk
  have hai : acc[i]? = some p1 := by
   have := congrArg (·[0]?) hi.2
   simpa [hp1] using this
  refine ⟨?_, fun a ha => ?_⟩
  ·unfold i_Field_reduce_l25
   dsimp only
   rw [Tre.run_cond, decide_eq_true (by omega), cond_true, run_some_mat hg, Tre.run_ite, if_pos (by omega), run_some_mat hg, Int.toNat_natCast, run_some_mat hai, run_some_mat hgk, Tre.run_ite, if_pos (by omega), run_some_mat hgk, run_some_mat hp2, run_some_mat (imul_is hf hx (hr _ (List.mem_of_getElem? hp2))), run_some_mat hg, Tre.run_ite, if_pos (by omega), run_some_mat hg, run_some_mat hai, Tre.run_ret, iwrap_succ (by omega), List.set_set]
  ·cases ha
   refine ⟨by simp [hi.1], ?_⟩
   rw [List.drop_set_of_lt (by omega), ← List.drop_drop, ← List.drop_drop, hi.2]) (by
  intro acc _
  unfold i_Field_reduce_l25
  dsimp only
  rw [Tre.run_cond, decide_eq_false (by rw [List.length_zip]; omega), cond_false]
  rfl) (r.zip own) 0 r rfl (Nat.zero_le _) ⟨rfl, rfl⟩
 rw [foldE_setm _ _ _ _ _ (by simp [hl])] at key
 have h0 : L.set i2 r = L := by
  apply List.ext_getElem?
  intro j
  rw [List.getElem?_set]
  split
  ·rename_i h; subst h; simp [hkl, ← h2]
  ·rfl
 rw [h0] at key
 simpa using key
theorem red_all {f : TF3} (hf : fieldOk f = true) {L : List (List Int)} {k c : Nat} {own : List Int} (hk : L[k]? = some own) (hL : L.length ≤ 1000000) (hn : own.length ≤ 1000000) (hc : c < own.length) (hl : ∀ r ∈ L, r.length = own.length ∧ ∀ y ∈ r, inF f y) :
  loopF (i_Field_reduce_l20 (k : Int) k (L.length : Int) f (c : Int)) (0, L) = some (L.mapIdx (clearV f c k own)) := by
 have hown := hl own (List.mem_of_getElem? hk)
 have key := fold_loop (xs := L) (step := i_Field_reduce_l20 (k : Int) k (L.length : Int) f (c : Int)) (fun (i : Nat) (acc : List (List Int)) => ((i : Int), acc)) (fun i acc r => .inl (acc.set i (clearV f c k own i r))) id (fun i acc => acc.length = L.length ∧ acc.drop i = L.drop i ∧ acc[k]? = some own) (by
  intro i acc r hr hi
  have hlt := (List.getElem?_eq_some_iff.1 hr).1
  obtain ⟨hr1, hr2⟩ := hl r (List.mem_of_getElem? hr)
  have hai : acc[i]? = some r := by
   have := congrArg (·[0]?) hi.2.1
   simpa [hr] using this
  obtain ⟨x, hx⟩ : ∃ x, r[c]? = some x := ⟨_, List.getElem?_eq_getElem (by omega)⟩
  have hset : acc.set i r = acc := by
   apply List.ext_getElem?
   intro j
   rw [List.getElem?_set]
   split
   ·rename_i h; subst h; simp [show i < acc.length by omega, ← hai]
   ·rfl
  refine ⟨?_, fun a ha => ?_⟩
  ·unfold i_Field_reduce_l20
   dsimp only
   rw [Tre.run_cond, decide_eq_true (by omega), cond_true, Tre.run_ite, if_pos (by omega), Int.toNat_natCast, run_some_mat hai, run_some_mat hai, Tre.run_ite, if_pos (by omega), run_some_mat hai, Int.toNat_natCast, run_some_mat hx, Tre.run_cond]
   by_cases h1 : i = k
   ·rw [decide_eq_true (show (i : Int) = (k : Int) by omega), Bool.not_true, cond_false, Tre.run_ret, iwrap_succ (by omega)]
    simp only [clearV, hx, h1, decide_true, Bool.true_or, cond_true]
    rw [← h1, hset]
   ·rw [decide_eq_false (show ¬ (i : Int) = (k : Int) by omega), Bool.not_false, cond_true, Tre.run_cond]
    by_cases h2 : x = 0
    ·rw [decide_eq_true h2, Bool.not_true, cond_false, Tre.run_ret, iwrap_succ (by omega)]
     simp only [clearV, hx, h2, decide_true, Bool.or_true, cond_true]
     rw [hset]
    ·rw [decide_eq_false h2, Bool.not_false, cond_true, run_some_mat hai, run_some_mat (red_clear hf (fun h => h1 h.symm) hi.2.2 hai hr1 (by omega) hown.2 (hr2 _ (List.mem_of_getElem? hx))), Tre.run_ret, iwrap_succ (by omega)]
     simp only [clearV, hx, h1, h2, decide_false, Bool.or_self, cond_false]
  ·cases ha
   refine ⟨by simp [hi.1], ?_, ?_⟩
   ·rw [List.drop_set_of_lt (by omega), ← List.drop_drop, ← List.drop_drop, hi.2.1]
   ·by_cases h1 : i = k
    ·subst h1
     rw [List.getElem?_set_self (by omega)]
     rw [hr] at hk; cases hk
     simp only [clearV, hx, decide_true, Bool.true_or, cond_true]
    ·rw [List.getElem?_set_ne h1]; exact hi.2.2) (by
  intro acc _
  unfold i_Field_reduce_l20
  dsimp only
  rw [Tre.run_cond, decide_eq_false (by omega), cond_false]
  rfl) L 0 L rfl (Nat.zero_le _) ⟨rfl, rfl, hk⟩
 rw [foldE_seti _ _ _ _ _ (by simp)] at key
 simpa using key
theorem red_copy {rows : List (List Int)} (hl : rows.length ≤ 1000000) (hr : ∀ r ∈ rows, r.length ≤ 1000000) : loopF (i_Field_reduce_l3 rows (rows.length : Int)) (0, []) = some rows := by
 have key := fold_loop (xs := rows) (step := i_Field_reduce_l3 rows (rows.length : Int)) (fun (i : Nat) (acc : List (List Int)) => ((i : Int), acc)) (fun _ acc r => .inl (acc ++ [id r])) id (fun i acc => acc.length = i) (by
  intro i acc r h hi
  have hlt := (List.getElem?_eq_some_iff.1 h).1
  refine ⟨?_, fun a ha => ?_⟩
  ·unfold i_Field_reduce_l3
   dsimp only
   rw [Tre.run_cond, decide_eq_true (by omega), cond_true, Tre.run_ite, if_pos (by omega), Int.toNat_natCast, run_some_mat h, run_some_mat (show cloneR r = some r from lim_of (by have := hr r (List.mem_of_getElem? h); omega)), Tre.run_ite, if_pos (by unfold appendMax; omega), Tre.run_ret, iwrap_succ (by omega)]
   rfl
  ·cases ha; simp [hi]) (by
  intro acc _
  unfold i_Field_reduce_l3
  dsimp only
  rw [Tre.run_cond, decide_eq_false (by omega), cond_false]
  rfl) rows 0 [] rfl (Nat.zero_le _) rfl
 rw [foldE_app, List.map_id] at key
 exact key
theorem red_step {f : TF3} (hf : fieldOk f = true) {n c : Nat} (hc : c < n) (hn : n ≤ 1000000) (s : Nat × List (List Int)) (h : GR f n s.2) (hL : s.2.length ≤ 1000000) (ha : s.1 ≤ s.2.length) :
  (i_Field_reduce_l8 (n : Int) f ((s.1 : Int), (c : Int), s.2)).run some = some (.inl (((echStep f c s).1 : Int), ((c + 1 : Nat) : Int), (echStep f c s).2)) := by
 obtain ⟨a, L⟩ := s
 dsimp only at h hL ha
 unfold i_Field_reduce_l8
 dsimp only
 have htk : (L.drop a).take (((L.length : Int) - (a : Int)).toNat) = L.drop a := List.take_of_length_le (by rw [List.length_drop]; omega)
 rw [Tre.run_cond, decide_eq_true (by omega), cond_true, Tre.run_ite, if_pos (by omega), Int.toNat_natCast, htk, run_some_mat (ridx_is (fun r hr => by rw [(h r (List.mem_of_mem_drop hr)).1]; exact hc) (by rw [List.length_drop]; omega)), Tre.run_cond]
 unfold echStep
 dsimp only
 rcases idxI_cases (nzAt c) (L.drop a) 0 with ⟨h1, _⟩ | ⟨k, row, h1, h2, h3⟩
 ·have h4 := idxI_add (nzAt c) (L.drop a) a 0
  rw [h1, if_pos (by decide)] at h4
  simp only [Nat.add_zero] at h4
  rw [h1, h4]
  simp only [show decide ((-1 : Int) < 0) = true from rfl, cond_true]
  rw [Tre.run_ret, iwrap_succ (by omega)]
 ·have h4 := idxI_add (nzAt c) (L.drop a) a 0
  rw [h3, if_neg (by omega)] at h4
  simp only [Nat.add_zero, Nat.zero_add] at h4
  have h4 : idxI (nzAt c) a (L.drop a) = ((a + k : Nat) : Int) := by rw [h4]; omega
  have hak : L[a + k]? = some row := by rw [← h1, List.getElem?_drop]
  have hlt := (List.getElem?_eq_some_iff.1 hak).1
  obtain ⟨r0, hr0⟩ : ∃ r0, L[a]? = some r0 := ⟨_, List.getElem?_eq_getElem (by omega)⟩
  obtain ⟨hrl, hrf⟩ := GR_at h hak
  obtain ⟨x, hx, hx0⟩ := nzAt_of h2
  have hxf := hrf x (List.mem_of_getElem? hx)
  have hsw : swapL (a + k) a L = (L.set (a + k) r0).set a row := by unfold swapL; rw [hak, hr0]
  have hva : ((L.set (a + k) r0).set a row)[a]? = some row := List.getElem?_set_self (by simp; omega)
  rw [h3, h4]
  simp only [Nat.zero_add]
  have hw : iwrap .i64 ((a : Int) + (k : Int)) = ((a + k : Nat) : Int) := by rw [iwrap_i64 (by omega) (by omega)]; omega
  rw [hw, Int.toNat_natCast, hsw, decide_eq_false (by omega), decide_eq_false (by omega), cond_false, cond_false]
  rw [Tre.run_ite, if_pos (by omega), run_some_mat hak, Tre.run_ite, if_pos (by omega), run_some_mat hr0, Tre.run_ite, if_pos (by omega), Tre.run_ite, if_pos (by omega), Tre.run_ite, if_pos (by simp)]
  simp only [List.length_set]
  rw [Tre.run_ite, if_pos (by omega), run_some_mat hva, Tre.run_ite, if_pos (by omega), run_some_mat hva, run_some_mat hva, Tre.run_ite, if_pos (by omega), run_some_mat hva, Int.toNat_natCast, run_some_mat hx, run_some_mat (iinv_is hf hxf), run_some_mat hva]
  rw [run_some_mat (red_scale hf hva (by omega) hrf (invI_facts hf hxf).1), List.set_set]
  have hp : pivL f c (a + k) a L = (L.set (a + k) r0).set a (row.map fun y => mulI f y (invI f x)) := by
   unfold pivL scaleV
   rw [hak, hr0]
   simp only [hx]
  have hpg := pivL_ok (c := c) (k := a + k) (a := a) hf h
  rw [hp] at hpg ⊢
  have hpa : ((L.set (a + k) r0).set a (row.map fun y => mulI f y (invI f x)))[a]? = some (row.map fun y => mulI f y (invI f x)) := List.getElem?_set_self (by simp; omega)
  generalize hG : (L.set (a + k) r0).set a (row.map fun y => mulI f y (invI f x)) = G at hpg hpa
  have hown := GR_at hpg.1 hpa
  have hcl : loopF (i_Field_reduce_l20 (a : Int) a (G.length : Int) f (c : Int)) (0, G) = some (G.mapIdx (clearV f c a (row.map fun y => mulI f y (invI f x)))) :=
   red_all hf hpa (by omega) (by omega) (by omega) (fun r hr => by rw [hown.1]; exact hpg.1 r hr)
  rw [run_some_mat hcl, Tre.run_ret, iwrap_succ (by omega), iwrap_succ (by omega)]
  unfold clearL
  rw [hpa]
theorem red_loop {f : TF3} (hf : fieldOk f = true) {n : Nat} (hn : n ≤ 1000000) : ∀ (m c : Nat) (s : Nat × List (List Int)), c + m = n → GR f n s.2 → s.2.length ≤ 1000000 → s.1 ≤ s.2.length → loopF (i_Field_reduce_l8 (n : Int) f) ((s.1 : Int), (c : Int), s.2) = some (((echFrom f c m s).1 : Int), (echFrom f c m s).2) := by
 intro m
 induction m with
 | zero =>
  intro c s hc h hL ha
  have hc : c = n := hc
  subst hc
  refine loopF_done ?_
  unfold i_Field_reduce_l8
  exact run_out
 | succ m ih =>
  intro c s hc h hL ha
  rw [loopF_step (red_step hf (by omega) hn s h hL ha)]
  have h1 := echStep_ok (c := c) hf h ha
  exact ih (c + 1) _ (by omega) h1.1 (by omega) (by omega)
theorem ired_is {f : TF3} (hf : fieldOk f = true) {n : Nat} (hn : n ≤ 1000000) {L : List (List Int)} (h : GR f n L) (hL : L.length ≤ 1000000) : i_Field_reduce_F f (n : Int) L = some (echV f n L) := by
 have hl := red_loop hf hn n 0 (0, L) (by omega) h hL (Nat.zero_le _)
 have hk := echFrom_ok hf n 0 (0, L) h (Nat.zero_le _)
 have hl : loopF (i_Field_reduce_l8 (n : Int) f) (0, 0, L) = _ := hl
 unfold i_Field_reduce_F i_Field_reduce
 rw [run_some_mat (red_copy hL (fun r hr => by rw [(h r hr).1]; exact hn)), run_some_mat hl, Tre.run_ite, if_pos (by have := hk.2.1; have := hk.2.2; dsimp only at *; omega), Tre.run_ret]
 unfold echV
 simp
noncomputable def i_Field_reduce_V : Env := ⟨tau, [(57, slices_Clone_int64_c), (106, nm1_c), (108, i_Field_inverse_c), (109, i_Field_mul_c)], []⟩
noncomputable def i_Field_reduce_b : Code := (Try.f58.body).getD .skip
noncomputable def i_Field_reduce_l3_mk (z3_0 : Bool) (h3_0_0 : Int) (h3_0_1 : Int) (h3_0_2 : (List (List Int))) (h3_0_3 : Int) (h3_0_5 : (Int × (Int × Unit))) : (Int × (List (List Int))) → St := fun x => stOf [(1, (.imm true (.int .i64) h3_0_0)), (3, (.ptr (5, 0) [])), (7, (.ref (9, 0) [])), (8, (.imm true (.int .i64) h3_0_1)), (21, (.imm z3_0 (.sl (.sl (.int .i64))) h3_0_2)), (22, (.imm true (.int .i64) h3_0_3)), (23, (.imm true (.int .i64) x.1))] [((5, 0), some ⟨true, kField, .own, h3_0_5⟩), ((9, 0), some ⟨false, (.sl (.sl (.int .i64))), .own, x.2⟩)]
noncomputable def i_Field_reduce_l3_out (_z3_0 : Bool) (h3_0_0 : Int) (h3_0_1 : Int) (_h3_0_2 : (List (List Int))) (_h3_0_3 : Int) (h3_0_5 : (Int × (Int × Unit))) : (List (List Int)) → Ex × St := fun x => (.exit 0, stOf [(1, (.imm true (.int .i64) h3_0_0)), (3, (.ptr (5, 0) [])), (7, (.ref (9, 0) [])), (8, (.imm true (.int .i64) h3_0_1))] [((5, 0), some ⟨true, kField, .own, h3_0_5⟩), ((9, 0), some ⟨false, (.sl (.sl (.int .i64))), .own, x⟩)])
noncomputable def i_Field_reduce_l3_D (s : St) : Tre (Ex × St) :=
 asImmZ true (.int .i64) (s.tmps 1) fun d2 =>
 asPtr (5, 0) [] (s.tmps 3) <|
 asRef (9, 0) [] (s.tmps 7) <|
 asImmZ true (.int .i64) (s.tmps 8) fun d6 =>
 asImm (.sl (.sl (.int .i64))) (s.tmps 21) fun z9 d8 =>
 asImmZ true (.int .i64) (s.tmps 22) fun d11 =>
 asImmZ true (.int .i64) (s.tmps 23) fun d13 =>
 asRoot true kField (s.roots (5, 0)) fun m15 d16 =>
 asM .own m15 <|
 asRoot false (.sl (.sl (.int .i64))) (s.roots (9, 0)) fun m18 d19 =>
 asM .own m18 <|
 .mat (loopF (i_Field_reduce_l3 d8 d11) (d13, d19)) fun x => .ret (i_Field_reduce_l3_out z9 d2 d6 d8 d11 d16 x)
noncomputable def i_Field_reduce_l3_L : LoopI := ⟨([1, 3, 7, 8, 21, 22, 23], [(5, 0), (9, 0)]), ([1, 3, 7, 8], [(5, 0), (9, 0)]), i_Field_reduce_l3_D⟩
noncomputable def i_Field_reduce_l15_mk (h15_0_0 : Int) (h15_0_1 : Nat) (h15_0_2 : Int) (h15_0_3 : Int) (h15_0_4 : Int) (h15_0_5 : Int) (h15_0_7 : (Int × (Int × Unit))) (h15_0_9 : Int) : (Int × (List (List Int))) → St := fun x => stOf [(3, (.ptr (5, 0) [])), (7, (.ref (9, 0) [])), (8, (.imm true (.int .i64) h15_0_0)), (11, (.ptr (13, 0) [])), (13, (.ref (9, 0) [.idx h15_0_1])), (14, (.imm true (.int .i64) h15_0_2)), (33, (.imm true (.int .i64) h15_0_3)), (34, (.imm true (.int .i64) h15_0_4)), (76, (.imm true (.int .i64) h15_0_5)), (77, (.imm true (.int .i64) x.1))] [((5, 0), some ⟨true, kField, .own, h15_0_7⟩), ((9, 0), some ⟨false, (.sl (.sl (.int .i64))), .own, x.2⟩), ((13, 0), some ⟨true, (.int .i64), .own, h15_0_9⟩)]
noncomputable def i_Field_reduce_l15_out (h15_0_0 : Int) (h15_0_1 : Nat) (_h15_0_2 : Int) (h15_0_3 : Int) (h15_0_4 : Int) (_h15_0_5 : Int) (h15_0_7 : (Int × (Int × Unit))) (h15_0_9 : Int) : (List (List Int)) → Ex × St := fun x => (.exit 4, stOf [(3, (.ptr (5, 0) [])), (7, (.ref (9, 0) [])), (8, (.imm true (.int .i64) h15_0_0)), (11, (.ptr (13, 0) [])), (13, (.ref (9, 0) [.idx h15_0_1])), (33, (.imm true (.int .i64) h15_0_3)), (34, (.imm true (.int .i64) h15_0_4))] [((5, 0), some ⟨true, kField, .own, h15_0_7⟩), ((9, 0), some ⟨false, (.sl (.sl (.int .i64))), .own, x⟩), ((13, 0), some ⟨true, (.int .i64), .own, h15_0_9⟩)])
noncomputable def i_Field_reduce_l15_D (s : St) : Tre (Ex × St) :=
 asPtr (5, 0) [] (s.tmps 3) <|
 asRef (9, 0) [] (s.tmps 7) <|
 asImmZ true (.int .i64) (s.tmps 8) fun d4 =>
 asPtr (13, 0) [] (s.tmps 11) <|
 asRef1 (9, 0) [.idx 0] (s.tmps 13) fun i7 =>
 asImmZ true (.int .i64) (s.tmps 14) fun d9 =>
 asImmZ true (.int .i64) (s.tmps 33) fun d11 =>
 asImmZ true (.int .i64) (s.tmps 34) fun d13 =>
 asImmZ true (.int .i64) (s.tmps 76) fun d15 =>
 asImmZ true (.int .i64) (s.tmps 77) fun d17 =>
 asRoot true kField (s.roots (5, 0)) fun m19 d20 =>
 asM .own m19 <|
 asRoot false (.sl (.sl (.int .i64))) (s.roots (9, 0)) fun m22 d23 =>
 asM .own m22 <|
 asRoot true (.int .i64) (s.roots (13, 0)) fun m25 d26 =>
 asM .own m25 <|
 .mat (loopF (i_Field_reduce_l15 i7 d9 d15 d20) (d17, d23)) fun x => .ret (i_Field_reduce_l15_out d4 i7 d9 d11 d13 d15 d20 d26 x)
noncomputable def i_Field_reduce_l15_L : LoopI := ⟨([3, 7, 8, 11, 13, 14, 33, 34, 76, 77], [(5, 0), (9, 0), (13, 0)]), ([3, 7, 8, 11, 13, 33, 34], [(5, 0), (9, 0), (13, 0)]), i_Field_reduce_l15_D⟩
noncomputable def i_Field_reduce_l25_mk (h25_0_0 : Int) (h25_0_1 : Nat) (h25_0_2 : Nat) (h25_0_3 : Int) (h25_0_4 : Int) (h25_0_5 : Int) (h25_0_6 : Int) (h25_0_7 : Int) (h25_0_8 : Int) (h25_0_10 : (Int × (Int × Unit))) (h25_0_12 : Int) : (Int × (List (List Int))) → St := fun x => stOf [(3, (.ptr (5, 0) [])), (7, (.ref (9, 0) [])), (8, (.imm true (.int .i64) h25_0_0)), (11, (.ptr (13, 0) [])), (13, (.ref (9, 0) [.idx h25_0_1])), (17, (.ref (9, 0) [.idx h25_0_2])), (18, (.imm true (.int .i64) h25_0_3)), (33, (.imm true (.int .i64) h25_0_4)), (34, (.imm true (.int .i64) h25_0_5)), (91, (.ref (9, 0) [])), (92, (.imm true (.int .i64) h25_0_6)), (93, (.imm true (.int .i64) h25_0_7)), (110, (.imm true (.int .i64) h25_0_8)), (111, (.imm true (.int .i64) x.1))] [((5, 0), some ⟨true, kField, .own, h25_0_10⟩), ((9, 0), some ⟨false, (.sl (.sl (.int .i64))), .own, x.2⟩), ((13, 0), some ⟨true, (.int .i64), .own, h25_0_12⟩)]
noncomputable def i_Field_reduce_l25_out (h25_0_0 : Int) (h25_0_1 : Nat) (_h25_0_2 : Nat) (_h25_0_3 : Int) (h25_0_4 : Int) (h25_0_5 : Int) (h25_0_6 : Int) (h25_0_7 : Int) (_h25_0_8 : Int) (h25_0_10 : (Int × (Int × Unit))) (h25_0_12 : Int) : (List (List Int)) → Ex × St := fun x => (.exit 8, stOf [(3, (.ptr (5, 0) [])), (7, (.ref (9, 0) [])), (8, (.imm true (.int .i64) h25_0_0)), (11, (.ptr (13, 0) [])), (13, (.ref (9, 0) [.idx h25_0_1])), (33, (.imm true (.int .i64) h25_0_4)), (34, (.imm true (.int .i64) h25_0_5)), (91, (.ref (9, 0) [])), (92, (.imm true (.int .i64) h25_0_6)), (93, (.imm true (.int .i64) h25_0_7))] [((5, 0), some ⟨true, kField, .own, h25_0_10⟩), ((9, 0), some ⟨false, (.sl (.sl (.int .i64))), .own, x⟩), ((13, 0), some ⟨true, (.int .i64), .own, h25_0_12⟩)])
noncomputable def i_Field_reduce_l25_D (s : St) : Tre (Ex × St) :=
 asPtr (5, 0) [] (s.tmps 3) <|
 asRef (9, 0) [] (s.tmps 7) <|
 asImmZ true (.int .i64) (s.tmps 8) fun d4 =>
 asPtr (13, 0) [] (s.tmps 11) <|
 asRef1 (9, 0) [.idx 0] (s.tmps 13) fun i7 =>
 asRef1 (9, 0) [.idx 0] (s.tmps 17) fun i9 =>
 asImmZ true (.int .i64) (s.tmps 18) fun d11 =>
 asImmZ true (.int .i64) (s.tmps 33) fun d13 =>
 asImmZ true (.int .i64) (s.tmps 34) fun d15 =>
 asRef (9, 0) [] (s.tmps 91) <|
 asImmZ true (.int .i64) (s.tmps 92) fun d18 =>
 asImmZ true (.int .i64) (s.tmps 93) fun d20 =>
 asImmZ true (.int .i64) (s.tmps 110) fun d22 =>
 asImmZ true (.int .i64) (s.tmps 111) fun d24 =>
 asRoot true kField (s.roots (5, 0)) fun m26 d27 =>
 asM .own m26 <|
 asRoot false (.sl (.sl (.int .i64))) (s.roots (9, 0)) fun m29 d30 =>
 asM .own m29 <|
 asRoot true (.int .i64) (s.roots (13, 0)) fun m32 d33 =>
 asM .own m32 <|
 .mat (loopF (i_Field_reduce_l25 i7 i9 d11 d22 d27) (d24, d30)) fun x => .ret (i_Field_reduce_l25_out d4 i7 i9 d11 d13 d15 d18 d20 d22 d27 d33 x)
noncomputable def i_Field_reduce_l25_L : LoopI := ⟨([3, 7, 8, 11, 13, 17, 18, 33, 34, 91, 92, 93, 110, 111], [(5, 0), (9, 0), (13, 0)]), ([3, 7, 8, 11, 13, 33, 34, 91, 92, 93], [(5, 0), (9, 0), (13, 0)]), i_Field_reduce_l25_D⟩
noncomputable def i_Field_reduce_l20_mk (h20_0_0 : Int) (h20_0_1 : Nat) (h20_0_2 : Int) (h20_0_3 : Int) (h20_0_4 : Int) (h20_0_6 : (Int × (Int × Unit))) (h20_0_8 : Int) : (Int × (List (List Int))) → St := fun x => stOf [(3, (.ptr (5, 0) [])), (7, (.ref (9, 0) [])), (8, (.imm true (.int .i64) h20_0_0)), (11, (.ptr (13, 0) [])), (13, (.ref (9, 0) [.idx h20_0_1])), (33, (.imm true (.int .i64) h20_0_2)), (34, (.imm true (.int .i64) h20_0_3)), (91, (.ref (9, 0) [])), (92, (.imm true (.int .i64) h20_0_4)), (93, (.imm true (.int .i64) x.1))] [((5, 0), some ⟨true, kField, .own, h20_0_6⟩), ((9, 0), some ⟨false, (.sl (.sl (.int .i64))), .own, x.2⟩), ((13, 0), some ⟨true, (.int .i64), .own, h20_0_8⟩)]
noncomputable def i_Field_reduce_l20_out (h20_0_0 : Int) (_h20_0_1 : Nat) (h20_0_2 : Int) (h20_0_3 : Int) (_h20_0_4 : Int) (h20_0_6 : (Int × (Int × Unit))) (_h20_0_8 : Int) : (List (List Int)) → Ex × St := fun x => (.exit 6, stOf [(3, (.ptr (5, 0) [])), (7, (.ref (9, 0) [])), (8, (.imm true (.int .i64) h20_0_0)), (33, (.imm true (.int .i64) h20_0_2)), (34, (.imm true (.int .i64) h20_0_3))] [((5, 0), some ⟨true, kField, .own, h20_0_6⟩), ((9, 0), some ⟨false, (.sl (.sl (.int .i64))), .own, x⟩)])
noncomputable def i_Field_reduce_l20_D (s : St) : Tre (Ex × St) :=
 asPtr (5, 0) [] (s.tmps 3) <|
 asRef (9, 0) [] (s.tmps 7) <|
 asImmZ true (.int .i64) (s.tmps 8) fun d4 =>
 asPtr (13, 0) [] (s.tmps 11) <|
 asRef1 (9, 0) [.idx 0] (s.tmps 13) fun i7 =>
 asImmZ true (.int .i64) (s.tmps 33) fun d9 =>
 asImmZ true (.int .i64) (s.tmps 34) fun d11 =>
 asRef (9, 0) [] (s.tmps 91) <|
 asImmZ true (.int .i64) (s.tmps 92) fun d14 =>
 asImmZ true (.int .i64) (s.tmps 93) fun d16 =>
 asRoot true kField (s.roots (5, 0)) fun m18 d19 =>
 asM .own m18 <|
 asRoot false (.sl (.sl (.int .i64))) (s.roots (9, 0)) fun m21 d22 =>
 asM .own m21 <|
 asRoot true (.int .i64) (s.roots (13, 0)) fun m24 d25 =>
 asM .own m24 <|
 .mat (loopF (i_Field_reduce_l20 d4 i7 d14 d19 d25) (d16, d22)) fun x => .ret (i_Field_reduce_l20_out d4 i7 d9 d11 d14 d19 d25 x)
noncomputable def i_Field_reduce_l20_L : LoopI := ⟨([3, 7, 8, 11, 13, 33, 34, 91, 92, 93], [(5, 0), (9, 0), (13, 0)]), ([3, 7, 8, 33, 34], [(5, 0), (9, 0)]), i_Field_reduce_l20_D⟩
noncomputable def i_Field_reduce_l8_mk (h8_0_1 : Int) (h8_0_3 : (Int × (Int × Unit))) : (Int × Int × (List (List Int))) → St := fun x => stOf [(3, (.ptr (5, 0) [])), (7, (.ref (9, 0) [])), (8, (.imm true (.int .i64) x.1)), (33, (.imm true (.int .i64) h8_0_1)), (34, (.imm true (.int .i64) x.2.1))] [((5, 0), some ⟨true, kField, .own, h8_0_3⟩), ((9, 0), some ⟨false, (.sl (.sl (.int .i64))), .own, x.2.2⟩)]
noncomputable def i_Field_reduce_l8_out (_h8_0_1 : Int) (_h8_0_3 : (Int × (Int × Unit))) : (Int × (List (List Int))) → Ex × St := fun x => (.exit 2, stOf [(7, (.ref (9, 0) [])), (8, (.imm true (.int .i64) x.1))] [((9, 0), some ⟨false, (.sl (.sl (.int .i64))), .own, x.2⟩)])
noncomputable def i_Field_reduce_l8_D (s : St) : Tre (Ex × St) :=
 asPtr (5, 0) [] (s.tmps 3) <|
 asRef (9, 0) [] (s.tmps 7) <|
 asImmZ true (.int .i64) (s.tmps 8) fun d4 =>
 asImmZ true (.int .i64) (s.tmps 33) fun d6 =>
 asImmZ true (.int .i64) (s.tmps 34) fun d8 =>
 asRoot true kField (s.roots (5, 0)) fun m10 d11 =>
 asM .own m10 <|
 asRoot false (.sl (.sl (.int .i64))) (s.roots (9, 0)) fun m13 d14 =>
 asM .own m13 <|
 .mat (loopF (i_Field_reduce_l8 d6 d11) (d4, d8, d14)) fun x => .ret (i_Field_reduce_l8_out d6 d11 x)
noncomputable def i_Field_reduce_l8_L : LoopI := ⟨([3, 7, 8, 33, 34], [(5, 0), (9, 0)]), ([7, 8], [(9, 0)]), i_Field_reduce_l8_D⟩
noncomputable def i_Field_reduce_A : List (Nat × LoopI) := [(3, i_Field_reduce_l3_L), (15, i_Field_reduce_l15_L), (25, i_Field_reduce_l25_L), (20, i_Field_reduce_l20_L), (8, i_Field_reduce_l8_L)]
set_option maxRecDepth 100000 in
theorem i_Field_reduce_l3_step : ∀ (z3_0 : Bool) (h3_0_0 : Int) (h3_0_1 : Int) (h3_0_2 : (List (List Int))) (h3_0_3 : Int) (h3_0_5 : (Int × (Int × Unit))) (x : (Int × (List (List Int)))) (c : St → Option (Ex × St)), den i_Field_reduce_V i_Field_reduce_A (loopAt i_Field_reduce_b 0) (i_Field_reduce_l3_mk z3_0 h3_0_0 h3_0_1 h3_0_2 h3_0_3 h3_0_5 x) (roundK i_Field_reduce_l3_L.kp i_Field_reduce_l3_L.kx c) = (i_Field_reduce_l3 h3_0_2 h3_0_3 x).run (roundR (i_Field_reduce_l3_mk z3_0 h3_0_0 h3_0_1 h3_0_2 h3_0_3 h3_0_5) (i_Field_reduce_l3_out z3_0 h3_0_0 h3_0_1 h3_0_2 h3_0_3 h3_0_5) c) := fun _ _ _ _ _ _ _ _ => by
 kernel_rfl
theorem i_Field_reduce_l3_ok : LoopOK i_Field_reduce_V i_Field_reduce_A (loopAt i_Field_reduce_b 0) i_Field_reduce_l3_L := loopOK_of fun s e s' h => by
 generalize hs : restrict i_Field_reduce_l3_L.kp s = s1 at h
 have h : (i_Field_reduce_l3_D s1).run some = some (e, s') := h
 obtain ⟨d2, e1, h_0⟩ := asImmZ_spec h
 obtain ⟨e3, h_1⟩ := asPtr_spec h_0
 obtain ⟨e4, h_2⟩ := asRef_spec h_1
 obtain ⟨d6, e5, h_3⟩ := asImmZ_spec h_2
 obtain ⟨z9, d8, e7, h_4⟩ := asImm_spec h_3
 obtain ⟨d11, e10, h_5⟩ := asImmZ_spec h_4
 obtain ⟨d13, e12, h_6⟩ := asImmZ_spec h_5
 obtain ⟨m15, d16, e14, h_7⟩ := asRoot_spec h_6
 obtain ⟨rfl, h_8⟩ := asM_spec h_7
 obtain ⟨m18, d19, e17, h_9⟩ := asRoot_spec h_8
 obtain ⟨rfl, h_10⟩ := asM_spec h_9
 obtain ⟨y, hy, hz⟩ := mat_ret h_10
 refine ⟨_, _, i_Field_reduce_l3_mk z9 d2 d6 d8 d11 d16, i_Field_reduce_l3_out z9 d2 d6 d8 d11 d16, i_Field_reduce_l3 d8 d11, (d13, d19), y, ?_, hy, ?_, i_Field_reduce_l3_step z9 d2 d6 d8 d11 d16⟩
 ·subst hs; exact restrict_eq (T := [(1, (.imm true (.int .i64) d2)), (3, (.ptr (5, 0) [])), (7, (.ref (9, 0) [])), (8, (.imm true (.int .i64) d6)), (21, (.imm z9 (.sl (.sl (.int .i64))) d8)), (22, (.imm true (.int .i64) d11)), (23, (.imm true (.int .i64) d13))]) (U := [((5, 0), some ⟨true, kField, .own, d16⟩), ((9, 0), some ⟨false, (.sl (.sl (.int .i64))), .own, d19⟩)]) rfl rfl ⟨e1, e3, e4, e5, e7, e10, e12, trivial⟩ ⟨e14, e17, trivial⟩
 ·exact Option.some.inj hz
set_option maxRecDepth 100000 in
theorem i_Field_reduce_l15_step : ∀ (h15_0_0 : Int) (h15_0_1 : Nat) (h15_0_2 : Int) (h15_0_3 : Int) (h15_0_4 : Int) (h15_0_5 : Int) (h15_0_7 : (Int × (Int × Unit))) (h15_0_9 : Int) (x : (Int × (List (List Int)))) (c : St → Option (Ex × St)), den i_Field_reduce_V i_Field_reduce_A (loopAt i_Field_reduce_b 2) (i_Field_reduce_l15_mk h15_0_0 h15_0_1 h15_0_2 h15_0_3 h15_0_4 h15_0_5 h15_0_7 h15_0_9 x) (roundK i_Field_reduce_l15_L.kp i_Field_reduce_l15_L.kx c) = (i_Field_reduce_l15 h15_0_1 h15_0_2 h15_0_5 h15_0_7 x).run (roundR (i_Field_reduce_l15_mk h15_0_0 h15_0_1 h15_0_2 h15_0_3 h15_0_4 h15_0_5 h15_0_7 h15_0_9) (i_Field_reduce_l15_out h15_0_0 h15_0_1 h15_0_2 h15_0_3 h15_0_4 h15_0_5 h15_0_7 h15_0_9) c) := fun _ _ _ _ _ _ _ _ _ _ => by
 kernel_rfl
theorem i_Field_reduce_l15_ok : LoopOK i_Field_reduce_V i_Field_reduce_A (loopAt i_Field_reduce_b 2) i_Field_reduce_l15_L := loopOK_of fun s e s' h => by
 generalize hs : restrict i_Field_reduce_l15_L.kp s = s1 at h
 have h : (i_Field_reduce_l15_D s1).run some = some (e, s') := h
 obtain ⟨e1, h_0⟩ := asPtr_spec h
 obtain ⟨e2, h_1⟩ := asRef_spec h_0
 obtain ⟨d4, e3, h_2⟩ := asImmZ_spec h_1
 obtain ⟨e5, h_3⟩ := asPtr_spec h_2
 obtain ⟨i7, e6, h_4⟩ := asRef1_spec h_3
 obtain ⟨d9, e8, h_5⟩ := asImmZ_spec h_4
 obtain ⟨d11, e10, h_6⟩ := asImmZ_spec h_5
 obtain ⟨d13, e12, h_7⟩ := asImmZ_spec h_6
 obtain ⟨d15, e14, h_8⟩ := asImmZ_spec h_7
 obtain ⟨d17, e16, h_9⟩ := asImmZ_spec h_8
 obtain ⟨m19, d20, e18, h_10⟩ := asRoot_spec h_9
 obtain ⟨rfl, h_11⟩ := asM_spec h_10
 obtain ⟨m22, d23, e21, h_12⟩ := asRoot_spec h_11
 obtain ⟨rfl, h_13⟩ := asM_spec h_12
 obtain ⟨m25, d26, e24, h_14⟩ := asRoot_spec h_13
 obtain ⟨rfl, h_15⟩ := asM_spec h_14
 obtain ⟨y, hy, hz⟩ := mat_ret h_15
 refine ⟨_, _, i_Field_reduce_l15_mk d4 i7 d9 d11 d13 d15 d20 d26, i_Field_reduce_l15_out d4 i7 d9 d11 d13 d15 d20 d26, i_Field_reduce_l15 i7 d9 d15 d20, (d17, d23), y, ?_, hy, ?_, i_Field_reduce_l15_step d4 i7 d9 d11 d13 d15 d20 d26⟩
 ·subst hs; exact restrict_eq (T := [(3, (.ptr (5, 0) [])), (7, (.ref (9, 0) [])), (8, (.imm true (.int .i64) d4)), (11, (.ptr (13, 0) [])), (13, (.ref (9, 0) [.idx i7])), (14, (.imm true (.int .i64) d9)), (33, (.imm true (.int .i64) d11)), (34, (.imm true (.int .i64) d13)), (76, (.imm true (.int .i64) d15)), (77, (.imm true (.int .i64) d17))]) (U := [((5, 0), some ⟨true, kField, .own, d20⟩), ((9, 0), some ⟨false, (.sl (.sl (.int .i64))), .own, d23⟩), ((13, 0), some ⟨true, (.int .i64), .own, d26⟩)]) rfl rfl ⟨e1, e2, e3, e5, e6, e8, e10, e12, e14, e16, trivial⟩ ⟨e18, e21, e24, trivial⟩
 ·exact Option.some.inj hz
set_option maxRecDepth 100000 in
theorem i_Field_reduce_l25_step : ∀ (h25_0_0 : Int) (h25_0_1 : Nat) (h25_0_2 : Nat) (h25_0_3 : Int) (h25_0_4 : Int) (h25_0_5 : Int) (h25_0_6 : Int) (h25_0_7 : Int) (h25_0_8 : Int) (h25_0_10 : (Int × (Int × Unit))) (h25_0_12 : Int) (x : (Int × (List (List Int)))) (c : St → Option (Ex × St)), den i_Field_reduce_V i_Field_reduce_A (loopAt i_Field_reduce_b 4) (i_Field_reduce_l25_mk h25_0_0 h25_0_1 h25_0_2 h25_0_3 h25_0_4 h25_0_5 h25_0_6 h25_0_7 h25_0_8 h25_0_10 h25_0_12 x) (roundK i_Field_reduce_l25_L.kp i_Field_reduce_l25_L.kx c) = (i_Field_reduce_l25 h25_0_1 h25_0_2 h25_0_3 h25_0_8 h25_0_10 x).run (roundR (i_Field_reduce_l25_mk h25_0_0 h25_0_1 h25_0_2 h25_0_3 h25_0_4 h25_0_5 h25_0_6 h25_0_7 h25_0_8 h25_0_10 h25_0_12) (i_Field_reduce_l25_out h25_0_0 h25_0_1 h25_0_2 h25_0_3 h25_0_4 h25_0_5 h25_0_6 h25_0_7 h25_0_8 h25_0_10 h25_0_12) c) := fun _ _ _ _ _ _ _ _ _ _ _ _ _ => by
 kernel_rfl
theorem i_Field_reduce_l25_ok : LoopOK i_Field_reduce_V i_Field_reduce_A (loopAt i_Field_reduce_b 4) i_Field_reduce_l25_L := loopOK_of fun s e s' h => by
 generalize hs : restrict i_Field_reduce_l25_L.kp s = s1 at h
 have h : (i_Field_reduce_l25_D s1).run some = some (e, s') := h
 obtain ⟨e1, h_0⟩ := asPtr_spec h
 obtain ⟨e2, h_1⟩ := asRef_spec h_0
 obtain ⟨d4, e3, h_2⟩ := asImmZ_spec h_1
 obtain ⟨e5, h_3⟩ := asPtr_spec h_2
 obtain ⟨i7, e6, h_4⟩ := asRef1_spec h_3
 obtain ⟨i9, e8, h_5⟩ := asRef1_spec h_4
 obtain ⟨d11, e10, h_6⟩ := asImmZ_spec h_5
 obtain ⟨d13, e12, h_7⟩ := asImmZ_spec h_6
 obtain ⟨d15, e14, h_8⟩ := asImmZ_spec h_7
 obtain ⟨e16, h_9⟩ := asRef_spec h_8
 obtain ⟨d18, e17, h_10⟩ := asImmZ_spec h_9
 obtain ⟨d20, e19, h_11⟩ := asImmZ_spec h_10
 obtain ⟨d22, e21, h_12⟩ := asImmZ_spec h_11
 obtain ⟨d24, e23, h_13⟩ := asImmZ_spec h_12
 obtain ⟨m26, d27, e25, h_14⟩ := asRoot_spec h_13
 obtain ⟨rfl, h_15⟩ := asM_spec h_14
 obtain ⟨m29, d30, e28, h_16⟩ := asRoot_spec h_15
 obtain ⟨rfl, h_17⟩ := asM_spec h_16
 obtain ⟨m32, d33, e31, h_18⟩ := asRoot_spec h_17
 obtain ⟨rfl, h_19⟩ := asM_spec h_18
 obtain ⟨y, hy, hz⟩ := mat_ret h_19
 refine ⟨_, _, i_Field_reduce_l25_mk d4 i7 i9 d11 d13 d15 d18 d20 d22 d27 d33, i_Field_reduce_l25_out d4 i7 i9 d11 d13 d15 d18 d20 d22 d27 d33, i_Field_reduce_l25 i7 i9 d11 d22 d27, (d24, d30), y, ?_, hy, ?_, i_Field_reduce_l25_step d4 i7 i9 d11 d13 d15 d18 d20 d22 d27 d33⟩
 ·subst hs; exact restrict_eq (T := [(3, (.ptr (5, 0) [])), (7, (.ref (9, 0) [])), (8, (.imm true (.int .i64) d4)), (11, (.ptr (13, 0) [])), (13, (.ref (9, 0) [.idx i7])), (17, (.ref (9, 0) [.idx i9])), (18, (.imm true (.int .i64) d11)), (33, (.imm true (.int .i64) d13)), (34, (.imm true (.int .i64) d15)), (91, (.ref (9, 0) [])), (92, (.imm true (.int .i64) d18)), (93, (.imm true (.int .i64) d20)), (110, (.imm true (.int .i64) d22)), (111, (.imm true (.int .i64) d24))]) (U := [((5, 0), some ⟨true, kField, .own, d27⟩), ((9, 0), some ⟨false, (.sl (.sl (.int .i64))), .own, d30⟩), ((13, 0), some ⟨true, (.int .i64), .own, d33⟩)]) rfl rfl ⟨e1, e2, e3, e5, e6, e8, e10, e12, e14, e16, e17, e19, e21, e23, trivial⟩ ⟨e25, e28, e31, trivial⟩
 ·exact Option.some.inj hz
set_option maxRecDepth 100000 in
theorem i_Field_reduce_l20_step : ∀ (h20_0_0 : Int) (h20_0_1 : Nat) (h20_0_2 : Int) (h20_0_3 : Int) (h20_0_4 : Int) (h20_0_6 : (Int × (Int × Unit))) (h20_0_8 : Int) (x : (Int × (List (List Int)))) (c : St → Option (Ex × St)), den i_Field_reduce_V i_Field_reduce_A (loopAt i_Field_reduce_b 3) (i_Field_reduce_l20_mk h20_0_0 h20_0_1 h20_0_2 h20_0_3 h20_0_4 h20_0_6 h20_0_8 x) (roundK i_Field_reduce_l20_L.kp i_Field_reduce_l20_L.kx c) = (i_Field_reduce_l20 h20_0_0 h20_0_1 h20_0_4 h20_0_6 h20_0_8 x).run (roundR (i_Field_reduce_l20_mk h20_0_0 h20_0_1 h20_0_2 h20_0_3 h20_0_4 h20_0_6 h20_0_8) (i_Field_reduce_l20_out h20_0_0 h20_0_1 h20_0_2 h20_0_3 h20_0_4 h20_0_6 h20_0_8) c) := fun _ _ _ _ _ _ _ _ _ => by
 kernel_rfl
theorem i_Field_reduce_l20_ok : LoopOK i_Field_reduce_V i_Field_reduce_A (loopAt i_Field_reduce_b 3) i_Field_reduce_l20_L := loopOK_of fun s e s' h => by
 generalize hs : restrict i_Field_reduce_l20_L.kp s = s1 at h
 have h : (i_Field_reduce_l20_D s1).run some = some (e, s') := h
 obtain ⟨e1, h_0⟩ := asPtr_spec h
 obtain ⟨e2, h_1⟩ := asRef_spec h_0
 obtain ⟨d4, e3, h_2⟩ := asImmZ_spec h_1
 obtain ⟨e5, h_3⟩ := asPtr_spec h_2
 obtain ⟨i7, e6, h_4⟩ := asRef1_spec h_3
 obtain ⟨d9, e8, h_5⟩ := asImmZ_spec h_4
 obtain ⟨d11, e10, h_6⟩ := asImmZ_spec h_5
 obtain ⟨e12, h_7⟩ := asRef_spec h_6
 obtain ⟨d14, e13, h_8⟩ := asImmZ_spec h_7
 obtain ⟨d16, e15, h_9⟩ := asImmZ_spec h_8
 obtain ⟨m18, d19, e17, h_10⟩ := asRoot_spec h_9
 obtain ⟨rfl, h_11⟩ := asM_spec h_10
 obtain ⟨m21, d22, e20, h_12⟩ := asRoot_spec h_11
 obtain ⟨rfl, h_13⟩ := asM_spec h_12
 obtain ⟨m24, d25, e23, h_14⟩ := asRoot_spec h_13
 obtain ⟨rfl, h_15⟩ := asM_spec h_14
 obtain ⟨y, hy, hz⟩ := mat_ret h_15
 refine ⟨_, _, i_Field_reduce_l20_mk d4 i7 d9 d11 d14 d19 d25, i_Field_reduce_l20_out d4 i7 d9 d11 d14 d19 d25, i_Field_reduce_l20 d4 i7 d14 d19 d25, (d16, d22), y, ?_, hy, ?_, i_Field_reduce_l20_step d4 i7 d9 d11 d14 d19 d25⟩
 ·subst hs; exact restrict_eq (T := [(3, (.ptr (5, 0) [])), (7, (.ref (9, 0) [])), (8, (.imm true (.int .i64) d4)), (11, (.ptr (13, 0) [])), (13, (.ref (9, 0) [.idx i7])), (33, (.imm true (.int .i64) d9)), (34, (.imm true (.int .i64) d11)), (91, (.ref (9, 0) [])), (92, (.imm true (.int .i64) d14)), (93, (.imm true (.int .i64) d16))]) (U := [((5, 0), some ⟨true, kField, .own, d19⟩), ((9, 0), some ⟨false, (.sl (.sl (.int .i64))), .own, d22⟩), ((13, 0), some ⟨true, (.int .i64), .own, d25⟩)]) rfl rfl ⟨e1, e2, e3, e5, e6, e8, e10, e12, e13, e15, trivial⟩ ⟨e17, e20, e23, trivial⟩
 ·exact Option.some.inj hz
set_option maxRecDepth 100000 in
theorem i_Field_reduce_l8_step : ∀ (h8_0_1 : Int) (h8_0_3 : (Int × (Int × Unit))) (x : (Int × Int × (List (List Int)))) (c : St → Option (Ex × St)), den i_Field_reduce_V i_Field_reduce_A (loopAt i_Field_reduce_b 1) (i_Field_reduce_l8_mk h8_0_1 h8_0_3 x) (roundK i_Field_reduce_l8_L.kp i_Field_reduce_l8_L.kx c) = (i_Field_reduce_l8 h8_0_1 h8_0_3 x).run (roundR (i_Field_reduce_l8_mk h8_0_1 h8_0_3) (i_Field_reduce_l8_out h8_0_1 h8_0_3) c) := fun _ _ _ _ => by
 kernel_rfl
theorem i_Field_reduce_l8_ok : LoopOK i_Field_reduce_V i_Field_reduce_A (loopAt i_Field_reduce_b 1) i_Field_reduce_l8_L := loopOK_of fun s e s' h => by
 generalize hs : restrict i_Field_reduce_l8_L.kp s = s1 at h
 have h : (i_Field_reduce_l8_D s1).run some = some (e, s') := h
 obtain ⟨e1, h_0⟩ := asPtr_spec h
 obtain ⟨e2, h_1⟩ := asRef_spec h_0
 obtain ⟨d4, e3, h_2⟩ := asImmZ_spec h_1
 obtain ⟨d6, e5, h_3⟩ := asImmZ_spec h_2
 obtain ⟨d8, e7, h_4⟩ := asImmZ_spec h_3
 obtain ⟨m10, d11, e9, h_5⟩ := asRoot_spec h_4
 obtain ⟨rfl, h_6⟩ := asM_spec h_5
 obtain ⟨m13, d14, e12, h_7⟩ := asRoot_spec h_6
 obtain ⟨rfl, h_8⟩ := asM_spec h_7
 obtain ⟨y, hy, hz⟩ := mat_ret h_8
 refine ⟨_, _, i_Field_reduce_l8_mk d6 d11, i_Field_reduce_l8_out d6 d11, i_Field_reduce_l8 d6 d11, (d4, d8, d14), y, ?_, hy, ?_, i_Field_reduce_l8_step d6 d11⟩
 ·subst hs; exact restrict_eq (T := [(3, (.ptr (5, 0) [])), (7, (.ref (9, 0) [])), (8, (.imm true (.int .i64) d4)), (33, (.imm true (.int .i64) d6)), (34, (.imm true (.int .i64) d8))]) (U := [((5, 0), some ⟨true, kField, .own, d11⟩), ((9, 0), some ⟨false, (.sl (.sl (.int .i64))), .own, d14⟩)]) rfl rfl ⟨e1, e2, e3, e5, e7, trivial⟩ ⟨e9, e12, trivial⟩
 ·exact Option.some.inj hz
noncomputable def i_Field_reduce_I : FnI := ⟨i_Field_reduce_b, Try.f58.results.toList, Try.f58.resultTypes.toList, i_Field_reduce_A⟩
noncomputable def i_Field_reduce_out (_zp0 : Bool) (_p0 : (Int × (Int × Unit))) (_p1 : Int) (_p2 : (List (List Int))) : (List (List Int)) → CallOut := fun r => ⟨(.ref (1, 0) []), [], [⟨false, (.sl (.sl (.int .i64))), .own, r⟩]⟩
set_option maxRecDepth 100000 in
theorem i_Field_reduce_eq : ∀ (zp0 : Bool) (p0 : (Int × (Int × Unit))) (p1 : Int) (p2 : (List (List Int))), denFn i_Field_reduce_V i_Field_reduce_I ⟨[(.imm true kField p0), (.imm true (.int .i64) p1), (.imm zp0 (.sl (.sl (.int .i64))) p2)], []⟩ = (i_Field_reduce p0 p1 p2).run fun r => some (i_Field_reduce_out zp0 p0 p1 p2 r) := fun _ _ _ _ => by kernel_rfl
noncomputable def i_Field_reduce_G (av : List AV) (rs : List Root) : Tre CallOut :=
 asCons av fun a0_ av0 =>
 asCons av0 fun a1_ av1 =>
 asCons av1 fun a2_ av2 =>
 asEnd av2 <|
 asEnd rs <|
 asImmZ true kField a0_ fun d1 =>
 asImmZ true (.int .i64) a1_ fun d2 =>
 asImm (.sl (.sl (.int .i64))) a2_ fun z4 d3 =>
 .mat (i_Field_reduce_F d1 d2 d3) fun r => .ret (i_Field_reduce_out z4 d1 d2 d3 r)
noncomputable def i_Field_reduce_c : Ctr := ⟨[], fun ci => i_Field_reduce_G ci.args ci.roots, false⟩
theorem i_Field_reduce_env : EnvOK Try.prog .none i_Field_reduce_V := (envOK_cons slices_Clone_int64_ok ent57 (envOK_cons nm1_ok ent106 (envOK_cons i_Field_inverse_ok ent108 (envOK_cons i_Field_mul_ok ent109 envOK_nil))))
set_option maxRecDepth 100000 in
theorem i_Field_reduce_ok : Contract Try.prog .none 58 i_Field_reduce_c := by
 have hl : LoopsOK i_Field_reduce_V i_Field_reduce_A i_Field_reduce_b := (loopsOK_all (n := 5) (by kernel_rfl) fun k hk => by
   match k, hk with
   | 0, _ => exact loopOK_at (id := 3) (L := i_Field_reduce_l3_L) (by kernel_rfl) (by kernel_rfl) i_Field_reduce_l3_ok
   | 1, _ => exact loopOK_at (id := 8) (L := i_Field_reduce_l8_L) (by kernel_rfl) (by kernel_rfl) i_Field_reduce_l8_ok
   | 2, _ => exact loopOK_at (id := 15) (L := i_Field_reduce_l15_L) (by kernel_rfl) (by kernel_rfl) i_Field_reduce_l15_ok
   | 3, _ => exact loopOK_at (id := 20) (L := i_Field_reduce_l20_L) (by kernel_rfl) (by kernel_rfl) i_Field_reduce_l20_ok
   | 4, _ => exact loopOK_at (id := 25) (L := i_Field_reduce_l25_L) (by kernel_rfl) (by kernel_rfl) i_Field_reduce_l25_ok)
 refine (contract_of (F := i_Field_reduce_I) tau_tys i_Field_reduce_env Try.func58 (by kernel_rfl) (by kernel_rfl) (by kernel_rfl) hl []).weaken ?_
 rintro ⟨av, rs⟩ co h
 have h : (i_Field_reduce_G av rs).run some = some co := h
 obtain ⟨a0_, av0, rfl, h_0⟩ := asCons_spec h
 obtain ⟨a1_, av1, rfl, h_1⟩ := asCons_spec h_0
 obtain ⟨a2_, av2, rfl, h_2⟩ := asCons_spec h_1
 obtain ⟨rfl, h_3⟩ := asEnd_spec h_2
 obtain ⟨rfl, h_4⟩ := asEnd_spec h_3
 obtain ⟨d1, rfl, h_5⟩ := asImmZ_spec h_4
 obtain ⟨d2, rfl, h_6⟩ := asImmZ_spec h_5
 obtain ⟨z4, d3, rfl, h_7⟩ := asImm_spec h_6
 exact fin_mat (i_Field_reduce_eq z4 d1 d2 d3) h_7
end Go.Proofs.Ytkgekgfmnhccmaa

namespace Go.Proofs.Ytkgekgfmnhccmaa
open Go Go.Abs Go.Proofs
noncomputable def i_size_int64S (p0 : (List (List Int))) : Tre Int :=
 .ret (p0.length : Int)
noncomputable def i_size_int64S_F (p0 : (List (List Int))) : Option Int := (i_size_int64S p0).run some
theorem i_size_int64S_spec (p0 : (List (List Int))) : i_size_int64S_F p0 = some (p0.length : Int) := rfl
noncomputable def i_size_int64S_V : Env := ⟨tau, [], []⟩
noncomputable def i_size_int64S_b : Code := (Try.f99.body).getD .skip
noncomputable def i_size_int64S_I : FnI := ⟨i_size_int64S_b, Try.f99.results.toList, Try.f99.resultTypes.toList, []⟩
noncomputable def i_size_int64S_out (_zp0 : Bool) (_p0 : (List (List Int))) : Int → CallOut := fun r => ⟨(.imm true (.int .i64) r), [], []⟩
set_option maxRecDepth 100000 in
theorem i_size_int64S_eq : ∀ (zp0 : Bool) (p0 : (List (List Int))), denFn i_size_int64S_V i_size_int64S_I ⟨[(.imm zp0 (.sl (.sl (.int .i64))) p0)], []⟩ = (i_size_int64S p0).run fun r => some (i_size_int64S_out zp0 p0 r) := fun _ _ => by kernel_rfl
noncomputable def i_size_int64S_G (av : List AV) (rs : List Root) : Tre CallOut :=
 asCons av fun a0_ av0 =>
 asEnd av0 <|
 asEnd rs <|
 asImm (.sl (.sl (.int .i64))) a0_ fun z2 d1 =>
 .ret (i_size_int64S_out z2 d1 (d1.length : Int))
noncomputable def i_size_int64S_c : Ctr := ⟨[], fun ci => i_size_int64S_G ci.args ci.roots, false⟩
theorem i_size_int64S_env : EnvOK Try.prog .none i_size_int64S_V := envOK_nil
set_option maxRecDepth 100000 in
theorem i_size_int64S_ok : Contract Try.prog .none 99 i_size_int64S_c := by
 have hl : LoopsOK i_size_int64S_V [] i_size_int64S_b := loopsOK_nil (by kernel_rfl)
 refine (contract_of (F := i_size_int64S_I) tau_tys i_size_int64S_env Try.func99 (by kernel_rfl) (by kernel_rfl) (by kernel_rfl) hl []).weaken ?_
 rintro ⟨av, rs⟩ co h
 have h : (i_size_int64S_G av rs).run some = some co := h
 obtain ⟨a0_, av0, rfl, h_0⟩ := asCons_spec h
 obtain ⟨rfl, h_1⟩ := asEnd_spec h_0
 obtain ⟨rfl, h_2⟩ := asEnd_spec h_1
 obtain ⟨z2, d1, rfl, h_3⟩ := asImm_spec h_2
 exact fin_ret (i_size_int64S_eq z2 d1) (i_size_int64S_spec d1) h_3
end Go.Proofs.Ytkgekgfmnhccmaa

namespace Go.Proofs.Ytkgekgfmnhccmaa
open Go Go.Abs Go.Proofs
noncomputable def i_Net_rank (p0 : TNet) (p1 : Int) : Tre Int :=
 .mat (i_Net_rows_F p0 p1) fun r1 =>
 .alt r1
  (fun a2 =>
   .mat (i_Field_reduce_F p0.1 p0.2.2.1 a2) fun r4 =>
   .ret (r4.length : Int))
  (fun b3 =>
   .mat (i_Field_reduce_F p0.1 p0.2.2.1 b3) fun r5 =>
   .ret (r5.length : Int))
noncomputable def i_Net_rank_F (p0 : TNet) (p1 : Int) : Option Int := (i_Net_rank p0 p1).run some
-- more
theorem irank_is {n : TN6} (h : NetP n) (node : Int) : i_Net_rank_F n node = some ((echV n.1 (messN n) (rowsV n node)).length : Int) := by
 have hl := rowsV_len h node
 obtain ⟨hm1, hm2, hm3⟩ := mess_ok h
 have hr := ired_is h.field (n := messN n) (by omega) (rowsV_GR h node) (by omega)
 rw [← hm1] at hr
 unfold i_Net_rank_F i_Net_rank
 rw [run_some_mat (irows_is h node)]
 by_cases h0 : node = 0
 ·rw [if_pos h0, Tre.run_inl, run_some_mat hr]; rfl
 ·rw [if_neg h0, Tre.run_inr, run_some_mat hr]; rfl
noncomputable def i_Net_rank_V : Env := ⟨tau, [(56, i_Net_rows_c), (58, i_Field_reduce_c), (99, i_size_int64S_c)], []⟩
noncomputable def i_Net_rank_b : Code := (Try.f50.body).getD .skip
noncomputable def i_Net_rank_I : FnI := ⟨i_Net_rank_b, Try.f50.results.toList, Try.f50.resultTypes.toList, []⟩
noncomputable def i_Net_rank_out (_zp0 : Bool) (_p0 : TNet) (_p1 : Int) : Int → CallOut := fun r => ⟨(.imm true (.int .i64) r), [], []⟩
set_option maxRecDepth 100000 in
theorem i_Net_rank_eq : ∀ (zp0 : Bool) (p0 : TNet) (p1 : Int), denFn i_Net_rank_V i_Net_rank_I ⟨[(.imm zp0 kNet p0), (.imm true (.int .i64) p1)], []⟩ = (i_Net_rank p0 p1).run fun r => some (i_Net_rank_out zp0 p0 p1 r) := fun _ _ _ => by kernel_rfl
noncomputable def i_Net_rank_G (av : List AV) (rs : List Root) : Tre CallOut :=
 asCons av fun a0_ av0 =>
 asCons av0 fun a1_ av1 =>
 asEnd av1 <|
 asEnd rs <|
 asImm kNet a0_ fun z2 d1 =>
 asImmZ true (.int .i64) a1_ fun d3 =>
 .mat (i_Net_rank_F d1 d3) fun r => .ret (i_Net_rank_out z2 d1 d3 r)
noncomputable def i_Net_rank_c : Ctr := ⟨[], fun ci => i_Net_rank_G ci.args ci.roots, false⟩
theorem i_Net_rank_env : EnvOK Try.prog .none i_Net_rank_V := (envOK_cons i_Net_rows_ok ent56 (envOK_cons i_Field_reduce_ok ent58 (envOK_cons i_size_int64S_ok ent99 envOK_nil)))
set_option maxRecDepth 100000 in
theorem i_Net_rank_ok : Contract Try.prog .none 50 i_Net_rank_c := by
 have hl : LoopsOK i_Net_rank_V [] i_Net_rank_b := loopsOK_nil (by kernel_rfl)
 refine (contract_of (F := i_Net_rank_I) tau_tys i_Net_rank_env Try.func50 (by kernel_rfl) (by kernel_rfl) (by kernel_rfl) hl []).weaken ?_
 rintro ⟨av, rs⟩ co h
 have h : (i_Net_rank_G av rs).run some = some co := h
 obtain ⟨a0_, av0, rfl, h_0⟩ := asCons_spec h
 obtain ⟨a1_, av1, rfl, h_1⟩ := asCons_spec h_0
 obtain ⟨rfl, h_2⟩ := asEnd_spec h_1
 obtain ⟨rfl, h_3⟩ := asEnd_spec h_2
 obtain ⟨z2, d1, rfl, h_4⟩ := asImm_spec h_3
 obtain ⟨d3, rfl, h_5⟩ := asImmZ_spec h_4
 exact fin_mat (i_Net_rank_eq z2 d1 d3) h_5
end Go.Proofs.Ytkgekgfmnhccmaa

namespace Go.Proofs.Ytkgekgfmnhccmaa
open Go Go.Abs Go.Proofs
noncomputable def i_Net_rowsZ_l4 (h4_0_0 : Int) (h4_0_2 : TNet) : (Int × (List (List Int))) → Tre ((Int × (List (List Int))) ⊕ (List (List Int))) := fun s4 =>
 .cond (decide (s4.1 < h4_0_0))
  (.mat (i_unit_F h4_0_2.2.2.1 s4.1) fun r1 =>
  .ite ((s4.2.length + 1) * 24 ≤ appendMax ∧ 1 ≤ 24) <|
  .ret (.inl (iwrap .i64 (s4.1 + 1), s4.2 ++ ([r1]))))
  (.ret (.inr s4.2))
noncomputable def i_Net_rowsZ_l11 (h11_0_0 : Int) (h11_0_3 : (List (List Int))) (h11_0_4 : (List Int)) : (Int × (List (List Int))) → Tre ((Int × (List (List Int))) ⊕ (List (List Int))) := fun s11 =>
 .cond (decide (s11.1 < h11_0_0))
  (.ite (0 ≤ s11.1 ∧ s11.1 < (h11_0_4.length : Int)) <|
  .mat (h11_0_4[s11.1.toNat]?) fun x5 =>
  .ite (0 ≤ x5 ∧ x5 < (h11_0_3.length : Int)) <|
  .mat (h11_0_3[x5.toNat]?) fun x6 =>
  .ite ((s11.2.length + 1) * 24 ≤ appendMax ∧ 1 ≤ 24) <|
  .ret (.inl (iwrap .i64 (s11.1 + 1), s11.2 ++ ([x6]))))
  (.ret (.inr s11.2))
noncomputable def i_Net_rowsZ (p0 : TNet) (p1 : Int) : Tre (List (List Int)) :=
 .cond (decide (p1 = 0))
  (.mat (loopF (i_Net_rowsZ_l4 p0.2.2.1 p0) (0, [])) fun l2 =>
  .ret l2)
  (.mat (i_Net_vectors_F p0) fun r3 =>
  .mat (i_Net_into_F p0 p1) fun r4 =>
  .mat (loopF (i_Net_rowsZ_l11 (r4.length : Int) r3 r4) (0, [])) fun l7 =>
  .ret l7)
noncomputable def i_Net_rowsZ_F (p0 : TNet) (p1 : Int) : Option (List (List Int)) := (i_Net_rowsZ p0 p1).run some
-- more
theorem irowsZ_is {n : TN6} (h : NetP n) (node : Int) : i_Net_rowsZ_F n node = some (rowsV n node) := by
 have hE := h.len
 have hil := intoV_len n.2.2.2.1 node
 obtain ⟨hm1, hm2, hm3⟩ := mess_ok h
 unfold i_Net_rowsZ_F i_Net_rowsZ rowsV
 rw [Tre.run_cond]
 by_cases h0 : node = 0
 ·rw [decide_eq_true h0, cond_true, if_pos h0]
  have key := fold_loop (xs := List.range (messN n)) (step := i_Net_rowsZ_l4 n.2.2.1 n) (γ := List (List Int)) (fun (i : Nat) acc => ((i : Int), acc)) (fun _ acc k => .inl (acc ++ [unitV (messN n) k])) id (fun i acc => acc.length = i) (by
   intro i acc x hx hi
   have hlt := (List.getElem?_eq_some_iff.1 hx).1
   rw [List.length_range] at hlt
   rw [List.getElem?_range hlt] at hx
   cases hx
   refine ⟨?_, fun a ha => ?_⟩
   ·unfold i_Net_rowsZ_l4
    dsimp only
    rw [Tre.run_cond, decide_eq_true (by omega), cond_true, hm1, run_some_mat (iunit_is hlt (by omega)), Tre.run_ite, if_pos (by unfold appendMax; omega), Tre.run_ret, iwrap_succ (by omega)]
   ·cases ha; simp [hi]) (by
   intro acc _
   unfold i_Net_rowsZ_l4
   dsimp only
   rw [Tre.run_cond, decide_eq_false (by rw [List.length_range]; omega), cond_false]
   rfl) _ 0 [] rfl (Nat.zero_le _) rfl
  rw [foldE_app] at key
  have key : loopF (i_Net_rowsZ_l4 n.2.2.1 n) (0, []) = some ((List.range (messN n)).map (unitV (messN n))) := key
  rw [run_some_mat key]
  rfl
 ·rw [decide_eq_false h0, cond_false, if_neg h0, run_some_mat (vectors_is h), run_some_mat (i_Net_into_is n h.len h.two2 node)]
  have key := fold_loop (xs := intoV n.2.2.2.1 node) (step := i_Net_rowsZ_l11 ((intoV n.2.2.2.1 node).length : Int) (vectorsV n) (intoV n.2.2.2.1 node)) (γ := List (List Int)) (fun (i : Nat) acc => ((i : Int), acc)) (fun _ acc x => .inl (acc ++ [(vectorsV n).getD x.toNat []])) id (fun i acc => acc.length = i) (by
   intro i acc x hx hi
   have hlt := (List.getElem?_eq_some_iff.1 hx).1
   obtain ⟨j, rfl, hj⟩ := into_all h (List.mem_of_getElem? hx)
   obtain ⟨v, hv, _⟩ := vectorsV_ok h hj
   have hvl := vectorsV_len n
   refine ⟨?_, fun a ha => ?_⟩
   ·unfold i_Net_rowsZ_l11
    dsimp only
    rw [Tre.run_cond, decide_eq_true (by omega), cond_true, Tre.run_ite, if_pos (by omega), Int.toNat_natCast, run_some_mat hx, Tre.run_ite, if_pos (by omega), Int.toNat_natCast, run_some_mat hv, Tre.run_ite, if_pos (by unfold appendMax; omega), Tre.run_ret, iwrap_succ (by omega), getD_of hv]
   ·cases ha; simp [hi]) (by
   intro acc _
   unfold i_Net_rowsZ_l11
   dsimp only
   rw [Tre.run_cond, decide_eq_false (by omega), cond_false]
   rfl) _ 0 [] rfl (Nat.zero_le _) rfl
  rw [foldE_app] at key
  have key : loopF (i_Net_rowsZ_l11 ((intoV n.2.2.2.1 node).length : Int) (vectorsV n) (intoV n.2.2.2.1 node)) (0, []) = some ((intoV n.2.2.2.1 node).map fun x => (vectorsV n).getD x.toNat []) := key
  rw [run_some_mat key]
  rfl
noncomputable def i_Net_rowsZ_V : Env := ⟨tau, [(94, i_unit_c), (43, i_Net_vectors_c), (102, i_Net_into_c)], [(10, [((9, 0), [], true), ((7, 0), [], true)]), (1000000, [((6, 0), [], false)])]⟩
noncomputable def i_Net_rowsZ_b : Code := (Try.f56.body).getD .skip
noncomputable def i_Net_rowsZ_l4_mk (z4_0 : Bool) (h4_0_0 : Int) (h4_0_2 : TNet) : (Int × (List (List Int))) → St := fun x => stOf [(2, (.ptr (4, 0) [])), (5, (.ref (7, 0) [])), (14, (.imm true (.int .i64) h4_0_0)), (15, (.imm true (.int .i64) x.1))] [((4, 0), some ⟨true, kNet, (.imm z4_0), h4_0_2⟩), ((7, 0), some ⟨false, (.sl (.sl (.int .i64))), .own, x.2⟩)]
noncomputable def i_Net_rowsZ_l4_out (_z4_0 : Bool) (_h4_0_0 : Int) (_h4_0_2 : TNet) : (List (List Int)) → Ex × St := fun x => (.exit 0, stOf [(5, (.ref (7, 0) []))] [((7, 0), some ⟨false, (.sl (.sl (.int .i64))), .own, x⟩)])
noncomputable def i_Net_rowsZ_l4_D (s : St) : Tre (Ex × St) :=
 asPtr (4, 0) [] (s.tmps 2) <|
 asRef (7, 0) [] (s.tmps 5) <|
 asImmZ true (.int .i64) (s.tmps 14) fun d4 =>
 asImmZ true (.int .i64) (s.tmps 15) fun d6 =>
 asRoot true kNet (s.roots (4, 0)) fun m8 d9 =>
 asMImm m8 fun z10 =>
 asRoot false (.sl (.sl (.int .i64))) (s.roots (7, 0)) fun m12 d13 =>
 asM .own m12 <|
 .mat (loopF (i_Net_rowsZ_l4 d4 d9) (d6, d13)) fun x => .ret (i_Net_rowsZ_l4_out z10 d4 d9 x)
noncomputable def i_Net_rowsZ_l4_L : LoopI := ⟨([2, 5, 14, 15], [(4, 0), (7, 0)]), ([5], [(7, 0)]), i_Net_rowsZ_l4_D⟩
noncomputable def i_Net_rowsZ_l11_mk (h11_0_0 : Int) (h11_0_3 : (List (List Int))) (h11_0_4 : (List Int)) : (Int × (List (List Int))) → St := fun x => stOf [(5, (.ref (7, 0) [])), (7, (.ref (9, 0) [])), (31, (.ref (33, 0) [])), (32, (.imm true (.int .i64) h11_0_0)), (33, (.imm true (.int .i64) x.1))] [((7, 0), some ⟨false, (.sl (.sl (.int .i64))), (.sl (.imm true)), x.2⟩), ((9, 0), some ⟨false, (.sl (.sl (.int .i64))), (.sl (.imm true)), h11_0_3⟩), ((33, 0), some ⟨false, (.sl (.int .i64)), .own, h11_0_4⟩)]
noncomputable def i_Net_rowsZ_l11_out (_h11_0_0 : Int) (_h11_0_3 : (List (List Int))) (_h11_0_4 : (List Int)) : (List (List Int)) → Ex × St := fun x => (.exit 2, stOf [(5, (.ref (7, 0) []))] [((7, 0), some ⟨false, (.sl (.sl (.int .i64))), (.sl (.imm true)), x⟩)])
noncomputable def i_Net_rowsZ_l11_D (s : St) : Tre (Ex × St) :=
 asRef (7, 0) [] (s.tmps 5) <|
 asRef (9, 0) [] (s.tmps 7) <|
 asRef (33, 0) [] (s.tmps 31) <|
 asImmZ true (.int .i64) (s.tmps 32) fun d5 =>
 asImmZ true (.int .i64) (s.tmps 33) fun d7 =>
 asRoot false (.sl (.sl (.int .i64))) (s.roots (7, 0)) fun m9 d10 =>
 asM (.sl (.imm true)) m9 <|
 asRoot false (.sl (.sl (.int .i64))) (s.roots (9, 0)) fun m12 d13 =>
 asM (.sl (.imm true)) m12 <|
 asRoot false (.sl (.int .i64)) (s.roots (33, 0)) fun m15 d16 =>
 asM .own m15 <|
 .mat (loopF (i_Net_rowsZ_l11 d5 d13 d16) (d7, d10)) fun x => .ret (i_Net_rowsZ_l11_out d5 d13 d16 x)
noncomputable def i_Net_rowsZ_l11_L : LoopI := ⟨([5, 7, 31, 32, 33], [(7, 0), (9, 0), (33, 0)]), ([5], [(7, 0)]), i_Net_rowsZ_l11_D⟩
noncomputable def i_Net_rowsZ_A : List (Nat × LoopI) := [(4, i_Net_rowsZ_l4_L), (11, i_Net_rowsZ_l11_L)]
set_option maxRecDepth 100000 in
theorem i_Net_rowsZ_l4_step : ∀ (z4_0 : Bool) (h4_0_0 : Int) (h4_0_2 : TNet) (x : (Int × (List (List Int)))) (c : St → Option (Ex × St)), den i_Net_rowsZ_V i_Net_rowsZ_A (loopAt i_Net_rowsZ_b 0) (i_Net_rowsZ_l4_mk z4_0 h4_0_0 h4_0_2 x) (roundK i_Net_rowsZ_l4_L.kp i_Net_rowsZ_l4_L.kx c) = (i_Net_rowsZ_l4 h4_0_0 h4_0_2 x).run (roundR (i_Net_rowsZ_l4_mk z4_0 h4_0_0 h4_0_2) (i_Net_rowsZ_l4_out z4_0 h4_0_0 h4_0_2) c) := fun _ _ _ _ _ => by
 kernel_rfl
theorem i_Net_rowsZ_l4_ok : LoopOK i_Net_rowsZ_V i_Net_rowsZ_A (loopAt i_Net_rowsZ_b 0) i_Net_rowsZ_l4_L := loopOK_of fun s e s' h => by
 generalize hs : restrict i_Net_rowsZ_l4_L.kp s = s1 at h
 have h : (i_Net_rowsZ_l4_D s1).run some = some (e, s') := h
 obtain ⟨e1, h_0⟩ := asPtr_spec h
 obtain ⟨e2, h_1⟩ := asRef_spec h_0
 obtain ⟨d4, e3, h_2⟩ := asImmZ_spec h_1
 obtain ⟨d6, e5, h_3⟩ := asImmZ_spec h_2
 obtain ⟨m8, d9, e7, h_4⟩ := asRoot_spec h_3
 obtain ⟨z10, rfl, h_5⟩ := asMImm_spec h_4
 obtain ⟨m12, d13, e11, h_6⟩ := asRoot_spec h_5
 obtain ⟨rfl, h_7⟩ := asM_spec h_6
 obtain ⟨y, hy, hz⟩ := mat_ret h_7
 refine ⟨_, _, i_Net_rowsZ_l4_mk z10 d4 d9, i_Net_rowsZ_l4_out z10 d4 d9, i_Net_rowsZ_l4 d4 d9, (d6, d13), y, ?_, hy, ?_, i_Net_rowsZ_l4_step z10 d4 d9⟩
 ·subst hs; exact restrict_eq (T := [(2, (.ptr (4, 0) [])), (5, (.ref (7, 0) [])), (14, (.imm true (.int .i64) d4)), (15, (.imm true (.int .i64) d6))]) (U := [((4, 0), some ⟨true, kNet, (.imm z10), d9⟩), ((7, 0), some ⟨false, (.sl (.sl (.int .i64))), .own, d13⟩)]) rfl rfl ⟨e1, e2, e3, e5, trivial⟩ ⟨e7, e11, trivial⟩
 ·exact Option.some.inj hz
set_option maxRecDepth 100000 in
theorem i_Net_rowsZ_l11_step : ∀ (h11_0_0 : Int) (h11_0_3 : (List (List Int))) (h11_0_4 : (List Int)) (x : (Int × (List (List Int)))) (c : St → Option (Ex × St)), den i_Net_rowsZ_V i_Net_rowsZ_A (loopAt i_Net_rowsZ_b 1) (i_Net_rowsZ_l11_mk h11_0_0 h11_0_3 h11_0_4 x) (roundK i_Net_rowsZ_l11_L.kp i_Net_rowsZ_l11_L.kx c) = (i_Net_rowsZ_l11 h11_0_0 h11_0_3 h11_0_4 x).run (roundR (i_Net_rowsZ_l11_mk h11_0_0 h11_0_3 h11_0_4) (i_Net_rowsZ_l11_out h11_0_0 h11_0_3 h11_0_4) c) := fun _ _ _ _ _ => by
 kernel_rfl
theorem i_Net_rowsZ_l11_ok : LoopOK i_Net_rowsZ_V i_Net_rowsZ_A (loopAt i_Net_rowsZ_b 1) i_Net_rowsZ_l11_L := loopOK_of fun s e s' h => by
 generalize hs : restrict i_Net_rowsZ_l11_L.kp s = s1 at h
 have h : (i_Net_rowsZ_l11_D s1).run some = some (e, s') := h
 obtain ⟨e1, h_0⟩ := asRef_spec h
 obtain ⟨e2, h_1⟩ := asRef_spec h_0
 obtain ⟨e3, h_2⟩ := asRef_spec h_1
 obtain ⟨d5, e4, h_3⟩ := asImmZ_spec h_2
 obtain ⟨d7, e6, h_4⟩ := asImmZ_spec h_3
 obtain ⟨m9, d10, e8, h_5⟩ := asRoot_spec h_4
 obtain ⟨rfl, h_6⟩ := asM_spec h_5
 obtain ⟨m12, d13, e11, h_7⟩ := asRoot_spec h_6
 obtain ⟨rfl, h_8⟩ := asM_spec h_7
 obtain ⟨m15, d16, e14, h_9⟩ := asRoot_spec h_8
 obtain ⟨rfl, h_10⟩ := asM_spec h_9
 obtain ⟨y, hy, hz⟩ := mat_ret h_10
 refine ⟨_, _, i_Net_rowsZ_l11_mk d5 d13 d16, i_Net_rowsZ_l11_out d5 d13 d16, i_Net_rowsZ_l11 d5 d13 d16, (d7, d10), y, ?_, hy, ?_, i_Net_rowsZ_l11_step d5 d13 d16⟩
 ·subst hs; exact restrict_eq (T := [(5, (.ref (7, 0) [])), (7, (.ref (9, 0) [])), (31, (.ref (33, 0) [])), (32, (.imm true (.int .i64) d5)), (33, (.imm true (.int .i64) d7))]) (U := [((7, 0), some ⟨false, (.sl (.sl (.int .i64))), (.sl (.imm true)), d10⟩), ((9, 0), some ⟨false, (.sl (.sl (.int .i64))), (.sl (.imm true)), d13⟩), ((33, 0), some ⟨false, (.sl (.int .i64)), .own, d16⟩)]) rfl rfl ⟨e1, e2, e3, e4, e6, trivial⟩ ⟨e8, e11, e14, trivial⟩
 ·exact Option.some.inj hz
noncomputable def i_Net_rowsZ_I : FnI := ⟨i_Net_rowsZ_b, Try.f56.results.toList, Try.f56.resultTypes.toList, i_Net_rowsZ_A⟩
noncomputable def i_Net_rowsZ_out (_zp0 : Bool) (_p0 : TNet) (_p1 : Int) : (List (List Int)) → CallOut := fun r => ⟨(.imm true (.sl (.sl (.int .i64))) r), [], []⟩
set_option maxRecDepth 100000 in
theorem i_Net_rowsZ_eq : ∀ (zp0 : Bool) (p0 : TNet) (p1 : Int), denFn i_Net_rowsZ_V i_Net_rowsZ_I ⟨[(.imm zp0 kNet p0), (.imm true (.int .i64) p1)], []⟩ = (i_Net_rowsZ p0 p1).run fun r => some (i_Net_rowsZ_out zp0 p0 p1 r) := fun _ _ _ => by kernel_rfl
noncomputable def i_Net_rowsZ_G (av : List AV) (rs : List Root) : Tre CallOut :=
 asCons av fun a0_ av0 =>
 asCons av0 fun a1_ av1 =>
 asEnd av1 <|
 asEnd rs <|
 asImm kNet a0_ fun z2 d1 =>
 asImmZ true (.int .i64) a1_ fun d3 =>
 .mat (i_Net_rowsZ_F d1 d3) fun r => .ret (i_Net_rowsZ_out z2 d1 d3 r)
noncomputable def i_Net_rowsZ_c : Ctr := ⟨[], fun ci => i_Net_rowsZ_G ci.args ci.roots, false⟩
theorem i_Net_rowsZ_env : EnvOK Try.prog .none i_Net_rowsZ_V := (envOK_cons i_unit_ok ent94 (envOK_cons i_Net_vectors_ok ent43 (envOK_cons i_Net_into_ok ent102 envOK_nil)))
set_option maxRecDepth 100000 in
theorem i_Net_rowsZ_ok : Contract Try.prog .none 56 i_Net_rowsZ_c := by
 have hl : LoopsOK i_Net_rowsZ_V i_Net_rowsZ_A i_Net_rowsZ_b := (loopsOK_all (n := 2) (by kernel_rfl) fun k hk => by
   match k, hk with
   | 0, _ => exact loopOK_at (id := 4) (L := i_Net_rowsZ_l4_L) (by kernel_rfl) (by kernel_rfl) i_Net_rowsZ_l4_ok
   | 1, _ => exact loopOK_at (id := 11) (L := i_Net_rowsZ_l11_L) (by kernel_rfl) (by kernel_rfl) i_Net_rowsZ_l11_ok)
 refine (contract_of (F := i_Net_rowsZ_I) tau_tys i_Net_rowsZ_env Try.func56 (by kernel_rfl) (by kernel_rfl) (by kernel_rfl) hl []).weaken ?_
 rintro ⟨av, rs⟩ co h
 have h : (i_Net_rowsZ_G av rs).run some = some co := h
 obtain ⟨a0_, av0, rfl, h_0⟩ := asCons_spec h
 obtain ⟨a1_, av1, rfl, h_1⟩ := asCons_spec h_0
 obtain ⟨rfl, h_2⟩ := asEnd_spec h_1
 obtain ⟨rfl, h_3⟩ := asEnd_spec h_2
 obtain ⟨z2, d1, rfl, h_4⟩ := asImm_spec h_3
 obtain ⟨d3, rfl, h_5⟩ := asImmZ_spec h_4
 exact fin_mat (i_Net_rowsZ_eq z2 d1 d3) h_5
end Go.Proofs.Ytkgekgfmnhccmaa

namespace Go.Proofs.Ytkgekgfmnhccmaa
open Go Go.Abs Go.Proofs
noncomputable def i_SolveAt_l8 (h8_0_0 : (List (List Int))) (h8_0_1 : Int) (h8_0_4 : (List Int)) : (Int × (List (List Int))) → Tre ((Int × (List (List Int))) ⊕ (List (List Int))) := fun s8 =>
 .cond (decide (s8.1 < h8_0_1))
  (.ite (0 ≤ s8.1 ∧ s8.1 < (h8_0_0.length : Int)) <|
  .mat (h8_0_0[s8.1.toNat]?) fun x4 =>
  .mat (cloneR x4) fun r5 =>
  .ite (0 ≤ s8.1 ∧ s8.1 < (h8_0_4.length : Int)) <|
  .mat (h8_0_4[s8.1.toNat]?) fun x6 =>
  .ite ((r5.length + 1) * 8 ≤ appendMax ∧ 1 ≤ 8) <|
  .ite ((s8.2.length + 1) * 24 ≤ appendMax ∧ 1 ≤ 24) <|
  let v7 := s8.2 ++ ([r5 ++ ([x6])])
  .ret (.inl (iwrap .i64 (s8.1 + 1), v7)))
  (.ret (.inr s8.2))
noncomputable def i_SolveAt_l14 (h14_0_0 : Int) (h14_0_2 : TNet) (h14_0_4 : (List (List Int))) : (Int × (List Int)) → Tre ((Int × (List Int)) ⊕ ((Int × (List Int)) ⊕ (List Int))) := fun s14 =>
 .cond (decide (s14.1 < h14_0_0))
  (.ite (0 ≤ s14.1 ∧ s14.1 < (h14_0_4.length : Int)) <|
  .mat (h14_0_4[s14.1.toNat]?) fun _ =>
  .cond (decide (s14.1 = h14_0_2.2.2.1))
   (.ret (.inr (.inl (6, s14.2))))
   (.mat (h14_0_4[s14.1.toNat]?) fun x12 =>
   .ite (0 ≤ h14_0_2.2.2.1 ∧ h14_0_2.2.2.1 < (x12.length : Int)) <|
   .mat (h14_0_4[s14.1.toNat]?) fun x13 =>
   .mat (x13[h14_0_2.2.2.1.toNat]?) fun x14 =>
   .ite ((s14.2.length + 1) * 8 ≤ appendMax ∧ 1 ≤ 8) <|
   .ret (.inl (iwrap .i64 (s14.1 + 1), s14.2 ++ ([x14])))))
  (.ret (.inr (.inr s14.2)))
noncomputable def i_SolveAt (p0 : TNet) (p1 : Int) (p2 : (List Int)) : Tre (Int × (List Int)) :=
 .mat (i_nodeCode_i_SolveAtc1_F p0 p1 p2 p0 p1) fun r1 =>
 .cond (!decide (r1 = 0))
  (.ret (r1, []))
  (.mat (i_Net_rank_F p0 p1) fun r2 =>
  .cond (decide (r2 < p0.2.2.1))
   (.ret (4, []))
   (.mat (i_Net_rowsZ_F p0 p1) fun r3 =>
   .mat (loopF (i_SolveAt_l8 r3 (r3.length : Int) p2) (0, [])) fun l8 =>
   let v9 := iwrap .i64 (p0.2.2.1 + 1)
   .mat (i_Field_reduce_F p0.1 v9 l8) fun r10 =>
   .mat (loopF (i_SolveAt_l14 (r10.length : Int) p0 r10) (0, [])) fun l15 =>
   .alt l15
    (fun a16 =>
     .ret (a16.1, []))
    (fun b17 =>
     .ret (0, b17))))
noncomputable def i_SolveAt_F (p0 : TNet) (p1 : Int) (p2 : (List Int)) : Option (Int × (List Int)) := (i_SolveAt p0 p1 p2).run some
-- more
theorem isolve_wide {L : List (List Int)} {vs : List Int} (hl : L.length = vs.length) (hn : L.length ≤ 1000) (hr : ∀ r ∈ L, r.length ≤ 1000) : loopF (i_SolveAt_l8 L (L.length : Int) vs) (0, []) = some (wideV L vs) := by
 have key := fold_loop (xs := L.zip vs) (step := i_SolveAt_l8 L (L.length : Int) vs) (γ := List (List Int)) (fun (i : Nat) acc => ((i : Int), acc)) (fun _ acc p => .inl (acc ++ [p.1 ++ [p.2]])) id (fun i acc => acc.length = i) (by
  intro i acc p hp hi
  have hlt := (List.getElem?_eq_some_iff.1 hp).1
  rw [List.length_zip] at hlt
  obtain ⟨p1, p2⟩ := p
  rw [List.getElem?_zip_eq_some] at hp
  obtain ⟨h1, h2⟩ := hp
  have hrl := hr p1 (List.mem_of_getElem? h1)
  refine ⟨?_, fun a ha => ?_⟩
  ·unfold i_SolveAt_l8
   dsimp only
   rw [Tre.run_cond, decide_eq_true (by omega), cond_true, Tre.run_ite, if_pos (by omega), Int.toNat_natCast, run_some_mat h1, run_some_mat (show cloneR p1 = some p1 from lim_of (by omega)), Tre.run_ite, if_pos (by omega), run_some_mat h2, Tre.run_ite, if_pos (by unfold appendMax; omega), Tre.run_ite, if_pos (by unfold appendMax; omega), Tre.run_ret, iwrap_succ (by omega)]
  ·cases ha; simp [hi]) (by
  intro acc _
  unfold i_SolveAt_l8
  dsimp only
  rw [Tre.run_cond, decide_eq_false (by rw [List.length_zip]; omega), cond_false]
  rfl) (L.zip vs) 0 [] rfl (Nat.zero_le _) rfl
 rw [foldE_app] at key
 exact key
theorem isolve_take {n : TN6} (h : NetP n) {E : List (List Int)} (hE : ∀ r ∈ E, r.length = messN n + 1) (hl : E.length ≤ 1000) : ∀ m i, i + m = E.length → i ≤ messN n →
  loopF (i_SolveAt_l14 (E.length : Int) n E) ((i : Int), (E.take i).map fun r => r.getD (messN n) 0) = some (if messN n < E.length then .inl (6, (E.take (messN n)).map fun r => r.getD (messN n) 0) else .inr (E.map fun r => r.getD (messN n) 0)) := by
 obtain ⟨hm1, hm2, hm3⟩ := mess_ok h
 intro m
 induction m with
 | zero =>
  intro i hi hi2
  have hi : i = E.length := hi
  subst hi
  rw [if_neg (by omega), List.take_length]
  refine loopF_done ?_
  unfold i_SolveAt_l14
  exact run_out
 | succ m ih =>
  intro i hi hi2
  have hx := List.getElem?_eq_getElem (show i < E.length by omega)
  have hxl := hE _ (List.mem_of_getElem? hx)
  have hy := List.getElem?_eq_getElem (show messN n < E[i].length by omega)
  by_cases h1 : i = messN n
  ·rw [if_pos (by omega)]
   refine loopF_done ?_
   unfold i_SolveAt_l14
   rw [run_inb hx, Tre.run_cond, decide_eq_true (by omega), cond_true, Tre.run_ret, h1]
  ·rw [← ih (i + 1) (by omega) (by omega)]
   refine loopF_step ?_
   unfold i_SolveAt_l14
   rw [run_inb hx, Tre.run_cond, decide_eq_false (by omega), cond_false, Int.toNat_natCast, run_some_mat hx, Tre.run_ite, if_pos (by omega), run_some_mat hx, hm1, Int.toNat_natCast, run_some_mat hy, Tre.run_ite, if_pos (by rw [List.length_map, List.length_take]; unfold appendMax; omega), Tre.run_ret, iwrap_succ (by omega)]
   rw [List.take_add_one, hx, List.map_append]
   simp only [Option.toList_some, List.map_cons, List.map_nil, getD_of hy]
theorem solveC_net {n : TN6} {node : Int} {vs : List Int} (h : solveC n node vs = 0) : NetP n ∧ (vs.length : Int) = hasV n node ∧ ∀ x ∈ vs, inF n.1 x := by
 unfold solveC at h
 split at h
 ·rename_i h1
  obtain ⟨hp, _⟩ := nodeC_net h1
  split at h
  ·rename_i h2; exact ⟨hp, h2.1, elsOk_in hp.field h2.2⟩
  ·cases h
 ·rename_i h1; exact absurd h h1
theorem i_SolveAt_is (n : TN6) (node : Int) {vs : List Int} (hv : vs.length ≤ 1048576) : i_SolveAt_F n node vs = some (solveV n node vs) := by
 unfold i_SolveAt_F i_SolveAt solveV
 rw [run_some_mat (isolven_is n node hv), Tre.run_cond]
 by_cases h0 : solveC n node vs = 0
 ·obtain ⟨h, hvl, hvf⟩ := solveC_net h0
  obtain ⟨hm1, hm2, hm3⟩ := mess_ok h
  have hrl := rowsV_len h node
  have hrg := rowsV_GR h node
  have hrh := rowsV_has h node
  have hwg := wideV_GR (vs := vs) hrg hvf
  have hwl := wideV_len (L := rowsV n node) (vs := vs) (by omega)
  rw [decide_eq_true h0, Bool.not_true, cond_false, if_pos h0, run_some_mat (irank_is h node), Tre.run_cond]
  by_cases h1 : (echV n.1 (messN n) (rowsV n node)).length < messN n
  ·rw [decide_eq_true (by omega), if_pos h1]; rfl
  ·rw [decide_eq_false (by omega), if_neg h1, cond_false, run_some_mat (irowsZ_is h node)]
   have hw := isolve_wide (L := rowsV n node) (vs := vs) (by omega) (by omega) (fun r hr => by rw [(hrg r hr).1]; omega)
   have hr := ired_is h.field (n := messN n + 1) (by omega) hwg (by omega)
   have hEl := echV_len h.field (m := messN n + 1) hwg
   have hEk := (echFrom_ok h.field (messN n + 1) 0 (0, wideV (rowsV n node) vs) hwg (Nat.zero_le _)).2.2
   have ht := isolve_take h (E := echV n.1 (messN n + 1) (wideV (rowsV n node) vs)) (fun r hr => (echV_GR h.field hwg r hr).1) (by dsimp only at hEk; omega) _ 0 (by rw [Nat.zero_add]) (by omega)
   have ht : loopF (i_SolveAt_l14 ((echV n.1 (messN n + 1) (wideV (rowsV n node) vs)).length : Int) n (echV n.1 (messN n + 1) (wideV (rowsV n node) vs))) (0, []) = _ := ht
   have hcast : iwrap .i64 (n.2.2.1 + 1) = ((messN n + 1 : Nat) : Int) := by rw [hm1, iwrap_i64 (by omega) (by omega)]; rfl
   rw [run_some_mat hw]
   dsimp only
   rw [hcast, run_some_mat hr, run_some_mat ht]
   by_cases h2 : messN n < (echV n.1 (messN n + 1) (wideV (rowsV n node) vs)).length
   ·rw [if_pos h2, if_pos h2]; rfl
   ·rw [if_neg h2, if_neg h2]; rfl
 ·rw [decide_eq_false h0, if_neg h0]; rfl
noncomputable def i_SolveAt_V : Env := ⟨tau, [(48, i_nodeCode_i_SolveAtc1_c), (50, i_Net_rank_c), (56, i_Net_rowsZ_c), (57, slices_Clone_int64_c), (58, i_Field_reduce_c)], []⟩
noncomputable def i_SolveAt_b : Code := (Try.f19.body).getD .skip
noncomputable def i_SolveAt_l8_mk (z8_0 : Bool) (z8_1 : Bool) (h8_0_0 : (List (List Int))) (h8_0_1 : Int) (h8_0_3 : TNet) (h8_0_4 : (List Int)) : (Int × (List (List Int))) → St := fun x => stOf [(3, (.ptr (5, 0) [])), (5, (.ptr (7, 0) [])), (9, (.ref (11, 0) [])), (31, (.imm true (.sl (.sl (.int .i64))) h8_0_0)), (32, (.imm true (.int .i64) h8_0_1)), (33, (.imm true (.int .i64) x.1))] [((5, 0), some ⟨true, kNet, (.imm z8_0), h8_0_3⟩), ((7, 0), some ⟨true, (.sl (.int .i64)), (.imm z8_1), h8_0_4⟩), ((11, 0), some ⟨false, (.sl (.sl (.int .i64))), .own, x.2⟩)]
noncomputable def i_SolveAt_l8_out (z8_0 : Bool) (_z8_1 : Bool) (_h8_0_0 : (List (List Int))) (_h8_0_1 : Int) (h8_0_3 : TNet) (_h8_0_4 : (List Int)) : (List (List Int)) → Ex × St := fun x => (.exit 0, stOf [(3, (.ptr (5, 0) [])), (9, (.ref (11, 0) []))] [((5, 0), some ⟨true, kNet, (.imm z8_0), h8_0_3⟩), ((11, 0), some ⟨false, (.sl (.sl (.int .i64))), .own, x⟩)])
noncomputable def i_SolveAt_l8_D (s : St) : Tre (Ex × St) :=
 asPtr (5, 0) [] (s.tmps 3) <|
 asPtr (7, 0) [] (s.tmps 5) <|
 asRef (11, 0) [] (s.tmps 9) <|
 asImmZ true (.sl (.sl (.int .i64))) (s.tmps 31) fun d5 =>
 asImmZ true (.int .i64) (s.tmps 32) fun d7 =>
 asImmZ true (.int .i64) (s.tmps 33) fun d9 =>
 asRoot true kNet (s.roots (5, 0)) fun m11 d12 =>
 asMImm m11 fun z13 =>
 asRoot true (.sl (.int .i64)) (s.roots (7, 0)) fun m15 d16 =>
 asMImm m15 fun z17 =>
 asRoot false (.sl (.sl (.int .i64))) (s.roots (11, 0)) fun m19 d20 =>
 asM .own m19 <|
 .mat (loopF (i_SolveAt_l8 d5 d7 d16) (d9, d20)) fun x => .ret (i_SolveAt_l8_out z13 z17 d5 d7 d12 d16 x)
noncomputable def i_SolveAt_l8_L : LoopI := ⟨([3, 5, 9, 31, 32, 33], [(5, 0), (7, 0), (11, 0)]), ([3, 9], [(5, 0), (11, 0)]), i_SolveAt_l8_D⟩
noncomputable def i_SolveAt_l14_mk (z14_0 : Bool) (h14_0_0 : Int) (h14_0_2 : TNet) (h14_0_4 : (List (List Int))) : (Int × (List Int)) → St := fun x => stOf [(3, (.ptr (5, 0) [])), (12, (.ref (14, 0) [])), (57, (.ref (59, 0) [])), (58, (.imm true (.int .i64) h14_0_0)), (59, (.imm true (.int .i64) x.1))] [((5, 0), some ⟨true, kNet, (.imm z14_0), h14_0_2⟩), ((14, 0), some ⟨false, (.sl (.int .i64)), .own, x.2⟩), ((59, 0), some ⟨false, (.sl (.sl (.int .i64))), .own, h14_0_4⟩)]
noncomputable def i_SolveAt_l14_out (_z14_0 : Bool) (_h14_0_0 : Int) (_h14_0_2 : TNet) (_h14_0_4 : (List (List Int))) : ((Int × (List Int)) ⊕ (List Int)) → Ex × St
 | .inl x => (.ret, stOf [(6, .nil), (7, (.imm true (.int .i64) x.1)), (12, (.ref (14, 0) []))] [((14, 0), some ⟨false, (.sl (.int .i64)), .own, x.2⟩)])
 | .inr x => (.exit 2, stOf [(6, .dead), (7, .dead), (12, (.ref (14, 0) []))] [((14, 0), some ⟨false, (.sl (.int .i64)), .own, x⟩)])
noncomputable def i_SolveAt_l14_D (s : St) : Tre (Ex × St) :=
 asPtr (5, 0) [] (s.tmps 3) <|
 asRef (14, 0) [] (s.tmps 12) <|
 asRef (59, 0) [] (s.tmps 57) <|
 asImmZ true (.int .i64) (s.tmps 58) fun d5 =>
 asImmZ true (.int .i64) (s.tmps 59) fun d7 =>
 asRoot true kNet (s.roots (5, 0)) fun m9 d10 =>
 asMImm m9 fun z11 =>
 asRoot false (.sl (.int .i64)) (s.roots (14, 0)) fun m13 d14 =>
 asM .own m13 <|
 asRoot false (.sl (.sl (.int .i64))) (s.roots (59, 0)) fun m16 d17 =>
 asM .own m16 <|
 .mat (loopF (i_SolveAt_l14 d5 d10 d17) (d7, d14)) fun x => .alt x (fun a0 => .ret (i_SolveAt_l14_out z11 d5 d10 d17 (.inl a0))) (fun b0 => .ret (i_SolveAt_l14_out z11 d5 d10 d17 (.inr b0)))
noncomputable def i_SolveAt_l14_L : LoopI := ⟨([3, 12, 57, 58, 59], [(5, 0), (14, 0), (59, 0)]), ([6, 7, 12], [(14, 0)]), i_SolveAt_l14_D⟩
noncomputable def i_SolveAt_A : List (Nat × LoopI) := [(8, i_SolveAt_l8_L), (14, i_SolveAt_l14_L)]
set_option maxRecDepth 100000 in
theorem i_SolveAt_l8_step : ∀ (z8_0 : Bool) (z8_1 : Bool) (h8_0_0 : (List (List Int))) (h8_0_1 : Int) (h8_0_3 : TNet) (h8_0_4 : (List Int)) (x : (Int × (List (List Int)))) (c : St → Option (Ex × St)), den i_SolveAt_V i_SolveAt_A (loopAt i_SolveAt_b 0) (i_SolveAt_l8_mk z8_0 z8_1 h8_0_0 h8_0_1 h8_0_3 h8_0_4 x) (roundK i_SolveAt_l8_L.kp i_SolveAt_l8_L.kx c) = (i_SolveAt_l8 h8_0_0 h8_0_1 h8_0_4 x).run (roundR (i_SolveAt_l8_mk z8_0 z8_1 h8_0_0 h8_0_1 h8_0_3 h8_0_4) (i_SolveAt_l8_out z8_0 z8_1 h8_0_0 h8_0_1 h8_0_3 h8_0_4) c) := fun _ _ _ _ _ _ _ _ => by
 kernel_rfl
theorem i_SolveAt_l8_ok : LoopOK i_SolveAt_V i_SolveAt_A (loopAt i_SolveAt_b 0) i_SolveAt_l8_L := loopOK_of fun s e s' h => by
 generalize hs : restrict i_SolveAt_l8_L.kp s = s1 at h
 have h : (i_SolveAt_l8_D s1).run some = some (e, s') := h
 obtain ⟨e1, h_0⟩ := asPtr_spec h
 obtain ⟨e2, h_1⟩ := asPtr_spec h_0
 obtain ⟨e3, h_2⟩ := asRef_spec h_1
 obtain ⟨d5, e4, h_3⟩ := asImmZ_spec h_2
 obtain ⟨d7, e6, h_4⟩ := asImmZ_spec h_3
 obtain ⟨d9, e8, h_5⟩ := asImmZ_spec h_4
 obtain ⟨m11, d12, e10, h_6⟩ := asRoot_spec h_5
 obtain ⟨z13, rfl, h_7⟩ := asMImm_spec h_6
 obtain ⟨m15, d16, e14, h_8⟩ := asRoot_spec h_7
 obtain ⟨z17, rfl, h_9⟩ := asMImm_spec h_8
 obtain ⟨m19, d20, e18, h_10⟩ := asRoot_spec h_9
 obtain ⟨rfl, h_11⟩ := asM_spec h_10
 obtain ⟨y, hy, hz⟩ := mat_ret h_11
 refine ⟨_, _, i_SolveAt_l8_mk z13 z17 d5 d7 d12 d16, i_SolveAt_l8_out z13 z17 d5 d7 d12 d16, i_SolveAt_l8 d5 d7 d16, (d9, d20), y, ?_, hy, ?_, i_SolveAt_l8_step z13 z17 d5 d7 d12 d16⟩
 ·subst hs; exact restrict_eq (T := [(3, (.ptr (5, 0) [])), (5, (.ptr (7, 0) [])), (9, (.ref (11, 0) [])), (31, (.imm true (.sl (.sl (.int .i64))) d5)), (32, (.imm true (.int .i64) d7)), (33, (.imm true (.int .i64) d9))]) (U := [((5, 0), some ⟨true, kNet, (.imm z13), d12⟩), ((7, 0), some ⟨true, (.sl (.int .i64)), (.imm z17), d16⟩), ((11, 0), some ⟨false, (.sl (.sl (.int .i64))), .own, d20⟩)]) rfl rfl ⟨e1, e2, e3, e4, e6, e8, trivial⟩ ⟨e10, e14, e18, trivial⟩
 ·exact Option.some.inj hz
set_option maxRecDepth 100000 in
theorem i_SolveAt_l14_step : ∀ (z14_0 : Bool) (h14_0_0 : Int) (h14_0_2 : TNet) (h14_0_4 : (List (List Int))) (x : (Int × (List Int))) (c : St → Option (Ex × St)), den i_SolveAt_V i_SolveAt_A (loopAt i_SolveAt_b 1) (i_SolveAt_l14_mk z14_0 h14_0_0 h14_0_2 h14_0_4 x) (roundK i_SolveAt_l14_L.kp i_SolveAt_l14_L.kx c) = (i_SolveAt_l14 h14_0_0 h14_0_2 h14_0_4 x).run (roundR (i_SolveAt_l14_mk z14_0 h14_0_0 h14_0_2 h14_0_4) (i_SolveAt_l14_out z14_0 h14_0_0 h14_0_2 h14_0_4) c) := fun _ _ _ _ _ _ => by
 kernel_rfl
theorem i_SolveAt_l14_ok : LoopOK i_SolveAt_V i_SolveAt_A (loopAt i_SolveAt_b 1) i_SolveAt_l14_L := loopOK_of fun s e s' h => by
 generalize hs : restrict i_SolveAt_l14_L.kp s = s1 at h
 have h : (i_SolveAt_l14_D s1).run some = some (e, s') := h
 obtain ⟨e1, h_0⟩ := asPtr_spec h
 obtain ⟨e2, h_1⟩ := asRef_spec h_0
 obtain ⟨e3, h_2⟩ := asRef_spec h_1
 obtain ⟨d5, e4, h_3⟩ := asImmZ_spec h_2
 obtain ⟨d7, e6, h_4⟩ := asImmZ_spec h_3
 obtain ⟨m9, d10, e8, h_5⟩ := asRoot_spec h_4
 obtain ⟨z11, rfl, h_6⟩ := asMImm_spec h_5
 obtain ⟨m13, d14, e12, h_7⟩ := asRoot_spec h_6
 obtain ⟨rfl, h_8⟩ := asM_spec h_7
 obtain ⟨m16, d17, e15, h_9⟩ := asRoot_spec h_8
 obtain ⟨rfl, h_10⟩ := asM_spec h_9
 obtain ⟨y, hy, hz⟩ := mat_some h_10
 refine ⟨_, _, i_SolveAt_l14_mk z11 d5 d10 d17, i_SolveAt_l14_out z11 d5 d10 d17, i_SolveAt_l14 d5 d10 d17, (d7, d14), y, ?_, hy, ?_, i_SolveAt_l14_step z11 d5 d10 d17⟩
 ·subst hs; exact restrict_eq (T := [(3, (.ptr (5, 0) [])), (12, (.ref (14, 0) [])), (57, (.ref (59, 0) [])), (58, (.imm true (.int .i64) d5)), (59, (.imm true (.int .i64) d7))]) (U := [((5, 0), some ⟨true, kNet, (.imm z11), d10⟩), ((14, 0), some ⟨false, (.sl (.int .i64)), .own, d14⟩), ((59, 0), some ⟨false, (.sl (.sl (.int .i64))), .own, d17⟩)]) rfl rfl ⟨e1, e2, e3, e4, e6, trivial⟩ ⟨e8, e12, e15, trivial⟩
 ·rcases y with x | x <;> exact Option.some.inj hz
noncomputable def i_SolveAt_I : FnI := ⟨i_SolveAt_b, Try.f19.results.toList, Try.f19.resultTypes.toList, i_SolveAt_A⟩
noncomputable def i_SolveAt_out (_zp0 : Bool) (_zp1 : Bool) (_p0 : TNet) (_p1 : Int) (_p2 : (List Int)) : (Int × (List Int)) → CallOut := fun r => ⟨(.tcons (.ref (1, 0) []) (.tcons (.imm true (.int .i64) r.1) .tnil)), [], [⟨false, (.sl (.int .i64)), .own, r.2⟩]⟩
set_option maxRecDepth 100000 in
theorem i_SolveAt_eq : ∀ (zp0 : Bool) (zp1 : Bool) (p0 : TNet) (p1 : Int) (p2 : (List Int)), denFn i_SolveAt_V i_SolveAt_I ⟨[(.imm zp0 kNet p0), (.imm true (.int .i64) p1), (.imm zp1 (.sl (.int .i64)) p2)], []⟩ = (i_SolveAt p0 p1 p2).run fun r => some (i_SolveAt_out zp0 zp1 p0 p1 p2 r) := fun _ _ _ _ _ => by kernel_rfl
noncomputable def i_SolveAt_G (av : List AV) (rs : List Root) : Tre CallOut :=
 asCons av fun a0_ av0 =>
 asCons av0 fun a1_ av1 =>
 asCons av1 fun a2_ av2 =>
 asEnd av2 <|
 asEnd rs <|
 asImm kNet a0_ fun z2 d1 =>
 asImmZ true (.int .i64) a1_ fun d3 =>
 asImm (.sl (.int .i64)) a2_ fun z5 d4 =>
 .mat (i_SolveAt_F d1 d3 d4) fun r => .ret (i_SolveAt_out z2 z5 d1 d3 d4 r)
noncomputable def i_SolveAt_c : Ctr := ⟨[], fun ci => i_SolveAt_G ci.args ci.roots, false⟩
theorem i_SolveAt_env : EnvOK Try.prog .none i_SolveAt_V := (envOK_cons i_nodeCode_i_SolveAtc1_ok ent48 (envOK_cons i_Net_rank_ok ent50 (envOK_cons i_Net_rowsZ_ok ent56 (envOK_cons slices_Clone_int64_ok ent57 (envOK_cons i_Field_reduce_ok ent58 envOK_nil)))))
set_option maxRecDepth 100000 in
theorem i_SolveAt_ok : Contract Try.prog .none 19 i_SolveAt_c := by
 have hl : LoopsOK i_SolveAt_V i_SolveAt_A i_SolveAt_b := (loopsOK_all (n := 2) (by kernel_rfl) fun k hk => by
   match k, hk with
   | 0, _ => exact loopOK_at (id := 8) (L := i_SolveAt_l8_L) (by kernel_rfl) (by kernel_rfl) i_SolveAt_l8_ok
   | 1, _ => exact loopOK_at (id := 14) (L := i_SolveAt_l14_L) (by kernel_rfl) (by kernel_rfl) i_SolveAt_l14_ok)
 refine (contract_of (F := i_SolveAt_I) tau_tys i_SolveAt_env Try.func19 (by kernel_rfl) (by kernel_rfl) (by kernel_rfl) hl []).weaken ?_
 rintro ⟨av, rs⟩ co h
 have h : (i_SolveAt_G av rs).run some = some co := h
 obtain ⟨a0_, av0, rfl, h_0⟩ := asCons_spec h
 obtain ⟨a1_, av1, rfl, h_1⟩ := asCons_spec h_0
 obtain ⟨a2_, av2, rfl, h_2⟩ := asCons_spec h_1
 obtain ⟨rfl, h_3⟩ := asEnd_spec h_2
 obtain ⟨rfl, h_4⟩ := asEnd_spec h_3
 obtain ⟨z2, d1, rfl, h_5⟩ := asImm_spec h_4
 obtain ⟨d3, rfl, h_6⟩ := asImmZ_spec h_5
 obtain ⟨z5, d4, rfl, h_7⟩ := asImm_spec h_6
 exact fin_mat (i_SolveAt_eq z2 z5 d1 d3 d4) h_7
end Go.Proofs.Ytkgekgfmnhccmaa

namespace Go.Proofs.Ytkgekgfmnhccmaa
open Go Go.Abs Go.Proofs
noncomputable def l_eqInt64S_l4 (h4_0_0 : (List Int)) (h4_0_1 : (List Int)) : Int → Tre (Int ⊕ (Bool ⊕ Unit)) := fun s4 =>
 .cond (decide (s4 < (h4_0_0.length : Int)))
  (.ite (0 ≤ s4 ∧ s4 < (h4_0_0.length : Int)) <|
  .mat (h4_0_0[s4.toNat]?) fun x1 =>
  .ite (0 ≤ s4 ∧ s4 < (h4_0_1.length : Int)) <|
  .mat (h4_0_1[s4.toNat]?) fun x2 =>
  .cond (!decide (x1 = x2))
   (.ret (.inr (.inl false)))
   (.ret (.inl (iwrap .i64 (s4 + 1)))))
  (.ret (.inr (.inr ())))
noncomputable def l_eqInt64S (p0 : (List Int)) (p1 : (List Int)) : Tre Bool :=
 .cond (!decide ((p0.length : Int) = (p1.length : Int)))
  (.ret false)
  (.mat (loopF (l_eqInt64S_l4 p0 p1) 0) fun l3 =>
  .alt l3
   (fun a4 =>
    .ret a4)
   (fun _ =>
    .ret true))
noncomputable def l_eqInt64S_F (p0 : (List Int)) (p1 : (List Int)) : Option Bool := (l_eqInt64S p0 p1).run some
abbrev eqS (p0 p1 : List Int) : Option Bool := eqR p0.length p0 p1
theorem l_eqInt64S_spec (p0 p1 : List Int) (y : Bool) (h : eqR p0.length p0 p1 = some y) : l_eqInt64S_F p0 p1 = some y := by
 obtain ⟨hl, rfl, rfl⟩ := eqR_some h
 unfold l_eqInt64S_F l_eqInt64S
 rw [Tre.run_cond, show (!decide ((p0.length : Int) = (p0.length : Int))) = false from by simp, cond_false, Tre.run_mat, find_loop (xs := p0) (fun _ _ => none) (.inr ())]
 ·have : ∀ (l : List Int) (i : Nat), findE (β := Bool ⊕ Unit) (fun _ _ => none) (.inr ()) i l = .inr () := by
   intro l
   induction l with
   | nil => intro i; rfl
   | cons x l ih => intro i; exact ih _
  rw [this]
  rfl
 ·intro i x hx
  have hi : i < p0.length := (List.getElem?_eq_some_iff.1 hx).1
  unfold l_eqInt64S_l4
  rw [run_inb hx, run_at hx, Tre.run_cond]
  simp only [decide_true, Bool.not_true, cond_false, Tre.run_ret, iwrap_succ (show i < 4611686018427387904 by omega)]
 ·unfold l_eqInt64S_l4
  exact run_out
noncomputable def l_eqInt64S_V : Env := ⟨tau, [], []⟩
noncomputable def l_eqInt64S_b : Code := (Try.f24.body).getD .skip
noncomputable def l_eqInt64S_l4_mk (z4_0 : Bool) (z4_1 : Bool) (h4_0_0 : (List Int)) (h4_0_1 : (List Int)) : Int → St := fun x => stOf [(0, (.imm z4_0 (.sl (.int .i64)) h4_0_0)), (1, (.imm z4_1 (.sl (.int .i64)) h4_0_1)), (5, (.imm true (.int .i64) x))] []
noncomputable def l_eqInt64S_l4_out (_z4_0 : Bool) (_z4_1 : Bool) (_h4_0_0 : (List Int)) (_h4_0_1 : (List Int)) : (Bool ⊕ Unit) → Ex × St
 | .inl x => (.ret, stOf [(4, (.imm true .bool x))] [])
 | .inr x => (.exit 0, stOf [(4, .dead)] [])
noncomputable def l_eqInt64S_l4_D (s : St) : Tre (Ex × St) :=
 asImm (.sl (.int .i64)) (s.tmps 0) fun z3 d2 =>
 asImm (.sl (.int .i64)) (s.tmps 1) fun z6 d5 =>
 asImmZ true (.int .i64) (s.tmps 5) fun d8 =>
 .mat (loopF (l_eqInt64S_l4 d2 d5) d8) fun x => .alt x (fun a0 => .ret (l_eqInt64S_l4_out z3 z6 d2 d5 (.inl a0))) (fun b0 => .ret (l_eqInt64S_l4_out z3 z6 d2 d5 (.inr b0)))
noncomputable def l_eqInt64S_l4_L : LoopI := ⟨([0, 1, 5], []), ([4], []), l_eqInt64S_l4_D⟩
noncomputable def l_eqInt64S_A : List (Nat × LoopI) := [(4, l_eqInt64S_l4_L)]
set_option maxRecDepth 100000 in
theorem l_eqInt64S_l4_step : ∀ (z4_0 : Bool) (z4_1 : Bool) (h4_0_0 : (List Int)) (h4_0_1 : (List Int)) (x : Int) (c : St → Option (Ex × St)), den l_eqInt64S_V l_eqInt64S_A (loopAt l_eqInt64S_b 0) (l_eqInt64S_l4_mk z4_0 z4_1 h4_0_0 h4_0_1 x) (roundK l_eqInt64S_l4_L.kp l_eqInt64S_l4_L.kx c) = (l_eqInt64S_l4 h4_0_0 h4_0_1 x).run (roundR (l_eqInt64S_l4_mk z4_0 z4_1 h4_0_0 h4_0_1) (l_eqInt64S_l4_out z4_0 z4_1 h4_0_0 h4_0_1) c) := fun _ _ _ _ _ _ => by
 kernel_rfl
theorem l_eqInt64S_l4_ok : LoopOK l_eqInt64S_V l_eqInt64S_A (loopAt l_eqInt64S_b 0) l_eqInt64S_l4_L := loopOK_of fun s e s' h => by
 generalize hs : restrict l_eqInt64S_l4_L.kp s = s1 at h
 have h : (l_eqInt64S_l4_D s1).run some = some (e, s') := h
 obtain ⟨z3, d2, e1, h_0⟩ := asImm_spec h
 obtain ⟨z6, d5, e4, h_1⟩ := asImm_spec h_0
 obtain ⟨d8, e7, h_2⟩ := asImmZ_spec h_1
 obtain ⟨y, hy, hz⟩ := mat_some h_2
 refine ⟨_, _, l_eqInt64S_l4_mk z3 z6 d2 d5, l_eqInt64S_l4_out z3 z6 d2 d5, l_eqInt64S_l4 d2 d5, d8, y, ?_, hy, ?_, l_eqInt64S_l4_step z3 z6 d2 d5⟩
 ·subst hs; exact restrict_eq (T := [(0, (.imm z3 (.sl (.int .i64)) d2)), (1, (.imm z6 (.sl (.int .i64)) d5)), (5, (.imm true (.int .i64) d8))]) (U := []) rfl rfl ⟨e1, e4, e7, trivial⟩ trivial
 ·rcases y with x | x <;> exact Option.some.inj hz
noncomputable def l_eqInt64S_I : FnI := ⟨l_eqInt64S_b, Try.f24.results.toList, Try.f24.resultTypes.toList, l_eqInt64S_A⟩
noncomputable def l_eqInt64S_out (_zp0 : Bool) (_zp1 : Bool) (_p0 : (List Int)) (_p1 : (List Int)) : Bool → CallOut := fun r => ⟨(.imm true .bool r), [], []⟩
set_option maxRecDepth 100000 in
theorem l_eqInt64S_eq : ∀ (zp0 : Bool) (zp1 : Bool) (p0 : (List Int)) (p1 : (List Int)), denFn l_eqInt64S_V l_eqInt64S_I ⟨[(.imm zp0 (.sl (.int .i64)) p0), (.imm zp1 (.sl (.int .i64)) p1)], []⟩ = (l_eqInt64S p0 p1).run fun r => some (l_eqInt64S_out zp0 zp1 p0 p1 r) := fun _ _ _ _ => by kernel_rfl
noncomputable def l_eqInt64S_G (av : List AV) (rs : List Root) : Tre CallOut :=
 asCons av fun a0_ av0 =>
 asCons av0 fun a1_ av1 =>
 asEnd av1 <|
 asEnd rs <|
 asImm (.sl (.int .i64)) a0_ fun z2 d1 =>
 asImm (.sl (.int .i64)) a1_ fun z4 d3 =>
 .mat (eqS d1 d3) fun r => .ret (l_eqInt64S_out z2 z4 d1 d3 r)
noncomputable def l_eqInt64S_c : Ctr := ⟨[], fun ci => l_eqInt64S_G ci.args ci.roots, false⟩
theorem l_eqInt64S_env : EnvOK Try.prog .none l_eqInt64S_V := envOK_nil
set_option maxRecDepth 100000 in
theorem l_eqInt64S_ok : Contract Try.prog .none 24 l_eqInt64S_c := by
 have hl : LoopsOK l_eqInt64S_V l_eqInt64S_A l_eqInt64S_b := (loopsOK_all (n := 1) (by kernel_rfl) fun k hk => by
   match k, hk with
   | 0, _ => exact loopOK_at (id := 4) (L := l_eqInt64S_l4_L) (by kernel_rfl) (by kernel_rfl) l_eqInt64S_l4_ok)
 refine (contract_of (F := l_eqInt64S_I) tau_tys l_eqInt64S_env Try.func24 (by kernel_rfl) (by kernel_rfl) (by kernel_rfl) hl []).weaken ?_
 rintro ⟨av, rs⟩ co h
 have h : (l_eqInt64S_G av rs).run some = some co := h
 obtain ⟨a0_, av0, rfl, h_0⟩ := asCons_spec h
 obtain ⟨a1_, av1, rfl, h_1⟩ := asCons_spec h_0
 obtain ⟨rfl, h_2⟩ := asEnd_spec h_1
 obtain ⟨rfl, h_3⟩ := asEnd_spec h_2
 obtain ⟨z2, d1, rfl, h_4⟩ := asImm_spec h_3
 obtain ⟨z4, d3, rfl, h_5⟩ := asImm_spec h_4
 exact fin_opt (l_eqInt64S_eq z2 z4 d1 d3) (l_eqInt64S_spec d1 d3) h_5
end Go.Proofs.Ytkgekgfmnhccmaa

namespace Go.Proofs.Ytkgekgfmnhccmaa
open Go Go.Abs Go.Proofs
noncomputable def l_eqField (p0 : (Int × (Int × Unit))) (p1 : (Int × (Int × Unit))) : Tre Bool :=
 .cond (!decide (p0.1 = p1.1))
  (.ret false)
  (.cond (!decide (p0.2.1 = p1.2.1))
   (.ret false)
   (.ret true))
noncomputable def l_eqField_F (p0 : (Int × (Int × Unit))) (p1 : (Int × (Int × Unit))) : Option Bool := (l_eqField p0 p1).run some
def l_eqField_S (p0 : (Int × (Int × Unit))) (p1 : (Int × (Int × Unit))) : Bool :=
 cond (!decide (p0.1 = p1.1))
  (false)
  (cond (!decide (p0.2.1 = p1.2.1))
   (false)
   (true))
theorem l_eqField_spec (p0 : (Int × (Int × Unit))) (p1 : (Int × (Int × Unit))) : l_eqField_F p0 p1 = some (l_eqField_S p0 p1) := (run_cond_some rfl (run_cond_some rfl rfl))
noncomputable def l_eqField_V : Env := ⟨tau, [], []⟩
noncomputable def l_eqField_b : Code := (Try.f68.body).getD .skip
noncomputable def l_eqField_I : FnI := ⟨l_eqField_b, Try.f68.results.toList, Try.f68.resultTypes.toList, []⟩
noncomputable def l_eqField_out (_p0 : (Int × (Int × Unit))) (_p1 : (Int × (Int × Unit))) : Bool → CallOut := fun r => ⟨(.imm true .bool r), [], []⟩
set_option maxRecDepth 100000 in
theorem l_eqField_eq : ∀ (p0 : (Int × (Int × Unit))) (p1 : (Int × (Int × Unit))), denFn l_eqField_V l_eqField_I ⟨[(.imm true kField p0), (.imm true kField p1)], []⟩ = (l_eqField p0 p1).run fun r => some (l_eqField_out p0 p1 r) := fun _ _ => by kernel_rfl
noncomputable def l_eqField_G (av : List AV) (rs : List Root) : Tre CallOut :=
 asCons av fun a0_ av0 =>
 asCons av0 fun a1_ av1 =>
 asEnd av1 <|
 asEnd rs <|
 asImmZ true kField a0_ fun d1 =>
 asImmZ true kField a1_ fun d2 =>
 .ret (l_eqField_out d1 d2 (l_eqField_S d1 d2))
noncomputable def l_eqField_c : Ctr := ⟨[], fun ci => l_eqField_G ci.args ci.roots, false⟩
theorem l_eqField_env : EnvOK Try.prog .none l_eqField_V := envOK_nil
set_option maxRecDepth 100000 in
theorem l_eqField_ok : Contract Try.prog .none 68 l_eqField_c := by
 have hl : LoopsOK l_eqField_V [] l_eqField_b := loopsOK_nil (by kernel_rfl)
 refine (contract_of (F := l_eqField_I) tau_tys l_eqField_env Try.func68 (by kernel_rfl) (by kernel_rfl) (by kernel_rfl) hl []).weaken ?_
 rintro ⟨av, rs⟩ co h
 have h : (l_eqField_G av rs).run some = some co := h
 obtain ⟨a0_, av0, rfl, h_0⟩ := asCons_spec h
 obtain ⟨a1_, av1, rfl, h_1⟩ := asCons_spec h_0
 obtain ⟨rfl, h_2⟩ := asEnd_spec h_1
 obtain ⟨rfl, h_3⟩ := asEnd_spec h_2
 obtain ⟨d1, rfl, h_4⟩ := asImmZ_spec h_3
 obtain ⟨d2, rfl, h_5⟩ := asImmZ_spec h_4
 exact fin_ret (l_eqField_eq d1 d2) (l_eqField_spec d1 d2) h_5
end Go.Proofs.Ytkgekgfmnhccmaa

namespace Go.Proofs.Ytkgekgfmnhccmaa
open Go Go.Abs Go.Proofs
noncomputable def l_eqInt64SS_l4 (h4_0_0 : (List (List Int))) (h4_0_1 : (List (List Int))) : Int → Tre (Int ⊕ (Bool ⊕ Unit)) := fun s4 =>
 .cond (decide (s4 < (h4_0_0.length : Int)))
  (.ite (0 ≤ s4 ∧ s4 < (h4_0_0.length : Int)) <|
  .mat (h4_0_0[s4.toNat]?) fun x1 =>
  .ite (0 ≤ s4 ∧ s4 < (h4_0_1.length : Int)) <|
  .mat (h4_0_1[s4.toNat]?) fun x2 =>
  .mat (eqS x1 x2) fun r3 =>
  .cond (!r3)
   (.ret (.inr (.inl false)))
   (.ret (.inl (iwrap .i64 (s4 + 1)))))
  (.ret (.inr (.inr ())))
noncomputable def l_eqInt64SS (p0 : (List (List Int))) (p1 : (List (List Int))) : Tre Bool :=
 .cond (!decide ((p0.length : Int) = (p1.length : Int)))
  (.ret false)
  (.mat (loopF (l_eqInt64SS_l4 p0 p1) 0) fun l4 =>
  .alt l4
   (fun a5 =>
    .ret a5)
   (fun _ =>
    .ret true))
noncomputable def l_eqInt64SS_F (p0 : (List (List Int))) (p1 : (List (List Int))) : Option Bool := (l_eqInt64SS p0 p1).run some
-- more
theorem l_eqInt64SS_is (p0 : List (List Int)) (h : sizeSS p0 ≤ 1048576) : l_eqInt64SS_F p0 p0 = some true := by
 have hl : p0.length ≤ 1048576 := by unfold sizeSS at h; omega
 unfold l_eqInt64SS_F l_eqInt64SS
 rw [Tre.run_cond, show (!decide ((p0.length : Int) = (p0.length : Int))) = false from by simp, cond_false, Tre.run_mat, find_loop (xs := p0) (fun _ _ => none) (.inr ())]
 ·have : ∀ (l : List (List Int)) (i : Nat), findE (β := Bool ⊕ Unit) (fun _ _ => none) (.inr ()) i l = .inr () := by
   intro l
   induction l with
   | nil => intro i; rfl
   | cons x l ih => intro i; exact ih _
  rw [this]
  rfl
 ·intro i x hx
  have hi : i < p0.length := (List.getElem?_eq_some_iff.1 hx).1
  unfold l_eqInt64SS_l4
  rw [run_inb hx, run_at hx, run_some_mat (show eqS x x = some true from eqR_self (by have := sizeSS_mem (List.mem_of_getElem? hx); omega)), Tre.run_cond]
  simp only [Bool.not_true, cond_false, Tre.run_ret, iwrap_succ (show i < 4611686018427387904 by omega)]
 ·unfold l_eqInt64SS_l4
  exact run_out
noncomputable def l_eqInt64SS_V : Env := ⟨tau, [(24, l_eqInt64S_c)], []⟩
noncomputable def l_eqInt64SS_b : Code := (Try.f69.body).getD .skip
noncomputable def l_eqInt64SS_l4_mk (z4_0 : Bool) (z4_1 : Bool) (h4_0_0 : (List (List Int))) (h4_0_1 : (List (List Int))) : Int → St := fun x => stOf [(0, (.imm z4_0 (.sl (.sl (.int .i64))) h4_0_0)), (1, (.imm z4_1 (.sl (.sl (.int .i64))) h4_0_1)), (5, (.imm true (.int .i64) x))] []
noncomputable def l_eqInt64SS_l4_out (_z4_0 : Bool) (_z4_1 : Bool) (_h4_0_0 : (List (List Int))) (_h4_0_1 : (List (List Int))) : (Bool ⊕ Unit) → Ex × St
 | .inl x => (.ret, stOf [(4, (.imm true .bool x))] [])
 | .inr x => (.exit 0, stOf [(4, .dead)] [])
noncomputable def l_eqInt64SS_l4_D (s : St) : Tre (Ex × St) :=
 asImm (.sl (.sl (.int .i64))) (s.tmps 0) fun z3 d2 =>
 asImm (.sl (.sl (.int .i64))) (s.tmps 1) fun z6 d5 =>
 asImmZ true (.int .i64) (s.tmps 5) fun d8 =>
 .mat (loopF (l_eqInt64SS_l4 d2 d5) d8) fun x => .alt x (fun a0 => .ret (l_eqInt64SS_l4_out z3 z6 d2 d5 (.inl a0))) (fun b0 => .ret (l_eqInt64SS_l4_out z3 z6 d2 d5 (.inr b0)))
noncomputable def l_eqInt64SS_l4_L : LoopI := ⟨([0, 1, 5], []), ([4], []), l_eqInt64SS_l4_D⟩
noncomputable def l_eqInt64SS_A : List (Nat × LoopI) := [(4, l_eqInt64SS_l4_L)]
set_option maxRecDepth 100000 in
theorem l_eqInt64SS_l4_step : ∀ (z4_0 : Bool) (z4_1 : Bool) (h4_0_0 : (List (List Int))) (h4_0_1 : (List (List Int))) (x : Int) (c : St → Option (Ex × St)), den l_eqInt64SS_V l_eqInt64SS_A (loopAt l_eqInt64SS_b 0) (l_eqInt64SS_l4_mk z4_0 z4_1 h4_0_0 h4_0_1 x) (roundK l_eqInt64SS_l4_L.kp l_eqInt64SS_l4_L.kx c) = (l_eqInt64SS_l4 h4_0_0 h4_0_1 x).run (roundR (l_eqInt64SS_l4_mk z4_0 z4_1 h4_0_0 h4_0_1) (l_eqInt64SS_l4_out z4_0 z4_1 h4_0_0 h4_0_1) c) := fun _ _ _ _ _ _ => by
 kernel_rfl
theorem l_eqInt64SS_l4_ok : LoopOK l_eqInt64SS_V l_eqInt64SS_A (loopAt l_eqInt64SS_b 0) l_eqInt64SS_l4_L := loopOK_of fun s e s' h => by
 generalize hs : restrict l_eqInt64SS_l4_L.kp s = s1 at h
 have h : (l_eqInt64SS_l4_D s1).run some = some (e, s') := h
 obtain ⟨z3, d2, e1, h_0⟩ := asImm_spec h
 obtain ⟨z6, d5, e4, h_1⟩ := asImm_spec h_0
 obtain ⟨d8, e7, h_2⟩ := asImmZ_spec h_1
 obtain ⟨y, hy, hz⟩ := mat_some h_2
 refine ⟨_, _, l_eqInt64SS_l4_mk z3 z6 d2 d5, l_eqInt64SS_l4_out z3 z6 d2 d5, l_eqInt64SS_l4 d2 d5, d8, y, ?_, hy, ?_, l_eqInt64SS_l4_step z3 z6 d2 d5⟩
 ·subst hs; exact restrict_eq (T := [(0, (.imm z3 (.sl (.sl (.int .i64))) d2)), (1, (.imm z6 (.sl (.sl (.int .i64))) d5)), (5, (.imm true (.int .i64) d8))]) (U := []) rfl rfl ⟨e1, e4, e7, trivial⟩ trivial
 ·rcases y with x | x <;> exact Option.some.inj hz
noncomputable def l_eqInt64SS_I : FnI := ⟨l_eqInt64SS_b, Try.f69.results.toList, Try.f69.resultTypes.toList, l_eqInt64SS_A⟩
noncomputable def l_eqInt64SS_out (_zp0 : Bool) (_zp1 : Bool) (_p0 : (List (List Int))) (_p1 : (List (List Int))) : Bool → CallOut := fun r => ⟨(.imm true .bool r), [], []⟩
set_option maxRecDepth 100000 in
theorem l_eqInt64SS_eq : ∀ (zp0 : Bool) (zp1 : Bool) (p0 : (List (List Int))) (p1 : (List (List Int))), denFn l_eqInt64SS_V l_eqInt64SS_I ⟨[(.imm zp0 (.sl (.sl (.int .i64))) p0), (.imm zp1 (.sl (.sl (.int .i64))) p1)], []⟩ = (l_eqInt64SS p0 p1).run fun r => some (l_eqInt64SS_out zp0 zp1 p0 p1 r) := fun _ _ _ _ => by kernel_rfl
noncomputable def l_eqInt64SS_G (av : List AV) (rs : List Root) : Tre CallOut :=
 asCons av fun a0_ av0 =>
 asCons av0 fun a1_ av1 =>
 asEnd av1 <|
 asEnd rs <|
 asImm (.sl (.sl (.int .i64))) a0_ fun z2 d1 =>
 asImm (.sl (.sl (.int .i64))) a1_ fun z4 d3 =>
 .mat (l_eqInt64SS_F d1 d3) fun r => .ret (l_eqInt64SS_out z2 z4 d1 d3 r)
noncomputable def l_eqInt64SS_c : Ctr := ⟨[], fun ci => l_eqInt64SS_G ci.args ci.roots, false⟩
theorem l_eqInt64SS_env : EnvOK Try.prog .none l_eqInt64SS_V := (envOK_cons l_eqInt64S_ok ent24 envOK_nil)
set_option maxRecDepth 100000 in
theorem l_eqInt64SS_ok : Contract Try.prog .none 69 l_eqInt64SS_c := by
 have hl : LoopsOK l_eqInt64SS_V l_eqInt64SS_A l_eqInt64SS_b := (loopsOK_all (n := 1) (by kernel_rfl) fun k hk => by
   match k, hk with
   | 0, _ => exact loopOK_at (id := 4) (L := l_eqInt64SS_l4_L) (by kernel_rfl) (by kernel_rfl) l_eqInt64SS_l4_ok)
 refine (contract_of (F := l_eqInt64SS_I) tau_tys l_eqInt64SS_env Try.func69 (by kernel_rfl) (by kernel_rfl) (by kernel_rfl) hl []).weaken ?_
 rintro ⟨av, rs⟩ co h
 have h : (l_eqInt64SS_G av rs).run some = some co := h
 obtain ⟨a0_, av0, rfl, h_0⟩ := asCons_spec h
 obtain ⟨a1_, av1, rfl, h_1⟩ := asCons_spec h_0
 obtain ⟨rfl, h_2⟩ := asEnd_spec h_1
 obtain ⟨rfl, h_3⟩ := asEnd_spec h_2
 obtain ⟨z2, d1, rfl, h_4⟩ := asImm_spec h_3
 obtain ⟨z4, d3, rfl, h_5⟩ := asImm_spec h_4
 exact fin_mat (l_eqInt64SS_eq z2 z4 d1 d3) h_5
end Go.Proofs.Ytkgekgfmnhccmaa

namespace Go.Proofs.Ytkgekgfmnhccmaa
open Go Go.Abs Go.Proofs
noncomputable def l_eqNet (p0 : TNet) (p1 : TNet) : Tre Bool :=
 .cond (!(l_eqField_S p0.1 p1.1))
  (.ret false)
  (.cond (!decide (p0.2.1 = p1.2.1))
   (.ret false)
   (.cond (!decide (p0.2.2.1 = p1.2.2.1))
    (.ret false)
    (.mat (l_eqInt64SS_F p0.2.2.2.1 p1.2.2.2.1) fun r1 =>
    .cond (!r1)
     (.ret false)
     (.mat (l_eqInt64SS_F p0.2.2.2.2.1 p1.2.2.2.2.1) fun r2 =>
     .cond (!r2)
      (.ret false)
      (.ret true)))))
noncomputable def l_eqNet_F (p0 : TNet) (p1 : TNet) : Option Bool := (l_eqNet p0 p1).run some
-- more
theorem l_eqNet_is (n : TN6) (h : sizeSS n.2.2.2.1 ≤ 1048576) (h' : sizeSS n.2.2.2.2.1 ≤ 1048576) : l_eqNet_F n n = some true := by
 unfold l_eqNet_F l_eqNet
 rw [Tre.run_cond, show l_eqField_S n.1 n.1 = true from by unfold l_eqField_S; simp]
 rw [Bool.not_true, cond_false, Tre.run_cond, decide_eq_true rfl, Bool.not_true, cond_false, Tre.run_cond, decide_eq_true rfl, Bool.not_true, cond_false]
 rw [run_some_mat (l_eqInt64SS_is _ h), Tre.run_cond, Bool.not_true, cond_false, run_some_mat (l_eqInt64SS_is _ h')]
 rfl
noncomputable def l_eqNet_V : Env := ⟨tau, [(68, l_eqField_c), (69, l_eqInt64SS_c)], []⟩
noncomputable def l_eqNet_b : Code := (Try.f25.body).getD .skip
noncomputable def l_eqNet_I : FnI := ⟨l_eqNet_b, Try.f25.results.toList, Try.f25.resultTypes.toList, []⟩
noncomputable def l_eqNet_out (_zp0 : Bool) (_zp1 : Bool) (_p0 : TNet) (_p1 : TNet) : Bool → CallOut := fun r => ⟨(.imm true .bool r), [], []⟩
set_option maxRecDepth 100000 in
theorem l_eqNet_eq : ∀ (zp0 : Bool) (zp1 : Bool) (p0 : TNet) (p1 : TNet), denFn l_eqNet_V l_eqNet_I ⟨[(.imm zp0 kNet p0), (.imm zp1 kNet p1)], []⟩ = (l_eqNet p0 p1).run fun r => some (l_eqNet_out zp0 zp1 p0 p1 r) := fun _ _ _ _ => by kernel_rfl
noncomputable def l_eqNet_G (av : List AV) (rs : List Root) : Tre CallOut :=
 asCons av fun a0_ av0 =>
 asCons av0 fun a1_ av1 =>
 asEnd av1 <|
 asEnd rs <|
 asImm kNet a0_ fun z2 d1 =>
 asImm kNet a1_ fun z4 d3 =>
 .mat (l_eqNet_F d1 d3) fun r => .ret (l_eqNet_out z2 z4 d1 d3 r)
noncomputable def l_eqNet_c : Ctr := ⟨[], fun ci => l_eqNet_G ci.args ci.roots, false⟩
theorem l_eqNet_env : EnvOK Try.prog .none l_eqNet_V := (envOK_cons l_eqField_ok ent68 (envOK_cons l_eqInt64SS_ok ent69 envOK_nil))
set_option maxRecDepth 100000 in
theorem l_eqNet_ok : Contract Try.prog .none 25 l_eqNet_c := by
 have hl : LoopsOK l_eqNet_V [] l_eqNet_b := loopsOK_nil (by kernel_rfl)
 refine (contract_of (F := l_eqNet_I) tau_tys l_eqNet_env Try.func25 (by kernel_rfl) (by kernel_rfl) (by kernel_rfl) hl []).weaken ?_
 rintro ⟨av, rs⟩ co h
 have h : (l_eqNet_G av rs).run some = some co := h
 obtain ⟨a0_, av0, rfl, h_0⟩ := asCons_spec h
 obtain ⟨a1_, av1, rfl, h_1⟩ := asCons_spec h_0
 obtain ⟨rfl, h_2⟩ := asEnd_spec h_1
 obtain ⟨rfl, h_3⟩ := asEnd_spec h_2
 obtain ⟨z2, d1, rfl, h_4⟩ := asImm_spec h_3
 obtain ⟨z4, d3, rfl, h_5⟩ := asImm_spec h_4
 exact fin_mat (l_eqNet_eq z2 z4 d1 d3) h_5
end Go.Proofs.Ytkgekgfmnhccmaa

namespace Go.Proofs.Ytkgekgfmnhccmaa
open Go Go.Abs Go.Proofs
noncomputable def l_markInt64S_df1e_l2 : (Int × Int × (List Int)) → Tre ((Int × Int × (List Int)) ⊕ (Int × (List Int))) := fun s2 =>
 .cond (decide (s2.2.1 < (s2.2.2.length : Int)))
  (.ite (0 ≤ s2.2.1 ∧ s2.2.1 < (s2.2.2.length : Int)) <|
  .mat (s2.2.2[s2.2.1.toNat]?) fun _ =>
  let v2 := s2.2.2.set s2.2.1.toNat s2.1
  .ret (.inl (iwrap .i64 (s2.1 + 1), iwrap .i64 (s2.2.1 + 1), v2)))
  (.ret (.inr (s2.1, s2.2.2)))
noncomputable def l_markInt64S_df1e (p0 : Int) (p1 : (List Int)) : Tre (Int × (List Int)) :=
 .mat (loopF l_markInt64S_df1e_l2 (p0, 0, p1)) fun l3 =>
 .ret (l3.1, l3.2)
noncomputable def l_markInt64S_df1e_F (p0 : Int) (p1 : (List Int)) : Option (Int × (List Int)) := (l_markInt64S_df1e p0 p1).run some
def markR (k : Int) (xs : List Int) : Option (Int × List Int) := askO (inR k 0 1048576 && decide (xs.length ≤ 1048576)) (k + (xs.length : Int), marks k xs.length)
theorem l_markInt64S_df1e_spec (p0 : Int) (p1 : List Int) (y : Int × List Int) (h : markR p0 p1 = some y) : l_markInt64S_df1e_F p0 p1 = some y := by
 obtain ⟨hok, rfl⟩ := askO_some h
 simp only [Bool.and_eq_true, decide_eq_true_eq, inR_iff] at hok
 obtain ⟨hk, hl⟩ := hok
 unfold l_markInt64S_df1e_F l_markInt64S_df1e
 have := fold_loop (xs := p1) (step := l_markInt64S_df1e_l2) (fun i acc => (p0 + (i : Int), (i : Int), acc)) (fun i acc _ => .inl (acc.set i (p0 + (i : Int)))) (fun acc => (p0 + (p1.length : Int), acc)) (fun i acc => acc.length = p1.length) (by
  intro i acc x hx hI
  have hi : i < p1.length := (List.getElem?_eq_some_iff.1 hx).1
  refine ⟨?_, fun a ha => by cases ha; simpa using hI⟩
  unfold l_markInt64S_df1e_l2
  rw [run_inb (List.getElem?_eq_getElem (by omega : i < acc.length))]
  dsimp only
  rw [Tre.run_ret, iwrap_succ (by omega), iwrap_i64 (by omega) (by omega), Int.toNat_natCast]
  simp only [Int.natCast_add, Int.natCast_one, Int.add_assoc])
  (by
  intro acc hI
  unfold l_markInt64S_df1e_l2
  rw [← show acc.length = p1.length from hI]
  exact run_out) p1 0 p1 rfl (Nat.zero_le _) rfl
 rw [foldE_marks _ _ _ _ _ (by simp)] at this
 have h1 : loopF l_markInt64S_df1e_l2 (p0, 0, p1) = some (p0 + (p1.length : Int), marks p0 p1.length) := by
  simpa [marks] using this
 rw [run_some_mat h1]
 rfl
noncomputable def l_markInt64S_df1e_V : Env := ⟨tau, [], []⟩
noncomputable def l_markInt64S_df1e_b : Code := (Try.f27.body).getD .skip
noncomputable def l_markInt64S_df1e_l2_mk : (Int × Int × (List Int)) → St := fun x => stOf [(0, (.ref (0, 0) [])), (1, (.imm true (.int .i64) x.1)), (5, (.imm true (.int .i64) x.2.1))] [((0, 0), some ⟨false, (.sl (.int .i64)), .own, x.2.2⟩)]
noncomputable def l_markInt64S_df1e_l2_out : (Int × (List Int)) → Ex × St := fun x => (.exit 0, stOf [(1, (.imm true (.int .i64) x.1))] [((0, 0), some ⟨false, (.sl (.int .i64)), .own, x.2⟩)])
noncomputable def l_markInt64S_df1e_l2_D (s : St) : Tre (Ex × St) :=
 asRef (0, 0) [] (s.tmps 0) <|
 asImmZ true (.int .i64) (s.tmps 1) fun d3 =>
 asImmZ true (.int .i64) (s.tmps 5) fun d5 =>
 asRoot false (.sl (.int .i64)) (s.roots (0, 0)) fun m7 d8 =>
 asM .own m7 <|
 .mat (loopF l_markInt64S_df1e_l2 (d3, d5, d8)) fun x => .ret (l_markInt64S_df1e_l2_out x)
noncomputable def l_markInt64S_df1e_l2_L : LoopI := ⟨([0, 1, 5], [(0, 0)]), ([1], [(0, 0)]), l_markInt64S_df1e_l2_D⟩
noncomputable def l_markInt64S_df1e_A : List (Nat × LoopI) := [(2, l_markInt64S_df1e_l2_L)]
set_option maxRecDepth 100000 in
theorem l_markInt64S_df1e_l2_step : ∀ (x : (Int × Int × (List Int))) (c : St → Option (Ex × St)), den l_markInt64S_df1e_V l_markInt64S_df1e_A (loopAt l_markInt64S_df1e_b 0) (l_markInt64S_df1e_l2_mk x) (roundK l_markInt64S_df1e_l2_L.kp l_markInt64S_df1e_l2_L.kx c) = (l_markInt64S_df1e_l2 x).run (roundR (l_markInt64S_df1e_l2_mk) (l_markInt64S_df1e_l2_out) c) := fun _ _ => by
 kernel_rfl
theorem l_markInt64S_df1e_l2_ok : LoopOK l_markInt64S_df1e_V l_markInt64S_df1e_A (loopAt l_markInt64S_df1e_b 0) l_markInt64S_df1e_l2_L := loopOK_of fun s e s' h => by
 generalize hs : restrict l_markInt64S_df1e_l2_L.kp s = s1 at h
 have h : (l_markInt64S_df1e_l2_D s1).run some = some (e, s') := h
 obtain ⟨e1, h_0⟩ := asRef_spec h
 obtain ⟨d3, e2, h_1⟩ := asImmZ_spec h_0
 obtain ⟨d5, e4, h_2⟩ := asImmZ_spec h_1
 obtain ⟨m7, d8, e6, h_3⟩ := asRoot_spec h_2
 obtain ⟨rfl, h_4⟩ := asM_spec h_3
 obtain ⟨y, hy, hz⟩ := mat_ret h_4
 refine ⟨_, _, l_markInt64S_df1e_l2_mk, l_markInt64S_df1e_l2_out, l_markInt64S_df1e_l2, (d3, d5, d8), y, ?_, hy, ?_, l_markInt64S_df1e_l2_step⟩
 ·subst hs; exact restrict_eq (T := [(0, (.ref (0, 0) [])), (1, (.imm true (.int .i64) d3)), (5, (.imm true (.int .i64) d5))]) (U := [((0, 0), some ⟨false, (.sl (.int .i64)), .own, d8⟩)]) rfl rfl ⟨e1, e2, e4, trivial⟩ ⟨e6, trivial⟩
 ·exact Option.some.inj hz
noncomputable def l_markInt64S_df1e_I : FnI := ⟨l_markInt64S_df1e_b, Try.f27.results.toList, Try.f27.resultTypes.toList, l_markInt64S_df1e_A⟩
noncomputable def l_markInt64S_df1e_out (_p0 : Int) (_p1 : (List Int)) : (Int × (List Int)) → CallOut := fun r => ⟨(.imm true (.int .i64) r.1), [⟨false, (.sl (.int .i64)), .own, r.2⟩], []⟩
set_option maxRecDepth 100000 in
theorem l_markInt64S_df1e_eq : ∀ (p0 : Int) (p1 : (List Int)), denFn l_markInt64S_df1e_V l_markInt64S_df1e_I ⟨[(.ref (0, 0) []), (.imm true (.int .i64) p0)], [⟨false, (.sl (.int .i64)), .own, p1⟩]⟩ = (l_markInt64S_df1e p0 p1).run fun r => some (l_markInt64S_df1e_out p0 p1 r) := fun _ _ => by kernel_rfl
noncomputable def l_markInt64S_df1e_G (av : List AV) (rs : List Root) : Tre CallOut :=
 asCons av fun a0_ av0 =>
 asCons av0 fun a1_ av1 =>
 asEnd av1 <|
 asCons rs fun r0_ rs0 =>
 asEnd rs0 <|
 asRef (0, 0) [] a0_ <|
 asImmZ true (.int .i64) a1_ fun d1 =>
 asRt false (.sl (.int .i64)) r0_ fun m2 d3 =>
 asM .own m2 <|
 .mat (markR d1 d3) fun r => .ret (l_markInt64S_df1e_out d1 d3 r)
noncomputable def l_markInt64S_df1e_c : Ctr := ⟨[0], fun ci => l_markInt64S_df1e_G ci.args ci.roots, false⟩
theorem l_markInt64S_df1e_env : EnvOK Try.prog .none l_markInt64S_df1e_V := envOK_nil
set_option maxRecDepth 100000 in
theorem l_markInt64S_df1e_ok : Contract Try.prog .none 27 l_markInt64S_df1e_c := by
 have hl : LoopsOK l_markInt64S_df1e_V l_markInt64S_df1e_A l_markInt64S_df1e_b := (loopsOK_all (n := 1) (by kernel_rfl) fun k hk => by
   match k, hk with
   | 0, _ => exact loopOK_at (id := 2) (L := l_markInt64S_df1e_l2_L) (by kernel_rfl) (by kernel_rfl) l_markInt64S_df1e_l2_ok)
 refine (contract_of (F := l_markInt64S_df1e_I) tau_tys l_markInt64S_df1e_env Try.func27 (by kernel_rfl) (by kernel_rfl) (by kernel_rfl) hl [0]).weaken ?_
 rintro ⟨av, rs⟩ co h
 have h : (l_markInt64S_df1e_G av rs).run some = some co := h
 obtain ⟨a0_, av0, rfl, h_0⟩ := asCons_spec h
 obtain ⟨a1_, av1, rfl, h_1⟩ := asCons_spec h_0
 obtain ⟨rfl, h_2⟩ := asEnd_spec h_1
 obtain ⟨r0_, rs0, rfl, h_3⟩ := asCons_spec h_2
 obtain ⟨rfl, h_4⟩ := asEnd_spec h_3
 obtain ⟨rfl, h_5⟩ := asRef_spec h_4
 obtain ⟨d1, rfl, h_6⟩ := asImmZ_spec h_5
 obtain ⟨m2, d3, rfl, h_7⟩ := asRt_spec h_6
 obtain ⟨rfl, h_8⟩ := asM_spec h_7
 exact fin_opt (l_markInt64S_df1e_eq d1 d3) (l_markInt64S_df1e_spec d1 d3) h_8
end Go.Proofs.Ytkgekgfmnhccmaa

namespace Go.Proofs.Ytkgekgfmnhccmaa
open Go Go.Abs Go.Proofs
noncomputable def l_markInt64S_ade4_F (p0 : Nat) (p1 : Int) (p2 : (List (List Int))) : Option (Int × (List (List Int))) :=
 (p2[p0]?).bind fun x => (markR p1 x).map fun r => (r.1, p2.set p0 r.2)
noncomputable def l_markInt64S_ade4_out : (Int × (List (List Int))) → CallOut := fun r => ⟨.imm true (.int .i64) r.1, [⟨false, (.sl (.sl (.int .i64))), .own, r.2⟩], []⟩
noncomputable def l_markInt64S_ade4_G (av : List AV) (rs : List Root) : Tre CallOut :=
 asCons av fun a0_ av0 =>
 asCons av0 fun a1_ av1 =>
 asEnd av1 <|
 asCons rs fun r0_ rs0 =>
 asEnd rs0 <|
 asRef1 (0, 0) [.idx 0] a0_ fun i1 =>
 asImmZ true (.int .i64) a1_ fun d2 =>
 asRt false (.sl (.sl (.int .i64))) r0_ fun m3 d4 =>
 asM .own m3 <|
 .mat (l_markInt64S_ade4_F i1 d2 d4) fun r => .ret (l_markInt64S_ade4_out r)
noncomputable def l_markInt64S_ade4_c : Ctr := ⟨[0], fun ci => l_markInt64S_ade4_G ci.args ci.roots, true⟩
set_option maxRecDepth 100000 in
theorem l_markInt64S_ade4_ok : Contract Try.prog .none 27 l_markInt64S_ade4_c := by
 refine Contract.soften (e := (.int .i64)) (by kernel_rfl) l_markInt64S_df1e_ok ?_
 rintro ⟨av, rs⟩ co h
 have h : (l_markInt64S_ade4_G av rs).run some = some co := h
 obtain ⟨a0_, av0, rfl, h_0⟩ := asCons_spec h
 obtain ⟨a1_, av1, rfl, h_1⟩ := asCons_spec h_0
 obtain ⟨rfl, h_2⟩ := asEnd_spec h_1
 obtain ⟨r0_, rs0, rfl, h_3⟩ := asCons_spec h_2
 obtain ⟨rfl, h_4⟩ := asEnd_spec h_3
 obtain ⟨i1, rfl, h_5⟩ := asRef1_spec h_4
 obtain ⟨d2, rfl, h_6⟩ := asImmZ_spec h_5
 obtain ⟨m3, d4, rfl, h_7⟩ := asRt_spec h_6
 obtain ⟨rfl, h_8⟩ := asM_spec h_7
 obtain ⟨y, h1, h2⟩ := mat_ret h_8
 unfold l_markInt64S_ade4_F at h1
 obtain ⟨x, hx, h1⟩ := Option.bind_eq_some_iff.1 h1
 obtain ⟨r, hr, rfl⟩ := Option.map_eq_some_iff.1 h1
 cases h2
 refine ⟨[.idx i1], [(.imm true (.int .i64) d2)], .own, ⟨false, (.sl (.sl (.int .i64))), .own, d4⟩, x, r.2, (d4.set i1 r.2), .own, (.imm true (.int .i64) r.1), rfl, by kernel_rfl, ?_, .inl ⟨_, _, rfl⟩, by (simp only [getP, hx]; first | done | rfl), by (simp only [setP, hx]; first | done | rfl), ?_, rfl⟩
 ·intro a ha; simp only [List.mem_cons, List.not_mem_nil, or_false] at ha; rcases ha with rfl <;> first | exact .inl ⟨_, _, _, rfl⟩ | exact .inr ⟨_, rfl⟩
 ·exact (run_some_mat (show markR d2 x = _ from hr)).trans rfl
end Go.Proofs.Ytkgekgfmnhccmaa

namespace Go.Proofs.Ytkgekgfmnhccmaa
open Go Go.Abs Go.Proofs
noncomputable def l_markInt64SS_da07_l2 : (Int × Int × (List (List Int))) → Tre ((Int × Int × (List (List Int))) ⊕ (Int × (List (List Int)))) := fun s2 =>
 .cond (decide (s2.2.1 < (s2.2.2.length : Int)))
  (.ite (0 ≤ s2.2.1 ∧ s2.2.1 < (s2.2.2.length : Int)) <|
  .mat (s2.2.2[s2.2.1.toNat]?) fun _ =>
  .mat (l_markInt64S_ade4_F s2.2.1.toNat s2.1 s2.2.2) fun r2 =>
  .ret (.inl (r2.1, iwrap .i64 (s2.2.1 + 1), r2.2)))
  (.ret (.inr (s2.1, s2.2.2)))
noncomputable def l_markInt64SS_da07 (p0 : Int) (p1 : (List (List Int))) : Tre (Int × (List (List Int))) :=
 .mat (loopF l_markInt64SS_da07_l2 (p0, 0, p1)) fun l3 =>
 .ret (l3.1, l3.2)
noncomputable def l_markInt64SS_da07_F (p0 : Int) (p1 : (List (List Int))) : Option (Int × (List (List Int))) := (l_markInt64SS_da07 p0 p1).run some
-- more
def sumL (L : List (List Int)) : Nat := (L.map List.length).sum
theorem markSS_loop : ∀ (m i : Nat) (L : List (List Int)) (k : Int), i + m = L.length → 0 ≤ k → k + (sumL (L.drop i) : Int) ≤ 1048576 → L.length ≤ 1048576 →
  ∃ L', loopF l_markInt64SS_da07_l2 (k, (i : Int), L) = some (k + (sumL (L.drop i) : Int), L') := by
 intro m
 induction m with
 | zero =>
  intro i L k hi _ _ _
  have hi : i = L.length := hi
  subst hi
  refine ⟨L, ?_⟩
  rw [List.drop_length]
  refine loopF_done ?_
  unfold l_markInt64SS_da07_l2
  rw [run_out]
  simp [Tre.run_ret, sumL]
 | succ m ih =>
  intro i L k hi hk hs hl
  have hx := List.getElem?_eq_getElem (show i < L.length by omega)
  have hd : L.drop i = L[i] :: L.drop (i + 1) := List.drop_eq_getElem_cons (by omega)
  have hsum : sumL (L.drop i) = L[i].length + sumL (L.drop (i + 1)) := by rw [hd]; unfold sumL; rw [List.map_cons, List.sum_cons]
  obtain ⟨L', h'⟩ := ih (i + 1) (L.set i (marks k L[i].length)) (k + (L[i].length : Int)) (by simp; omega) (by omega) (by rw [List.drop_set_of_lt (by omega)]; omega) (by simpa using hl)
  rw [List.drop_set_of_lt (by omega)] at h'
  refine ⟨L', ?_⟩
  rw [hsum, show k + ((L[i].length + sumL (L.drop (i + 1)) : Nat) : Int) = k + (L[i].length : Int) + (sumL (L.drop (i + 1)) : Int) by omega, ← h']
  refine loopF_step ?_
  have hm : markR k L[i] = some (k + (L[i].length : Int), marks k L[i].length) := askO_true (by rw [Bool.and_eq_true, inR_iff, decide_eq_true_eq]; omega)
  have hF : l_markInt64S_ade4_F i k L = some (k + (L[i].length : Int), L.set i (marks k L[i].length)) := by
   unfold l_markInt64S_ade4_F
   rw [hx, Option.bind_some, hm]
   rfl
  unfold l_markInt64SS_da07_l2
  dsimp only
  rw [Tre.run_cond, decide_eq_true (by omega), cond_true, Tre.run_ite, if_pos (by omega), Int.toNat_natCast, run_some_mat hx, run_some_mat hF, Tre.run_ret, iwrap_succ (by omega)]
theorem markSS_is {L : List (List Int)} {k : Int} (hk : 0 ≤ k) (hs : k + (sumL L : Int) ≤ 1048576) (hl : L.length ≤ 1048576) : ∃ L', l_markInt64SS_da07_F k L = some (k + (sumL L : Int), L') := by
 obtain ⟨L', h⟩ := markSS_loop L.length 0 L k (by omega) hk (by simpa using hs) hl
 have h : loopF l_markInt64SS_da07_l2 (k, 0, L) = some (k + (sumL L : Int), L') := by simpa using h
 refine ⟨L', ?_⟩
 unfold l_markInt64SS_da07_F l_markInt64SS_da07
 rw [run_some_mat h]
 rfl
noncomputable def l_markInt64SS_da07_V : Env := ⟨tau, [(27, l_markInt64S_ade4_c)], []⟩
noncomputable def l_markInt64SS_da07_b : Code := (Try.f70.body).getD .skip
noncomputable def l_markInt64SS_da07_l2_mk : (Int × Int × (List (List Int))) → St := fun x => stOf [(0, (.ref (0, 0) [])), (1, (.imm true (.int .i64) x.1)), (5, (.imm true (.int .i64) x.2.1))] [((0, 0), some ⟨false, (.sl (.sl (.int .i64))), .own, x.2.2⟩)]
noncomputable def l_markInt64SS_da07_l2_out : (Int × (List (List Int))) → Ex × St := fun x => (.exit 0, stOf [(1, (.imm true (.int .i64) x.1))] [((0, 0), some ⟨false, (.sl (.sl (.int .i64))), .own, x.2⟩)])
noncomputable def l_markInt64SS_da07_l2_D (s : St) : Tre (Ex × St) :=
 asRef (0, 0) [] (s.tmps 0) <|
 asImmZ true (.int .i64) (s.tmps 1) fun d3 =>
 asImmZ true (.int .i64) (s.tmps 5) fun d5 =>
 asRoot false (.sl (.sl (.int .i64))) (s.roots (0, 0)) fun m7 d8 =>
 asM .own m7 <|
 .mat (loopF l_markInt64SS_da07_l2 (d3, d5, d8)) fun x => .ret (l_markInt64SS_da07_l2_out x)
noncomputable def l_markInt64SS_da07_l2_L : LoopI := ⟨([0, 1, 5], [(0, 0)]), ([1], [(0, 0)]), l_markInt64SS_da07_l2_D⟩
noncomputable def l_markInt64SS_da07_A : List (Nat × LoopI) := [(2, l_markInt64SS_da07_l2_L)]
set_option maxRecDepth 100000 in
theorem l_markInt64SS_da07_l2_step : ∀ (x : (Int × Int × (List (List Int)))) (c : St → Option (Ex × St)), den l_markInt64SS_da07_V l_markInt64SS_da07_A (loopAt l_markInt64SS_da07_b 0) (l_markInt64SS_da07_l2_mk x) (roundK l_markInt64SS_da07_l2_L.kp l_markInt64SS_da07_l2_L.kx c) = (l_markInt64SS_da07_l2 x).run (roundR (l_markInt64SS_da07_l2_mk) (l_markInt64SS_da07_l2_out) c) := fun _ _ => by
 kernel_rfl
theorem l_markInt64SS_da07_l2_ok : LoopOK l_markInt64SS_da07_V l_markInt64SS_da07_A (loopAt l_markInt64SS_da07_b 0) l_markInt64SS_da07_l2_L := loopOK_of fun s e s' h => by
 generalize hs : restrict l_markInt64SS_da07_l2_L.kp s = s1 at h
 have h : (l_markInt64SS_da07_l2_D s1).run some = some (e, s') := h
 obtain ⟨e1, h_0⟩ := asRef_spec h
 obtain ⟨d3, e2, h_1⟩ := asImmZ_spec h_0
 obtain ⟨d5, e4, h_2⟩ := asImmZ_spec h_1
 obtain ⟨m7, d8, e6, h_3⟩ := asRoot_spec h_2
 obtain ⟨rfl, h_4⟩ := asM_spec h_3
 obtain ⟨y, hy, hz⟩ := mat_ret h_4
 refine ⟨_, _, l_markInt64SS_da07_l2_mk, l_markInt64SS_da07_l2_out, l_markInt64SS_da07_l2, (d3, d5, d8), y, ?_, hy, ?_, l_markInt64SS_da07_l2_step⟩
 ·subst hs; exact restrict_eq (T := [(0, (.ref (0, 0) [])), (1, (.imm true (.int .i64) d3)), (5, (.imm true (.int .i64) d5))]) (U := [((0, 0), some ⟨false, (.sl (.sl (.int .i64))), .own, d8⟩)]) rfl rfl ⟨e1, e2, e4, trivial⟩ ⟨e6, trivial⟩
 ·exact Option.some.inj hz
noncomputable def l_markInt64SS_da07_I : FnI := ⟨l_markInt64SS_da07_b, Try.f70.results.toList, Try.f70.resultTypes.toList, l_markInt64SS_da07_A⟩
noncomputable def l_markInt64SS_da07_out (_p0 : Int) (_p1 : (List (List Int))) : (Int × (List (List Int))) → CallOut := fun r => ⟨(.imm true (.int .i64) r.1), [⟨false, (.sl (.sl (.int .i64))), .own, r.2⟩], []⟩
set_option maxRecDepth 100000 in
theorem l_markInt64SS_da07_eq : ∀ (p0 : Int) (p1 : (List (List Int))), denFn l_markInt64SS_da07_V l_markInt64SS_da07_I ⟨[(.ref (0, 0) []), (.imm true (.int .i64) p0)], [⟨false, (.sl (.sl (.int .i64))), .own, p1⟩]⟩ = (l_markInt64SS_da07 p0 p1).run fun r => some (l_markInt64SS_da07_out p0 p1 r) := fun _ _ => by kernel_rfl
noncomputable def l_markInt64SS_da07_G (av : List AV) (rs : List Root) : Tre CallOut :=
 asCons av fun a0_ av0 =>
 asCons av0 fun a1_ av1 =>
 asEnd av1 <|
 asCons rs fun r0_ rs0 =>
 asEnd rs0 <|
 asRef (0, 0) [] a0_ <|
 asImmZ true (.int .i64) a1_ fun d1 =>
 asRt false (.sl (.sl (.int .i64))) r0_ fun m2 d3 =>
 asM .own m2 <|
 .mat (l_markInt64SS_da07_F d1 d3) fun r => .ret (l_markInt64SS_da07_out d1 d3 r)
noncomputable def l_markInt64SS_da07_c : Ctr := ⟨[0], fun ci => l_markInt64SS_da07_G ci.args ci.roots, false⟩
theorem l_markInt64SS_da07_env : EnvOK Try.prog .none l_markInt64SS_da07_V := (envOK_cons l_markInt64S_ade4_ok ent27 envOK_nil)
set_option maxRecDepth 100000 in
theorem l_markInt64SS_da07_ok : Contract Try.prog .none 70 l_markInt64SS_da07_c := by
 have hl : LoopsOK l_markInt64SS_da07_V l_markInt64SS_da07_A l_markInt64SS_da07_b := (loopsOK_all (n := 1) (by kernel_rfl) fun k hk => by
   match k, hk with
   | 0, _ => exact loopOK_at (id := 2) (L := l_markInt64SS_da07_l2_L) (by kernel_rfl) (by kernel_rfl) l_markInt64SS_da07_l2_ok)
 refine (contract_of (F := l_markInt64SS_da07_I) tau_tys l_markInt64SS_da07_env Try.func70 (by kernel_rfl) (by kernel_rfl) (by kernel_rfl) hl [0]).weaken ?_
 rintro ⟨av, rs⟩ co h
 have h : (l_markInt64SS_da07_G av rs).run some = some co := h
 obtain ⟨a0_, av0, rfl, h_0⟩ := asCons_spec h
 obtain ⟨a1_, av1, rfl, h_1⟩ := asCons_spec h_0
 obtain ⟨rfl, h_2⟩ := asEnd_spec h_1
 obtain ⟨r0_, rs0, rfl, h_3⟩ := asCons_spec h_2
 obtain ⟨rfl, h_4⟩ := asEnd_spec h_3
 obtain ⟨rfl, h_5⟩ := asRef_spec h_4
 obtain ⟨d1, rfl, h_6⟩ := asImmZ_spec h_5
 obtain ⟨m2, d3, rfl, h_7⟩ := asRt_spec h_6
 obtain ⟨rfl, h_8⟩ := asM_spec h_7
 exact fin_mat (l_markInt64SS_da07_eq d1 d3) h_8
end Go.Proofs.Ytkgekgfmnhccmaa

namespace Go.Proofs.Ytkgekgfmnhccmaa
open Go Go.Abs Go.Proofs
noncomputable def l_markInt64SS_ac1b_F (p0 : Int) (p1 : TNet) : Option (Int × TNet) :=
 (l_markInt64SS_da07_F p0 p1.2.2.2.1).map fun r => (r.1, (p1.1, (p1.2.1, (p1.2.2.1, (r.2, p1.2.2.2.2)))))
noncomputable def l_markInt64SS_ac1b_out : (Int × TNet) → CallOut := fun r => ⟨.imm true (.int .i64) r.1, [⟨true, kNet, .own, r.2⟩], []⟩
noncomputable def l_markInt64SS_ac1b_G (av : List AV) (rs : List Root) : Tre CallOut :=
 asCons av fun a0_ av0 =>
 asCons av0 fun a1_ av1 =>
 asEnd av1 <|
 asCons rs fun r0_ rs0 =>
 asEnd rs0 <|
 asRef (0, 0) [.snd, .snd, .snd, .fst] a0_ <|
 asImmZ true (.int .i64) a1_ fun d1 =>
 asRt true kNet r0_ fun m2 d3 =>
 asM .own m2 <|
 .mat (l_markInt64SS_ac1b_F d1 d3) fun r => .ret (l_markInt64SS_ac1b_out r)
noncomputable def l_markInt64SS_ac1b_c : Ctr := ⟨[0], fun ci => l_markInt64SS_ac1b_G ci.args ci.roots, true⟩
set_option maxRecDepth 100000 in
theorem l_markInt64SS_ac1b_ok : Contract Try.prog .none 70 l_markInt64SS_ac1b_c := by
 refine Contract.soften (e := (.sl (.int .i64))) (by kernel_rfl) l_markInt64SS_da07_ok ?_
 rintro ⟨av, rs⟩ co h
 have h : (l_markInt64SS_ac1b_G av rs).run some = some co := h
 obtain ⟨a0_, av0, rfl, h_0⟩ := asCons_spec h
 obtain ⟨a1_, av1, rfl, h_1⟩ := asCons_spec h_0
 obtain ⟨rfl, h_2⟩ := asEnd_spec h_1
 obtain ⟨r0_, rs0, rfl, h_3⟩ := asCons_spec h_2
 obtain ⟨rfl, h_4⟩ := asEnd_spec h_3
 obtain ⟨rfl, h_5⟩ := asRef_spec h_4
 obtain ⟨d1, rfl, h_6⟩ := asImmZ_spec h_5
 obtain ⟨m2, d3, rfl, h_7⟩ := asRt_spec h_6
 obtain ⟨rfl, h_8⟩ := asM_spec h_7
 obtain ⟨y, h1, h2⟩ := mat_ret h_8
 unfold l_markInt64SS_ac1b_F at h1
 obtain ⟨r, hr, rfl⟩ := Option.map_eq_some_iff.1 h1
 cases h2
 refine ⟨[.snd, .snd, .snd, .fst], [(.imm true (.int .i64) d1)], .own, ⟨true, kNet, .own, d3⟩, d3.2.2.2.1, r.2, (d3.1, (d3.2.1, (d3.2.2.1, (r.2, d3.2.2.2.2)))), .own, (.imm true (.int .i64) r.1), rfl, by kernel_rfl, ?_, .inl ⟨_, _, rfl⟩, by kernel_rfl, by kernel_rfl, ?_, rfl⟩
 ·intro a ha; simp only [List.mem_cons, List.not_mem_nil, or_false] at ha; rcases ha with rfl <;> first | exact .inl ⟨_, _, _, rfl⟩ | exact .inr ⟨_, rfl⟩
 ·exact (run_some_mat (show l_markInt64SS_da07_F d1 d3.2.2.2.1 = _ from hr)).trans rfl
end Go.Proofs.Ytkgekgfmnhccmaa

namespace Go.Proofs.Ytkgekgfmnhccmaa
open Go Go.Abs Go.Proofs
noncomputable def l_markInt64SS_e4ef_F (p0 : Int) (p1 : TNet) : Option (Int × TNet) :=
 (l_markInt64SS_da07_F p0 p1.2.2.2.2.1).map fun r => (r.1, (p1.1, (p1.2.1, (p1.2.2.1, (p1.2.2.2.1, (r.2, p1.2.2.2.2.2))))))
noncomputable def l_markInt64SS_e4ef_out : (Int × TNet) → CallOut := fun r => ⟨.imm true (.int .i64) r.1, [⟨true, kNet, .own, r.2⟩], []⟩
noncomputable def l_markInt64SS_e4ef_G (av : List AV) (rs : List Root) : Tre CallOut :=
 asCons av fun a0_ av0 =>
 asCons av0 fun a1_ av1 =>
 asEnd av1 <|
 asCons rs fun r0_ rs0 =>
 asEnd rs0 <|
 asRef (0, 0) [.snd, .snd, .snd, .snd, .fst] a0_ <|
 asImmZ true (.int .i64) a1_ fun d1 =>
 asRt true kNet r0_ fun m2 d3 =>
 asM .own m2 <|
 .mat (l_markInt64SS_e4ef_F d1 d3) fun r => .ret (l_markInt64SS_e4ef_out r)
noncomputable def l_markInt64SS_e4ef_c : Ctr := ⟨[0], fun ci => l_markInt64SS_e4ef_G ci.args ci.roots, true⟩
set_option maxRecDepth 100000 in
theorem l_markInt64SS_e4ef_ok : Contract Try.prog .none 70 l_markInt64SS_e4ef_c := by
 refine Contract.soften (e := (.sl (.int .i64))) (by kernel_rfl) l_markInt64SS_da07_ok ?_
 rintro ⟨av, rs⟩ co h
 have h : (l_markInt64SS_e4ef_G av rs).run some = some co := h
 obtain ⟨a0_, av0, rfl, h_0⟩ := asCons_spec h
 obtain ⟨a1_, av1, rfl, h_1⟩ := asCons_spec h_0
 obtain ⟨rfl, h_2⟩ := asEnd_spec h_1
 obtain ⟨r0_, rs0, rfl, h_3⟩ := asCons_spec h_2
 obtain ⟨rfl, h_4⟩ := asEnd_spec h_3
 obtain ⟨rfl, h_5⟩ := asRef_spec h_4
 obtain ⟨d1, rfl, h_6⟩ := asImmZ_spec h_5
 obtain ⟨m2, d3, rfl, h_7⟩ := asRt_spec h_6
 obtain ⟨rfl, h_8⟩ := asM_spec h_7
 obtain ⟨y, h1, h2⟩ := mat_ret h_8
 unfold l_markInt64SS_e4ef_F at h1
 obtain ⟨r, hr, rfl⟩ := Option.map_eq_some_iff.1 h1
 cases h2
 refine ⟨[.snd, .snd, .snd, .snd, .fst], [(.imm true (.int .i64) d1)], .own, ⟨true, kNet, .own, d3⟩, d3.2.2.2.2.1, r.2, (d3.1, (d3.2.1, (d3.2.2.1, (d3.2.2.2.1, (r.2, d3.2.2.2.2.2))))), .own, (.imm true (.int .i64) r.1), rfl, by kernel_rfl, ?_, .inl ⟨_, _, rfl⟩, by kernel_rfl, by kernel_rfl, ?_, rfl⟩
 ·intro a ha; simp only [List.mem_cons, List.not_mem_nil, or_false] at ha; rcases ha with rfl <;> first | exact .inl ⟨_, _, _, rfl⟩ | exact .inr ⟨_, rfl⟩
 ·exact (run_some_mat (show l_markInt64SS_da07_F d1 d3.2.2.2.2.1 = _ from hr)).trans rfl
end Go.Proofs.Ytkgekgfmnhccmaa

namespace Go.Proofs.Ytkgekgfmnhccmaa
open Go Go.Abs Go.Proofs
noncomputable def l_markNet_f10e (_p0 : (Int × (Int × Unit))) (_p1 : Int) (_p2 : Int) (p3 : Int) (p4 : TNet) : Tre (Int × TNet) :=
 .mat (l_markInt64SS_ac1b_F p3 p4) fun r1 =>
 .mat (l_markInt64SS_e4ef_F r1.1 r1.2) fun r2 =>
 .ret (r2.1, r2.2)
noncomputable def l_markNet_f10e_F (p0 : (Int × (Int × Unit))) (p1 : Int) (p2 : Int) (p3 : Int) (p4 : TNet) : Option (Int × TNet) := (l_markNet_f10e p0 p1 p2 p3 p4).run some
-- more
theorem markNet_is {n : TN6} {k : Int} (a : TF3) (b c : Int) (hk : 0 ≤ k) (hs : k + (sumL n.2.2.2.1 : Int) + (sumL n.2.2.2.2.1 : Int) ≤ 1048576) (h1 : n.2.2.2.1.length ≤ 1048576) (h2 : n.2.2.2.2.1.length ≤ 1048576) :
  ∃ n', l_markNet_f10e_F a b c k n = some (k + (sumL n.2.2.2.1 : Int) + (sumL n.2.2.2.2.1 : Int), n') := by
 obtain ⟨E', hE⟩ := markSS_is (L := n.2.2.2.1) hk (by omega) h1
 obtain ⟨C', hC⟩ := markSS_is (L := n.2.2.2.2.1) (k := k + (sumL n.2.2.2.1 : Int)) (by omega) hs h2
 have e1 : l_markInt64SS_ac1b_F k n = some (k + (sumL n.2.2.2.1 : Int), (n.1, n.2.1, n.2.2.1, E', n.2.2.2.2)) := by
  unfold l_markInt64SS_ac1b_F
  rw [hE]
  rfl
 have e2 : l_markInt64SS_e4ef_F (k + (sumL n.2.2.2.1 : Int)) (n.1, n.2.1, n.2.2.1, E', n.2.2.2.2) = some (k + (sumL n.2.2.2.1 : Int) + (sumL n.2.2.2.2.1 : Int), (n.1, n.2.1, n.2.2.1, E', C', ())) := by
  unfold l_markInt64SS_e4ef_F
  rw [hC]
  rfl
 refine ⟨(n.1, n.2.1, n.2.2.1, E', C', ()), ?_⟩
 unfold l_markNet_f10e_F l_markNet_f10e
 rw [run_some_mat e1, run_some_mat e2]
 rfl
theorem sum_net {n : TN6} (h : sizeSS n.2.2.2.1 + sizeSS n.2.2.2.2.1 ≤ 1048576) : 1 + (sumL n.2.2.2.1 : Int) + (sumL n.2.2.2.2.1 : Int) ≤ 1048576 := by
 unfold sizeSS at h
 unfold sumL
 have z1 : n.2.2.2.1.length = 0 → (n.2.2.2.1.map List.length).sum = 0 := fun hh => by rw [List.length_eq_zero_iff.1 hh]; rfl
 have z2 : n.2.2.2.2.1.length = 0 → (n.2.2.2.2.1.map List.length).sum = 0 := fun hh => by rw [List.length_eq_zero_iff.1 hh]; rfl
 omega
noncomputable def l_markNet_f10e_V : Env := ⟨tau, [(70, (softOr [.snd, .snd, .snd, .fst] l_markInt64SS_ac1b_c l_markInt64SS_e4ef_c))], []⟩
noncomputable def l_markNet_f10e_b : Code := (Try.f26.body).getD .skip
noncomputable def l_markNet_f10e_I : FnI := ⟨l_markNet_f10e_b, Try.f26.results.toList, Try.f26.resultTypes.toList, []⟩
noncomputable def l_markNet_f10e_out (_p0 : (Int × (Int × Unit))) (_p1 : Int) (_p2 : Int) (_p3 : Int) (_p4 : TNet) : (Int × TNet) → CallOut := fun r => ⟨(.imm true (.int .i64) r.1), [⟨true, kNet, .own, r.2⟩], []⟩
set_option maxRecDepth 100000 in
theorem l_markNet_f10e_eq : ∀ (p0 : (Int × (Int × Unit))) (p1 : Int) (p2 : Int) (p3 : Int) (p4 : TNet), denFn l_markNet_f10e_V l_markNet_f10e_I ⟨[(.pair (.imm true kField p0) (.pair (.imm true (.int .i64) p1) (.pair (.imm true (.int .i64) p2) (.pair (.ref (0, 0) [.snd, .snd, .snd, .fst]) (.pair (.ref (0, 0) [.snd, .snd, .snd, .snd, .fst]) (.imm true .unit ())))))), (.imm true (.int .i64) p3)], [⟨true, kNet, .own, p4⟩]⟩ = (l_markNet_f10e p0 p1 p2 p3 p4).run fun r => some (l_markNet_f10e_out p0 p1 p2 p3 p4 r) := fun _ _ _ _ _ => by kernel_rfl
noncomputable def l_markNet_f10e_G (av : List AV) (rs : List Root) : Tre CallOut :=
 asCons av fun a0_ av0 =>
 asCons av0 fun a1_ av1 =>
 asEnd av1 <|
 asCons rs fun r0_ rs0 =>
 asEnd rs0 <|
 asPair a0_ fun a1 a2 =>
 asImmZ true kField a1 fun d3 =>
 asPair a2 fun a4 a5 =>
 asImmZ true (.int .i64) a4 fun d6 =>
 asPair a5 fun a7 a8 =>
 asImmZ true (.int .i64) a7 fun d9 =>
 asPair a8 fun a10 a11 =>
 asRef (0, 0) [.snd, .snd, .snd, .fst] a10 <|
 asPair a11 fun a12 a13 =>
 asRef (0, 0) [.snd, .snd, .snd, .snd, .fst] a12 <|
 asImmZ true .unit a13 fun _ =>
 asImmZ true (.int .i64) a1_ fun d15 =>
 asRt true kNet r0_ fun m16 d17 =>
 asM .own m16 <|
 .mat (l_markNet_f10e_F d3 d6 d9 d15 d17) fun r => .ret (l_markNet_f10e_out d3 d6 d9 d15 d17 r)
noncomputable def l_markNet_f10e_c : Ctr := ⟨[0], fun ci => l_markNet_f10e_G ci.args ci.roots, false⟩
theorem l_markNet_f10e_env : EnvOK Try.prog .none l_markNet_f10e_V := (envOK_cons (softOr_ok (t := [.snd, .snd, .snd, .fst]) l_markInt64SS_ac1b_ok l_markInt64SS_e4ef_ok) ent70 envOK_nil)
set_option maxRecDepth 100000 in
theorem l_markNet_f10e_ok : Contract Try.prog .none 26 l_markNet_f10e_c := by
 have hl : LoopsOK l_markNet_f10e_V [] l_markNet_f10e_b := loopsOK_nil (by kernel_rfl)
 refine (contract_of (F := l_markNet_f10e_I) tau_tys l_markNet_f10e_env Try.func26 (by kernel_rfl) (by kernel_rfl) (by kernel_rfl) hl [0]).weaken ?_
 rintro ⟨av, rs⟩ co h
 have h : (l_markNet_f10e_G av rs).run some = some co := h
 obtain ⟨a0_, av0, rfl, h_0⟩ := asCons_spec h
 obtain ⟨a1_, av1, rfl, h_1⟩ := asCons_spec h_0
 obtain ⟨rfl, h_2⟩ := asEnd_spec h_1
 obtain ⟨r0_, rs0, rfl, h_3⟩ := asCons_spec h_2
 obtain ⟨rfl, h_4⟩ := asEnd_spec h_3
 obtain ⟨a1, a2, rfl, h_5⟩ := asPair_spec h_4
 obtain ⟨d3, rfl, h_6⟩ := asImmZ_spec h_5
 obtain ⟨a4, a5, rfl, h_7⟩ := asPair_spec h_6
 obtain ⟨d6, rfl, h_8⟩ := asImmZ_spec h_7
 obtain ⟨a7, a8, rfl, h_9⟩ := asPair_spec h_8
 obtain ⟨d9, rfl, h_10⟩ := asImmZ_spec h_9
 obtain ⟨a10, a11, rfl, h_11⟩ := asPair_spec h_10
 obtain ⟨rfl, h_12⟩ := asRef_spec h_11
 obtain ⟨a12, a13, rfl, h_13⟩ := asPair_spec h_12
 obtain ⟨rfl, h_14⟩ := asRef_spec h_13
 obtain ⟨d14, rfl, h_15⟩ := asImmZ_spec h_14
 obtain ⟨d15, rfl, h_16⟩ := asImmZ_spec h_15
 obtain ⟨m16, d17, rfl, h_17⟩ := asRt_spec h_16
 obtain ⟨rfl, h_18⟩ := asM_spec h_17
 exact fin_mat (l_markNet_f10e_eq d3 d6 d9 d15 d17) h_18
end Go.Proofs.Ytkgekgfmnhccmaa

namespace Go.Proofs.Ytkgekgfmnhccmaa
open Go Go.Abs Go.Proofs
noncomputable def l_heldInt64S_l2 (h2_0_0 : (List Int)) : (Int × Int) → Tre ((Int × Int) ⊕ ((Int × Int) ⊕ Int)) := fun s2 =>
 .cond (decide (s2.2 < (h2_0_0.length : Int)))
  (.ite (0 ≤ s2.2 ∧ s2.2 < (h2_0_0.length : Int)) <|
  .mat (h2_0_0[s2.2.toNat]?) fun x1 =>
  .cond (!decide (x1 = s2.1))
   (.ret (.inr (.inl (s2.1, -1))))
   (.ret (.inl (iwrap .i64 (s2.1 + 1), iwrap .i64 (s2.2 + 1)))))
  (.ret (.inr (.inr s2.1)))
noncomputable def l_heldInt64S (p0 : (List Int)) (p1 : Int) : Tre Int :=
 .mat (loopF (l_heldInt64S_l2 p0) (p1, 0)) fun l2 =>
 .alt l2
  (fun a3 =>
   .ret a3.2)
  (fun b4 =>
   .ret b4)
noncomputable def l_heldInt64S_F (p0 : (List Int)) (p1 : Int) : Option Int := (l_heldInt64S p0 p1).run some
def heldR (xs : List Int) (k : Int) : Option Int := if (inR k 0 1048576 && decide (xs.length ≤ 1048576)) = true ∧ xs = marks k xs.length then some (k + (xs.length : Int)) else none
theorem l_heldInt64S_spec (p0 : List Int) (p1 : Int) (y : Int) (h : heldR p0 p1 = some y) : l_heldInt64S_F p0 p1 = some y := by
 unfold heldR at h
 split at h
 case isFalse => cases h
 case isTrue hh =>
 obtain ⟨hok, hm⟩ := hh
 cases h
 simp only [Bool.and_eq_true, decide_eq_true_eq, inR_iff] at hok
 obtain ⟨hk, hl⟩ := hok
 unfold l_heldInt64S_F l_heldInt64S
 have := fold_loop' (xs := p0) (step := l_heldInt64S_l2 p0) (γ := Unit) (fun i _ => (p1 + (i : Int), (i : Int))) (fun _ _ _ => .inl ()) (fun _ => .inr (p1 + (p0.length : Int))) (by
  intro i acc x hx
  have hi : i < p0.length := (List.getElem?_eq_some_iff.1 hx).1
  have hxv : x = p1 + (i : Int) := by
   rw [hm] at hx
   unfold marks at hx
   simp only [List.getElem?_map, Option.map_eq_some_iff] at hx
   obtain ⟨a, ha, rfl⟩ := hx
   rw [List.getElem?_range' (by simpa using hi)] at ha
   simp at ha
   rw [ha]
  unfold l_heldInt64S_l2
  rw [run_inb hx, Tre.run_cond]
  simp only [hxv, decide_true, Bool.not_true, cond_false]
  rw [Tre.run_ret, iwrap_succ (by omega), iwrap_i64 (by omega) (by omega)]
  simp only [Int.natCast_add, Int.natCast_one, Int.add_assoc])
  (by
  intro acc
  unfold l_heldInt64S_l2
  exact run_out) ()
 have hf : ∀ (l : List Int) (i : Nat), foldE (β := (Int × Int) ⊕ Int) (fun (_ : Nat) (_ : Unit) (_ : Int) => .inl ()) (fun _ => .inr (p1 + (p0.length : Int))) i () l = .inr (p1 + (p0.length : Int)) := by
  intro l
  induction l with
  | nil => intro i; rfl
  | cons x l ih => intro i; exact ih _
 rw [hf] at this
 have h1 : loopF (l_heldInt64S_l2 p0) (p1, 0) = some (.inr (p1 + (p0.length : Int))) := by simpa using this
 rw [run_some_mat h1]
 rfl
noncomputable def l_heldInt64S_V : Env := ⟨tau, [], []⟩
noncomputable def l_heldInt64S_b : Code := (Try.f28.body).getD .skip
noncomputable def l_heldInt64S_l2_mk (z2_0 : Bool) (h2_0_0 : (List Int)) : (Int × Int) → St := fun x => stOf [(0, (.imm z2_0 (.sl (.int .i64)) h2_0_0)), (1, (.imm true (.int .i64) x.1)), (5, (.imm true (.int .i64) x.2))] []
noncomputable def l_heldInt64S_l2_out (_z2_0 : Bool) (_h2_0_0 : (List Int)) : ((Int × Int) ⊕ Int) → Ex × St
 | .inl x => (.ret, stOf [(1, (.imm true (.int .i64) x.1)), (4, (.imm true (.int .i64) x.2))] [])
 | .inr x => (.exit 0, stOf [(1, (.imm true (.int .i64) x)), (4, .dead)] [])
noncomputable def l_heldInt64S_l2_D (s : St) : Tre (Ex × St) :=
 asImm (.sl (.int .i64)) (s.tmps 0) fun z3 d2 =>
 asImmZ true (.int .i64) (s.tmps 1) fun d5 =>
 asImmZ true (.int .i64) (s.tmps 5) fun d7 =>
 .mat (loopF (l_heldInt64S_l2 d2) (d5, d7)) fun x => .alt x (fun a0 => .ret (l_heldInt64S_l2_out z3 d2 (.inl a0))) (fun b0 => .ret (l_heldInt64S_l2_out z3 d2 (.inr b0)))
noncomputable def l_heldInt64S_l2_L : LoopI := ⟨([0, 1, 5], []), ([1, 4], []), l_heldInt64S_l2_D⟩
noncomputable def l_heldInt64S_A : List (Nat × LoopI) := [(2, l_heldInt64S_l2_L)]
set_option maxRecDepth 100000 in
theorem l_heldInt64S_l2_step : ∀ (z2_0 : Bool) (h2_0_0 : (List Int)) (x : (Int × Int)) (c : St → Option (Ex × St)), den l_heldInt64S_V l_heldInt64S_A (loopAt l_heldInt64S_b 0) (l_heldInt64S_l2_mk z2_0 h2_0_0 x) (roundK l_heldInt64S_l2_L.kp l_heldInt64S_l2_L.kx c) = (l_heldInt64S_l2 h2_0_0 x).run (roundR (l_heldInt64S_l2_mk z2_0 h2_0_0) (l_heldInt64S_l2_out z2_0 h2_0_0) c) := fun _ _ _ _ => by
 kernel_rfl
theorem l_heldInt64S_l2_ok : LoopOK l_heldInt64S_V l_heldInt64S_A (loopAt l_heldInt64S_b 0) l_heldInt64S_l2_L := loopOK_of fun s e s' h => by
 generalize hs : restrict l_heldInt64S_l2_L.kp s = s1 at h
 have h : (l_heldInt64S_l2_D s1).run some = some (e, s') := h
 obtain ⟨z3, d2, e1, h_0⟩ := asImm_spec h
 obtain ⟨d5, e4, h_1⟩ := asImmZ_spec h_0
 obtain ⟨d7, e6, h_2⟩ := asImmZ_spec h_1
 obtain ⟨y, hy, hz⟩ := mat_some h_2
 refine ⟨_, _, l_heldInt64S_l2_mk z3 d2, l_heldInt64S_l2_out z3 d2, l_heldInt64S_l2 d2, (d5, d7), y, ?_, hy, ?_, l_heldInt64S_l2_step z3 d2⟩
 ·subst hs; exact restrict_eq (T := [(0, (.imm z3 (.sl (.int .i64)) d2)), (1, (.imm true (.int .i64) d5)), (5, (.imm true (.int .i64) d7))]) (U := []) rfl rfl ⟨e1, e4, e6, trivial⟩ trivial
 ·rcases y with x | x <;> exact Option.some.inj hz
noncomputable def l_heldInt64S_I : FnI := ⟨l_heldInt64S_b, Try.f28.results.toList, Try.f28.resultTypes.toList, l_heldInt64S_A⟩
noncomputable def l_heldInt64S_out (_zp0 : Bool) (_p0 : (List Int)) (_p1 : Int) : Int → CallOut := fun r => ⟨(.imm true (.int .i64) r), [], []⟩
set_option maxRecDepth 100000 in
theorem l_heldInt64S_eq : ∀ (zp0 : Bool) (p0 : (List Int)) (p1 : Int), denFn l_heldInt64S_V l_heldInt64S_I ⟨[(.imm zp0 (.sl (.int .i64)) p0), (.imm true (.int .i64) p1)], []⟩ = (l_heldInt64S p0 p1).run fun r => some (l_heldInt64S_out zp0 p0 p1 r) := fun _ _ _ => by kernel_rfl
noncomputable def l_heldInt64S_G (av : List AV) (rs : List Root) : Tre CallOut :=
 asCons av fun a0_ av0 =>
 asCons av0 fun a1_ av1 =>
 asEnd av1 <|
 asEnd rs <|
 asImm (.sl (.int .i64)) a0_ fun z2 d1 =>
 asImmZ true (.int .i64) a1_ fun d3 =>
 .mat (heldR d1 d3) fun r => .ret (l_heldInt64S_out z2 d1 d3 r)
noncomputable def l_heldInt64S_c : Ctr := ⟨[], fun ci => l_heldInt64S_G ci.args ci.roots, false⟩
theorem l_heldInt64S_env : EnvOK Try.prog .none l_heldInt64S_V := envOK_nil
set_option maxRecDepth 100000 in
theorem l_heldInt64S_ok : Contract Try.prog .none 28 l_heldInt64S_c := by
 have hl : LoopsOK l_heldInt64S_V l_heldInt64S_A l_heldInt64S_b := (loopsOK_all (n := 1) (by kernel_rfl) fun k hk => by
   match k, hk with
   | 0, _ => exact loopOK_at (id := 2) (L := l_heldInt64S_l2_L) (by kernel_rfl) (by kernel_rfl) l_heldInt64S_l2_ok)
 refine (contract_of (F := l_heldInt64S_I) tau_tys l_heldInt64S_env Try.func28 (by kernel_rfl) (by kernel_rfl) (by kernel_rfl) hl []).weaken ?_
 rintro ⟨av, rs⟩ co h
 have h : (l_heldInt64S_G av rs).run some = some co := h
 obtain ⟨a0_, av0, rfl, h_0⟩ := asCons_spec h
 obtain ⟨a1_, av1, rfl, h_1⟩ := asCons_spec h_0
 obtain ⟨rfl, h_2⟩ := asEnd_spec h_1
 obtain ⟨rfl, h_3⟩ := asEnd_spec h_2
 obtain ⟨z2, d1, rfl, h_4⟩ := asImm_spec h_3
 obtain ⟨d3, rfl, h_5⟩ := asImmZ_spec h_4
 exact fin_opt (l_heldInt64S_eq z2 d1 d3) (l_heldInt64S_spec d1 d3) h_5
end Go.Proofs.Ytkgekgfmnhccmaa

namespace Go.Proofs.Ytkgekgfmnhccmaa
open Go Go.Abs Go.Proofs
noncomputable def l_FnExactSolveAt (p0 : TNet) (p1 : Int) (p2 : (List Int)) : Tre Bool :=
 .cond (decide ((p2.length : Int) > 1048576))
  (.ret true)
  (.mat (l_szNet_F p0 1048576) fun r1 =>
  .cond (decide (r1 < 0))
   (.ret true)
   (.mat (l_toNet_F p0) fun r2 =>
   .mat (cloneR p2) fun r3 =>
   .mat (s_SolveAt_F (r2.1, (r2.2.1, (r2.2.2.1, (r2.2.2.2.1, (r2.2.2.2.2, ()))))) p1 r3) fun r4 =>
   .mat (l_toNet_F p0) fun r5 =>
   .mat (cloneR p2) fun r6 =>
   .mat (i_SolveAt_F (r5.1, (r5.2.1, (r5.2.2.1, (r5.2.2.2.1, (r5.2.2.2.2, ()))))) p1 r6) fun r7 =>
   .mat (eqS r7.2 r4.2) fun r8 =>
   .cond (!r8)
    (.ret false)
    (.cond (!decide (r7.1 = r4.1))
     (.ret false)
     (.mat (l_toNet_F p0) fun r9 =>
     .mat (l_eqNet_F (r5.1, (r5.2.1, (r5.2.2.1, (r5.2.2.2.1, (r5.2.2.2.2, ()))))) (r9.1, (r9.2.1, (r9.2.2.1, (r9.2.2.2.1, (r9.2.2.2.2, ())))))) fun r10 =>
     .cond (!r10)
      (.ret false)
      (.mat (cloneR p2) fun r11 =>
      .mat (eqS r6 r11) fun r12 =>
      .cond (!r12)
       (.ret false)
       (.mat (l_markNet_f10e_F r5.1 r5.2.1 r5.2.2.1 1 (r5.1, (r5.2.1, (r5.2.2.1, (r5.2.2.2.1, (r5.2.2.2.2, ())))))) fun r13 =>
       .mat (markR r13.1 r6) fun r14 =>
       .cond (decide (r14.1 < 0))
        (.ret false)
        (.mat (eqS r7.2 r4.2) fun r15 =>
        .cond (!r15)
         (.ret false)
         (.cond (!decide (r7.1 = r4.1))
          (.ret false)
          (.mat (markR 1 r7.2) fun r16 =>
          .mat (heldR r16.2 1) fun r17 =>
          .cond (decide (r17 < 0))
           (.ret false)
           (.cond (!decide (r17 = r16.1))
            (.ret false)
            (.mat (l_toNet_F p0) fun r18 =>
            .mat (cloneR p2) fun r19 =>
            .mat (i_SolveAt_F (r18.1, (r18.2.1, (r18.2.2.1, (r18.2.2.2.1, (r18.2.2.2.2, ()))))) p1 r19) fun r20 =>
            .mat (eqS r20.2 r4.2) fun r21 =>
            .cond (!r21)
             (.ret false)
             (.cond (!decide (r20.1 = r4.1))
              (.ret false)
              (.mat (heldR r16.2 1) fun r22 =>
              .cond (decide (r22 < 0))
               (.ret false)
               (.cond (!decide (r22 = r16.1))
                (.ret false)
                (.ret true)))))))))))))))
noncomputable def l_FnExactSolveAt_F (p0 : TNet) (p1 : Int) (p2 : (List Int)) : Option Bool := (l_FnExactSolveAt p0 p1 p2).run some
-- law
theorem solveV_len (n : TN6) (node : Int) (vs : List Int) : (solveV n node vs).2.length ≤ 14 := by
 unfold solveV
 split
 ·rename_i h0
  obtain ⟨h, hvl, hvf⟩ := solveC_net h0
  have hrl := rowsV_len h node
  split
  ·simp
  ·split
   ·simp
   ·have hwg := wideV_GR (vs := vs) (rowsV_GR h node) hvf
    have hEk := (echFrom_ok h.field (messN n + 1) 0 (0, wideV (rowsV n node) vs) hwg (Nat.zero_le _)).2.2
    have hrh := rowsV_has h node
    have hwl := wideV_len (L := rowsV n node) (vs := vs) (by omega)
    rw [List.length_map, echV_len h.field hwg]
    dsimp only at hEk
    omega
 ·simp
theorem l_FnExactSolveAt_law (p0 : TN6) (p1 : Int) (p2 : List Int) (hw : kNet.wf p0) (_h1 : (K.int .i64).wf p1) (_h2 : (K.sl (.int .i64)).wf p2) : l_FnExactSolveAt_F p0 p1 p2 = some true := by
 unfold l_FnExactSolveAt_F l_FnExactSolveAt
 rw [Tre.run_cond]
 by_cases hv : p2.length ≤ 1048576
 case neg => rw [decide_eq_true (by omega)]; rfl
 rw [decide_eq_false (by omega), cond_false]
 have w3 := hw.2.2.2.1
 have w4 := hw.2.2.2.2.1
 obtain ⟨r, hr, hs⟩ := l_szNet_is p0 ⟨w3.1, fun x hx => (w3.2 x hx).1⟩ ⟨w4.1, fun x hx => (w4.2 x hx).1⟩
 rw [run_some_mat hr, Tre.run_cond]
 by_cases h : r < 0
 ·rw [decide_eq_true h]; rfl
 have hs := hs h
 rw [decide_eq_false h, cond_false]
 unfold sizeNet at hs
 have k1 : sizeSS p0.2.2.2.1 ≤ 1048576 := by omega
 have k2 : sizeSS p0.2.2.2.2.1 ≤ 1048576 := by omega
 have l1 : p0.2.2.2.1.length ≤ 1048576 := by unfold sizeSS at k1; omega
 have l2 : p0.2.2.2.2.1.length ≤ 1048576 := by unfold sizeSS at k2; omega
 have hsn := sum_net (n := p0) (by omega)
 obtain ⟨n', hmk⟩ := markNet_is (n := p0) (k := 1) p0.1 p0.2.1 p0.2.2.1 (by omega) hsn l1 l2
 have e1 := l_toNet_is p0 k1 k2
 have e2 : cloneR p2 = some p2 := lim_of hv
 have e3 := s_SolveAt_is p0 p1 hv
 have e4 := i_SolveAt_is p0 p1 hv
 have hvl := solveV_len p0 p1 p2
 have e5 : eqS (solveV p0 p1 p2).2 (solveV p0 p1 p2).2 = some true := eqR_self (by omega)
 have e6 := l_eqNet_is p0 k1 k2
 have e7 : eqS p2 p2 = some true := eqR_self hv
 have hn : (p0.1, p0.2.1, p0.2.2.1, p0.2.2.2.1, p0.2.2.2.2.1, ()) = p0 := rfl
 have m1 : markR (1 + (sumL p0.2.2.2.1 : Int) + (sumL p0.2.2.2.2.1 : Int)) p2 = some (1 + (sumL p0.2.2.2.1 : Int) + (sumL p0.2.2.2.2.1 : Int) + (p2.length : Int), marks (1 + (sumL p0.2.2.2.1 : Int) + (sumL p0.2.2.2.2.1 : Int)) p2.length) := askO_true (by rw [Bool.and_eq_true, inR_iff, decide_eq_true_eq]; omega)
 generalize solveV p0 p1 p2 = v at *
 obtain ⟨va, vl⟩ := v
 dsimp only at hvl e5
 have hm : (marks 1 vl.length).length = vl.length := by simp [marks]
 have m2 : markR 1 vl = some (1 + (vl.length : Int), marks 1 vl.length) := askO_true (by rw [Bool.and_eq_true, inR_iff, decide_eq_true_eq]; omega)
 have m3 : heldR (marks 1 vl.length) 1 = some (1 + (vl.length : Int)) := by
  unfold heldR
  rw [hm, if_pos ⟨by rw [Bool.and_eq_true, inR_iff, decide_eq_true_eq]; omega, rfl⟩]
 have c1 : decide (1 + (sumL p0.2.2.2.1 : Int) + (sumL p0.2.2.2.2.1 : Int) + (p2.length : Int) < 0) = false := decide_eq_false (by omega)
 have c2 : decide (1 + (vl.length : Int) < 0) = false := decide_eq_false (by omega)
 rw [run_some_mat e1, run_some_mat e2]
 dsimp only
 rw [hn, run_some_mat (x := (va, vl)) e3, run_some_mat e1, run_some_mat e2]
 dsimp only
 rw [hn, run_some_mat (x := (va, vl)) e4, run_some_mat (x := true) e5]
 simp only [Tre.run_cond, decide_true, Bool.not_true, cond_false]
 rw [run_some_mat e1]
 dsimp only
 rw [hn, run_some_mat (x := true) e6]
 simp only [Tre.run_cond, decide_true, Bool.not_true, cond_false]
 rw [run_some_mat e2, run_some_mat (x := true) e7]
 simp only [Tre.run_cond, decide_true, Bool.not_true, cond_false]
 rw [run_some_mat hmk]
 dsimp only
 rw [run_some_mat m1]
 simp only [Tre.run_cond, c1, cond_false]
 rw [run_some_mat (x := true) e5]
 simp only [Tre.run_cond, decide_true, Bool.not_true, cond_false]
 rw [run_some_mat m2]
 dsimp only
 rw [run_some_mat m3]
 simp only [Tre.run_cond, c2, decide_true, Bool.not_true, cond_false]
 rw [run_some_mat e1, run_some_mat e2]
 dsimp only
 rw [hn, run_some_mat (x := (va, vl)) e4, run_some_mat (x := true) e5]
 simp only [Tre.run_cond, decide_true, Bool.not_true, cond_false]
 rw [run_some_mat m3]
 simp only [Tre.run_cond, c2, decide_true, Bool.not_true, cond_false]
 rfl
noncomputable def l_FnExactSolveAt_V : Env := ⟨tau, [(20, l_szNet_c), (22, l_toNet_c), (23, l_toInt64S_c), (21, s_SolveAt_c), (19, i_SolveAt_c), (24, l_eqInt64S_c), (25, l_eqNet_c), (26, l_markNet_f10e_c), (27, l_markInt64S_df1e_c), (28, l_heldInt64S_c)], []⟩
noncomputable def l_FnExactSolveAt_b : Code := (Try.f4.body).getD .skip
noncomputable def l_FnExactSolveAt_I : FnI := ⟨l_FnExactSolveAt_b, Try.f4.results.toList, Try.f4.resultTypes.toList, []⟩
noncomputable def l_FnExactSolveAt_out (_zp0 : Bool) (_zp1 : Bool) (_p0 : TNet) (_p1 : Int) (_p2 : (List Int)) : Bool → CallOut := fun r => ⟨(.imm true .bool r), [], []⟩
set_option maxRecDepth 100000 in
theorem l_FnExactSolveAt_eq : ∀ (zp0 : Bool) (zp1 : Bool) (p0 : TNet) (p1 : Int) (p2 : (List Int)), denFn l_FnExactSolveAt_V l_FnExactSolveAt_I ⟨[(.imm zp0 kNet p0), (.imm true (.int .i64) p1), (.imm zp1 (.sl (.int .i64)) p2)], []⟩ = (l_FnExactSolveAt p0 p1 p2).run fun r => some (l_FnExactSolveAt_out zp0 zp1 p0 p1 p2 r) := fun _ _ _ _ _ => by kernel_rfl
noncomputable def l_FnExactSolveAt_G (av : List AV) (rs : List Root) : Tre CallOut :=
 asCons av fun a0_ av0 =>
 asCons av0 fun a1_ av1 =>
 asCons av1 fun a2_ av2 =>
 asEnd av2 <|
 asEnd rs <|
 asImm kNet a0_ fun z2 d1 =>
 asImmZ true (.int .i64) a1_ fun d3 =>
 asImm (.sl (.int .i64)) a2_ fun z5 d4 =>
 .mat (l_FnExactSolveAt_F d1 d3 d4) fun r => .ret (l_FnExactSolveAt_out z2 z5 d1 d3 d4 r)
noncomputable def l_FnExactSolveAt_c : Ctr := ⟨[], fun ci => l_FnExactSolveAt_G ci.args ci.roots, false⟩
theorem l_FnExactSolveAt_env : EnvOK Try.prog .none l_FnExactSolveAt_V := (envOK_cons l_szNet_ok ent20 (envOK_cons l_toNet_ok ent22 (envOK_cons l_toInt64S_ok ent23 (envOK_cons s_SolveAt_ok ent21 (envOK_cons i_SolveAt_ok ent19 (envOK_cons l_eqInt64S_ok ent24 (envOK_cons l_eqNet_ok ent25 (envOK_cons l_markNet_f10e_ok ent26 (envOK_cons l_markInt64S_df1e_ok ent27 (envOK_cons l_heldInt64S_ok ent28 envOK_nil))))))))))
set_option maxRecDepth 100000 in
theorem l_FnExactSolveAt_ok : Contract Try.prog .none 4 l_FnExactSolveAt_c := by
 have hl : LoopsOK l_FnExactSolveAt_V [] l_FnExactSolveAt_b := loopsOK_nil (by kernel_rfl)
 refine (contract_of (F := l_FnExactSolveAt_I) tau_tys l_FnExactSolveAt_env Try.func4 (by kernel_rfl) (by kernel_rfl) (by kernel_rfl) hl []).weaken ?_
 rintro ⟨av, rs⟩ co h
 have h : (l_FnExactSolveAt_G av rs).run some = some co := h
 obtain ⟨a0_, av0, rfl, h_0⟩ := asCons_spec h
 obtain ⟨a1_, av1, rfl, h_1⟩ := asCons_spec h_0
 obtain ⟨a2_, av2, rfl, h_2⟩ := asCons_spec h_1
 obtain ⟨rfl, h_3⟩ := asEnd_spec h_2
 obtain ⟨rfl, h_4⟩ := asEnd_spec h_3
 obtain ⟨z2, d1, rfl, h_5⟩ := asImm_spec h_4
 obtain ⟨d3, rfl, h_6⟩ := asImmZ_spec h_5
 obtain ⟨z5, d4, rfl, h_7⟩ := asImm_spec h_6
 exact fin_mat (l_FnExactSolveAt_eq z2 z5 d1 d3 d4) h_7
end Go.Proofs.Ytkgekgfmnhccmaa
