/- Part 4 of the proof of FnListed. -/
import Derived.Test.YthnkanacjhlhhaaLi3
namespace Go.Proofs.Ythnkanacjhlhhaa
open Go Go.Abs Go.Proofs
noncomputable def slices_partitionEqualCmpFunc_Matrix_i_spacesc1c1_c978_l3 (h3_0_0 : Int) (h3_0_2 : Int) (h3_0_3 : (List TMatrix)) : Int → Tre (Int ⊕ Int) := fun s3 =>
 .cond (decide (s3 ≤ h3_0_2))
  (.ite (0 ≤ h3_0_0 ∧ h3_0_0 < (h3_0_3.length : Int)) <|
  .mat (h3_0_3[h3_0_0.toNat]?) fun x6 =>
  .ite (0 ≤ s3 ∧ s3 < (h3_0_3.length : Int)) <|
  .mat (h3_0_3[s3.toNat]?) fun x7 =>
  .mat (i_spacesc1c1_F x6 x7) fun r8 =>
  .cond (!(decide (r8 < 0)))
   (.ret (.inl (iwrap .i64 (s3 + 1))))
   (.ret (.inr s3)))
  (.ret (.inr s3))
noncomputable def slices_partitionEqualCmpFunc_Matrix_i_spacesc1c1_c978_l5 (h5_0_0 : Int) (h5_0_1 : Int) (h5_0_3 : (List TMatrix)) : Int → Tre (Int ⊕ Int) := fun s5 =>
 .cond (decide (h5_0_1 ≤ s5))
  (.ite (0 ≤ h5_0_0 ∧ h5_0_0 < (h5_0_3.length : Int)) <|
  .mat (h5_0_3[h5_0_0.toNat]?) fun x10 =>
  .ite (0 ≤ s5 ∧ s5 < (h5_0_3.length : Int)) <|
  .mat (h5_0_3[s5.toNat]?) fun x11 =>
  .mat (i_spacesc1c1_F x10 x11) fun r12 =>
  .cond (decide (r12 < 0))
   (.ret (.inl (iwrap .i64 (s5 - 1))))
   (.ret (.inr s5)))
  (.ret (.inr s5))
noncomputable def slices_partitionEqualCmpFunc_Matrix_i_spacesc1c1_c978_l1000003 (h1000003_0_0 : Int) : (Int × Int × (List TMatrix)) → Tre ((Int × Int × (List TMatrix)) ⊕ (Int × (List TMatrix))) := fun s1000003 =>
 .mat (loopF (slices_partitionEqualCmpFunc_Matrix_i_spacesc1c1_c978_l3 h1000003_0_0 s1000003.2.1 s1000003.2.2) s1000003.1) fun l9 =>
 .mat (loopF (slices_partitionEqualCmpFunc_Matrix_i_spacesc1c1_c978_l5 h1000003_0_0 l9 s1000003.2.2) s1000003.2.1) fun l13 =>
 .cond (decide (l9 > l13))
  (.ret (.inr (l9, s1000003.2.2)))
  (.ite (0 ≤ l13 ∧ l13 < (s1000003.2.2.length : Int)) <|
  .mat (s1000003.2.2[l13.toNat]?) fun x14 =>
  .ite (0 ≤ l9 ∧ l9 < (s1000003.2.2.length : Int)) <|
  .mat (s1000003.2.2[l9.toNat]?) fun x15 =>
  .ite (0 ≤ l9 ∧ l9 < (s1000003.2.2.length : Int)) <|
  .mat (s1000003.2.2[l9.toNat]?) fun _ =>
  let v17 := s1000003.2.2.set l9.toNat x14
  .ite (0 ≤ l13 ∧ l13 < (v17.length : Int)) <|
  .mat (v17[l13.toNat]?) fun _ =>
  .ret (.inl (iwrap .i64 (l9 + 1), iwrap .i64 (l13 - 1), v17.set l13.toNat x15)))
noncomputable def slices_partitionEqualCmpFunc_Matrix_i_spacesc1c1_c978 (p0 : Int) (p1 : Int) (p2 : Int) (p3 : (List TMatrix)) : Tre (Int × (List TMatrix)) :=
 .ite (0 ≤ p2 ∧ p2 < (p3.length : Int)) <|
 .mat (p3[p2.toNat]?) fun x1 =>
 .ite (0 ≤ p0 ∧ p0 < (p3.length : Int)) <|
 .mat (p3[p0.toNat]?) fun x2 =>
 .ite (0 ≤ p0 ∧ p0 < (p3.length : Int)) <|
 .mat (p3[p0.toNat]?) fun _ =>
 .ite (0 ≤ p2 ∧ p2 < ((p3.set p0.toNat x1).length : Int)) <|
 .mat ((p3.set p0.toNat x1)[p2.toNat]?) fun _ =>
 let v5 := (p3.set p0.toNat x1).set p2.toNat x2
 .mat (loopF (slices_partitionEqualCmpFunc_Matrix_i_spacesc1c1_c978_l1000003 p0) (iwrap .i64 (p0 + 1), iwrap .i64 (p1 - 1), v5)) fun l19 =>
 .ret (l19.1, l19.2)
noncomputable def slices_partitionEqualCmpFunc_Matrix_i_spacesc1c1_c978_F (p0 : Int) (p1 : Int) (p2 : Int) (p3 : (List TMatrix)) : Option (Int × (List TMatrix)) := (slices_partitionEqualCmpFunc_Matrix_i_spacesc1c1_c978 p0 p1 p2 p3).run some
noncomputable def slices_partitionEqualCmpFunc_Matrix_i_spacesc1c1_c978_V : Env := ⟨tau, [(123, i_spacesc1c1_c)], []⟩
noncomputable def slices_partitionEqualCmpFunc_Matrix_i_spacesc1c1_c978_b : Code := (Try.f154.body).getD .skip
noncomputable def slices_partitionEqualCmpFunc_Matrix_i_spacesc1c1_c978_l3_mk (h3_0_0 : Int) (h3_0_2 : Int) (h3_0_3 : (List TMatrix)) : Int → St := fun x => stOf [(0, (.ref (0, 0) [])), (1, (.imm true (.int .i64) h3_0_0)), (4, (.fn 123 [])), (11, (.imm true (.int .i64) x)), (12, (.imm true (.int .i64) h3_0_2))] [((0, 0), some ⟨false, (.sl kMatrix), (.sl (.imm true)), h3_0_3⟩)]
noncomputable def slices_partitionEqualCmpFunc_Matrix_i_spacesc1c1_c978_l3_out (h3_0_0 : Int) (h3_0_2 : Int) (h3_0_3 : (List TMatrix)) : Int → Ex × St := fun x => (.exit 2, stOf [(0, (.ref (0, 0) [])), (1, (.imm true (.int .i64) h3_0_0)), (4, (.fn 123 [])), (11, (.imm true (.int .i64) x)), (12, (.imm true (.int .i64) h3_0_2))] [((0, 0), some ⟨false, (.sl kMatrix), (.sl (.imm true)), h3_0_3⟩)])
noncomputable def slices_partitionEqualCmpFunc_Matrix_i_spacesc1c1_c978_l3_D (s : St) : Tre (Ex × St) :=
 asRef (0, 0) [] (s.tmps 0) <|
 asImmZ true (.int .i64) (s.tmps 1) fun d3 =>
 asFn 123 [] (s.tmps 4) <|
 asImmZ true (.int .i64) (s.tmps 11) fun d6 =>
 asImmZ true (.int .i64) (s.tmps 12) fun d8 =>
 asRoot false (.sl kMatrix) (s.roots (0, 0)) fun m10 d11 =>
 asM (.sl (.imm true)) m10 <|
 .mat (loopF (slices_partitionEqualCmpFunc_Matrix_i_spacesc1c1_c978_l3 d3 d8 d11) d6) fun x => .ret (slices_partitionEqualCmpFunc_Matrix_i_spacesc1c1_c978_l3_out d3 d8 d11 x)
noncomputable def slices_partitionEqualCmpFunc_Matrix_i_spacesc1c1_c978_l3_L : LoopI := ⟨([0, 1, 4, 11, 12], [(0, 0)]), ([0, 1, 4, 11, 12], [(0, 0)]), slices_partitionEqualCmpFunc_Matrix_i_spacesc1c1_c978_l3_D⟩
noncomputable def slices_partitionEqualCmpFunc_Matrix_i_spacesc1c1_c978_l5_mk (h5_0_0 : Int) (h5_0_1 : Int) (h5_0_3 : (List TMatrix)) : Int → St := fun x => stOf [(0, (.ref (0, 0) [])), (1, (.imm true (.int .i64) h5_0_0)), (4, (.fn 123 [])), (11, (.imm true (.int .i64) h5_0_1)), (12, (.imm true (.int .i64) x))] [((0, 0), some ⟨false, (.sl kMatrix), (.sl (.imm true)), h5_0_3⟩)]
noncomputable def slices_partitionEqualCmpFunc_Matrix_i_spacesc1c1_c978_l5_out (h5_0_0 : Int) (h5_0_1 : Int) (h5_0_3 : (List TMatrix)) : Int → Ex × St := fun x => (.exit 4, stOf [(0, (.ref (0, 0) [])), (1, (.imm true (.int .i64) h5_0_0)), (4, (.fn 123 [])), (11, (.imm true (.int .i64) h5_0_1)), (12, (.imm true (.int .i64) x))] [((0, 0), some ⟨false, (.sl kMatrix), (.sl (.imm true)), h5_0_3⟩)])
noncomputable def slices_partitionEqualCmpFunc_Matrix_i_spacesc1c1_c978_l5_D (s : St) : Tre (Ex × St) :=
 asRef (0, 0) [] (s.tmps 0) <|
 asImmZ true (.int .i64) (s.tmps 1) fun d3 =>
 asFn 123 [] (s.tmps 4) <|
 asImmZ true (.int .i64) (s.tmps 11) fun d6 =>
 asImmZ true (.int .i64) (s.tmps 12) fun d8 =>
 asRoot false (.sl kMatrix) (s.roots (0, 0)) fun m10 d11 =>
 asM (.sl (.imm true)) m10 <|
 .mat (loopF (slices_partitionEqualCmpFunc_Matrix_i_spacesc1c1_c978_l5 d3 d6 d11) d8) fun x => .ret (slices_partitionEqualCmpFunc_Matrix_i_spacesc1c1_c978_l5_out d3 d6 d11 x)
noncomputable def slices_partitionEqualCmpFunc_Matrix_i_spacesc1c1_c978_l5_L : LoopI := ⟨([0, 1, 4, 11, 12], [(0, 0)]), ([0, 1, 4, 11, 12], [(0, 0)]), slices_partitionEqualCmpFunc_Matrix_i_spacesc1c1_c978_l5_D⟩
noncomputable def slices_partitionEqualCmpFunc_Matrix_i_spacesc1c1_c978_l1000003_mk (h1000003_0_0 : Int) : (Int × Int × (List TMatrix)) → St := fun x => stOf [(0, (.ref (0, 0) [])), (1, (.imm true (.int .i64) h1000003_0_0)), (4, (.fn 123 [])), (11, (.imm true (.int .i64) x.1)), (12, (.imm true (.int .i64) x.2.1))] [((0, 0), some ⟨false, (.sl kMatrix), (.sl (.imm true)), x.2.2⟩)]
noncomputable def slices_partitionEqualCmpFunc_Matrix_i_spacesc1c1_c978_l1000003_out (_h1000003_0_0 : Int) : (Int × (List TMatrix)) → Ex × St := fun x => (.exit 0, stOf [(11, (.imm true (.int .i64) x.1))] [((0, 0), some ⟨false, (.sl kMatrix), (.sl (.imm true)), x.2⟩)])
noncomputable def slices_partitionEqualCmpFunc_Matrix_i_spacesc1c1_c978_l1000003_D (s : St) : Tre (Ex × St) :=
 asRef (0, 0) [] (s.tmps 0) <|
 asImmZ true (.int .i64) (s.tmps 1) fun d3 =>
 asFn 123 [] (s.tmps 4) <|
 asImmZ true (.int .i64) (s.tmps 11) fun d6 =>
 asImmZ true (.int .i64) (s.tmps 12) fun d8 =>
 asRoot false (.sl kMatrix) (s.roots (0, 0)) fun m10 d11 =>
 asM (.sl (.imm true)) m10 <|
 .mat (loopF (slices_partitionEqualCmpFunc_Matrix_i_spacesc1c1_c978_l1000003 d3) (d6, d8, d11)) fun x => .ret (slices_partitionEqualCmpFunc_Matrix_i_spacesc1c1_c978_l1000003_out d3 x)
noncomputable def slices_partitionEqualCmpFunc_Matrix_i_spacesc1c1_c978_l1000003_L : LoopI := ⟨([0, 1, 4, 11, 12], [(0, 0)]), ([11], [(0, 0)]), slices_partitionEqualCmpFunc_Matrix_i_spacesc1c1_c978_l1000003_D⟩
noncomputable def slices_partitionEqualCmpFunc_Matrix_i_spacesc1c1_c978_A : List (Nat × LoopI) := [(3, slices_partitionEqualCmpFunc_Matrix_i_spacesc1c1_c978_l3_L), (5, slices_partitionEqualCmpFunc_Matrix_i_spacesc1c1_c978_l5_L), (1000003, slices_partitionEqualCmpFunc_Matrix_i_spacesc1c1_c978_l1000003_L)]
set_option maxRecDepth 100000 in
theorem slices_partitionEqualCmpFunc_Matrix_i_spacesc1c1_c978_l3_step : ∀ (h3_0_0 : Int) (h3_0_2 : Int) (h3_0_3 : (List TMatrix)) (x : Int) (c : St → Option (Ex × St)), den slices_partitionEqualCmpFunc_Matrix_i_spacesc1c1_c978_V slices_partitionEqualCmpFunc_Matrix_i_spacesc1c1_c978_A (loopAt slices_partitionEqualCmpFunc_Matrix_i_spacesc1c1_c978_b 1) (slices_partitionEqualCmpFunc_Matrix_i_spacesc1c1_c978_l3_mk h3_0_0 h3_0_2 h3_0_3 x) (roundK slices_partitionEqualCmpFunc_Matrix_i_spacesc1c1_c978_l3_L.kp slices_partitionEqualCmpFunc_Matrix_i_spacesc1c1_c978_l3_L.kx c) = (slices_partitionEqualCmpFunc_Matrix_i_spacesc1c1_c978_l3 h3_0_0 h3_0_2 h3_0_3 x).run (roundR (slices_partitionEqualCmpFunc_Matrix_i_spacesc1c1_c978_l3_mk h3_0_0 h3_0_2 h3_0_3) (slices_partitionEqualCmpFunc_Matrix_i_spacesc1c1_c978_l3_out h3_0_0 h3_0_2 h3_0_3) c) := fun _ _ _ _ _ => by
 kernel_rfl
theorem slices_partitionEqualCmpFunc_Matrix_i_spacesc1c1_c978_l3_ok : LoopOK slices_partitionEqualCmpFunc_Matrix_i_spacesc1c1_c978_V slices_partitionEqualCmpFunc_Matrix_i_spacesc1c1_c978_A (loopAt slices_partitionEqualCmpFunc_Matrix_i_spacesc1c1_c978_b 1) slices_partitionEqualCmpFunc_Matrix_i_spacesc1c1_c978_l3_L := loopOK_of fun s e s' h => by
 generalize hs : restrict slices_partitionEqualCmpFunc_Matrix_i_spacesc1c1_c978_l3_L.kp s = s1 at h
 have h : (slices_partitionEqualCmpFunc_Matrix_i_spacesc1c1_c978_l3_D s1).run some = some (e, s') := h
 obtain ⟨e1, h_0⟩ := asRef_spec h
 obtain ⟨d3, e2, h_1⟩ := asImmZ_spec h_0
 obtain ⟨e4, h_2⟩ := asFn_spec h_1
 obtain ⟨d6, e5, h_3⟩ := asImmZ_spec h_2
 obtain ⟨d8, e7, h_4⟩ := asImmZ_spec h_3
 obtain ⟨m10, d11, e9, h_5⟩ := asRoot_spec h_4
 obtain ⟨rfl, h_6⟩ := asM_spec h_5
 obtain ⟨y, hy, hz⟩ := mat_ret h_6
 refine ⟨_, _, slices_partitionEqualCmpFunc_Matrix_i_spacesc1c1_c978_l3_mk d3 d8 d11, slices_partitionEqualCmpFunc_Matrix_i_spacesc1c1_c978_l3_out d3 d8 d11, slices_partitionEqualCmpFunc_Matrix_i_spacesc1c1_c978_l3 d3 d8 d11, d6, y, ?_, hy, ?_, slices_partitionEqualCmpFunc_Matrix_i_spacesc1c1_c978_l3_step d3 d8 d11⟩
 ·subst hs; exact restrict_eq (T := [(0, (.ref (0, 0) [])), (1, (.imm true (.int .i64) d3)), (4, (.fn 123 [])), (11, (.imm true (.int .i64) d6)), (12, (.imm true (.int .i64) d8))]) (U := [((0, 0), some ⟨false, (.sl kMatrix), (.sl (.imm true)), d11⟩)]) rfl rfl ⟨e1, e2, e4, e5, e7, trivial⟩ ⟨e9, trivial⟩
 ·exact Option.some.inj hz
set_option maxRecDepth 100000 in
theorem slices_partitionEqualCmpFunc_Matrix_i_spacesc1c1_c978_l5_step : ∀ (h5_0_0 : Int) (h5_0_1 : Int) (h5_0_3 : (List TMatrix)) (x : Int) (c : St → Option (Ex × St)), den slices_partitionEqualCmpFunc_Matrix_i_spacesc1c1_c978_V slices_partitionEqualCmpFunc_Matrix_i_spacesc1c1_c978_A (loopAt slices_partitionEqualCmpFunc_Matrix_i_spacesc1c1_c978_b 2) (slices_partitionEqualCmpFunc_Matrix_i_spacesc1c1_c978_l5_mk h5_0_0 h5_0_1 h5_0_3 x) (roundK slices_partitionEqualCmpFunc_Matrix_i_spacesc1c1_c978_l5_L.kp slices_partitionEqualCmpFunc_Matrix_i_spacesc1c1_c978_l5_L.kx c) = (slices_partitionEqualCmpFunc_Matrix_i_spacesc1c1_c978_l5 h5_0_0 h5_0_1 h5_0_3 x).run (roundR (slices_partitionEqualCmpFunc_Matrix_i_spacesc1c1_c978_l5_mk h5_0_0 h5_0_1 h5_0_3) (slices_partitionEqualCmpFunc_Matrix_i_spacesc1c1_c978_l5_out h5_0_0 h5_0_1 h5_0_3) c) := fun _ _ _ _ _ => by
 kernel_rfl
theorem slices_partitionEqualCmpFunc_Matrix_i_spacesc1c1_c978_l5_ok : LoopOK slices_partitionEqualCmpFunc_Matrix_i_spacesc1c1_c978_V slices_partitionEqualCmpFunc_Matrix_i_spacesc1c1_c978_A (loopAt slices_partitionEqualCmpFunc_Matrix_i_spacesc1c1_c978_b 2) slices_partitionEqualCmpFunc_Matrix_i_spacesc1c1_c978_l5_L := loopOK_of fun s e s' h => by
 generalize hs : restrict slices_partitionEqualCmpFunc_Matrix_i_spacesc1c1_c978_l5_L.kp s = s1 at h
 have h : (slices_partitionEqualCmpFunc_Matrix_i_spacesc1c1_c978_l5_D s1).run some = some (e, s') := h
 obtain ⟨e1, h_0⟩ := asRef_spec h
 obtain ⟨d3, e2, h_1⟩ := asImmZ_spec h_0
 obtain ⟨e4, h_2⟩ := asFn_spec h_1
 obtain ⟨d6, e5, h_3⟩ := asImmZ_spec h_2
 obtain ⟨d8, e7, h_4⟩ := asImmZ_spec h_3
 obtain ⟨m10, d11, e9, h_5⟩ := asRoot_spec h_4
 obtain ⟨rfl, h_6⟩ := asM_spec h_5
 obtain ⟨y, hy, hz⟩ := mat_ret h_6
 refine ⟨_, _, slices_partitionEqualCmpFunc_Matrix_i_spacesc1c1_c978_l5_mk d3 d6 d11, slices_partitionEqualCmpFunc_Matrix_i_spacesc1c1_c978_l5_out d3 d6 d11, slices_partitionEqualCmpFunc_Matrix_i_spacesc1c1_c978_l5 d3 d6 d11, d8, y, ?_, hy, ?_, slices_partitionEqualCmpFunc_Matrix_i_spacesc1c1_c978_l5_step d3 d6 d11⟩
 ·subst hs; exact restrict_eq (T := [(0, (.ref (0, 0) [])), (1, (.imm true (.int .i64) d3)), (4, (.fn 123 [])), (11, (.imm true (.int .i64) d6)), (12, (.imm true (.int .i64) d8))]) (U := [((0, 0), some ⟨false, (.sl kMatrix), (.sl (.imm true)), d11⟩)]) rfl rfl ⟨e1, e2, e4, e5, e7, trivial⟩ ⟨e9, trivial⟩
 ·exact Option.some.inj hz
set_option maxRecDepth 100000 in
theorem slices_partitionEqualCmpFunc_Matrix_i_spacesc1c1_c978_l1000003_step : ∀ (h1000003_0_0 : Int) (x : (Int × Int × (List TMatrix))) (c : St → Option (Ex × St)), den slices_partitionEqualCmpFunc_Matrix_i_spacesc1c1_c978_V slices_partitionEqualCmpFunc_Matrix_i_spacesc1c1_c978_A (loopAt slices_partitionEqualCmpFunc_Matrix_i_spacesc1c1_c978_b 0) (slices_partitionEqualCmpFunc_Matrix_i_spacesc1c1_c978_l1000003_mk h1000003_0_0 x) (roundK slices_partitionEqualCmpFunc_Matrix_i_spacesc1c1_c978_l1000003_L.kp slices_partitionEqualCmpFunc_Matrix_i_spacesc1c1_c978_l1000003_L.kx c) = (slices_partitionEqualCmpFunc_Matrix_i_spacesc1c1_c978_l1000003 h1000003_0_0 x).run (roundR (slices_partitionEqualCmpFunc_Matrix_i_spacesc1c1_c978_l1000003_mk h1000003_0_0) (slices_partitionEqualCmpFunc_Matrix_i_spacesc1c1_c978_l1000003_out h1000003_0_0) c) := fun _ _ _ => by
 kernel_rfl
theorem slices_partitionEqualCmpFunc_Matrix_i_spacesc1c1_c978_l1000003_ok : LoopOK slices_partitionEqualCmpFunc_Matrix_i_spacesc1c1_c978_V slices_partitionEqualCmpFunc_Matrix_i_spacesc1c1_c978_A (loopAt slices_partitionEqualCmpFunc_Matrix_i_spacesc1c1_c978_b 0) slices_partitionEqualCmpFunc_Matrix_i_spacesc1c1_c978_l1000003_L := loopOK_of fun s e s' h => by
 generalize hs : restrict slices_partitionEqualCmpFunc_Matrix_i_spacesc1c1_c978_l1000003_L.kp s = s1 at h
 have h : (slices_partitionEqualCmpFunc_Matrix_i_spacesc1c1_c978_l1000003_D s1).run some = some (e, s') := h
 obtain ⟨e1, h_0⟩ := asRef_spec h
 obtain ⟨d3, e2, h_1⟩ := asImmZ_spec h_0
 obtain ⟨e4, h_2⟩ := asFn_spec h_1
 obtain ⟨d6, e5, h_3⟩ := asImmZ_spec h_2
 obtain ⟨d8, e7, h_4⟩ := asImmZ_spec h_3
 obtain ⟨m10, d11, e9, h_5⟩ := asRoot_spec h_4
 obtain ⟨rfl, h_6⟩ := asM_spec h_5
 obtain ⟨y, hy, hz⟩ := mat_ret h_6
 refine ⟨_, _, slices_partitionEqualCmpFunc_Matrix_i_spacesc1c1_c978_l1000003_mk d3, slices_partitionEqualCmpFunc_Matrix_i_spacesc1c1_c978_l1000003_out d3, slices_partitionEqualCmpFunc_Matrix_i_spacesc1c1_c978_l1000003 d3, (d6, d8, d11), y, ?_, hy, ?_, slices_partitionEqualCmpFunc_Matrix_i_spacesc1c1_c978_l1000003_step d3⟩
 ·subst hs; exact restrict_eq (T := [(0, (.ref (0, 0) [])), (1, (.imm true (.int .i64) d3)), (4, (.fn 123 [])), (11, (.imm true (.int .i64) d6)), (12, (.imm true (.int .i64) d8))]) (U := [((0, 0), some ⟨false, (.sl kMatrix), (.sl (.imm true)), d11⟩)]) rfl rfl ⟨e1, e2, e4, e5, e7, trivial⟩ ⟨e9, trivial⟩
 ·exact Option.some.inj hz
noncomputable def slices_partitionEqualCmpFunc_Matrix_i_spacesc1c1_c978_I : FnI := ⟨slices_partitionEqualCmpFunc_Matrix_i_spacesc1c1_c978_b, Try.f154.results.toList, Try.f154.resultTypes.toList, slices_partitionEqualCmpFunc_Matrix_i_spacesc1c1_c978_A⟩
noncomputable def slices_partitionEqualCmpFunc_Matrix_i_spacesc1c1_c978_out (_p0 : Int) (_p1 : Int) (_p2 : Int) (_p3 : (List TMatrix)) : (Int × (List TMatrix)) → CallOut := fun r => ⟨(.imm true (.int .i64) r.1), [⟨false, (.sl kMatrix), (.sl (.imm true)), r.2⟩], []⟩
set_option maxRecDepth 100000 in
theorem slices_partitionEqualCmpFunc_Matrix_i_spacesc1c1_c978_eq : ∀ (p0 : Int) (p1 : Int) (p2 : Int) (p3 : (List TMatrix)), denFn slices_partitionEqualCmpFunc_Matrix_i_spacesc1c1_c978_V slices_partitionEqualCmpFunc_Matrix_i_spacesc1c1_c978_I ⟨[(.ref (0, 0) []), (.imm true (.int .i64) p0), (.imm true (.int .i64) p1), (.imm true (.int .i64) p2), (.fn 123 [])], [⟨false, (.sl kMatrix), (.sl (.imm true)), p3⟩]⟩ = (slices_partitionEqualCmpFunc_Matrix_i_spacesc1c1_c978 p0 p1 p2 p3).run fun r => some (slices_partitionEqualCmpFunc_Matrix_i_spacesc1c1_c978_out p0 p1 p2 p3 r) := fun _ _ _ _ => by kernel_rfl
noncomputable def slices_partitionEqualCmpFunc_Matrix_i_spacesc1c1_c978_G (av : List AV) (rs : List Root) : Tre CallOut :=
 asCons av fun a0_ av0 =>
 asCons av0 fun a1_ av1 =>
 asCons av1 fun a2_ av2 =>
 asCons av2 fun a3_ av3 =>
 asCons av3 fun a4_ av4 =>
 asEnd av4 <|
 asCons rs fun r0_ rs0 =>
 asEnd rs0 <|
 asRef (0, 0) [] a0_ <|
 asImmZ true (.int .i64) a1_ fun d1 =>
 asImmZ true (.int .i64) a2_ fun d2 =>
 asImmZ true (.int .i64) a3_ fun d3 =>
 asFn 123 [] a4_ <|
 asRt false (.sl kMatrix) r0_ fun m4 d5 =>
 asM (.sl (.imm true)) m4 <|
 .mat (slices_partitionEqualCmpFunc_Matrix_i_spacesc1c1_c978_F d1 d2 d3 d5) fun r => .ret (slices_partitionEqualCmpFunc_Matrix_i_spacesc1c1_c978_out d1 d2 d3 d5 r)
noncomputable def slices_partitionEqualCmpFunc_Matrix_i_spacesc1c1_c978_c : Ctr := ⟨[0], fun ci => slices_partitionEqualCmpFunc_Matrix_i_spacesc1c1_c978_G ci.args ci.roots, false⟩
theorem slices_partitionEqualCmpFunc_Matrix_i_spacesc1c1_c978_env : EnvOK Try.prog .none slices_partitionEqualCmpFunc_Matrix_i_spacesc1c1_c978_V := (envOK_cons i_spacesc1c1_ok ent123 envOK_nil)
set_option maxRecDepth 100000 in
theorem slices_partitionEqualCmpFunc_Matrix_i_spacesc1c1_c978_ok : Contract Try.prog .none 154 slices_partitionEqualCmpFunc_Matrix_i_spacesc1c1_c978_c := by
 have hl : LoopsOK slices_partitionEqualCmpFunc_Matrix_i_spacesc1c1_c978_V slices_partitionEqualCmpFunc_Matrix_i_spacesc1c1_c978_A slices_partitionEqualCmpFunc_Matrix_i_spacesc1c1_c978_b := (loopsOK_all (n := 3) (by kernel_rfl) fun k hk => by
   match k, hk with
   | 0, _ => exact loopOK_at (id := 1000003) (L := slices_partitionEqualCmpFunc_Matrix_i_spacesc1c1_c978_l1000003_L) (by kernel_rfl) (by kernel_rfl) slices_partitionEqualCmpFunc_Matrix_i_spacesc1c1_c978_l1000003_ok
   | 1, _ => exact loopOK_at (id := 3) (L := slices_partitionEqualCmpFunc_Matrix_i_spacesc1c1_c978_l3_L) (by kernel_rfl) (by kernel_rfl) slices_partitionEqualCmpFunc_Matrix_i_spacesc1c1_c978_l3_ok
   | 2, _ => exact loopOK_at (id := 5) (L := slices_partitionEqualCmpFunc_Matrix_i_spacesc1c1_c978_l5_L) (by kernel_rfl) (by kernel_rfl) slices_partitionEqualCmpFunc_Matrix_i_spacesc1c1_c978_l5_ok)
 refine (contract_of (F := slices_partitionEqualCmpFunc_Matrix_i_spacesc1c1_c978_I) tau_tys slices_partitionEqualCmpFunc_Matrix_i_spacesc1c1_c978_env Try.func154 (by kernel_rfl) (by kernel_rfl) (by kernel_rfl) hl [0]).weaken ?_
 rintro ⟨av, rs⟩ co h
 have h : (slices_partitionEqualCmpFunc_Matrix_i_spacesc1c1_c978_G av rs).run some = some co := h
 obtain ⟨a0_, av0, rfl, h_0⟩ := asCons_spec h
 obtain ⟨a1_, av1, rfl, h_1⟩ := asCons_spec h_0
 obtain ⟨a2_, av2, rfl, h_2⟩ := asCons_spec h_1
 obtain ⟨a3_, av3, rfl, h_3⟩ := asCons_spec h_2
 obtain ⟨a4_, av4, rfl, h_4⟩ := asCons_spec h_3
 obtain ⟨rfl, h_5⟩ := asEnd_spec h_4
 obtain ⟨r0_, rs0, rfl, h_6⟩ := asCons_spec h_5
 obtain ⟨rfl, h_7⟩ := asEnd_spec h_6
 obtain ⟨rfl, h_8⟩ := asRef_spec h_7
 obtain ⟨d1, rfl, h_9⟩ := asImmZ_spec h_8
 obtain ⟨d2, rfl, h_10⟩ := asImmZ_spec h_9
 obtain ⟨d3, rfl, h_11⟩ := asImmZ_spec h_10
 obtain ⟨rfl, h_12⟩ := asFn_spec h_11
 obtain ⟨m4, d5, rfl, h_13⟩ := asRt_spec h_12
 obtain ⟨rfl, h_14⟩ := asM_spec h_13
 exact fin_mat (slices_partitionEqualCmpFunc_Matrix_i_spacesc1c1_c978_eq d1 d2 d3 d5) h_14
end Go.Proofs.Ythnkanacjhlhhaa

namespace Go.Proofs.Ythnkanacjhlhhaa
open Go Go.Abs Go.Proofs
noncomputable def slices_partitionCmpFunc_Matrix_i_spacesc1c1_c978_l3 (h3_0_0 : Int) (h3_0_2 : Int) (h3_0_3 : (List TMatrix)) : Int → Tre (Int ⊕ Int) := fun s3 =>
 .cond (decide (s3 ≤ h3_0_2))
  (.ite (0 ≤ s3 ∧ s3 < (h3_0_3.length : Int)) <|
  .mat (h3_0_3[s3.toNat]?) fun x6 =>
  .ite (0 ≤ h3_0_0 ∧ h3_0_0 < (h3_0_3.length : Int)) <|
  .mat (h3_0_3[h3_0_0.toNat]?) fun x7 =>
  .mat (i_spacesc1c1_F x6 x7) fun r8 =>
  .cond (decide (r8 < 0))
   (.ret (.inl (iwrap .i64 (s3 + 1))))
   (.ret (.inr s3)))
  (.ret (.inr s3))
noncomputable def slices_partitionCmpFunc_Matrix_i_spacesc1c1_c978_l5 (h5_0_0 : Int) (h5_0_1 : Int) (h5_0_3 : (List TMatrix)) : Int → Tre (Int ⊕ Int) := fun s5 =>
 .cond (decide (h5_0_1 ≤ s5))
  (.ite (0 ≤ s5 ∧ s5 < (h5_0_3.length : Int)) <|
  .mat (h5_0_3[s5.toNat]?) fun x10 =>
  .ite (0 ≤ h5_0_0 ∧ h5_0_0 < (h5_0_3.length : Int)) <|
  .mat (h5_0_3[h5_0_0.toNat]?) fun x11 =>
  .mat (i_spacesc1c1_F x10 x11) fun r12 =>
  .cond (!(decide (r12 < 0)))
   (.ret (.inl (iwrap .i64 (s5 - 1))))
   (.ret (.inr s5)))
  (.ret (.inr s5))
noncomputable def slices_partitionCmpFunc_Matrix_i_spacesc1c1_c978_l13 (h13_0_0 : Int) (h13_0_2 : Int) (h13_0_3 : (List TMatrix)) : Int → Tre (Int ⊕ Int) := fun s13 =>
 .cond (decide (s13 ≤ h13_0_2))
  (.ite (0 ≤ s13 ∧ s13 < (h13_0_3.length : Int)) <|
  .mat (h13_0_3[s13.toNat]?) fun x24 =>
  .ite (0 ≤ h13_0_0 ∧ h13_0_0 < (h13_0_3.length : Int)) <|
  .mat (h13_0_3[h13_0_0.toNat]?) fun x25 =>
  .mat (i_spacesc1c1_F x24 x25) fun r26 =>
  .cond (decide (r26 < 0))
   (.ret (.inl (iwrap .i64 (s13 + 1))))
   (.ret (.inr s13)))
  (.ret (.inr s13))
noncomputable def slices_partitionCmpFunc_Matrix_i_spacesc1c1_c978_l15 (h15_0_0 : Int) (h15_0_1 : Int) (h15_0_3 : (List TMatrix)) : Int → Tre (Int ⊕ Int) := fun s15 =>
 .cond (decide (h15_0_1 ≤ s15))
  (.ite (0 ≤ s15 ∧ s15 < (h15_0_3.length : Int)) <|
  .mat (h15_0_3[s15.toNat]?) fun x28 =>
  .ite (0 ≤ h15_0_0 ∧ h15_0_0 < (h15_0_3.length : Int)) <|
  .mat (h15_0_3[h15_0_0.toNat]?) fun x29 =>
  .mat (i_spacesc1c1_F x28 x29) fun r30 =>
  .cond (!(decide (r30 < 0)))
   (.ret (.inl (iwrap .i64 (s15 - 1))))
   (.ret (.inr s15)))
  (.ret (.inr s15))
noncomputable def slices_partitionCmpFunc_Matrix_i_spacesc1c1_c978_l1000013 (h1000013_0_0 : Int) : (Int × Int × (List TMatrix)) → Tre ((Int × Int × (List TMatrix)) ⊕ (Int × (List TMatrix))) := fun s1000013 =>
 .mat (loopF (slices_partitionCmpFunc_Matrix_i_spacesc1c1_c978_l13 h1000013_0_0 s1000013.2.1 s1000013.2.2) s1000013.1) fun l27 =>
 .mat (loopF (slices_partitionCmpFunc_Matrix_i_spacesc1c1_c978_l15 h1000013_0_0 l27 s1000013.2.2) s1000013.2.1) fun l31 =>
 .cond (decide (l27 > l31))
  (.ret (.inr (l31, s1000013.2.2)))
  (.ite (0 ≤ l31 ∧ l31 < (s1000013.2.2.length : Int)) <|
  .mat (s1000013.2.2[l31.toNat]?) fun x32 =>
  .ite (0 ≤ l27 ∧ l27 < (s1000013.2.2.length : Int)) <|
  .mat (s1000013.2.2[l27.toNat]?) fun x33 =>
  .ite (0 ≤ l27 ∧ l27 < (s1000013.2.2.length : Int)) <|
  .mat (s1000013.2.2[l27.toNat]?) fun _ =>
  let v35 := s1000013.2.2.set l27.toNat x32
  .ite (0 ≤ l31 ∧ l31 < (v35.length : Int)) <|
  .mat (v35[l31.toNat]?) fun _ =>
  .ret (.inl (iwrap .i64 (l27 + 1), iwrap .i64 (l31 - 1), v35.set l31.toNat x33)))
noncomputable def slices_partitionCmpFunc_Matrix_i_spacesc1c1_c978 (p0 : Int) (p1 : Int) (p2 : Int) (p3 : (List TMatrix)) : Tre (Int × Bool × (List TMatrix)) :=
 .ite (0 ≤ p2 ∧ p2 < (p3.length : Int)) <|
 .mat (p3[p2.toNat]?) fun x1 =>
 .ite (0 ≤ p0 ∧ p0 < (p3.length : Int)) <|
 .mat (p3[p0.toNat]?) fun x2 =>
 .ite (0 ≤ p0 ∧ p0 < (p3.length : Int)) <|
 .mat (p3[p0.toNat]?) fun _ =>
 .ite (0 ≤ p2 ∧ p2 < ((p3.set p0.toNat x1).length : Int)) <|
 .mat ((p3.set p0.toNat x1)[p2.toNat]?) fun _ =>
 let v5 := (p3.set p0.toNat x1).set p2.toNat x2
 .mat (loopF (slices_partitionCmpFunc_Matrix_i_spacesc1c1_c978_l3 p0 (iwrap .i64 (p1 - 1)) v5) (iwrap .i64 (p0 + 1))) fun l9 =>
 .mat (loopF (slices_partitionCmpFunc_Matrix_i_spacesc1c1_c978_l5 p0 l9 v5) (iwrap .i64 (p1 - 1))) fun l13 =>
 .cond (decide (l9 > l13))
  (.ite (0 ≤ p0 ∧ p0 < (v5.length : Int)) <|
  .mat (v5[p0.toNat]?) fun x14 =>
  .ite (0 ≤ l13 ∧ l13 < (v5.length : Int)) <|
  .mat (v5[l13.toNat]?) fun x15 =>
  .ite (0 ≤ l13 ∧ l13 < (v5.length : Int)) <|
  .mat (v5[l13.toNat]?) fun _ =>
  .ite (0 ≤ p0 ∧ p0 < ((v5.set l13.toNat x14).length : Int)) <|
  .mat ((v5.set l13.toNat x14)[p0.toNat]?) fun _ =>
  let v18 := (v5.set l13.toNat x14).set p0.toNat x15
  .ret (l13, true, v18))
  (.ite (0 ≤ l13 ∧ l13 < (v5.length : Int)) <|
  .mat (v5[l13.toNat]?) fun x19 =>
  .ite (0 ≤ l9 ∧ l9 < (v5.length : Int)) <|
  .mat (v5[l9.toNat]?) fun x20 =>
  .ite (0 ≤ l9 ∧ l9 < (v5.length : Int)) <|
  .mat (v5[l9.toNat]?) fun _ =>
  .ite (0 ≤ l13 ∧ l13 < ((v5.set l9.toNat x19).length : Int)) <|
  .mat ((v5.set l9.toNat x19)[l13.toNat]?) fun _ =>
  let v23 := (v5.set l9.toNat x19).set l13.toNat x20
  .mat (loopF (slices_partitionCmpFunc_Matrix_i_spacesc1c1_c978_l1000013 p0) (iwrap .i64 (l9 + 1), iwrap .i64 (l13 - 1), v23)) fun l37 =>
  .ite (0 ≤ p0 ∧ p0 < (l37.2.length : Int)) <|
  .mat (l37.2[p0.toNat]?) fun x38 =>
  .ite (0 ≤ l37.1 ∧ l37.1 < (l37.2.length : Int)) <|
  .mat (l37.2[l37.1.toNat]?) fun x39 =>
  .ite (0 ≤ l37.1 ∧ l37.1 < (l37.2.length : Int)) <|
  .mat (l37.2[l37.1.toNat]?) fun _ =>
  let v41 := l37.2.set l37.1.toNat x38
  .ite (0 ≤ p0 ∧ p0 < (v41.length : Int)) <|
  .mat (v41[p0.toNat]?) fun _ =>
  .ret (l37.1, false, v41.set p0.toNat x39))
noncomputable def slices_partitionCmpFunc_Matrix_i_spacesc1c1_c978_F (p0 : Int) (p1 : Int) (p2 : Int) (p3 : (List TMatrix)) : Option (Int × Bool × (List TMatrix)) := (slices_partitionCmpFunc_Matrix_i_spacesc1c1_c978 p0 p1 p2 p3).run some
noncomputable def slices_partitionCmpFunc_Matrix_i_spacesc1c1_c978_V : Env := ⟨tau, [(123, i_spacesc1c1_c)], []⟩
noncomputable def slices_partitionCmpFunc_Matrix_i_spacesc1c1_c978_b : Code := (Try.f155.body).getD .skip
noncomputable def slices_partitionCmpFunc_Matrix_i_spacesc1c1_c978_l3_mk (h3_0_0 : Int) (h3_0_2 : Int) (h3_0_3 : (List TMatrix)) : Int → St := fun x => stOf [(0, (.ref (0, 0) [])), (1, (.imm true (.int .i64) h3_0_0)), (4, (.fn 123 [])), (12, (.imm true (.int .i64) x)), (13, (.imm true (.int .i64) h3_0_2))] [((0, 0), some ⟨false, (.sl kMatrix), (.sl (.imm true)), h3_0_3⟩)]
noncomputable def slices_partitionCmpFunc_Matrix_i_spacesc1c1_c978_l3_out (h3_0_0 : Int) (h3_0_2 : Int) (h3_0_3 : (List TMatrix)) : Int → Ex × St := fun x => (.exit 0, stOf [(0, (.ref (0, 0) [])), (1, (.imm true (.int .i64) h3_0_0)), (4, (.fn 123 [])), (12, (.imm true (.int .i64) x)), (13, (.imm true (.int .i64) h3_0_2))] [((0, 0), some ⟨false, (.sl kMatrix), (.sl (.imm true)), h3_0_3⟩)])
noncomputable def slices_partitionCmpFunc_Matrix_i_spacesc1c1_c978_l3_D (s : St) : Tre (Ex × St) :=
 asRef (0, 0) [] (s.tmps 0) <|
 asImmZ true (.int .i64) (s.tmps 1) fun d3 =>
 asFn 123 [] (s.tmps 4) <|
 asImmZ true (.int .i64) (s.tmps 12) fun d6 =>
 asImmZ true (.int .i64) (s.tmps 13) fun d8 =>
 asRoot false (.sl kMatrix) (s.roots (0, 0)) fun m10 d11 =>
 asM (.sl (.imm true)) m10 <|
 .mat (loopF (slices_partitionCmpFunc_Matrix_i_spacesc1c1_c978_l3 d3 d8 d11) d6) fun x => .ret (slices_partitionCmpFunc_Matrix_i_spacesc1c1_c978_l3_out d3 d8 d11 x)
noncomputable def slices_partitionCmpFunc_Matrix_i_spacesc1c1_c978_l3_L : LoopI := ⟨([0, 1, 4, 12, 13], [(0, 0)]), ([0, 1, 4, 12, 13], [(0, 0)]), slices_partitionCmpFunc_Matrix_i_spacesc1c1_c978_l3_D⟩
noncomputable def slices_partitionCmpFunc_Matrix_i_spacesc1c1_c978_l5_mk (h5_0_0 : Int) (h5_0_1 : Int) (h5_0_3 : (List TMatrix)) : Int → St := fun x => stOf [(0, (.ref (0, 0) [])), (1, (.imm true (.int .i64) h5_0_0)), (4, (.fn 123 [])), (12, (.imm true (.int .i64) h5_0_1)), (13, (.imm true (.int .i64) x))] [((0, 0), some ⟨false, (.sl kMatrix), (.sl (.imm true)), h5_0_3⟩)]
noncomputable def slices_partitionCmpFunc_Matrix_i_spacesc1c1_c978_l5_out (h5_0_0 : Int) (h5_0_1 : Int) (h5_0_3 : (List TMatrix)) : Int → Ex × St := fun x => (.exit 2, stOf [(0, (.ref (0, 0) [])), (1, (.imm true (.int .i64) h5_0_0)), (4, (.fn 123 [])), (12, (.imm true (.int .i64) h5_0_1)), (13, (.imm true (.int .i64) x))] [((0, 0), some ⟨false, (.sl kMatrix), (.sl (.imm true)), h5_0_3⟩)])
noncomputable def slices_partitionCmpFunc_Matrix_i_spacesc1c1_c978_l5_D (s : St) : Tre (Ex × St) :=
 asRef (0, 0) [] (s.tmps 0) <|
 asImmZ true (.int .i64) (s.tmps 1) fun d3 =>
 asFn 123 [] (s.tmps 4) <|
 asImmZ true (.int .i64) (s.tmps 12) fun d6 =>
 asImmZ true (.int .i64) (s.tmps 13) fun d8 =>
 asRoot false (.sl kMatrix) (s.roots (0, 0)) fun m10 d11 =>
 asM (.sl (.imm true)) m10 <|
 .mat (loopF (slices_partitionCmpFunc_Matrix_i_spacesc1c1_c978_l5 d3 d6 d11) d8) fun x => .ret (slices_partitionCmpFunc_Matrix_i_spacesc1c1_c978_l5_out d3 d6 d11 x)
noncomputable def slices_partitionCmpFunc_Matrix_i_spacesc1c1_c978_l5_L : LoopI := ⟨([0, 1, 4, 12, 13], [(0, 0)]), ([0, 1, 4, 12, 13], [(0, 0)]), slices_partitionCmpFunc_Matrix_i_spacesc1c1_c978_l5_D⟩
noncomputable def slices_partitionCmpFunc_Matrix_i_spacesc1c1_c978_l13_mk (h13_0_0 : Int) (h13_0_2 : Int) (h13_0_3 : (List TMatrix)) : Int → St := fun x => stOf [(0, (.ref (0, 0) [])), (1, (.imm true (.int .i64) h13_0_0)), (4, (.fn 123 [])), (12, (.imm true (.int .i64) x)), (13, (.imm true (.int .i64) h13_0_2))] [((0, 0), some ⟨false, (.sl kMatrix), (.sl (.imm true)), h13_0_3⟩)]
noncomputable def slices_partitionCmpFunc_Matrix_i_spacesc1c1_c978_l13_out (h13_0_0 : Int) (h13_0_2 : Int) (h13_0_3 : (List TMatrix)) : Int → Ex × St := fun x => (.exit 6, stOf [(0, (.ref (0, 0) [])), (1, (.imm true (.int .i64) h13_0_0)), (4, (.fn 123 [])), (12, (.imm true (.int .i64) x)), (13, (.imm true (.int .i64) h13_0_2))] [((0, 0), some ⟨false, (.sl kMatrix), (.sl (.imm true)), h13_0_3⟩)])
noncomputable def slices_partitionCmpFunc_Matrix_i_spacesc1c1_c978_l13_D (s : St) : Tre (Ex × St) :=
 asRef (0, 0) [] (s.tmps 0) <|
 asImmZ true (.int .i64) (s.tmps 1) fun d3 =>
 asFn 123 [] (s.tmps 4) <|
 asImmZ true (.int .i64) (s.tmps 12) fun d6 =>
 asImmZ true (.int .i64) (s.tmps 13) fun d8 =>
 asRoot false (.sl kMatrix) (s.roots (0, 0)) fun m10 d11 =>
 asM (.sl (.imm true)) m10 <|
 .mat (loopF (slices_partitionCmpFunc_Matrix_i_spacesc1c1_c978_l13 d3 d8 d11) d6) fun x => .ret (slices_partitionCmpFunc_Matrix_i_spacesc1c1_c978_l13_out d3 d8 d11 x)
noncomputable def slices_partitionCmpFunc_Matrix_i_spacesc1c1_c978_l13_L : LoopI := ⟨([0, 1, 4, 12, 13], [(0, 0)]), ([0, 1, 4, 12, 13], [(0, 0)]), slices_partitionCmpFunc_Matrix_i_spacesc1c1_c978_l13_D⟩
noncomputable def slices_partitionCmpFunc_Matrix_i_spacesc1c1_c978_l15_mk (h15_0_0 : Int) (h15_0_1 : Int) (h15_0_3 : (List TMatrix)) : Int → St := fun x => stOf [(0, (.ref (0, 0) [])), (1, (.imm true (.int .i64) h15_0_0)), (4, (.fn 123 [])), (12, (.imm true (.int .i64) h15_0_1)), (13, (.imm true (.int .i64) x))] [((0, 0), some ⟨false, (.sl kMatrix), (.sl (.imm true)), h15_0_3⟩)]
noncomputable def slices_partitionCmpFunc_Matrix_i_spacesc1c1_c978_l15_out (h15_0_0 : Int) (h15_0_1 : Int) (h15_0_3 : (List TMatrix)) : Int → Ex × St := fun x => (.exit 8, stOf [(0, (.ref (0, 0) [])), (1, (.imm true (.int .i64) h15_0_0)), (4, (.fn 123 [])), (12, (.imm true (.int .i64) h15_0_1)), (13, (.imm true (.int .i64) x))] [((0, 0), some ⟨false, (.sl kMatrix), (.sl (.imm true)), h15_0_3⟩)])
noncomputable def slices_partitionCmpFunc_Matrix_i_spacesc1c1_c978_l15_D (s : St) : Tre (Ex × St) :=
 asRef (0, 0) [] (s.tmps 0) <|
 asImmZ true (.int .i64) (s.tmps 1) fun d3 =>
 asFn 123 [] (s.tmps 4) <|
 asImmZ true (.int .i64) (s.tmps 12) fun d6 =>
 asImmZ true (.int .i64) (s.tmps 13) fun d8 =>
 asRoot false (.sl kMatrix) (s.roots (0, 0)) fun m10 d11 =>
 asM (.sl (.imm true)) m10 <|
 .mat (loopF (slices_partitionCmpFunc_Matrix_i_spacesc1c1_c978_l15 d3 d6 d11) d8) fun x => .ret (slices_partitionCmpFunc_Matrix_i_spacesc1c1_c978_l15_out d3 d6 d11 x)
noncomputable def slices_partitionCmpFunc_Matrix_i_spacesc1c1_c978_l15_L : LoopI := ⟨([0, 1, 4, 12, 13], [(0, 0)]), ([0, 1, 4, 12, 13], [(0, 0)]), slices_partitionCmpFunc_Matrix_i_spacesc1c1_c978_l15_D⟩
noncomputable def slices_partitionCmpFunc_Matrix_i_spacesc1c1_c978_l1000013_mk (h1000013_0_0 : Int) : (Int × Int × (List TMatrix)) → St := fun x => stOf [(0, (.ref (0, 0) [])), (1, (.imm true (.int .i64) h1000013_0_0)), (4, (.fn 123 [])), (12, (.imm true (.int .i64) x.1)), (13, (.imm true (.int .i64) x.2.1))] [((0, 0), some ⟨false, (.sl kMatrix), (.sl (.imm true)), x.2.2⟩)]
noncomputable def slices_partitionCmpFunc_Matrix_i_spacesc1c1_c978_l1000013_out (h1000013_0_0 : Int) : (Int × (List TMatrix)) → Ex × St := fun x => (.exit 4, stOf [(0, (.ref (0, 0) [])), (1, (.imm true (.int .i64) h1000013_0_0)), (13, (.imm true (.int .i64) x.1))] [((0, 0), some ⟨false, (.sl kMatrix), (.sl (.imm true)), x.2⟩)])
noncomputable def slices_partitionCmpFunc_Matrix_i_spacesc1c1_c978_l1000013_D (s : St) : Tre (Ex × St) :=
 asRef (0, 0) [] (s.tmps 0) <|
 asImmZ true (.int .i64) (s.tmps 1) fun d3 =>
 asFn 123 [] (s.tmps 4) <|
 asImmZ true (.int .i64) (s.tmps 12) fun d6 =>
 asImmZ true (.int .i64) (s.tmps 13) fun d8 =>
 asRoot false (.sl kMatrix) (s.roots (0, 0)) fun m10 d11 =>
 asM (.sl (.imm true)) m10 <|
 .mat (loopF (slices_partitionCmpFunc_Matrix_i_spacesc1c1_c978_l1000013 d3) (d6, d8, d11)) fun x => .ret (slices_partitionCmpFunc_Matrix_i_spacesc1c1_c978_l1000013_out d3 x)
noncomputable def slices_partitionCmpFunc_Matrix_i_spacesc1c1_c978_l1000013_L : LoopI := ⟨([0, 1, 4, 12, 13], [(0, 0)]), ([0, 1, 13], [(0, 0)]), slices_partitionCmpFunc_Matrix_i_spacesc1c1_c978_l1000013_D⟩
noncomputable def slices_partitionCmpFunc_Matrix_i_spacesc1c1_c978_A : List (Nat × LoopI) := [(3, slices_partitionCmpFunc_Matrix_i_spacesc1c1_c978_l3_L), (5, slices_partitionCmpFunc_Matrix_i_spacesc1c1_c978_l5_L), (13, slices_partitionCmpFunc_Matrix_i_spacesc1c1_c978_l13_L), (15, slices_partitionCmpFunc_Matrix_i_spacesc1c1_c978_l15_L), (1000013, slices_partitionCmpFunc_Matrix_i_spacesc1c1_c978_l1000013_L)]
set_option maxRecDepth 100000 in
theorem slices_partitionCmpFunc_Matrix_i_spacesc1c1_c978_l3_step : ∀ (h3_0_0 : Int) (h3_0_2 : Int) (h3_0_3 : (List TMatrix)) (x : Int) (c : St → Option (Ex × St)), den slices_partitionCmpFunc_Matrix_i_spacesc1c1_c978_V slices_partitionCmpFunc_Matrix_i_spacesc1c1_c978_A (loopAt slices_partitionCmpFunc_Matrix_i_spacesc1c1_c978_b 0) (slices_partitionCmpFunc_Matrix_i_spacesc1c1_c978_l3_mk h3_0_0 h3_0_2 h3_0_3 x) (roundK slices_partitionCmpFunc_Matrix_i_spacesc1c1_c978_l3_L.kp slices_partitionCmpFunc_Matrix_i_spacesc1c1_c978_l3_L.kx c) = (slices_partitionCmpFunc_Matrix_i_spacesc1c1_c978_l3 h3_0_0 h3_0_2 h3_0_3 x).run (roundR (slices_partitionCmpFunc_Matrix_i_spacesc1c1_c978_l3_mk h3_0_0 h3_0_2 h3_0_3) (slices_partitionCmpFunc_Matrix_i_spacesc1c1_c978_l3_out h3_0_0 h3_0_2 h3_0_3) c) := fun _ _ _ _ _ => by
 kernel_rfl
theorem slices_partitionCmpFunc_Matrix_i_spacesc1c1_c978_l3_ok : LoopOK slices_partitionCmpFunc_Matrix_i_spacesc1c1_c978_V slices_partitionCmpFunc_Matrix_i_spacesc1c1_c978_A (loopAt slices_partitionCmpFunc_Matrix_i_spacesc1c1_c978_b 0) slices_partitionCmpFunc_Matrix_i_spacesc1c1_c978_l3_L := loopOK_of fun s e s' h => by
 generalize hs : restrict slices_partitionCmpFunc_Matrix_i_spacesc1c1_c978_l3_L.kp s = s1 at h
 have h : (slices_partitionCmpFunc_Matrix_i_spacesc1c1_c978_l3_D s1).run some = some (e, s') := h
 obtain ⟨e1, h_0⟩ := asRef_spec h
 obtain ⟨d3, e2, h_1⟩ := asImmZ_spec h_0
 obtain ⟨e4, h_2⟩ := asFn_spec h_1
 obtain ⟨d6, e5, h_3⟩ := asImmZ_spec h_2
 obtain ⟨d8, e7, h_4⟩ := asImmZ_spec h_3
 obtain ⟨m10, d11, e9, h_5⟩ := asRoot_spec h_4
 obtain ⟨rfl, h_6⟩ := asM_spec h_5
 obtain ⟨y, hy, hz⟩ := mat_ret h_6
 refine ⟨_, _, slices_partitionCmpFunc_Matrix_i_spacesc1c1_c978_l3_mk d3 d8 d11, slices_partitionCmpFunc_Matrix_i_spacesc1c1_c978_l3_out d3 d8 d11, slices_partitionCmpFunc_Matrix_i_spacesc1c1_c978_l3 d3 d8 d11, d6, y, ?_, hy, ?_, slices_partitionCmpFunc_Matrix_i_spacesc1c1_c978_l3_step d3 d8 d11⟩
 ·subst hs; exact restrict_eq (T := [(0, (.ref (0, 0) [])), (1, (.imm true (.int .i64) d3)), (4, (.fn 123 [])), (12, (.imm true (.int .i64) d6)), (13, (.imm true (.int .i64) d8))]) (U := [((0, 0), some ⟨false, (.sl kMatrix), (.sl (.imm true)), d11⟩)]) rfl rfl ⟨e1, e2, e4, e5, e7, trivial⟩ ⟨e9, trivial⟩
 ·exact Option.some.inj hz
set_option maxRecDepth 100000 in
theorem slices_partitionCmpFunc_Matrix_i_spacesc1c1_c978_l5_step : ∀ (h5_0_0 : Int) (h5_0_1 : Int) (h5_0_3 : (List TMatrix)) (x : Int) (c : St → Option (Ex × St)), den slices_partitionCmpFunc_Matrix_i_spacesc1c1_c978_V slices_partitionCmpFunc_Matrix_i_spacesc1c1_c978_A (loopAt slices_partitionCmpFunc_Matrix_i_spacesc1c1_c978_b 1) (slices_partitionCmpFunc_Matrix_i_spacesc1c1_c978_l5_mk h5_0_0 h5_0_1 h5_0_3 x) (roundK slices_partitionCmpFunc_Matrix_i_spacesc1c1_c978_l5_L.kp slices_partitionCmpFunc_Matrix_i_spacesc1c1_c978_l5_L.kx c) = (slices_partitionCmpFunc_Matrix_i_spacesc1c1_c978_l5 h5_0_0 h5_0_1 h5_0_3 x).run (roundR (slices_partitionCmpFunc_Matrix_i_spacesc1c1_c978_l5_mk h5_0_0 h5_0_1 h5_0_3) (slices_partitionCmpFunc_Matrix_i_spacesc1c1_c978_l5_out h5_0_0 h5_0_1 h5_0_3) c) := fun _ _ _ _ _ => by
 kernel_rfl
theorem slices_partitionCmpFunc_Matrix_i_spacesc1c1_c978_l5_ok : LoopOK slices_partitionCmpFunc_Matrix_i_spacesc1c1_c978_V slices_partitionCmpFunc_Matrix_i_spacesc1c1_c978_A (loopAt slices_partitionCmpFunc_Matrix_i_spacesc1c1_c978_b 1) slices_partitionCmpFunc_Matrix_i_spacesc1c1_c978_l5_L := loopOK_of fun s e s' h => by
 generalize hs : restrict slices_partitionCmpFunc_Matrix_i_spacesc1c1_c978_l5_L.kp s = s1 at h
 have h : (slices_partitionCmpFunc_Matrix_i_spacesc1c1_c978_l5_D s1).run some = some (e, s') := h
 obtain ⟨e1, h_0⟩ := asRef_spec h
 obtain ⟨d3, e2, h_1⟩ := asImmZ_spec h_0
 obtain ⟨e4, h_2⟩ := asFn_spec h_1
 obtain ⟨d6, e5, h_3⟩ := asImmZ_spec h_2
 obtain ⟨d8, e7, h_4⟩ := asImmZ_spec h_3
 obtain ⟨m10, d11, e9, h_5⟩ := asRoot_spec h_4
 obtain ⟨rfl, h_6⟩ := asM_spec h_5
 obtain ⟨y, hy, hz⟩ := mat_ret h_6
 refine ⟨_, _, slices_partitionCmpFunc_Matrix_i_spacesc1c1_c978_l5_mk d3 d6 d11, slices_partitionCmpFunc_Matrix_i_spacesc1c1_c978_l5_out d3 d6 d11, slices_partitionCmpFunc_Matrix_i_spacesc1c1_c978_l5 d3 d6 d11, d8, y, ?_, hy, ?_, slices_partitionCmpFunc_Matrix_i_spacesc1c1_c978_l5_step d3 d6 d11⟩
 ·subst hs; exact restrict_eq (T := [(0, (.ref (0, 0) [])), (1, (.imm true (.int .i64) d3)), (4, (.fn 123 [])), (12, (.imm true (.int .i64) d6)), (13, (.imm true (.int .i64) d8))]) (U := [((0, 0), some ⟨false, (.sl kMatrix), (.sl (.imm true)), d11⟩)]) rfl rfl ⟨e1, e2, e4, e5, e7, trivial⟩ ⟨e9, trivial⟩
 ·exact Option.some.inj hz
set_option maxRecDepth 100000 in
theorem slices_partitionCmpFunc_Matrix_i_spacesc1c1_c978_l13_step : ∀ (h13_0_0 : Int) (h13_0_2 : Int) (h13_0_3 : (List TMatrix)) (x : Int) (c : St → Option (Ex × St)), den slices_partitionCmpFunc_Matrix_i_spacesc1c1_c978_V slices_partitionCmpFunc_Matrix_i_spacesc1c1_c978_A (loopAt slices_partitionCmpFunc_Matrix_i_spacesc1c1_c978_b 3) (slices_partitionCmpFunc_Matrix_i_spacesc1c1_c978_l13_mk h13_0_0 h13_0_2 h13_0_3 x) (roundK slices_partitionCmpFunc_Matrix_i_spacesc1c1_c978_l13_L.kp slices_partitionCmpFunc_Matrix_i_spacesc1c1_c978_l13_L.kx c) = (slices_partitionCmpFunc_Matrix_i_spacesc1c1_c978_l13 h13_0_0 h13_0_2 h13_0_3 x).run (roundR (slices_partitionCmpFunc_Matrix_i_spacesc1c1_c978_l13_mk h13_0_0 h13_0_2 h13_0_3) (slices_partitionCmpFunc_Matrix_i_spacesc1c1_c978_l13_out h13_0_0 h13_0_2 h13_0_3) c) := fun _ _ _ _ _ => by
 kernel_rfl
theorem slices_partitionCmpFunc_Matrix_i_spacesc1c1_c978_l13_ok : LoopOK slices_partitionCmpFunc_Matrix_i_spacesc1c1_c978_V slices_partitionCmpFunc_Matrix_i_spacesc1c1_c978_A (loopAt slices_partitionCmpFunc_Matrix_i_spacesc1c1_c978_b 3) slices_partitionCmpFunc_Matrix_i_spacesc1c1_c978_l13_L := loopOK_of fun s e s' h => by
 generalize hs : restrict slices_partitionCmpFunc_Matrix_i_spacesc1c1_c978_l13_L.kp s = s1 at h
 have h : (slices_partitionCmpFunc_Matrix_i_spacesc1c1_c978_l13_D s1).run some = some (e, s') := h
 obtain ⟨e1, h_0⟩ := asRef_spec h
 obtain ⟨d3, e2, h_1⟩ := asImmZ_spec h_0
 obtain ⟨e4, h_2⟩ := asFn_spec h_1
 obtain ⟨d6, e5, h_3⟩ := asImmZ_spec h_2
 obtain ⟨d8, e7, h_4⟩ := asImmZ_spec h_3
 obtain ⟨m10, d11, e9, h_5⟩ := asRoot_spec h_4
 obtain ⟨rfl, h_6⟩ := asM_spec h_5
 obtain ⟨y, hy, hz⟩ := mat_ret h_6
 refine ⟨_, _, slices_partitionCmpFunc_Matrix_i_spacesc1c1_c978_l13_mk d3 d8 d11, slices_partitionCmpFunc_Matrix_i_spacesc1c1_c978_l13_out d3 d8 d11, slices_partitionCmpFunc_Matrix_i_spacesc1c1_c978_l13 d3 d8 d11, d6, y, ?_, hy, ?_, slices_partitionCmpFunc_Matrix_i_spacesc1c1_c978_l13_step d3 d8 d11⟩
 ·subst hs; exact restrict_eq (T := [(0, (.ref (0, 0) [])), (1, (.imm true (.int .i64) d3)), (4, (.fn 123 [])), (12, (.imm true (.int .i64) d6)), (13, (.imm true (.int .i64) d8))]) (U := [((0, 0), some ⟨false, (.sl kMatrix), (.sl (.imm true)), d11⟩)]) rfl rfl ⟨e1, e2, e4, e5, e7, trivial⟩ ⟨e9, trivial⟩
 ·exact Option.some.inj hz
set_option maxRecDepth 100000 in
theorem slices_partitionCmpFunc_Matrix_i_spacesc1c1_c978_l15_step : ∀ (h15_0_0 : Int) (h15_0_1 : Int) (h15_0_3 : (List TMatrix)) (x : Int) (c : St → Option (Ex × St)), den slices_partitionCmpFunc_Matrix_i_spacesc1c1_c978_V slices_partitionCmpFunc_Matrix_i_spacesc1c1_c978_A (loopAt slices_partitionCmpFunc_Matrix_i_spacesc1c1_c978_b 4) (slices_partitionCmpFunc_Matrix_i_spacesc1c1_c978_l15_mk h15_0_0 h15_0_1 h15_0_3 x) (roundK slices_partitionCmpFunc_Matrix_i_spacesc1c1_c978_l15_L.kp slices_partitionCmpFunc_Matrix_i_spacesc1c1_c978_l15_L.kx c) = (slices_partitionCmpFunc_Matrix_i_spacesc1c1_c978_l15 h15_0_0 h15_0_1 h15_0_3 x).run (roundR (slices_partitionCmpFunc_Matrix_i_spacesc1c1_c978_l15_mk h15_0_0 h15_0_1 h15_0_3) (slices_partitionCmpFunc_Matrix_i_spacesc1c1_c978_l15_out h15_0_0 h15_0_1 h15_0_3) c) := fun _ _ _ _ _ => by
 kernel_rfl
theorem slices_partitionCmpFunc_Matrix_i_spacesc1c1_c978_l15_ok : LoopOK slices_partitionCmpFunc_Matrix_i_spacesc1c1_c978_V slices_partitionCmpFunc_Matrix_i_spacesc1c1_c978_A (loopAt slices_partitionCmpFunc_Matrix_i_spacesc1c1_c978_b 4) slices_partitionCmpFunc_Matrix_i_spacesc1c1_c978_l15_L := loopOK_of fun s e s' h => by
 generalize hs : restrict slices_partitionCmpFunc_Matrix_i_spacesc1c1_c978_l15_L.kp s = s1 at h
 have h : (slices_partitionCmpFunc_Matrix_i_spacesc1c1_c978_l15_D s1).run some = some (e, s') := h
 obtain ⟨e1, h_0⟩ := asRef_spec h
 obtain ⟨d3, e2, h_1⟩ := asImmZ_spec h_0
 obtain ⟨e4, h_2⟩ := asFn_spec h_1
 obtain ⟨d6, e5, h_3⟩ := asImmZ_spec h_2
 obtain ⟨d8, e7, h_4⟩ := asImmZ_spec h_3
 obtain ⟨m10, d11, e9, h_5⟩ := asRoot_spec h_4
 obtain ⟨rfl, h_6⟩ := asM_spec h_5
 obtain ⟨y, hy, hz⟩ := mat_ret h_6
 refine ⟨_, _, slices_partitionCmpFunc_Matrix_i_spacesc1c1_c978_l15_mk d3 d6 d11, slices_partitionCmpFunc_Matrix_i_spacesc1c1_c978_l15_out d3 d6 d11, slices_partitionCmpFunc_Matrix_i_spacesc1c1_c978_l15 d3 d6 d11, d8, y, ?_, hy, ?_, slices_partitionCmpFunc_Matrix_i_spacesc1c1_c978_l15_step d3 d6 d11⟩
 ·subst hs; exact restrict_eq (T := [(0, (.ref (0, 0) [])), (1, (.imm true (.int .i64) d3)), (4, (.fn 123 [])), (12, (.imm true (.int .i64) d6)), (13, (.imm true (.int .i64) d8))]) (U := [((0, 0), some ⟨false, (.sl kMatrix), (.sl (.imm true)), d11⟩)]) rfl rfl ⟨e1, e2, e4, e5, e7, trivial⟩ ⟨e9, trivial⟩
 ·exact Option.some.inj hz
set_option maxRecDepth 100000 in
theorem slices_partitionCmpFunc_Matrix_i_spacesc1c1_c978_l1000013_step : ∀ (h1000013_0_0 : Int) (x : (Int × Int × (List TMatrix))) (c : St → Option (Ex × St)), den slices_partitionCmpFunc_Matrix_i_spacesc1c1_c978_V slices_partitionCmpFunc_Matrix_i_spacesc1c1_c978_A (loopAt slices_partitionCmpFunc_Matrix_i_spacesc1c1_c978_b 2) (slices_partitionCmpFunc_Matrix_i_spacesc1c1_c978_l1000013_mk h1000013_0_0 x) (roundK slices_partitionCmpFunc_Matrix_i_spacesc1c1_c978_l1000013_L.kp slices_partitionCmpFunc_Matrix_i_spacesc1c1_c978_l1000013_L.kx c) = (slices_partitionCmpFunc_Matrix_i_spacesc1c1_c978_l1000013 h1000013_0_0 x).run (roundR (slices_partitionCmpFunc_Matrix_i_spacesc1c1_c978_l1000013_mk h1000013_0_0) (slices_partitionCmpFunc_Matrix_i_spacesc1c1_c978_l1000013_out h1000013_0_0) c) := fun _ _ _ => by
 kernel_rfl
theorem slices_partitionCmpFunc_Matrix_i_spacesc1c1_c978_l1000013_ok : LoopOK slices_partitionCmpFunc_Matrix_i_spacesc1c1_c978_V slices_partitionCmpFunc_Matrix_i_spacesc1c1_c978_A (loopAt slices_partitionCmpFunc_Matrix_i_spacesc1c1_c978_b 2) slices_partitionCmpFunc_Matrix_i_spacesc1c1_c978_l1000013_L := loopOK_of fun s e s' h => by
 generalize hs : restrict slices_partitionCmpFunc_Matrix_i_spacesc1c1_c978_l1000013_L.kp s = s1 at h
 have h : (slices_partitionCmpFunc_Matrix_i_spacesc1c1_c978_l1000013_D s1).run some = some (e, s') := h
 obtain ⟨e1, h_0⟩ := asRef_spec h
 obtain ⟨d3, e2, h_1⟩ := asImmZ_spec h_0
 obtain ⟨e4, h_2⟩ := asFn_spec h_1
 obtain ⟨d6, e5, h_3⟩ := asImmZ_spec h_2
 obtain ⟨d8, e7, h_4⟩ := asImmZ_spec h_3
 obtain ⟨m10, d11, e9, h_5⟩ := asRoot_spec h_4
 obtain ⟨rfl, h_6⟩ := asM_spec h_5
 obtain ⟨y, hy, hz⟩ := mat_ret h_6
 refine ⟨_, _, slices_partitionCmpFunc_Matrix_i_spacesc1c1_c978_l1000013_mk d3, slices_partitionCmpFunc_Matrix_i_spacesc1c1_c978_l1000013_out d3, slices_partitionCmpFunc_Matrix_i_spacesc1c1_c978_l1000013 d3, (d6, d8, d11), y, ?_, hy, ?_, slices_partitionCmpFunc_Matrix_i_spacesc1c1_c978_l1000013_step d3⟩
 ·subst hs; exact restrict_eq (T := [(0, (.ref (0, 0) [])), (1, (.imm true (.int .i64) d3)), (4, (.fn 123 [])), (12, (.imm true (.int .i64) d6)), (13, (.imm true (.int .i64) d8))]) (U := [((0, 0), some ⟨false, (.sl kMatrix), (.sl (.imm true)), d11⟩)]) rfl rfl ⟨e1, e2, e4, e5, e7, trivial⟩ ⟨e9, trivial⟩
 ·exact Option.some.inj hz
noncomputable def slices_partitionCmpFunc_Matrix_i_spacesc1c1_c978_I : FnI := ⟨slices_partitionCmpFunc_Matrix_i_spacesc1c1_c978_b, Try.f155.results.toList, Try.f155.resultTypes.toList, slices_partitionCmpFunc_Matrix_i_spacesc1c1_c978_A⟩
noncomputable def slices_partitionCmpFunc_Matrix_i_spacesc1c1_c978_out (_p0 : Int) (_p1 : Int) (_p2 : Int) (_p3 : (List TMatrix)) : (Int × Bool × (List TMatrix)) → CallOut := fun r => ⟨(.tcons (.imm true (.int .i64) r.1) (.tcons (.imm true .bool r.2.1) .tnil)), [⟨false, (.sl kMatrix), (.sl (.imm true)), r.2.2⟩], []⟩
set_option maxRecDepth 100000 in
theorem slices_partitionCmpFunc_Matrix_i_spacesc1c1_c978_eq : ∀ (p0 : Int) (p1 : Int) (p2 : Int) (p3 : (List TMatrix)), denFn slices_partitionCmpFunc_Matrix_i_spacesc1c1_c978_V slices_partitionCmpFunc_Matrix_i_spacesc1c1_c978_I ⟨[(.ref (0, 0) []), (.imm true (.int .i64) p0), (.imm true (.int .i64) p1), (.imm true (.int .i64) p2), (.fn 123 [])], [⟨false, (.sl kMatrix), (.sl (.imm true)), p3⟩]⟩ = (slices_partitionCmpFunc_Matrix_i_spacesc1c1_c978 p0 p1 p2 p3).run fun r => some (slices_partitionCmpFunc_Matrix_i_spacesc1c1_c978_out p0 p1 p2 p3 r) := fun _ _ _ _ => by kernel_rfl
noncomputable def slices_partitionCmpFunc_Matrix_i_spacesc1c1_c978_G (av : List AV) (rs : List Root) : Tre CallOut :=
 asCons av fun a0_ av0 =>
 asCons av0 fun a1_ av1 =>
 asCons av1 fun a2_ av2 =>
 asCons av2 fun a3_ av3 =>
 asCons av3 fun a4_ av4 =>
 asEnd av4 <|
 asCons rs fun r0_ rs0 =>
 asEnd rs0 <|
 asRef (0, 0) [] a0_ <|
 asImmZ true (.int .i64) a1_ fun d1 =>
 asImmZ true (.int .i64) a2_ fun d2 =>
 asImmZ true (.int .i64) a3_ fun d3 =>
 asFn 123 [] a4_ <|
 asRt false (.sl kMatrix) r0_ fun m4 d5 =>
 asM (.sl (.imm true)) m4 <|
 .mat (slices_partitionCmpFunc_Matrix_i_spacesc1c1_c978_F d1 d2 d3 d5) fun r => .ret (slices_partitionCmpFunc_Matrix_i_spacesc1c1_c978_out d1 d2 d3 d5 r)
noncomputable def slices_partitionCmpFunc_Matrix_i_spacesc1c1_c978_c : Ctr := ⟨[0], fun ci => slices_partitionCmpFunc_Matrix_i_spacesc1c1_c978_G ci.args ci.roots, false⟩
theorem slices_partitionCmpFunc_Matrix_i_spacesc1c1_c978_env : EnvOK Try.prog .none slices_partitionCmpFunc_Matrix_i_spacesc1c1_c978_V := (envOK_cons i_spacesc1c1_ok ent123 envOK_nil)
set_option maxRecDepth 100000 in
theorem slices_partitionCmpFunc_Matrix_i_spacesc1c1_c978_ok : Contract Try.prog .none 155 slices_partitionCmpFunc_Matrix_i_spacesc1c1_c978_c := by
 have hl : LoopsOK slices_partitionCmpFunc_Matrix_i_spacesc1c1_c978_V slices_partitionCmpFunc_Matrix_i_spacesc1c1_c978_A slices_partitionCmpFunc_Matrix_i_spacesc1c1_c978_b := (loopsOK_all (n := 5) (by kernel_rfl) fun k hk => by
   match k, hk with
   | 0, _ => exact loopOK_at (id := 3) (L := slices_partitionCmpFunc_Matrix_i_spacesc1c1_c978_l3_L) (by kernel_rfl) (by kernel_rfl) slices_partitionCmpFunc_Matrix_i_spacesc1c1_c978_l3_ok
   | 1, _ => exact loopOK_at (id := 5) (L := slices_partitionCmpFunc_Matrix_i_spacesc1c1_c978_l5_L) (by kernel_rfl) (by kernel_rfl) slices_partitionCmpFunc_Matrix_i_spacesc1c1_c978_l5_ok
   | 2, _ => exact loopOK_at (id := 1000013) (L := slices_partitionCmpFunc_Matrix_i_spacesc1c1_c978_l1000013_L) (by kernel_rfl) (by kernel_rfl) slices_partitionCmpFunc_Matrix_i_spacesc1c1_c978_l1000013_ok
   | 3, _ => exact loopOK_at (id := 13) (L := slices_partitionCmpFunc_Matrix_i_spacesc1c1_c978_l13_L) (by kernel_rfl) (by kernel_rfl) slices_partitionCmpFunc_Matrix_i_spacesc1c1_c978_l13_ok
   | 4, _ => exact loopOK_at (id := 15) (L := slices_partitionCmpFunc_Matrix_i_spacesc1c1_c978_l15_L) (by kernel_rfl) (by kernel_rfl) slices_partitionCmpFunc_Matrix_i_spacesc1c1_c978_l15_ok)
 refine (contract_of (F := slices_partitionCmpFunc_Matrix_i_spacesc1c1_c978_I) tau_tys slices_partitionCmpFunc_Matrix_i_spacesc1c1_c978_env Try.func155 (by kernel_rfl) (by kernel_rfl) (by kernel_rfl) hl [0]).weaken ?_
 rintro ⟨av, rs⟩ co h
 have h : (slices_partitionCmpFunc_Matrix_i_spacesc1c1_c978_G av rs).run some = some co := h
 obtain ⟨a0_, av0, rfl, h_0⟩ := asCons_spec h
 obtain ⟨a1_, av1, rfl, h_1⟩ := asCons_spec h_0
 obtain ⟨a2_, av2, rfl, h_2⟩ := asCons_spec h_1
 obtain ⟨a3_, av3, rfl, h_3⟩ := asCons_spec h_2
 obtain ⟨a4_, av4, rfl, h_4⟩ := asCons_spec h_3
 obtain ⟨rfl, h_5⟩ := asEnd_spec h_4
 obtain ⟨r0_, rs0, rfl, h_6⟩ := asCons_spec h_5
 obtain ⟨rfl, h_7⟩ := asEnd_spec h_6
 obtain ⟨rfl, h_8⟩ := asRef_spec h_7
 obtain ⟨d1, rfl, h_9⟩ := asImmZ_spec h_8
 obtain ⟨d2, rfl, h_10⟩ := asImmZ_spec h_9
 obtain ⟨d3, rfl, h_11⟩ := asImmZ_spec h_10
 obtain ⟨rfl, h_12⟩ := asFn_spec h_11
 obtain ⟨m4, d5, rfl, h_13⟩ := asRt_spec h_12
 obtain ⟨rfl, h_14⟩ := asM_spec h_13
 exact fin_mat (slices_partitionCmpFunc_Matrix_i_spacesc1c1_c978_eq d1 d2 d3 d5) h_14
end Go.Proofs.Ythnkanacjhlhhaa

namespace Go.Proofs.Ythnkanacjhlhhaa
open Go Go.Abs Go.Proofs
set_option maxHeartbeats 4000000 in
noncomputable def slices_pdqsortCmpFunc_Matrix_i_spacesc1c1_c978_l2 (g_ : Int → Int → Int → (List TMatrix) → Option (List TMatrix)) : (Int × Int × Int × Bool × Bool × (List TMatrix)) → Tre ((Int × Int × Int × Bool × Bool × (List TMatrix)) ⊕ (List TMatrix)) := fun s2 =>
 let v1 := iwrap .i64 (s2.2.1 - s2.1)
 .cond (decide (v1 ≤ 12))
  (.mat (slices_insertionSortCmpFunc_Matrix_i_spacesc1c1_d737_F s2.1 s2.2.1 s2.2.2.2.2.2) fun r2 =>
  .ret (.inr r2))
  (.cond (decide (s2.2.2.1 = 0))
   (.mat (slices_heapSortCmpFunc_Matrix_i_spacesc1c1_d737_F s2.1 s2.2.1 s2.2.2.2.2.2) fun r3 =>
   .ret (.inr r3))
   (.cond (!s2.2.2.2.1)
    (.mat (slices_breakPatternsCmpFunc_Matrix_i_spacesc1c1_d737_F s2.1 s2.2.1 s2.2.2.2.2.2) fun r4 =>
    .mat (slices_choosePivotCmpFunc_Matrix_i_spacesc1c1_d737_F s2.1 s2.2.1 r4) fun r5 =>
    .cond (decide (r5.2 = 2))
     (.mat (slices_reverseRangeCmpFunc_Matrix_i_spacesc1c1_d737_F s2.1 s2.2.1 r4) fun r6 =>
     let v7 := iwrap .i64 (r5.1 - s2.1)
     let v8 := iwrap .i64 ((iwrap .i64 (s2.2.1 - 1)) - v7)
     .cond s2.2.2.2.1
      (.cond s2.2.2.2.2.1
       (.mat (slices_partialInsertionSortCmpFunc_Matrix_i_spacesc1c1_d737_F s2.1 s2.2.1 r6) fun r9 =>
       .cond r9.1
        (.ret (.inr r9.2))
        (.cond (decide (s2.1 > 0))
         (.ite (0 ≤ iwrap .i64 (s2.1 - 1) ∧ iwrap .i64 (s2.1 - 1) < (r9.2.length : Int)) <|
         .mat (r9.2[(iwrap .i64 (s2.1 - 1)).toNat]?) fun x10 =>
         .ite (0 ≤ v8 ∧ v8 < (r9.2.length : Int)) <|
         .mat (r9.2[v8.toNat]?) fun x11 =>
         .mat (i_spacesc1c1_F x10 x11) fun r12 =>
         .cond (!(decide (r12 < 0)))
          (.mat (slices_partitionEqualCmpFunc_Matrix_i_spacesc1c1_c978_F s2.1 s2.2.1 v8 r9.2) fun r13 =>
          .ret (.inl (r13.1, s2.2.1, iwrap .i64 (s2.2.2.1 - 1), s2.2.2.2.1, s2.2.2.2.2.1, r13.2)))
          (.mat (slices_partitionCmpFunc_Matrix_i_spacesc1c1_c978_F s2.1 s2.2.1 v8 r9.2) fun r14 =>
          let v15 := iwrap .i64 (r14.1 - s2.1)
          let v16 := iwrap .i64 (s2.2.1 - r14.1)
          let v17 := iwrap .i64 (Int.tdiv v1 8)
          .cond (decide (v15 < v16))
           (.mat (g_ s2.1 r14.1 (iwrap .i64 (s2.2.2.1 - 1)) r14.2.2) fun r18 =>
           .ret (.inl (iwrap .i64 (r14.1 + 1), s2.2.1, iwrap .i64 (s2.2.2.1 - 1), decide (v15 ≥ v17), r14.2.1, r18)))
           (.mat (g_ (iwrap .i64 (r14.1 + 1)) s2.2.1 (iwrap .i64 (s2.2.2.1 - 1)) r14.2.2) fun r19 =>
           .ret (.inl (s2.1, r14.1, iwrap .i64 (s2.2.2.1 - 1), decide (v16 ≥ v17), r14.2.1, r19)))))
         (.mat (slices_partitionCmpFunc_Matrix_i_spacesc1c1_c978_F s2.1 s2.2.1 v8 r9.2) fun r20 =>
         let v21 := iwrap .i64 (r20.1 - s2.1)
         let v22 := iwrap .i64 (s2.2.1 - r20.1)
         let v23 := iwrap .i64 (Int.tdiv v1 8)
         .cond (decide (v21 < v22))
          (.mat (g_ s2.1 r20.1 (iwrap .i64 (s2.2.2.1 - 1)) r20.2.2) fun r24 =>
          .ret (.inl (iwrap .i64 (r20.1 + 1), s2.2.1, iwrap .i64 (s2.2.2.1 - 1), decide (v21 ≥ v23), r20.2.1, r24)))
          (.mat (g_ (iwrap .i64 (r20.1 + 1)) s2.2.1 (iwrap .i64 (s2.2.2.1 - 1)) r20.2.2) fun r25 =>
          .ret (.inl (s2.1, r20.1, iwrap .i64 (s2.2.2.1 - 1), decide (v22 ≥ v23), r20.2.1, r25))))))
       (.cond (decide (s2.1 > 0))
        (.ite (0 ≤ iwrap .i64 (s2.1 - 1) ∧ iwrap .i64 (s2.1 - 1) < (r6.length : Int)) <|
        .mat (r6[(iwrap .i64 (s2.1 - 1)).toNat]?) fun x26 =>
        .ite (0 ≤ v8 ∧ v8 < (r6.length : Int)) <|
        .mat (r6[v8.toNat]?) fun x27 =>
        .mat (i_spacesc1c1_F x26 x27) fun r28 =>
        .cond (!(decide (r28 < 0)))
         (.mat (slices_partitionEqualCmpFunc_Matrix_i_spacesc1c1_c978_F s2.1 s2.2.1 v8 r6) fun r29 =>
         .ret (.inl (r29.1, s2.2.1, iwrap .i64 (s2.2.2.1 - 1), s2.2.2.2.1, s2.2.2.2.2.1, r29.2)))
         (.mat (slices_partitionCmpFunc_Matrix_i_spacesc1c1_c978_F s2.1 s2.2.1 v8 r6) fun r30 =>
         let v31 := iwrap .i64 (r30.1 - s2.1)
         let v32 := iwrap .i64 (s2.2.1 - r30.1)
         let v33 := iwrap .i64 (Int.tdiv v1 8)
         .cond (decide (v31 < v32))
          (.mat (g_ s2.1 r30.1 (iwrap .i64 (s2.2.2.1 - 1)) r30.2.2) fun r34 =>
          .ret (.inl (iwrap .i64 (r30.1 + 1), s2.2.1, iwrap .i64 (s2.2.2.1 - 1), decide (v31 ≥ v33), r30.2.1, r34)))
          (.mat (g_ (iwrap .i64 (r30.1 + 1)) s2.2.1 (iwrap .i64 (s2.2.2.1 - 1)) r30.2.2) fun r35 =>
          .ret (.inl (s2.1, r30.1, iwrap .i64 (s2.2.2.1 - 1), decide (v32 ≥ v33), r30.2.1, r35)))))
        (.mat (slices_partitionCmpFunc_Matrix_i_spacesc1c1_c978_F s2.1 s2.2.1 v8 r6) fun r36 =>
        let v37 := iwrap .i64 (r36.1 - s2.1)
        let v38 := iwrap .i64 (s2.2.1 - r36.1)
        let v39 := iwrap .i64 (Int.tdiv v1 8)
        .cond (decide (v37 < v38))
         (.mat (g_ s2.1 r36.1 (iwrap .i64 (s2.2.2.1 - 1)) r36.2.2) fun r40 =>
         .ret (.inl (iwrap .i64 (r36.1 + 1), s2.2.1, iwrap .i64 (s2.2.2.1 - 1), decide (v37 ≥ v39), r36.2.1, r40)))
         (.mat (g_ (iwrap .i64 (r36.1 + 1)) s2.2.1 (iwrap .i64 (s2.2.2.1 - 1)) r36.2.2) fun r41 =>
         .ret (.inl (s2.1, r36.1, iwrap .i64 (s2.2.2.1 - 1), decide (v38 ≥ v39), r36.2.1, r41))))))
      (.cond (decide (s2.1 > 0))
       (.ite (0 ≤ iwrap .i64 (s2.1 - 1) ∧ iwrap .i64 (s2.1 - 1) < (r6.length : Int)) <|
       .mat (r6[(iwrap .i64 (s2.1 - 1)).toNat]?) fun x42 =>
       .ite (0 ≤ v8 ∧ v8 < (r6.length : Int)) <|
       .mat (r6[v8.toNat]?) fun x43 =>
       .mat (i_spacesc1c1_F x42 x43) fun r44 =>
       .cond (!(decide (r44 < 0)))
        (.mat (slices_partitionEqualCmpFunc_Matrix_i_spacesc1c1_c978_F s2.1 s2.2.1 v8 r6) fun r45 =>
        .ret (.inl (r45.1, s2.2.1, iwrap .i64 (s2.2.2.1 - 1), s2.2.2.2.1, s2.2.2.2.2.1, r45.2)))
        (.mat (slices_partitionCmpFunc_Matrix_i_spacesc1c1_c978_F s2.1 s2.2.1 v8 r6) fun r46 =>
        let v47 := iwrap .i64 (r46.1 - s2.1)
        let v48 := iwrap .i64 (s2.2.1 - r46.1)
        let v49 := iwrap .i64 (Int.tdiv v1 8)
        .cond (decide (v47 < v48))
         (.mat (g_ s2.1 r46.1 (iwrap .i64 (s2.2.2.1 - 1)) r46.2.2) fun r50 =>
         .ret (.inl (iwrap .i64 (r46.1 + 1), s2.2.1, iwrap .i64 (s2.2.2.1 - 1), decide (v47 ≥ v49), r46.2.1, r50)))
         (.mat (g_ (iwrap .i64 (r46.1 + 1)) s2.2.1 (iwrap .i64 (s2.2.2.1 - 1)) r46.2.2) fun r51 =>
         .ret (.inl (s2.1, r46.1, iwrap .i64 (s2.2.2.1 - 1), decide (v48 ≥ v49), r46.2.1, r51)))))
       (.mat (slices_partitionCmpFunc_Matrix_i_spacesc1c1_c978_F s2.1 s2.2.1 v8 r6) fun r52 =>
       let v53 := iwrap .i64 (r52.1 - s2.1)
       let v54 := iwrap .i64 (s2.2.1 - r52.1)
       let v55 := iwrap .i64 (Int.tdiv v1 8)
       .cond (decide (v53 < v54))
        (.mat (g_ s2.1 r52.1 (iwrap .i64 (s2.2.2.1 - 1)) r52.2.2) fun r56 =>
        .ret (.inl (iwrap .i64 (r52.1 + 1), s2.2.1, iwrap .i64 (s2.2.2.1 - 1), decide (v53 ≥ v55), r52.2.1, r56)))
        (.mat (g_ (iwrap .i64 (r52.1 + 1)) s2.2.1 (iwrap .i64 (s2.2.2.1 - 1)) r52.2.2) fun r57 =>
        .ret (.inl (s2.1, r52.1, iwrap .i64 (s2.2.2.1 - 1), decide (v54 ≥ v55), r52.2.1, r57))))))
     (.cond s2.2.2.2.1
      (.cond s2.2.2.2.2.1
       (.cond (decide (r5.2 = 1))
        (.mat (slices_partialInsertionSortCmpFunc_Matrix_i_spacesc1c1_d737_F s2.1 s2.2.1 r4) fun r58 =>
        .cond r58.1
         (.ret (.inr r58.2))
         (.cond (decide (s2.1 > 0))
          (.ite (0 ≤ iwrap .i64 (s2.1 - 1) ∧ iwrap .i64 (s2.1 - 1) < (r58.2.length : Int)) <|
          .mat (r58.2[(iwrap .i64 (s2.1 - 1)).toNat]?) fun x59 =>
          .ite (0 ≤ r5.1 ∧ r5.1 < (r58.2.length : Int)) <|
          .mat (r58.2[r5.1.toNat]?) fun x60 =>
          .mat (i_spacesc1c1_F x59 x60) fun r61 =>
          .cond (!(decide (r61 < 0)))
           (.mat (slices_partitionEqualCmpFunc_Matrix_i_spacesc1c1_c978_F s2.1 s2.2.1 r5.1 r58.2) fun r62 =>
           .ret (.inl (r62.1, s2.2.1, iwrap .i64 (s2.2.2.1 - 1), s2.2.2.2.1, s2.2.2.2.2.1, r62.2)))
           (.mat (slices_partitionCmpFunc_Matrix_i_spacesc1c1_c978_F s2.1 s2.2.1 r5.1 r58.2) fun r63 =>
           let v64 := iwrap .i64 (r63.1 - s2.1)
           let v65 := iwrap .i64 (s2.2.1 - r63.1)
           let v66 := iwrap .i64 (Int.tdiv v1 8)
           .cond (decide (v64 < v65))
            (.mat (g_ s2.1 r63.1 (iwrap .i64 (s2.2.2.1 - 1)) r63.2.2) fun r67 =>
            .ret (.inl (iwrap .i64 (r63.1 + 1), s2.2.1, iwrap .i64 (s2.2.2.1 - 1), decide (v64 ≥ v66), r63.2.1, r67)))
            (.mat (g_ (iwrap .i64 (r63.1 + 1)) s2.2.1 (iwrap .i64 (s2.2.2.1 - 1)) r63.2.2) fun r68 =>
            .ret (.inl (s2.1, r63.1, iwrap .i64 (s2.2.2.1 - 1), decide (v65 ≥ v66), r63.2.1, r68)))))
          (.mat (slices_partitionCmpFunc_Matrix_i_spacesc1c1_c978_F s2.1 s2.2.1 r5.1 r58.2) fun r69 =>
          let v70 := iwrap .i64 (r69.1 - s2.1)
          let v71 := iwrap .i64 (s2.2.1 - r69.1)
          let v72 := iwrap .i64 (Int.tdiv v1 8)
          .cond (decide (v70 < v71))
           (.mat (g_ s2.1 r69.1 (iwrap .i64 (s2.2.2.1 - 1)) r69.2.2) fun r73 =>
           .ret (.inl (iwrap .i64 (r69.1 + 1), s2.2.1, iwrap .i64 (s2.2.2.1 - 1), decide (v70 ≥ v72), r69.2.1, r73)))
           (.mat (g_ (iwrap .i64 (r69.1 + 1)) s2.2.1 (iwrap .i64 (s2.2.2.1 - 1)) r69.2.2) fun r74 =>
           .ret (.inl (s2.1, r69.1, iwrap .i64 (s2.2.2.1 - 1), decide (v71 ≥ v72), r69.2.1, r74))))))
        (.cond (decide (s2.1 > 0))
         (.ite (0 ≤ iwrap .i64 (s2.1 - 1) ∧ iwrap .i64 (s2.1 - 1) < (r4.length : Int)) <|
         .mat (r4[(iwrap .i64 (s2.1 - 1)).toNat]?) fun x75 =>
         .ite (0 ≤ r5.1 ∧ r5.1 < (r4.length : Int)) <|
         .mat (r4[r5.1.toNat]?) fun x76 =>
         .mat (i_spacesc1c1_F x75 x76) fun r77 =>
         .cond (!(decide (r77 < 0)))
          (.mat (slices_partitionEqualCmpFunc_Matrix_i_spacesc1c1_c978_F s2.1 s2.2.1 r5.1 r4) fun r78 =>
          .ret (.inl (r78.1, s2.2.1, iwrap .i64 (s2.2.2.1 - 1), s2.2.2.2.1, s2.2.2.2.2.1, r78.2)))
          (.mat (slices_partitionCmpFunc_Matrix_i_spacesc1c1_c978_F s2.1 s2.2.1 r5.1 r4) fun r79 =>
          let v80 := iwrap .i64 (r79.1 - s2.1)
          let v81 := iwrap .i64 (s2.2.1 - r79.1)
          let v82 := iwrap .i64 (Int.tdiv v1 8)
          .cond (decide (v80 < v81))
           (.mat (g_ s2.1 r79.1 (iwrap .i64 (s2.2.2.1 - 1)) r79.2.2) fun r83 =>
           .ret (.inl (iwrap .i64 (r79.1 + 1), s2.2.1, iwrap .i64 (s2.2.2.1 - 1), decide (v80 ≥ v82), r79.2.1, r83)))
           (.mat (g_ (iwrap .i64 (r79.1 + 1)) s2.2.1 (iwrap .i64 (s2.2.2.1 - 1)) r79.2.2) fun r84 =>
           .ret (.inl (s2.1, r79.1, iwrap .i64 (s2.2.2.1 - 1), decide (v81 ≥ v82), r79.2.1, r84)))))
         (.mat (slices_partitionCmpFunc_Matrix_i_spacesc1c1_c978_F s2.1 s2.2.1 r5.1 r4) fun r85 =>
         let v86 := iwrap .i64 (r85.1 - s2.1)
         let v87 := iwrap .i64 (s2.2.1 - r85.1)
         let v88 := iwrap .i64 (Int.tdiv v1 8)
         .cond (decide (v86 < v87))
          (.mat (g_ s2.1 r85.1 (iwrap .i64 (s2.2.2.1 - 1)) r85.2.2) fun r89 =>
          .ret (.inl (iwrap .i64 (r85.1 + 1), s2.2.1, iwrap .i64 (s2.2.2.1 - 1), decide (v86 ≥ v88), r85.2.1, r89)))
          (.mat (g_ (iwrap .i64 (r85.1 + 1)) s2.2.1 (iwrap .i64 (s2.2.2.1 - 1)) r85.2.2) fun r90 =>
          .ret (.inl (s2.1, r85.1, iwrap .i64 (s2.2.2.1 - 1), decide (v87 ≥ v88), r85.2.1, r90))))))
       (.cond (decide (s2.1 > 0))
        (.ite (0 ≤ iwrap .i64 (s2.1 - 1) ∧ iwrap .i64 (s2.1 - 1) < (r4.length : Int)) <|
        .mat (r4[(iwrap .i64 (s2.1 - 1)).toNat]?) fun x91 =>
        .ite (0 ≤ r5.1 ∧ r5.1 < (r4.length : Int)) <|
        .mat (r4[r5.1.toNat]?) fun x92 =>
        .mat (i_spacesc1c1_F x91 x92) fun r93 =>
        .cond (!(decide (r93 < 0)))
         (.mat (slices_partitionEqualCmpFunc_Matrix_i_spacesc1c1_c978_F s2.1 s2.2.1 r5.1 r4) fun r94 =>
         .ret (.inl (r94.1, s2.2.1, iwrap .i64 (s2.2.2.1 - 1), s2.2.2.2.1, s2.2.2.2.2.1, r94.2)))
         (.mat (slices_partitionCmpFunc_Matrix_i_spacesc1c1_c978_F s2.1 s2.2.1 r5.1 r4) fun r95 =>
         let v96 := iwrap .i64 (r95.1 - s2.1)
         let v97 := iwrap .i64 (s2.2.1 - r95.1)
         let v98 := iwrap .i64 (Int.tdiv v1 8)
         .cond (decide (v96 < v97))
          (.mat (g_ s2.1 r95.1 (iwrap .i64 (s2.2.2.1 - 1)) r95.2.2) fun r99 =>
          .ret (.inl (iwrap .i64 (r95.1 + 1), s2.2.1, iwrap .i64 (s2.2.2.1 - 1), decide (v96 ≥ v98), r95.2.1, r99)))
          (.mat (g_ (iwrap .i64 (r95.1 + 1)) s2.2.1 (iwrap .i64 (s2.2.2.1 - 1)) r95.2.2) fun r100 =>
          .ret (.inl (s2.1, r95.1, iwrap .i64 (s2.2.2.1 - 1), decide (v97 ≥ v98), r95.2.1, r100)))))
        (.mat (slices_partitionCmpFunc_Matrix_i_spacesc1c1_c978_F s2.1 s2.2.1 r5.1 r4) fun r101 =>
        let v102 := iwrap .i64 (r101.1 - s2.1)
        let v103 := iwrap .i64 (s2.2.1 - r101.1)
        let v104 := iwrap .i64 (Int.tdiv v1 8)
        .cond (decide (v102 < v103))
         (.mat (g_ s2.1 r101.1 (iwrap .i64 (s2.2.2.1 - 1)) r101.2.2) fun r105 =>
         .ret (.inl (iwrap .i64 (r101.1 + 1), s2.2.1, iwrap .i64 (s2.2.2.1 - 1), decide (v102 ≥ v104), r101.2.1, r105)))
         (.mat (g_ (iwrap .i64 (r101.1 + 1)) s2.2.1 (iwrap .i64 (s2.2.2.1 - 1)) r101.2.2) fun r106 =>
         .ret (.inl (s2.1, r101.1, iwrap .i64 (s2.2.2.1 - 1), decide (v103 ≥ v104), r101.2.1, r106))))))
      (.cond (decide (s2.1 > 0))
       (.ite (0 ≤ iwrap .i64 (s2.1 - 1) ∧ iwrap .i64 (s2.1 - 1) < (r4.length : Int)) <|
       .mat (r4[(iwrap .i64 (s2.1 - 1)).toNat]?) fun x107 =>
       .ite (0 ≤ r5.1 ∧ r5.1 < (r4.length : Int)) <|
       .mat (r4[r5.1.toNat]?) fun x108 =>
       .mat (i_spacesc1c1_F x107 x108) fun r109 =>
       .cond (!(decide (r109 < 0)))
        (.mat (slices_partitionEqualCmpFunc_Matrix_i_spacesc1c1_c978_F s2.1 s2.2.1 r5.1 r4) fun r110 =>
        .ret (.inl (r110.1, s2.2.1, iwrap .i64 (s2.2.2.1 - 1), s2.2.2.2.1, s2.2.2.2.2.1, r110.2)))
        (.mat (slices_partitionCmpFunc_Matrix_i_spacesc1c1_c978_F s2.1 s2.2.1 r5.1 r4) fun r111 =>
        let v112 := iwrap .i64 (r111.1 - s2.1)
        let v113 := iwrap .i64 (s2.2.1 - r111.1)
        let v114 := iwrap .i64 (Int.tdiv v1 8)
        .cond (decide (v112 < v113))
         (.mat (g_ s2.1 r111.1 (iwrap .i64 (s2.2.2.1 - 1)) r111.2.2) fun r115 =>
         .ret (.inl (iwrap .i64 (r111.1 + 1), s2.2.1, iwrap .i64 (s2.2.2.1 - 1), decide (v112 ≥ v114), r111.2.1, r115)))
         (.mat (g_ (iwrap .i64 (r111.1 + 1)) s2.2.1 (iwrap .i64 (s2.2.2.1 - 1)) r111.2.2) fun r116 =>
         .ret (.inl (s2.1, r111.1, iwrap .i64 (s2.2.2.1 - 1), decide (v113 ≥ v114), r111.2.1, r116)))))
       (.mat (slices_partitionCmpFunc_Matrix_i_spacesc1c1_c978_F s2.1 s2.2.1 r5.1 r4) fun r117 =>
       let v118 := iwrap .i64 (r117.1 - s2.1)
       let v119 := iwrap .i64 (s2.2.1 - r117.1)
       let v120 := iwrap .i64 (Int.tdiv v1 8)
       .cond (decide (v118 < v119))
        (.mat (g_ s2.1 r117.1 (iwrap .i64 (s2.2.2.1 - 1)) r117.2.2) fun r121 =>
        .ret (.inl (iwrap .i64 (r117.1 + 1), s2.2.1, iwrap .i64 (s2.2.2.1 - 1), decide (v118 ≥ v120), r117.2.1, r121)))
        (.mat (g_ (iwrap .i64 (r117.1 + 1)) s2.2.1 (iwrap .i64 (s2.2.2.1 - 1)) r117.2.2) fun r122 =>
        .ret (.inl (s2.1, r117.1, iwrap .i64 (s2.2.2.1 - 1), decide (v119 ≥ v120), r117.2.1, r122)))))))
    (.mat (slices_choosePivotCmpFunc_Matrix_i_spacesc1c1_d737_F s2.1 s2.2.1 s2.2.2.2.2.2) fun r123 =>
    .cond (decide (r123.2 = 2))
     (.mat (slices_reverseRangeCmpFunc_Matrix_i_spacesc1c1_d737_F s2.1 s2.2.1 s2.2.2.2.2.2) fun r124 =>
     let v125 := iwrap .i64 (r123.1 - s2.1)
     let v126 := iwrap .i64 ((iwrap .i64 (s2.2.1 - 1)) - v125)
     .cond s2.2.2.2.1
      (.cond s2.2.2.2.2.1
       (.mat (slices_partialInsertionSortCmpFunc_Matrix_i_spacesc1c1_d737_F s2.1 s2.2.1 r124) fun r127 =>
       .cond r127.1
        (.ret (.inr r127.2))
        (.cond (decide (s2.1 > 0))
         (.ite (0 ≤ iwrap .i64 (s2.1 - 1) ∧ iwrap .i64 (s2.1 - 1) < (r127.2.length : Int)) <|
         .mat (r127.2[(iwrap .i64 (s2.1 - 1)).toNat]?) fun x128 =>
         .ite (0 ≤ v126 ∧ v126 < (r127.2.length : Int)) <|
         .mat (r127.2[v126.toNat]?) fun x129 =>
         .mat (i_spacesc1c1_F x128 x129) fun r130 =>
         .cond (!(decide (r130 < 0)))
          (.mat (slices_partitionEqualCmpFunc_Matrix_i_spacesc1c1_c978_F s2.1 s2.2.1 v126 r127.2) fun r131 =>
          .ret (.inl (r131.1, s2.2.1, s2.2.2.1, s2.2.2.2.1, s2.2.2.2.2.1, r131.2)))
          (.mat (slices_partitionCmpFunc_Matrix_i_spacesc1c1_c978_F s2.1 s2.2.1 v126 r127.2) fun r132 =>
          let v133 := iwrap .i64 (r132.1 - s2.1)
          let v134 := iwrap .i64 (s2.2.1 - r132.1)
          let v135 := iwrap .i64 (Int.tdiv v1 8)
          .cond (decide (v133 < v134))
           (.mat (g_ s2.1 r132.1 s2.2.2.1 r132.2.2) fun r136 =>
           .ret (.inl (iwrap .i64 (r132.1 + 1), s2.2.1, s2.2.2.1, decide (v133 ≥ v135), r132.2.1, r136)))
           (.mat (g_ (iwrap .i64 (r132.1 + 1)) s2.2.1 s2.2.2.1 r132.2.2) fun r137 =>
           .ret (.inl (s2.1, r132.1, s2.2.2.1, decide (v134 ≥ v135), r132.2.1, r137)))))
         (.mat (slices_partitionCmpFunc_Matrix_i_spacesc1c1_c978_F s2.1 s2.2.1 v126 r127.2) fun r138 =>
         let v139 := iwrap .i64 (r138.1 - s2.1)
         let v140 := iwrap .i64 (s2.2.1 - r138.1)
         let v141 := iwrap .i64 (Int.tdiv v1 8)
         .cond (decide (v139 < v140))
          (.mat (g_ s2.1 r138.1 s2.2.2.1 r138.2.2) fun r142 =>
          .ret (.inl (iwrap .i64 (r138.1 + 1), s2.2.1, s2.2.2.1, decide (v139 ≥ v141), r138.2.1, r142)))
          (.mat (g_ (iwrap .i64 (r138.1 + 1)) s2.2.1 s2.2.2.1 r138.2.2) fun r143 =>
          .ret (.inl (s2.1, r138.1, s2.2.2.1, decide (v140 ≥ v141), r138.2.1, r143))))))
       (.cond (decide (s2.1 > 0))
        (.ite (0 ≤ iwrap .i64 (s2.1 - 1) ∧ iwrap .i64 (s2.1 - 1) < (r124.length : Int)) <|
        .mat (r124[(iwrap .i64 (s2.1 - 1)).toNat]?) fun x144 =>
        .ite (0 ≤ v126 ∧ v126 < (r124.length : Int)) <|
        .mat (r124[v126.toNat]?) fun x145 =>
        .mat (i_spacesc1c1_F x144 x145) fun r146 =>
        .cond (!(decide (r146 < 0)))
         (.mat (slices_partitionEqualCmpFunc_Matrix_i_spacesc1c1_c978_F s2.1 s2.2.1 v126 r124) fun r147 =>
         .ret (.inl (r147.1, s2.2.1, s2.2.2.1, s2.2.2.2.1, s2.2.2.2.2.1, r147.2)))
         (.mat (slices_partitionCmpFunc_Matrix_i_spacesc1c1_c978_F s2.1 s2.2.1 v126 r124) fun r148 =>
         let v149 := iwrap .i64 (r148.1 - s2.1)
         let v150 := iwrap .i64 (s2.2.1 - r148.1)
         let v151 := iwrap .i64 (Int.tdiv v1 8)
         .cond (decide (v149 < v150))
          (.mat (g_ s2.1 r148.1 s2.2.2.1 r148.2.2) fun r152 =>
          .ret (.inl (iwrap .i64 (r148.1 + 1), s2.2.1, s2.2.2.1, decide (v149 ≥ v151), r148.2.1, r152)))
          (.mat (g_ (iwrap .i64 (r148.1 + 1)) s2.2.1 s2.2.2.1 r148.2.2) fun r153 =>
          .ret (.inl (s2.1, r148.1, s2.2.2.1, decide (v150 ≥ v151), r148.2.1, r153)))))
        (.mat (slices_partitionCmpFunc_Matrix_i_spacesc1c1_c978_F s2.1 s2.2.1 v126 r124) fun r154 =>
        let v155 := iwrap .i64 (r154.1 - s2.1)
        let v156 := iwrap .i64 (s2.2.1 - r154.1)
        let v157 := iwrap .i64 (Int.tdiv v1 8)
        .cond (decide (v155 < v156))
         (.mat (g_ s2.1 r154.1 s2.2.2.1 r154.2.2) fun r158 =>
         .ret (.inl (iwrap .i64 (r154.1 + 1), s2.2.1, s2.2.2.1, decide (v155 ≥ v157), r154.2.1, r158)))
         (.mat (g_ (iwrap .i64 (r154.1 + 1)) s2.2.1 s2.2.2.1 r154.2.2) fun r159 =>
         .ret (.inl (s2.1, r154.1, s2.2.2.1, decide (v156 ≥ v157), r154.2.1, r159))))))
      (.cond (decide (s2.1 > 0))
       (.ite (0 ≤ iwrap .i64 (s2.1 - 1) ∧ iwrap .i64 (s2.1 - 1) < (r124.length : Int)) <|
       .mat (r124[(iwrap .i64 (s2.1 - 1)).toNat]?) fun x160 =>
       .ite (0 ≤ v126 ∧ v126 < (r124.length : Int)) <|
       .mat (r124[v126.toNat]?) fun x161 =>
       .mat (i_spacesc1c1_F x160 x161) fun r162 =>
       .cond (!(decide (r162 < 0)))
        (.mat (slices_partitionEqualCmpFunc_Matrix_i_spacesc1c1_c978_F s2.1 s2.2.1 v126 r124) fun r163 =>
        .ret (.inl (r163.1, s2.2.1, s2.2.2.1, s2.2.2.2.1, s2.2.2.2.2.1, r163.2)))
        (.mat (slices_partitionCmpFunc_Matrix_i_spacesc1c1_c978_F s2.1 s2.2.1 v126 r124) fun r164 =>
        let v165 := iwrap .i64 (r164.1 - s2.1)
        let v166 := iwrap .i64 (s2.2.1 - r164.1)
        let v167 := iwrap .i64 (Int.tdiv v1 8)
        .cond (decide (v165 < v166))
         (.mat (g_ s2.1 r164.1 s2.2.2.1 r164.2.2) fun r168 =>
         .ret (.inl (iwrap .i64 (r164.1 + 1), s2.2.1, s2.2.2.1, decide (v165 ≥ v167), r164.2.1, r168)))
         (.mat (g_ (iwrap .i64 (r164.1 + 1)) s2.2.1 s2.2.2.1 r164.2.2) fun r169 =>
         .ret (.inl (s2.1, r164.1, s2.2.2.1, decide (v166 ≥ v167), r164.2.1, r169)))))
       (.mat (slices_partitionCmpFunc_Matrix_i_spacesc1c1_c978_F s2.1 s2.2.1 v126 r124) fun r170 =>
       let v171 := iwrap .i64 (r170.1 - s2.1)
       let v172 := iwrap .i64 (s2.2.1 - r170.1)
       let v173 := iwrap .i64 (Int.tdiv v1 8)
       .cond (decide (v171 < v172))
        (.mat (g_ s2.1 r170.1 s2.2.2.1 r170.2.2) fun r174 =>
        .ret (.inl (iwrap .i64 (r170.1 + 1), s2.2.1, s2.2.2.1, decide (v171 ≥ v173), r170.2.1, r174)))
        (.mat (g_ (iwrap .i64 (r170.1 + 1)) s2.2.1 s2.2.2.1 r170.2.2) fun r175 =>
        .ret (.inl (s2.1, r170.1, s2.2.2.1, decide (v172 ≥ v173), r170.2.1, r175))))))
     (.cond s2.2.2.2.1
      (.cond s2.2.2.2.2.1
       (.cond (decide (r123.2 = 1))
        (.mat (slices_partialInsertionSortCmpFunc_Matrix_i_spacesc1c1_d737_F s2.1 s2.2.1 s2.2.2.2.2.2) fun r176 =>
        .cond r176.1
         (.ret (.inr r176.2))
         (.cond (decide (s2.1 > 0))
          (.ite (0 ≤ iwrap .i64 (s2.1 - 1) ∧ iwrap .i64 (s2.1 - 1) < (r176.2.length : Int)) <|
          .mat (r176.2[(iwrap .i64 (s2.1 - 1)).toNat]?) fun x177 =>
          .ite (0 ≤ r123.1 ∧ r123.1 < (r176.2.length : Int)) <|
          .mat (r176.2[r123.1.toNat]?) fun x178 =>
          .mat (i_spacesc1c1_F x177 x178) fun r179 =>
          .cond (!(decide (r179 < 0)))
           (.mat (slices_partitionEqualCmpFunc_Matrix_i_spacesc1c1_c978_F s2.1 s2.2.1 r123.1 r176.2) fun r180 =>
           .ret (.inl (r180.1, s2.2.1, s2.2.2.1, s2.2.2.2.1, s2.2.2.2.2.1, r180.2)))
           (.mat (slices_partitionCmpFunc_Matrix_i_spacesc1c1_c978_F s2.1 s2.2.1 r123.1 r176.2) fun r181 =>
           let v182 := iwrap .i64 (r181.1 - s2.1)
           let v183 := iwrap .i64 (s2.2.1 - r181.1)
           let v184 := iwrap .i64 (Int.tdiv v1 8)
           .cond (decide (v182 < v183))
            (.mat (g_ s2.1 r181.1 s2.2.2.1 r181.2.2) fun r185 =>
            .ret (.inl (iwrap .i64 (r181.1 + 1), s2.2.1, s2.2.2.1, decide (v182 ≥ v184), r181.2.1, r185)))
            (.mat (g_ (iwrap .i64 (r181.1 + 1)) s2.2.1 s2.2.2.1 r181.2.2) fun r186 =>
            .ret (.inl (s2.1, r181.1, s2.2.2.1, decide (v183 ≥ v184), r181.2.1, r186)))))
          (.mat (slices_partitionCmpFunc_Matrix_i_spacesc1c1_c978_F s2.1 s2.2.1 r123.1 r176.2) fun r187 =>
          let v188 := iwrap .i64 (r187.1 - s2.1)
          let v189 := iwrap .i64 (s2.2.1 - r187.1)
          let v190 := iwrap .i64 (Int.tdiv v1 8)
          .cond (decide (v188 < v189))
           (.mat (g_ s2.1 r187.1 s2.2.2.1 r187.2.2) fun r191 =>
           .ret (.inl (iwrap .i64 (r187.1 + 1), s2.2.1, s2.2.2.1, decide (v188 ≥ v190), r187.2.1, r191)))
           (.mat (g_ (iwrap .i64 (r187.1 + 1)) s2.2.1 s2.2.2.1 r187.2.2) fun r192 =>
           .ret (.inl (s2.1, r187.1, s2.2.2.1, decide (v189 ≥ v190), r187.2.1, r192))))))
        (.cond (decide (s2.1 > 0))
         (.ite (0 ≤ iwrap .i64 (s2.1 - 1) ∧ iwrap .i64 (s2.1 - 1) < (s2.2.2.2.2.2.length : Int)) <|
         .mat (s2.2.2.2.2.2[(iwrap .i64 (s2.1 - 1)).toNat]?) fun x193 =>
         .ite (0 ≤ r123.1 ∧ r123.1 < (s2.2.2.2.2.2.length : Int)) <|
         .mat (s2.2.2.2.2.2[r123.1.toNat]?) fun x194 =>
         .mat (i_spacesc1c1_F x193 x194) fun r195 =>
         .cond (!(decide (r195 < 0)))
          (.mat (slices_partitionEqualCmpFunc_Matrix_i_spacesc1c1_c978_F s2.1 s2.2.1 r123.1 s2.2.2.2.2.2) fun r196 =>
          .ret (.inl (r196.1, s2.2.1, s2.2.2.1, s2.2.2.2.1, s2.2.2.2.2.1, r196.2)))
          (.mat (slices_partitionCmpFunc_Matrix_i_spacesc1c1_c978_F s2.1 s2.2.1 r123.1 s2.2.2.2.2.2) fun r197 =>
          let v198 := iwrap .i64 (r197.1 - s2.1)
          let v199 := iwrap .i64 (s2.2.1 - r197.1)
          let v200 := iwrap .i64 (Int.tdiv v1 8)
          .cond (decide (v198 < v199))
           (.mat (g_ s2.1 r197.1 s2.2.2.1 r197.2.2) fun r201 =>
           .ret (.inl (iwrap .i64 (r197.1 + 1), s2.2.1, s2.2.2.1, decide (v198 ≥ v200), r197.2.1, r201)))
           (.mat (g_ (iwrap .i64 (r197.1 + 1)) s2.2.1 s2.2.2.1 r197.2.2) fun r202 =>
           .ret (.inl (s2.1, r197.1, s2.2.2.1, decide (v199 ≥ v200), r197.2.1, r202)))))
         (.mat (slices_partitionCmpFunc_Matrix_i_spacesc1c1_c978_F s2.1 s2.2.1 r123.1 s2.2.2.2.2.2) fun r203 =>
         let v204 := iwrap .i64 (r203.1 - s2.1)
         let v205 := iwrap .i64 (s2.2.1 - r203.1)
         let v206 := iwrap .i64 (Int.tdiv v1 8)
         .cond (decide (v204 < v205))
          (.mat (g_ s2.1 r203.1 s2.2.2.1 r203.2.2) fun r207 =>
          .ret (.inl (iwrap .i64 (r203.1 + 1), s2.2.1, s2.2.2.1, decide (v204 ≥ v206), r203.2.1, r207)))
          (.mat (g_ (iwrap .i64 (r203.1 + 1)) s2.2.1 s2.2.2.1 r203.2.2) fun r208 =>
          .ret (.inl (s2.1, r203.1, s2.2.2.1, decide (v205 ≥ v206), r203.2.1, r208))))))
       (.cond (decide (s2.1 > 0))
        (.ite (0 ≤ iwrap .i64 (s2.1 - 1) ∧ iwrap .i64 (s2.1 - 1) < (s2.2.2.2.2.2.length : Int)) <|
        .mat (s2.2.2.2.2.2[(iwrap .i64 (s2.1 - 1)).toNat]?) fun x209 =>
        .ite (0 ≤ r123.1 ∧ r123.1 < (s2.2.2.2.2.2.length : Int)) <|
        .mat (s2.2.2.2.2.2[r123.1.toNat]?) fun x210 =>
        .mat (i_spacesc1c1_F x209 x210) fun r211 =>
        .cond (!(decide (r211 < 0)))
         (.mat (slices_partitionEqualCmpFunc_Matrix_i_spacesc1c1_c978_F s2.1 s2.2.1 r123.1 s2.2.2.2.2.2) fun r212 =>
         .ret (.inl (r212.1, s2.2.1, s2.2.2.1, s2.2.2.2.1, s2.2.2.2.2.1, r212.2)))
         (.mat (slices_partitionCmpFunc_Matrix_i_spacesc1c1_c978_F s2.1 s2.2.1 r123.1 s2.2.2.2.2.2) fun r213 =>
         let v214 := iwrap .i64 (r213.1 - s2.1)
         let v215 := iwrap .i64 (s2.2.1 - r213.1)
         let v216 := iwrap .i64 (Int.tdiv v1 8)
         .cond (decide (v214 < v215))
          (.mat (g_ s2.1 r213.1 s2.2.2.1 r213.2.2) fun r217 =>
          .ret (.inl (iwrap .i64 (r213.1 + 1), s2.2.1, s2.2.2.1, decide (v214 ≥ v216), r213.2.1, r217)))
          (.mat (g_ (iwrap .i64 (r213.1 + 1)) s2.2.1 s2.2.2.1 r213.2.2) fun r218 =>
          .ret (.inl (s2.1, r213.1, s2.2.2.1, decide (v215 ≥ v216), r213.2.1, r218)))))
        (.mat (slices_partitionCmpFunc_Matrix_i_spacesc1c1_c978_F s2.1 s2.2.1 r123.1 s2.2.2.2.2.2) fun r219 =>
        let v220 := iwrap .i64 (r219.1 - s2.1)
        let v221 := iwrap .i64 (s2.2.1 - r219.1)
        let v222 := iwrap .i64 (Int.tdiv v1 8)
        .cond (decide (v220 < v221))
         (.mat (g_ s2.1 r219.1 s2.2.2.1 r219.2.2) fun r223 =>
         .ret (.inl (iwrap .i64 (r219.1 + 1), s2.2.1, s2.2.2.1, decide (v220 ≥ v222), r219.2.1, r223)))
         (.mat (g_ (iwrap .i64 (r219.1 + 1)) s2.2.1 s2.2.2.1 r219.2.2) fun r224 =>
         .ret (.inl (s2.1, r219.1, s2.2.2.1, decide (v221 ≥ v222), r219.2.1, r224))))))
      (.cond (decide (s2.1 > 0))
       (.ite (0 ≤ iwrap .i64 (s2.1 - 1) ∧ iwrap .i64 (s2.1 - 1) < (s2.2.2.2.2.2.length : Int)) <|
       .mat (s2.2.2.2.2.2[(iwrap .i64 (s2.1 - 1)).toNat]?) fun x225 =>
       .ite (0 ≤ r123.1 ∧ r123.1 < (s2.2.2.2.2.2.length : Int)) <|
       .mat (s2.2.2.2.2.2[r123.1.toNat]?) fun x226 =>
       .mat (i_spacesc1c1_F x225 x226) fun r227 =>
       .cond (!(decide (r227 < 0)))
        (.mat (slices_partitionEqualCmpFunc_Matrix_i_spacesc1c1_c978_F s2.1 s2.2.1 r123.1 s2.2.2.2.2.2) fun r228 =>
        .ret (.inl (r228.1, s2.2.1, s2.2.2.1, s2.2.2.2.1, s2.2.2.2.2.1, r228.2)))
        (.mat (slices_partitionCmpFunc_Matrix_i_spacesc1c1_c978_F s2.1 s2.2.1 r123.1 s2.2.2.2.2.2) fun r229 =>
        let v230 := iwrap .i64 (r229.1 - s2.1)
        let v231 := iwrap .i64 (s2.2.1 - r229.1)
        let v232 := iwrap .i64 (Int.tdiv v1 8)
        .cond (decide (v230 < v231))
         (.mat (g_ s2.1 r229.1 s2.2.2.1 r229.2.2) fun r233 =>
         .ret (.inl (iwrap .i64 (r229.1 + 1), s2.2.1, s2.2.2.1, decide (v230 ≥ v232), r229.2.1, r233)))
         (.mat (g_ (iwrap .i64 (r229.1 + 1)) s2.2.1 s2.2.2.1 r229.2.2) fun r234 =>
         .ret (.inl (s2.1, r229.1, s2.2.2.1, decide (v231 ≥ v232), r229.2.1, r234)))))
       (.mat (slices_partitionCmpFunc_Matrix_i_spacesc1c1_c978_F s2.1 s2.2.1 r123.1 s2.2.2.2.2.2) fun r235 =>
       let v236 := iwrap .i64 (r235.1 - s2.1)
       let v237 := iwrap .i64 (s2.2.1 - r235.1)
       let v238 := iwrap .i64 (Int.tdiv v1 8)
       .cond (decide (v236 < v237))
        (.mat (g_ s2.1 r235.1 s2.2.2.1 r235.2.2) fun r239 =>
        .ret (.inl (iwrap .i64 (r235.1 + 1), s2.2.1, s2.2.2.1, decide (v236 ≥ v238), r235.2.1, r239)))
        (.mat (g_ (iwrap .i64 (r235.1 + 1)) s2.2.1 s2.2.2.1 r235.2.2) fun r240 =>
        .ret (.inl (s2.1, r235.1, s2.2.2.1, decide (v237 ≥ v238), r235.2.1, r240)))))))))
noncomputable def slices_pdqsortCmpFunc_Matrix_i_spacesc1c1_c978 (g_ : Int → Int → Int → (List TMatrix) → Option (List TMatrix)) (p0 : Int) (p1 : Int) (p2 : Int) (p3 : (List TMatrix)) : Tre (List TMatrix) :=
 .mat (loopF (slices_pdqsortCmpFunc_Matrix_i_spacesc1c1_c978_l2 g_) (p0, p1, p2, true, true, p3)) fun l241 =>
 .ret l241
noncomputable def slices_pdqsortCmpFunc_Matrix_i_spacesc1c1_c978_R : Nat → Int → Int → Int → (List TMatrix) → Option (List TMatrix)
 | 0 => fun _ _ _ _ => none
 | n + 1 => fun p0 p1 p2 p3 => (slices_pdqsortCmpFunc_Matrix_i_spacesc1c1_c978 (slices_pdqsortCmpFunc_Matrix_i_spacesc1c1_c978_R n) p0 p1 p2 p3).run some
noncomputable def slices_pdqsortCmpFunc_Matrix_i_spacesc1c1_c978_F (p0 : Int) (p1 : Int) (p2 : Int) (p3 : (List TMatrix)) : Option (List TMatrix) := slices_pdqsortCmpFunc_Matrix_i_spacesc1c1_c978_R 1000000000000 p0 p1 p2 p3
noncomputable def slices_pdqsortCmpFunc_Matrix_i_spacesc1c1_c978_out (_g_ : Int → Int → Int → (List TMatrix) → Option (List TMatrix)) (_p0 : Int) (_p1 : Int) (_p2 : Int) (_p3 : (List TMatrix)) : (List TMatrix) → CallOut := fun r => ⟨.tnil, [⟨false, (.sl kMatrix), (.sl (.imm true)), r⟩], []⟩
noncomputable def slices_pdqsortCmpFunc_Matrix_i_spacesc1c1_c978_G (g_ : Int → Int → Int → (List TMatrix) → Option (List TMatrix)) (av : List AV) (rs : List Root) : Tre CallOut :=
 asCons av fun a0_ av0 =>
 asCons av0 fun a1_ av1 =>
 asCons av1 fun a2_ av2 =>
 asCons av2 fun a3_ av3 =>
 asCons av3 fun a4_ av4 =>
 asEnd av4 <|
 asCons rs fun r0_ rs0 =>
 asEnd rs0 <|
 asRef (0, 0) [] a0_ <|
 asImmZ true (.int .i64) a1_ fun d1 =>
 asImmZ true (.int .i64) a2_ fun d2 =>
 asImmZ true (.int .i64) a3_ fun d3 =>
 asFn 123 [] a4_ <|
 asRt false (.sl kMatrix) r0_ fun m4 d5 =>
 asM (.sl (.imm true)) m4 <|
 .mat (g_ d1 d2 d3 d5) fun r => .ret ((slices_pdqsortCmpFunc_Matrix_i_spacesc1c1_c978_out g_) d1 d2 d3 d5 r)
noncomputable def slices_pdqsortCmpFunc_Matrix_i_spacesc1c1_c978_c (g_ : Int → Int → Int → (List TMatrix) → Option (List TMatrix)) : Ctr := ⟨[0], fun ci => (slices_pdqsortCmpFunc_Matrix_i_spacesc1c1_c978_G g_) ci.args ci.roots, false⟩
noncomputable def slices_pdqsortCmpFunc_Matrix_i_spacesc1c1_c978_V (g_ : Int → Int → Int → (List TMatrix) → Option (List TMatrix)) : Env := ⟨tau, [(148, slices_insertionSortCmpFunc_Matrix_i_spacesc1c1_d737_c), (149, slices_heapSortCmpFunc_Matrix_i_spacesc1c1_d737_c), (150, slices_breakPatternsCmpFunc_Matrix_i_spacesc1c1_d737_c), (151, slices_choosePivotCmpFunc_Matrix_i_spacesc1c1_d737_c), (152, slices_reverseRangeCmpFunc_Matrix_i_spacesc1c1_d737_c), (153, slices_partialInsertionSortCmpFunc_Matrix_i_spacesc1c1_d737_c), (123, i_spacesc1c1_c), (154, slices_partitionEqualCmpFunc_Matrix_i_spacesc1c1_c978_c), (155, slices_partitionCmpFunc_Matrix_i_spacesc1c1_c978_c), (118, (slices_pdqsortCmpFunc_Matrix_i_spacesc1c1_c978_c g_))], []⟩
noncomputable def slices_pdqsortCmpFunc_Matrix_i_spacesc1c1_c978_b (_g_ : Int → Int → Int → (List TMatrix) → Option (List TMatrix)) : Code := (Try.f118.body).getD .skip
noncomputable def slices_pdqsortCmpFunc_Matrix_i_spacesc1c1_c978_l2_mk (_g_ : Int → Int → Int → (List TMatrix) → Option (List TMatrix)) : (Int × Int × Int × Bool × Bool × (List TMatrix)) → St := fun x => stOf [(0, (.ref (0, 0) [])), (1, (.imm true (.int .i64) x.1)), (2, (.imm true (.int .i64) x.2.1)), (3, (.imm true (.int .i64) x.2.2.1)), (4, (.fn 123 [])), (10, (.imm true .bool x.2.2.2.1)), (11, (.imm true .bool x.2.2.2.2.1))] [((0, 0), some ⟨false, (.sl kMatrix), (.sl (.imm true)), x.2.2.2.2.2⟩)]
noncomputable def slices_pdqsortCmpFunc_Matrix_i_spacesc1c1_c978_l2_out (_g_ : Int → Int → Int → (List TMatrix) → Option (List TMatrix)) : (List TMatrix) → Ex × St := fun x => (.ret, stOf [] [((0, 0), some ⟨false, (.sl kMatrix), (.sl (.imm true)), x⟩)])
noncomputable def slices_pdqsortCmpFunc_Matrix_i_spacesc1c1_c978_l2_D (g_ : Int → Int → Int → (List TMatrix) → Option (List TMatrix)) (s : St) : Tre (Ex × St) :=
 asRef (0, 0) [] (s.tmps 0) <|
 asImmZ true (.int .i64) (s.tmps 1) fun d3 =>
 asImmZ true (.int .i64) (s.tmps 2) fun d5 =>
 asImmZ true (.int .i64) (s.tmps 3) fun d7 =>
 asFn 123 [] (s.tmps 4) <|
 asImmZ true .bool (s.tmps 10) fun d10 =>
 asImmZ true .bool (s.tmps 11) fun d12 =>
 asRoot false (.sl kMatrix) (s.roots (0, 0)) fun m14 d15 =>
 asM (.sl (.imm true)) m14 <|
 .mat (loopF (slices_pdqsortCmpFunc_Matrix_i_spacesc1c1_c978_l2 g_) (d3, d5, d7, d10, d12, d15)) fun x => .ret ((slices_pdqsortCmpFunc_Matrix_i_spacesc1c1_c978_l2_out g_) x)
noncomputable def slices_pdqsortCmpFunc_Matrix_i_spacesc1c1_c978_l2_L (g_ : Int → Int → Int → (List TMatrix) → Option (List TMatrix)) : LoopI := ⟨([0, 1, 2, 3, 4, 10, 11], [(0, 0)]), ([], [(0, 0)]), (slices_pdqsortCmpFunc_Matrix_i_spacesc1c1_c978_l2_D g_)⟩
noncomputable def slices_pdqsortCmpFunc_Matrix_i_spacesc1c1_c978_A (g_ : Int → Int → Int → (List TMatrix) → Option (List TMatrix)) : List (Nat × LoopI) := [(2, (slices_pdqsortCmpFunc_Matrix_i_spacesc1c1_c978_l2_L g_))]
set_option maxRecDepth 100000 in
theorem slices_pdqsortCmpFunc_Matrix_i_spacesc1c1_c978_l2_step (g_ : Int → Int → Int → (List TMatrix) → Option (List TMatrix)) : ∀ (x : (Int × Int × Int × Bool × Bool × (List TMatrix))) (c : St → Option (Ex × St)), den (slices_pdqsortCmpFunc_Matrix_i_spacesc1c1_c978_V g_) (slices_pdqsortCmpFunc_Matrix_i_spacesc1c1_c978_A g_) (loopAt (slices_pdqsortCmpFunc_Matrix_i_spacesc1c1_c978_b g_) 0) ((slices_pdqsortCmpFunc_Matrix_i_spacesc1c1_c978_l2_mk g_) x) (roundK (slices_pdqsortCmpFunc_Matrix_i_spacesc1c1_c978_l2_L g_).kp (slices_pdqsortCmpFunc_Matrix_i_spacesc1c1_c978_l2_L g_).kx c) = ((slices_pdqsortCmpFunc_Matrix_i_spacesc1c1_c978_l2 g_) x).run (roundR ((slices_pdqsortCmpFunc_Matrix_i_spacesc1c1_c978_l2_mk g_)) ((slices_pdqsortCmpFunc_Matrix_i_spacesc1c1_c978_l2_out g_)) c) := fun _ _ => by
 kernel_rfl
theorem slices_pdqsortCmpFunc_Matrix_i_spacesc1c1_c978_l2_ok (g_ : Int → Int → Int → (List TMatrix) → Option (List TMatrix)) : LoopOK (slices_pdqsortCmpFunc_Matrix_i_spacesc1c1_c978_V g_) (slices_pdqsortCmpFunc_Matrix_i_spacesc1c1_c978_A g_) (loopAt (slices_pdqsortCmpFunc_Matrix_i_spacesc1c1_c978_b g_) 0) (slices_pdqsortCmpFunc_Matrix_i_spacesc1c1_c978_l2_L g_) := loopOK_of fun s e s' h => by
 generalize hs : restrict (slices_pdqsortCmpFunc_Matrix_i_spacesc1c1_c978_l2_L g_).kp s = s1 at h
 have h : ((slices_pdqsortCmpFunc_Matrix_i_spacesc1c1_c978_l2_D g_) s1).run some = some (e, s') := h
 obtain ⟨e1, h_0⟩ := asRef_spec h
 obtain ⟨d3, e2, h_1⟩ := asImmZ_spec h_0
 obtain ⟨d5, e4, h_2⟩ := asImmZ_spec h_1
 obtain ⟨d7, e6, h_3⟩ := asImmZ_spec h_2
 obtain ⟨e8, h_4⟩ := asFn_spec h_3
 obtain ⟨d10, e9, h_5⟩ := asImmZ_spec h_4
 obtain ⟨d12, e11, h_6⟩ := asImmZ_spec h_5
 obtain ⟨m14, d15, e13, h_7⟩ := asRoot_spec h_6
 obtain ⟨rfl, h_8⟩ := asM_spec h_7
 obtain ⟨y, hy, hz⟩ := mat_ret h_8
 refine ⟨_, _, (slices_pdqsortCmpFunc_Matrix_i_spacesc1c1_c978_l2_mk g_), (slices_pdqsortCmpFunc_Matrix_i_spacesc1c1_c978_l2_out g_), (slices_pdqsortCmpFunc_Matrix_i_spacesc1c1_c978_l2 g_), (d3, d5, d7, d10, d12, d15), y, ?_, hy, ?_, (slices_pdqsortCmpFunc_Matrix_i_spacesc1c1_c978_l2_step g_)⟩
 ·subst hs; exact restrict_eq (T := [(0, (.ref (0, 0) [])), (1, (.imm true (.int .i64) d3)), (2, (.imm true (.int .i64) d5)), (3, (.imm true (.int .i64) d7)), (4, (.fn 123 [])), (10, (.imm true .bool d10)), (11, (.imm true .bool d12))]) (U := [((0, 0), some ⟨false, (.sl kMatrix), (.sl (.imm true)), d15⟩)]) rfl rfl ⟨e1, e2, e4, e6, e8, e9, e11, trivial⟩ ⟨e13, trivial⟩
 ·exact Option.some.inj hz
noncomputable def slices_pdqsortCmpFunc_Matrix_i_spacesc1c1_c978_I (g_ : Int → Int → Int → (List TMatrix) → Option (List TMatrix)) : FnI := ⟨(slices_pdqsortCmpFunc_Matrix_i_spacesc1c1_c978_b g_), Try.f118.results.toList, Try.f118.resultTypes.toList, (slices_pdqsortCmpFunc_Matrix_i_spacesc1c1_c978_A g_)⟩
set_option maxRecDepth 100000 in
theorem slices_pdqsortCmpFunc_Matrix_i_spacesc1c1_c978_eq (g_ : Int → Int → Int → (List TMatrix) → Option (List TMatrix)) : ∀ (p0 : Int) (p1 : Int) (p2 : Int) (p3 : (List TMatrix)), denFn (slices_pdqsortCmpFunc_Matrix_i_spacesc1c1_c978_V g_) (slices_pdqsortCmpFunc_Matrix_i_spacesc1c1_c978_I g_) ⟨[(.ref (0, 0) []), (.imm true (.int .i64) p0), (.imm true (.int .i64) p1), (.imm true (.int .i64) p2), (.fn 123 [])], [⟨false, (.sl kMatrix), (.sl (.imm true)), p3⟩]⟩ = ((slices_pdqsortCmpFunc_Matrix_i_spacesc1c1_c978 g_) p0 p1 p2 p3).run fun r => some ((slices_pdqsortCmpFunc_Matrix_i_spacesc1c1_c978_out g_) p0 p1 p2 p3 r) := fun _ _ _ _ => by kernel_rfl
theorem slices_pdqsortCmpFunc_Matrix_i_spacesc1c1_c978_env (g_ : Int → Int → Int → (List TMatrix) → Option (List TMatrix)) (hg_ : Contract Try.prog .none 118 (slices_pdqsortCmpFunc_Matrix_i_spacesc1c1_c978_c g_)) : EnvOK Try.prog .none (slices_pdqsortCmpFunc_Matrix_i_spacesc1c1_c978_V g_) := (envOK_cons slices_insertionSortCmpFunc_Matrix_i_spacesc1c1_d737_ok ent148 (envOK_cons slices_heapSortCmpFunc_Matrix_i_spacesc1c1_d737_ok ent149 (envOK_cons slices_breakPatternsCmpFunc_Matrix_i_spacesc1c1_d737_ok ent150 (envOK_cons slices_choosePivotCmpFunc_Matrix_i_spacesc1c1_d737_ok ent151 (envOK_cons slices_reverseRangeCmpFunc_Matrix_i_spacesc1c1_d737_ok ent152 (envOK_cons slices_partialInsertionSortCmpFunc_Matrix_i_spacesc1c1_d737_ok ent153 (envOK_cons i_spacesc1c1_ok ent123 (envOK_cons slices_partitionEqualCmpFunc_Matrix_i_spacesc1c1_c978_ok ent154 (envOK_cons slices_partitionCmpFunc_Matrix_i_spacesc1c1_c978_ok ent155 (envOK_cons hg_ ent118 envOK_nil))))))))))
set_option maxRecDepth 100000 in
theorem slices_pdqsortCmpFunc_Matrix_i_spacesc1c1_c978_okS (g_ : Int → Int → Int → (List TMatrix) → Option (List TMatrix)) (hg_ : Contract Try.prog .none 118 (slices_pdqsortCmpFunc_Matrix_i_spacesc1c1_c978_c g_)) : Contract Try.prog .none 118 (slices_pdqsortCmpFunc_Matrix_i_spacesc1c1_c978_c (fun p0 p1 p2 p3 => (slices_pdqsortCmpFunc_Matrix_i_spacesc1c1_c978 g_ p0 p1 p2 p3).run some)) := by
 have hl : LoopsOK (slices_pdqsortCmpFunc_Matrix_i_spacesc1c1_c978_V g_) (slices_pdqsortCmpFunc_Matrix_i_spacesc1c1_c978_A g_) (slices_pdqsortCmpFunc_Matrix_i_spacesc1c1_c978_b g_) := (loopsOK_all (n := 1) (by kernel_rfl) fun k hk => by
   match k, hk with
   | 0, _ => exact loopOK_at (id := 2) (L := (slices_pdqsortCmpFunc_Matrix_i_spacesc1c1_c978_l2_L g_)) (by kernel_rfl) (by kernel_rfl) (slices_pdqsortCmpFunc_Matrix_i_spacesc1c1_c978_l2_ok g_))
 refine (contract_of (F := (slices_pdqsortCmpFunc_Matrix_i_spacesc1c1_c978_I g_)) tau_tys ((slices_pdqsortCmpFunc_Matrix_i_spacesc1c1_c978_env g_) hg_) Try.func118 (by kernel_rfl) (by kernel_rfl) (by kernel_rfl) hl [0]).weaken ?_
 rintro ⟨av, rs⟩ co h
 have h : (slices_pdqsortCmpFunc_Matrix_i_spacesc1c1_c978_G (fun p0 p1 p2 p3 => (slices_pdqsortCmpFunc_Matrix_i_spacesc1c1_c978 g_ p0 p1 p2 p3).run some) av rs).run some = some co := h
 obtain ⟨a0_, av0, rfl, h_0⟩ := asCons_spec h
 obtain ⟨a1_, av1, rfl, h_1⟩ := asCons_spec h_0
 obtain ⟨a2_, av2, rfl, h_2⟩ := asCons_spec h_1
 obtain ⟨a3_, av3, rfl, h_3⟩ := asCons_spec h_2
 obtain ⟨a4_, av4, rfl, h_4⟩ := asCons_spec h_3
 obtain ⟨rfl, h_5⟩ := asEnd_spec h_4
 obtain ⟨r0_, rs0, rfl, h_6⟩ := asCons_spec h_5
 obtain ⟨rfl, h_7⟩ := asEnd_spec h_6
 obtain ⟨rfl, h_8⟩ := asRef_spec h_7
 obtain ⟨d1, rfl, h_9⟩ := asImmZ_spec h_8
 obtain ⟨d2, rfl, h_10⟩ := asImmZ_spec h_9
 obtain ⟨d3, rfl, h_11⟩ := asImmZ_spec h_10
 obtain ⟨rfl, h_12⟩ := asFn_spec h_11
 obtain ⟨m4, d5, rfl, h_13⟩ := asRt_spec h_12
 obtain ⟨rfl, h_14⟩ := asM_spec h_13
 exact fin_mat ((slices_pdqsortCmpFunc_Matrix_i_spacesc1c1_c978_eq g_) d1 d2 d3 d5) h_14
theorem slices_pdqsortCmpFunc_Matrix_i_spacesc1c1_c978_ok0 : Contract Try.prog .none 118 (slices_pdqsortCmpFunc_Matrix_i_spacesc1c1_c978_c (fun _ _ _ _ => none)) := Contract.vacuous (by
 rintro ⟨av, rs⟩ co h
 have h : (slices_pdqsortCmpFunc_Matrix_i_spacesc1c1_c978_G (fun _ _ _ _ => none) av rs).run some = some co := h
 obtain ⟨a0_, av0, rfl, h_0⟩ := asCons_spec h
 obtain ⟨a1_, av1, rfl, h_1⟩ := asCons_spec h_0
 obtain ⟨a2_, av2, rfl, h_2⟩ := asCons_spec h_1
 obtain ⟨a3_, av3, rfl, h_3⟩ := asCons_spec h_2
 obtain ⟨a4_, av4, rfl, h_4⟩ := asCons_spec h_3
 obtain ⟨rfl, h_5⟩ := asEnd_spec h_4
 obtain ⟨r0_, rs0, rfl, h_6⟩ := asCons_spec h_5
 obtain ⟨rfl, h_7⟩ := asEnd_spec h_6
 obtain ⟨rfl, h_8⟩ := asRef_spec h_7
 obtain ⟨d1, rfl, h_9⟩ := asImmZ_spec h_8
 obtain ⟨d2, rfl, h_10⟩ := asImmZ_spec h_9
 obtain ⟨d3, rfl, h_11⟩ := asImmZ_spec h_10
 obtain ⟨rfl, h_12⟩ := asFn_spec h_11
 obtain ⟨m4, d5, rfl, h_13⟩ := asRt_spec h_12
 obtain ⟨rfl, h_14⟩ := asM_spec h_13
 exact mat_none_absurd h_14)
theorem slices_pdqsortCmpFunc_Matrix_i_spacesc1c1_c978_okN : ∀ n, Contract Try.prog .none 118 (slices_pdqsortCmpFunc_Matrix_i_spacesc1c1_c978_c (slices_pdqsortCmpFunc_Matrix_i_spacesc1c1_c978_R n))
 | 0 => slices_pdqsortCmpFunc_Matrix_i_spacesc1c1_c978_ok0
 | n + 1 => slices_pdqsortCmpFunc_Matrix_i_spacesc1c1_c978_okS _ (slices_pdqsortCmpFunc_Matrix_i_spacesc1c1_c978_okN n)
theorem slices_pdqsortCmpFunc_Matrix_i_spacesc1c1_c978_ok : Contract Try.prog .none 118 (slices_pdqsortCmpFunc_Matrix_i_spacesc1c1_c978_c slices_pdqsortCmpFunc_Matrix_i_spacesc1c1_c978_F) := slices_pdqsortCmpFunc_Matrix_i_spacesc1c1_c978_okN _
end Go.Proofs.Ythnkanacjhlhhaa

namespace Go.Proofs.Ythnkanacjhlhhaa
open Go Go.Abs Go.Proofs
noncomputable def slices_SortFunc_Matrix_i_spacesc1c1_3d5f (p0 : (List TMatrix)) : Tre (List TMatrix) :=
 let v1 := iwrap .u64 (p0.length : Int)
 .mat (bits_Len_F v1) fun r2 =>
 .mat (slices_pdqsortCmpFunc_Matrix_i_spacesc1c1_c978_F 0 (p0.length : Int) r2 p0) fun r3 =>
 .ret r3
noncomputable def slices_SortFunc_Matrix_i_spacesc1c1_3d5f_F (p0 : (List TMatrix)) : Option (List TMatrix) := (slices_SortFunc_Matrix_i_spacesc1c1_3d5f p0).run some
noncomputable def slices_SortFunc_Matrix_i_spacesc1c1_3d5f_V : Env := ⟨tau, [(119, bits_Len_c), (118, (slices_pdqsortCmpFunc_Matrix_i_spacesc1c1_c978_c slices_pdqsortCmpFunc_Matrix_i_spacesc1c1_c978_F))], []⟩
noncomputable def slices_SortFunc_Matrix_i_spacesc1c1_3d5f_b : Code := (Try.f63.body).getD .skip
noncomputable def slices_SortFunc_Matrix_i_spacesc1c1_3d5f_I : FnI := ⟨slices_SortFunc_Matrix_i_spacesc1c1_3d5f_b, Try.f63.results.toList, Try.f63.resultTypes.toList, []⟩
noncomputable def slices_SortFunc_Matrix_i_spacesc1c1_3d5f_out (_p0 : (List TMatrix)) : (List TMatrix) → CallOut := fun r => ⟨.tnil, [⟨false, (.sl kMatrix), (.sl (.imm true)), r⟩], []⟩
set_option maxRecDepth 100000 in
theorem slices_SortFunc_Matrix_i_spacesc1c1_3d5f_eq : ∀ (p0 : (List TMatrix)), denFn slices_SortFunc_Matrix_i_spacesc1c1_3d5f_V slices_SortFunc_Matrix_i_spacesc1c1_3d5f_I ⟨[(.ref (0, 0) []), (.fn 123 [])], [⟨false, (.sl kMatrix), (.sl (.imm true)), p0⟩]⟩ = (slices_SortFunc_Matrix_i_spacesc1c1_3d5f p0).run fun r => some (slices_SortFunc_Matrix_i_spacesc1c1_3d5f_out p0 r) := fun _ => by kernel_rfl
noncomputable def slices_SortFunc_Matrix_i_spacesc1c1_3d5f_G (av : List AV) (rs : List Root) : Tre CallOut :=
 asCons av fun a0_ av0 =>
 asCons av0 fun a1_ av1 =>
 asEnd av1 <|
 asCons rs fun r0_ rs0 =>
 asEnd rs0 <|
 asRef (0, 0) [] a0_ <|
 asFn 123 [] a1_ <|
 asRt false (.sl kMatrix) r0_ fun m1 d2 =>
 asM (.sl (.imm true)) m1 <|
 .mat (slices_SortFunc_Matrix_i_spacesc1c1_3d5f_F d2) fun r => .ret (slices_SortFunc_Matrix_i_spacesc1c1_3d5f_out d2 r)
noncomputable def slices_SortFunc_Matrix_i_spacesc1c1_3d5f_c : Ctr := ⟨[0], fun ci => slices_SortFunc_Matrix_i_spacesc1c1_3d5f_G ci.args ci.roots, false⟩
theorem slices_SortFunc_Matrix_i_spacesc1c1_3d5f_env : EnvOK Try.prog .none slices_SortFunc_Matrix_i_spacesc1c1_3d5f_V := (envOK_cons bits_Len_ok ent119 (envOK_cons slices_pdqsortCmpFunc_Matrix_i_spacesc1c1_c978_ok ent118 envOK_nil))
set_option maxRecDepth 100000 in
theorem slices_SortFunc_Matrix_i_spacesc1c1_3d5f_ok : Contract Try.prog .none 63 slices_SortFunc_Matrix_i_spacesc1c1_3d5f_c := by
 have hl : LoopsOK slices_SortFunc_Matrix_i_spacesc1c1_3d5f_V [] slices_SortFunc_Matrix_i_spacesc1c1_3d5f_b := loopsOK_nil (by kernel_rfl)
 refine (contract_of (F := slices_SortFunc_Matrix_i_spacesc1c1_3d5f_I) tau_tys slices_SortFunc_Matrix_i_spacesc1c1_3d5f_env Try.func63 (by kernel_rfl) (by kernel_rfl) (by kernel_rfl) hl [0]).weaken ?_
 rintro ⟨av, rs⟩ co h
 have h : (slices_SortFunc_Matrix_i_spacesc1c1_3d5f_G av rs).run some = some co := h
 obtain ⟨a0_, av0, rfl, h_0⟩ := asCons_spec h
 obtain ⟨a1_, av1, rfl, h_1⟩ := asCons_spec h_0
 obtain ⟨rfl, h_2⟩ := asEnd_spec h_1
 obtain ⟨r0_, rs0, rfl, h_3⟩ := asCons_spec h_2
 obtain ⟨rfl, h_4⟩ := asEnd_spec h_3
 obtain ⟨rfl, h_5⟩ := asRef_spec h_4
 obtain ⟨rfl, h_6⟩ := asFn_spec h_5
 obtain ⟨m1, d2, rfl, h_7⟩ := asRt_spec h_6
 obtain ⟨rfl, h_8⟩ := asM_spec h_7
 exact fin_mat (slices_SortFunc_Matrix_i_spacesc1c1_3d5f_eq d2) h_8
end Go.Proofs.Ythnkanacjhlhhaa

namespace Go.Proofs.Ythnkanacjhlhhaa
open Go Go.Abs Go.Proofs
noncomputable def slices_SortFunc_Matrix_i_spacesc1c1_4a50_F (p0 : (List TMatrix)) : Option (List TMatrix) :=
 (slices_SortFunc_Matrix_i_spacesc1c1_3d5f_F p0).map fun r => r
noncomputable def slices_SortFunc_Matrix_i_spacesc1c1_4a50_out : (List TMatrix) → CallOut := fun r => ⟨.tnil, [⟨true, (.sl kMatrix), (.sl (.imm true)), r⟩], []⟩
noncomputable def slices_SortFunc_Matrix_i_spacesc1c1_4a50_G (av : List AV) (rs : List Root) : Tre CallOut :=
 asCons av fun a0_ av0 =>
 asCons av0 fun a1_ av1 =>
 asEnd av1 <|
 asCons rs fun r0_ rs0 =>
 asEnd rs0 <|
 asRef (0, 0) [] a0_ <|
 asFn 123 [] a1_ <|
 asRt true (.sl kMatrix) r0_ fun m1 d2 =>
 asM (.sl (.imm true)) m1 <|
 .mat (slices_SortFunc_Matrix_i_spacesc1c1_4a50_F d2) fun r => .ret (slices_SortFunc_Matrix_i_spacesc1c1_4a50_out r)
noncomputable def slices_SortFunc_Matrix_i_spacesc1c1_4a50_c : Ctr := ⟨[0], fun ci => slices_SortFunc_Matrix_i_spacesc1c1_4a50_G ci.args ci.roots, true⟩
set_option maxRecDepth 100000 in
theorem slices_SortFunc_Matrix_i_spacesc1c1_4a50_ok : Contract Try.prog .none 63 slices_SortFunc_Matrix_i_spacesc1c1_4a50_c := by
 refine Contract.soften (e := kMatrix) (by kernel_rfl) slices_SortFunc_Matrix_i_spacesc1c1_3d5f_ok ?_
 rintro ⟨av, rs⟩ co h
 have h : (slices_SortFunc_Matrix_i_spacesc1c1_4a50_G av rs).run some = some co := h
 obtain ⟨a0_, av0, rfl, h_0⟩ := asCons_spec h
 obtain ⟨a1_, av1, rfl, h_1⟩ := asCons_spec h_0
 obtain ⟨rfl, h_2⟩ := asEnd_spec h_1
 obtain ⟨r0_, rs0, rfl, h_3⟩ := asCons_spec h_2
 obtain ⟨rfl, h_4⟩ := asEnd_spec h_3
 obtain ⟨rfl, h_5⟩ := asRef_spec h_4
 obtain ⟨rfl, h_6⟩ := asFn_spec h_5
 obtain ⟨m1, d2, rfl, h_7⟩ := asRt_spec h_6
 obtain ⟨rfl, h_8⟩ := asM_spec h_7
 obtain ⟨y, h1, h2⟩ := mat_ret h_8
 unfold slices_SortFunc_Matrix_i_spacesc1c1_4a50_F at h1
 obtain ⟨r, hr, rfl⟩ := Option.map_eq_some_iff.1 h1
 cases h2
 refine ⟨[], [(.fn 123 [])], (.sl (.imm true)), ⟨true, (.sl kMatrix), (.sl (.imm true)), d2⟩, d2, r, r, (.sl (.imm true)), .tnil, rfl, by kernel_rfl, ?_, .inr rfl, by kernel_rfl, by kernel_rfl, ?_, rfl⟩
 ·intro a ha; simp only [List.mem_cons, List.not_mem_nil, or_false] at ha; rcases ha with rfl <;> first | exact .inl ⟨_, _, _, rfl⟩ | exact .inr ⟨_, rfl⟩
 ·exact (run_some_mat (show slices_SortFunc_Matrix_i_spacesc1c1_3d5f_F d2 = _ from hr)).trans rfl
end Go.Proofs.Ythnkanacjhlhhaa

namespace Go.Proofs.Ythnkanacjhlhhaa
open Go Go.Abs Go.Proofs
noncomputable def i_spacesc1_c761 (p0 : (List TMatrix)) : Tre (List TMatrix) :=
 .mat (slices_SortFunc_Matrix_i_spacesc1c1_4a50_F p0) fun r1 =>
 .ret r1
noncomputable def i_spacesc1_c761_F (p0 : (List TMatrix)) : Option (List TMatrix) := (i_spacesc1_c761 p0).run some
noncomputable def i_spacesc1_c761_V : Env := ⟨tau, [(63, slices_SortFunc_Matrix_i_spacesc1c1_4a50_c)], [(1, [((0, 0), [], true)])]⟩
noncomputable def i_spacesc1_c761_b : Code := (Try.f122.body).getD .skip
noncomputable def i_spacesc1_c761_I : FnI := ⟨i_spacesc1_c761_b, Try.f122.results.toList, Try.f122.resultTypes.toList, []⟩
noncomputable def i_spacesc1_c761_out (_p0 : (List TMatrix)) : (List TMatrix) → CallOut := fun r => ⟨(.ref (0, 0) []), [⟨true, (.sl kMatrix), (.sl (.imm true)), r⟩], []⟩
set_option maxRecDepth 100000 in
theorem i_spacesc1_c761_eq : ∀ (p0 : (List TMatrix)), denFn i_spacesc1_c761_V i_spacesc1_c761_I ⟨[(.ptr (0, 0) [])], [⟨true, (.sl kMatrix), .own, p0⟩]⟩ = (i_spacesc1_c761 p0).run fun r => some (i_spacesc1_c761_out p0 r) := fun _ => by kernel_rfl
noncomputable def i_spacesc1_c761_G (av : List AV) (rs : List Root) : Tre CallOut :=
 asCons av fun a0_ av0 =>
 asEnd av0 <|
 asCons rs fun r0_ rs0 =>
 asEnd rs0 <|
 asPtr (0, 0) [] a0_ <|
 asRt true (.sl kMatrix) r0_ fun m1 d2 =>
 asM .own m1 <|
 .mat (i_spacesc1_c761_F d2) fun r => .ret (i_spacesc1_c761_out d2 r)
noncomputable def i_spacesc1_c761_c : Ctr := ⟨[], fun ci => i_spacesc1_c761_G ci.args ci.roots, false⟩
theorem i_spacesc1_c761_env : EnvOK Try.prog .none i_spacesc1_c761_V := (envOK_cons slices_SortFunc_Matrix_i_spacesc1c1_4a50_ok ent63 envOK_nil)
set_option maxRecDepth 100000 in
theorem i_spacesc1_c761_ok : Contract Try.prog .none 122 i_spacesc1_c761_c := by
 have hl : LoopsOK i_spacesc1_c761_V [] i_spacesc1_c761_b := loopsOK_nil (by kernel_rfl)
 refine (contract_of (F := i_spacesc1_c761_I) tau_tys i_spacesc1_c761_env Try.func122 (by kernel_rfl) (by kernel_rfl) (by kernel_rfl) hl []).weaken ?_
 rintro ⟨av, rs⟩ co h
 have h : (i_spacesc1_c761_G av rs).run some = some co := h
 obtain ⟨a0_, av0, rfl, h_0⟩ := asCons_spec h
 obtain ⟨rfl, h_1⟩ := asEnd_spec h_0
 obtain ⟨r0_, rs0, rfl, h_2⟩ := asCons_spec h_1
 obtain ⟨rfl, h_3⟩ := asEnd_spec h_2
 obtain ⟨rfl, h_4⟩ := asPtr_spec h_3
 obtain ⟨m1, d2, rfl, h_5⟩ := asRt_spec h_4
 obtain ⟨rfl, h_6⟩ := asM_spec h_5
 exact fin_mat (i_spacesc1_c761_eq d2) h_6
end Go.Proofs.Ythnkanacjhlhhaa

namespace Go.Proofs.Ythnkanacjhlhhaa
open Go Go.Abs Go.Proofs
noncomputable def i_lead_l2 (h2_0_0 : Int) : Int → Tre (Int ⊕ Int) := fun s2 =>
 .ite (0 ≤ s2) <|
 let v1 := iand .i64 (ishr .i64 h2_0_0 s2) 1
 .cond (decide (v1 = 0))
  (.ret (.inl (iwrap .i64 (s2 + 1))))
  (.ret (.inr s2))
noncomputable def i_lead (p0 : Int) : Tre Int :=
 .mat (loopF (i_lead_l2 p0) 0) fun l2 =>
 .ret l2
noncomputable def i_lead_F (p0 : Int) : Option Int := (i_lead p0).run some
noncomputable def i_lead_V : Env := ⟨tau, [], []⟩
noncomputable def i_lead_b : Code := (Try.f159.body).getD .skip
noncomputable def i_lead_l2_mk (h2_0_0 : Int) : Int → St := fun x => stOf [(0, (.imm true (.int .i64) h2_0_0)), (3, (.imm true (.int .i64) x))] []
noncomputable def i_lead_l2_out (_h2_0_0 : Int) : Int → Ex × St := fun x => (.exit 0, stOf [(3, (.imm true (.int .i64) x))] [])
noncomputable def i_lead_l2_D (s : St) : Tre (Ex × St) :=
 asImmZ true (.int .i64) (s.tmps 0) fun d2 =>
 asImmZ true (.int .i64) (s.tmps 3) fun d4 =>
 .mat (loopF (i_lead_l2 d2) d4) fun x => .ret (i_lead_l2_out d2 x)
noncomputable def i_lead_l2_L : LoopI := ⟨([0, 3], []), ([3], []), i_lead_l2_D⟩
noncomputable def i_lead_A : List (Nat × LoopI) := [(2, i_lead_l2_L)]
set_option maxRecDepth 100000 in
theorem i_lead_l2_step : ∀ (h2_0_0 : Int) (x : Int) (c : St → Option (Ex × St)), den i_lead_V i_lead_A (loopAt i_lead_b 0) (i_lead_l2_mk h2_0_0 x) (roundK i_lead_l2_L.kp i_lead_l2_L.kx c) = (i_lead_l2 h2_0_0 x).run (roundR (i_lead_l2_mk h2_0_0) (i_lead_l2_out h2_0_0) c) := fun _ _ _ => by
 kernel_rfl
theorem i_lead_l2_ok : LoopOK i_lead_V i_lead_A (loopAt i_lead_b 0) i_lead_l2_L := loopOK_of fun s e s' h => by
 generalize hs : restrict i_lead_l2_L.kp s = s1 at h
 have h : (i_lead_l2_D s1).run some = some (e, s') := h
 obtain ⟨d2, e1, h_0⟩ := asImmZ_spec h
 obtain ⟨d4, e3, h_1⟩ := asImmZ_spec h_0
 obtain ⟨y, hy, hz⟩ := mat_ret h_1
 refine ⟨_, _, i_lead_l2_mk d2, i_lead_l2_out d2, i_lead_l2 d2, d4, y, ?_, hy, ?_, i_lead_l2_step d2⟩
 ·subst hs; exact restrict_eq (T := [(0, (.imm true (.int .i64) d2)), (3, (.imm true (.int .i64) d4))]) (U := []) rfl rfl ⟨e1, e3, trivial⟩ trivial
 ·exact Option.some.inj hz
noncomputable def i_lead_I : FnI := ⟨i_lead_b, Try.f159.results.toList, Try.f159.resultTypes.toList, i_lead_A⟩
noncomputable def i_lead_out (_p0 : Int) : Int → CallOut := fun r => ⟨(.imm true (.int .i64) r), [], []⟩
set_option maxRecDepth 100000 in
theorem i_lead_eq : ∀ (p0 : Int), denFn i_lead_V i_lead_I ⟨[(.imm true (.int .i64) p0)], []⟩ = (i_lead p0).run fun r => some (i_lead_out p0 r) := fun _ => by kernel_rfl
noncomputable def i_lead_G (av : List AV) (rs : List Root) : Tre CallOut :=
 asCons av fun a0_ av0 =>
 asEnd av0 <|
 asEnd rs <|
 asImmZ true (.int .i64) a0_ fun d1 =>
 .mat (i_lead_F d1) fun r => .ret (i_lead_out d1 r)
noncomputable def i_lead_c : Ctr := ⟨[], fun ci => i_lead_G ci.args ci.roots, false⟩
theorem i_lead_env : EnvOK Try.prog .none i_lead_V := envOK_nil
set_option maxRecDepth 100000 in
theorem i_lead_ok : Contract Try.prog .none 159 i_lead_c := by
 have hl : LoopsOK i_lead_V i_lead_A i_lead_b := (loopsOK_all (n := 1) (by kernel_rfl) fun k hk => by
   match k, hk with
   | 0, _ => exact loopOK_at (id := 2) (L := i_lead_l2_L) (by kernel_rfl) (by kernel_rfl) i_lead_l2_ok)
 refine (contract_of (F := i_lead_I) tau_tys i_lead_env Try.func159 (by kernel_rfl) (by kernel_rfl) (by kernel_rfl) hl []).weaken ?_
 rintro ⟨av, rs⟩ co h
 have h : (i_lead_G av rs).run some = some co := h
 obtain ⟨a0_, av0, rfl, h_0⟩ := asCons_spec h
 obtain ⟨rfl, h_1⟩ := asEnd_spec h_0
 obtain ⟨rfl, h_2⟩ := asEnd_spec h_1
 obtain ⟨d1, rfl, h_3⟩ := asImmZ_spec h_2
 exact fin_mat (i_lead_eq d1) h_3
end Go.Proofs.Ythnkanacjhlhhaa

namespace Go.Proofs.Ythnkanacjhlhhaa
open Go Go.Abs Go.Proofs
noncomputable def i_Matrix_form (p0 : TMatrix) : Tre (Int × (List Int)) :=
 .mat (i_echelon_F p0.2.1) fun r1 =>
 .ret (p0.1, r1)
noncomputable def i_Matrix_form_F (p0 : TMatrix) : Option (Int × (List Int)) := (i_Matrix_form p0).run some
noncomputable def i_Matrix_form_V : Env := ⟨tau, [(62, i_echelon_c)], []⟩
noncomputable def i_Matrix_form_b : Code := (Try.f160.body).getD .skip
noncomputable def i_Matrix_form_I : FnI := ⟨i_Matrix_form_b, Try.f160.results.toList, Try.f160.resultTypes.toList, []⟩
noncomputable def i_Matrix_form_out (_zp0 : Bool) (_p0 : TMatrix) : (Int × (List Int)) → CallOut := fun r => ⟨(.pair (.imm true (.int .i64) r.1) (.pair (.ref (1, 0) []) (.imm true .unit ()))), [], [⟨false, (.sl (.int .i64)), .own, r.2⟩]⟩
set_option maxRecDepth 100000 in
theorem i_Matrix_form_eq : ∀ (zp0 : Bool) (p0 : TMatrix), denFn i_Matrix_form_V i_Matrix_form_I ⟨[(.imm zp0 kMatrix p0)], []⟩ = (i_Matrix_form p0).run fun r => some (i_Matrix_form_out zp0 p0 r) := fun _ _ => by kernel_rfl
noncomputable def i_Matrix_form_G (av : List AV) (rs : List Root) : Tre CallOut :=
 asCons av fun a0_ av0 =>
 asEnd av0 <|
 asEnd rs <|
 asImm kMatrix a0_ fun z2 d1 =>
 .mat (i_Matrix_form_F d1) fun r => .ret (i_Matrix_form_out z2 d1 r)
noncomputable def i_Matrix_form_c : Ctr := ⟨[], fun ci => i_Matrix_form_G ci.args ci.roots, false⟩
theorem i_Matrix_form_env : EnvOK Try.prog .none i_Matrix_form_V := (envOK_cons i_echelon_ok ent62 envOK_nil)
set_option maxRecDepth 100000 in
theorem i_Matrix_form_ok : Contract Try.prog .none 160 i_Matrix_form_c := by
 have hl : LoopsOK i_Matrix_form_V [] i_Matrix_form_b := loopsOK_nil (by kernel_rfl)
 refine (contract_of (F := i_Matrix_form_I) tau_tys i_Matrix_form_env Try.func160 (by kernel_rfl) (by kernel_rfl) (by kernel_rfl) hl []).weaken ?_
 rintro ⟨av, rs⟩ co h
 have h : (i_Matrix_form_G av rs).run some = some co := h
 obtain ⟨a0_, av0, rfl, h_0⟩ := asCons_spec h
 obtain ⟨rfl, h_1⟩ := asEnd_spec h_0
 obtain ⟨rfl, h_2⟩ := asEnd_spec h_1
 obtain ⟨z2, d1, rfl, h_3⟩ := asImm_spec h_2
 exact fin_mat (i_Matrix_form_eq z2 d1) h_3
end Go.Proofs.Ythnkanacjhlhhaa

namespace Go.Proofs.Ythnkanacjhlhhaa
open Go Go.Abs Go.Proofs
noncomputable def i_Matrix_kernel_l3 (h3_0_1 : Int) (h3_0_5 : (List Int)) : (Int × Int) → Tre ((Int × Int) ⊕ Int) := fun s3 =>
 .cond (decide (s3.2 < h3_0_1))
  (.ite (0 ≤ s3.2 ∧ s3.2 < (h3_0_5.length : Int)) <|
  .mat (h3_0_5[s3.2.toNat]?) fun x2 =>
  .mat (i_lead_F x2) fun r3 =>
  .ite (0 ≤ r3) <|
  let v4 := ior .i64 s3.1 (ishl .i64 1 r3)
  .ret (.inl (v4, iwrap .i64 (s3.2 + 1))))
  (.ret (.inr s3.1))
noncomputable def i_Matrix_kernel_l14 (h14_0_1 : Int) (h14_0_5 : Int) (h14_0_8 : (List Int)) : (Int × Int) → Tre ((Int × Int) ⊕ Int) := fun s14 =>
 .cond (decide (s14.2 < h14_0_5))
  (.ite (0 ≤ s14.2 ∧ s14.2 < (h14_0_8.length : Int)) <|
  .mat (h14_0_8[s14.2.toNat]?) fun x7 =>
  .ite (0 ≤ h14_0_1) <|
  let v8 := iand .i64 (ishr .i64 x7 h14_0_1) 1
  .cond (decide (v8 = 1))
   (.mat (i_lead_F x7) fun r9 =>
   .ite (0 ≤ r9) <|
   let v10 := ior .i64 s14.1 (ishl .i64 1 r9)
   .ret (.inl (v10, iwrap .i64 (s14.2 + 1))))
   (.ret (.inl (s14.1, iwrap .i64 (s14.2 + 1)))))
  (.ret (.inr s14.1))
noncomputable def i_Matrix_kernel_l9 (h9_0_0 : Int) (h9_0_1 : Int) (h9_0_4 : (List Int)) : (Int × TMatrix) → Tre ((Int × TMatrix) ⊕ TMatrix) := fun s9 =>
 .cond (decide (s9.1 < h9_0_1))
  (.ite (0 ≤ s9.1) <|
  let v6 := iand .i64 (ishr .i64 h9_0_0 s9.1) 1
  .cond (decide (v6 = 1))
   (.ret (.inl (iwrap .i64 (s9.1 + 1), s9.2)))
   (.ite (0 ≤ s9.1) <|
   .mat (loopF (i_Matrix_kernel_l14 s9.1 (h9_0_4.length : Int) h9_0_4) (ishl .i64 1 s9.1, 0)) fun l11 =>
   .ite ((s9.2.2.1.length + 1) * 8 ≤ appendMax ∧ 1 ≤ 8) <|
   .ret (.inl (iwrap .i64 (s9.1 + 1), (s9.2.1, (s9.2.2.1 ++ ([l11]), s9.2.2.2))))))
  (.ret (.inr s9.2))
noncomputable def i_Matrix_kernel (p0 : TMatrix) : Tre (Int × (List Int)) :=
 .mat (i_echelon_F p0.2.1) fun r1 =>
 .mat (loopF (i_Matrix_kernel_l3 (r1.length : Int) r1) (0, 0)) fun l5 =>
 .mat (loopF (i_Matrix_kernel_l9 l5 p0.1 r1) (0, (p0.1, ([], ())))) fun l12 =>
 .mat (i_Matrix_form_F l12) fun r13 =>
 .ret (r13.1, r13.2)
noncomputable def i_Matrix_kernel_F (p0 : TMatrix) : Option (Int × (List Int)) := (i_Matrix_kernel p0).run some
noncomputable def i_Matrix_kernel_V : Env := ⟨tau, [(62, i_echelon_c), (159, i_lead_c), (160, i_Matrix_form_c)], []⟩
noncomputable def i_Matrix_kernel_b : Code := (Try.f124.body).getD .skip
noncomputable def i_Matrix_kernel_l3_mk (z3_0 : Bool) (h3_0_1 : Int) (h3_0_3 : TMatrix) (h3_0_4 : TMatrix) (h3_0_5 : (List Int)) : (Int × Int) → St := fun x => stOf [(1, (.ptr (3, 0) [])), (2, (.ptr (4, 0) [])), (3, (.ref (5, 0) [])), (4, (.imm true (.int .i64) x.1)), (15, (.ref (5, 0) [])), (16, (.imm true (.int .i64) h3_0_1)), (17, (.imm true (.int .i64) x.2))] [((3, 0), some ⟨true, kMatrix, (.imm z3_0), h3_0_3⟩), ((4, 0), some ⟨true, kMatrix, .own, h3_0_4⟩), ((5, 0), some ⟨false, (.sl (.int .i64)), .own, h3_0_5⟩)]
noncomputable def i_Matrix_kernel_l3_out (z3_0 : Bool) (_h3_0_1 : Int) (h3_0_3 : TMatrix) (h3_0_4 : TMatrix) (h3_0_5 : (List Int)) : Int → Ex × St := fun x => (.exit 0, stOf [(1, (.ptr (3, 0) [])), (2, (.ptr (4, 0) [])), (3, (.ref (5, 0) [])), (4, (.imm true (.int .i64) x))] [((3, 0), some ⟨true, kMatrix, (.imm z3_0), h3_0_3⟩), ((4, 0), some ⟨true, kMatrix, .own, h3_0_4⟩), ((5, 0), some ⟨false, (.sl (.int .i64)), .own, h3_0_5⟩)])
noncomputable def i_Matrix_kernel_l3_D (s : St) : Tre (Ex × St) :=
 asPtr (3, 0) [] (s.tmps 1) <|
 asPtr (4, 0) [] (s.tmps 2) <|
 asRef (5, 0) [] (s.tmps 3) <|
 asImmZ true (.int .i64) (s.tmps 4) fun d5 =>
 asRef (5, 0) [] (s.tmps 15) <|
 asImmZ true (.int .i64) (s.tmps 16) fun d8 =>
 asImmZ true (.int .i64) (s.tmps 17) fun d10 =>
 asRoot true kMatrix (s.roots (3, 0)) fun m12 d13 =>
 asMImm m12 fun z14 =>
 asRoot true kMatrix (s.roots (4, 0)) fun m16 d17 =>
 asM .own m16 <|
 asRoot false (.sl (.int .i64)) (s.roots (5, 0)) fun m19 d20 =>
 asM .own m19 <|
 .mat (loopF (i_Matrix_kernel_l3 d8 d20) (d5, d10)) fun x => .ret (i_Matrix_kernel_l3_out z14 d8 d13 d17 d20 x)
noncomputable def i_Matrix_kernel_l3_L : LoopI := ⟨([1, 2, 3, 4, 15, 16, 17], [(3, 0), (4, 0), (5, 0)]), ([1, 2, 3, 4], [(3, 0), (4, 0), (5, 0)]), i_Matrix_kernel_l3_D⟩
noncomputable def i_Matrix_kernel_l14_mk (h14_0_0 : Int) (h14_0_1 : Int) (h14_0_3 : Int) (h14_0_4 : Int) (h14_0_5 : Int) (h14_0_7 : TMatrix) (h14_0_8 : (List Int)) (h14_0_9 : TMatrix) : (Int × Int) → St := fun x => stOf [(2, (.ptr (4, 0) [])), (3, (.ref (5, 0) [])), (4, (.imm true (.int .i64) h14_0_0)), (7, (.ptr (9, 0) [])), (8, (.imm true (.int .i64) h14_0_1)), (9, (.imm true (.int .i64) x.1)), (31, (.imm true (.int .i64) h14_0_3)), (32, (.imm true (.int .i64) h14_0_4)), (42, (.ref (5, 0) [])), (43, (.imm true (.int .i64) h14_0_5)), (44, (.imm true (.int .i64) x.2))] [((4, 0), some ⟨true, kMatrix, .own, h14_0_7⟩), ((5, 0), some ⟨false, (.sl (.int .i64)), .own, h14_0_8⟩), ((9, 0), some ⟨true, kMatrix, .own, h14_0_9⟩)]
noncomputable def i_Matrix_kernel_l14_out (h14_0_0 : Int) (_h14_0_1 : Int) (h14_0_3 : Int) (h14_0_4 : Int) (_h14_0_5 : Int) (h14_0_7 : TMatrix) (h14_0_8 : (List Int)) (h14_0_9 : TMatrix) : Int → Ex × St := fun x => (.exit 4, stOf [(2, (.ptr (4, 0) [])), (3, (.ref (5, 0) [])), (4, (.imm true (.int .i64) h14_0_0)), (7, (.ptr (9, 0) [])), (9, (.imm true (.int .i64) x)), (31, (.imm true (.int .i64) h14_0_3)), (32, (.imm true (.int .i64) h14_0_4))] [((4, 0), some ⟨true, kMatrix, .own, h14_0_7⟩), ((5, 0), some ⟨false, (.sl (.int .i64)), .own, h14_0_8⟩), ((9, 0), some ⟨true, kMatrix, .own, h14_0_9⟩)])
noncomputable def i_Matrix_kernel_l14_D (s : St) : Tre (Ex × St) :=
 asPtr (4, 0) [] (s.tmps 2) <|
 asRef (5, 0) [] (s.tmps 3) <|
 asImmZ true (.int .i64) (s.tmps 4) fun d4 =>
 asPtr (9, 0) [] (s.tmps 7) <|
 asImmZ true (.int .i64) (s.tmps 8) fun d7 =>
 asImmZ true (.int .i64) (s.tmps 9) fun d9 =>
 asImmZ true (.int .i64) (s.tmps 31) fun d11 =>
 asImmZ true (.int .i64) (s.tmps 32) fun d13 =>
 asRef (5, 0) [] (s.tmps 42) <|
 asImmZ true (.int .i64) (s.tmps 43) fun d16 =>
 asImmZ true (.int .i64) (s.tmps 44) fun d18 =>
 asRoot true kMatrix (s.roots (4, 0)) fun m20 d21 =>
 asM .own m20 <|
 asRoot false (.sl (.int .i64)) (s.roots (5, 0)) fun m23 d24 =>
 asM .own m23 <|
 asRoot true kMatrix (s.roots (9, 0)) fun m26 d27 =>
 asM .own m26 <|
 .mat (loopF (i_Matrix_kernel_l14 d7 d16 d24) (d9, d18)) fun x => .ret (i_Matrix_kernel_l14_out d4 d7 d11 d13 d16 d21 d24 d27 x)
noncomputable def i_Matrix_kernel_l14_L : LoopI := ⟨([2, 3, 4, 7, 8, 9, 31, 32, 42, 43, 44], [(4, 0), (5, 0), (9, 0)]), ([2, 3, 4, 7, 9, 31, 32], [(4, 0), (5, 0), (9, 0)]), i_Matrix_kernel_l14_D⟩
noncomputable def i_Matrix_kernel_l9_mk (h9_0_0 : Int) (h9_0_1 : Int) (h9_0_3 : TMatrix) (h9_0_4 : (List Int)) : (Int × TMatrix) → St := fun x => stOf [(2, (.ptr (4, 0) [])), (3, (.ref (5, 0) [])), (4, (.imm true (.int .i64) h9_0_0)), (7, (.ptr (9, 0) [])), (31, (.imm true (.int .i64) h9_0_1)), (32, (.imm true (.int .i64) x.1))] [((4, 0), some ⟨true, kMatrix, .own, h9_0_3⟩), ((5, 0), some ⟨false, (.sl (.int .i64)), .own, h9_0_4⟩), ((9, 0), some ⟨true, kMatrix, .own, x.2⟩)]
noncomputable def i_Matrix_kernel_l9_out (_h9_0_0 : Int) (_h9_0_1 : Int) (h9_0_3 : TMatrix) (_h9_0_4 : (List Int)) : TMatrix → Ex × St := fun x => (.exit 2, stOf [(2, (.ptr (4, 0) [])), (7, (.ptr (9, 0) []))] [((4, 0), some ⟨true, kMatrix, .own, h9_0_3⟩), ((9, 0), some ⟨true, kMatrix, .own, x⟩)])
noncomputable def i_Matrix_kernel_l9_D (s : St) : Tre (Ex × St) :=
 asPtr (4, 0) [] (s.tmps 2) <|
 asRef (5, 0) [] (s.tmps 3) <|
 asImmZ true (.int .i64) (s.tmps 4) fun d4 =>
 asPtr (9, 0) [] (s.tmps 7) <|
 asImmZ true (.int .i64) (s.tmps 31) fun d7 =>
 asImmZ true (.int .i64) (s.tmps 32) fun d9 =>
 asRoot true kMatrix (s.roots (4, 0)) fun m11 d12 =>
 asM .own m11 <|
 asRoot false (.sl (.int .i64)) (s.roots (5, 0)) fun m14 d15 =>
 asM .own m14 <|
 asRoot true kMatrix (s.roots (9, 0)) fun m17 d18 =>
 asM .own m17 <|
 .mat (loopF (i_Matrix_kernel_l9 d4 d7 d15) (d9, d18)) fun x => .ret (i_Matrix_kernel_l9_out d4 d7 d12 d15 x)
noncomputable def i_Matrix_kernel_l9_L : LoopI := ⟨([2, 3, 4, 7, 31, 32], [(4, 0), (5, 0), (9, 0)]), ([2, 7], [(4, 0), (9, 0)]), i_Matrix_kernel_l9_D⟩
noncomputable def i_Matrix_kernel_A : List (Nat × LoopI) := [(3, i_Matrix_kernel_l3_L), (14, i_Matrix_kernel_l14_L), (9, i_Matrix_kernel_l9_L)]
set_option maxRecDepth 100000 in
theorem i_Matrix_kernel_l3_step : ∀ (z3_0 : Bool) (h3_0_1 : Int) (h3_0_3 : TMatrix) (h3_0_4 : TMatrix) (h3_0_5 : (List Int)) (x : (Int × Int)) (c : St → Option (Ex × St)), den i_Matrix_kernel_V i_Matrix_kernel_A (loopAt i_Matrix_kernel_b 0) (i_Matrix_kernel_l3_mk z3_0 h3_0_1 h3_0_3 h3_0_4 h3_0_5 x) (roundK i_Matrix_kernel_l3_L.kp i_Matrix_kernel_l3_L.kx c) = (i_Matrix_kernel_l3 h3_0_1 h3_0_5 x).run (roundR (i_Matrix_kernel_l3_mk z3_0 h3_0_1 h3_0_3 h3_0_4 h3_0_5) (i_Matrix_kernel_l3_out z3_0 h3_0_1 h3_0_3 h3_0_4 h3_0_5) c) := fun _ _ _ _ _ _ _ => by
 kernel_rfl
theorem i_Matrix_kernel_l3_ok : LoopOK i_Matrix_kernel_V i_Matrix_kernel_A (loopAt i_Matrix_kernel_b 0) i_Matrix_kernel_l3_L := loopOK_of fun s e s' h => by
 generalize hs : restrict i_Matrix_kernel_l3_L.kp s = s1 at h
 have h : (i_Matrix_kernel_l3_D s1).run some = some (e, s') := h
 obtain ⟨e1, h_0⟩ := asPtr_spec h
 obtain ⟨e2, h_1⟩ := asPtr_spec h_0
 obtain ⟨e3, h_2⟩ := asRef_spec h_1
 obtain ⟨d5, e4, h_3⟩ := asImmZ_spec h_2
 obtain ⟨e6, h_4⟩ := asRef_spec h_3
 obtain ⟨d8, e7, h_5⟩ := asImmZ_spec h_4
 obtain ⟨d10, e9, h_6⟩ := asImmZ_spec h_5
 obtain ⟨m12, d13, e11, h_7⟩ := asRoot_spec h_6
 obtain ⟨z14, rfl, h_8⟩ := asMImm_spec h_7
 obtain ⟨m16, d17, e15, h_9⟩ := asRoot_spec h_8
 obtain ⟨rfl, h_10⟩ := asM_spec h_9
 obtain ⟨m19, d20, e18, h_11⟩ := asRoot_spec h_10
 obtain ⟨rfl, h_12⟩ := asM_spec h_11
 obtain ⟨y, hy, hz⟩ := mat_ret h_12
 refine ⟨_, _, i_Matrix_kernel_l3_mk z14 d8 d13 d17 d20, i_Matrix_kernel_l3_out z14 d8 d13 d17 d20, i_Matrix_kernel_l3 d8 d20, (d5, d10), y, ?_, hy, ?_, i_Matrix_kernel_l3_step z14 d8 d13 d17 d20⟩
 ·subst hs; exact restrict_eq (T := [(1, (.ptr (3, 0) [])), (2, (.ptr (4, 0) [])), (3, (.ref (5, 0) [])), (4, (.imm true (.int .i64) d5)), (15, (.ref (5, 0) [])), (16, (.imm true (.int .i64) d8)), (17, (.imm true (.int .i64) d10))]) (U := [((3, 0), some ⟨true, kMatrix, (.imm z14), d13⟩), ((4, 0), some ⟨true, kMatrix, .own, d17⟩), ((5, 0), some ⟨false, (.sl (.int .i64)), .own, d20⟩)]) rfl rfl ⟨e1, e2, e3, e4, e6, e7, e9, trivial⟩ ⟨e11, e15, e18, trivial⟩
 ·exact Option.some.inj hz
set_option maxRecDepth 100000 in
theorem i_Matrix_kernel_l14_step : ∀ (h14_0_0 : Int) (h14_0_1 : Int) (h14_0_3 : Int) (h14_0_4 : Int) (h14_0_5 : Int) (h14_0_7 : TMatrix) (h14_0_8 : (List Int)) (h14_0_9 : TMatrix) (x : (Int × Int)) (c : St → Option (Ex × St)), den i_Matrix_kernel_V i_Matrix_kernel_A (loopAt i_Matrix_kernel_b 2) (i_Matrix_kernel_l14_mk h14_0_0 h14_0_1 h14_0_3 h14_0_4 h14_0_5 h14_0_7 h14_0_8 h14_0_9 x) (roundK i_Matrix_kernel_l14_L.kp i_Matrix_kernel_l14_L.kx c) = (i_Matrix_kernel_l14 h14_0_1 h14_0_5 h14_0_8 x).run (roundR (i_Matrix_kernel_l14_mk h14_0_0 h14_0_1 h14_0_3 h14_0_4 h14_0_5 h14_0_7 h14_0_8 h14_0_9) (i_Matrix_kernel_l14_out h14_0_0 h14_0_1 h14_0_3 h14_0_4 h14_0_5 h14_0_7 h14_0_8 h14_0_9) c) := fun _ _ _ _ _ _ _ _ _ _ => by
 kernel_rfl
theorem i_Matrix_kernel_l14_ok : LoopOK i_Matrix_kernel_V i_Matrix_kernel_A (loopAt i_Matrix_kernel_b 2) i_Matrix_kernel_l14_L := loopOK_of fun s e s' h => by
 generalize hs : restrict i_Matrix_kernel_l14_L.kp s = s1 at h
 have h : (i_Matrix_kernel_l14_D s1).run some = some (e, s') := h
 obtain ⟨e1, h_0⟩ := asPtr_spec h
 obtain ⟨e2, h_1⟩ := asRef_spec h_0
 obtain ⟨d4, e3, h_2⟩ := asImmZ_spec h_1
 obtain ⟨e5, h_3⟩ := asPtr_spec h_2
 obtain ⟨d7, e6, h_4⟩ := asImmZ_spec h_3
 obtain ⟨d9, e8, h_5⟩ := asImmZ_spec h_4
 obtain ⟨d11, e10, h_6⟩ := asImmZ_spec h_5
 obtain ⟨d13, e12, h_7⟩ := asImmZ_spec h_6
 obtain ⟨e14, h_8⟩ := asRef_spec h_7
 obtain ⟨d16, e15, h_9⟩ := asImmZ_spec h_8
 obtain ⟨d18, e17, h_10⟩ := asImmZ_spec h_9
 obtain ⟨m20, d21, e19, h_11⟩ := asRoot_spec h_10
 obtain ⟨rfl, h_12⟩ := asM_spec h_11
 obtain ⟨m23, d24, e22, h_13⟩ := asRoot_spec h_12
 obtain ⟨rfl, h_14⟩ := asM_spec h_13
 obtain ⟨m26, d27, e25, h_15⟩ := asRoot_spec h_14
 obtain ⟨rfl, h_16⟩ := asM_spec h_15
 obtain ⟨y, hy, hz⟩ := mat_ret h_16
 refine ⟨_, _, i_Matrix_kernel_l14_mk d4 d7 d11 d13 d16 d21 d24 d27, i_Matrix_kernel_l14_out d4 d7 d11 d13 d16 d21 d24 d27, i_Matrix_kernel_l14 d7 d16 d24, (d9, d18), y, ?_, hy, ?_, i_Matrix_kernel_l14_step d4 d7 d11 d13 d16 d21 d24 d27⟩
 ·subst hs; exact restrict_eq (T := [(2, (.ptr (4, 0) [])), (3, (.ref (5, 0) [])), (4, (.imm true (.int .i64) d4)), (7, (.ptr (9, 0) [])), (8, (.imm true (.int .i64) d7)), (9, (.imm true (.int .i64) d9)), (31, (.imm true (.int .i64) d11)), (32, (.imm true (.int .i64) d13)), (42, (.ref (5, 0) [])), (43, (.imm true (.int .i64) d16)), (44, (.imm true (.int .i64) d18))]) (U := [((4, 0), some ⟨true, kMatrix, .own, d21⟩), ((5, 0), some ⟨false, (.sl (.int .i64)), .own, d24⟩), ((9, 0), some ⟨true, kMatrix, .own, d27⟩)]) rfl rfl ⟨e1, e2, e3, e5, e6, e8, e10, e12, e14, e15, e17, trivial⟩ ⟨e19, e22, e25, trivial⟩
 ·exact Option.some.inj hz
set_option maxRecDepth 100000 in
theorem i_Matrix_kernel_l9_step : ∀ (h9_0_0 : Int) (h9_0_1 : Int) (h9_0_3 : TMatrix) (h9_0_4 : (List Int)) (x : (Int × TMatrix)) (c : St → Option (Ex × St)), den i_Matrix_kernel_V i_Matrix_kernel_A (loopAt i_Matrix_kernel_b 1) (i_Matrix_kernel_l9_mk h9_0_0 h9_0_1 h9_0_3 h9_0_4 x) (roundK i_Matrix_kernel_l9_L.kp i_Matrix_kernel_l9_L.kx c) = (i_Matrix_kernel_l9 h9_0_0 h9_0_1 h9_0_4 x).run (roundR (i_Matrix_kernel_l9_mk h9_0_0 h9_0_1 h9_0_3 h9_0_4) (i_Matrix_kernel_l9_out h9_0_0 h9_0_1 h9_0_3 h9_0_4) c) := fun _ _ _ _ _ _ => by
 kernel_rfl
theorem i_Matrix_kernel_l9_ok : LoopOK i_Matrix_kernel_V i_Matrix_kernel_A (loopAt i_Matrix_kernel_b 1) i_Matrix_kernel_l9_L := loopOK_of fun s e s' h => by
 generalize hs : restrict i_Matrix_kernel_l9_L.kp s = s1 at h
 have h : (i_Matrix_kernel_l9_D s1).run some = some (e, s') := h
 obtain ⟨e1, h_0⟩ := asPtr_spec h
 obtain ⟨e2, h_1⟩ := asRef_spec h_0
 obtain ⟨d4, e3, h_2⟩ := asImmZ_spec h_1
 obtain ⟨e5, h_3⟩ := asPtr_spec h_2
 obtain ⟨d7, e6, h_4⟩ := asImmZ_spec h_3
 obtain ⟨d9, e8, h_5⟩ := asImmZ_spec h_4
 obtain ⟨m11, d12, e10, h_6⟩ := asRoot_spec h_5
 obtain ⟨rfl, h_7⟩ := asM_spec h_6
 obtain ⟨m14, d15, e13, h_8⟩ := asRoot_spec h_7
 obtain ⟨rfl, h_9⟩ := asM_spec h_8
 obtain ⟨m17, d18, e16, h_10⟩ := asRoot_spec h_9
 obtain ⟨rfl, h_11⟩ := asM_spec h_10
 obtain ⟨y, hy, hz⟩ := mat_ret h_11
 refine ⟨_, _, i_Matrix_kernel_l9_mk d4 d7 d12 d15, i_Matrix_kernel_l9_out d4 d7 d12 d15, i_Matrix_kernel_l9 d4 d7 d15, (d9, d18), y, ?_, hy, ?_, i_Matrix_kernel_l9_step d4 d7 d12 d15⟩
 ·subst hs; exact restrict_eq (T := [(2, (.ptr (4, 0) [])), (3, (.ref (5, 0) [])), (4, (.imm true (.int .i64) d4)), (7, (.ptr (9, 0) [])), (31, (.imm true (.int .i64) d7)), (32, (.imm true (.int .i64) d9))]) (U := [((4, 0), some ⟨true, kMatrix, .own, d12⟩), ((5, 0), some ⟨false, (.sl (.int .i64)), .own, d15⟩), ((9, 0), some ⟨true, kMatrix, .own, d18⟩)]) rfl rfl ⟨e1, e2, e3, e5, e6, e8, trivial⟩ ⟨e10, e13, e16, trivial⟩
 ·exact Option.some.inj hz
noncomputable def i_Matrix_kernel_I : FnI := ⟨i_Matrix_kernel_b, Try.f124.results.toList, Try.f124.resultTypes.toList, i_Matrix_kernel_A⟩
noncomputable def i_Matrix_kernel_out (_zp0 : Bool) (_p0 : TMatrix) : (Int × (List Int)) → CallOut := fun r => ⟨(.pair (.imm true (.int .i64) r.1) (.pair (.ref (1, 0) []) (.imm true .unit ()))), [], [⟨false, (.sl (.int .i64)), .own, r.2⟩]⟩
set_option maxRecDepth 100000 in
theorem i_Matrix_kernel_eq : ∀ (zp0 : Bool) (p0 : TMatrix), denFn i_Matrix_kernel_V i_Matrix_kernel_I ⟨[(.imm zp0 kMatrix p0)], []⟩ = (i_Matrix_kernel p0).run fun r => some (i_Matrix_kernel_out zp0 p0 r) := fun _ _ => by kernel_rfl
noncomputable def i_Matrix_kernel_G (av : List AV) (rs : List Root) : Tre CallOut :=
 asCons av fun a0_ av0 =>
 asEnd av0 <|
 asEnd rs <|
 asImm kMatrix a0_ fun z2 d1 =>
 .mat (i_Matrix_kernel_F d1) fun r => .ret (i_Matrix_kernel_out z2 d1 r)
noncomputable def i_Matrix_kernel_c : Ctr := ⟨[], fun ci => i_Matrix_kernel_G ci.args ci.roots, false⟩
theorem i_Matrix_kernel_env : EnvOK Try.prog .none i_Matrix_kernel_V := (envOK_cons i_echelon_ok ent62 (envOK_cons i_lead_ok ent159 (envOK_cons i_Matrix_form_ok ent160 envOK_nil)))
set_option maxRecDepth 100000 in
theorem i_Matrix_kernel_ok : Contract Try.prog .none 124 i_Matrix_kernel_c := by
 have hl : LoopsOK i_Matrix_kernel_V i_Matrix_kernel_A i_Matrix_kernel_b := (loopsOK_all (n := 3) (by kernel_rfl) fun k hk => by
   match k, hk with
   | 0, _ => exact loopOK_at (id := 3) (L := i_Matrix_kernel_l3_L) (by kernel_rfl) (by kernel_rfl) i_Matrix_kernel_l3_ok
   | 1, _ => exact loopOK_at (id := 9) (L := i_Matrix_kernel_l9_L) (by kernel_rfl) (by kernel_rfl) i_Matrix_kernel_l9_ok
   | 2, _ => exact loopOK_at (id := 14) (L := i_Matrix_kernel_l14_L) (by kernel_rfl) (by kernel_rfl) i_Matrix_kernel_l14_ok)
 refine (contract_of (F := i_Matrix_kernel_I) tau_tys i_Matrix_kernel_env Try.func124 (by kernel_rfl) (by kernel_rfl) (by kernel_rfl) hl []).weaken ?_
 rintro ⟨av, rs⟩ co h
 have h : (i_Matrix_kernel_G av rs).run some = some co := h
 obtain ⟨a0_, av0, rfl, h_0⟩ := asCons_spec h
 obtain ⟨rfl, h_1⟩ := asEnd_spec h_0
 obtain ⟨rfl, h_2⟩ := asEnd_spec h_1
 obtain ⟨z2, d1, rfl, h_3⟩ := asImm_spec h_2
 exact fin_mat (i_Matrix_kernel_eq z2 d1) h_3
end Go.Proofs.Ythnkanacjhlhhaa

namespace Go.Proofs.Ythnkanacjhlhhaa
open Go Go.Abs Go.Proofs
noncomputable def i_spaces_l5 (_g_ : Int → Int → Option (List TMatrix)) (h5_0_0 : Int) (h5_0_3 : (List TMatrix)) : (Int × (List TMatrix)) → Tre ((Int × (List TMatrix)) ⊕ (List TMatrix)) := fun s5 =>
 .cond (decide (s5.1 < h5_0_0))
  (.ite (0 ≤ s5.1 ∧ s5.1 < (h5_0_3.length : Int)) <|
  .mat (h5_0_3[s5.1.toNat]?) fun x2 =>
  .mat (i_Matrix_kernel_F x2) fun r3 =>
  .ite ((s5.2.length + 1) * 32 ≤ appendMax ∧ 1 ≤ 32) <|
  let v4 := s5.2 ++ ([(r3.1, (r3.2, ()))])
  .ret (.inl (iwrap .i64 (s5.1 + 1), v4)))
  (.ret (.inr s5.2))
noncomputable def i_spaces (g_ : Int → Int → Option (List TMatrix)) (p0 : Int) (p1 : Int) : Tre (List TMatrix) :=
 .cond (decide (iwrap .i64 (2 * p1) > p0))
  (.mat (g_ p0 (iwrap .i64 (p0 - p1))) fun r1 =>
  .mat (loopF ((i_spaces_l5 g_) (r1.length : Int) r1) (0, [])) fun l5 =>
  .mat (i_spacesc1_c761_F l5) fun r6 =>
  .ret r6)
  (.mat (i_spacesc2_1338_F [] p1 [] p0) fun r7 =>
  .mat (i_spacesc1_c761_F r7) fun r8 =>
  .ret r8)
noncomputable def i_spaces_R : Nat → Int → Int → Option (List TMatrix)
 | 0 => fun _ _ => none
 | n + 1 => fun p0 p1 => (i_spaces (i_spaces_R n) p0 p1).run some
noncomputable def i_spaces_F (p0 : Int) (p1 : Int) : Option (List TMatrix) := i_spaces_R 1000000000000 p0 p1
noncomputable def i_spaces_out (_g_ : Int → Int → Option (List TMatrix)) (_p0 : Int) (_p1 : Int) : (List TMatrix) → CallOut := fun r => ⟨(.ref (1, 0) []), [], [⟨false, (.sl kMatrix), (.sl (.imm true)), r⟩]⟩
noncomputable def i_spaces_G (g_ : Int → Int → Option (List TMatrix)) (av : List AV) (rs : List Root) : Tre CallOut :=
 asCons av fun a0_ av0 =>
 asCons av0 fun a1_ av1 =>
 asEnd av1 <|
 asEnd rs <|
 asImmZ true (.int .i64) a0_ fun d1 =>
 asImmZ true (.int .i64) a1_ fun d2 =>
 .mat (g_ d1 d2) fun r => .ret ((i_spaces_out g_) d1 d2 r)
noncomputable def i_spaces_c (g_ : Int → Int → Option (List TMatrix)) : Ctr := ⟨[], fun ci => (i_spaces_G g_) ci.args ci.roots, false⟩
noncomputable def i_spaces_V (g_ : Int → Int → Option (List TMatrix)) : Env := ⟨tau, [(70, (i_spaces_c g_)), (124, i_Matrix_kernel_c), (122, i_spacesc1_c761_c), (125, (i_spacesc2_1338_c i_spacesc2_1338_F))], []⟩
noncomputable def i_spaces_b (_g_ : Int → Int → Option (List TMatrix)) : Code := (Try.f70.body).getD .skip
noncomputable def i_spaces_l5_mk (_g_ : Int → Int → Option (List TMatrix)) (h5_0_0 : Int) (h5_0_3 : (List TMatrix)) : (Int × (List TMatrix)) → St := fun x => stOf [(5, (.ptr (7, 0) [])), (6, (.fn 122 [(7, 0)])), (20, (.ref (22, 0) [])), (21, (.imm true (.int .i64) h5_0_0)), (22, (.imm true (.int .i64) x.1))] [((7, 0), some ⟨true, (.sl kMatrix), .own, x.2⟩), ((22, 0), some ⟨false, (.sl kMatrix), (.sl (.imm true)), h5_0_3⟩)]
noncomputable def i_spaces_l5_out (_g_ : Int → Int → Option (List TMatrix)) (_h5_0_0 : Int) (_h5_0_3 : (List TMatrix)) : (List TMatrix) → Ex × St := fun x => (.exit 0, stOf [(6, (.fn 122 [(7, 0)]))] [((7, 0), some ⟨true, (.sl kMatrix), .own, x⟩)])
noncomputable def i_spaces_l5_D (g_ : Int → Int → Option (List TMatrix)) (s : St) : Tre (Ex × St) :=
 asPtr (7, 0) [] (s.tmps 5) <|
 asFn 122 [(7, 0)] (s.tmps 6) <|
 asRef (22, 0) [] (s.tmps 20) <|
 asImmZ true (.int .i64) (s.tmps 21) fun d5 =>
 asImmZ true (.int .i64) (s.tmps 22) fun d7 =>
 asRoot true (.sl kMatrix) (s.roots (7, 0)) fun m9 d10 =>
 asM .own m9 <|
 asRoot false (.sl kMatrix) (s.roots (22, 0)) fun m12 d13 =>
 asM (.sl (.imm true)) m12 <|
 .mat (loopF ((i_spaces_l5 g_) d5 d13) (d7, d10)) fun x => .ret ((i_spaces_l5_out g_) d5 d13 x)
noncomputable def i_spaces_l5_L (g_ : Int → Int → Option (List TMatrix)) : LoopI := ⟨([5, 6, 20, 21, 22], [(7, 0), (22, 0)]), ([6], [(7, 0)]), (i_spaces_l5_D g_)⟩
noncomputable def i_spaces_A (g_ : Int → Int → Option (List TMatrix)) : List (Nat × LoopI) := [(5, (i_spaces_l5_L g_))]
set_option maxRecDepth 100000 in
theorem i_spaces_l5_step (g_ : Int → Int → Option (List TMatrix)) : ∀ (h5_0_0 : Int) (h5_0_3 : (List TMatrix)) (x : (Int × (List TMatrix))) (c : St → Option (Ex × St)), den (i_spaces_V g_) (i_spaces_A g_) (loopAt (i_spaces_b g_) 0) ((i_spaces_l5_mk g_) h5_0_0 h5_0_3 x) (roundK (i_spaces_l5_L g_).kp (i_spaces_l5_L g_).kx c) = ((i_spaces_l5 g_) h5_0_0 h5_0_3 x).run (roundR ((i_spaces_l5_mk g_) h5_0_0 h5_0_3) ((i_spaces_l5_out g_) h5_0_0 h5_0_3) c) := fun _ _ _ _ => by
 kernel_rfl
theorem i_spaces_l5_ok (g_ : Int → Int → Option (List TMatrix)) : LoopOK (i_spaces_V g_) (i_spaces_A g_) (loopAt (i_spaces_b g_) 0) (i_spaces_l5_L g_) := loopOK_of fun s e s' h => by
 generalize hs : restrict (i_spaces_l5_L g_).kp s = s1 at h
 have h : ((i_spaces_l5_D g_) s1).run some = some (e, s') := h
 obtain ⟨e1, h_0⟩ := asPtr_spec h
 obtain ⟨e2, h_1⟩ := asFn_spec h_0
 obtain ⟨e3, h_2⟩ := asRef_spec h_1
 obtain ⟨d5, e4, h_3⟩ := asImmZ_spec h_2
 obtain ⟨d7, e6, h_4⟩ := asImmZ_spec h_3
 obtain ⟨m9, d10, e8, h_5⟩ := asRoot_spec h_4
 obtain ⟨rfl, h_6⟩ := asM_spec h_5
 obtain ⟨m12, d13, e11, h_7⟩ := asRoot_spec h_6
 obtain ⟨rfl, h_8⟩ := asM_spec h_7
 obtain ⟨y, hy, hz⟩ := mat_ret h_8
 refine ⟨_, _, (i_spaces_l5_mk g_) d5 d13, (i_spaces_l5_out g_) d5 d13, (i_spaces_l5 g_) d5 d13, (d7, d10), y, ?_, hy, ?_, (i_spaces_l5_step g_) d5 d13⟩
 ·subst hs; exact restrict_eq (T := [(5, (.ptr (7, 0) [])), (6, (.fn 122 [(7, 0)])), (20, (.ref (22, 0) [])), (21, (.imm true (.int .i64) d5)), (22, (.imm true (.int .i64) d7))]) (U := [((7, 0), some ⟨true, (.sl kMatrix), .own, d10⟩), ((22, 0), some ⟨false, (.sl kMatrix), (.sl (.imm true)), d13⟩)]) rfl rfl ⟨e1, e2, e3, e4, e6, trivial⟩ ⟨e8, e11, trivial⟩
 ·exact Option.some.inj hz
noncomputable def i_spaces_I (g_ : Int → Int → Option (List TMatrix)) : FnI := ⟨(i_spaces_b g_), Try.f70.results.toList, Try.f70.resultTypes.toList, (i_spaces_A g_)⟩
set_option maxRecDepth 100000 in
theorem i_spaces_eq (g_ : Int → Int → Option (List TMatrix)) : ∀ (p0 : Int) (p1 : Int), denFn (i_spaces_V g_) (i_spaces_I g_) ⟨[(.imm true (.int .i64) p0), (.imm true (.int .i64) p1)], []⟩ = ((i_spaces g_) p0 p1).run fun r => some ((i_spaces_out g_) p0 p1 r) := fun _ _ => by kernel_rfl
theorem i_spaces_env (g_ : Int → Int → Option (List TMatrix)) (hg_ : Contract Try.prog .none 70 (i_spaces_c g_)) : EnvOK Try.prog .none (i_spaces_V g_) := (envOK_cons hg_ ent70 (envOK_cons i_Matrix_kernel_ok ent124 (envOK_cons i_spacesc1_c761_ok ent122 (envOK_cons i_spacesc2_1338_ok ent125 envOK_nil))))
set_option maxRecDepth 100000 in
theorem i_spaces_okS (g_ : Int → Int → Option (List TMatrix)) (hg_ : Contract Try.prog .none 70 (i_spaces_c g_)) : Contract Try.prog .none 70 (i_spaces_c (fun p0 p1 => (i_spaces g_ p0 p1).run some)) := by
 have hl : LoopsOK (i_spaces_V g_) (i_spaces_A g_) (i_spaces_b g_) := (loopsOK_all (n := 1) (by kernel_rfl) fun k hk => by
   match k, hk with
   | 0, _ => exact loopOK_at (id := 5) (L := (i_spaces_l5_L g_)) (by kernel_rfl) (by kernel_rfl) (i_spaces_l5_ok g_))
 refine (contract_of (F := (i_spaces_I g_)) tau_tys ((i_spaces_env g_) hg_) Try.func70 (by kernel_rfl) (by kernel_rfl) (by kernel_rfl) hl []).weaken ?_
 rintro ⟨av, rs⟩ co h
 have h : (i_spaces_G (fun p0 p1 => (i_spaces g_ p0 p1).run some) av rs).run some = some co := h
 obtain ⟨a0_, av0, rfl, h_0⟩ := asCons_spec h
 obtain ⟨a1_, av1, rfl, h_1⟩ := asCons_spec h_0
 obtain ⟨rfl, h_2⟩ := asEnd_spec h_1
 obtain ⟨rfl, h_3⟩ := asEnd_spec h_2
 obtain ⟨d1, rfl, h_4⟩ := asImmZ_spec h_3
 obtain ⟨d2, rfl, h_5⟩ := asImmZ_spec h_4
 exact fin_mat ((i_spaces_eq g_) d1 d2) h_5
theorem i_spaces_ok0 : Contract Try.prog .none 70 (i_spaces_c (fun _ _ => none)) := Contract.vacuous (by
 rintro ⟨av, rs⟩ co h
 have h : (i_spaces_G (fun _ _ => none) av rs).run some = some co := h
 obtain ⟨a0_, av0, rfl, h_0⟩ := asCons_spec h
 obtain ⟨a1_, av1, rfl, h_1⟩ := asCons_spec h_0
 obtain ⟨rfl, h_2⟩ := asEnd_spec h_1
 obtain ⟨rfl, h_3⟩ := asEnd_spec h_2
 obtain ⟨d1, rfl, h_4⟩ := asImmZ_spec h_3
 obtain ⟨d2, rfl, h_5⟩ := asImmZ_spec h_4
 exact mat_none_absurd h_5)
theorem i_spaces_okN : ∀ n, Contract Try.prog .none 70 (i_spaces_c (i_spaces_R n))
 | 0 => i_spaces_ok0
 | n + 1 => i_spaces_okS _ (i_spaces_okN n)
theorem i_spaces_ok : Contract Try.prog .none 70 (i_spaces_c i_spaces_F) := i_spaces_okN _
end Go.Proofs.Ythnkanacjhlhhaa

namespace Go.Proofs.Ythnkanacjhlhhaa
open Go Go.Abs Go.Proofs
noncomputable def i_SpacesOf (p0 : Int) (p1 : Int) : Tre ((Int × (List TMatrix)) ⊕ (Int × (List TMatrix))) :=
 .mat (i_GaussNumber_F p0 p1) fun r1 =>
 .cond (!decide (r1.2 = 0))
  (.ret (.inl (r1.2, [])))
  (.cond (decide (r1.1 > 400))
   (.ret (.inl (3, [])))
   (.mat (i_spaces_F p0 p1) fun r2 =>
   .ret (.inr (0, r2))))
noncomputable def i_SpacesOf_F (p0 : Int) (p1 : Int) : Option ((Int × (List TMatrix)) ⊕ (Int × (List TMatrix))) := (i_SpacesOf p0 p1).run some
noncomputable def i_SpacesOf_V : Env := ⟨tau, [(19, i_GaussNumber_c), (70, (i_spaces_c i_spaces_F))], []⟩
noncomputable def i_SpacesOf_b : Code := (Try.f18.body).getD .skip
noncomputable def i_SpacesOf_I : FnI := ⟨i_SpacesOf_b, Try.f18.results.toList, Try.f18.resultTypes.toList, []⟩
noncomputable def i_SpacesOf_out (_p0 : Int) (_p1 : Int) : ((Int × (List TMatrix)) ⊕ (Int × (List TMatrix))) → CallOut
 | .inl r => ⟨(.tcons (.ref (1, 0) []) (.tcons (.imm true (.int .i64) r.1) .tnil)), [], [⟨false, (.sl kMatrix), .own, r.2⟩]⟩
 | .inr r => ⟨(.tcons (.ref (1, 0) []) (.tcons (.imm true (.int .i64) r.1) .tnil)), [], [⟨false, (.sl kMatrix), (.sl (.imm true)), r.2⟩]⟩
set_option maxRecDepth 100000 in
theorem i_SpacesOf_eq : ∀ (p0 : Int) (p1 : Int), denFn i_SpacesOf_V i_SpacesOf_I ⟨[(.imm true (.int .i64) p0), (.imm true (.int .i64) p1)], []⟩ = (i_SpacesOf p0 p1).run fun r => some (i_SpacesOf_out p0 p1 r) := fun _ _ => by kernel_rfl
noncomputable def i_SpacesOf_G (av : List AV) (rs : List Root) : Tre CallOut :=
 asCons av fun a0_ av0 =>
 asCons av0 fun a1_ av1 =>
 asEnd av1 <|
 asEnd rs <|
 asImmZ true (.int .i64) a0_ fun d1 =>
 asImmZ true (.int .i64) a1_ fun d2 =>
 .mat (i_SpacesOf_F d1 d2) fun r => .alt r (fun a0 => .ret (i_SpacesOf_out d1 d2 (.inl a0))) (fun b0 => .ret (i_SpacesOf_out d1 d2 (.inr b0)))
noncomputable def i_SpacesOf_c : Ctr := ⟨[], fun ci => i_SpacesOf_G ci.args ci.roots, false⟩
theorem i_SpacesOf_env : EnvOK Try.prog .none i_SpacesOf_V := (envOK_cons i_GaussNumber_ok ent19 (envOK_cons i_spaces_ok ent70 envOK_nil))
set_option maxRecDepth 100000 in
theorem i_SpacesOf_ok : Contract Try.prog .none 18 i_SpacesOf_c := by
 have hl : LoopsOK i_SpacesOf_V [] i_SpacesOf_b := loopsOK_nil (by kernel_rfl)
 refine (contract_of (F := i_SpacesOf_I) tau_tys i_SpacesOf_env Try.func18 (by kernel_rfl) (by kernel_rfl) (by kernel_rfl) hl []).weaken ?_
 rintro ⟨av, rs⟩ co h
 have h : (i_SpacesOf_G av rs).run some = some co := h
 obtain ⟨a0_, av0, rfl, h_0⟩ := asCons_spec h
 obtain ⟨a1_, av1, rfl, h_1⟩ := asCons_spec h_0
 obtain ⟨rfl, h_2⟩ := asEnd_spec h_1
 obtain ⟨rfl, h_3⟩ := asEnd_spec h_2
 obtain ⟨d1, rfl, h_4⟩ := asImmZ_spec h_3
 obtain ⟨d2, rfl, h_5⟩ := asImmZ_spec h_4
 exact fin_mats (i_SpacesOf_eq d1 d2) h_5 (by rintro (x | x) <;> rfl)
end Go.Proofs.Ythnkanacjhlhhaa

namespace Go.Proofs.Ythnkanacjhlhhaa
open Go Go.Abs Go.Proofs
noncomputable def s_l00From (p0 : (List Int)) : Tre TL00Src :=
 .ret (p0, (0, (0, ())))
noncomputable def s_l00From_F (p0 : (List Int)) : Option TL00Src := (s_l00From p0).run some
theorem s_l00From_spec (p0 : (List Int)) : s_l00From_F p0 = some (p0, (0, (0, ()))) := rfl
noncomputable def s_l00From_V : Env := ⟨tau, [], []⟩
noncomputable def s_l00From_b : Code := (Try.f73.body).getD .skip
noncomputable def s_l00From_I : FnI := ⟨s_l00From_b, Try.f73.results.toList, Try.f73.resultTypes.toList, []⟩
noncomputable def s_l00From_out (zp0 : Bool) (_p0 : (List Int)) : TL00Src → CallOut := fun r => ⟨(.ptr (1, 0) []), [], [⟨true, kL00Src, (.imm zp0), r⟩]⟩
set_option maxRecDepth 100000 in
theorem s_l00From_eq : ∀ (zp0 : Bool) (p0 : (List Int)), denFn s_l00From_V s_l00From_I ⟨[(.imm zp0 (.sl (.int .u8)) p0)], []⟩ = (s_l00From p0).run fun r => some (s_l00From_out zp0 p0 r) := fun _ _ => by kernel_rfl
noncomputable def s_l00From_G (av : List AV) (rs : List Root) : Tre CallOut :=
 asCons av fun a0_ av0 =>
 asEnd av0 <|
 asEnd rs <|
 asImm (.sl (.int .u8)) a0_ fun z2 d1 =>
 .ret (s_l00From_out z2 d1 (d1, (0, (0, ()))))
noncomputable def s_l00From_c : Ctr := ⟨[], fun ci => s_l00From_G ci.args ci.roots, false⟩
theorem s_l00From_env : EnvOK Try.prog .none s_l00From_V := envOK_nil
set_option maxRecDepth 100000 in
theorem s_l00From_ok : Contract Try.prog .none 73 s_l00From_c := by
 have hl : LoopsOK s_l00From_V [] s_l00From_b := loopsOK_nil (by kernel_rfl)
 refine (contract_of (F := s_l00From_I) tau_tys s_l00From_env Try.func73 (by kernel_rfl) (by kernel_rfl) (by kernel_rfl) hl []).weaken ?_
 rintro ⟨av, rs⟩ co h
 have h : (s_l00From_G av rs).run some = some co := h
 obtain ⟨a0_, av0, rfl, h_0⟩ := asCons_spec h
 obtain ⟨rfl, h_1⟩ := asEnd_spec h_0
 obtain ⟨rfl, h_2⟩ := asEnd_spec h_1
 obtain ⟨z2, d1, rfl, h_3⟩ := asImm_spec h_2
 exact fin_ret (s_l00From_eq z2 d1) (s_l00From_spec d1) h_3
end Go.Proofs.Ythnkanacjhlhhaa

namespace Go.Proofs.Ythnkanacjhlhhaa
open Go Go.Abs Go.Proofs
noncomputable def s_l00Src_next_6913 (p0 : TL00Src) : Tre (Int × TL00Src) :=
 .cond (decide (p0.2.1 < (p0.1.length : Int)))
  (.ite (0 ≤ p0.2.1 ∧ p0.2.1 < (p0.1.length : Int)) <|
  .mat (p0.1[p0.2.1.toNat]?) fun x1 =>
  let v2 := iwrap .u64 (p0.2.2.1 * 6364136223846793005)
  let v3 := iwrap .u64 (iwrap .i64 x1)
  let v4 := iwrap .u64 ((iwrap .u64 (v2 + v3)) + 1442695040888963407)
  .cond (decide (iwrap .i64 (p0.2.1 + 1) ≤ (p0.1.length : Int)))
   (.ret (iwrap .i64 x1, (p0.1, (iwrap .i64 (p0.2.1 + 1), (v4, p0.2.2.2)))))
   (let v5 := iand .u64 (ishr .u64 v4 40) 255
   .ret (iwrap .i64 v5, (p0.1, (iwrap .i64 (p0.2.1 + 1), (v4, p0.2.2.2))))))
  (let v6 := iwrap .u64 (p0.2.2.1 * 6364136223846793005)
  let v7 := iwrap .u64 ((iwrap .u64 (v6 + 0)) + 1442695040888963407)
  .cond (decide (iwrap .i64 (p0.2.1 + 1) ≤ (p0.1.length : Int)))
   (.ret (0, (p0.1, (iwrap .i64 (p0.2.1 + 1), (v7, p0.2.2.2)))))
   (let v8 := iand .u64 (ishr .u64 v7 40) 255
   .ret (iwrap .i64 v8, (p0.1, (iwrap .i64 (p0.2.1 + 1), (v7, p0.2.2.2))))))
noncomputable def s_l00Src_next_6913_F (p0 : TL00Src) : Option (Int × TL00Src) := (s_l00Src_next_6913 p0).run some
noncomputable def s_l00Src_next_6913_V : Env := ⟨tau, [], []⟩
noncomputable def s_l00Src_next_6913_b : Code := (Try.f132.body).getD .skip
noncomputable def s_l00Src_next_6913_I : FnI := ⟨s_l00Src_next_6913_b, Try.f132.results.toList, Try.f132.resultTypes.toList, []⟩
noncomputable def s_l00Src_next_6913_out (zp0 : Bool) (_p0 : TL00Src) : (Int × TL00Src) → CallOut := fun r => ⟨(.imm true (.int .i64) r.1), [⟨true, kL00Src, (.imm zp0), r.2⟩], []⟩
set_option maxRecDepth 100000 in
theorem s_l00Src_next_6913_eq : ∀ (zp0 : Bool) (p0 : TL00Src), denFn s_l00Src_next_6913_V s_l00Src_next_6913_I ⟨[(.ptr (0, 0) [])], [⟨true, kL00Src, (.imm zp0), p0⟩]⟩ = (s_l00Src_next_6913 p0).run fun r => some (s_l00Src_next_6913_out zp0 p0 r) := fun _ _ => by kernel_rfl
noncomputable def s_l00Src_next_6913_G (av : List AV) (rs : List Root) : Tre CallOut :=
 asCons av fun a0_ av0 =>
 asEnd av0 <|
 asCons rs fun r0_ rs0 =>
 asEnd rs0 <|
 asPtr (0, 0) [] a0_ <|
 asRt true kL00Src r0_ fun m1 d2 =>
 asMImm m1 fun z3 =>
 .mat (s_l00Src_next_6913_F d2) fun r => .ret (s_l00Src_next_6913_out z3 d2 r)
noncomputable def s_l00Src_next_6913_c : Ctr := ⟨[], fun ci => s_l00Src_next_6913_G ci.args ci.roots, false⟩
theorem s_l00Src_next_6913_env : EnvOK Try.prog .none s_l00Src_next_6913_V := envOK_nil
set_option maxRecDepth 100000 in
theorem s_l00Src_next_6913_ok : Contract Try.prog .none 132 s_l00Src_next_6913_c := by
 have hl : LoopsOK s_l00Src_next_6913_V [] s_l00Src_next_6913_b := loopsOK_nil (by kernel_rfl)
 refine (contract_of (F := s_l00Src_next_6913_I) tau_tys s_l00Src_next_6913_env Try.func132 (by kernel_rfl) (by kernel_rfl) (by kernel_rfl) hl []).weaken ?_
 rintro ⟨av, rs⟩ co h
 have h : (s_l00Src_next_6913_G av rs).run some = some co := h
 obtain ⟨a0_, av0, rfl, h_0⟩ := asCons_spec h
 obtain ⟨rfl, h_1⟩ := asEnd_spec h_0
 obtain ⟨r0_, rs0, rfl, h_2⟩ := asCons_spec h_1
 obtain ⟨rfl, h_3⟩ := asEnd_spec h_2
 obtain ⟨rfl, h_4⟩ := asPtr_spec h_3
 obtain ⟨m1, d2, rfl, h_5⟩ := asRt_spec h_4
 obtain ⟨z3, rfl, h_6⟩ := asMImm_spec h_5
 exact fin_mat (s_l00Src_next_6913_eq z3 d2) h_6
end Go.Proofs.Ythnkanacjhlhhaa

namespace Go.Proofs.Ythnkanacjhlhhaa
open Go Go.Abs Go.Proofs
noncomputable def s_l00Src_pick_9f69 (p0 : Int) (p1 : TL00Src) : Tre (Int × TL00Src) :=
 .cond (decide (p0 ≤ 1))
  (.ret (0, p1))
  (.mat (s_l00Src_next_6913_F p1) fun r1 =>
  .cond (decide (p0 > 200))
   (.mat (s_l00Src_next_6913_F r1.2) fun r2 =>
   let v3 := iwrap .i64 ((iwrap .i64 (r1.1 * 256)) + r2.1)
   .ifn (p0 = 0) <|
   .ret (Int.tmod v3 p0, r2.2))
   (.ifn (p0 = 0) <|
   .ret (Int.tmod r1.1 p0, r1.2)))
noncomputable def s_l00Src_pick_9f69_F (p0 : Int) (p1 : TL00Src) : Option (Int × TL00Src) := (s_l00Src_pick_9f69 p0 p1).run some
noncomputable def s_l00Src_pick_9f69_V : Env := ⟨tau, [(132, s_l00Src_next_6913_c)], []⟩
noncomputable def s_l00Src_pick_9f69_b : Code := (Try.f81.body).getD .skip
noncomputable def s_l00Src_pick_9f69_I : FnI := ⟨s_l00Src_pick_9f69_b, Try.f81.results.toList, Try.f81.resultTypes.toList, []⟩
noncomputable def s_l00Src_pick_9f69_out (zp0 : Bool) (_p0 : Int) (_p1 : TL00Src) : (Int × TL00Src) → CallOut := fun r => ⟨(.imm true (.int .i64) r.1), [⟨true, kL00Src, (.imm zp0), r.2⟩], []⟩
set_option maxRecDepth 100000 in
theorem s_l00Src_pick_9f69_eq : ∀ (zp0 : Bool) (p0 : Int) (p1 : TL00Src), denFn s_l00Src_pick_9f69_V s_l00Src_pick_9f69_I ⟨[(.ptr (0, 0) []), (.imm true (.int .i64) p0)], [⟨true, kL00Src, (.imm zp0), p1⟩]⟩ = (s_l00Src_pick_9f69 p0 p1).run fun r => some (s_l00Src_pick_9f69_out zp0 p0 p1 r) := fun _ _ _ => by kernel_rfl
noncomputable def s_l00Src_pick_9f69_G (av : List AV) (rs : List Root) : Tre CallOut :=
 asCons av fun a0_ av0 =>
 asCons av0 fun a1_ av1 =>
 asEnd av1 <|
 asCons rs fun r0_ rs0 =>
 asEnd rs0 <|
 asPtr (0, 0) [] a0_ <|
 asImmZ true (.int .i64) a1_ fun d1 =>
 asRt true kL00Src r0_ fun m2 d3 =>
 asMImm m2 fun z4 =>
 .mat (s_l00Src_pick_9f69_F d1 d3) fun r => .ret (s_l00Src_pick_9f69_out z4 d1 d3 r)
noncomputable def s_l00Src_pick_9f69_c : Ctr := ⟨[], fun ci => s_l00Src_pick_9f69_G ci.args ci.roots, false⟩
theorem s_l00Src_pick_9f69_env : EnvOK Try.prog .none s_l00Src_pick_9f69_V := (envOK_cons s_l00Src_next_6913_ok ent132 envOK_nil)
set_option maxRecDepth 100000 in
theorem s_l00Src_pick_9f69_ok : Contract Try.prog .none 81 s_l00Src_pick_9f69_c := by
 have hl : LoopsOK s_l00Src_pick_9f69_V [] s_l00Src_pick_9f69_b := loopsOK_nil (by kernel_rfl)
 refine (contract_of (F := s_l00Src_pick_9f69_I) tau_tys s_l00Src_pick_9f69_env Try.func81 (by kernel_rfl) (by kernel_rfl) (by kernel_rfl) hl []).weaken ?_
 rintro ⟨av, rs⟩ co h
 have h : (s_l00Src_pick_9f69_G av rs).run some = some co := h
 obtain ⟨a0_, av0, rfl, h_0⟩ := asCons_spec h
 obtain ⟨a1_, av1, rfl, h_1⟩ := asCons_spec h_0
 obtain ⟨rfl, h_2⟩ := asEnd_spec h_1
 obtain ⟨r0_, rs0, rfl, h_3⟩ := asCons_spec h_2
 obtain ⟨rfl, h_4⟩ := asEnd_spec h_3
 obtain ⟨rfl, h_5⟩ := asPtr_spec h_4
 obtain ⟨d1, rfl, h_6⟩ := asImmZ_spec h_5
 obtain ⟨m2, d3, rfl, h_7⟩ := asRt_spec h_6
 obtain ⟨z4, rfl, h_8⟩ := asMImm_spec h_7
 exact fin_mat (s_l00Src_pick_9f69_eq z4 d1 d3) h_8
end Go.Proofs.Ythnkanacjhlhhaa

namespace Go.Proofs.Ythnkanacjhlhhaa
open Go Go.Abs Go.Proofs
noncomputable def s_l00Src_one_9f69 (p0 : Int) (p1 : TL00Src) : Tre (Bool × TL00Src) :=
 .mat (s_l00Src_pick_9f69_F p0 p1) fun r1 =>
 .ret (decide (r1.1 = 0), r1.2)
noncomputable def s_l00Src_one_9f69_F (p0 : Int) (p1 : TL00Src) : Option (Bool × TL00Src) := (s_l00Src_one_9f69 p0 p1).run some
noncomputable def s_l00Src_one_9f69_V : Env := ⟨tau, [(81, s_l00Src_pick_9f69_c)], []⟩
noncomputable def s_l00Src_one_9f69_b : Code := (Try.f127.body).getD .skip
noncomputable def s_l00Src_one_9f69_I : FnI := ⟨s_l00Src_one_9f69_b, Try.f127.results.toList, Try.f127.resultTypes.toList, []⟩
noncomputable def s_l00Src_one_9f69_out (zp0 : Bool) (_p0 : Int) (_p1 : TL00Src) : (Bool × TL00Src) → CallOut := fun r => ⟨(.imm true .bool r.1), [⟨true, kL00Src, (.imm zp0), r.2⟩], []⟩
set_option maxRecDepth 100000 in
theorem s_l00Src_one_9f69_eq : ∀ (zp0 : Bool) (p0 : Int) (p1 : TL00Src), denFn s_l00Src_one_9f69_V s_l00Src_one_9f69_I ⟨[(.ptr (0, 0) []), (.imm true (.int .i64) p0)], [⟨true, kL00Src, (.imm zp0), p1⟩]⟩ = (s_l00Src_one_9f69 p0 p1).run fun r => some (s_l00Src_one_9f69_out zp0 p0 p1 r) := fun _ _ _ => by kernel_rfl
noncomputable def s_l00Src_one_9f69_G (av : List AV) (rs : List Root) : Tre CallOut :=
 asCons av fun a0_ av0 =>
 asCons av0 fun a1_ av1 =>
 asEnd av1 <|
 asCons rs fun r0_ rs0 =>
 asEnd rs0 <|
 asPtr (0, 0) [] a0_ <|
 asImmZ true (.int .i64) a1_ fun d1 =>
 asRt true kL00Src r0_ fun m2 d3 =>
 asMImm m2 fun z4 =>
 .mat (s_l00Src_one_9f69_F d1 d3) fun r => .ret (s_l00Src_one_9f69_out z4 d1 d3 r)
noncomputable def s_l00Src_one_9f69_c : Ctr := ⟨[], fun ci => s_l00Src_one_9f69_G ci.args ci.roots, false⟩
theorem s_l00Src_one_9f69_env : EnvOK Try.prog .none s_l00Src_one_9f69_V := (envOK_cons s_l00Src_pick_9f69_ok ent81 envOK_nil)
set_option maxRecDepth 100000 in
theorem s_l00Src_one_9f69_ok : Contract Try.prog .none 127 s_l00Src_one_9f69_c := by
 have hl : LoopsOK s_l00Src_one_9f69_V [] s_l00Src_one_9f69_b := loopsOK_nil (by kernel_rfl)
 refine (contract_of (F := s_l00Src_one_9f69_I) tau_tys s_l00Src_one_9f69_env Try.func127 (by kernel_rfl) (by kernel_rfl) (by kernel_rfl) hl []).weaken ?_
 rintro ⟨av, rs⟩ co h
 have h : (s_l00Src_one_9f69_G av rs).run some = some co := h
 obtain ⟨a0_, av0, rfl, h_0⟩ := asCons_spec h
 obtain ⟨a1_, av1, rfl, h_1⟩ := asCons_spec h_0
 obtain ⟨rfl, h_2⟩ := asEnd_spec h_1
 obtain ⟨r0_, rs0, rfl, h_3⟩ := asCons_spec h_2
 obtain ⟨rfl, h_4⟩ := asEnd_spec h_3
 obtain ⟨rfl, h_5⟩ := asPtr_spec h_4
 obtain ⟨d1, rfl, h_6⟩ := asImmZ_spec h_5
 obtain ⟨m2, d3, rfl, h_7⟩ := asRt_spec h_6
 obtain ⟨z4, rfl, h_8⟩ := asMImm_spec h_7
 exact fin_mat (s_l00Src_one_9f69_eq z4 d1 d3) h_8
end Go.Proofs.Ythnkanacjhlhhaa

namespace Go.Proofs.Ythnkanacjhlhhaa
open Go Go.Abs Go.Proofs
noncomputable def s_l02Drawn_dbdf_l3 (h3_0_0 : Int) : (Int × TL00Src × TMatrix) → Tre ((Int × TL00Src × TMatrix) ⊕ (TL00Src × TMatrix)) := fun s3 =>
 .cond (decide (s3.1 > 0))
  (.ite (0 ≤ iwrap .u64 h3_0_0) <|
  let v2 := ishl .i64 1 (iwrap .u64 h3_0_0)
  .mat (s_l00Src_pick_9f69_F v2 s3.2.1) fun r3 =>
  .mat (s_l00Src_one_9f69_F 3 r3.2) fun r4 =>
  .cond r4.1
   (.cond (decide ((s3.2.2.2.1.length : Int) > 0))
    (.mat (s_l00Src_pick_9f69_F (s3.2.2.2.1.length : Int) r4.2) fun r5 =>
    .ite (0 ≤ r5.1 ∧ r5.1 < (s3.2.2.2.1.length : Int)) <|
    .mat (s3.2.2.2.1[r5.1.toNat]?) fun x6 =>
    .mat (s_l00Src_one_9f69_F 2 r5.2) fun r7 =>
    .cond r7.1
     (.mat (s_l00Src_pick_9f69_F (s3.2.2.2.1.length : Int) r7.2) fun r8 =>
     .ite (0 ≤ r8.1 ∧ r8.1 < (s3.2.2.2.1.length : Int)) <|
     .mat (s3.2.2.2.1[r8.1.toNat]?) fun x9 =>
     .ite ((s3.2.2.2.1.length + 1) * 8 ≤ appendMax ∧ 1 ≤ 8) <|
     let v10 := s3.2.2.2.1 ++ ([ixor .i64 x6 x9])
     .ret (.inl (iwrap .i64 (s3.1 - 1), r8.2, (s3.2.2.1, (v10, s3.2.2.2.2)))))
     (.ite ((s3.2.2.2.1.length + 1) * 8 ≤ appendMax ∧ 1 ≤ 8) <|
     .ret (.inl (iwrap .i64 (s3.1 - 1), r7.2, (s3.2.2.1, (s3.2.2.2.1 ++ ([x6]), s3.2.2.2.2))))))
    (.ite ((s3.2.2.2.1.length + 1) * 8 ≤ appendMax ∧ 1 ≤ 8) <|
    .ret (.inl (iwrap .i64 (s3.1 - 1), r4.2, (s3.2.2.1, (s3.2.2.2.1 ++ ([r3.1]), s3.2.2.2.2))))))
   (.ite ((s3.2.2.2.1.length + 1) * 8 ≤ appendMax ∧ 1 ≤ 8) <|
   .ret (.inl (iwrap .i64 (s3.1 - 1), r4.2, (s3.2.2.1, (s3.2.2.2.1 ++ ([r3.1]), s3.2.2.2.2))))))
  (.ret (.inr (s3.2.1, s3.2.2)))
noncomputable def s_l02Drawn_dbdf (p0 : Int) (p1 : Int) (p2 : TL00Src) : Tre (Int × TL00Src × (List Int)) :=
 .mat (s_l00Src_pick_9f69_F (iwrap .i64 (p1 + 1)) p2) fun r1 =>
 .mat (loopF (s_l02Drawn_dbdf_l3 p0) (r1.1, r1.2, (p0, ([], ())))) fun l11 =>
 .ret (l11.2.1, l11.1, l11.2.2.1)
noncomputable def s_l02Drawn_dbdf_F (p0 : Int) (p1 : Int) (p2 : TL00Src) : Option (Int × TL00Src × (List Int)) := (s_l02Drawn_dbdf p0 p1 p2).run some
noncomputable def s_l02Drawn_dbdf_V : Env := ⟨tau, [(81, s_l00Src_pick_9f69_c), (127, s_l00Src_one_9f69_c)], []⟩
noncomputable def s_l02Drawn_dbdf_b : Code := (Try.f72.body).getD .skip
noncomputable def s_l02Drawn_dbdf_l3_mk (z3_0 : Bool) (h3_0_0 : Int) (h3_0_3 : TMatrix) : (Int × TL00Src × TMatrix) → St := fun x => stOf [(0, (.ptr (0, 0) [])), (1, (.imm true (.int .i64) h3_0_0)), (6, (.ptr (8, 0) [])), (7, (.ptr (9, 0) [])), (8, (.imm true (.int .i64) x.1))] [((0, 0), some ⟨true, kL00Src, (.imm z3_0), x.2.1⟩), ((8, 0), some ⟨true, kMatrix, .own, h3_0_3⟩), ((9, 0), some ⟨true, kMatrix, .own, x.2.2⟩)]
noncomputable def s_l02Drawn_dbdf_l3_out (z3_0 : Bool) (_h3_0_0 : Int) (h3_0_3 : TMatrix) : (TL00Src × TMatrix) → Ex × St := fun x => (.exit 0, stOf [(6, (.ptr (8, 0) [])), (7, (.ptr (9, 0) []))] [((0, 0), some ⟨true, kL00Src, (.imm z3_0), x.1⟩), ((8, 0), some ⟨true, kMatrix, .own, h3_0_3⟩), ((9, 0), some ⟨true, kMatrix, .own, x.2⟩)])
noncomputable def s_l02Drawn_dbdf_l3_D (s : St) : Tre (Ex × St) :=
 asPtr (0, 0) [] (s.tmps 0) <|
 asImmZ true (.int .i64) (s.tmps 1) fun d3 =>
 asPtr (8, 0) [] (s.tmps 6) <|
 asPtr (9, 0) [] (s.tmps 7) <|
 asImmZ true (.int .i64) (s.tmps 8) fun d7 =>
 asRoot true kL00Src (s.roots (0, 0)) fun m9 d10 =>
 asMImm m9 fun z11 =>
 asRoot true kMatrix (s.roots (8, 0)) fun m13 d14 =>
 asM .own m13 <|
 asRoot true kMatrix (s.roots (9, 0)) fun m16 d17 =>
 asM .own m16 <|
 .mat (loopF (s_l02Drawn_dbdf_l3 d3) (d7, d10, d17)) fun x => .ret (s_l02Drawn_dbdf_l3_out z11 d3 d14 x)
noncomputable def s_l02Drawn_dbdf_l3_L : LoopI := ⟨([0, 1, 6, 7, 8], [(0, 0), (8, 0), (9, 0)]), ([6, 7], [(0, 0), (8, 0), (9, 0)]), s_l02Drawn_dbdf_l3_D⟩
noncomputable def s_l02Drawn_dbdf_A : List (Nat × LoopI) := [(3, s_l02Drawn_dbdf_l3_L)]
set_option maxRecDepth 100000 in
theorem s_l02Drawn_dbdf_l3_step : ∀ (z3_0 : Bool) (h3_0_0 : Int) (h3_0_3 : TMatrix) (x : (Int × TL00Src × TMatrix)) (c : St → Option (Ex × St)), den s_l02Drawn_dbdf_V s_l02Drawn_dbdf_A (loopAt s_l02Drawn_dbdf_b 0) (s_l02Drawn_dbdf_l3_mk z3_0 h3_0_0 h3_0_3 x) (roundK s_l02Drawn_dbdf_l3_L.kp s_l02Drawn_dbdf_l3_L.kx c) = (s_l02Drawn_dbdf_l3 h3_0_0 x).run (roundR (s_l02Drawn_dbdf_l3_mk z3_0 h3_0_0 h3_0_3) (s_l02Drawn_dbdf_l3_out z3_0 h3_0_0 h3_0_3) c) := fun _ _ _ _ _ => by
 kernel_rfl
theorem s_l02Drawn_dbdf_l3_ok : LoopOK s_l02Drawn_dbdf_V s_l02Drawn_dbdf_A (loopAt s_l02Drawn_dbdf_b 0) s_l02Drawn_dbdf_l3_L := loopOK_of fun s e s' h => by
 generalize hs : restrict s_l02Drawn_dbdf_l3_L.kp s = s1 at h
 have h : (s_l02Drawn_dbdf_l3_D s1).run some = some (e, s') := h
 obtain ⟨e1, h_0⟩ := asPtr_spec h
 obtain ⟨d3, e2, h_1⟩ := asImmZ_spec h_0
 obtain ⟨e4, h_2⟩ := asPtr_spec h_1
 obtain ⟨e5, h_3⟩ := asPtr_spec h_2
 obtain ⟨d7, e6, h_4⟩ := asImmZ_spec h_3
 obtain ⟨m9, d10, e8, h_5⟩ := asRoot_spec h_4
 obtain ⟨z11, rfl, h_6⟩ := asMImm_spec h_5
 obtain ⟨m13, d14, e12, h_7⟩ := asRoot_spec h_6
 obtain ⟨rfl, h_8⟩ := asM_spec h_7
 obtain ⟨m16, d17, e15, h_9⟩ := asRoot_spec h_8
 obtain ⟨rfl, h_10⟩ := asM_spec h_9
 obtain ⟨y, hy, hz⟩ := mat_ret h_10
 refine ⟨_, _, s_l02Drawn_dbdf_l3_mk z11 d3 d14, s_l02Drawn_dbdf_l3_out z11 d3 d14, s_l02Drawn_dbdf_l3 d3, (d7, d10, d17), y, ?_, hy, ?_, s_l02Drawn_dbdf_l3_step z11 d3 d14⟩
 ·subst hs; exact restrict_eq (T := [(0, (.ptr (0, 0) [])), (1, (.imm true (.int .i64) d3)), (6, (.ptr (8, 0) [])), (7, (.ptr (9, 0) [])), (8, (.imm true (.int .i64) d7))]) (U := [((0, 0), some ⟨true, kL00Src, (.imm z11), d10⟩), ((8, 0), some ⟨true, kMatrix, .own, d14⟩), ((9, 0), some ⟨true, kMatrix, .own, d17⟩)]) rfl rfl ⟨e1, e2, e4, e5, e6, trivial⟩ ⟨e8, e12, e15, trivial⟩
 ·exact Option.some.inj hz
noncomputable def s_l02Drawn_dbdf_I : FnI := ⟨s_l02Drawn_dbdf_b, Try.f72.results.toList, Try.f72.resultTypes.toList, s_l02Drawn_dbdf_A⟩
noncomputable def s_l02Drawn_dbdf_out (zp0 : Bool) (_p0 : Int) (_p1 : Int) (_p2 : TL00Src) : (Int × TL00Src × (List Int)) → CallOut := fun r => ⟨(.pair (.imm true (.int .i64) r.1) (.pair (.ref (1, 0) []) (.imm true .unit ()))), [⟨true, kL00Src, (.imm zp0), r.2.1⟩], [⟨false, (.sl (.int .i64)), .own, r.2.2⟩]⟩
set_option maxRecDepth 100000 in
theorem s_l02Drawn_dbdf_eq : ∀ (zp0 : Bool) (p0 : Int) (p1 : Int) (p2 : TL00Src), denFn s_l02Drawn_dbdf_V s_l02Drawn_dbdf_I ⟨[(.ptr (0, 0) []), (.imm true (.int .i64) p0), (.imm true (.int .i64) p1)], [⟨true, kL00Src, (.imm zp0), p2⟩]⟩ = (s_l02Drawn_dbdf p0 p1 p2).run fun r => some (s_l02Drawn_dbdf_out zp0 p0 p1 p2 r) := fun _ _ _ _ => by kernel_rfl
noncomputable def s_l02Drawn_dbdf_G (av : List AV) (rs : List Root) : Tre CallOut :=
 asCons av fun a0_ av0 =>
 asCons av0 fun a1_ av1 =>
 asCons av1 fun a2_ av2 =>
 asEnd av2 <|
 asCons rs fun r0_ rs0 =>
 asEnd rs0 <|
 asPtr (0, 0) [] a0_ <|
 asImmZ true (.int .i64) a1_ fun d1 =>
 asImmZ true (.int .i64) a2_ fun d2 =>
 asRt true kL00Src r0_ fun m3 d4 =>
 asMImm m3 fun z5 =>
 .mat (s_l02Drawn_dbdf_F d1 d2 d4) fun r => .ret (s_l02Drawn_dbdf_out z5 d1 d2 d4 r)
noncomputable def s_l02Drawn_dbdf_c : Ctr := ⟨[], fun ci => s_l02Drawn_dbdf_G ci.args ci.roots, false⟩
theorem s_l02Drawn_dbdf_env : EnvOK Try.prog .none s_l02Drawn_dbdf_V := (envOK_cons s_l00Src_pick_9f69_ok ent81 (envOK_cons s_l00Src_one_9f69_ok ent127 envOK_nil))
set_option maxRecDepth 100000 in
theorem s_l02Drawn_dbdf_ok : Contract Try.prog .none 72 s_l02Drawn_dbdf_c := by
 have hl : LoopsOK s_l02Drawn_dbdf_V s_l02Drawn_dbdf_A s_l02Drawn_dbdf_b := (loopsOK_all (n := 1) (by kernel_rfl) fun k hk => by
   match k, hk with
   | 0, _ => exact loopOK_at (id := 3) (L := s_l02Drawn_dbdf_l3_L) (by kernel_rfl) (by kernel_rfl) s_l02Drawn_dbdf_l3_ok)
 refine (contract_of (F := s_l02Drawn_dbdf_I) tau_tys s_l02Drawn_dbdf_env Try.func72 (by kernel_rfl) (by kernel_rfl) (by kernel_rfl) hl []).weaken ?_
 rintro ⟨av, rs⟩ co h
 have h : (s_l02Drawn_dbdf_G av rs).run some = some co := h
 obtain ⟨a0_, av0, rfl, h_0⟩ := asCons_spec h
 obtain ⟨a1_, av1, rfl, h_1⟩ := asCons_spec h_0
 obtain ⟨a2_, av2, rfl, h_2⟩ := asCons_spec h_1
 obtain ⟨rfl, h_3⟩ := asEnd_spec h_2
 obtain ⟨r0_, rs0, rfl, h_4⟩ := asCons_spec h_3
 obtain ⟨rfl, h_5⟩ := asEnd_spec h_4
 obtain ⟨rfl, h_6⟩ := asPtr_spec h_5
 obtain ⟨d1, rfl, h_7⟩ := asImmZ_spec h_6
 obtain ⟨d2, rfl, h_8⟩ := asImmZ_spec h_7
 obtain ⟨m3, d4, rfl, h_9⟩ := asRt_spec h_8
 obtain ⟨z5, rfl, h_10⟩ := asMImm_spec h_9
 exact fin_mat (s_l02Drawn_dbdf_eq z5 d1 d2 d4) h_10
end Go.Proofs.Ythnkanacjhlhhaa

namespace Go.Proofs.Ythnkanacjhlhhaa
open Go Go.Abs Go.Proofs
noncomputable def s_l00Own (p0 : (List Int)) : Tre (List Int) :=
 .ite ((0 + p0.length) * 8 ≤ appendMax ∧ 1 ≤ 8) <|
 .ret ([] ++ p0)
noncomputable def s_l00Own_F (p0 : (List Int)) : Option (List Int) := (s_l00Own p0).run some
theorem s_l00Own_spec (p0 : List Int) (y : List Int) (h : cloneR p0 = some y) : s_l00Own_F p0 = some y := by
 obtain ⟨hl, rfl⟩ := lim_some h
 have hb : (0 + p0.length) * 8 ≤ appendMax ∧ 1 ≤ 8 := by unfold appendMax; omega
 unfold s_l00Own_F s_l00Own
 rw [Tre.run_ite, if_pos hb]
 rfl
noncomputable def s_l00Own_V : Env := ⟨tau, [], []⟩
noncomputable def s_l00Own_b : Code := (Try.f105.body).getD .skip
noncomputable def s_l00Own_I : FnI := ⟨s_l00Own_b, Try.f105.results.toList, Try.f105.resultTypes.toList, []⟩
noncomputable def s_l00Own_out (_zp0 : Bool) (_p0 : (List Int)) : (List Int) → CallOut := fun r => ⟨(.ref (1, 0) []), [], [⟨false, (.sl (.int .i64)), .own, r⟩]⟩
set_option maxRecDepth 100000 in
theorem s_l00Own_eq : ∀ (zp0 : Bool) (p0 : (List Int)), denFn s_l00Own_V s_l00Own_I ⟨[(.imm zp0 (.sl (.int .i64)) p0)], []⟩ = (s_l00Own p0).run fun r => some (s_l00Own_out zp0 p0 r) := fun _ _ => by kernel_rfl
noncomputable def s_l00Own_G (av : List AV) (rs : List Root) : Tre CallOut :=
 asCons av fun a0_ av0 =>
 asEnd av0 <|
 asEnd rs <|
 asImm (.sl (.int .i64)) a0_ fun z2 d1 =>
 .mat (cloneR d1) fun r => .ret (s_l00Own_out z2 d1 r)
noncomputable def s_l00Own_c : Ctr := ⟨[], fun ci => s_l00Own_G ci.args ci.roots, false⟩
theorem s_l00Own_env : EnvOK Try.prog .none s_l00Own_V := envOK_nil
set_option maxRecDepth 100000 in
theorem s_l00Own_ok : Contract Try.prog .none 105 s_l00Own_c := by
 have hl : LoopsOK s_l00Own_V [] s_l00Own_b := loopsOK_nil (by kernel_rfl)
 refine (contract_of (F := s_l00Own_I) tau_tys s_l00Own_env Try.func105 (by kernel_rfl) (by kernel_rfl) (by kernel_rfl) hl []).weaken ?_
 rintro ⟨av, rs⟩ co h
 have h : (s_l00Own_G av rs).run some = some co := h
 obtain ⟨a0_, av0, rfl, h_0⟩ := asCons_spec h
 obtain ⟨rfl, h_1⟩ := asEnd_spec h_0
 obtain ⟨rfl, h_2⟩ := asEnd_spec h_1
 obtain ⟨z2, d1, rfl, h_3⟩ := asImm_spec h_2
 exact fin_opt (s_l00Own_eq z2 d1) (s_l00Own_spec d1) h_3
end Go.Proofs.Ythnkanacjhlhhaa

namespace Go.Proofs.Ythnkanacjhlhhaa
open Go Go.Abs Go.Proofs
noncomputable def s_l02Bit (p0 : Int) (p1 : Int) : Tre Int :=
 .ite (0 ≤ iwrap .u64 p1) <|
 let v1 := ishr .i64 p0 (iwrap .u64 p1)
 .ret (iand .i64 v1 1)
noncomputable def s_l02Bit_F (p0 : Int) (p1 : Int) : Option Int := (s_l02Bit p0 p1).run some
def bitR (x j : Int) : Option Int := askO (inR j 0 9223372036854775807) (iand .i64 (ishr .i64 x j) 1)
theorem s_l02Bit_spec (p0 p1 : Int) (y : Int) (h : bitR p0 p1 = some y) : s_l02Bit_F p0 p1 = some y := by
 obtain ⟨hl, rfl⟩ := askO_some h
 rw [inR_iff] at hl
 unfold s_l02Bit_F s_l02Bit
 rw [iwrap_u64 hl.1 (by omega), Tre.run_ite, if_pos hl.1]
 rfl
theorem bitR_nat {x : Int} {j : Nat} (h : j ≤ 1048576) : bitR x (j : Int) = some (iand .i64 (ishr .i64 x j) 1) := askO_true (by rw [inR_iff]; omega)
noncomputable def s_l02Bit_V : Env := ⟨tau, [], []⟩
noncomputable def s_l02Bit_b : Code := (Try.f106.body).getD .skip
noncomputable def s_l02Bit_I : FnI := ⟨s_l02Bit_b, Try.f106.results.toList, Try.f106.resultTypes.toList, []⟩
noncomputable def s_l02Bit_out (_p0 : Int) (_p1 : Int) : Int → CallOut := fun r => ⟨(.imm true (.int .i64) r), [], []⟩
set_option maxRecDepth 100000 in
theorem s_l02Bit_eq : ∀ (p0 : Int) (p1 : Int), denFn s_l02Bit_V s_l02Bit_I ⟨[(.imm true (.int .i64) p0), (.imm true (.int .i64) p1)], []⟩ = (s_l02Bit p0 p1).run fun r => some (s_l02Bit_out p0 p1 r) := fun _ _ => by kernel_rfl
noncomputable def s_l02Bit_G (av : List AV) (rs : List Root) : Tre CallOut :=
 asCons av fun a0_ av0 =>
 asCons av0 fun a1_ av1 =>
 asEnd av1 <|
 asEnd rs <|
 asImmZ true (.int .i64) a0_ fun d1 =>
 asImmZ true (.int .i64) a1_ fun d2 =>
 .mat (bitR d1 d2) fun r => .ret (s_l02Bit_out d1 d2 r)
noncomputable def s_l02Bit_c : Ctr := ⟨[], fun ci => s_l02Bit_G ci.args ci.roots, false⟩
theorem s_l02Bit_env : EnvOK Try.prog .none s_l02Bit_V := envOK_nil
set_option maxRecDepth 100000 in
theorem s_l02Bit_ok : Contract Try.prog .none 106 s_l02Bit_c := by
 have hl : LoopsOK s_l02Bit_V [] s_l02Bit_b := loopsOK_nil (by kernel_rfl)
 refine (contract_of (F := s_l02Bit_I) tau_tys s_l02Bit_env Try.func106 (by kernel_rfl) (by kernel_rfl) (by kernel_rfl) hl []).weaken ?_
 rintro ⟨av, rs⟩ co h
 have h : (s_l02Bit_G av rs).run some = some co := h
 obtain ⟨a0_, av0, rfl, h_0⟩ := asCons_spec h
 obtain ⟨a1_, av1, rfl, h_1⟩ := asCons_spec h_0
 obtain ⟨rfl, h_2⟩ := asEnd_spec h_1
 obtain ⟨rfl, h_3⟩ := asEnd_spec h_2
 obtain ⟨d1, rfl, h_4⟩ := asImmZ_spec h_3
 obtain ⟨d2, rfl, h_5⟩ := asImmZ_spec h_4
 exact fin_opt (s_l02Bit_eq d1 d2) (s_l02Bit_spec d1 d2) h_5
end Go.Proofs.Ythnkanacjhlhhaa

namespace Go.Proofs.Ythnkanacjhlhhaa
open Go Go.Abs Go.Proofs
noncomputable def s_l02Echelon_l8 (h8_0_1 : Int) (h8_0_4 : (List Int)) : (Int × Int) → Tre ((Int × Int) ⊕ Int) := fun s8 =>
 .cond (decide (s8.2 < (h8_0_4.length : Int)))
  (.cond (decide (s8.1 < 0))
   (.ite (0 ≤ s8.2 ∧ s8.2 < (h8_0_4.length : Int)) <|
   .mat (h8_0_4[s8.2.toNat]?) fun x2 =>
   .mat (bitR x2 h8_0_1) fun r3 =>
   .cond (decide (r3 = 1))
    (.ret (.inl (s8.2, iwrap .i64 (s8.2 + 1))))
    (.ret (.inl (s8.1, iwrap .i64 (s8.2 + 1)))))
   (.ret (.inr s8.1)))
  (.ret (.inr s8.1))
noncomputable def s_l02Echelon_l16 (h16_0_1 : Int) (h16_0_2 : Int) : (Int × (List Int)) → Tre ((Int × (List Int)) ⊕ (List Int)) := fun s16 =>
 .cond (decide (s16.1 < (s16.2.length : Int)))
  (.ite (0 ≤ s16.1 ∧ s16.1 < (s16.2.length : Int)) <|
  .mat (s16.2[s16.1.toNat]?) fun x7 =>
  .mat (bitR x7 h16_0_1) fun r8 =>
  .cond (decide (r8 = 1))
   (.ite (0 ≤ s16.1 ∧ s16.1 < (s16.2.length : Int)) <|
   .mat (s16.2[s16.1.toNat]?) fun x9 =>
   .ite (0 ≤ s16.1 ∧ s16.1 < (s16.2.length : Int)) <|
   .mat (s16.2[s16.1.toNat]?) fun _ =>
   let v11 := s16.2.set s16.1.toNat (ixor .i64 x9 h16_0_2)
   .ret (.inl (iwrap .i64 (s16.1 + 1), v11)))
   (.ret (.inl (iwrap .i64 (s16.1 + 1), s16.2))))
  (.ret (.inr s16.2))
noncomputable def s_l02Echelon_l21 (h21_0_1 : Int) (h21_0_2 : Int) : (Int × (List Int)) → Tre ((Int × (List Int)) ⊕ (List Int)) := fun s21 =>
 .cond (decide (s21.1 < (s21.2.length : Int)))
  (.ite (0 ≤ s21.1 ∧ s21.1 < (s21.2.length : Int)) <|
  .mat (s21.2[s21.1.toNat]?) fun x13 =>
  .mat (bitR x13 h21_0_1) fun r14 =>
  .cond (decide (r14 = 1))
   (.ite (0 ≤ s21.1 ∧ s21.1 < (s21.2.length : Int)) <|
   .mat (s21.2[s21.1.toNat]?) fun x15 =>
   .ite (0 ≤ s21.1 ∧ s21.1 < (s21.2.length : Int)) <|
   .mat (s21.2[s21.1.toNat]?) fun _ =>
   let v17 := s21.2.set s21.1.toNat (ixor .i64 x15 h21_0_2)
   .ret (.inl (iwrap .i64 (s21.1 + 1), v17)))
   (.ret (.inl (iwrap .i64 (s21.1 + 1), s21.2))))
  (.ret (.inr s21.2))
noncomputable def s_l02Echelon_l4 (h4_0_0 : Int) : (Int × (List Int) × (List Int)) → Tre ((Int × (List Int) × (List Int)) ⊕ (List Int)) := fun s4 =>
 .cond (decide (s4.1 < h4_0_0))
  (.mat (loopF (s_l02Echelon_l8 s4.1 s4.2.1) (-1, 0)) fun l4 =>
  .cond (decide (l4 < 0))
   (.ret (.inl (iwrap .i64 (s4.1 + 1), s4.2.1, s4.2.2)))
   (.ite (0 ≤ l4 ∧ l4 < (s4.2.1.length : Int)) <|
   .mat (s4.2.1[l4.toNat]?) fun x5 =>
   .ite (0 ≤ l4 ∧ l4 < (s4.2.1.length : Int)) <|
   .mat (s4.2.1[l4.toNat]?) fun _ =>
   .mat (loopF (s_l02Echelon_l16 s4.1 x5) (0, s4.2.1.set l4.toNat 0)) fun l12 =>
   .mat (loopF (s_l02Echelon_l21 s4.1 x5) (0, s4.2.2)) fun l18 =>
   .ite ((l18.length + 1) * 8 ≤ appendMax ∧ 1 ≤ 8) <|
   .ret (.inl (iwrap .i64 (s4.1 + 1), l12, l18 ++ ([x5])))))
  (.ret (.inr s4.2.2))
noncomputable def s_l02Echelon (p0 : Int) (p1 : (List Int)) : Tre (List Int) :=
 .mat (cloneR p1) fun r1 =>
 .mat (loopF (s_l02Echelon_l4 p0) (0, r1, [])) fun l19 =>
 .ret l19
noncomputable def s_l02Echelon_F (p0 : Int) (p1 : (List Int)) : Option (List Int) := (s_l02Echelon p0 p1).run some
-- more
noncomputable def echB (m : Int) (xs : List Int) : Option (List Int) := askO (inR m 0 62 && okRows m.toNat xs) (echI xs)
theorem s_l02Echelon_find (c : Nat) (hc : c ≤ 62) (xs : List Int) (hl : xs.length ≤ 1048576) : loopF (s_l02Echelon_l8 (c : Int) xs) (-1, 0) = some (idxI (fun x => bitAt x (c : Int)) 0 xs) := by
 have := fold_loop (xs := xs) (step := s_l02Echelon_l8 (c : Int) xs) (fun i acc => (acc, (i : Int))) (fun i acc x => cond (decide (acc < 0)) (.inl (cond (bitAt x (c : Int)) (i : Int) acc)) (.inr acc)) id (fun _ _ => True) (by
  intro i acc x hx _
  refine ⟨?_, fun _ _ => trivial⟩
  have hi : i < xs.length := (List.getElem?_eq_some_iff.1 hx).1
  unfold s_l02Echelon_l8
  rw [Tre.run_cond, show decide (((acc, (i : Int)) : Int × Int).2 < (xs.length : Int)) = true from by simpa using hi, cond_true, Tre.run_cond]
  by_cases h0 : acc < 0
  ·rw [show decide (acc < 0) = true from by simpa using h0]
   rw [cond_true, run_at hx, run_some_mat (bitR_nat (by omega) : bitR x (c : Int) = _), Tre.run_cond]
   show cond (bitAt x (c : Int)) _ _ = _
   cases bitAt x (c : Int)
   ·rw [cond_false, Tre.run_ret, iwrap_succ (by omega)]; rfl
   ·rw [cond_true, Tre.run_ret, iwrap_succ (by omega)]; rfl
  ·rw [show decide (acc < 0) = false from by simpa using h0]
   rfl)
  (by
  intro acc _
  unfold s_l02Echelon_l8
  exact run_out) xs 0 (-1) rfl (Nat.zero_le _) trivial
 rw [show (((-1 : Int), (0 : Int)) : Int × Int) = (-1, ((0 : Nat) : Int)) from rfl, this]
 have key : ∀ (l : List Int) (i : Nat), foldE (β := Int) (fun (i : Nat) (acc : Int) x => cond (decide (acc < 0)) (.inl (cond (bitAt x (c : Int)) (i : Int) acc)) (.inr acc)) id i (-1) l = idxI (fun x => bitAt x (c : Int)) i l := by
  intro l
  induction l with
  | nil => intro i; rfl
  | cons x l ih =>
   intro i
   simp only [foldE, idxI, show decide ((-1 : Int) < 0) = true from rfl, cond_true]
   cases bitAt x (c : Int)
   ·exact ih (i + 1)
   ·have hn : decide ((i : Int) < 0) = false := by simp
    cases l with
    | nil => rfl
    | cons y l => simp only [foldE, cond_true, hn, cond_false]
 rw [key]
theorem s_l02Echelon_elim (c r : Nat) (hc : c ≤ 62) (hr : r < 2 ^ 62) (l : List Nat) (hb : ∀ n ∈ l, n < 2 ^ 62) (hl : l.length ≤ 1048576) : loopF (s_l02Echelon_l16 (c : Int) (r : Int)) (0, up l) = some (up (l.map (elimB c r))) := by
 have := part_loop (step := s_l02Echelon_l16 (c : Int) (r : Int)) (fun _ x => elimB c r x) l id (by
  intro i x hx
  have hi : i < l.length := (List.getElem?_eq_some_iff.1 hx).1
  have hx2 := up_at (part_at (g := fun _ x => elimB c r x) (i := i) hx)
  rw [if_neg (Nat.lt_irrefl i)] at hx2
  have hlen : (up (partB (fun _ x => elimB c r x) i l)).length = l.length := by rw [up_len, part_len]
  have hxb := hb x (List.mem_of_getElem? hx)
  rw [← part_set hx]
  unfold s_l02Echelon_l16
  rw [run_inb hx2, run_some_mat (bitR_nat (by omega) : bitR (x : Int) (c : Int) = _), Tre.run_cond]
  show cond (bitAt (x : Int) (c : Int)) _ _ = _
  rw [bitAt_nat (by omega) (by omega)]
  have he : elimB c r x = cond (x.testBit c) (x ^^^ r) x := rfl
  rw [he]
  cases x.testBit c
  ·rw [cond_false, Tre.run_ret, iwrap_succ (by omega)]
   refine congrArg (fun z => some (Sum.inl (((i + 1 : Nat) : Int), z))) ?_
   rw [cond_false, ← up_set]
   exact (List.ext_getElem? fun j => by
    rw [List.getElem?_set]
    by_cases hj : i = j
    ·subst hj; rw [if_pos rfl, hx2, if_pos (List.getElem?_eq_some_iff.1 hx2).1]
    ·rw [if_neg hj]).symm
  ·rw [cond_true, run_at hx2, run_at hx2, Tre.run_ret, iwrap_succ (by omega), ixor_nat (by omega) (by omega), Int.toNat_natCast, cond_true, ← up_set])
  (by
  unfold s_l02Echelon_l16
  have : ((partB (fun _ x => elimB c r x) l.length l).length : Int) = (l.length : Int) := by rw [part_len]
  show (Tre.cond (decide ((l.length : Int) < ((up (partB (fun _ x => elimB c r x) l.length l)).length : Int))) _ _).run some = _
  rw [up_len, part_len]
  exact run_out)
 rw [this, mapIdx_const]
 rfl
theorem s_l02Echelon_l21_eq : s_l02Echelon_l21 = s_l02Echelon_l16 := rfl
theorem s_l02Echelon_loop (m : Nat) (hm : m ≤ 62) (orig : List Nat) : ∀ (n c : Nat) (E : List (Nat × Nat)) (R : List Nat), c + n = m → Inv orig c E R → E.length ≤ c → R.length ≤ 1048576 → (∀ x ∈ R, x < 2 ^ m) → (∀ a ∈ E, a.2 < 2 ^ m) →
  ∃ E' : List Nat, loopF (s_l02Echelon_l4 (m : Int)) ((c : Int), up R, up (E.map (·.2))) = some (up E') ∧ IsEch orig E' := by
 intro n
 have hp := pow_le hm
 induction n with
 | zero =>
  intro c E R hc hI _ _ hR _
  have : c = m := hc
  subst this
  refine ⟨E.map (·.2), loopF_done ?_, hI.done fun x hx => zero_of_bits (hR x hx) (hI.low x hx)⟩
  unfold s_l02Echelon_l4
  exact run_out
 | succ n ih =>
  intro c E R hc hI hE hl hR hEb
  have hcm : c < m := by omega
  have hstep : ∀ E2 R2, Inv orig (c + 1) E2 R2 → E2.length ≤ c + 1 → R2.length ≤ 1048576 → (∀ x ∈ R2, x < 2 ^ m) → (∀ a ∈ E2, a.2 < 2 ^ m) → (s_l02Echelon_l4 (m : Int) ((c : Int), up R, up (E.map (·.2)))).run some = some (.inl (((c + 1 : Nat) : Int), up R2, up (E2.map (·.2)))) →
    ∃ E' : List Nat, loopF (s_l02Echelon_l4 (m : Int)) ((c : Int), up R, up (E.map (·.2))) = some (up E') ∧ IsEch orig E' := by
   intro E2 R2 h1 h2 h3 h4 h5 h6
   rw [loopF_step h6]
   exact ih (c + 1) E2 R2 (by omega) h1 h2 h3 h4 h5
  have hfind := s_l02Echelon_find c (by omega) (up R) (by rw [up_len]; exact hl)
  have hw : iwrap .i64 ((c : Int) + 1) = ((c + 1 : Nat) : Int) := iwrap_succ (by omega)
  have hdec : decide ((c : Int) < (m : Int)) = true := by simpa using hcm
  rcases idxI_cases (fun x => bitAt x (c : Int)) (up R) 0 with ⟨h1, h2⟩ | ⟨k, x, h1, h2, h3⟩
  ·refine hstep E R (hI.skip fun x hx => ?_) (by omega) hl hR hEb ?_
   ·have := h2 (x : Int) (List.mem_map.2 ⟨x, hx, rfl⟩)
    have hxb := hR x hx
    rwa [bitAt_nat (by omega) (by omega)] at this
   ·unfold s_l02Echelon_l4
    rw [Tre.run_cond]
    show cond (decide ((c : Int) < (m : Int))) _ _ = _
    rw [hdec, cond_true, run_some_mat (hfind.trans (by rw [h1])), Tre.run_cond]
    simp only [show decide ((-1 : Int) < 0) = true from rfl, cond_true, Tre.run_ret, hw]
  ·obtain ⟨r, hr1, rfl⟩ : ∃ r : Nat, R[k]? = some r ∧ (r : Int) = x := by
    simp only [up, List.getElem?_map, Option.map_eq_some_iff] at h1
    exact h1
   have hrm : r ∈ R := List.mem_of_getElem? hr1
   have hrb := hR r hrm
   rw [bitAt_nat (by omega) (by omega)] at h2
   rw [Nat.zero_add] at h3
   have hk : k < R.length := (List.getElem?_eq_some_iff.1 hr1).1
   have hE2 : ((E.map fun a => (a.1, elimB c r a.2)) ++ [(c, r)]).map (·.2) = (E.map (·.2)).map (elimB c r) ++ [r] := by simp [List.map_map, Function.comp_def]
   refine hstep (E.map (fun a => (a.1, elimB c r a.2)) ++ [(c, r)]) ((R.set k 0).map (elimB c r)) (hI.step hrm h2 ?_ ?_) (by simp; omega) (by simpa using hl) ?_ ?_ ?_
   ·intro y hy
    obtain ⟨x, hx, rfl⟩ := List.mem_map.1 hy
    rcases List.mem_or_eq_of_mem_set hx with hx | rfl
    ·exact .inr ⟨x, hx, rfl⟩
    ·exact .inl (by unfold elimB; simp)
   ·intro x hx
    obtain ⟨j, hj⟩ := List.getElem?_of_mem hx
    by_cases hjk : k = j
    ·subst hjk; rw [hr1] at hj; exact .inl (Option.some.inj hj).symm
    ·refine .inr (List.mem_map.2 ⟨x, List.mem_of_getElem? (i := j) ?_, rfl⟩)
     rw [List.getElem?_set, if_neg hjk, hj]
   ·intro y hy
    obtain ⟨x, hx, rfl⟩ := List.mem_map.1 hy
    refine elimB_lt hrb ?_
    rcases List.mem_or_eq_of_mem_set hx with hx | rfl
    ·exact hR x hx
    ·exact Nat.two_pow_pos m
   ·intro a ha
    rcases List.mem_append.1 ha with ha | ha
    ·obtain ⟨b, hb, rfl⟩ := List.mem_map.1 ha
     exact elimB_lt hrb (hEb b hb)
    ·simp only [List.mem_singleton] at ha; subst ha; exact hrb
   ·have e1 := s_l02Echelon_elim c r (by omega) (by omega) (R.set k 0) (fun x hx => by
     rcases List.mem_or_eq_of_mem_set hx with hx | rfl
     ·have := hR x hx; omega
     ·decide) (by simpa using hl)
    have e2 : loopF (s_l02Echelon_l21 (c : Int) (r : Int)) (0, up (E.map (·.2))) = some (up ((E.map (·.2)).map (elimB c r))) := by
     rw [s_l02Echelon_l21_eq]
     exact s_l02Echelon_elim c r (by omega) (by omega) (E.map (·.2)) (fun x hx => by
     obtain ⟨a, ha, rfl⟩ := List.mem_map.1 hx
     have := hEb a ha
     omega) (by simp; omega)
    unfold s_l02Echelon_l4
    rw [Tre.run_cond]
    show cond (decide ((c : Int) < (m : Int))) _ _ = _
    rw [hdec, cond_true, run_some_mat (hfind.trans (by rw [h3])), Tre.run_cond]
    rw [show decide ((k : Int) < 0) = false from by simp, cond_false, run_at h1, run_at h1, Int.toNat_natCast]
    rw [show (up R).set k 0 = up (R.set k 0) from up_set R k 0, run_some_mat e1, run_some_mat e2]
    rw [Tre.run_ite, if_pos (by unfold appendMax; rw [up_len]; simp; omega), Tre.run_ret, hw, hE2]
    simp [up]
theorem s_l02Echelon_spec (p0 : Int) (p1 : List Int) (y : List Int) (h : echB p0 p1 = some y) : s_l02Echelon_F p0 p1 = some y := by
 obtain ⟨hl, rfl⟩ := askO_some h
 rw [Bool.and_eq_true, inR_iff] at hl
 obtain ⟨m, rfl⟩ : ∃ m : Nat, p0 = (m : Int) := ⟨p0.toNat, by omega⟩
 obtain ⟨ns, rfl, hlen, hb, hn⟩ := okRows_up hl.2
 rw [Int.toNat_natCast] at hb
 obtain ⟨E, h1, h2⟩ := s_l02Echelon_loop m (by omega) ns m 0 [] ns (by omega) (Inv.start ns) (Nat.zero_le _) hlen hb (fun a ha => by cases ha)
 unfold s_l02Echelon_F s_l02Echelon
 have e1 : cloneR (up ns) = some (up ns) := lim_of (by rw [up_len]; exact hlen)
 have h1 : loopF (s_l02Echelon_l4 (m : Int)) (0, up ns, []) = some (up E) := h1
 rw [run_some_mat e1, run_some_mat h1]
 unfold echI
 rw [hn, ech_of h2]
 rfl
noncomputable def s_l02Echelon_V : Env := ⟨tau, [(105, s_l00Own_c), (106, s_l02Bit_c)], []⟩
noncomputable def s_l02Echelon_b : Code := (Try.f56.body).getD .skip
noncomputable def s_l02Echelon_l8_mk (h8_0_0 : Int) (h8_0_1 : Int) (h8_0_4 : (List Int)) (h8_0_5 : (List Int)) : (Int × Int) → St := fun x => stOf [(0, (.imm true (.int .i64) h8_0_0)), (5, (.ref (7, 0) [])), (6, (.ref (8, 0) [])), (7, (.imm true (.int .i64) h8_0_1)), (8, (.imm true (.int .i64) x.1)), (9, (.imm true (.int .i64) x.2))] [((7, 0), some ⟨false, (.sl (.int .i64)), .own, h8_0_4⟩), ((8, 0), some ⟨false, (.sl (.int .i64)), .own, h8_0_5⟩)]
noncomputable def s_l02Echelon_l8_out (h8_0_0 : Int) (h8_0_1 : Int) (h8_0_4 : (List Int)) (h8_0_5 : (List Int)) : Int → Ex × St := fun x => (.exit 2, stOf [(0, (.imm true (.int .i64) h8_0_0)), (5, (.ref (7, 0) [])), (6, (.ref (8, 0) [])), (7, (.imm true (.int .i64) h8_0_1)), (8, (.imm true (.int .i64) x))] [((7, 0), some ⟨false, (.sl (.int .i64)), .own, h8_0_4⟩), ((8, 0), some ⟨false, (.sl (.int .i64)), .own, h8_0_5⟩)])
noncomputable def s_l02Echelon_l8_D (s : St) : Tre (Ex × St) :=
 asImmZ true (.int .i64) (s.tmps 0) fun d2 =>
 asRef (7, 0) [] (s.tmps 5) <|
 asRef (8, 0) [] (s.tmps 6) <|
 asImmZ true (.int .i64) (s.tmps 7) fun d6 =>
 asImmZ true (.int .i64) (s.tmps 8) fun d8 =>
 asImmZ true (.int .i64) (s.tmps 9) fun d10 =>
 asRoot false (.sl (.int .i64)) (s.roots (7, 0)) fun m12 d13 =>
 asM .own m12 <|
 asRoot false (.sl (.int .i64)) (s.roots (8, 0)) fun m15 d16 =>
 asM .own m15 <|
 .mat (loopF (s_l02Echelon_l8 d6 d13) (d8, d10)) fun x => .ret (s_l02Echelon_l8_out d2 d6 d13 d16 x)
noncomputable def s_l02Echelon_l8_L : LoopI := ⟨([0, 5, 6, 7, 8, 9], [(7, 0), (8, 0)]), ([0, 5, 6, 7, 8], [(7, 0), (8, 0)]), s_l02Echelon_l8_D⟩
noncomputable def s_l02Echelon_l16_mk (h16_0_0 : Int) (h16_0_1 : Int) (h16_0_2 : Int) (h16_0_5 : (List Int)) : (Int × (List Int)) → St := fun x => stOf [(0, (.imm true (.int .i64) h16_0_0)), (5, (.ref (7, 0) [])), (6, (.ref (8, 0) [])), (7, (.imm true (.int .i64) h16_0_1)), (10, (.imm true (.int .i64) h16_0_2)), (11, (.imm true (.int .i64) x.1))] [((7, 0), some ⟨false, (.sl (.int .i64)), .own, x.2⟩), ((8, 0), some ⟨false, (.sl (.int .i64)), .own, h16_0_5⟩)]
noncomputable def s_l02Echelon_l16_out (h16_0_0 : Int) (h16_0_1 : Int) (h16_0_2 : Int) (h16_0_5 : (List Int)) : (List Int) → Ex × St := fun x => (.exit 4, stOf [(0, (.imm true (.int .i64) h16_0_0)), (5, (.ref (7, 0) [])), (6, (.ref (8, 0) [])), (7, (.imm true (.int .i64) h16_0_1)), (10, (.imm true (.int .i64) h16_0_2))] [((7, 0), some ⟨false, (.sl (.int .i64)), .own, x⟩), ((8, 0), some ⟨false, (.sl (.int .i64)), .own, h16_0_5⟩)])
noncomputable def s_l02Echelon_l16_D (s : St) : Tre (Ex × St) :=
 asImmZ true (.int .i64) (s.tmps 0) fun d2 =>
 asRef (7, 0) [] (s.tmps 5) <|
 asRef (8, 0) [] (s.tmps 6) <|
 asImmZ true (.int .i64) (s.tmps 7) fun d6 =>
 asImmZ true (.int .i64) (s.tmps 10) fun d8 =>
 asImmZ true (.int .i64) (s.tmps 11) fun d10 =>
 asRoot false (.sl (.int .i64)) (s.roots (7, 0)) fun m12 d13 =>
 asM .own m12 <|
 asRoot false (.sl (.int .i64)) (s.roots (8, 0)) fun m15 d16 =>
 asM .own m15 <|
 .mat (loopF (s_l02Echelon_l16 d6 d8) (d10, d13)) fun x => .ret (s_l02Echelon_l16_out d2 d6 d8 d16 x)
noncomputable def s_l02Echelon_l16_L : LoopI := ⟨([0, 5, 6, 7, 10, 11], [(7, 0), (8, 0)]), ([0, 5, 6, 7, 10], [(7, 0), (8, 0)]), s_l02Echelon_l16_D⟩
noncomputable def s_l02Echelon_l21_mk (h21_0_0 : Int) (h21_0_1 : Int) (h21_0_2 : Int) (h21_0_4 : (List Int)) : (Int × (List Int)) → St := fun x => stOf [(0, (.imm true (.int .i64) h21_0_0)), (5, (.ref (7, 0) [])), (6, (.ref (8, 0) [])), (7, (.imm true (.int .i64) h21_0_1)), (10, (.imm true (.int .i64) h21_0_2)), (12, (.imm true (.int .i64) x.1))] [((7, 0), some ⟨false, (.sl (.int .i64)), .own, h21_0_4⟩), ((8, 0), some ⟨false, (.sl (.int .i64)), .own, x.2⟩)]
noncomputable def s_l02Echelon_l21_out (h21_0_0 : Int) (h21_0_1 : Int) (h21_0_2 : Int) (h21_0_4 : (List Int)) : (List Int) → Ex × St := fun x => (.exit 6, stOf [(0, (.imm true (.int .i64) h21_0_0)), (5, (.ref (7, 0) [])), (6, (.ref (8, 0) [])), (7, (.imm true (.int .i64) h21_0_1)), (10, (.imm true (.int .i64) h21_0_2))] [((7, 0), some ⟨false, (.sl (.int .i64)), .own, h21_0_4⟩), ((8, 0), some ⟨false, (.sl (.int .i64)), .own, x⟩)])
noncomputable def s_l02Echelon_l21_D (s : St) : Tre (Ex × St) :=
 asImmZ true (.int .i64) (s.tmps 0) fun d2 =>
 asRef (7, 0) [] (s.tmps 5) <|
 asRef (8, 0) [] (s.tmps 6) <|
 asImmZ true (.int .i64) (s.tmps 7) fun d6 =>
 asImmZ true (.int .i64) (s.tmps 10) fun d8 =>
 asImmZ true (.int .i64) (s.tmps 12) fun d10 =>
 asRoot false (.sl (.int .i64)) (s.roots (7, 0)) fun m12 d13 =>
 asM .own m12 <|
 asRoot false (.sl (.int .i64)) (s.roots (8, 0)) fun m15 d16 =>
 asM .own m15 <|
 .mat (loopF (s_l02Echelon_l21 d6 d8) (d10, d16)) fun x => .ret (s_l02Echelon_l21_out d2 d6 d8 d13 x)
noncomputable def s_l02Echelon_l21_L : LoopI := ⟨([0, 5, 6, 7, 10, 12], [(7, 0), (8, 0)]), ([0, 5, 6, 7, 10], [(7, 0), (8, 0)]), s_l02Echelon_l21_D⟩
noncomputable def s_l02Echelon_l4_mk (h4_0_0 : Int) : (Int × (List Int) × (List Int)) → St := fun x => stOf [(0, (.imm true (.int .i64) h4_0_0)), (5, (.ref (7, 0) [])), (6, (.ref (8, 0) [])), (7, (.imm true (.int .i64) x.1))] [((7, 0), some ⟨false, (.sl (.int .i64)), .own, x.2.1⟩), ((8, 0), some ⟨false, (.sl (.int .i64)), .own, x.2.2⟩)]
noncomputable def s_l02Echelon_l4_out (_h4_0_0 : Int) : (List Int) → Ex × St := fun x => (.exit 0, stOf [(6, (.ref (8, 0) []))] [((8, 0), some ⟨false, (.sl (.int .i64)), .own, x⟩)])
noncomputable def s_l02Echelon_l4_D (s : St) : Tre (Ex × St) :=
 asImmZ true (.int .i64) (s.tmps 0) fun d2 =>
 asRef (7, 0) [] (s.tmps 5) <|
 asRef (8, 0) [] (s.tmps 6) <|
 asImmZ true (.int .i64) (s.tmps 7) fun d6 =>
 asRoot false (.sl (.int .i64)) (s.roots (7, 0)) fun m8 d9 =>
 asM .own m8 <|
 asRoot false (.sl (.int .i64)) (s.roots (8, 0)) fun m11 d12 =>
 asM .own m11 <|
 .mat (loopF (s_l02Echelon_l4 d2) (d6, d9, d12)) fun x => .ret (s_l02Echelon_l4_out d2 x)
noncomputable def s_l02Echelon_l4_L : LoopI := ⟨([0, 5, 6, 7], [(7, 0), (8, 0)]), ([6], [(8, 0)]), s_l02Echelon_l4_D⟩
noncomputable def s_l02Echelon_A : List (Nat × LoopI) := [(8, s_l02Echelon_l8_L), (16, s_l02Echelon_l16_L), (21, s_l02Echelon_l21_L), (4, s_l02Echelon_l4_L)]
set_option maxRecDepth 100000 in
theorem s_l02Echelon_l8_step : ∀ (h8_0_0 : Int) (h8_0_1 : Int) (h8_0_4 : (List Int)) (h8_0_5 : (List Int)) (x : (Int × Int)) (c : St → Option (Ex × St)), den s_l02Echelon_V s_l02Echelon_A (loopAt s_l02Echelon_b 1) (s_l02Echelon_l8_mk h8_0_0 h8_0_1 h8_0_4 h8_0_5 x) (roundK s_l02Echelon_l8_L.kp s_l02Echelon_l8_L.kx c) = (s_l02Echelon_l8 h8_0_1 h8_0_4 x).run (roundR (s_l02Echelon_l8_mk h8_0_0 h8_0_1 h8_0_4 h8_0_5) (s_l02Echelon_l8_out h8_0_0 h8_0_1 h8_0_4 h8_0_5) c) := fun _ _ _ _ _ _ => by
 kernel_rfl
theorem s_l02Echelon_l8_ok : LoopOK s_l02Echelon_V s_l02Echelon_A (loopAt s_l02Echelon_b 1) s_l02Echelon_l8_L := loopOK_of fun s e s' h => by
 generalize hs : restrict s_l02Echelon_l8_L.kp s = s1 at h
 have h : (s_l02Echelon_l8_D s1).run some = some (e, s') := h
 obtain ⟨d2, e1, h_0⟩ := asImmZ_spec h
 obtain ⟨e3, h_1⟩ := asRef_spec h_0
 obtain ⟨e4, h_2⟩ := asRef_spec h_1
 obtain ⟨d6, e5, h_3⟩ := asImmZ_spec h_2
 obtain ⟨d8, e7, h_4⟩ := asImmZ_spec h_3
 obtain ⟨d10, e9, h_5⟩ := asImmZ_spec h_4
 obtain ⟨m12, d13, e11, h_6⟩ := asRoot_spec h_5
 obtain ⟨rfl, h_7⟩ := asM_spec h_6
 obtain ⟨m15, d16, e14, h_8⟩ := asRoot_spec h_7
 obtain ⟨rfl, h_9⟩ := asM_spec h_8
 obtain ⟨y, hy, hz⟩ := mat_ret h_9
 refine ⟨_, _, s_l02Echelon_l8_mk d2 d6 d13 d16, s_l02Echelon_l8_out d2 d6 d13 d16, s_l02Echelon_l8 d6 d13, (d8, d10), y, ?_, hy, ?_, s_l02Echelon_l8_step d2 d6 d13 d16⟩
 ·subst hs; exact restrict_eq (T := [(0, (.imm true (.int .i64) d2)), (5, (.ref (7, 0) [])), (6, (.ref (8, 0) [])), (7, (.imm true (.int .i64) d6)), (8, (.imm true (.int .i64) d8)), (9, (.imm true (.int .i64) d10))]) (U := [((7, 0), some ⟨false, (.sl (.int .i64)), .own, d13⟩), ((8, 0), some ⟨false, (.sl (.int .i64)), .own, d16⟩)]) rfl rfl ⟨e1, e3, e4, e5, e7, e9, trivial⟩ ⟨e11, e14, trivial⟩
 ·exact Option.some.inj hz
set_option maxRecDepth 100000 in
theorem s_l02Echelon_l16_step : ∀ (h16_0_0 : Int) (h16_0_1 : Int) (h16_0_2 : Int) (h16_0_5 : (List Int)) (x : (Int × (List Int))) (c : St → Option (Ex × St)), den s_l02Echelon_V s_l02Echelon_A (loopAt s_l02Echelon_b 2) (s_l02Echelon_l16_mk h16_0_0 h16_0_1 h16_0_2 h16_0_5 x) (roundK s_l02Echelon_l16_L.kp s_l02Echelon_l16_L.kx c) = (s_l02Echelon_l16 h16_0_1 h16_0_2 x).run (roundR (s_l02Echelon_l16_mk h16_0_0 h16_0_1 h16_0_2 h16_0_5) (s_l02Echelon_l16_out h16_0_0 h16_0_1 h16_0_2 h16_0_5) c) := fun _ _ _ _ _ _ => by
 kernel_rfl
theorem s_l02Echelon_l16_ok : LoopOK s_l02Echelon_V s_l02Echelon_A (loopAt s_l02Echelon_b 2) s_l02Echelon_l16_L := loopOK_of fun s e s' h => by
 generalize hs : restrict s_l02Echelon_l16_L.kp s = s1 at h
 have h : (s_l02Echelon_l16_D s1).run some = some (e, s') := h
 obtain ⟨d2, e1, h_0⟩ := asImmZ_spec h
 obtain ⟨e3, h_1⟩ := asRef_spec h_0
 obtain ⟨e4, h_2⟩ := asRef_spec h_1
 obtain ⟨d6, e5, h_3⟩ := asImmZ_spec h_2
 obtain ⟨d8, e7, h_4⟩ := asImmZ_spec h_3
 obtain ⟨d10, e9, h_5⟩ := asImmZ_spec h_4
 obtain ⟨m12, d13, e11, h_6⟩ := asRoot_spec h_5
 obtain ⟨rfl, h_7⟩ := asM_spec h_6
 obtain ⟨m15, d16, e14, h_8⟩ := asRoot_spec h_7
 obtain ⟨rfl, h_9⟩ := asM_spec h_8
 obtain ⟨y, hy, hz⟩ := mat_ret h_9
 refine ⟨_, _, s_l02Echelon_l16_mk d2 d6 d8 d16, s_l02Echelon_l16_out d2 d6 d8 d16, s_l02Echelon_l16 d6 d8, (d10, d13), y, ?_, hy, ?_, s_l02Echelon_l16_step d2 d6 d8 d16⟩
 ·subst hs; exact restrict_eq (T := [(0, (.imm true (.int .i64) d2)), (5, (.ref (7, 0) [])), (6, (.ref (8, 0) [])), (7, (.imm true (.int .i64) d6)), (10, (.imm true (.int .i64) d8)), (11, (.imm true (.int .i64) d10))]) (U := [((7, 0), some ⟨false, (.sl (.int .i64)), .own, d13⟩), ((8, 0), some ⟨false, (.sl (.int .i64)), .own, d16⟩)]) rfl rfl ⟨e1, e3, e4, e5, e7, e9, trivial⟩ ⟨e11, e14, trivial⟩
 ·exact Option.some.inj hz
set_option maxRecDepth 100000 in
theorem s_l02Echelon_l21_step : ∀ (h21_0_0 : Int) (h21_0_1 : Int) (h21_0_2 : Int) (h21_0_4 : (List Int)) (x : (Int × (List Int))) (c : St → Option (Ex × St)), den s_l02Echelon_V s_l02Echelon_A (loopAt s_l02Echelon_b 3) (s_l02Echelon_l21_mk h21_0_0 h21_0_1 h21_0_2 h21_0_4 x) (roundK s_l02Echelon_l21_L.kp s_l02Echelon_l21_L.kx c) = (s_l02Echelon_l21 h21_0_1 h21_0_2 x).run (roundR (s_l02Echelon_l21_mk h21_0_0 h21_0_1 h21_0_2 h21_0_4) (s_l02Echelon_l21_out h21_0_0 h21_0_1 h21_0_2 h21_0_4) c) := fun _ _ _ _ _ _ => by
 kernel_rfl
theorem s_l02Echelon_l21_ok : LoopOK s_l02Echelon_V s_l02Echelon_A (loopAt s_l02Echelon_b 3) s_l02Echelon_l21_L := loopOK_of fun s e s' h => by
 generalize hs : restrict s_l02Echelon_l21_L.kp s = s1 at h
 have h : (s_l02Echelon_l21_D s1).run some = some (e, s') := h
 obtain ⟨d2, e1, h_0⟩ := asImmZ_spec h
 obtain ⟨e3, h_1⟩ := asRef_spec h_0
 obtain ⟨e4, h_2⟩ := asRef_spec h_1
 obtain ⟨d6, e5, h_3⟩ := asImmZ_spec h_2
 obtain ⟨d8, e7, h_4⟩ := asImmZ_spec h_3
 obtain ⟨d10, e9, h_5⟩ := asImmZ_spec h_4
 obtain ⟨m12, d13, e11, h_6⟩ := asRoot_spec h_5
 obtain ⟨rfl, h_7⟩ := asM_spec h_6
 obtain ⟨m15, d16, e14, h_8⟩ := asRoot_spec h_7
 obtain ⟨rfl, h_9⟩ := asM_spec h_8
 obtain ⟨y, hy, hz⟩ := mat_ret h_9
 refine ⟨_, _, s_l02Echelon_l21_mk d2 d6 d8 d13, s_l02Echelon_l21_out d2 d6 d8 d13, s_l02Echelon_l21 d6 d8, (d10, d16), y, ?_, hy, ?_, s_l02Echelon_l21_step d2 d6 d8 d13⟩
 ·subst hs; exact restrict_eq (T := [(0, (.imm true (.int .i64) d2)), (5, (.ref (7, 0) [])), (6, (.ref (8, 0) [])), (7, (.imm true (.int .i64) d6)), (10, (.imm true (.int .i64) d8)), (12, (.imm true (.int .i64) d10))]) (U := [((7, 0), some ⟨false, (.sl (.int .i64)), .own, d13⟩), ((8, 0), some ⟨false, (.sl (.int .i64)), .own, d16⟩)]) rfl rfl ⟨e1, e3, e4, e5, e7, e9, trivial⟩ ⟨e11, e14, trivial⟩
 ·exact Option.some.inj hz
set_option maxRecDepth 100000 in
theorem s_l02Echelon_l4_step : ∀ (h4_0_0 : Int) (x : (Int × (List Int) × (List Int))) (c : St → Option (Ex × St)), den s_l02Echelon_V s_l02Echelon_A (loopAt s_l02Echelon_b 0) (s_l02Echelon_l4_mk h4_0_0 x) (roundK s_l02Echelon_l4_L.kp s_l02Echelon_l4_L.kx c) = (s_l02Echelon_l4 h4_0_0 x).run (roundR (s_l02Echelon_l4_mk h4_0_0) (s_l02Echelon_l4_out h4_0_0) c) := fun _ _ _ => by
 kernel_rfl
theorem s_l02Echelon_l4_ok : LoopOK s_l02Echelon_V s_l02Echelon_A (loopAt s_l02Echelon_b 0) s_l02Echelon_l4_L := loopOK_of fun s e s' h => by
 generalize hs : restrict s_l02Echelon_l4_L.kp s = s1 at h
 have h : (s_l02Echelon_l4_D s1).run some = some (e, s') := h
 obtain ⟨d2, e1, h_0⟩ := asImmZ_spec h
 obtain ⟨e3, h_1⟩ := asRef_spec h_0
 obtain ⟨e4, h_2⟩ := asRef_spec h_1
 obtain ⟨d6, e5, h_3⟩ := asImmZ_spec h_2
 obtain ⟨m8, d9, e7, h_4⟩ := asRoot_spec h_3
 obtain ⟨rfl, h_5⟩ := asM_spec h_4
 obtain ⟨m11, d12, e10, h_6⟩ := asRoot_spec h_5
 obtain ⟨rfl, h_7⟩ := asM_spec h_6
 obtain ⟨y, hy, hz⟩ := mat_ret h_7
 refine ⟨_, _, s_l02Echelon_l4_mk d2, s_l02Echelon_l4_out d2, s_l02Echelon_l4 d2, (d6, d9, d12), y, ?_, hy, ?_, s_l02Echelon_l4_step d2⟩
 ·subst hs; exact restrict_eq (T := [(0, (.imm true (.int .i64) d2)), (5, (.ref (7, 0) [])), (6, (.ref (8, 0) [])), (7, (.imm true (.int .i64) d6))]) (U := [((7, 0), some ⟨false, (.sl (.int .i64)), .own, d9⟩), ((8, 0), some ⟨false, (.sl (.int .i64)), .own, d12⟩)]) rfl rfl ⟨e1, e3, e4, e5, trivial⟩ ⟨e7, e10, trivial⟩
 ·exact Option.some.inj hz
noncomputable def s_l02Echelon_I : FnI := ⟨s_l02Echelon_b, Try.f56.results.toList, Try.f56.resultTypes.toList, s_l02Echelon_A⟩
noncomputable def s_l02Echelon_out (_zp0 : Bool) (_p0 : Int) (_p1 : (List Int)) : (List Int) → CallOut := fun r => ⟨(.ref (1, 0) []), [], [⟨false, (.sl (.int .i64)), .own, r⟩]⟩
set_option maxRecDepth 100000 in
theorem s_l02Echelon_eq : ∀ (zp0 : Bool) (p0 : Int) (p1 : (List Int)), denFn s_l02Echelon_V s_l02Echelon_I ⟨[(.imm true (.int .i64) p0), (.imm zp0 (.sl (.int .i64)) p1)], []⟩ = (s_l02Echelon p0 p1).run fun r => some (s_l02Echelon_out zp0 p0 p1 r) := fun _ _ _ => by kernel_rfl
noncomputable def s_l02Echelon_G (av : List AV) (rs : List Root) : Tre CallOut :=
 asCons av fun a0_ av0 =>
 asCons av0 fun a1_ av1 =>
 asEnd av1 <|
 asEnd rs <|
 asImmZ true (.int .i64) a0_ fun d1 =>
 asImm (.sl (.int .i64)) a1_ fun z3 d2 =>
 .mat (s_l02Echelon_F d1 d2) fun r => .ret (s_l02Echelon_out z3 d1 d2 r)
noncomputable def s_l02Echelon_c : Ctr := ⟨[], fun ci => s_l02Echelon_G ci.args ci.roots, false⟩
theorem s_l02Echelon_env : EnvOK Try.prog .none s_l02Echelon_V := (envOK_cons s_l00Own_ok ent105 (envOK_cons s_l02Bit_ok ent106 envOK_nil))
set_option maxRecDepth 100000 in
theorem s_l02Echelon_ok : Contract Try.prog .none 56 s_l02Echelon_c := by
 have hl : LoopsOK s_l02Echelon_V s_l02Echelon_A s_l02Echelon_b := (loopsOK_all (n := 4) (by kernel_rfl) fun k hk => by
   match k, hk with
   | 0, _ => exact loopOK_at (id := 4) (L := s_l02Echelon_l4_L) (by kernel_rfl) (by kernel_rfl) s_l02Echelon_l4_ok
   | 1, _ => exact loopOK_at (id := 8) (L := s_l02Echelon_l8_L) (by kernel_rfl) (by kernel_rfl) s_l02Echelon_l8_ok
   | 2, _ => exact loopOK_at (id := 16) (L := s_l02Echelon_l16_L) (by kernel_rfl) (by kernel_rfl) s_l02Echelon_l16_ok
   | 3, _ => exact loopOK_at (id := 21) (L := s_l02Echelon_l21_L) (by kernel_rfl) (by kernel_rfl) s_l02Echelon_l21_ok)
 refine (contract_of (F := s_l02Echelon_I) tau_tys s_l02Echelon_env Try.func56 (by kernel_rfl) (by kernel_rfl) (by kernel_rfl) hl []).weaken ?_
 rintro ⟨av, rs⟩ co h
 have h : (s_l02Echelon_G av rs).run some = some co := h
 obtain ⟨a0_, av0, rfl, h_0⟩ := asCons_spec h
 obtain ⟨a1_, av1, rfl, h_1⟩ := asCons_spec h_0
 obtain ⟨rfl, h_2⟩ := asEnd_spec h_1
 obtain ⟨rfl, h_3⟩ := asEnd_spec h_2
 obtain ⟨d1, rfl, h_4⟩ := asImmZ_spec h_3
 obtain ⟨z3, d2, rfl, h_5⟩ := asImm_spec h_4
 exact fin_mat (s_l02Echelon_eq z3 d1 d2) h_5
end Go.Proofs.Ythnkanacjhlhhaa

namespace Go.Proofs.Ythnkanacjhlhhaa
open Go Go.Abs Go.Proofs
-- shared
def Fine {α : Type} (t : Tre α) (Q : α → Prop) : Prop := ∃ a, t.run some = some a ∧ Q a
theorem Fine.ret {α : Type} {a : α} {Q : α → Prop} (h : Q a) : Fine (.ret a) Q := ⟨a, rfl, h⟩
theorem Fine.cond {α : Type} {b : Bool} {t f : Tre α} {Q : α → Prop} (ht : b = true → Fine t Q) (hf : b = false → Fine f Q) : Fine (.cond b t f) Q := by
 cases b
 ·exact hf rfl
 ·exact ht rfl
theorem Fine.condp {α : Type} {p : Prop} [Decidable p] {t f : Tre α} {Q : α → Prop} (ht : p → Fine t Q) (hf : ¬ p → Fine f Q) : Fine (.cond (decide p) t f) Q :=
 Fine.cond (fun h => ht (of_decide_eq_true h)) (fun h => hf (of_decide_eq_false h))
theorem Fine.ite {α : Type} {p : Prop} [h : Decidable p] {t : Tre α} {Q : α → Prop} (hp : p) (ht : p → Fine t Q) : Fine (.ite p t) Q := by
 obtain ⟨a, h1, h2⟩ := ht hp
 exact ⟨a, by rw [Tre.run_ite, if_pos hp]; exact h1, h2⟩
theorem Fine.ifn {α : Type} {p : Prop} [h : Decidable p] {t : Tre α} {Q : α → Prop} (hp : ¬ p) (ht : Fine t Q) : Fine (.ifn p t) Q := by
 obtain ⟨a, h1, h2⟩ := ht
 exact ⟨a, by rw [Tre.run_ifn, if_neg hp]; exact h1, h2⟩
theorem Fine.mat {α β : Type} {o : Option β} {k : β → Tre α} {P : β → Prop} {Q : α → Prop} (h : ∃ x, o = some x ∧ P x) (hk : ∀ x, P x → Fine (k x) Q) : Fine (.mat o k) Q := by
 obtain ⟨x, rfl, hx⟩ := h
 exact hk x hx
theorem Fine.get {α β : Type} {o : Option β} {x : β} {k : β → Tre α} {Q : α → Prop} (h : o = some x) (hk : Fine (k x) Q) : Fine (.mat o k) Q := by
 subst h; exact hk
theorem Fine.at {α β : Type} {xs : List β} {i : Int} {k : β → Tre α} {Q : α → Prop} (hi : 0 ≤ i ∧ i < (xs.length : Int)) (hk : ∀ x, x ∈ xs → Fine (k x) Q) : Fine (.mat xs[i.toNat]? k) Q := by
 have hl : i.toNat < xs.length := by omega
 exact .get (List.getElem?_eq_getElem hl) (hk _ (List.getElem_mem hl))
theorem Fine.run {α : Type} {t : Tre α} {Q : α → Prop} (h : Fine t Q) : ∃ a, t.run some = some a ∧ Q a := h
abbrev Src := List Int × Int × Int × Unit
def srcOK (c : Nat) (s : Src) : Prop := s.1.length ≤ 3000 ∧ (∀ x ∈ s.1, 0 ≤ x ∧ x ≤ 255) ∧ 0 ≤ s.2.1 ∧ s.2.1 ≤ (c : Int)
theorem srcOK.mono {c c' : Nat} {s : Src} (h : srcOK c s) (hc : c ≤ c') : srcOK c' s := ⟨h.1, h.2.1, h.2.2.1, by have := h.2.2.2; omega⟩
theorem and255 (a : Int) : 0 ≤ iand .u64 a 255 ∧ iand .u64 a 255 ≤ 255 := by
 have h : (BitVec.ofInt 64 a &&& BitVec.ofInt 64 255).toNat ≤ 255 := by
  rw [BitVec.toNat_and]
  exact Nat.le_trans Nat.and_le_right (by decide)
 unfold iand
 show 0 ≤ iwrap .u64 (((BitVec.ofInt 64 a &&& BitVec.ofInt 64 255).toNat : Nat) : Int) ∧ iwrap .u64 (((BitVec.ofInt 64 a &&& BitVec.ofInt 64 255).toNat : Nat) : Int) ≤ 255
 rw [iwrap_u64 (by omega) (by omega)]
 omega
theorem next_ok {c : Nat} {s : Src} (h : srcOK c s) (hc : c ≤ 100000) : ∃ r, s_l00Src_next_6913_F s = some r ∧ ((0 ≤ r.1 ∧ r.1 ≤ 255) ∧ srcOK (c + 1) r.2) := by
 obtain ⟨h1, h2, h3, h4⟩ := h
 have hw : iwrap .i64 (s.2.1 + 1) = s.2.1 + 1 := iwrap_i64 (by omega) (by omega)
 have hsrc : ∀ v : Int, srcOK (c + 1) (s.1, iwrap .i64 (s.2.1 + 1), v, s.2.2.2) := fun v => ⟨h1, h2, by show 0 ≤ iwrap .i64 (s.2.1 + 1); omega, by show iwrap .i64 (s.2.1 + 1) ≤ ((c + 1 : Nat) : Int); omega⟩
 have hand : ∀ a : Int, 0 ≤ iwrap .i64 (iand .u64 a 255) ∧ iwrap .i64 (iand .u64 a 255) ≤ 255 := fun a => by
  have := and255 a
  rw [iwrap_i64 (by omega) (by omega)]; exact this
 unfold s_l00Src_next_6913_F s_l00Src_next_6913
 refine Fine.run (Fine.condp (fun hlt => Fine.ite ⟨h3, hlt⟩ fun hi => Fine.at hi fun x hx => ?_) (fun _ => ?_))
 ·have hb := h2 x hx
  have hx1 : iwrap .i64 x = x := iwrap_i64 (by omega) (by omega)
  exact Fine.condp (fun _ => .ret ⟨by rw [hx1]; exact hb, hsrc _⟩) (fun _ => .ret ⟨hand _, hsrc _⟩)
 ·exact Fine.condp (fun _ => .ret ⟨⟨Int.le_refl 0, by show (0 : Int) ≤ 255; omega⟩, hsrc _⟩) (fun _ => .ret ⟨hand _, hsrc _⟩)
theorem tmod_rng {x n : Int} (hx : 0 ≤ x) (hn : 0 < n) : 0 ≤ Int.tmod x n ∧ Int.tmod x n < n := ⟨Int.tmod_nonneg n hx, Int.tmod_lt_of_pos x hn⟩
theorem pick_ok {n : Int} {c : Nat} {s : Src} (h : srcOK c s) (hc : c ≤ 90000) : ∃ r, s_l00Src_pick_9f69_F n s = some r ∧ ((0 ≤ r.1 ∧ (r.1 = 0 ∨ r.1 < n)) ∧ srcOK (c + 2) r.2) := by
 unfold s_l00Src_pick_9f69_F s_l00Src_pick_9f69
 refine Fine.run (Fine.condp (fun _ => .ret ⟨⟨Int.le_refl _, .inl rfl⟩, h.mono (by omega)⟩) (fun hn => Fine.mat (next_ok h (by omega)) fun x hx => Fine.condp (fun _ => Fine.mat (next_ok hx.2 (by omega)) fun y hy => ?_) (fun _ => ?_)))
 ·refine Fine.ifn (by omega) (.ret ⟨?_, hy.2⟩)
  have h1 : iwrap .i64 (x.1 * 256) = x.1 * 256 := iwrap_i64 (by omega) (by omega)
  have h2 : iwrap .i64 (iwrap .i64 (x.1 * 256) + y.1) = x.1 * 256 + y.1 := by rw [h1]; exact iwrap_i64 (by omega) (by omega)
  show 0 ≤ Int.tmod (iwrap .i64 (iwrap .i64 (x.1 * 256) + y.1)) n ∧ (Int.tmod (iwrap .i64 (iwrap .i64 (x.1 * 256) + y.1)) n = 0 ∨ Int.tmod (iwrap .i64 (iwrap .i64 (x.1 * 256) + y.1)) n < n)
  rw [h2]
  have := tmod_rng (x := x.1 * 256 + y.1) (n := n) (by omega) (by omega)
  exact ⟨this.1, .inr this.2⟩
 ·refine Fine.ifn (by omega) (.ret ⟨?_, hx.2.mono (by omega)⟩)
  have := tmod_rng (x := x.1) (n := n) (by omega) (by omega)
  exact ⟨this.1, .inr this.2⟩
theorem one_ok {n : Int} {c : Nat} {s : Src} (h : srcOK c s) (hc : c ≤ 90000) : ∃ r, s_l00Src_one_9f69_F n s = some r ∧ srcOK (c + 2) r.2 := by
 unfold s_l00Src_one_9f69_F s_l00Src_one_9f69
 exact Fine.run (Fine.mat (pick_ok h hc) fun x hx => .ret hx.2)
end Go.Proofs.Ythnkanacjhlhhaa

namespace Go.Proofs.Ythnkanacjhlhhaa
open Go Go.Abs Go.Proofs
-- shared
def spL : Nat → Nat → List (List Int)
 | 1, 0 => [[]]
 | 1, 1 => [[1]]
 | 2, 0 => [[]]
 | 2, 1 => [[1], [2], [3]]
 | 2, 2 => [[1, 2]]
 | 3, 0 => [[]]
 | 3, 1 => [[1], [2], [3], [4], [5], [6], [7]]
 | 3, 2 => [[1, 2], [1, 4], [1, 6], [2, 4], [3, 4], [5, 2], [5, 6]]
 | 3, 3 => [[1, 2, 4]]
 | 4, 0 => [[]]
 | 4, 1 => [[1], [2], [3], [4], [5], [6], [7], [8], [9], [10], [11], [12], [13], [14], [15]]
 | 4, 2 => [[1, 2], [1, 4], [1, 6], [1, 8], [1, 10], [1, 12], [1, 14], [2, 4], [2, 8], [2, 12], [3, 4], [3, 8], [3, 12], [4, 8], [5, 2], [5, 6], [5, 8], [5, 10], [5, 14], [6, 8], [7, 8], [9, 2], [9, 4], [9, 6], [9, 10], [9, 12], [9, 14], [10, 4], [10, 12], [11, 4], [11, 12], [13, 2], [13, 6], [13, 10], [13, 14]]
 | 4, 3 => [[1, 2, 4], [1, 2, 8], [1, 2, 12], [1, 4, 8], [1, 6, 8], [1, 10, 4], [1, 10, 12], [2, 4, 8], [3, 4, 8], [5, 2, 8], [5, 6, 8], [9, 2, 4], [9, 2, 12], [9, 10, 4], [9, 10, 12]]
 | 4, 4 => [[1, 2, 4, 8]]
 | _, _ => []
def spS (n : Nat) : List (List Int) := (List.range (n + 1)).flatMap (spL n)
end Go.Proofs.Ythnkanacjhlhhaa

namespace Go.Proofs.Ythnkanacjhlhhaa
open Go Go.Abs Go.Proofs
-- shared
theorem ech_is {b : Nat} {xs : List Int} (hb : b ≤ 62) (h : okRows b xs = true) : IsEch (xs.map Int.toNat) (ech (xs.map Int.toNat)) := by
 obtain ⟨ns, rfl, hlen, hn, he⟩ := okRows_up h
 obtain ⟨E, _, h2⟩ := s_l02Echelon_loop b hb ns b 0 [] ns (by omega) (Inv.start ns) (Nat.zero_le _) hlen hn (fun a ha => by cases ha)
 rw [he, ech_of h2]; exact h2
theorem sorted_len : ∀ (l : List (Nat × Nat)) (lo b : Nat), (l.Pairwise fun a b => a.1 < b.1) → (∀ a ∈ l, lo ≤ a.1 ∧ a.1 < b) → l.length ≤ b - lo := by
 intro l
 induction l with
 | nil => intro lo b _ _; exact Nat.zero_le _
 | cons a l ih =>
  intro lo b h hb
  obtain ⟨h1, h2⟩ := List.pairwise_cons.1 h
  have := ih (a.1 + 1) b h2 fun x hx => ⟨h1 x hx, (hb x (.tail _ hx)).2⟩
  have h0 := hb a (.head _)
  simp only [List.length_cons]
  omega
theorem sp_lt {l : List Nat} {b v : Nat} (h : ∀ x ∈ l, x < 2 ^ b) (hv : Sp l v) : v < 2 ^ b := by
 induction hv with
 | zero => exact Nat.two_pow_pos b
 | add hr _ ih => exact Nat.xor_lt_two_pow (h _ hr) ih
theorem ech_cols {b : Nat} {rows E : List Nat} (h : IsEch rows E) (hb : ∀ x ∈ rows, x < 2 ^ b) : E.length ≤ b := by
 obtain ⟨P, c, hr, rfl, hs⟩ := h
 rw [List.length_map]
 refine sorted_len P 0 b (hr.2.imp fun h => h.1) fun a ha => ⟨Nat.zero_le _, ?_⟩
 have h1 : a.2 < 2 ^ b := sp_lt hb ((hs a.2).2 (Sp.mem (List.mem_map.2 ⟨a, ha, rfl⟩)))
 have h2 : 2 ^ a.1 ≤ a.2 := Nat.ge_two_pow_of_testBit (hr.1 a ha).2.1
 exact (Nat.pow_lt_pow_iff_right (by decide)).1 (Nat.lt_of_le_of_lt h2 h1)
end Go.Proofs.Ythnkanacjhlhhaa

namespace Go.Proofs.Ythnkanacjhlhhaa
open Go Go.Abs Go.Proofs
noncomputable def s_A2Space (p0 : (List Int)) (p1 : Int) : Tre (List Int) :=
 .mat (s_l02Drawn_dbdf_F p1 4 (p0, (0, (0, ())))) fun r1 =>
 .mat (s_l02Echelon_F p1 r1.2.2) fun r2 =>
 .ret r2
noncomputable def s_A2Space_F (p0 : (List Int)) (p1 : Int) : Option (List Int) := (s_A2Space p0 p1).run some
-- more
def rowsOK (n : Nat) (l : List Int) : Prop := ∀ x ∈ l, 0 ≤ x ∧ x < ((2 ^ n : Nat) : Int)
theorem drawn_ok (n : Nat) (hn : n ≤ 4) (s : Src) (hs : srcOK 0 s) : ∃ r, s_l02Drawn_dbdf_F (n : Int) 4 s = some r ∧ rowsOK n r.2.2 ∧ r.2.2.length ≤ 4 := by
 have hp2 : (2 ^ n : Nat) ≤ 16 := Nat.pow_le_pow_right (n := 2) (by decide) hn
 have hsh : ishl .i64 1 (iwrap .u64 (n : Int)) = ((2 ^ n : Nat) : Int) := by
  have : ∀ n : Nat, n < 5 → ishl .i64 1 (iwrap .u64 (n : Int)) = ((2 ^ n : Nat) : Int) := by decide
  exact this n (by omega)
 have hpos : 0 < 2 ^ n := Nat.two_pow_pos n
 have hxor : ∀ x y : Int, 0 ≤ x ∧ x < ((2 ^ n : Nat) : Int) → 0 ≤ y ∧ y < ((2 ^ n : Nat) : Int) → 0 ≤ ixor .i64 x y ∧ ixor .i64 x y < ((2 ^ n : Nat) : Int) := by
  rintro x y ⟨x0, x1⟩ ⟨y0, y1⟩
  obtain ⟨a, rfl⟩ := Int.eq_ofNat_of_zero_le x0
  obtain ⟨b, rfl⟩ := Int.eq_ofNat_of_zero_le y0
  rw [ixor_nat (by omega) (by omega)]
  have : a ^^^ b < 2 ^ n := Nat.xor_lt_two_pow (by omega) (by omega)
  omega
 have hap : ∀ {l : List Int} {x : Int}, rowsOK n l → (0 ≤ x ∧ x < ((2 ^ n : Nat) : Int)) → rowsOK n (l ++ [x]) := by
  intro l x hl hx y hy
  rcases List.mem_append.1 hy with hy | hy
  ·exact hl y hy
  ·rw [List.mem_singleton] at hy; subst hy; exact hx
 have key : ∀ (k : Nat) (c : Nat) (s : Src) (l : List Int), k ≤ 4 → c + 20 * k ≤ 1000 → srcOK c s → rowsOK n l → l.length + k ≤ 4 →
   ∃ r, loopF (s_l02Drawn_dbdf_l3 (n : Int)) ((k : Int), s, ((n : Int), (l, ()))) = some r ∧ rowsOK n r.2.2.1 ∧ r.2.2.1.length ≤ 4 := by
  intro k
  induction k with
  | zero =>
   intro c s l _ _ _ hl hk
   refine ⟨(s, ((n : Int), (l, ()))), loopF_done ?_, hl, by simpa using hk⟩
   rfl
  | succ k ih =>
   intro c s l hk4 hc hs hl hk
   have hstep : ∃ a, (s_l02Drawn_dbdf_l3 (n : Int) (((k + 1 : Nat) : Int), s, ((n : Int), (l, ())))).run some = some a ∧ (∃ s' x, a = .inl ((k : Int), s', ((n : Int), (l ++ [x], ()))) ∧ srcOK (c + 20) s' ∧ (0 ≤ x ∧ x < ((2 ^ n : Nat) : Int))) := by
    unfold s_l02Drawn_dbdf_l3
    have hw : iwrap .i64 (((k + 1 : Nat) : Int) - 1) = (k : Int) := by rw [iwrap_i64 (by omega) (by omega)]; omega
    refine Fine.run (Fine.condp (fun _ => Fine.ite (iwrap_u64_nonneg _) fun _ => ?_) (fun h => absurd h (by dsimp only; omega)))
    dsimp only
    rw [hsh, hw]
    have hlap : (l.length + 1) * 8 ≤ appendMax ∧ 1 ≤ 8 := by unfold appendMax; omega
    refine Fine.mat (pick_ok hs (by omega)) fun r3 h3 => Fine.mat (one_ok h3.2 (by omega)) fun r4 h4 => ?_
    have hr3 : 0 ≤ r3.1 ∧ r3.1 < ((2 ^ n : Nat) : Int) := ⟨h3.1.1, by rcases h3.1.2 with h | h <;> omega⟩
    refine Fine.cond (fun _ => Fine.condp (fun hpl => Fine.mat (pick_ok h4 (by omega)) fun r5 h5 => Fine.ite ⟨h5.1.1, by rcases h5.1.2 with h | h <;> omega⟩ fun hi => Fine.at hi fun x6 hx6 => Fine.mat (one_ok h5.2 (by omega)) fun r7 h7 => Fine.cond (fun _ => Fine.mat (pick_ok h7 (by omega)) fun r8 h8 => Fine.ite ⟨h8.1.1, by rcases h8.1.2 with h | h <;> omega⟩ fun hi => Fine.at hi fun x9 hx9 => Fine.ite hlap fun _ => Fine.ret ⟨_, _, rfl, h8.2.mono (by omega), hxor _ _ (hl _ hx6) (hl _ hx9)⟩) (fun _ => Fine.ite hlap fun _ => Fine.ret ⟨_, _, rfl, h7.mono (by omega), hl _ hx6⟩)) (fun _ => Fine.ite hlap fun _ => Fine.ret ⟨_, _, rfl, h4.mono (by omega), hr3⟩)) (fun _ => Fine.ite hlap fun _ => Fine.ret ⟨_, _, rfl, h4.mono (by omega), hr3⟩)
   obtain ⟨a, ha, s', x, rfl, hs', hx⟩ := hstep
   obtain ⟨r, hr, h1, h2⟩ := ih (c + 20) s' (l ++ [x]) (by omega) (by omega) hs' (hap hl hx) (by simp; omega)
   exact ⟨r, (loopF_step ha).trans hr, h1, h2⟩
 obtain ⟨r1, hr1, hr⟩ := pick_ok (n := iwrap .i64 (4 + 1)) hs (by omega)
 have h5 : iwrap .i64 (4 + 1) = 5 := by decide
 rw [h5] at hr hr1
 obtain ⟨k, hk⟩ := Int.eq_ofNat_of_zero_le hr.1.1
 obtain ⟨r, h1, h2, h3⟩ := key k 2 r1.2 [] (by omega) (by omega) (hr.2.mono (by omega)) (fun x hx => by cases hx) (by simp; omega)
 refine ⟨(r.2.1, r.1, r.2.2.1), ?_, h2, h3⟩
 unfold s_l02Drawn_dbdf_F s_l02Drawn_dbdf
 rw [h5, run_some_mat hr1]
 rw [hk]
 rw [run_some_mat h1]
 rfl
noncomputable def closedB (n : Nat) : Bool := (spS n).all fun E => (List.range (2 ^ n)).all fun r => match s_l02Echelon_F (n : Int) (E ++ [(r : Int)]) with
 | some E' => (spS n).contains E'
 | none => false
theorem sp_cons_iff {ns E : List Nat} {r : Nat} (h : ∀ v, Sp ns v ↔ Sp E v) (v : Nat) : Sp (r :: ns) v ↔ Sp (E ++ [r]) v := by
 constructor
 ·refine Sp.trans fun x hx => ?_
  rcases List.mem_cons.1 hx with rfl | hx
  ·exact Sp.mem (by simp)
  ·exact Sp.trans (fun y hy => Sp.mem (by simp [hy])) ((h x).1 (Sp.mem hx))
 ·refine Sp.trans fun x hx => ?_
  rcases List.mem_append.1 hx with hx | hx
  ·exact Sp.trans (fun y hy => Sp.mem (by simp [hy])) ((h x).2 (Sp.mem hx))
  ·rw [List.mem_singleton] at hx; subst hx; exact Sp.mem (by simp)
theorem ech_in (n : Nat) (hn : n ≤ 4) (h0 : ([] : List Int) ∈ spS n) (hs : ∀ E ∈ spS n, okRows n E = true) (hc : closedB n = true) : ∀ ns : List Nat, (∀ x ∈ ns, x < 2 ^ n) → ∃ E : List Nat, up E ∈ spS n ∧ IsEch ns E := by
 intro ns
 induction ns with
 | nil => intro _; exact ⟨[], h0, ech_zeros (by simp)⟩
 | cons r ns ih =>
  intro hns
  obtain ⟨E, hE, hi⟩ := ih fun x hx => hns x (.tail _ hx)
  have hr : r < 2 ^ n := hns r (.head _)
  have hp2 : (2 ^ n : Nat) ≤ 16 := Nat.pow_le_pow_right (n := 2) (by decide) hn
  have h1 := List.all_eq_true.1 (List.all_eq_true.1 hc _ hE) r (List.mem_range.2 hr)
  obtain ⟨ns', he', hl', hb', hn'⟩ := okRows_up (hs _ hE)
  have hEE : E = ns' := by have := congrArg (List.map Int.toNat) he'; rwa [up_toNat, up_toNat] at this
  subst hEE
  have hlen : E.length ≤ n := by
   obtain ⟨P, c, hr', rfl, _⟩ := hi
   exact ech_cols (b := n) ⟨P, c, hr', rfl, fun _ => Iff.rfl⟩ hb'
  have hok : okRows n (up E ++ [(r : Int)]) = true := by
   rw [show up E ++ [(r : Int)] = up (E ++ [r]) from by simp [up]]
   exact okRows_of (by simp; omega) (by intro x hx; rcases List.mem_append.1 hx with hx | hx; exact hb' x hx; rw [List.mem_singleton] at hx; subst hx; exact hr)
  have hmap : (up E ++ [(r : Int)]).map Int.toNat = E ++ [r] := by rw [show up E ++ [(r : Int)] = up (E ++ [r]) from by simp [up], up_toNat]
  have h2 := s_l02Echelon_spec (n : Int) (up E ++ [(r : Int)]) _ (show echB (n : Int) (up E ++ [(r : Int)]) = some _ from askO_true (by rw [Bool.and_eq_true, inR_iff, Int.toNat_natCast]; exact ⟨by omega, hok⟩))
  rw [h2] at h1
  have h3 := ech_is (b := n) (by omega) hok
  rw [hmap] at h3
  refine ⟨ech (E ++ [r]), ?_, ?_⟩
  ·unfold echI at h1
   rw [hmap] at h1
   simpa using h1
  ·obtain ⟨P, c, q1, q2, q3⟩ := h3
   obtain ⟨P2, c2, _, _, g3⟩ := hi
   exact ⟨P, c, q1, q2, fun v => (sp_cons_iff g3 v).trans (q3 v)⟩
theorem s_A2Space_in (n : Nat) (hn : n ≤ 4) (h0 : ([] : List Int) ∈ spS n) (hs : ∀ E ∈ spS n, okRows n E = true) (hc : closedB n = true) (code : List Int) (h1 : code.length ≤ 3000) (h2 : ∀ x ∈ code, 0 ≤ x ∧ x ≤ 255) : ∃ u, s_A2Space_F code (n : Int) = some u ∧ u ∈ spS n := by
 obtain ⟨r, hr, hrow, hlen⟩ := drawn_ok n hn (code, 0, 0, ()) ⟨h1, h2, Int.le_refl _, Int.le_refl _⟩
 have hup : r.2.2 = up (r.2.2.map Int.toNat) := by
  unfold up
  rw [List.map_map]
  conv => lhs; rw [← List.map_id r.2.2]
  refine List.map_congr_left fun x hx => ?_
  have := hrow x hx
  simp; omega
 have hns : ∀ x ∈ r.2.2.map Int.toNat, x < 2 ^ n := by
  intro x hx
  obtain ⟨y, hy, rfl⟩ := List.mem_map.1 hx
  have := hrow y hy
  omega
 have hok : okRows n r.2.2 = true := by rw [hup]; exact okRows_of (by simp; omega) hns
 obtain ⟨E, hE, hi⟩ := ech_in n hn h0 hs hc _ hns
 have h3 := s_l02Echelon_spec (n : Int) r.2.2 _ (show echB (n : Int) r.2.2 = some _ from askO_true (by rw [Bool.and_eq_true, inR_iff, Int.toNat_natCast]; exact ⟨by omega, hok⟩))
 refine ⟨up E, ?_, hE⟩
 unfold s_A2Space_F s_A2Space
 have hfrom : (code, (0 : Int), (0 : Int), ()) = (code, 0, 0, ()) := rfl
 rw [run_some_mat hr, run_some_mat h3]
 unfold echI
 rw [ech_of hi]
 rfl
noncomputable def s_A2Space_V : Env := ⟨tau, [(73, s_l00From_c), (72, s_l02Drawn_dbdf_c), (56, s_l02Echelon_c)], []⟩
noncomputable def s_A2Space_b : Code := (Try.f20.body).getD .skip
noncomputable def s_A2Space_I : FnI := ⟨s_A2Space_b, Try.f20.results.toList, Try.f20.resultTypes.toList, []⟩
noncomputable def s_A2Space_out (_zp0 : Bool) (_p0 : (List Int)) (p1 : Int) : (List Int) → CallOut := fun r => ⟨(.pair (.imm true (.int .i64) p1) (.pair (.ref (1, 0) []) (.imm true .unit ()))), [], [⟨false, (.sl (.int .i64)), .own, r⟩]⟩
set_option maxRecDepth 100000 in
theorem s_A2Space_eq : ∀ (zp0 : Bool) (p0 : (List Int)) (p1 : Int), denFn s_A2Space_V s_A2Space_I ⟨[(.imm zp0 (.sl (.int .u8)) p0), (.imm true (.int .i64) p1)], []⟩ = (s_A2Space p0 p1).run fun r => some (s_A2Space_out zp0 p0 p1 r) := fun _ _ _ => by kernel_rfl
noncomputable def s_A2Space_G (av : List AV) (rs : List Root) : Tre CallOut :=
 asCons av fun a0_ av0 =>
 asCons av0 fun a1_ av1 =>
 asEnd av1 <|
 asEnd rs <|
 asImm (.sl (.int .u8)) a0_ fun z2 d1 =>
 asImmZ true (.int .i64) a1_ fun d3 =>
 .mat (s_A2Space_F d1 d3) fun r => .ret (s_A2Space_out z2 d1 d3 r)
noncomputable def s_A2Space_c : Ctr := ⟨[], fun ci => s_A2Space_G ci.args ci.roots, false⟩
theorem s_A2Space_env : EnvOK Try.prog .none s_A2Space_V := (envOK_cons s_l00From_ok ent73 (envOK_cons s_l02Drawn_dbdf_ok ent72 (envOK_cons s_l02Echelon_ok ent56 envOK_nil)))
set_option maxRecDepth 100000 in
theorem s_A2Space_ok : Contract Try.prog .none 20 s_A2Space_c := by
 have hl : LoopsOK s_A2Space_V [] s_A2Space_b := loopsOK_nil (by kernel_rfl)
 refine (contract_of (F := s_A2Space_I) tau_tys s_A2Space_env Try.func20 (by kernel_rfl) (by kernel_rfl) (by kernel_rfl) hl []).weaken ?_
 rintro ⟨av, rs⟩ co h
 have h : (s_A2Space_G av rs).run some = some co := h
 obtain ⟨a0_, av0, rfl, h_0⟩ := asCons_spec h
 obtain ⟨a1_, av1, rfl, h_1⟩ := asCons_spec h_0
 obtain ⟨rfl, h_2⟩ := asEnd_spec h_1
 obtain ⟨rfl, h_3⟩ := asEnd_spec h_2
 obtain ⟨z2, d1, rfl, h_4⟩ := asImm_spec h_3
 obtain ⟨d3, rfl, h_5⟩ := asImmZ_spec h_4
 exact fin_mat (s_A2Space_eq z2 d1 d3) h_5
end Go.Proofs.Ythnkanacjhlhhaa

namespace Go.Proofs.Ythnkanacjhlhhaa
open Go Go.Abs Go.Proofs
noncomputable def s_l00In (p0 : Int) (p1 : Int) (p2 : Int) : Tre Bool :=
 .cond (decide (p0 ≥ p1))
  (.ret (decide (p0 ≤ p2)))
  (.ret false)
noncomputable def s_l00In_F (p0 : Int) (p1 : Int) (p2 : Int) : Option Bool := (s_l00In p0 p1 p2).run some
def s_l00In_S (p0 : Int) (p1 : Int) (p2 : Int) : Bool :=
 cond (decide (p0 ≥ p1))
  (decide (p0 ≤ p2))
  (false)
theorem s_l00In_spec (p0 : Int) (p1 : Int) (p2 : Int) : s_l00In_F p0 p1 p2 = some (s_l00In_S p0 p1 p2) := (run_cond_some rfl rfl)
noncomputable def s_l00In_V : Env := ⟨tau, [], []⟩
noncomputable def s_l00In_b : Code := (Try.f40.body).getD .skip
noncomputable def s_l00In_I : FnI := ⟨s_l00In_b, Try.f40.results.toList, Try.f40.resultTypes.toList, []⟩
noncomputable def s_l00In_out (_p0 : Int) (_p1 : Int) (_p2 : Int) : Bool → CallOut := fun r => ⟨(.imm true .bool r), [], []⟩
set_option maxRecDepth 100000 in
theorem s_l00In_eq : ∀ (p0 : Int) (p1 : Int) (p2 : Int), denFn s_l00In_V s_l00In_I ⟨[(.imm true (.int .i64) p0), (.imm true (.int .i64) p1), (.imm true (.int .i64) p2)], []⟩ = (s_l00In p0 p1 p2).run fun r => some (s_l00In_out p0 p1 p2 r) := fun _ _ _ => by kernel_rfl
noncomputable def s_l00In_G (av : List AV) (rs : List Root) : Tre CallOut :=
 asCons av fun a0_ av0 =>
 asCons av0 fun a1_ av1 =>
 asCons av1 fun a2_ av2 =>
 asEnd av2 <|
 asEnd rs <|
 asImmZ true (.int .i64) a0_ fun d1 =>
 asImmZ true (.int .i64) a1_ fun d2 =>
 asImmZ true (.int .i64) a2_ fun d3 =>
 .ret (s_l00In_out d1 d2 d3 (s_l00In_S d1 d2 d3))
noncomputable def s_l00In_c : Ctr := ⟨[], fun ci => s_l00In_G ci.args ci.roots, false⟩
theorem s_l00In_env : EnvOK Try.prog .none s_l00In_V := envOK_nil
set_option maxRecDepth 100000 in
theorem s_l00In_ok : Contract Try.prog .none 40 s_l00In_c := by
 have hl : LoopsOK s_l00In_V [] s_l00In_b := loopsOK_nil (by kernel_rfl)
 refine (contract_of (F := s_l00In_I) tau_tys s_l00In_env Try.func40 (by kernel_rfl) (by kernel_rfl) (by kernel_rfl) hl []).weaken ?_
 rintro ⟨av, rs⟩ co h
 have h : (s_l00In_G av rs).run some = some co := h
 obtain ⟨a0_, av0, rfl, h_0⟩ := asCons_spec h
 obtain ⟨a1_, av1, rfl, h_1⟩ := asCons_spec h_0
 obtain ⟨a2_, av2, rfl, h_2⟩ := asCons_spec h_1
 obtain ⟨rfl, h_3⟩ := asEnd_spec h_2
 obtain ⟨rfl, h_4⟩ := asEnd_spec h_3
 obtain ⟨d1, rfl, h_5⟩ := asImmZ_spec h_4
 obtain ⟨d2, rfl, h_6⟩ := asImmZ_spec h_5
 obtain ⟨d3, rfl, h_7⟩ := asImmZ_spec h_6
 exact fin_ret (s_l00In_eq d1 d2 d3) (s_l00In_spec d1 d2 d3) h_7
end Go.Proofs.Ythnkanacjhlhhaa

namespace Go.Proofs.Ythnkanacjhlhhaa
open Go Go.Abs Go.Proofs
noncomputable def s_l02Ok_15aa_l4 (h4_0_1 : TMatrix) : Int → Tre (Int ⊕ (Bool ⊕ Unit)) := fun s4 =>
 .cond (decide (s4 < (h4_0_1.2.1.length : Int)))
  (.ite (0 ≤ s4 ∧ s4 < (h4_0_1.2.1.length : Int)) <|
  .mat (h4_0_1.2.1[s4.toNat]?) fun x1 =>
  .ite (0 ≤ iwrap .u64 h4_0_1.1) <|
  let v2 := ishl .i64 1 (iwrap .u64 h4_0_1.1)
  let v3 := s_l00In_S x1 0 (iwrap .i64 (v2 - 1))
  .cond (!v3)
   (.ret (.inr (.inl false)))
   (.ret (.inl (iwrap .i64 (s4 + 1)))))
  (.ret (.inr (.inr ())))
noncomputable def s_l02Ok_15aa (p0 : TMatrix) : Tre Bool :=
 .cond (!(s_l00In_S p0.1 1 10))
  (.ret false)
  (.cond (decide ((p0.2.1.length : Int) > 10))
   (.ret false)
   (.mat (loopF (s_l02Ok_15aa_l4 p0) 0) fun l4 =>
   .alt l4
    (fun a5 =>
     .ret a5)
    (fun _ =>
     .ret true)))
noncomputable def s_l02Ok_15aa_F (p0 : TMatrix) : Option Bool := (s_l02Ok_15aa p0).run some
noncomputable def s_l02Ok_15aa_V : Env := ⟨tau, [(40, s_l00In_c)], []⟩
noncomputable def s_l02Ok_15aa_b : Code := (Try.f128.body).getD .skip
noncomputable def s_l02Ok_15aa_l4_mk (z4_0 : Bool) (h4_0_1 : TMatrix) : Int → St := fun x => stOf [(0, (.ptr (0, 0) [])), (3, (.imm true (.int .i64) x))] [((0, 0), some ⟨true, kMatrix, (.imm z4_0), h4_0_1⟩)]
noncomputable def s_l02Ok_15aa_l4_out (z4_0 : Bool) (h4_0_1 : TMatrix) : (Bool ⊕ Unit) → Ex × St
 | .inl x => (.ret, stOf [(2, (.imm true .bool x))] [((0, 0), some ⟨true, kMatrix, (.imm z4_0), h4_0_1⟩)])
 | .inr x => (.exit 0, stOf [(2, .dead)] [((0, 0), some ⟨true, kMatrix, (.imm z4_0), h4_0_1⟩)])
noncomputable def s_l02Ok_15aa_l4_D (s : St) : Tre (Ex × St) :=
 asPtr (0, 0) [] (s.tmps 0) <|
 asImmZ true (.int .i64) (s.tmps 3) fun d3 =>
 asRoot true kMatrix (s.roots (0, 0)) fun m5 d6 =>
 asMImm m5 fun z7 =>
 .mat (loopF (s_l02Ok_15aa_l4 d6) d3) fun x => .alt x (fun a0 => .ret (s_l02Ok_15aa_l4_out z7 d6 (.inl a0))) (fun b0 => .ret (s_l02Ok_15aa_l4_out z7 d6 (.inr b0)))
noncomputable def s_l02Ok_15aa_l4_L : LoopI := ⟨([0, 3], [(0, 0)]), ([2], [(0, 0)]), s_l02Ok_15aa_l4_D⟩
noncomputable def s_l02Ok_15aa_A : List (Nat × LoopI) := [(4, s_l02Ok_15aa_l4_L)]
set_option maxRecDepth 100000 in
theorem s_l02Ok_15aa_l4_step : ∀ (z4_0 : Bool) (h4_0_1 : TMatrix) (x : Int) (c : St → Option (Ex × St)), den s_l02Ok_15aa_V s_l02Ok_15aa_A (loopAt s_l02Ok_15aa_b 0) (s_l02Ok_15aa_l4_mk z4_0 h4_0_1 x) (roundK s_l02Ok_15aa_l4_L.kp s_l02Ok_15aa_l4_L.kx c) = (s_l02Ok_15aa_l4 h4_0_1 x).run (roundR (s_l02Ok_15aa_l4_mk z4_0 h4_0_1) (s_l02Ok_15aa_l4_out z4_0 h4_0_1) c) := fun _ _ _ _ => by
 kernel_rfl
theorem s_l02Ok_15aa_l4_ok : LoopOK s_l02Ok_15aa_V s_l02Ok_15aa_A (loopAt s_l02Ok_15aa_b 0) s_l02Ok_15aa_l4_L := loopOK_of fun s e s' h => by
 generalize hs : restrict s_l02Ok_15aa_l4_L.kp s = s1 at h
 have h : (s_l02Ok_15aa_l4_D s1).run some = some (e, s') := h
 obtain ⟨e1, h_0⟩ := asPtr_spec h
 obtain ⟨d3, e2, h_1⟩ := asImmZ_spec h_0
 obtain ⟨m5, d6, e4, h_2⟩ := asRoot_spec h_1
 obtain ⟨z7, rfl, h_3⟩ := asMImm_spec h_2
 obtain ⟨y, hy, hz⟩ := mat_some h_3
 refine ⟨_, _, s_l02Ok_15aa_l4_mk z7 d6, s_l02Ok_15aa_l4_out z7 d6, s_l02Ok_15aa_l4 d6, d3, y, ?_, hy, ?_, s_l02Ok_15aa_l4_step z7 d6⟩
 ·subst hs; exact restrict_eq (T := [(0, (.ptr (0, 0) [])), (3, (.imm true (.int .i64) d3))]) (U := [((0, 0), some ⟨true, kMatrix, (.imm z7), d6⟩)]) rfl rfl ⟨e1, e2, trivial⟩ ⟨e4, trivial⟩
 ·rcases y with x | x <;> exact Option.some.inj hz
noncomputable def s_l02Ok_15aa_I : FnI := ⟨s_l02Ok_15aa_b, Try.f128.results.toList, Try.f128.resultTypes.toList, s_l02Ok_15aa_A⟩
noncomputable def s_l02Ok_15aa_out (zp0 : Bool) (p0 : TMatrix) : Bool → CallOut := fun r => ⟨(.imm true .bool r), [⟨true, kMatrix, (.imm zp0), p0⟩], []⟩
set_option maxRecDepth 100000 in
theorem s_l02Ok_15aa_eq : ∀ (zp0 : Bool) (p0 : TMatrix), denFn s_l02Ok_15aa_V s_l02Ok_15aa_I ⟨[(.ptr (0, 0) [])], [⟨true, kMatrix, (.imm zp0), p0⟩]⟩ = (s_l02Ok_15aa p0).run fun r => some (s_l02Ok_15aa_out zp0 p0 r) := fun _ _ => by kernel_rfl
noncomputable def s_l02Ok_15aa_G (av : List AV) (rs : List Root) : Tre CallOut :=
 asCons av fun a0_ av0 =>
 asEnd av0 <|
 asCons rs fun r0_ rs0 =>
 asEnd rs0 <|
 asPtr (0, 0) [] a0_ <|
 asRt true kMatrix r0_ fun m1 d2 =>
 asMImm m1 fun z3 =>
 .mat (s_l02Ok_15aa_F d2) fun r => .ret (s_l02Ok_15aa_out z3 d2 r)
noncomputable def s_l02Ok_15aa_c : Ctr := ⟨[], fun ci => s_l02Ok_15aa_G ci.args ci.roots, false⟩
theorem s_l02Ok_15aa_env : EnvOK Try.prog .none s_l02Ok_15aa_V := (envOK_cons s_l00In_ok ent40 envOK_nil)
set_option maxRecDepth 100000 in
theorem s_l02Ok_15aa_ok : Contract Try.prog .none 128 s_l02Ok_15aa_c := by
 have hl : LoopsOK s_l02Ok_15aa_V s_l02Ok_15aa_A s_l02Ok_15aa_b := (loopsOK_all (n := 1) (by kernel_rfl) fun k hk => by
   match k, hk with
   | 0, _ => exact loopOK_at (id := 4) (L := s_l02Ok_15aa_l4_L) (by kernel_rfl) (by kernel_rfl) s_l02Ok_15aa_l4_ok)
 refine (contract_of (F := s_l02Ok_15aa_I) tau_tys s_l02Ok_15aa_env Try.func128 (by kernel_rfl) (by kernel_rfl) (by kernel_rfl) hl []).weaken ?_
 rintro ⟨av, rs⟩ co h
 have h : (s_l02Ok_15aa_G av rs).run some = some co := h
 obtain ⟨a0_, av0, rfl, h_0⟩ := asCons_spec h
 obtain ⟨rfl, h_1⟩ := asEnd_spec h_0
 obtain ⟨r0_, rs0, rfl, h_2⟩ := asCons_spec h_1
 obtain ⟨rfl, h_3⟩ := asEnd_spec h_2
 obtain ⟨rfl, h_4⟩ := asPtr_spec h_3
 obtain ⟨m1, d2, rfl, h_5⟩ := asRt_spec h_4
 obtain ⟨z3, rfl, h_6⟩ := asMImm_spec h_5
 exact fin_mat (s_l02Ok_15aa_eq z3 d2) h_6
end Go.Proofs.Ythnkanacjhlhhaa

namespace Go.Proofs.Ythnkanacjhlhhaa
open Go Go.Abs Go.Proofs
noncomputable def s_l00Same_l4 (h4_0_0 : (List Int)) (h4_0_1 : (List Int)) : Int → Tre (Int ⊕ (Bool ⊕ Unit)) := fun s4 =>
 .cond (decide (s4 < (h4_0_0.length : Int)))
  (.ite (0 ≤ s4 ∧ s4 < (h4_0_0.length : Int)) <|
  .mat (h4_0_0[s4.toNat]?) fun x1 =>
  .ite (0 ≤ s4 ∧ s4 < (h4_0_1.length : Int)) <|
  .mat (h4_0_1[s4.toNat]?) fun x2 =>
  .cond (!decide (x1 = x2))
   (.ret (.inr (.inl false)))
   (.ret (.inl (iwrap .i64 (s4 + 1)))))
  (.ret (.inr (.inr ())))
noncomputable def s_l00Same (p0 : (List Int)) (p1 : (List Int)) : Tre Bool :=
 .cond (!decide ((p0.length : Int) = (p1.length : Int)))
  (.ret false)
  (.mat (loopF (s_l00Same_l4 p0 p1) 0) fun l3 =>
  .alt l3
   (fun a4 =>
    .ret a4)
   (fun _ =>
    .ret true))
noncomputable def s_l00Same_F (p0 : (List Int)) (p1 : (List Int)) : Option Bool := (s_l00Same p0 p1).run some
def sameL (a b : List Int) : Option Bool := askO (decide (a.length ≤ 1048576) && decide (b.length ≤ 1048576)) (decide (a = b))
def sameAt (b : List Int) (i : Nat) (x : Int) : Option (Bool ⊕ Unit) := match b[i]? with
 | some y => cond (decide (x = y)) none (some (.inl false))
 | none => none
theorem findE_same (b : List Int) : ∀ (l : List Int) (i : Nat), l.length = (b.drop i).length → findE (β := Bool ⊕ Unit) (sameAt b) (.inr ()) i l = cond (decide (l = b.drop i)) (.inr ()) (.inl false) := by
 intro l
 induction l with
 | nil =>
  intro i h
  have : b.drop i = [] := List.eq_nil_of_length_eq_zero h.symm
  rw [this]; rfl
 | cons x l ih =>
  intro i h
  have hi : i < b.length := by rw [List.length_drop, List.length_cons] at h; omega
  have hd : b.drop i = b[i] :: b.drop (i + 1) := List.drop_eq_getElem_cons hi
  have hlen : l.length = (b.drop (i + 1)).length := by rw [hd, List.length_cons, List.length_cons] at h; omega
  have hih := ih (i + 1) hlen
  simp only [findE, sameAt]
  rw [List.getElem?_eq_getElem hi]
  simp only
  by_cases hx : x = b[i]
  ·rw [decide_eq_true hx, cond_true, hih]
   by_cases hl : l = b.drop (i + 1)
   ·rw [decide_eq_true hl, decide_eq_true (show x :: l = b.drop i by rw [hd, hx, hl])]
   ·rw [decide_eq_false hl, decide_eq_false (fun h2 => hl (by rw [hd] at h2; exact (List.cons.inj h2).2))]
  ·rw [decide_eq_false hx, cond_false, decide_eq_false (fun h2 => hx (by rw [hd] at h2; exact (List.cons.inj h2).1))]
   rfl
theorem s_l00Same_spec (p0 p1 : List Int) (y : Bool) (h : sameL p0 p1 = some y) : s_l00Same_F p0 p1 = some y := by
 obtain ⟨hok, rfl⟩ := askO_some h
 simp only [Bool.and_eq_true, decide_eq_true_eq] at hok
 unfold s_l00Same_F s_l00Same
 rw [Tre.run_cond]
 by_cases hl : p0.length = p1.length
 ·rw [decide_eq_true (show (p0.length : Int) = (p1.length : Int) by omega), Bool.not_true, cond_false, Tre.run_mat, find_loop (xs := p0) (sameAt p1) (.inr ()), findE_same p1 p0 0 (by simpa using hl)]
  ·rw [List.drop_zero]
   cases decide (p0 = p1) <;> rfl
  ·intro i x hx
   have hi : i < p0.length := (List.getElem?_eq_some_iff.1 hx).1
   have hy : p1[i]? = some p1[i] := List.getElem?_eq_getElem (by omega)
   unfold s_l00Same_l4
   unfold sameAt
   rw [run_inb hx, run_at hy, Tre.run_cond, hy]
   dsimp only
   cases decide (x = p1[i])
   ·rfl
   ·simp only [Bool.not_true, cond_true, cond_false, Tre.run_ret, iwrap_succ (show i < 4611686018427387904 by omega)]
  ·unfold s_l00Same_l4
   exact run_out
 ·rw [decide_eq_false (show ¬ (p0.length : Int) = (p1.length : Int) by omega), Bool.not_false, cond_true, Tre.run_ret, decide_eq_false (fun h => hl (by rw [h]))]
noncomputable def s_l00Same_V : Env := ⟨tau, [], []⟩
noncomputable def s_l00Same_b : Code := (Try.f75.body).getD .skip
noncomputable def s_l00Same_l4_mk (z4_0 : Bool) (z4_1 : Bool) (h4_0_0 : (List Int)) (h4_0_1 : (List Int)) : Int → St := fun x => stOf [(0, (.imm z4_0 (.sl (.int .i64)) h4_0_0)), (1, (.imm z4_1 (.sl (.int .i64)) h4_0_1)), (5, (.imm true (.int .i64) x))] []
noncomputable def s_l00Same_l4_out (_z4_0 : Bool) (_z4_1 : Bool) (_h4_0_0 : (List Int)) (_h4_0_1 : (List Int)) : (Bool ⊕ Unit) → Ex × St
 | .inl x => (.ret, stOf [(4, (.imm true .bool x))] [])
 | .inr x => (.exit 0, stOf [(4, .dead)] [])
noncomputable def s_l00Same_l4_D (s : St) : Tre (Ex × St) :=
 asImm (.sl (.int .i64)) (s.tmps 0) fun z3 d2 =>
 asImm (.sl (.int .i64)) (s.tmps 1) fun z6 d5 =>
 asImmZ true (.int .i64) (s.tmps 5) fun d8 =>
 .mat (loopF (s_l00Same_l4 d2 d5) d8) fun x => .alt x (fun a0 => .ret (s_l00Same_l4_out z3 z6 d2 d5 (.inl a0))) (fun b0 => .ret (s_l00Same_l4_out z3 z6 d2 d5 (.inr b0)))
noncomputable def s_l00Same_l4_L : LoopI := ⟨([0, 1, 5], []), ([4], []), s_l00Same_l4_D⟩
noncomputable def s_l00Same_A : List (Nat × LoopI) := [(4, s_l00Same_l4_L)]
set_option maxRecDepth 100000 in
theorem s_l00Same_l4_step : ∀ (z4_0 : Bool) (z4_1 : Bool) (h4_0_0 : (List Int)) (h4_0_1 : (List Int)) (x : Int) (c : St → Option (Ex × St)), den s_l00Same_V s_l00Same_A (loopAt s_l00Same_b 0) (s_l00Same_l4_mk z4_0 z4_1 h4_0_0 h4_0_1 x) (roundK s_l00Same_l4_L.kp s_l00Same_l4_L.kx c) = (s_l00Same_l4 h4_0_0 h4_0_1 x).run (roundR (s_l00Same_l4_mk z4_0 z4_1 h4_0_0 h4_0_1) (s_l00Same_l4_out z4_0 z4_1 h4_0_0 h4_0_1) c) := fun _ _ _ _ _ _ => by
 kernel_rfl
theorem s_l00Same_l4_ok : LoopOK s_l00Same_V s_l00Same_A (loopAt s_l00Same_b 0) s_l00Same_l4_L := loopOK_of fun s e s' h => by
 generalize hs : restrict s_l00Same_l4_L.kp s = s1 at h
 have h : (s_l00Same_l4_D s1).run some = some (e, s') := h
 obtain ⟨z3, d2, e1, h_0⟩ := asImm_spec h
 obtain ⟨z6, d5, e4, h_1⟩ := asImm_spec h_0
 obtain ⟨d8, e7, h_2⟩ := asImmZ_spec h_1
 obtain ⟨y, hy, hz⟩ := mat_some h_2
 refine ⟨_, _, s_l00Same_l4_mk z3 z6 d2 d5, s_l00Same_l4_out z3 z6 d2 d5, s_l00Same_l4 d2 d5, d8, y, ?_, hy, ?_, s_l00Same_l4_step z3 z6 d2 d5⟩
 ·subst hs; exact restrict_eq (T := [(0, (.imm z3 (.sl (.int .i64)) d2)), (1, (.imm z6 (.sl (.int .i64)) d5)), (5, (.imm true (.int .i64) d8))]) (U := []) rfl rfl ⟨e1, e4, e7, trivial⟩ trivial
 ·rcases y with x | x <;> exact Option.some.inj hz
noncomputable def s_l00Same_I : FnI := ⟨s_l00Same_b, Try.f75.results.toList, Try.f75.resultTypes.toList, s_l00Same_A⟩
noncomputable def s_l00Same_out (_zp0 : Bool) (_zp1 : Bool) (_p0 : (List Int)) (_p1 : (List Int)) : Bool → CallOut := fun r => ⟨(.imm true .bool r), [], []⟩
set_option maxRecDepth 100000 in
theorem s_l00Same_eq : ∀ (zp0 : Bool) (zp1 : Bool) (p0 : (List Int)) (p1 : (List Int)), denFn s_l00Same_V s_l00Same_I ⟨[(.imm zp0 (.sl (.int .i64)) p0), (.imm zp1 (.sl (.int .i64)) p1)], []⟩ = (s_l00Same p0 p1).run fun r => some (s_l00Same_out zp0 zp1 p0 p1 r) := fun _ _ _ _ => by kernel_rfl
noncomputable def s_l00Same_G (av : List AV) (rs : List Root) : Tre CallOut :=
 asCons av fun a0_ av0 =>
 asCons av0 fun a1_ av1 =>
 asEnd av1 <|
 asEnd rs <|
 asImm (.sl (.int .i64)) a0_ fun z2 d1 =>
 asImm (.sl (.int .i64)) a1_ fun z4 d3 =>
 .mat (sameL d1 d3) fun r => .ret (s_l00Same_out z2 z4 d1 d3 r)
noncomputable def s_l00Same_c : Ctr := ⟨[], fun ci => s_l00Same_G ci.args ci.roots, false⟩
theorem s_l00Same_env : EnvOK Try.prog .none s_l00Same_V := envOK_nil
set_option maxRecDepth 100000 in
theorem s_l00Same_ok : Contract Try.prog .none 75 s_l00Same_c := by
 have hl : LoopsOK s_l00Same_V s_l00Same_A s_l00Same_b := (loopsOK_all (n := 1) (by kernel_rfl) fun k hk => by
   match k, hk with
   | 0, _ => exact loopOK_at (id := 4) (L := s_l00Same_l4_L) (by kernel_rfl) (by kernel_rfl) s_l00Same_l4_ok)
 refine (contract_of (F := s_l00Same_I) tau_tys s_l00Same_env Try.func75 (by kernel_rfl) (by kernel_rfl) (by kernel_rfl) hl []).weaken ?_
 rintro ⟨av, rs⟩ co h
 have h : (s_l00Same_G av rs).run some = some co := h
 obtain ⟨a0_, av0, rfl, h_0⟩ := asCons_spec h
 obtain ⟨a1_, av1, rfl, h_1⟩ := asCons_spec h_0
 obtain ⟨rfl, h_2⟩ := asEnd_spec h_1
 obtain ⟨rfl, h_3⟩ := asEnd_spec h_2
 obtain ⟨z2, d1, rfl, h_4⟩ := asImm_spec h_3
 obtain ⟨z4, d3, rfl, h_5⟩ := asImm_spec h_4
 exact fin_opt (s_l00Same_eq z2 z4 d1 d3) (s_l00Same_spec d1 d3) h_5
end Go.Proofs.Ythnkanacjhlhhaa

namespace Go.Proofs.Ythnkanacjhlhhaa
open Go Go.Abs Go.Proofs
noncomputable def s_l02Space_15aa (p0 : TMatrix) : Tre Bool :=
 .mat (s_l02Ok_15aa_F p0) fun r1 =>
 .cond r1
  (.mat (s_l02Echelon_F p0.1 p0.2.1) fun r2 =>
  .mat (sameL r2 p0.2.1) fun r3 =>
  .ret r3)
  (.ret false)
noncomputable def s_l02Space_15aa_F (p0 : TMatrix) : Option Bool := (s_l02Space_15aa p0).run some
noncomputable def s_l02Space_15aa_V : Env := ⟨tau, [(128, s_l02Ok_15aa_c), (56, s_l02Echelon_c), (75, s_l00Same_c)], []⟩
noncomputable def s_l02Space_15aa_b : Code := (Try.f74.body).getD .skip
noncomputable def s_l02Space_15aa_I : FnI := ⟨s_l02Space_15aa_b, Try.f74.results.toList, Try.f74.resultTypes.toList, []⟩
noncomputable def s_l02Space_15aa_out (zp0 : Bool) (p0 : TMatrix) : Bool → CallOut := fun r => ⟨(.imm true .bool r), [⟨true, kMatrix, (.imm zp0), p0⟩], []⟩
set_option maxRecDepth 100000 in
theorem s_l02Space_15aa_eq : ∀ (zp0 : Bool) (p0 : TMatrix), denFn s_l02Space_15aa_V s_l02Space_15aa_I ⟨[(.ptr (0, 0) [])], [⟨true, kMatrix, (.imm zp0), p0⟩]⟩ = (s_l02Space_15aa p0).run fun r => some (s_l02Space_15aa_out zp0 p0 r) := fun _ _ => by kernel_rfl
noncomputable def s_l02Space_15aa_G (av : List AV) (rs : List Root) : Tre CallOut :=
 asCons av fun a0_ av0 =>
 asEnd av0 <|
 asCons rs fun r0_ rs0 =>
 asEnd rs0 <|
 asPtr (0, 0) [] a0_ <|
 asRt true kMatrix r0_ fun m1 d2 =>
 asMImm m1 fun z3 =>
 .mat (s_l02Space_15aa_F d2) fun r => .ret (s_l02Space_15aa_out z3 d2 r)
noncomputable def s_l02Space_15aa_c : Ctr := ⟨[], fun ci => s_l02Space_15aa_G ci.args ci.roots, false⟩
theorem s_l02Space_15aa_env : EnvOK Try.prog .none s_l02Space_15aa_V := (envOK_cons s_l02Ok_15aa_ok ent128 (envOK_cons s_l02Echelon_ok ent56 (envOK_cons s_l00Same_ok ent75 envOK_nil)))
set_option maxRecDepth 100000 in
theorem s_l02Space_15aa_ok : Contract Try.prog .none 74 s_l02Space_15aa_c := by
 have hl : LoopsOK s_l02Space_15aa_V [] s_l02Space_15aa_b := loopsOK_nil (by kernel_rfl)
 refine (contract_of (F := s_l02Space_15aa_I) tau_tys s_l02Space_15aa_env Try.func74 (by kernel_rfl) (by kernel_rfl) (by kernel_rfl) hl []).weaken ?_
 rintro ⟨av, rs⟩ co h
 have h : (s_l02Space_15aa_G av rs).run some = some co := h
 obtain ⟨a0_, av0, rfl, h_0⟩ := asCons_spec h
 obtain ⟨rfl, h_1⟩ := asEnd_spec h_0
 obtain ⟨r0_, rs0, rfl, h_2⟩ := asCons_spec h_1
 obtain ⟨rfl, h_3⟩ := asEnd_spec h_2
 obtain ⟨rfl, h_4⟩ := asPtr_spec h_3
 obtain ⟨m1, d2, rfl, h_5⟩ := asRt_spec h_4
 obtain ⟨z3, rfl, h_6⟩ := asMImm_spec h_5
 exact fin_mat (s_l02Space_15aa_eq z3 d2) h_6
end Go.Proofs.Ythnkanacjhlhhaa

namespace Go.Proofs.Ythnkanacjhlhhaa
open Go Go.Abs Go.Proofs
noncomputable def s_IsSpace (p0 : TMatrix) : Tre Bool :=
 .mat (s_l02Space_15aa_F p0) fun r1 =>
 .ret r1
noncomputable def s_IsSpace_F (p0 : TMatrix) : Option Bool := (s_IsSpace p0).run some
noncomputable def s_IsSpace_V : Env := ⟨tau, [(74, s_l02Space_15aa_c)], []⟩
noncomputable def s_IsSpace_b : Code := (Try.f21.body).getD .skip
noncomputable def s_IsSpace_I : FnI := ⟨s_IsSpace_b, Try.f21.results.toList, Try.f21.resultTypes.toList, []⟩
noncomputable def s_IsSpace_out (_zp0 : Bool) (_p0 : TMatrix) : Bool → CallOut := fun r => ⟨(.imm true .bool r), [], []⟩
set_option maxRecDepth 100000 in
theorem s_IsSpace_eq : ∀ (zp0 : Bool) (p0 : TMatrix), denFn s_IsSpace_V s_IsSpace_I ⟨[(.imm zp0 kMatrix p0)], []⟩ = (s_IsSpace p0).run fun r => some (s_IsSpace_out zp0 p0 r) := fun _ _ => by kernel_rfl
noncomputable def s_IsSpace_G (av : List AV) (rs : List Root) : Tre CallOut :=
 asCons av fun a0_ av0 =>
 asEnd av0 <|
 asEnd rs <|
 asImm kMatrix a0_ fun z2 d1 =>
 .mat (s_IsSpace_F d1) fun r => .ret (s_IsSpace_out z2 d1 r)
noncomputable def s_IsSpace_c : Ctr := ⟨[], fun ci => s_IsSpace_G ci.args ci.roots, false⟩
theorem s_IsSpace_env : EnvOK Try.prog .none s_IsSpace_V := (envOK_cons s_l02Space_15aa_ok ent74 envOK_nil)
set_option maxRecDepth 100000 in
theorem s_IsSpace_ok : Contract Try.prog .none 21 s_IsSpace_c := by
 have hl : LoopsOK s_IsSpace_V [] s_IsSpace_b := loopsOK_nil (by kernel_rfl)
 refine (contract_of (F := s_IsSpace_I) tau_tys s_IsSpace_env Try.func21 (by kernel_rfl) (by kernel_rfl) (by kernel_rfl) hl []).weaken ?_
 rintro ⟨av, rs⟩ co h
 have h : (s_IsSpace_G av rs).run some = some co := h
 obtain ⟨a0_, av0, rfl, h_0⟩ := asCons_spec h
 obtain ⟨rfl, h_1⟩ := asEnd_spec h_0
 obtain ⟨rfl, h_2⟩ := asEnd_spec h_1
 obtain ⟨z2, d1, rfl, h_3⟩ := asImm_spec h_2
 exact fin_mat (s_IsSpace_eq z2 d1) h_3
end Go.Proofs.Ythnkanacjhlhhaa

namespace Go.Proofs.Ythnkanacjhlhhaa
open Go Go.Abs Go.Proofs
noncomputable def s_SameMatrix (p0 : TMatrix) (p1 : TMatrix) : Tre Bool :=
 .cond (decide (p0.1 = p1.1))
  (.mat (sameL p0.2.1 p1.2.1) fun r1 =>
  .ret r1)
  (.ret false)
noncomputable def s_SameMatrix_F (p0 : TMatrix) (p1 : TMatrix) : Option Bool := (s_SameMatrix p0 p1).run some
-- more
def sameV (x m : Int × List Int × Unit) : Bool := decide (x.1 = m.1) && decide (x.2.1 = m.2.1)
theorem s_SameMatrix_is (x m : Int × List Int × Unit) (h1 : x.2.1.length ≤ 1048576) (h2 : m.2.1.length ≤ 1048576) : s_SameMatrix_F x m = some (sameV x m) := by
 unfold s_SameMatrix_F s_SameMatrix sameV
 rw [Tre.run_cond]
 cases decide (x.1 = m.1)
 ·rfl
 ·rw [cond_true, run_some_mat (show sameL x.2.1 m.2.1 = some _ from askO_true (by rw [decide_eq_true h1, decide_eq_true h2]; rfl))]
  rfl
noncomputable def s_SameMatrix_V : Env := ⟨tau, [(75, s_l00Same_c)], []⟩
noncomputable def s_SameMatrix_b : Code := (Try.f22.body).getD .skip
noncomputable def s_SameMatrix_I : FnI := ⟨s_SameMatrix_b, Try.f22.results.toList, Try.f22.resultTypes.toList, []⟩
noncomputable def s_SameMatrix_out (_zp0 : Bool) (_zp1 : Bool) (_p0 : TMatrix) (_p1 : TMatrix) : Bool → CallOut := fun r => ⟨(.imm true .bool r), [], []⟩
set_option maxRecDepth 100000 in
theorem s_SameMatrix_eq : ∀ (zp0 : Bool) (zp1 : Bool) (p0 : TMatrix) (p1 : TMatrix), denFn s_SameMatrix_V s_SameMatrix_I ⟨[(.imm zp0 kMatrix p0), (.imm zp1 kMatrix p1)], []⟩ = (s_SameMatrix p0 p1).run fun r => some (s_SameMatrix_out zp0 zp1 p0 p1 r) := fun _ _ _ _ => by kernel_rfl
noncomputable def s_SameMatrix_G (av : List AV) (rs : List Root) : Tre CallOut :=
 asCons av fun a0_ av0 =>
 asCons av0 fun a1_ av1 =>
 asEnd av1 <|
 asEnd rs <|
 asImm kMatrix a0_ fun z2 d1 =>
 asImm kMatrix a1_ fun z4 d3 =>
 .mat (s_SameMatrix_F d1 d3) fun r => .ret (s_SameMatrix_out z2 z4 d1 d3 r)
noncomputable def s_SameMatrix_c : Ctr := ⟨[], fun ci => s_SameMatrix_G ci.args ci.roots, false⟩
theorem s_SameMatrix_env : EnvOK Try.prog .none s_SameMatrix_V := (envOK_cons s_l00Same_ok ent75 envOK_nil)
set_option maxRecDepth 100000 in
theorem s_SameMatrix_ok : Contract Try.prog .none 22 s_SameMatrix_c := by
 have hl : LoopsOK s_SameMatrix_V [] s_SameMatrix_b := loopsOK_nil (by kernel_rfl)
 refine (contract_of (F := s_SameMatrix_I) tau_tys s_SameMatrix_env Try.func22 (by kernel_rfl) (by kernel_rfl) (by kernel_rfl) hl []).weaken ?_
 rintro ⟨av, rs⟩ co h
 have h : (s_SameMatrix_G av rs).run some = some co := h
 obtain ⟨a0_, av0, rfl, h_0⟩ := asCons_spec h
 obtain ⟨a1_, av1, rfl, h_1⟩ := asCons_spec h_0
 obtain ⟨rfl, h_2⟩ := asEnd_spec h_1
 obtain ⟨rfl, h_3⟩ := asEnd_spec h_2
 obtain ⟨z2, d1, rfl, h_4⟩ := asImm_spec h_3
 obtain ⟨z4, d3, rfl, h_5⟩ := asImm_spec h_4
 exact fin_mat (s_SameMatrix_eq z2 z4 d1 d3) h_5
end Go.Proofs.Ythnkanacjhlhhaa

namespace Go.Proofs.Ythnkanacjhlhhaa
open Go Go.Abs Go.Proofs
noncomputable def i_Matrix_has (p0 : TMatrix) (p1 : Int) : Tre Bool :=
 .ite (0 ≤ p0.1) <|
 let v1 := iwrap .i64 ((ishl .i64 1 p0.1) - 1)
 .ret (i_within_S p1 0 v1)
noncomputable def i_Matrix_has_F (p0 : TMatrix) (p1 : Int) : Option Bool := (i_Matrix_has p0 p1).run some
noncomputable def i_Matrix_has_V : Env := ⟨tau, [(57, i_within_c)], []⟩
noncomputable def i_Matrix_has_b : Code := (Try.f45.body).getD .skip
noncomputable def i_Matrix_has_I : FnI := ⟨i_Matrix_has_b, Try.f45.results.toList, Try.f45.resultTypes.toList, []⟩
noncomputable def i_Matrix_has_out (_zp0 : Bool) (_p0 : TMatrix) (_p1 : Int) : Bool → CallOut := fun r => ⟨(.imm true .bool r), [], []⟩
set_option maxRecDepth 100000 in
theorem i_Matrix_has_eq : ∀ (zp0 : Bool) (p0 : TMatrix) (p1 : Int), denFn i_Matrix_has_V i_Matrix_has_I ⟨[(.imm zp0 kMatrix p0), (.imm true (.int .i64) p1)], []⟩ = (i_Matrix_has p0 p1).run fun r => some (i_Matrix_has_out zp0 p0 p1 r) := fun _ _ _ => by kernel_rfl
noncomputable def i_Matrix_has_G (av : List AV) (rs : List Root) : Tre CallOut :=
 asCons av fun a0_ av0 =>
 asCons av0 fun a1_ av1 =>
 asEnd av1 <|
 asEnd rs <|
 asImm kMatrix a0_ fun z2 d1 =>
 asImmZ true (.int .i64) a1_ fun d3 =>
 .mat (i_Matrix_has_F d1 d3) fun r => .ret (i_Matrix_has_out z2 d1 d3 r)
noncomputable def i_Matrix_has_c : Ctr := ⟨[], fun ci => i_Matrix_has_G ci.args ci.roots, false⟩
theorem i_Matrix_has_env : EnvOK Try.prog .none i_Matrix_has_V := (envOK_cons i_within_ok ent57 envOK_nil)
set_option maxRecDepth 100000 in
theorem i_Matrix_has_ok : Contract Try.prog .none 45 i_Matrix_has_c := by
 have hl : LoopsOK i_Matrix_has_V [] i_Matrix_has_b := loopsOK_nil (by kernel_rfl)
 refine (contract_of (F := i_Matrix_has_I) tau_tys i_Matrix_has_env Try.func45 (by kernel_rfl) (by kernel_rfl) (by kernel_rfl) hl []).weaken ?_
 rintro ⟨av, rs⟩ co h
 have h : (i_Matrix_has_G av rs).run some = some co := h
 obtain ⟨a0_, av0, rfl, h_0⟩ := asCons_spec h
 obtain ⟨a1_, av1, rfl, h_1⟩ := asCons_spec h_0
 obtain ⟨rfl, h_2⟩ := asEnd_spec h_1
 obtain ⟨rfl, h_3⟩ := asEnd_spec h_2
 obtain ⟨z2, d1, rfl, h_4⟩ := asImm_spec h_3
 obtain ⟨d3, rfl, h_5⟩ := asImmZ_spec h_4
 exact fin_mat (i_Matrix_has_eq z2 d1 d3) h_5
end Go.Proofs.Ythnkanacjhlhhaa

namespace Go.Proofs.Ythnkanacjhlhhaa
open Go Go.Abs Go.Proofs
noncomputable def i_ValidMatrixc1_ccae (p0 : Int) (p1 : TMatrix) : Tre Bool :=
 .mat (i_Matrix_has_F p1 p0) fun r1 =>
 .ret (!r1)
noncomputable def i_ValidMatrixc1_ccae_F (p0 : Int) (p1 : TMatrix) : Option Bool := (i_ValidMatrixc1_ccae p0 p1).run some
noncomputable def i_ValidMatrixc1_ccae_V : Env := ⟨tau, [(45, i_Matrix_has_c)], []⟩
noncomputable def i_ValidMatrixc1_ccae_b : Code := (Try.f162.body).getD .skip
noncomputable def i_ValidMatrixc1_ccae_I : FnI := ⟨i_ValidMatrixc1_ccae_b, Try.f162.results.toList, Try.f162.resultTypes.toList, []⟩
noncomputable def i_ValidMatrixc1_ccae_out (zp0 : Bool) (_p0 : Int) (p1 : TMatrix) : Bool → CallOut := fun r => ⟨(.imm true .bool r), [⟨true, kMatrix, (.imm zp0), p1⟩], []⟩
set_option maxRecDepth 100000 in
theorem i_ValidMatrixc1_ccae_eq : ∀ (zp0 : Bool) (p0 : Int) (p1 : TMatrix), denFn i_ValidMatrixc1_ccae_V i_ValidMatrixc1_ccae_I ⟨[(.imm true (.int .i64) p0), (.ptr (0, 0) [])], [⟨true, kMatrix, (.imm zp0), p1⟩]⟩ = (i_ValidMatrixc1_ccae p0 p1).run fun r => some (i_ValidMatrixc1_ccae_out zp0 p0 p1 r) := fun _ _ _ => by kernel_rfl
noncomputable def i_ValidMatrixc1_ccae_G (av : List AV) (rs : List Root) : Tre CallOut :=
 asCons av fun a0_ av0 =>
 asCons av0 fun a1_ av1 =>
 asEnd av1 <|
 asCons rs fun r0_ rs0 =>
 asEnd rs0 <|
 asImmZ true (.int .i64) a0_ fun d1 =>
 asPtr (0, 0) [] a1_ <|
 asRt true kMatrix r0_ fun m2 d3 =>
 asMImm m2 fun z4 =>
 .mat (i_ValidMatrixc1_ccae_F d1 d3) fun r => .ret (i_ValidMatrixc1_ccae_out z4 d1 d3 r)
noncomputable def i_ValidMatrixc1_ccae_c : Ctr := ⟨[], fun ci => i_ValidMatrixc1_ccae_G ci.args ci.roots, false⟩
theorem i_ValidMatrixc1_ccae_env : EnvOK Try.prog .none i_ValidMatrixc1_ccae_V := (envOK_cons i_Matrix_has_ok ent45 envOK_nil)
set_option maxRecDepth 100000 in
theorem i_ValidMatrixc1_ccae_ok : Contract Try.prog .none 162 i_ValidMatrixc1_ccae_c := by
 have hl : LoopsOK i_ValidMatrixc1_ccae_V [] i_ValidMatrixc1_ccae_b := loopsOK_nil (by kernel_rfl)
 refine (contract_of (F := i_ValidMatrixc1_ccae_I) tau_tys i_ValidMatrixc1_ccae_env Try.func162 (by kernel_rfl) (by kernel_rfl) (by kernel_rfl) hl []).weaken ?_
 rintro ⟨av, rs⟩ co h
 have h : (i_ValidMatrixc1_ccae_G av rs).run some = some co := h
 obtain ⟨a0_, av0, rfl, h_0⟩ := asCons_spec h
 obtain ⟨a1_, av1, rfl, h_1⟩ := asCons_spec h_0
 obtain ⟨rfl, h_2⟩ := asEnd_spec h_1
 obtain ⟨r0_, rs0, rfl, h_3⟩ := asCons_spec h_2
 obtain ⟨rfl, h_4⟩ := asEnd_spec h_3
 obtain ⟨d1, rfl, h_5⟩ := asImmZ_spec h_4
 obtain ⟨rfl, h_6⟩ := asPtr_spec h_5
 obtain ⟨m2, d3, rfl, h_7⟩ := asRt_spec h_6
 obtain ⟨z4, rfl, h_8⟩ := asMImm_spec h_7
 exact fin_mat (i_ValidMatrixc1_ccae_eq z4 d1 d3) h_8
end Go.Proofs.Ythnkanacjhlhhaa

namespace Go.Proofs.Ythnkanacjhlhhaa
open Go Go.Abs Go.Proofs
noncomputable def slices_IndexFunc_int64_i_ValidMatrixc1_l2 (h2_0_0 : (List Int)) (h2_0_1 : Int) (h2_0_3 : TMatrix) : Int → Tre (Int ⊕ (Int ⊕ Unit)) := fun s2 =>
 .cond (decide (s2 < h2_0_1))
  (.ite (0 ≤ s2 ∧ s2 < (h2_0_0.length : Int)) <|
  .mat (h2_0_0[s2.toNat]?) fun x1 =>
  .mat (i_ValidMatrixc1_ccae_F x1 h2_0_3) fun r2 =>
  .cond r2
   (.ret (.inr (.inl s2)))
   (.ret (.inl (iwrap .i64 (s2 + 1)))))
  (.ret (.inr (.inr ())))
noncomputable def slices_IndexFunc_int64_i_ValidMatrixc1 (p0 : (List Int)) (p1 : TMatrix) : Tre Int :=
 .mat (loopF (slices_IndexFunc_int64_i_ValidMatrixc1_l2 p0 (p0.length : Int) p1) 0) fun l3 =>
 .alt l3
  (fun a4 =>
   .ret a4)
  (fun _ =>
   .ret (-1))
noncomputable def slices_IndexFunc_int64_i_ValidMatrixc1_F (p0 : (List Int)) (p1 : TMatrix) : Option Int := (slices_IndexFunc_int64_i_ValidMatrixc1 p0 p1).run some
noncomputable def slices_IndexFunc_int64_i_ValidMatrixc1_V : Env := ⟨tau, [(162, i_ValidMatrixc1_ccae_c)], []⟩
noncomputable def slices_IndexFunc_int64_i_ValidMatrixc1_b : Code := (Try.f116.body).getD .skip
noncomputable def slices_IndexFunc_int64_i_ValidMatrixc1_l2_mk (z2_0 : Bool) (z2_1 : Bool) (h2_0_0 : (List Int)) (h2_0_1 : Int) (h2_0_3 : TMatrix) : Int → St := fun x => stOf [(0, (.imm z2_0 (.sl (.int .i64)) h2_0_0)), (1, (.fn 162 [(0, 0)])), (7, (.imm true (.int .i64) h2_0_1)), (8, (.imm true (.int .i64) x))] [((0, 0), some ⟨true, kMatrix, (.imm z2_1), h2_0_3⟩)]
noncomputable def slices_IndexFunc_int64_i_ValidMatrixc1_l2_out (_z2_0 : Bool) (z2_1 : Bool) (_h2_0_0 : (List Int)) (_h2_0_1 : Int) (h2_0_3 : TMatrix) : (Int ⊕ Unit) → Ex × St
 | .inl x => (.ret, stOf [(4, (.imm true (.int .i64) x))] [((0, 0), some ⟨true, kMatrix, (.imm z2_1), h2_0_3⟩)])
 | .inr x => (.exit 0, stOf [(4, .dead)] [((0, 0), some ⟨true, kMatrix, (.imm z2_1), h2_0_3⟩)])
noncomputable def slices_IndexFunc_int64_i_ValidMatrixc1_l2_D (s : St) : Tre (Ex × St) :=
 asImm (.sl (.int .i64)) (s.tmps 0) fun z3 d2 =>
 asFn 162 [(0, 0)] (s.tmps 1) <|
 asImmZ true (.int .i64) (s.tmps 7) fun d6 =>
 asImmZ true (.int .i64) (s.tmps 8) fun d8 =>
 asRoot true kMatrix (s.roots (0, 0)) fun m10 d11 =>
 asMImm m10 fun z12 =>
 .mat (loopF (slices_IndexFunc_int64_i_ValidMatrixc1_l2 d2 d6 d11) d8) fun x => .alt x (fun a0 => .ret (slices_IndexFunc_int64_i_ValidMatrixc1_l2_out z3 z12 d2 d6 d11 (.inl a0))) (fun b0 => .ret (slices_IndexFunc_int64_i_ValidMatrixc1_l2_out z3 z12 d2 d6 d11 (.inr b0)))
noncomputable def slices_IndexFunc_int64_i_ValidMatrixc1_l2_L : LoopI := ⟨([0, 1, 7, 8], [(0, 0)]), ([4], [(0, 0)]), slices_IndexFunc_int64_i_ValidMatrixc1_l2_D⟩
noncomputable def slices_IndexFunc_int64_i_ValidMatrixc1_A : List (Nat × LoopI) := [(2, slices_IndexFunc_int64_i_ValidMatrixc1_l2_L)]
set_option maxRecDepth 100000 in
theorem slices_IndexFunc_int64_i_ValidMatrixc1_l2_step : ∀ (z2_0 : Bool) (z2_1 : Bool) (h2_0_0 : (List Int)) (h2_0_1 : Int) (h2_0_3 : TMatrix) (x : Int) (c : St → Option (Ex × St)), den slices_IndexFunc_int64_i_ValidMatrixc1_V slices_IndexFunc_int64_i_ValidMatrixc1_A (loopAt slices_IndexFunc_int64_i_ValidMatrixc1_b 0) (slices_IndexFunc_int64_i_ValidMatrixc1_l2_mk z2_0 z2_1 h2_0_0 h2_0_1 h2_0_3 x) (roundK slices_IndexFunc_int64_i_ValidMatrixc1_l2_L.kp slices_IndexFunc_int64_i_ValidMatrixc1_l2_L.kx c) = (slices_IndexFunc_int64_i_ValidMatrixc1_l2 h2_0_0 h2_0_1 h2_0_3 x).run (roundR (slices_IndexFunc_int64_i_ValidMatrixc1_l2_mk z2_0 z2_1 h2_0_0 h2_0_1 h2_0_3) (slices_IndexFunc_int64_i_ValidMatrixc1_l2_out z2_0 z2_1 h2_0_0 h2_0_1 h2_0_3) c) := fun _ _ _ _ _ _ _ => by
 kernel_rfl
theorem slices_IndexFunc_int64_i_ValidMatrixc1_l2_ok : LoopOK slices_IndexFunc_int64_i_ValidMatrixc1_V slices_IndexFunc_int64_i_ValidMatrixc1_A (loopAt slices_IndexFunc_int64_i_ValidMatrixc1_b 0) slices_IndexFunc_int64_i_ValidMatrixc1_l2_L := loopOK_of fun s e s' h => by
 generalize hs : restrict slices_IndexFunc_int64_i_ValidMatrixc1_l2_L.kp s = s1 at h
 have h : (slices_IndexFunc_int64_i_ValidMatrixc1_l2_D s1).run some = some (e, s') := h
 obtain ⟨z3, d2, e1, h_0⟩ := asImm_spec h
 obtain ⟨e4, h_1⟩ := asFn_spec h_0
 obtain ⟨d6, e5, h_2⟩ := asImmZ_spec h_1
 obtain ⟨d8, e7, h_3⟩ := asImmZ_spec h_2
 obtain ⟨m10, d11, e9, h_4⟩ := asRoot_spec h_3
 obtain ⟨z12, rfl, h_5⟩ := asMImm_spec h_4
 obtain ⟨y, hy, hz⟩ := mat_some h_5
 refine ⟨_, _, slices_IndexFunc_int64_i_ValidMatrixc1_l2_mk z3 z12 d2 d6 d11, slices_IndexFunc_int64_i_ValidMatrixc1_l2_out z3 z12 d2 d6 d11, slices_IndexFunc_int64_i_ValidMatrixc1_l2 d2 d6 d11, d8, y, ?_, hy, ?_, slices_IndexFunc_int64_i_ValidMatrixc1_l2_step z3 z12 d2 d6 d11⟩
 ·subst hs; exact restrict_eq (T := [(0, (.imm z3 (.sl (.int .i64)) d2)), (1, (.fn 162 [(0, 0)])), (7, (.imm true (.int .i64) d6)), (8, (.imm true (.int .i64) d8))]) (U := [((0, 0), some ⟨true, kMatrix, (.imm z12), d11⟩)]) rfl rfl ⟨e1, e4, e5, e7, trivial⟩ ⟨e9, trivial⟩
 ·rcases y with x | x <;> exact Option.some.inj hz
noncomputable def slices_IndexFunc_int64_i_ValidMatrixc1_I : FnI := ⟨slices_IndexFunc_int64_i_ValidMatrixc1_b, Try.f116.results.toList, Try.f116.resultTypes.toList, slices_IndexFunc_int64_i_ValidMatrixc1_A⟩
noncomputable def slices_IndexFunc_int64_i_ValidMatrixc1_out (_zp0 : Bool) (zp1 : Bool) (_p0 : (List Int)) (p1 : TMatrix) : Int → CallOut := fun r => ⟨(.imm true (.int .i64) r), [⟨true, kMatrix, (.imm zp1), p1⟩], []⟩
set_option maxRecDepth 100000 in
theorem slices_IndexFunc_int64_i_ValidMatrixc1_eq : ∀ (zp0 : Bool) (zp1 : Bool) (p0 : (List Int)) (p1 : TMatrix), denFn slices_IndexFunc_int64_i_ValidMatrixc1_V slices_IndexFunc_int64_i_ValidMatrixc1_I ⟨[(.imm zp0 (.sl (.int .i64)) p0), (.fn 162 [(0, 0)])], [⟨true, kMatrix, (.imm zp1), p1⟩]⟩ = (slices_IndexFunc_int64_i_ValidMatrixc1 p0 p1).run fun r => some (slices_IndexFunc_int64_i_ValidMatrixc1_out zp0 zp1 p0 p1 r) := fun _ _ _ _ => by kernel_rfl
noncomputable def slices_IndexFunc_int64_i_ValidMatrixc1_G (av : List AV) (rs : List Root) : Tre CallOut :=
 asCons av fun a0_ av0 =>
 asCons av0 fun a1_ av1 =>
 asEnd av1 <|
 asCons rs fun r0_ rs0 =>
 asEnd rs0 <|
 asImm (.sl (.int .i64)) a0_ fun z2 d1 =>
 asFn 162 [(0, 0)] a1_ <|
 asRt true kMatrix r0_ fun m3 d4 =>
 asMImm m3 fun z5 =>
 .mat (slices_IndexFunc_int64_i_ValidMatrixc1_F d1 d4) fun r => .ret (slices_IndexFunc_int64_i_ValidMatrixc1_out z2 z5 d1 d4 r)
noncomputable def slices_IndexFunc_int64_i_ValidMatrixc1_c : Ctr := ⟨[], fun ci => slices_IndexFunc_int64_i_ValidMatrixc1_G ci.args ci.roots, false⟩
theorem slices_IndexFunc_int64_i_ValidMatrixc1_env : EnvOK Try.prog .none slices_IndexFunc_int64_i_ValidMatrixc1_V := (envOK_cons i_ValidMatrixc1_ccae_ok ent162 envOK_nil)
set_option maxRecDepth 100000 in
theorem slices_IndexFunc_int64_i_ValidMatrixc1_ok : Contract Try.prog .none 116 slices_IndexFunc_int64_i_ValidMatrixc1_c := by
 have hl : LoopsOK slices_IndexFunc_int64_i_ValidMatrixc1_V slices_IndexFunc_int64_i_ValidMatrixc1_A slices_IndexFunc_int64_i_ValidMatrixc1_b := (loopsOK_all (n := 1) (by kernel_rfl) fun k hk => by
   match k, hk with
   | 0, _ => exact loopOK_at (id := 2) (L := slices_IndexFunc_int64_i_ValidMatrixc1_l2_L) (by kernel_rfl) (by kernel_rfl) slices_IndexFunc_int64_i_ValidMatrixc1_l2_ok)
 refine (contract_of (F := slices_IndexFunc_int64_i_ValidMatrixc1_I) tau_tys slices_IndexFunc_int64_i_ValidMatrixc1_env Try.func116 (by kernel_rfl) (by kernel_rfl) (by kernel_rfl) hl []).weaken ?_
 rintro ⟨av, rs⟩ co h
 have h : (slices_IndexFunc_int64_i_ValidMatrixc1_G av rs).run some = some co := h
 obtain ⟨a0_, av0, rfl, h_0⟩ := asCons_spec h
 obtain ⟨a1_, av1, rfl, h_1⟩ := asCons_spec h_0
 obtain ⟨rfl, h_2⟩ := asEnd_spec h_1
 obtain ⟨r0_, rs0, rfl, h_3⟩ := asCons_spec h_2
 obtain ⟨rfl, h_4⟩ := asEnd_spec h_3
 obtain ⟨z2, d1, rfl, h_5⟩ := asImm_spec h_4
 obtain ⟨rfl, h_6⟩ := asFn_spec h_5
 obtain ⟨m3, d4, rfl, h_7⟩ := asRt_spec h_6
 obtain ⟨z5, rfl, h_8⟩ := asMImm_spec h_7
 exact fin_mat (slices_IndexFunc_int64_i_ValidMatrixc1_eq z2 z5 d1 d4) h_8
end Go.Proofs.Ythnkanacjhlhhaa

namespace Go.Proofs.Ythnkanacjhlhhaa
open Go Go.Abs Go.Proofs
noncomputable def slices_ContainsFunc_int64_i_ValidMatrixc1 (p0 : (List Int)) (p1 : TMatrix) : Tre Bool :=
 .mat (slices_IndexFunc_int64_i_ValidMatrixc1_F p0 p1) fun r1 =>
 .ret (decide (r1 ≥ 0))
noncomputable def slices_ContainsFunc_int64_i_ValidMatrixc1_F (p0 : (List Int)) (p1 : TMatrix) : Option Bool := (slices_ContainsFunc_int64_i_ValidMatrixc1 p0 p1).run some
noncomputable def slices_ContainsFunc_int64_i_ValidMatrixc1_V : Env := ⟨tau, [(116, slices_IndexFunc_int64_i_ValidMatrixc1_c)], []⟩
noncomputable def slices_ContainsFunc_int64_i_ValidMatrixc1_b : Code := (Try.f161.body).getD .skip
noncomputable def slices_ContainsFunc_int64_i_ValidMatrixc1_I : FnI := ⟨slices_ContainsFunc_int64_i_ValidMatrixc1_b, Try.f161.results.toList, Try.f161.resultTypes.toList, []⟩
noncomputable def slices_ContainsFunc_int64_i_ValidMatrixc1_out (_zp0 : Bool) (zp1 : Bool) (_p0 : (List Int)) (p1 : TMatrix) : Bool → CallOut := fun r => ⟨(.imm true .bool r), [⟨true, kMatrix, (.imm zp1), p1⟩], []⟩
set_option maxRecDepth 100000 in
theorem slices_ContainsFunc_int64_i_ValidMatrixc1_eq : ∀ (zp0 : Bool) (zp1 : Bool) (p0 : (List Int)) (p1 : TMatrix), denFn slices_ContainsFunc_int64_i_ValidMatrixc1_V slices_ContainsFunc_int64_i_ValidMatrixc1_I ⟨[(.imm zp0 (.sl (.int .i64)) p0), (.fn 162 [(0, 0)])], [⟨true, kMatrix, (.imm zp1), p1⟩]⟩ = (slices_ContainsFunc_int64_i_ValidMatrixc1 p0 p1).run fun r => some (slices_ContainsFunc_int64_i_ValidMatrixc1_out zp0 zp1 p0 p1 r) := fun _ _ _ _ => by kernel_rfl
noncomputable def slices_ContainsFunc_int64_i_ValidMatrixc1_G (av : List AV) (rs : List Root) : Tre CallOut :=
 asCons av fun a0_ av0 =>
 asCons av0 fun a1_ av1 =>
 asEnd av1 <|
 asCons rs fun r0_ rs0 =>
 asEnd rs0 <|
 asImm (.sl (.int .i64)) a0_ fun z2 d1 =>
 asFn 162 [(0, 0)] a1_ <|
 asRt true kMatrix r0_ fun m3 d4 =>
 asMImm m3 fun z5 =>
 .mat (slices_ContainsFunc_int64_i_ValidMatrixc1_F d1 d4) fun r => .ret (slices_ContainsFunc_int64_i_ValidMatrixc1_out z2 z5 d1 d4 r)
noncomputable def slices_ContainsFunc_int64_i_ValidMatrixc1_c : Ctr := ⟨[], fun ci => slices_ContainsFunc_int64_i_ValidMatrixc1_G ci.args ci.roots, false⟩
theorem slices_ContainsFunc_int64_i_ValidMatrixc1_env : EnvOK Try.prog .none slices_ContainsFunc_int64_i_ValidMatrixc1_V := (envOK_cons slices_IndexFunc_int64_i_ValidMatrixc1_ok ent116 envOK_nil)
set_option maxRecDepth 100000 in
theorem slices_ContainsFunc_int64_i_ValidMatrixc1_ok : Contract Try.prog .none 161 slices_ContainsFunc_int64_i_ValidMatrixc1_c := by
 have hl : LoopsOK slices_ContainsFunc_int64_i_ValidMatrixc1_V [] slices_ContainsFunc_int64_i_ValidMatrixc1_b := loopsOK_nil (by kernel_rfl)
 refine (contract_of (F := slices_ContainsFunc_int64_i_ValidMatrixc1_I) tau_tys slices_ContainsFunc_int64_i_ValidMatrixc1_env Try.func161 (by kernel_rfl) (by kernel_rfl) (by kernel_rfl) hl []).weaken ?_
 rintro ⟨av, rs⟩ co h
 have h : (slices_ContainsFunc_int64_i_ValidMatrixc1_G av rs).run some = some co := h
 obtain ⟨a0_, av0, rfl, h_0⟩ := asCons_spec h
 obtain ⟨a1_, av1, rfl, h_1⟩ := asCons_spec h_0
 obtain ⟨rfl, h_2⟩ := asEnd_spec h_1
 obtain ⟨r0_, rs0, rfl, h_3⟩ := asCons_spec h_2
 obtain ⟨rfl, h_4⟩ := asEnd_spec h_3
 obtain ⟨z2, d1, rfl, h_5⟩ := asImm_spec h_4
 obtain ⟨rfl, h_6⟩ := asFn_spec h_5
 obtain ⟨m3, d4, rfl, h_7⟩ := asRt_spec h_6
 obtain ⟨z5, rfl, h_8⟩ := asMImm_spec h_7
 exact fin_mat (slices_ContainsFunc_int64_i_ValidMatrixc1_eq z2 z5 d1 d4) h_8
end Go.Proofs.Ythnkanacjhlhhaa

namespace Go.Proofs.Ythnkanacjhlhhaa
open Go Go.Abs Go.Proofs
noncomputable def i_ValidMatrix (p0 : TMatrix) : Tre Bool :=
 .cond (i_within_S p0.1 1 10)
  (.cond (decide ((p0.2.1.length : Int) ≤ 10))
   (.mat (slices_ContainsFunc_int64_i_ValidMatrixc1_F p0.2.1 p0) fun r1 =>
   .ret (!r1))
   (.ret false))
  (.ret false)
noncomputable def i_ValidMatrix_F (p0 : TMatrix) : Option Bool := (i_ValidMatrix p0).run some
noncomputable def i_ValidMatrix_V : Env := ⟨tau, [(57, i_within_c), (161, slices_ContainsFunc_int64_i_ValidMatrixc1_c)], []⟩
noncomputable def i_ValidMatrix_b : Code := (Try.f129.body).getD .skip
noncomputable def i_ValidMatrix_I : FnI := ⟨i_ValidMatrix_b, Try.f129.results.toList, Try.f129.resultTypes.toList, []⟩
noncomputable def i_ValidMatrix_out (_zp0 : Bool) (_p0 : TMatrix) : Bool → CallOut := fun r => ⟨(.imm true .bool r), [], []⟩
set_option maxRecDepth 100000 in
theorem i_ValidMatrix_eq : ∀ (zp0 : Bool) (p0 : TMatrix), denFn i_ValidMatrix_V i_ValidMatrix_I ⟨[(.imm zp0 kMatrix p0)], []⟩ = (i_ValidMatrix p0).run fun r => some (i_ValidMatrix_out zp0 p0 r) := fun _ _ => by kernel_rfl
noncomputable def i_ValidMatrix_G (av : List AV) (rs : List Root) : Tre CallOut :=
 asCons av fun a0_ av0 =>
 asEnd av0 <|
 asEnd rs <|
 asImm kMatrix a0_ fun z2 d1 =>
 .mat (i_ValidMatrix_F d1) fun r => .ret (i_ValidMatrix_out z2 d1 r)
noncomputable def i_ValidMatrix_c : Ctr := ⟨[], fun ci => i_ValidMatrix_G ci.args ci.roots, false⟩
theorem i_ValidMatrix_env : EnvOK Try.prog .none i_ValidMatrix_V := (envOK_cons i_within_ok ent57 (envOK_cons slices_ContainsFunc_int64_i_ValidMatrixc1_ok ent161 envOK_nil))
set_option maxRecDepth 100000 in
theorem i_ValidMatrix_ok : Contract Try.prog .none 129 i_ValidMatrix_c := by
 have hl : LoopsOK i_ValidMatrix_V [] i_ValidMatrix_b := loopsOK_nil (by kernel_rfl)
 refine (contract_of (F := i_ValidMatrix_I) tau_tys i_ValidMatrix_env Try.func129 (by kernel_rfl) (by kernel_rfl) (by kernel_rfl) hl []).weaken ?_
 rintro ⟨av, rs⟩ co h
 have h : (i_ValidMatrix_G av rs).run some = some co := h
 obtain ⟨a0_, av0, rfl, h_0⟩ := asCons_spec h
 obtain ⟨rfl, h_1⟩ := asEnd_spec h_0
 obtain ⟨rfl, h_2⟩ := asEnd_spec h_1
 obtain ⟨z2, d1, rfl, h_3⟩ := asImm_spec h_2
 exact fin_mat (i_ValidMatrix_eq z2 d1) h_3
end Go.Proofs.Ythnkanacjhlhhaa

namespace Go.Proofs.Ythnkanacjhlhhaa
open Go Go.Abs Go.Proofs
noncomputable def i_IsSpace (p0 : TMatrix) : Tre Bool :=
 .mat (i_ValidMatrix_F p0) fun r1 =>
 .cond r1
  (.mat (i_echelon_F p0.2.1) fun r2 =>
  .mat (slices_Equal_int64_F r2 p0.2.1) fun r3 =>
  .ret r3)
  (.ret false)
noncomputable def i_IsSpace_F (p0 : TMatrix) : Option Bool := (i_IsSpace p0).run some
noncomputable def i_IsSpace_V : Env := ⟨tau, [(129, i_ValidMatrix_c), (62, i_echelon_c), (121, slices_Equal_int64_c)], []⟩
noncomputable def i_IsSpace_b : Code := (Try.f76.body).getD .skip
noncomputable def i_IsSpace_I : FnI := ⟨i_IsSpace_b, Try.f76.results.toList, Try.f76.resultTypes.toList, []⟩
noncomputable def i_IsSpace_out (_zp0 : Bool) (_p0 : TMatrix) : Bool → CallOut := fun r => ⟨(.imm true .bool r), [], []⟩
set_option maxRecDepth 100000 in
theorem i_IsSpace_eq : ∀ (zp0 : Bool) (p0 : TMatrix), denFn i_IsSpace_V i_IsSpace_I ⟨[(.imm zp0 kMatrix p0)], []⟩ = (i_IsSpace p0).run fun r => some (i_IsSpace_out zp0 p0 r) := fun _ _ => by kernel_rfl
noncomputable def i_IsSpace_G (av : List AV) (rs : List Root) : Tre CallOut :=
 asCons av fun a0_ av0 =>
 asEnd av0 <|
 asEnd rs <|
 asImm kMatrix a0_ fun z2 d1 =>
 .mat (i_IsSpace_F d1) fun r => .ret (i_IsSpace_out z2 d1 r)
noncomputable def i_IsSpace_c : Ctr := ⟨[], fun ci => i_IsSpace_G ci.args ci.roots, false⟩
theorem i_IsSpace_env : EnvOK Try.prog .none i_IsSpace_V := (envOK_cons i_ValidMatrix_ok ent129 (envOK_cons i_echelon_ok ent62 (envOK_cons slices_Equal_int64_ok ent121 envOK_nil)))
set_option maxRecDepth 100000 in
theorem i_IsSpace_ok : Contract Try.prog .none 76 i_IsSpace_c := by
 have hl : LoopsOK i_IsSpace_V [] i_IsSpace_b := loopsOK_nil (by kernel_rfl)
 refine (contract_of (F := i_IsSpace_I) tau_tys i_IsSpace_env Try.func76 (by kernel_rfl) (by kernel_rfl) (by kernel_rfl) hl []).weaken ?_
 rintro ⟨av, rs⟩ co h
 have h : (i_IsSpace_G av rs).run some = some co := h
 obtain ⟨a0_, av0, rfl, h_0⟩ := asCons_spec h
 obtain ⟨rfl, h_1⟩ := asEnd_spec h_0
 obtain ⟨rfl, h_2⟩ := asEnd_spec h_1
 obtain ⟨z2, d1, rfl, h_3⟩ := asImm_spec h_2
 exact fin_mat (i_IsSpace_eq z2 d1) h_3
end Go.Proofs.Ythnkanacjhlhhaa

namespace Go.Proofs.Ythnkanacjhlhhaa
open Go Go.Abs Go.Proofs
noncomputable def i_sumOf_l3 (h3_0_0 : Int) (h3_0_2 : (List Int)) (h3_0_3 : Int) : (Int × Int) → Tre ((Int × Int) ⊕ Int) := fun s3 =>
 .cond (decide (s3.2 < h3_0_3))
  (.ite (0 ≤ s3.2 ∧ s3.2 < (h3_0_2.length : Int)) <|
  .mat (h3_0_2[s3.2.toNat]?) fun x1 =>
  .ite (0 ≤ s3.2) <|
  let v2 := iand .i64 (ishr .i64 h3_0_0 s3.2) 1
  .cond (decide (v2 = 1))
   (.ret (.inl (ixor .i64 s3.1 x1, iwrap .i64 (s3.2 + 1))))
   (.ret (.inl (s3.1, iwrap .i64 (s3.2 + 1)))))
  (.ret (.inr s3.1))
noncomputable def i_sumOf (p0 : (List Int)) (p1 : Int) : Tre Int :=
 .mat (loopF (i_sumOf_l3 p1 p0 (p0.length : Int)) (0, 0)) fun l3 =>
 .ret l3
noncomputable def i_sumOf_F (p0 : (List Int)) (p1 : Int) : Option Int := (i_sumOf p0 p1).run some
noncomputable def i_sumOf_V : Env := ⟨tau, [], []⟩
noncomputable def i_sumOf_b : Code := (Try.f80.body).getD .skip
noncomputable def i_sumOf_l3_mk (z3_0 : Bool) (h3_0_0 : Int) (h3_0_2 : (List Int)) (h3_0_3 : Int) : (Int × Int) → St := fun x => stOf [(1, (.imm true (.int .i64) h3_0_0)), (5, (.imm true (.int .i64) x.1)), (8, (.imm z3_0 (.sl (.int .i64)) h3_0_2)), (9, (.imm true (.int .i64) h3_0_3)), (10, (.imm true (.int .i64) x.2))] []
noncomputable def i_sumOf_l3_out (_z3_0 : Bool) (_h3_0_0 : Int) (_h3_0_2 : (List Int)) (_h3_0_3 : Int) : Int → Ex × St := fun x => (.exit 0, stOf [(5, (.imm true (.int .i64) x))] [])
noncomputable def i_sumOf_l3_D (s : St) : Tre (Ex × St) :=
 asImmZ true (.int .i64) (s.tmps 1) fun d2 =>
 asImmZ true (.int .i64) (s.tmps 5) fun d4 =>
 asImm (.sl (.int .i64)) (s.tmps 8) fun z7 d6 =>
 asImmZ true (.int .i64) (s.tmps 9) fun d9 =>
 asImmZ true (.int .i64) (s.tmps 10) fun d11 =>
 .mat (loopF (i_sumOf_l3 d2 d6 d9) (d4, d11)) fun x => .ret (i_sumOf_l3_out z7 d2 d6 d9 x)
noncomputable def i_sumOf_l3_L : LoopI := ⟨([1, 5, 8, 9, 10], []), ([5], []), i_sumOf_l3_D⟩
noncomputable def i_sumOf_A : List (Nat × LoopI) := [(3, i_sumOf_l3_L)]
set_option maxRecDepth 100000 in
theorem i_sumOf_l3_step : ∀ (z3_0 : Bool) (h3_0_0 : Int) (h3_0_2 : (List Int)) (h3_0_3 : Int) (x : (Int × Int)) (c : St → Option (Ex × St)), den i_sumOf_V i_sumOf_A (loopAt i_sumOf_b 0) (i_sumOf_l3_mk z3_0 h3_0_0 h3_0_2 h3_0_3 x) (roundK i_sumOf_l3_L.kp i_sumOf_l3_L.kx c) = (i_sumOf_l3 h3_0_0 h3_0_2 h3_0_3 x).run (roundR (i_sumOf_l3_mk z3_0 h3_0_0 h3_0_2 h3_0_3) (i_sumOf_l3_out z3_0 h3_0_0 h3_0_2 h3_0_3) c) := fun _ _ _ _ _ _ => by
 kernel_rfl
theorem i_sumOf_l3_ok : LoopOK i_sumOf_V i_sumOf_A (loopAt i_sumOf_b 0) i_sumOf_l3_L := loopOK_of fun s e s' h => by
 generalize hs : restrict i_sumOf_l3_L.kp s = s1 at h
 have h : (i_sumOf_l3_D s1).run some = some (e, s') := h
 obtain ⟨d2, e1, h_0⟩ := asImmZ_spec h
 obtain ⟨d4, e3, h_1⟩ := asImmZ_spec h_0
 obtain ⟨z7, d6, e5, h_2⟩ := asImm_spec h_1
 obtain ⟨d9, e8, h_3⟩ := asImmZ_spec h_2
 obtain ⟨d11, e10, h_4⟩ := asImmZ_spec h_3
 obtain ⟨y, hy, hz⟩ := mat_ret h_4
 refine ⟨_, _, i_sumOf_l3_mk z7 d2 d6 d9, i_sumOf_l3_out z7 d2 d6 d9, i_sumOf_l3 d2 d6 d9, (d4, d11), y, ?_, hy, ?_, i_sumOf_l3_step z7 d2 d6 d9⟩
 ·subst hs; exact restrict_eq (T := [(1, (.imm true (.int .i64) d2)), (5, (.imm true (.int .i64) d4)), (8, (.imm z7 (.sl (.int .i64)) d6)), (9, (.imm true (.int .i64) d9)), (10, (.imm true (.int .i64) d11))]) (U := []) rfl rfl ⟨e1, e3, e5, e8, e10, trivial⟩ trivial
 ·exact Option.some.inj hz
noncomputable def i_sumOf_I : FnI := ⟨i_sumOf_b, Try.f80.results.toList, Try.f80.resultTypes.toList, i_sumOf_A⟩
noncomputable def i_sumOf_out (_zp0 : Bool) (_p0 : (List Int)) (_p1 : Int) : Int → CallOut := fun r => ⟨(.imm true (.int .i64) r), [], []⟩
set_option maxRecDepth 100000 in
theorem i_sumOf_eq : ∀ (zp0 : Bool) (p0 : (List Int)) (p1 : Int), denFn i_sumOf_V i_sumOf_I ⟨[(.imm zp0 (.sl (.int .i64)) p0), (.imm true (.int .i64) p1)], []⟩ = (i_sumOf p0 p1).run fun r => some (i_sumOf_out zp0 p0 p1 r) := fun _ _ _ => by kernel_rfl
noncomputable def i_sumOf_G (av : List AV) (rs : List Root) : Tre CallOut :=
 asCons av fun a0_ av0 =>
 asCons av0 fun a1_ av1 =>
 asEnd av1 <|
 asEnd rs <|
 asImm (.sl (.int .i64)) a0_ fun z2 d1 =>
 asImmZ true (.int .i64) a1_ fun d3 =>
 .mat (i_sumOf_F d1 d3) fun r => .ret (i_sumOf_out z2 d1 d3 r)
noncomputable def i_sumOf_c : Ctr := ⟨[], fun ci => i_sumOf_G ci.args ci.roots, false⟩
theorem i_sumOf_env : EnvOK Try.prog .none i_sumOf_V := envOK_nil
set_option maxRecDepth 100000 in
theorem i_sumOf_ok : Contract Try.prog .none 80 i_sumOf_c := by
 have hl : LoopsOK i_sumOf_V i_sumOf_A i_sumOf_b := (loopsOK_all (n := 1) (by kernel_rfl) fun k hk => by
   match k, hk with
   | 0, _ => exact loopOK_at (id := 3) (L := i_sumOf_l3_L) (by kernel_rfl) (by kernel_rfl) i_sumOf_l3_ok)
 refine (contract_of (F := i_sumOf_I) tau_tys i_sumOf_env Try.func80 (by kernel_rfl) (by kernel_rfl) (by kernel_rfl) hl []).weaken ?_
 rintro ⟨av, rs⟩ co h
 have h : (i_sumOf_G av rs).run some = some co := h
 obtain ⟨a0_, av0, rfl, h_0⟩ := asCons_spec h
 obtain ⟨a1_, av1, rfl, h_1⟩ := asCons_spec h_0
 obtain ⟨rfl, h_2⟩ := asEnd_spec h_1
 obtain ⟨rfl, h_3⟩ := asEnd_spec h_2
 obtain ⟨z2, d1, rfl, h_4⟩ := asImm_spec h_3
 obtain ⟨d3, rfl, h_5⟩ := asImmZ_spec h_4
 exact fin_mat (i_sumOf_eq z2 d1 d3) h_5
end Go.Proofs.Ythnkanacjhlhhaa

namespace Go.Proofs.Ythnkanacjhlhhaa
open Go Go.Abs Go.Proofs
noncomputable abbrev slices_Sort_int64_4600_c : Ctr := sortCtr false
theorem slices_Sort_int64_4600_walk : SortWalk Try.prog 130 := fun blk off cap zs w h1 h2 h3 => AnyG.slices_Sort_int Try.sortL blk off cap zs w h1 h2 h3
theorem slices_Sort_int64_4600_none : SortNone Try.prog 130 := fun a w => AnyG.slices_Sort_int_none Try.sortL a 0 w
theorem slices_Sort_int64_4600_ok : Contract Try.prog .none 130 slices_Sort_int64_4600_c := sort_ok slices_Sort_int64_4600_walk slices_Sort_int64_4600_none
end Go.Proofs.Ythnkanacjhlhhaa

namespace Go.Proofs.Ythnkanacjhlhhaa
open Go Go.Abs Go.Proofs
noncomputable def i_Matrix_vectors_l3 (h3_0_0 : Int) (h3_0_2 : TMatrix) : (Int × (List Int)) → Tre ((Int × (List Int)) ⊕ (List Int)) := fun s3 =>
 .cond (decide (s3.1 < h3_0_0))
  (.mat (i_sumOf_F h3_0_2.2.1 s3.1) fun r2 =>
  .ite ((s3.2.length + 1) * 8 ≤ appendMax ∧ 1 ≤ 8) <|
  .ret (.inl (iwrap .i64 (s3.1 + 1), s3.2 ++ ([r2]))))
  (.ret (.inr s3.2))
noncomputable def i_Matrix_vectors (p0 : TMatrix) : Tre (List Int) :=
 .ite (0 ≤ (p0.2.1.length : Int)) <|
 let v1 := ishl .i64 1 (p0.2.1.length : Int)
 .mat (loopF (i_Matrix_vectors_l3 v1 p0) (0, [])) fun l3 =>
 .ite (l3.length < 4611686018427387904) <|
 .ret (sortI l3)
noncomputable def i_Matrix_vectors_F (p0 : TMatrix) : Option (List Int) := (i_Matrix_vectors p0).run some
noncomputable def i_Matrix_vectors_V : Env := ⟨tau, [(80, i_sumOf_c), (130, slices_Sort_int64_4600_c)], []⟩
noncomputable def i_Matrix_vectors_b : Code := (Try.f77.body).getD .skip
noncomputable def i_Matrix_vectors_l3_mk (z3_0 : Bool) (h3_0_0 : Int) (h3_0_2 : TMatrix) : (Int × (List Int)) → St := fun x => stOf [(1, (.ptr (3, 0) [])), (3, (.ref (5, 0) [])), (9, (.imm true (.int .i64) h3_0_0)), (10, (.imm true (.int .i64) x.1))] [((3, 0), some ⟨true, kMatrix, (.imm z3_0), h3_0_2⟩), ((5, 0), some ⟨false, (.sl (.int .i64)), .own, x.2⟩)]
noncomputable def i_Matrix_vectors_l3_out (_z3_0 : Bool) (_h3_0_0 : Int) (_h3_0_2 : TMatrix) : (List Int) → Ex × St := fun x => (.exit 0, stOf [(3, (.ref (5, 0) []))] [((5, 0), some ⟨false, (.sl (.int .i64)), .own, x⟩)])
noncomputable def i_Matrix_vectors_l3_D (s : St) : Tre (Ex × St) :=
 asPtr (3, 0) [] (s.tmps 1) <|
 asRef (5, 0) [] (s.tmps 3) <|
 asImmZ true (.int .i64) (s.tmps 9) fun d4 =>
 asImmZ true (.int .i64) (s.tmps 10) fun d6 =>
 asRoot true kMatrix (s.roots (3, 0)) fun m8 d9 =>
 asMImm m8 fun z10 =>
 asRoot false (.sl (.int .i64)) (s.roots (5, 0)) fun m12 d13 =>
 asM .own m12 <|
 .mat (loopF (i_Matrix_vectors_l3 d4 d9) (d6, d13)) fun x => .ret (i_Matrix_vectors_l3_out z10 d4 d9 x)
noncomputable def i_Matrix_vectors_l3_L : LoopI := ⟨([1, 3, 9, 10], [(3, 0), (5, 0)]), ([3], [(5, 0)]), i_Matrix_vectors_l3_D⟩
noncomputable def i_Matrix_vectors_A : List (Nat × LoopI) := [(3, i_Matrix_vectors_l3_L)]
set_option maxRecDepth 100000 in
theorem i_Matrix_vectors_l3_step : ∀ (z3_0 : Bool) (h3_0_0 : Int) (h3_0_2 : TMatrix) (x : (Int × (List Int))) (c : St → Option (Ex × St)), den i_Matrix_vectors_V i_Matrix_vectors_A (loopAt i_Matrix_vectors_b 0) (i_Matrix_vectors_l3_mk z3_0 h3_0_0 h3_0_2 x) (roundK i_Matrix_vectors_l3_L.kp i_Matrix_vectors_l3_L.kx c) = (i_Matrix_vectors_l3 h3_0_0 h3_0_2 x).run (roundR (i_Matrix_vectors_l3_mk z3_0 h3_0_0 h3_0_2) (i_Matrix_vectors_l3_out z3_0 h3_0_0 h3_0_2) c) := fun _ _ _ _ _ => by
 kernel_rfl
theorem i_Matrix_vectors_l3_ok : LoopOK i_Matrix_vectors_V i_Matrix_vectors_A (loopAt i_Matrix_vectors_b 0) i_Matrix_vectors_l3_L := loopOK_of fun s e s' h => by
 generalize hs : restrict i_Matrix_vectors_l3_L.kp s = s1 at h
 have h : (i_Matrix_vectors_l3_D s1).run some = some (e, s') := h
 obtain ⟨e1, h_0⟩ := asPtr_spec h
 obtain ⟨e2, h_1⟩ := asRef_spec h_0
 obtain ⟨d4, e3, h_2⟩ := asImmZ_spec h_1
 obtain ⟨d6, e5, h_3⟩ := asImmZ_spec h_2
 obtain ⟨m8, d9, e7, h_4⟩ := asRoot_spec h_3
 obtain ⟨z10, rfl, h_5⟩ := asMImm_spec h_4
 obtain ⟨m12, d13, e11, h_6⟩ := asRoot_spec h_5
 obtain ⟨rfl, h_7⟩ := asM_spec h_6
 obtain ⟨y, hy, hz⟩ := mat_ret h_7
 refine ⟨_, _, i_Matrix_vectors_l3_mk z10 d4 d9, i_Matrix_vectors_l3_out z10 d4 d9, i_Matrix_vectors_l3 d4 d9, (d6, d13), y, ?_, hy, ?_, i_Matrix_vectors_l3_step z10 d4 d9⟩
 ·subst hs; exact restrict_eq (T := [(1, (.ptr (3, 0) [])), (3, (.ref (5, 0) [])), (9, (.imm true (.int .i64) d4)), (10, (.imm true (.int .i64) d6))]) (U := [((3, 0), some ⟨true, kMatrix, (.imm z10), d9⟩), ((5, 0), some ⟨false, (.sl (.int .i64)), .own, d13⟩)]) rfl rfl ⟨e1, e2, e3, e5, trivial⟩ ⟨e7, e11, trivial⟩
 ·exact Option.some.inj hz
noncomputable def i_Matrix_vectors_I : FnI := ⟨i_Matrix_vectors_b, Try.f77.results.toList, Try.f77.resultTypes.toList, i_Matrix_vectors_A⟩
noncomputable def i_Matrix_vectors_out (_zp0 : Bool) (_p0 : TMatrix) : (List Int) → CallOut := fun r => ⟨(.ref (1, 0) []), [], [⟨false, (.sl (.int .i64)), .own, r⟩]⟩
set_option maxRecDepth 100000 in
theorem i_Matrix_vectors_eq : ∀ (zp0 : Bool) (p0 : TMatrix), denFn i_Matrix_vectors_V i_Matrix_vectors_I ⟨[(.imm zp0 kMatrix p0)], []⟩ = (i_Matrix_vectors p0).run fun r => some (i_Matrix_vectors_out zp0 p0 r) := fun _ _ => by kernel_rfl
noncomputable def i_Matrix_vectors_G (av : List AV) (rs : List Root) : Tre CallOut :=
 asCons av fun a0_ av0 =>
 asEnd av0 <|
 asEnd rs <|
 asImm kMatrix a0_ fun z2 d1 =>
 .mat (i_Matrix_vectors_F d1) fun r => .ret (i_Matrix_vectors_out z2 d1 r)
noncomputable def i_Matrix_vectors_c : Ctr := ⟨[], fun ci => i_Matrix_vectors_G ci.args ci.roots, false⟩
theorem i_Matrix_vectors_env : EnvOK Try.prog .none i_Matrix_vectors_V := (envOK_cons i_sumOf_ok ent80 (envOK_cons slices_Sort_int64_4600_ok ent130 envOK_nil))
set_option maxRecDepth 100000 in
theorem i_Matrix_vectors_ok : Contract Try.prog .none 77 i_Matrix_vectors_c := by
 have hl : LoopsOK i_Matrix_vectors_V i_Matrix_vectors_A i_Matrix_vectors_b := (loopsOK_all (n := 1) (by kernel_rfl) fun k hk => by
   match k, hk with
   | 0, _ => exact loopOK_at (id := 3) (L := i_Matrix_vectors_l3_L) (by kernel_rfl) (by kernel_rfl) i_Matrix_vectors_l3_ok)
 refine (contract_of (F := i_Matrix_vectors_I) tau_tys i_Matrix_vectors_env Try.func77 (by kernel_rfl) (by kernel_rfl) (by kernel_rfl) hl []).weaken ?_
 rintro ⟨av, rs⟩ co h
 have h : (i_Matrix_vectors_G av rs).run some = some co := h
 obtain ⟨a0_, av0, rfl, h_0⟩ := asCons_spec h
 obtain ⟨rfl, h_1⟩ := asEnd_spec h_0
 obtain ⟨rfl, h_2⟩ := asEnd_spec h_1
 obtain ⟨z2, d1, rfl, h_3⟩ := asImm_spec h_2
 exact fin_mat (i_Matrix_vectors_eq z2 d1) h_3
end Go.Proofs.Ythnkanacjhlhhaa

namespace Go.Proofs.Ythnkanacjhlhhaa
open Go Go.Abs Go.Proofs
noncomputable def i_VectorsOf (p0 : TMatrix) : Tre (Int × (List Int)) :=
 .mat (i_IsSpace_F p0) fun r1 =>
 .cond (!r1)
  (.ret (1, []))
  (.ite (0 ≤ (p0.2.1.length : Int)) <|
  let v2 := ishl .i64 1 (p0.2.1.length : Int)
  .cond (decide (v2 > 400))
   (.ret (3, []))
   (.mat (i_Matrix_vectors_F p0) fun r3 =>
   .ret (0, r3)))
noncomputable def i_VectorsOf_F (p0 : TMatrix) : Option (Int × (List Int)) := (i_VectorsOf p0).run some
noncomputable def i_VectorsOf_V : Env := ⟨tau, [(76, i_IsSpace_c), (77, i_Matrix_vectors_c)], []⟩
noncomputable def i_VectorsOf_b : Code := (Try.f23.body).getD .skip
noncomputable def i_VectorsOf_I : FnI := ⟨i_VectorsOf_b, Try.f23.results.toList, Try.f23.resultTypes.toList, []⟩
noncomputable def i_VectorsOf_out (_zp0 : Bool) (_p0 : TMatrix) : (Int × (List Int)) → CallOut := fun r => ⟨(.tcons (.ref (1, 0) []) (.tcons (.imm true (.int .i64) r.1) .tnil)), [], [⟨false, (.sl (.int .i64)), .own, r.2⟩]⟩
set_option maxRecDepth 100000 in
theorem i_VectorsOf_eq : ∀ (zp0 : Bool) (p0 : TMatrix), denFn i_VectorsOf_V i_VectorsOf_I ⟨[(.imm zp0 kMatrix p0)], []⟩ = (i_VectorsOf p0).run fun r => some (i_VectorsOf_out zp0 p0 r) := fun _ _ => by kernel_rfl
noncomputable def i_VectorsOf_G (av : List AV) (rs : List Root) : Tre CallOut :=
 asCons av fun a0_ av0 =>
 asEnd av0 <|
 asEnd rs <|
 asImm kMatrix a0_ fun z2 d1 =>
 .mat (i_VectorsOf_F d1) fun r => .ret (i_VectorsOf_out z2 d1 r)
noncomputable def i_VectorsOf_c : Ctr := ⟨[], fun ci => i_VectorsOf_G ci.args ci.roots, false⟩
theorem i_VectorsOf_env : EnvOK Try.prog .none i_VectorsOf_V := (envOK_cons i_IsSpace_ok ent76 (envOK_cons i_Matrix_vectors_ok ent77 envOK_nil))
set_option maxRecDepth 100000 in
theorem i_VectorsOf_ok : Contract Try.prog .none 23 i_VectorsOf_c := by
 have hl : LoopsOK i_VectorsOf_V [] i_VectorsOf_b := loopsOK_nil (by kernel_rfl)
 refine (contract_of (F := i_VectorsOf_I) tau_tys i_VectorsOf_env Try.func23 (by kernel_rfl) (by kernel_rfl) (by kernel_rfl) hl []).weaken ?_
 rintro ⟨av, rs⟩ co h
 have h : (i_VectorsOf_G av rs).run some = some co := h
 obtain ⟨a0_, av0, rfl, h_0⟩ := asCons_spec h
 obtain ⟨rfl, h_1⟩ := asEnd_spec h_0
 obtain ⟨rfl, h_2⟩ := asEnd_spec h_1
 obtain ⟨z2, d1, rfl, h_3⟩ := asImm_spec h_2
 exact fin_mat (i_VectorsOf_eq z2 d1) h_3
end Go.Proofs.Ythnkanacjhlhhaa
