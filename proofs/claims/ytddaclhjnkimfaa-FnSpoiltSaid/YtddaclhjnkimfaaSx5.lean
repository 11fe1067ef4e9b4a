/- Part 5 of the proof of FnSpoilt. -/
import Derived.Test.YtddaclhjnkimfaaSx4
namespace Go.Proofs.Ytddaclhjnkimfaa
open Go Go.Abs Go.Proofs
noncomputable def i_Field_lists_i_MendAfterc1_591f_l4 (h4_0_8 : (Int × (Int × Unit))) : (Int × (List Int)) → Tre ((Int × (List Int)) ⊕ (Int × (List Int))) := fun s4 =>
 .cond (decide (s4.1 ≥ 0))
  (.ite (0 ≤ s4.1 ∧ s4.1 < (s4.2.length : Int)) <|
  .mat (s4.2[s4.1.toNat]?) fun x2 =>
  .mat (i_Field_count_F h4_0_8) fun r3 =>
  .cond (decide (x2 = iwrap .i64 (r3 - 1)))
   (.ite (0 ≤ s4.1 ∧ s4.1 < (s4.2.length : Int)) <|
   .mat (s4.2[s4.1.toNat]?) fun _ =>
   let v5 := s4.2.set s4.1.toNat 0
   .ret (.inl (iwrap .i64 (s4.1 - 1), v5)))
   (.ret (.inr (s4.1, s4.2))))
  (.ret (.inr (s4.1, s4.2)))
noncomputable def i_Field_lists_i_MendAfterc1_591f_l2 (h2_0_0 : Int) (h2_0_1 : TGather) (h2_0_2 : Int) (h2_0_6 : TWorks) (h2_0_7 : (Int × (Int × Unit))) : (Int × (List Int) × Int × (List Int)) → Tre ((Int × (List Int) × Int × (List Int)) ⊕ (Int × (List Int) × Int)) := fun s2 =>
 .mat (i_MendAfterc1_a693_F s2.2.2.2 h2_0_1 h2_0_2 s2.1 s2.2.1 s2.2.2.1 h2_0_6) fun r1 =>
 .mat (loopF (i_Field_lists_i_MendAfterc1_591f_l4 h2_0_7) (iwrap .i64 (h2_0_0 - 1), s2.2.2.2)) fun l6 =>
 .cond (decide (l6.1 < 0))
  (.ret (.inr (r1.1, r1.2.1, r1.2.2)))
  (.ite (0 ≤ l6.1 ∧ l6.1 < (l6.2.length : Int)) <|
  .mat (l6.2[l6.1.toNat]?) fun x7 =>
  .ite (0 ≤ l6.1 ∧ l6.1 < (l6.2.length : Int)) <|
  .mat (l6.2[l6.1.toNat]?) fun _ =>
  let v9 := l6.2.set l6.1.toNat (iwrap .i64 (x7 + 1))
  .ret (.inl (r1.1, r1.2.1, r1.2.2, v9)))
noncomputable def i_Field_lists_i_MendAfterc1_591f (p0 : (Int × (Int × Unit))) (p1 : Int) (p2 : TGather) (p3 : Int) (p4 : Int) (p5 : (List Int)) (p6 : Int) (p7 : TWorks) : Tre (Int × (List Int) × Int) :=
 .ite (((.int .i64) : K) = (.int .i64) ∧ 0 ≤ p1 ∧ p1 = p1 ∧ p1 * (8 : Nat) ≤ 140737488355328 ∧ 1 ≤ 8) <|
 .mat (loopF (i_Field_lists_i_MendAfterc1_591f_l2 p1 p2 p3 p7 p0) (p4, p5, p6, List.replicate p1.toNat 0)) fun l10 =>
 .ret (l10.1, l10.2.1, l10.2.2)
noncomputable def i_Field_lists_i_MendAfterc1_591f_F (p0 : (Int × (Int × Unit))) (p1 : Int) (p2 : TGather) (p3 : Int) (p4 : Int) (p5 : (List Int)) (p6 : Int) (p7 : TWorks) : Option (Int × (List Int) × Int) := (i_Field_lists_i_MendAfterc1_591f p0 p1 p2 p3 p4 p5 p6 p7).run some
noncomputable def i_Field_lists_i_MendAfterc1_591f_V : Env := ⟨tau, [(43, i_MendAfterc1_a693_c), (81, i_Field_count_c)], []⟩
noncomputable def i_Field_lists_i_MendAfterc1_591f_b : Code := (Try.f42.body).getD .skip
noncomputable def i_Field_lists_i_MendAfterc1_591f_l4_mk (z4_0 : Bool) (z4_1 : Bool) (h4_0_0 : Int) (h4_0_2 : TGather) (h4_0_3 : Int) (h4_0_4 : Int) (h4_0_5 : (List Int)) (h4_0_6 : Int) (h4_0_7 : TWorks) (h4_0_8 : (Int × (Int × Unit))) : (Int × (List Int)) → St := fun x => stOf [(1, (.imm true (.int .i64) h4_0_0)), (2, (.fn 43 [(0, 0), (0, 1), (0, 2), (0, 3), (0, 4), (0, 5)])), (3, (.ptr (5, 0) [])), (6, (.ref (8, 0) [])), (7, (.imm true (.int .i64) x.1))] [((0, 0), some ⟨true, kGather, (.imm z4_0), h4_0_2⟩), ((0, 1), some ⟨true, .ptr, .own, (some (0, 6) : Option RName)⟩), ((0, 2), some ⟨true, (.int .i64), .own, h4_0_3⟩), ((0, 3), some ⟨true, (.int .i64), .own, h4_0_4⟩), ((0, 4), some ⟨true, (.sl (.int .i64)), .own, h4_0_5⟩), ((0, 5), some ⟨true, (.int .i64), .own, h4_0_6⟩), ((0, 6), some ⟨true, kWorks, (.pair .own (.imm z4_1)), h4_0_7⟩), ((5, 0), some ⟨true, kField, .own, h4_0_8⟩), ((8, 0), some ⟨false, (.sl (.int .i64)), .own, x.2⟩)]
noncomputable def i_Field_lists_i_MendAfterc1_591f_l4_out (z4_0 : Bool) (z4_1 : Bool) (h4_0_0 : Int) (h4_0_2 : TGather) (h4_0_3 : Int) (h4_0_4 : Int) (h4_0_5 : (List Int)) (h4_0_6 : Int) (h4_0_7 : TWorks) (h4_0_8 : (Int × (Int × Unit))) : (Int × (List Int)) → Ex × St := fun x => (.exit 2, stOf [(1, (.imm true (.int .i64) h4_0_0)), (2, (.fn 43 [(0, 0), (0, 1), (0, 2), (0, 3), (0, 4), (0, 5)])), (3, (.ptr (5, 0) [])), (6, (.ref (8, 0) [])), (7, (.imm true (.int .i64) x.1))] [((0, 0), some ⟨true, kGather, (.imm z4_0), h4_0_2⟩), ((0, 1), some ⟨true, .ptr, .own, (some (0, 6) : Option RName)⟩), ((0, 2), some ⟨true, (.int .i64), .own, h4_0_3⟩), ((0, 3), some ⟨true, (.int .i64), .own, h4_0_4⟩), ((0, 4), some ⟨true, (.sl (.int .i64)), .own, h4_0_5⟩), ((0, 5), some ⟨true, (.int .i64), .own, h4_0_6⟩), ((0, 6), some ⟨true, kWorks, (.pair .own (.imm z4_1)), h4_0_7⟩), ((5, 0), some ⟨true, kField, .own, h4_0_8⟩), ((8, 0), some ⟨false, (.sl (.int .i64)), .own, x.2⟩)])
noncomputable def i_Field_lists_i_MendAfterc1_591f_l4_D (s : St) : Tre (Ex × St) :=
 asImmZ true (.int .i64) (s.tmps 1) fun d2 =>
 asFn 43 [(0, 0), (0, 1), (0, 2), (0, 3), (0, 4), (0, 5)] (s.tmps 2) <|
 asPtr (5, 0) [] (s.tmps 3) <|
 asRef (8, 0) [] (s.tmps 6) <|
 asImmZ true (.int .i64) (s.tmps 7) fun d7 =>
 asRoot true kGather (s.roots (0, 0)) fun m9 d10 =>
 asMImm m9 fun z11 =>
 asRoot true .ptr (s.roots (0, 1)) fun m13 d14 =>
 asM .own m13 <|
 asD d14 (some (0, 6) : Option RName) <|
 asRoot true (.int .i64) (s.roots (0, 2)) fun m16 d17 =>
 asM .own m16 <|
 asRoot true (.int .i64) (s.roots (0, 3)) fun m19 d20 =>
 asM .own m19 <|
 asRoot true (.sl (.int .i64)) (s.roots (0, 4)) fun m22 d23 =>
 asM .own m22 <|
 asRoot true (.int .i64) (s.roots (0, 5)) fun m25 d26 =>
 asM .own m25 <|
 asRoot true kWorks (s.roots (0, 6)) fun m28 d29 =>
 asMPair m28 fun m30 m31 =>
 asM .own m30 <|
 asMImm m31 fun z32 =>
 asRoot true kField (s.roots (5, 0)) fun m34 d35 =>
 asM .own m34 <|
 asRoot false (.sl (.int .i64)) (s.roots (8, 0)) fun m37 d38 =>
 asM .own m37 <|
 .mat (loopF (i_Field_lists_i_MendAfterc1_591f_l4 d35) (d7, d38)) fun x => .ret (i_Field_lists_i_MendAfterc1_591f_l4_out z11 z32 d2 d10 d17 d20 d23 d26 d29 d35 x)
noncomputable def i_Field_lists_i_MendAfterc1_591f_l4_L : LoopI := ⟨([1, 2, 3, 6, 7], [(0, 0), (0, 1), (0, 2), (0, 3), (0, 4), (0, 5), (0, 6), (5, 0), (8, 0)]), ([1, 2, 3, 6, 7], [(0, 0), (0, 1), (0, 2), (0, 3), (0, 4), (0, 5), (0, 6), (5, 0), (8, 0)]), i_Field_lists_i_MendAfterc1_591f_l4_D⟩
noncomputable def i_Field_lists_i_MendAfterc1_591f_l2_mk (z2_0 : Bool) (z2_1 : Bool) (h2_0_0 : Int) (h2_0_1 : TGather) (h2_0_2 : Int) (h2_0_6 : TWorks) (h2_0_7 : (Int × (Int × Unit))) : (Int × (List Int) × Int × (List Int)) → St := fun x => stOf [(1, (.imm true (.int .i64) h2_0_0)), (2, (.fn 43 [(0, 0), (0, 1), (0, 2), (0, 3), (0, 4), (0, 5)])), (3, (.ptr (5, 0) [])), (6, (.ref (8, 0) []))] [((0, 0), some ⟨true, kGather, (.imm z2_0), h2_0_1⟩), ((0, 1), some ⟨true, .ptr, .own, (some (0, 6) : Option RName)⟩), ((0, 2), some ⟨true, (.int .i64), .own, h2_0_2⟩), ((0, 3), some ⟨true, (.int .i64), .own, x.1⟩), ((0, 4), some ⟨true, (.sl (.int .i64)), .own, x.2.1⟩), ((0, 5), some ⟨true, (.int .i64), .own, x.2.2.1⟩), ((0, 6), some ⟨true, kWorks, (.pair .own (.imm z2_1)), h2_0_6⟩), ((5, 0), some ⟨true, kField, .own, h2_0_7⟩), ((8, 0), some ⟨false, (.sl (.int .i64)), .own, x.2.2.2⟩)]
noncomputable def i_Field_lists_i_MendAfterc1_591f_l2_out (z2_0 : Bool) (z2_1 : Bool) (_h2_0_0 : Int) (h2_0_1 : TGather) (h2_0_2 : Int) (h2_0_6 : TWorks) (_h2_0_7 : (Int × (Int × Unit))) : (Int × (List Int) × Int) → Ex × St := fun x => (.ret, stOf [] [((0, 0), some ⟨true, kGather, (.imm z2_0), h2_0_1⟩), ((0, 1), some ⟨true, .ptr, .own, (some (0, 6) : Option RName)⟩), ((0, 2), some ⟨true, (.int .i64), .own, h2_0_2⟩), ((0, 3), some ⟨true, (.int .i64), .own, x.1⟩), ((0, 4), some ⟨true, (.sl (.int .i64)), .own, x.2.1⟩), ((0, 5), some ⟨true, (.int .i64), .own, x.2.2⟩), ((0, 6), some ⟨true, kWorks, (.pair .own (.imm z2_1)), h2_0_6⟩)])
noncomputable def i_Field_lists_i_MendAfterc1_591f_l2_D (s : St) : Tre (Ex × St) :=
 asImmZ true (.int .i64) (s.tmps 1) fun d2 =>
 asFn 43 [(0, 0), (0, 1), (0, 2), (0, 3), (0, 4), (0, 5)] (s.tmps 2) <|
 asPtr (5, 0) [] (s.tmps 3) <|
 asRef (8, 0) [] (s.tmps 6) <|
 asRoot true kGather (s.roots (0, 0)) fun m7 d8 =>
 asMImm m7 fun z9 =>
 asRoot true .ptr (s.roots (0, 1)) fun m11 d12 =>
 asM .own m11 <|
 asD d12 (some (0, 6) : Option RName) <|
 asRoot true (.int .i64) (s.roots (0, 2)) fun m14 d15 =>
 asM .own m14 <|
 asRoot true (.int .i64) (s.roots (0, 3)) fun m17 d18 =>
 asM .own m17 <|
 asRoot true (.sl (.int .i64)) (s.roots (0, 4)) fun m20 d21 =>
 asM .own m20 <|
 asRoot true (.int .i64) (s.roots (0, 5)) fun m23 d24 =>
 asM .own m23 <|
 asRoot true kWorks (s.roots (0, 6)) fun m26 d27 =>
 asMPair m26 fun m28 m29 =>
 asM .own m28 <|
 asMImm m29 fun z30 =>
 asRoot true kField (s.roots (5, 0)) fun m32 d33 =>
 asM .own m32 <|
 asRoot false (.sl (.int .i64)) (s.roots (8, 0)) fun m35 d36 =>
 asM .own m35 <|
 .mat (loopF (i_Field_lists_i_MendAfterc1_591f_l2 d2 d8 d15 d27 d33) (d18, d21, d24, d36)) fun x => .ret (i_Field_lists_i_MendAfterc1_591f_l2_out z9 z30 d2 d8 d15 d27 d33 x)
noncomputable def i_Field_lists_i_MendAfterc1_591f_l2_L : LoopI := ⟨([1, 2, 3, 6], [(0, 0), (0, 1), (0, 2), (0, 3), (0, 4), (0, 5), (0, 6), (5, 0), (8, 0)]), ([], [(0, 0), (0, 1), (0, 2), (0, 3), (0, 4), (0, 5), (0, 6)]), i_Field_lists_i_MendAfterc1_591f_l2_D⟩
noncomputable def i_Field_lists_i_MendAfterc1_591f_A : List (Nat × LoopI) := [(4, i_Field_lists_i_MendAfterc1_591f_l4_L), (2, i_Field_lists_i_MendAfterc1_591f_l2_L)]
set_option maxRecDepth 100000 in
theorem i_Field_lists_i_MendAfterc1_591f_l4_step : ∀ (z4_0 : Bool) (z4_1 : Bool) (h4_0_0 : Int) (h4_0_2 : TGather) (h4_0_3 : Int) (h4_0_4 : Int) (h4_0_5 : (List Int)) (h4_0_6 : Int) (h4_0_7 : TWorks) (h4_0_8 : (Int × (Int × Unit))) (x : (Int × (List Int))) (c : St → Option (Ex × St)), den i_Field_lists_i_MendAfterc1_591f_V i_Field_lists_i_MendAfterc1_591f_A (loopAt i_Field_lists_i_MendAfterc1_591f_b 1) (i_Field_lists_i_MendAfterc1_591f_l4_mk z4_0 z4_1 h4_0_0 h4_0_2 h4_0_3 h4_0_4 h4_0_5 h4_0_6 h4_0_7 h4_0_8 x) (roundK i_Field_lists_i_MendAfterc1_591f_l4_L.kp i_Field_lists_i_MendAfterc1_591f_l4_L.kx c) = (i_Field_lists_i_MendAfterc1_591f_l4 h4_0_8 x).run (roundR (i_Field_lists_i_MendAfterc1_591f_l4_mk z4_0 z4_1 h4_0_0 h4_0_2 h4_0_3 h4_0_4 h4_0_5 h4_0_6 h4_0_7 h4_0_8) (i_Field_lists_i_MendAfterc1_591f_l4_out z4_0 z4_1 h4_0_0 h4_0_2 h4_0_3 h4_0_4 h4_0_5 h4_0_6 h4_0_7 h4_0_8) c) := fun _ _ _ _ _ _ _ _ _ _ _ _ => by
 kernel_rfl
theorem i_Field_lists_i_MendAfterc1_591f_l4_ok : LoopOK i_Field_lists_i_MendAfterc1_591f_V i_Field_lists_i_MendAfterc1_591f_A (loopAt i_Field_lists_i_MendAfterc1_591f_b 1) i_Field_lists_i_MendAfterc1_591f_l4_L := loopOK_of fun s e s' h => by
 generalize hs : restrict i_Field_lists_i_MendAfterc1_591f_l4_L.kp s = s1 at h
 have h : (i_Field_lists_i_MendAfterc1_591f_l4_D s1).run some = some (e, s') := h
 obtain ⟨d2, e1, h_0⟩ := asImmZ_spec h
 obtain ⟨e3, h_1⟩ := asFn_spec h_0
 obtain ⟨e4, h_2⟩ := asPtr_spec h_1
 obtain ⟨e5, h_3⟩ := asRef_spec h_2
 obtain ⟨d7, e6, h_4⟩ := asImmZ_spec h_3
 obtain ⟨m9, d10, e8, h_5⟩ := asRoot_spec h_4
 obtain ⟨z11, rfl, h_6⟩ := asMImm_spec h_5
 obtain ⟨m13, d14, e12, h_7⟩ := asRoot_spec h_6
 obtain ⟨rfl, h_8⟩ := asM_spec h_7
 obtain ⟨rfl, h_9⟩ := asD_spec h_8
 obtain ⟨m16, d17, e15, h_10⟩ := asRoot_spec h_9
 obtain ⟨rfl, h_11⟩ := asM_spec h_10
 obtain ⟨m19, d20, e18, h_12⟩ := asRoot_spec h_11
 obtain ⟨rfl, h_13⟩ := asM_spec h_12
 obtain ⟨m22, d23, e21, h_14⟩ := asRoot_spec h_13
 obtain ⟨rfl, h_15⟩ := asM_spec h_14
 obtain ⟨m25, d26, e24, h_16⟩ := asRoot_spec h_15
 obtain ⟨rfl, h_17⟩ := asM_spec h_16
 obtain ⟨m28, d29, e27, h_18⟩ := asRoot_spec h_17
 obtain ⟨m30, m31, rfl, h_19⟩ := asMPair_spec h_18
 obtain ⟨rfl, h_20⟩ := asM_spec h_19
 obtain ⟨z32, rfl, h_21⟩ := asMImm_spec h_20
 obtain ⟨m34, d35, e33, h_22⟩ := asRoot_spec h_21
 obtain ⟨rfl, h_23⟩ := asM_spec h_22
 obtain ⟨m37, d38, e36, h_24⟩ := asRoot_spec h_23
 obtain ⟨rfl, h_25⟩ := asM_spec h_24
 obtain ⟨y, hy, hz⟩ := mat_ret h_25
 refine ⟨_, _, i_Field_lists_i_MendAfterc1_591f_l4_mk z11 z32 d2 d10 d17 d20 d23 d26 d29 d35, i_Field_lists_i_MendAfterc1_591f_l4_out z11 z32 d2 d10 d17 d20 d23 d26 d29 d35, i_Field_lists_i_MendAfterc1_591f_l4 d35, (d7, d38), y, ?_, hy, ?_, i_Field_lists_i_MendAfterc1_591f_l4_step z11 z32 d2 d10 d17 d20 d23 d26 d29 d35⟩
 ·subst hs; exact restrict_eq (T := [(1, (.imm true (.int .i64) d2)), (2, (.fn 43 [(0, 0), (0, 1), (0, 2), (0, 3), (0, 4), (0, 5)])), (3, (.ptr (5, 0) [])), (6, (.ref (8, 0) [])), (7, (.imm true (.int .i64) d7))]) (U := [((0, 0), some ⟨true, kGather, (.imm z11), d10⟩), ((0, 1), some ⟨true, .ptr, .own, (some (0, 6) : Option RName)⟩), ((0, 2), some ⟨true, (.int .i64), .own, d17⟩), ((0, 3), some ⟨true, (.int .i64), .own, d20⟩), ((0, 4), some ⟨true, (.sl (.int .i64)), .own, d23⟩), ((0, 5), some ⟨true, (.int .i64), .own, d26⟩), ((0, 6), some ⟨true, kWorks, (.pair .own (.imm z32)), d29⟩), ((5, 0), some ⟨true, kField, .own, d35⟩), ((8, 0), some ⟨false, (.sl (.int .i64)), .own, d38⟩)]) rfl rfl ⟨e1, e3, e4, e5, e6, trivial⟩ ⟨e8, e12, e15, e18, e21, e24, e27, e33, e36, trivial⟩
 ·exact Option.some.inj hz
set_option maxRecDepth 100000 in
theorem i_Field_lists_i_MendAfterc1_591f_l2_step : ∀ (z2_0 : Bool) (z2_1 : Bool) (h2_0_0 : Int) (h2_0_1 : TGather) (h2_0_2 : Int) (h2_0_6 : TWorks) (h2_0_7 : (Int × (Int × Unit))) (x : (Int × (List Int) × Int × (List Int))) (c : St → Option (Ex × St)), den i_Field_lists_i_MendAfterc1_591f_V i_Field_lists_i_MendAfterc1_591f_A (loopAt i_Field_lists_i_MendAfterc1_591f_b 0) (i_Field_lists_i_MendAfterc1_591f_l2_mk z2_0 z2_1 h2_0_0 h2_0_1 h2_0_2 h2_0_6 h2_0_7 x) (roundK i_Field_lists_i_MendAfterc1_591f_l2_L.kp i_Field_lists_i_MendAfterc1_591f_l2_L.kx c) = (i_Field_lists_i_MendAfterc1_591f_l2 h2_0_0 h2_0_1 h2_0_2 h2_0_6 h2_0_7 x).run (roundR (i_Field_lists_i_MendAfterc1_591f_l2_mk z2_0 z2_1 h2_0_0 h2_0_1 h2_0_2 h2_0_6 h2_0_7) (i_Field_lists_i_MendAfterc1_591f_l2_out z2_0 z2_1 h2_0_0 h2_0_1 h2_0_2 h2_0_6 h2_0_7) c) := fun _ _ _ _ _ _ _ _ _ => by
 kernel_rfl
theorem i_Field_lists_i_MendAfterc1_591f_l2_ok : LoopOK i_Field_lists_i_MendAfterc1_591f_V i_Field_lists_i_MendAfterc1_591f_A (loopAt i_Field_lists_i_MendAfterc1_591f_b 0) i_Field_lists_i_MendAfterc1_591f_l2_L := loopOK_of fun s e s' h => by
 generalize hs : restrict i_Field_lists_i_MendAfterc1_591f_l2_L.kp s = s1 at h
 have h : (i_Field_lists_i_MendAfterc1_591f_l2_D s1).run some = some (e, s') := h
 obtain ⟨d2, e1, h_0⟩ := asImmZ_spec h
 obtain ⟨e3, h_1⟩ := asFn_spec h_0
 obtain ⟨e4, h_2⟩ := asPtr_spec h_1
 obtain ⟨e5, h_3⟩ := asRef_spec h_2
 obtain ⟨m7, d8, e6, h_4⟩ := asRoot_spec h_3
 obtain ⟨z9, rfl, h_5⟩ := asMImm_spec h_4
 obtain ⟨m11, d12, e10, h_6⟩ := asRoot_spec h_5
 obtain ⟨rfl, h_7⟩ := asM_spec h_6
 obtain ⟨rfl, h_8⟩ := asD_spec h_7
 obtain ⟨m14, d15, e13, h_9⟩ := asRoot_spec h_8
 obtain ⟨rfl, h_10⟩ := asM_spec h_9
 obtain ⟨m17, d18, e16, h_11⟩ := asRoot_spec h_10
 obtain ⟨rfl, h_12⟩ := asM_spec h_11
 obtain ⟨m20, d21, e19, h_13⟩ := asRoot_spec h_12
 obtain ⟨rfl, h_14⟩ := asM_spec h_13
 obtain ⟨m23, d24, e22, h_15⟩ := asRoot_spec h_14
 obtain ⟨rfl, h_16⟩ := asM_spec h_15
 obtain ⟨m26, d27, e25, h_17⟩ := asRoot_spec h_16
 obtain ⟨m28, m29, rfl, h_18⟩ := asMPair_spec h_17
 obtain ⟨rfl, h_19⟩ := asM_spec h_18
 obtain ⟨z30, rfl, h_20⟩ := asMImm_spec h_19
 obtain ⟨m32, d33, e31, h_21⟩ := asRoot_spec h_20
 obtain ⟨rfl, h_22⟩ := asM_spec h_21
 obtain ⟨m35, d36, e34, h_23⟩ := asRoot_spec h_22
 obtain ⟨rfl, h_24⟩ := asM_spec h_23
 obtain ⟨y, hy, hz⟩ := mat_ret h_24
 refine ⟨_, _, i_Field_lists_i_MendAfterc1_591f_l2_mk z9 z30 d2 d8 d15 d27 d33, i_Field_lists_i_MendAfterc1_591f_l2_out z9 z30 d2 d8 d15 d27 d33, i_Field_lists_i_MendAfterc1_591f_l2 d2 d8 d15 d27 d33, (d18, d21, d24, d36), y, ?_, hy, ?_, i_Field_lists_i_MendAfterc1_591f_l2_step z9 z30 d2 d8 d15 d27 d33⟩
 ·subst hs; exact restrict_eq (T := [(1, (.imm true (.int .i64) d2)), (2, (.fn 43 [(0, 0), (0, 1), (0, 2), (0, 3), (0, 4), (0, 5)])), (3, (.ptr (5, 0) [])), (6, (.ref (8, 0) []))]) (U := [((0, 0), some ⟨true, kGather, (.imm z9), d8⟩), ((0, 1), some ⟨true, .ptr, .own, (some (0, 6) : Option RName)⟩), ((0, 2), some ⟨true, (.int .i64), .own, d15⟩), ((0, 3), some ⟨true, (.int .i64), .own, d18⟩), ((0, 4), some ⟨true, (.sl (.int .i64)), .own, d21⟩), ((0, 5), some ⟨true, (.int .i64), .own, d24⟩), ((0, 6), some ⟨true, kWorks, (.pair .own (.imm z30)), d27⟩), ((5, 0), some ⟨true, kField, .own, d33⟩), ((8, 0), some ⟨false, (.sl (.int .i64)), .own, d36⟩)]) rfl rfl ⟨e1, e3, e4, e5, trivial⟩ ⟨e6, e10, e13, e16, e19, e22, e25, e31, e34, trivial⟩
 ·exact Option.some.inj hz
noncomputable def i_Field_lists_i_MendAfterc1_591f_I : FnI := ⟨i_Field_lists_i_MendAfterc1_591f_b, Try.f42.results.toList, Try.f42.resultTypes.toList, i_Field_lists_i_MendAfterc1_591f_A⟩
noncomputable def i_Field_lists_i_MendAfterc1_591f_out (zp0 : Bool) (zp1 : Bool) (_p0 : (Int × (Int × Unit))) (_p1 : Int) (p2 : TGather) (p3 : Int) (_p4 : Int) (_p5 : (List Int)) (_p6 : Int) (p7 : TWorks) : (Int × (List Int) × Int) → CallOut := fun r => ⟨.tnil, [⟨true, kGather, (.imm zp0), p2⟩, ⟨true, .ptr, .own, (some (0, 6) : Option RName)⟩, ⟨true, (.int .i64), .own, p3⟩, ⟨true, (.int .i64), .own, r.1⟩, ⟨true, (.sl (.int .i64)), .own, r.2.1⟩, ⟨true, (.int .i64), .own, r.2.2⟩, ⟨true, kWorks, (.pair .own (.imm zp1)), p7⟩], []⟩
set_option maxRecDepth 100000 in
theorem i_Field_lists_i_MendAfterc1_591f_eq : ∀ (zp0 : Bool) (zp1 : Bool) (p0 : (Int × (Int × Unit))) (p1 : Int) (p2 : TGather) (p3 : Int) (p4 : Int) (p5 : (List Int)) (p6 : Int) (p7 : TWorks), denFn i_Field_lists_i_MendAfterc1_591f_V i_Field_lists_i_MendAfterc1_591f_I ⟨[(.imm true kField p0), (.imm true (.int .i64) p1), (.fn 43 [(0, 0), (0, 1), (0, 2), (0, 3), (0, 4), (0, 5)])], [⟨true, kGather, (.imm zp0), p2⟩, ⟨true, .ptr, .own, (some (0, 6) : Option RName)⟩, ⟨true, (.int .i64), .own, p3⟩, ⟨true, (.int .i64), .own, p4⟩, ⟨true, (.sl (.int .i64)), .own, p5⟩, ⟨true, (.int .i64), .own, p6⟩, ⟨true, kWorks, (.pair .own (.imm zp1)), p7⟩]⟩ = (i_Field_lists_i_MendAfterc1_591f p0 p1 p2 p3 p4 p5 p6 p7).run fun r => some (i_Field_lists_i_MendAfterc1_591f_out zp0 zp1 p0 p1 p2 p3 p4 p5 p6 p7 r) := fun _ _ _ _ _ _ _ _ _ _ => by kernel_rfl
noncomputable def i_Field_lists_i_MendAfterc1_591f_G (av : List AV) (rs : List Root) : Tre CallOut :=
 asCons av fun a0_ av0 =>
 asCons av0 fun a1_ av1 =>
 asCons av1 fun a2_ av2 =>
 asEnd av2 <|
 asCons rs fun r0_ rs0 =>
 asCons rs0 fun r1_ rs1 =>
 asCons rs1 fun r2_ rs2 =>
 asCons rs2 fun r3_ rs3 =>
 asCons rs3 fun r4_ rs4 =>
 asCons rs4 fun r5_ rs5 =>
 asCons rs5 fun r6_ rs6 =>
 asEnd rs6 <|
 asImmZ true kField a0_ fun d1 =>
 asImmZ true (.int .i64) a1_ fun d2 =>
 asFn 43 [(0, 0), (0, 1), (0, 2), (0, 3), (0, 4), (0, 5)] a2_ <|
 asRt true kGather r0_ fun m3 d4 =>
 asMImm m3 fun z5 =>
 asRt true .ptr r1_ fun m6 d7 =>
 asM .own m6 <|
 asD d7 (some (0, 6) : Option RName) <|
 asRt true (.int .i64) r2_ fun m8 d9 =>
 asM .own m8 <|
 asRt true (.int .i64) r3_ fun m10 d11 =>
 asM .own m10 <|
 asRt true (.sl (.int .i64)) r4_ fun m12 d13 =>
 asM .own m12 <|
 asRt true (.int .i64) r5_ fun m14 d15 =>
 asM .own m14 <|
 asRt true kWorks r6_ fun m16 d17 =>
 asMPair m16 fun m18 m19 =>
 asM .own m18 <|
 asMImm m19 fun z20 =>
 .mat (i_Field_lists_i_MendAfterc1_591f_F d1 d2 d4 d9 d11 d13 d15 d17) fun r => .ret (i_Field_lists_i_MendAfterc1_591f_out z5 z20 d1 d2 d4 d9 d11 d13 d15 d17 r)
noncomputable def i_Field_lists_i_MendAfterc1_591f_c : Ctr := ⟨[], fun ci => i_Field_lists_i_MendAfterc1_591f_G ci.args ci.roots⟩
theorem i_Field_lists_i_MendAfterc1_591f_env : EnvOK Try.prog i_Field_lists_i_MendAfterc1_591f_V := (envOK_cons i_MendAfterc1_a693_ok ent43 (envOK_cons i_Field_count_ok ent81 envOK_nil))
set_option maxRecDepth 100000 in
theorem i_Field_lists_i_MendAfterc1_591f_ok : Contract Try.prog 42 i_Field_lists_i_MendAfterc1_591f_c := by
 have hl : LoopsOK i_Field_lists_i_MendAfterc1_591f_V i_Field_lists_i_MendAfterc1_591f_A i_Field_lists_i_MendAfterc1_591f_b := (loopsOK_all (n := 2) (by kernel_rfl) fun k hk => by
   match k, hk with
   | 0, _ => exact loopOK_at (id := 2) (L := i_Field_lists_i_MendAfterc1_591f_l2_L) (by kernel_rfl) (by kernel_rfl) i_Field_lists_i_MendAfterc1_591f_l2_ok
   | 1, _ => exact loopOK_at (id := 4) (L := i_Field_lists_i_MendAfterc1_591f_l4_L) (by kernel_rfl) (by kernel_rfl) i_Field_lists_i_MendAfterc1_591f_l4_ok)
 refine (contract_of (F := i_Field_lists_i_MendAfterc1_591f_I) tau_tys i_Field_lists_i_MendAfterc1_591f_env Try.func42 (by kernel_rfl) (by kernel_rfl) (by kernel_rfl) hl []).weaken ?_
 rintro ⟨av, rs⟩ co h
 have h : (i_Field_lists_i_MendAfterc1_591f_G av rs).run some = some co := h
 obtain ⟨a0_, av0, rfl, h_0⟩ := asCons_spec h
 obtain ⟨a1_, av1, rfl, h_1⟩ := asCons_spec h_0
 obtain ⟨a2_, av2, rfl, h_2⟩ := asCons_spec h_1
 obtain ⟨rfl, h_3⟩ := asEnd_spec h_2
 obtain ⟨r0_, rs0, rfl, h_4⟩ := asCons_spec h_3
 obtain ⟨r1_, rs1, rfl, h_5⟩ := asCons_spec h_4
 obtain ⟨r2_, rs2, rfl, h_6⟩ := asCons_spec h_5
 obtain ⟨r3_, rs3, rfl, h_7⟩ := asCons_spec h_6
 obtain ⟨r4_, rs4, rfl, h_8⟩ := asCons_spec h_7
 obtain ⟨r5_, rs5, rfl, h_9⟩ := asCons_spec h_8
 obtain ⟨r6_, rs6, rfl, h_10⟩ := asCons_spec h_9
 obtain ⟨rfl, h_11⟩ := asEnd_spec h_10
 obtain ⟨d1, rfl, h_12⟩ := asImmZ_spec h_11
 obtain ⟨d2, rfl, h_13⟩ := asImmZ_spec h_12
 obtain ⟨rfl, h_14⟩ := asFn_spec h_13
 obtain ⟨m3, d4, rfl, h_15⟩ := asRt_spec h_14
 obtain ⟨z5, rfl, h_16⟩ := asMImm_spec h_15
 obtain ⟨m6, d7, rfl, h_17⟩ := asRt_spec h_16
 obtain ⟨rfl, h_18⟩ := asM_spec h_17
 obtain ⟨rfl, h_19⟩ := asD_spec h_18
 obtain ⟨m8, d9, rfl, h_20⟩ := asRt_spec h_19
 obtain ⟨rfl, h_21⟩ := asM_spec h_20
 obtain ⟨m10, d11, rfl, h_22⟩ := asRt_spec h_21
 obtain ⟨rfl, h_23⟩ := asM_spec h_22
 obtain ⟨m12, d13, rfl, h_24⟩ := asRt_spec h_23
 obtain ⟨rfl, h_25⟩ := asM_spec h_24
 obtain ⟨m14, d15, rfl, h_26⟩ := asRt_spec h_25
 obtain ⟨rfl, h_27⟩ := asM_spec h_26
 obtain ⟨m16, d17, rfl, h_28⟩ := asRt_spec h_27
 obtain ⟨m18, m19, rfl, h_29⟩ := asMPair_spec h_28
 obtain ⟨rfl, h_30⟩ := asM_spec h_29
 obtain ⟨z20, rfl, h_31⟩ := asMImm_spec h_30
 exact fin_mat (i_Field_lists_i_MendAfterc1_591f_eq z5 z20 d1 d2 d4 d9 d11 d13 d15 d17) h_31
end Go.Proofs.Ytddaclhjnkimfaa

namespace Go.Proofs.Ytddaclhjnkimfaa
open Go Go.Abs Go.Proofs
noncomputable def s_l08Missed_9ed6_l3 (h3_0_0 : TGather) (h3_0_1 : (List Int)) (h3_0_2 : (List Int)) : (Int × (List Int)) → Tre ((Int × (List Int)) ⊕ (List Int)) := fun s3 =>
 .cond (decide (s3.1 < (h3_0_1.length : Int)))
  (.ite (0 ≤ s3.1 ∧ s3.1 < (h3_0_1.length : Int)) <|
  .mat (h3_0_1[s3.1.toNat]?) fun x1 =>
  .ite (0 ≤ iwrap .u64 h3_0_0.1) <|
  let v2 := ishl .i64 1 (iwrap .u64 h3_0_0.1)
  let v3 := iand .i64 x1 (iwrap .i64 (v2 - 1))
  .ite (0 ≤ s3.1 ∧ s3.1 < (h3_0_1.length : Int)) <|
  .mat (h3_0_1[s3.1.toNat]?) fun x4 =>
  .ite (0 ≤ iwrap .u64 h3_0_0.1) <|
  let v5 := ishr .i64 x4 (iwrap .u64 h3_0_0.1)
  .mat (timesR v3 h3_0_2) fun r6 =>
  .ite ((s3.2.length + 1) * 8 ≤ appendMax ∧ 1 ≤ 8) <|
  let v7 := s3.2 ++ ([ixor .i64 v5 r6])
  .ret (.inl (iwrap .i64 (s3.1 + 1), v7)))
  (.ret (.inr s3.2))
noncomputable def s_l08Missed_9ed6 (p0 : TGather) (p1 : (List Int)) (p2 : (List Int)) : Tre Int :=
 .mat (loopF (s_l08Missed_9ed6_l3 p0 p1 p2) (0, [])) fun l8 =>
 .mat (rankR p0.2.1 l8) fun r9 =>
 .ret r9
noncomputable def s_l08Missed_9ed6_F (p0 : TGather) (p1 : (List Int)) (p2 : (List Int)) : Option Int := (s_l08Missed_9ed6 p0 p1 p2).run some
noncomputable def missO (g : Int × Int × List Int × Int × Int × Unit) (ps ds : List Int) : Option Int := missR ps ds g
theorem s_l08Missed_9ed6_spec (p0 : Int × Int × List Int × Int × Int × Unit) (p1 p2 : List Int) (y : Int) (h : missO p0 p1 p2 = some y) : s_l08Missed_9ed6_F p0 p1 p2 = some y := by
 obtain ⟨hok, rfl⟩ := askO_some h
 have hr := (missW_ok hok).1
 unfold okM at hok
 simp only [Bool.and_eq_true, decide_eq_true_eq, inR_iff] at hok
 obtain ⟨⟨⟨⟨⟨hk, hm⟩, hl1⟩, hl2⟩, hps⟩, hds⟩ := hok
 unfold s_l08Missed_9ed6_F s_l08Missed_9ed6
 have hu : iwrap .u64 p0.1 = p0.1 := iwrap_u64 (by omega) (by omega)
 have := fold_loop (xs := p1) (step := s_l08Missed_9ed6_l3 p0 p1 p2) (fun i acc => ((i : Int), acc)) (fun _ acc x => .inl (acc ++ [missW p0 p2 x])) id (fun i acc => acc.length = i) (by
  intro i acc x hx hI
  have hi : i < p1.length := (List.getElem?_eq_some_iff.1 hx).1
  refine ⟨?_, fun a ha => by cases ha; simp [hI]⟩
  unfold s_l08Missed_9ed6_l3
  rw [run_inb hx, hu, Tre.run_ite, if_pos (by omega)]
  dsimp only
  rw [run_at hx, Tre.run_ite, if_pos (by omega)]
  rw [top1_def, run_some_mat (show timesR (iand .i64 x (top1 p0.1)) p2 = some _ from lim_of hl2), Tre.run_ite, if_pos (by unfold appendMax; omega), Tre.run_ret, iwrap_succ (by omega)]
  rfl)
  (by
  intro acc _
  unfold s_l08Missed_9ed6_l3
  exact run_out) p1 0 [] rfl (Nat.zero_le _) rfl
 rw [foldE_map] at this
 have h1 : loopF (s_l08Missed_9ed6_l3 p0 p1 p2) (0, []) = some (p1.map (missW p0 p2)) := this
 rw [run_some_mat h1, run_some_mat (show rankR p0.2.1 (p1.map (missW p0 p2)) = some _ from askO_true (by rw [Bool.and_eq_true, inR_iff]; exact ⟨by omega, hr⟩))]
 rfl
noncomputable def s_l08Missed_9ed6_V : Env := ⟨tau, [(73, s_l02Times_c), (74, s_l02Rank_c)], []⟩
noncomputable def s_l08Missed_9ed6_b : Code := (Try.f37.body).getD .skip
noncomputable def s_l08Missed_9ed6_l3_mk (z3_0 : Bool) (z3_1 : Bool) (z3_2 : Bool) (h3_0_0 : TGather) (h3_0_1 : (List Int)) (h3_0_2 : (List Int)) : (Int × (List Int)) → St := fun x => stOf [(0, (.iptr z3_0 (.sl kGather) ([h3_0_0]) [.idx 0])), (1, (.imm z3_1 (.sl (.int .i64)) h3_0_1)), (2, (.imm z3_2 (.sl (.int .i64)) h3_0_2)), (7, (.ref (9, 0) [])), (8, (.imm true (.int .i64) x.1))] [((9, 0), some ⟨false, (.sl (.int .i64)), .own, x.2⟩)]
noncomputable def s_l08Missed_9ed6_l3_out (z3_0 : Bool) (_z3_1 : Bool) (_z3_2 : Bool) (h3_0_0 : TGather) (_h3_0_1 : (List Int)) (_h3_0_2 : (List Int)) : (List Int) → Ex × St := fun x => (.exit 0, stOf [(0, (.iptr z3_0 (.sl kGather) ([h3_0_0]) [.idx 0])), (7, (.ref (9, 0) []))] [((9, 0), some ⟨false, (.sl (.int .i64)), .own, x⟩)])
noncomputable def s_l08Missed_9ed6_l3_D (s : St) : Tre (Ex × St) :=
 asIptr kGather (s.tmps 0) fun z2 d3 =>
 asImm (.sl (.int .i64)) (s.tmps 1) fun z6 d5 =>
 asImm (.sl (.int .i64)) (s.tmps 2) fun z9 d8 =>
 asRef (9, 0) [] (s.tmps 7) <|
 asImmZ true (.int .i64) (s.tmps 8) fun d12 =>
 asRoot false (.sl (.int .i64)) (s.roots (9, 0)) fun m14 d15 =>
 asM .own m14 <|
 .mat (loopF (s_l08Missed_9ed6_l3 d3 d5 d8) (d12, d15)) fun x => .ret (s_l08Missed_9ed6_l3_out z2 z6 z9 d3 d5 d8 x)
noncomputable def s_l08Missed_9ed6_l3_L : LoopI := ⟨([0, 1, 2, 7, 8], [(9, 0)]), ([0, 7], [(9, 0)]), s_l08Missed_9ed6_l3_D⟩
noncomputable def s_l08Missed_9ed6_A : List (Nat × LoopI) := [(3, s_l08Missed_9ed6_l3_L)]
set_option maxRecDepth 100000 in
theorem s_l08Missed_9ed6_l3_step : ∀ (z3_0 : Bool) (z3_1 : Bool) (z3_2 : Bool) (h3_0_0 : TGather) (h3_0_1 : (List Int)) (h3_0_2 : (List Int)) (x : (Int × (List Int))) (c : St → Option (Ex × St)), den s_l08Missed_9ed6_V s_l08Missed_9ed6_A (loopAt s_l08Missed_9ed6_b 0) (s_l08Missed_9ed6_l3_mk z3_0 z3_1 z3_2 h3_0_0 h3_0_1 h3_0_2 x) (roundK s_l08Missed_9ed6_l3_L.kp s_l08Missed_9ed6_l3_L.kx c) = (s_l08Missed_9ed6_l3 h3_0_0 h3_0_1 h3_0_2 x).run (roundR (s_l08Missed_9ed6_l3_mk z3_0 z3_1 z3_2 h3_0_0 h3_0_1 h3_0_2) (s_l08Missed_9ed6_l3_out z3_0 z3_1 z3_2 h3_0_0 h3_0_1 h3_0_2) c) := fun _ _ _ _ _ _ _ _ => by
 kernel_rfl
theorem s_l08Missed_9ed6_l3_ok : LoopOK s_l08Missed_9ed6_V s_l08Missed_9ed6_A (loopAt s_l08Missed_9ed6_b 0) s_l08Missed_9ed6_l3_L := loopOK_of fun s e s' h => by
 generalize hs : restrict s_l08Missed_9ed6_l3_L.kp s = s1 at h
 have h : (s_l08Missed_9ed6_l3_D s1).run some = some (e, s') := h
 obtain ⟨z2, d3, e1, h_0⟩ := asIptr_spec h
 obtain ⟨z6, d5, e4, h_1⟩ := asImm_spec h_0
 obtain ⟨z9, d8, e7, h_2⟩ := asImm_spec h_1
 obtain ⟨e10, h_3⟩ := asRef_spec h_2
 obtain ⟨d12, e11, h_4⟩ := asImmZ_spec h_3
 obtain ⟨m14, d15, e13, h_5⟩ := asRoot_spec h_4
 obtain ⟨rfl, h_6⟩ := asM_spec h_5
 obtain ⟨y, hy, hz⟩ := mat_ret h_6
 refine ⟨_, _, s_l08Missed_9ed6_l3_mk z2 z6 z9 d3 d5 d8, s_l08Missed_9ed6_l3_out z2 z6 z9 d3 d5 d8, s_l08Missed_9ed6_l3 d3 d5 d8, (d12, d15), y, ?_, hy, ?_, s_l08Missed_9ed6_l3_step z2 z6 z9 d3 d5 d8⟩
 ·subst hs; exact restrict_eq (T := [(0, (.iptr z2 (.sl kGather) ([d3]) [.idx 0])), (1, (.imm z6 (.sl (.int .i64)) d5)), (2, (.imm z9 (.sl (.int .i64)) d8)), (7, (.ref (9, 0) [])), (8, (.imm true (.int .i64) d12))]) (U := [((9, 0), some ⟨false, (.sl (.int .i64)), .own, d15⟩)]) rfl rfl ⟨e1, e4, e7, e10, e11, trivial⟩ ⟨e13, trivial⟩
 ·exact Option.some.inj hz
noncomputable def s_l08Missed_9ed6_I : FnI := ⟨s_l08Missed_9ed6_b, Try.f37.results.toList, Try.f37.resultTypes.toList, s_l08Missed_9ed6_A⟩
noncomputable def s_l08Missed_9ed6_out (_zp0 : Bool) (_zp1 : Bool) (_zp2 : Bool) (_p0 : TGather) (_p1 : (List Int)) (_p2 : (List Int)) : Int → CallOut := fun r => ⟨(.imm true (.int .i64) r), [], []⟩
set_option maxRecDepth 100000 in
theorem s_l08Missed_9ed6_eq : ∀ (zp0 : Bool) (zp1 : Bool) (zp2 : Bool) (p0 : TGather) (p1 : (List Int)) (p2 : (List Int)), denFn s_l08Missed_9ed6_V s_l08Missed_9ed6_I ⟨[(.iptr zp0 (.sl kGather) ([p0]) [.idx 0]), (.imm zp1 (.sl (.int .i64)) p1), (.imm zp2 (.sl (.int .i64)) p2)], []⟩ = (s_l08Missed_9ed6 p0 p1 p2).run fun r => some (s_l08Missed_9ed6_out zp0 zp1 zp2 p0 p1 p2 r) := fun _ _ _ _ _ _ => by kernel_rfl
noncomputable def s_l08Missed_9ed6_G (av : List AV) (rs : List Root) : Tre CallOut :=
 asCons av fun a0_ av0 =>
 asCons av0 fun a1_ av1 =>
 asCons av1 fun a2_ av2 =>
 asEnd av2 <|
 asEnd rs <|
 asIptr kGather a0_ fun z1 d2 =>
 asImm (.sl (.int .i64)) a1_ fun z4 d3 =>
 asImm (.sl (.int .i64)) a2_ fun z6 d5 =>
 .mat (missO d2 d3 d5) fun r => .ret (s_l08Missed_9ed6_out z1 z4 z6 d2 d3 d5 r)
noncomputable def s_l08Missed_9ed6_c : Ctr := ⟨[0], fun ci => s_l08Missed_9ed6_G ci.args ci.roots⟩
theorem s_l08Missed_9ed6_env : EnvOK Try.prog s_l08Missed_9ed6_V := (envOK_cons s_l02Times_ok ent73 (envOK_cons s_l02Rank_ok ent74 envOK_nil))
set_option maxRecDepth 100000 in
theorem s_l08Missed_9ed6_ok : Contract Try.prog 37 s_l08Missed_9ed6_c := by
 have hl : LoopsOK s_l08Missed_9ed6_V s_l08Missed_9ed6_A s_l08Missed_9ed6_b := (loopsOK_all (n := 1) (by kernel_rfl) fun k hk => by
   match k, hk with
   | 0, _ => exact loopOK_at (id := 3) (L := s_l08Missed_9ed6_l3_L) (by kernel_rfl) (by kernel_rfl) s_l08Missed_9ed6_l3_ok)
 refine (contract_of (F := s_l08Missed_9ed6_I) tau_tys s_l08Missed_9ed6_env Try.func37 (by kernel_rfl) (by kernel_rfl) (by kernel_rfl) hl [0]).weaken ?_
 rintro ⟨av, rs⟩ co h
 have h : (s_l08Missed_9ed6_G av rs).run some = some co := h
 obtain ⟨a0_, av0, rfl, h_0⟩ := asCons_spec h
 obtain ⟨a1_, av1, rfl, h_1⟩ := asCons_spec h_0
 obtain ⟨a2_, av2, rfl, h_2⟩ := asCons_spec h_1
 obtain ⟨rfl, h_3⟩ := asEnd_spec h_2
 obtain ⟨rfl, h_4⟩ := asEnd_spec h_3
 obtain ⟨z1, d2, rfl, h_5⟩ := asIptr_spec h_4
 obtain ⟨z4, d3, rfl, h_6⟩ := asImm_spec h_5
 obtain ⟨z6, d5, rfl, h_7⟩ := asImm_spec h_6
 exact fin_opt (s_l08Missed_9ed6_eq z1 z4 z6 d2 d3 d5) (s_l08Missed_9ed6_spec d2 d3 d5) h_7
end Go.Proofs.Ytddaclhjnkimfaa

namespace Go.Proofs.Ytddaclhjnkimfaa
open Go Go.Abs Go.Proofs
-- shared
def nextL (M : Int) : List Int → Option (List Int)
 | [] => none
 | c :: t => match nextL M t with
  | some t' => some (c :: t')
  | none => cond (decide (c = M - 1)) none (some ((c + 1) :: List.replicate t.length 0))
theorem nextL_top (M : Int) : ∀ n : Nat, nextL M (List.replicate n (M - 1)) = none := by
 intro n
 induction n with
 | zero => rfl
 | succ n ih => simp only [List.replicate_succ, nextL, ih, decide_true, cond_true]
theorem nextL_mid (M : Int) (c : Int) (hc : c ≠ M - 1) (k : Nat) : ∀ zs : List Int, nextL M (zs ++ c :: List.replicate k (M - 1)) = some (zs ++ (c + 1) :: List.replicate k 0) := by
 intro zs
 induction zs with
 | nil => simp only [List.nil_append, nextL, nextL_top, decide_eq_false hc, cond_false, List.length_replicate]
 | cons z zs ih => simp only [List.cons_append, nextL, ih]
theorem nextL_parts (M : Int) : ∀ xs : List Int, xs = List.replicate xs.length (M - 1) ∨ ∃ zs c k, c ≠ M - 1 ∧ xs = zs ++ c :: List.replicate k (M - 1) := by
 intro xs
 induction xs with
 | nil => exact .inl rfl
 | cons x xs ih =>
  rcases ih with h | ⟨zs, c, k, hc, h⟩
  ·by_cases hx : x = M - 1
   ·refine .inl ?_
    rw [List.length_cons, List.replicate_succ, ← h, hx]
   ·exact .inr ⟨[], x, xs.length, hx, by rw [List.nil_append, ← h]⟩
  ·exact .inr ⟨x :: zs, c, k, hc, by rw [h]; rfl⟩
section
variable {step : Int × List Int → Tre ((Int × List Int) ⊕ (Int × List Int))} {M : Int} {N : Nat}
theorem carry_top (h1 : ∀ l, (step (-1, l)).run some = some (.inr (-1, l))) (h2 : ∀ (i : Nat) (l : List Int) (x : Int), l[i]? = some x → l.length ≤ N → (step ((i : Int), l)).run some = some (cond (decide (x = M - 1)) (.inl ((i : Int) - 1, l.set i 0)) (.inr ((i : Int), l)))) :
  ∀ k j : Nat, k + j ≤ N → loopF step ((k : Int) - 1, List.replicate k (M - 1) ++ List.replicate j 0) = some (-1, List.replicate (k + j) 0) := by
 intro k
 induction k with
 | zero => intro j _; rw [show ((0 : Nat) : Int) - 1 = -1 from rfl, loopF_done (h1 _)]; simp
 | succ k ih =>
  intro j hN
  have hx : (List.replicate (k + 1) (M - 1) ++ List.replicate j 0)[k]? = some (M - 1) := by
   rw [List.getElem?_append_left (by simp), List.getElem?_replicate]; simp
  have hs : (List.replicate (k + 1) (M - 1) ++ List.replicate j 0).set k 0 = List.replicate k (M - 1) ++ List.replicate (j + 1) 0 := by
   rw [List.replicate_succ', List.append_assoc, List.set_append_right _ _ (by simp)]
   simp [List.replicate_succ]
  have h := h2 k _ _ hx (by simp; omega)
  rw [decide_eq_true rfl, cond_true, hs] at h
  rw [show ((k + 1 : Nat) : Int) - 1 = (k : Int) by omega, loopF_step h, ih (j + 1) (by omega), show k + (j + 1) = k + 1 + j by omega]
theorem carry_mid (h2 : ∀ (i : Nat) (l : List Int) (x : Int), l[i]? = some x → l.length ≤ N → (step ((i : Int), l)).run some = some (cond (decide (x = M - 1)) (.inl ((i : Int) - 1, l.set i 0)) (.inr ((i : Int), l)))) {zs : List Int} {c : Int} (hc : c ≠ M - 1) :
  ∀ k j : Nat, zs.length + k + j + 1 ≤ N → loopF step (((zs.length + k : Nat) : Int), zs ++ c :: (List.replicate k (M - 1) ++ List.replicate j 0)) = some ((zs.length : Int), zs ++ c :: List.replicate (k + j) 0) := by
 intro k
 induction k with
 | zero =>
  intro j hN
  have h := h2 zs.length (zs ++ c :: (List.replicate 0 (M - 1) ++ List.replicate j 0)) c (by simp) (by simp; omega)
  rw [decide_eq_false hc, cond_false] at h
  rw [Nat.add_zero, loopF_done h]
  simp
 | succ k ih =>
  intro j hN
  have hx : (zs ++ c :: (List.replicate (k + 1) (M - 1) ++ List.replicate j 0))[zs.length + (k + 1)]? = some (M - 1) := by
   rw [List.getElem?_append_right (by omega), show zs.length + (k + 1) - zs.length = k + 1 by omega, List.getElem?_cons_succ, List.getElem?_append_left (by simp), List.getElem?_replicate]
   simp
  have hs : (zs ++ c :: (List.replicate (k + 1) (M - 1) ++ List.replicate j 0)).set (zs.length + (k + 1)) 0 = zs ++ c :: (List.replicate k (M - 1) ++ List.replicate (j + 1) 0) := by
   rw [List.set_append_right _ _ (by omega), show zs.length + (k + 1) - zs.length = k + 1 by omega, List.set_cons_succ, List.replicate_succ', List.append_assoc, List.set_append_right _ _ (by simp)]
   simp [List.replicate_succ]
  have h := h2 _ _ _ hx (by simp; omega)
  rw [decide_eq_true rfl, cond_true, hs, show ((zs.length + (k + 1) : Nat) : Int) - 1 = ((zs.length + k : Nat) : Int) by omega] at h
  rw [loopF_step h, ih (j + 1) (by omega), show k + (j + 1) = k + 1 + j by omega]
end
inductive RunTo {α : Type} (nx : α → Option α) : α → List α → Option α → Prop
 | last {x : α} {e : Option α} : nx x = e → RunTo nx x [x] e
 | next {x y : α} {L : List α} {e : Option α} : nx x = some y → RunTo nx y L e → RunTo nx x (x :: L) e
theorem RunTo.app {α : Type} {nx : α → Option α} {x y : α} {L L' : List α} {e : Option α} (h : RunTo nx x L (some y)) (k : RunTo nx y L' e) : RunTo nx x (L ++ L') e := by
 generalize he : some y = e' at h
 induction h with
 | last h1 => subst he; exact .next h1 k
 | next h1 _ ih => exact .next h1 (ih he)
def lexL (M : Nat) : Nat → List (List Int)
 | 0 => [[]]
 | n + 1 => (List.range M).flatMap fun c : Nat => (lexL M n).map fun t => (c : Int) :: t
theorem lex_mem (M : Nat) : ∀ (n : Nat) (t : List Int), t ∈ lexL M n ↔ t.length = n ∧ ∀ x ∈ t, ∃ k : Nat, x = (k : Int) ∧ k < M := by
 intro n
 induction n with
 | zero =>
  intro t
  simp only [lexL, List.mem_singleton]
  constructor
  ·rintro rfl; exact ⟨rfl, fun x hx => by cases hx⟩
  ·exact fun h => List.eq_nil_of_length_eq_zero h.1
 | succ n ih =>
  intro t
  simp only [lexL, List.mem_flatMap, List.mem_map, List.mem_range]
  constructor
  ·rintro ⟨c, hc, u, hu, rfl⟩
   obtain ⟨h1, h2⟩ := (ih u).1 hu
   refine ⟨by simp [h1], fun x hx => ?_⟩
   rcases List.mem_cons.1 hx with rfl | hx
   ·exact ⟨c, rfl, hc⟩
   ·exact h2 x hx
  ·rintro ⟨h1, h2⟩
   cases t with
   | nil => simp at h1
   | cons x u =>
    obtain ⟨k, rfl, hk⟩ := h2 x (List.mem_cons_self)
    exact ⟨k, hk, u, (ih u).2 ⟨by simpa using h1, fun y hy => h2 y (List.mem_cons_of_mem _ hy)⟩, rfl⟩
theorem lex_nodup (M : Nat) : ∀ n : Nat, (lexL M n).Nodup := by
 intro n
 induction n with
 | zero => simp [lexL]
 | succ n ih =>
  unfold lexL List.Nodup
  rw [List.pairwise_flatMap]
  refine ⟨fun c _ => ?_, ?_⟩
  ·rw [List.pairwise_map]
   exact List.Pairwise.imp (fun h h2 => h (List.cons.inj h2).2) ih
  ·refine List.Pairwise.imp ?_ (List.nodup_range (n := M))
   intro a b hab x hx y hy hxy
   obtain ⟨u, _, rfl⟩ := List.mem_map.1 hx
   obtain ⟨v, _, rfl⟩ := List.mem_map.1 hy
   have := (List.cons.inj hxy).1
   omega
theorem lex_len (M : Nat) : ∀ n : Nat, (lexL M n).length = M ^ n := by
 intro n
 induction n with
 | zero => rfl
 | succ n ih =>
  have key : ∀ l : List Nat, (l.flatMap fun c : Nat => (lexL M n).map fun t => (c : Int) :: t).length = l.length * M ^ n := by
   intro l
   induction l with
   | nil => simp
   | cons c l ihl => rw [List.flatMap_cons, List.length_append, List.length_map, ih, ihl, List.length_cons, Nat.add_mul, Nat.one_mul, Nat.add_comm]
  rw [lexL, key, List.length_range, Nat.pow_succ, Nat.mul_comm]
theorem run_cons {M c n : Nat} {x : List Int} {L : List (List Int)} (h : RunTo (nextL M) x L none) (hl : ∀ t ∈ L, t.length = n) :
  RunTo (nextL M) ((c : Int) :: x) (L.map fun t => (c : Int) :: t) (cond (decide ((c : Int) = (M : Int) - 1)) none (some (((c + 1 : Nat) : Int) :: List.replicate n 0))) := by
 generalize he : none = e at h
 induction h with
 | last h1 =>
  subst he
  refine .last ?_
  simp only [nextL, h1]
  rw [hl _ (List.mem_singleton_self _)]
  rfl
 | next h1 _ ih =>
  refine .next ?_ (ih (fun t ht => hl t (List.mem_cons_of_mem _ ht)) he)
  simp only [nextL, h1]
theorem run_lex {M : Nat} (hM : 1 ≤ M) : ∀ n : Nat, RunTo (nextL M) (List.replicate n 0) (lexL M n) none := by
 intro n
 induction n with
 | zero => exact .last rfl
 | succ n ih =>
  have hl : ∀ t ∈ lexL M n, t.length = n := fun t ht => ((lex_mem M n t).1 ht).1
  have key : ∀ k c : Nat, c + (k + 1) = M → RunTo (nextL M) ((c : Int) :: List.replicate n 0) ((List.range' c (k + 1)).flatMap fun c : Nat => (lexL M n).map fun t => (c : Int) :: t) none := by
   intro k
   induction k with
   | zero =>
    intro c hc
    have h := run_cons (c := c) ih hl
    rw [decide_eq_true (by omega), cond_true] at h
    simpa using h
   | succ k ihk =>
    intro c hc
    have h := run_cons (c := c) ih hl
    rw [decide_eq_false (by omega), cond_false] at h
    rw [List.range'_succ, List.flatMap_cons]
    exact h.app (ihk (c + 1) (by omega))
  obtain ⟨m, rfl⟩ : ∃ m, M = m + 1 := ⟨M - 1, by omega⟩
  rw [lexL, List.range_eq_range', List.replicate_succ]
  exact key m 0 (by omega)
theorem odo_loop {α β γ σ : Type} {nx : α → Option α} {step : σ → Tre (σ ⊕ β)} (mk : γ → α → σ) (fin : γ → β) (F : γ → α → γ) (I : List α → γ → Prop) {all : List α}
  (hs : ∀ (pre : List α) (x : α) (g : γ), x ∈ all → x ∉ pre → pre.length < all.length → I pre g → (step (mk g x)).run some = some (match nx x with
   | some t => .inl (mk (F g x) t)
   | none => .inr (fin (F g x))) ∧ I (pre ++ [x]) (F g x)) :
  ∀ {x : α} {L : List α}, RunTo nx x L none → ∀ (pre : List α) (g : γ), pre ++ L = all → all.Nodup → I pre g → ∃ g', loopF step (mk g x) = some (fin g') ∧ I all g' := by
 intro x L h
 generalize he : none = e at h
 induction h with
 | last h1 =>
  rename_i x e
  intro pre g ha hn hI
  subst he
  have hx : x ∉ pre := fun hx => by
   rw [← ha, List.nodup_append] at hn
   exact hn.2.2 x hx x (List.mem_singleton_self _) rfl
  obtain ⟨h2, h3⟩ := hs pre x g (by rw [← ha]; simp) hx (by rw [← ha]; simp) hI
  rw [h1] at h2
  rw [ha] at h3
  exact ⟨_, loopF_done h2, h3⟩
 | next h1 _ ih =>
  rename_i x y L e _
  intro pre g ha hn hI
  have hx : x ∉ pre := fun hx => by
   rw [← ha, List.nodup_append] at hn
   exact hn.2.2 x hx x (List.mem_cons_self) rfl
  obtain ⟨h2, h3⟩ := hs pre x g (by rw [← ha]; simp) hx (by rw [← ha]; simp) hI
  rw [h1] at h2
  obtain ⟨g', h4, h5⟩ := ih he (pre ++ [x]) (F g x) (by rw [List.append_assoc]; exact ha) hn h3
  exact ⟨g', by rw [loopF_step h2]; exact h4, h5⟩
structure Best {α : Type} (m : α → Int) (L : List α) (least : Int) (best : α) (many : Bool) : Prop where
 mem : best ∈ L
 at_ : m best = least
 low : ∀ y ∈ L, least ≤ m y
 many : many = true ↔ ∃ y ∈ L, y ≠ best ∧ m y = least
theorem Best.first {α : Type} (m : α → Int) (x : α) : Best m [x] (m x) x false :=
 ⟨List.mem_singleton_self _, rfl, fun y hy => by rw [List.mem_singleton.1 hy]; exact Int.le_refl _, by
  constructor
  ·intro h; cases h
  ·rintro ⟨y, hy, h, _⟩; exact absurd (List.mem_singleton.1 hy) h⟩
theorem Best.less {α : Type} {m : α → Int} {L : List α} {a : Int} {b : α} {c : Bool} {x : α} (h : Best m L a b c) (hx : m x < a) : Best m (L ++ [x]) (m x) x false := by
 refine ⟨by simp, rfl, fun y hy => ?_, ?_⟩
 ·rcases List.mem_append.1 hy with hy | hy
  ·have := h.low y hy; omega
  ·rw [List.mem_singleton.1 hy]; exact Int.le_refl _
 ·constructor
  ·intro h; cases h
  ·rintro ⟨y, hy, h1, h2⟩
   rcases List.mem_append.1 hy with hy | hy
   ·have := h.low y hy; omega
   ·exact absurd (List.mem_singleton.1 hy) h1
theorem Best.same {α : Type} {m : α → Int} {L : List α} {a : Int} {b : α} {c : Bool} {x : α} (h : Best m L a b c) (hx : m x = a) (hn : x ∉ L) : Best m (L ++ [x]) a b true := by
 refine ⟨by simp [h.mem], h.at_, fun y hy => ?_, ?_⟩
 ·rcases List.mem_append.1 hy with hy | hy
  ·exact h.low y hy
  ·rw [List.mem_singleton.1 hy, hx]; exact Int.le_refl _
 ·refine ⟨fun _ => ⟨x, by simp, fun e => hn (by rw [e]; exact h.mem), hx⟩, fun _ => rfl⟩
theorem Best.more {α : Type} {m : α → Int} {L : List α} {a : Int} {b : α} {c : Bool} {x : α} (h : Best m L a b c) (hx : a < m x) : Best m (L ++ [x]) a b c := by
 refine ⟨by simp [h.mem], h.at_, fun y hy => ?_, ?_⟩
 ·rcases List.mem_append.1 hy with hy | hy
  ·exact h.low y hy
  ·rw [List.mem_singleton.1 hy]; omega
 ·rw [h.many]
  constructor
  ·rintro ⟨y, hy, h1, h2⟩; exact ⟨y, by simp [hy], h1, h2⟩
  ·rintro ⟨y, hy, h1, h2⟩
   rcases List.mem_append.1 hy with hy | hy
   ·exact ⟨y, hy, h1, h2⟩
   ·rw [List.mem_singleton.1 hy] at h2; omega
theorem Best.eq {α : Type} {m : α → Int} {L L' : List α} {a a' : Int} {b b' : α} {c c' : Bool} (h : Best m L a b c) (h' : Best m L' a' b' c') (hL : ∀ y, y ∈ L ↔ y ∈ L') : a = a' ∧ c = c' ∧ (c = false → b = b') := by
 have h1 := h.low b' ((hL _).2 h'.mem)
 have h2 := h'.low b ((hL _).1 h.mem)
 have e1 := h.at_
 have e2 := h'.at_
 have ha : a = a' := by omega
 subst ha
 have key : ∀ {L L' : List α} {b b' : α} {c c' : Bool}, Best m L a b c → Best m L' a b' c' → (∀ y, y ∈ L ↔ y ∈ L') → c = true → c' = true := by
  intro L L' b b' c c' h h' hL hc
  obtain ⟨y, hy, h3, h4⟩ := h.many.1 hc
  by_cases hb : y = b'
  ·exact h'.many.2 ⟨b, (hL _).1 h.mem, fun e => h3 (by rw [hb, ← e]), h.at_⟩
  ·exact h'.many.2 ⟨y, (hL _).1 hy, hb, h4⟩
 have hc : c = c' := by
  cases hc : c
  ·cases hc' : c'
   ·rfl
   ·subst hc; subst hc'
    exact absurd (key h' h (fun y => (hL y).symm) rfl) (by simp)
  ·subst hc; exact (key h h' hL rfl).symm
 refine ⟨rfl, hc, fun hf => ?_⟩
 by_cases hb : b' = b
 ·exact hb.symm
 ·have := h.many.2 ⟨b', (hL _).2 h'.mem, hb, h'.at_⟩
  rw [hf] at this
  cases this
def digL (M P n : Nat) : List Int := (List.range P).map fun j => ((n / M ^ j % M : Nat) : Int)
theorem dig_succ (M P n : Nat) : digL M (P + 1) n = ((n % M : Nat) : Int) :: digL M P (n / M) := by
 unfold digL
 rw [List.range_succ_eq_map, List.map_cons, List.map_map]
 congr 1
 ·simp
 ·refine List.map_congr_left fun j _ => ?_
  simp only [Function.comp, Nat.pow_succ]
  rw [Nat.mul_comm (M ^ j) M, Nat.div_div_eq_div_mul]
theorem dig_mem {M : Nat} (hM : 1 ≤ M) : ∀ (P : Nat) (t : List Int), (∃ n, n < M ^ P ∧ digL M P n = t) ↔ t.length = P ∧ ∀ x ∈ t, ∃ k : Nat, x = (k : Int) ∧ k < M := by
 intro P
 induction P with
 | zero =>
  intro t
  constructor
  ·rintro ⟨n, _, rfl⟩; exact ⟨rfl, fun x hx => by cases hx⟩
  ·intro h; exact ⟨0, by simp, by rw [List.eq_nil_of_length_eq_zero h.1]; rfl⟩
 | succ P ih =>
  intro t
  constructor
  ·rintro ⟨n, hn, rfl⟩
   rw [dig_succ]
   have hd : n / M < M ^ P := Nat.div_lt_of_lt_mul (by rw [Nat.pow_succ, Nat.mul_comm] at hn; exact hn)
   obtain ⟨h1, h2⟩ := (ih _).1 ⟨n / M, hd, rfl⟩
   refine ⟨by simp [h1], fun x hx => ?_⟩
   rcases List.mem_cons.1 hx with rfl | hx
   ·exact ⟨_, rfl, Nat.mod_lt _ hM⟩
   ·exact h2 x hx
  ·rintro ⟨h1, h2⟩
   cases t with
   | nil => simp at h1
   | cons x t =>
    obtain ⟨k, rfl, hk⟩ := h2 x (List.mem_cons_self)
    obtain ⟨n, hn, hd⟩ := (ih t).2 ⟨by simpa using h1, fun y hy => h2 y (List.mem_cons_of_mem _ hy)⟩
    refine ⟨k + M * n, ?_, ?_⟩
    ·rw [Nat.pow_succ, Nat.mul_comm (M ^ P) M]
     calc k + M * n < M + M * n := by omega
      _ = M * (n + 1) := by rw [Nat.mul_add, Nat.mul_one, Nat.add_comm]
      _ ≤ M * M ^ P := Nat.mul_le_mul_left _ hn
    ·rw [dig_succ, Nat.add_mul_mod_self_left, Nat.mod_eq_of_lt hk, Nat.add_mul_div_left _ _ hM, Nat.div_eq_of_lt hk, Nat.zero_add, hd]
theorem dig_inj {M : Nat} (hM : 1 ≤ M) : ∀ (P n n' : Nat), n < M ^ P → n' < M ^ P → digL M P n = digL M P n' → n = n' := by
 intro P
 induction P with
 | zero => intro n n' h1 h2 _; simp only [Nat.pow_zero] at h1 h2; omega
 | succ P ih =>
  intro n n' h1 h2 h
  rw [dig_succ, dig_succ] at h
  obtain ⟨h3, h4⟩ := List.cons.inj h
  have hd : ∀ {n : Nat}, n < M ^ (P + 1) → n / M < M ^ P := fun {n} hn => Nat.div_lt_of_lt_mul (by rw [Nat.pow_succ, Nat.mul_comm] at hn; exact hn)
  have h5 := ih _ _ (hd h1) (hd h2) h4
  have h6 : n % M = n' % M := Int.ofNat.inj h3
  rw [← Nat.mod_add_div n M, ← Nat.mod_add_div n' M, h5, h6]
end Go.Proofs.Ytddaclhjnkimfaa

namespace Go.Proofs.Ytddaclhjnkimfaa
open Go Go.Abs Go.Proofs
noncomputable def s_MendAfter_l14 (h14_0_3 : Int) (h14_0_5 : TGather) : (Int × (List Int)) → Tre ((Int × (List Int)) ⊕ (List Int)) := fun s14 =>
 .cond (decide (s14.1 < h14_0_5.1))
  (let v8 := iwrap .i64 (s14.1 * h14_0_5.2.1)
  .ite (0 ≤ iwrap .u64 v8) <|
  let v9 := ishr .i64 h14_0_3 (iwrap .u64 v8)
  .ite (0 ≤ iwrap .u64 h14_0_5.2.1) <|
  let v10 := ishl .i64 1 (iwrap .u64 h14_0_5.2.1)
  let v11 := iand .i64 v9 (iwrap .i64 (v10 - 1))
  .ite ((s14.2.length + 1) * 8 ≤ appendMax ∧ 1 ≤ 8) <|
  .ret (.inl (iwrap .i64 (s14.1 + 1), s14.2 ++ ([v11]))))
  (.ret (.inr s14.2))
noncomputable def s_MendAfter_l10 (h10_0_0 : Int) (h10_0_4 : TGather) (h10_0_5 : (TPlant × Unit)) : (Int × Bool × Int × (List Int)) → Tre ((Int × Bool × Int × (List Int)) ⊕ (Int × Bool × (List Int))) := fun s10 =>
 let v6 := iwrap .i64 (h10_0_4.1 * h10_0_4.2.1)
 .ite (0 ≤ iwrap .u64 v6) <|
 let v7 := ishl .i64 1 (iwrap .u64 v6)
 .cond (decide (s10.2.2.1 < v7))
  (.mat (loopF (s_MendAfter_l14 s10.2.2.1 h10_0_4) (0, [])) fun l12 =>
  .ite (0 ≤ h10_0_0 ∧ h10_0_0 < (h10_0_5.1.1.length : Int)) <|
  .mat (h10_0_5.1.1[h10_0_0.toNat]?) fun _ =>
  .mat (h10_0_5.1.1[h10_0_0.toNat]?) fun x14 =>
  .mat (missO h10_0_4 x14.1 l12) fun r15 =>
  .cond (decide (r15 < s10.1))
   (.ret (.inl (r15, false, iwrap .i64 (s10.2.2.1 + 1), l12)))
   (.cond (decide (r15 = s10.1))
    (.ret (.inl (s10.1, true, iwrap .i64 (s10.2.2.1 + 1), s10.2.2.2)))
    (.ret (.inl (s10.1, s10.2.1, iwrap .i64 (s10.2.2.1 + 1), s10.2.2.2)))))
  (.ret (.inr (s10.1, s10.2.1, s10.2.2.2)))
noncomputable def s_MendAfter (p0 : TGather) (p1 : (List TDeed)) (p2 : Int) : Tre (Int × Int × (List Int)) :=
 .mat (atR p1 p2 p0) fun r1 =>
 .alt r1
  (fun a2 =>
   .cond (!decide (a2.1 = 0))
    (.ret (0, a2.1, []))
    (let v4 := iwrap .i64 (p0.1 * p0.2.1)
    .cond (decide (v4 > 10))
     (.ret (0, 3, []))
     (.fail)))
  (fun b3 =>
   .cond (!decide (b3.1 = 0))
    (.ret (0, b3.1, []))
    (let v5 := iwrap .i64 (p0.1 * p0.2.1)
    .cond (decide (v5 > 10))
     (.ret (0, 3, []))
     (.mat (loopF (s_MendAfter_l10 p2 p0 b3.2) (99, false, 0, [])) fun l16 =>
     .cond l16.2.1
      (.ret (0, 4, []))
      (.ret (l16.1, 0, l16.2.2)))))
noncomputable def s_MendAfter_F (p0 : TGather) (p1 : (List TDeed)) (p2 : Int) : Option (Int × Int × (List Int)) := (s_MendAfter p0 p1 p2).run some
noncomputable def bestStep {α : Type} (m : α → Int) (st : Int × Bool × α) (x : α) : Int × Bool × α := cond (decide (m x < st.1)) (m x, false, x) (cond (decide (m x = st.1)) (st.1, true, st.2.2) st)
def manyG (g : G8) : Nat := (2 ^ g.2.1.toNat) ^ g.1.toNat
noncomputable def mendL (g : G8) (xs : List Int) (n : Nat) : Int × Bool × List Int := (List.range n).foldl (fun st k => bestStep (fun d => missN xs d g) st (digL (2 ^ g.2.1.toNat) g.1.toNat k)) (99, false, [])
noncomputable def mendX (g : G8) (xs : List Int) : Int × Int × List Int := cond (decide (g.1 * g.2.1 > 10)) (0, 3, []) (cond (mendL g xs (manyG g)).2.1 (0, 4, []) ((mendL g xs (manyG g)).1, 0, (mendL g xs (manyG g)).2.2))
noncomputable def mendM (g : G8) (ds : List D8) (s : Int) : Int × Int × List Int := cond (decide (codeM g ds s = 0)) (mendX g (rowsM g ds s)) (0, codeM g ds s, [])
noncomputable def mendR (g : G8) (ds : List D8) (s : Int) : Option (Int × Int × List Int) := askO (decide (g.2.2.1.length ≤ 1048576) && decide (ds.length ≤ 1048576)) (mendM g ds s)
def isData (g : G8) (d : List Int) : Prop := d.length = g.1.toNat ∧ ∀ x ∈ d, ∃ k : Nat, x = (k : Int) ∧ k < 2 ^ g.2.1.toNat
theorem row_inP {g : G8} {x : Int} (hg : isG g = true) (h : okRow (colsG g) x = true) : inP (g.1 + g.2.1) x = true := by
 obtain ⟨n, rfl, hn⟩ := okRow_nat.1 h
 have hc := colsG_le hg
 unfold inP
 rw [← hc.2, top1_nat (by omega), inR_iff]
 have := Nat.two_pow_pos (colsG g)
 omega
theorem data_okM {k : Nat} {g : G8} {xs d : List Int} (hg : isG g = true) (hk : okS k (colsG g) xs = true) (hk2 : k ≤ 1000) (hd : isData g d) : okM xs d g = true := by
 have hb := isG_spec hg
 obtain ⟨h1, h2⟩ := okS_spec.1 hk
 obtain ⟨L, hL⟩ := Int.eq_ofNat_of_zero_le (show 0 ≤ g.2.1 by omega)
 unfold okM
 simp only [Bool.and_eq_true, decide_eq_true_eq, List.all_eq_true, inR_iff]
 refine ⟨⟨⟨⟨⟨by omega, by omega⟩, by omega⟩, by have := hd.1; omega⟩, fun x hx => row_inP hg (h2 x hx)⟩, fun x hx => ?_⟩
 obtain ⟨n, rfl, hn⟩ := hd.2 x hx
 rw [hL, Int.toNat_natCast] at hn
 unfold inP
 rw [hL, top1_nat (by omega), inR_iff]
 have := Nat.two_pow_pos L
 omega
theorem miss_small {xs d : List Int} {g : G8} (h : okM xs d g = true) : 0 ≤ missN xs d g ∧ missN xs d g ≤ 6 := by
 have hr := missW_ok h
 unfold okM at h
 simp only [Bool.and_eq_true, decide_eq_true_eq, inR_iff] at h
 obtain ⟨⟨⟨⟨⟨hk, hm⟩, _⟩, _⟩, _⟩, _⟩ := h
 obtain ⟨ns, h1, _, h3, h4⟩ := okRows_up hr.1
 have h5 := ech_cols (ech_is (b := g.2.1.toNat) (by omega) hr.1) (b := g.2.1.toNat) (by rw [h4]; exact h3)
 unfold missN
 rw [echI_len]
 omega
theorem mendL_best {g : G8} {xs : List Int} (hlow : ∀ d, isData g d → missN xs d g < 99) (hd : ∀ k, k < manyG g → isData g (digL (2 ^ g.2.1.toNat) g.1.toNat k)) :
  ∀ n, n + 1 ≤ manyG g → Best (fun d => missN xs d g) ((List.range (n + 1)).map (digL (2 ^ g.2.1.toNat) g.1.toNat)) (mendL g xs (n + 1)).1 (mendL g xs (n + 1)).2.2 (mendL g xs (n + 1)).2.1 := by
 have hM : 1 ≤ 2 ^ g.2.1.toNat := Nat.two_pow_pos _
 intro n
 induction n with
 | zero =>
  intro h
  have h0 := hlow _ (hd 0 (by omega))
  have he : mendL g xs 1 = (missN xs (digL (2 ^ g.2.1.toNat) g.1.toNat 0) g, false, digL (2 ^ g.2.1.toNat) g.1.toNat 0) := by
   unfold mendL bestStep
   simp only [List.range_one, List.foldl_cons, List.foldl_nil]
   rw [decide_eq_true h0, cond_true]
  rw [he]
  exact Best.first _ _
 | succ n ih =>
  intro h
  have hB := ih (by omega)
  have he : mendL g xs (n + 1 + 1) = bestStep (fun d => missN xs d g) (mendL g xs (n + 1)) (digL (2 ^ g.2.1.toNat) g.1.toNat (n + 1)) := by
   unfold mendL
   rw [List.range_succ (n := n + 1), List.foldl_append]
   rfl
  rw [he, List.range_succ (n := n + 1), List.map_append, List.map_cons, List.map_nil]
  generalize mendL g xs (n + 1) = st at hB
  unfold bestStep
  by_cases h1 : missN xs (digL (2 ^ g.2.1.toNat) g.1.toNat (n + 1)) g < st.1
  ·rw [decide_eq_true h1, cond_true]
   exact hB.less h1
  ·rw [decide_eq_false h1, cond_false]
   by_cases h2 : missN xs (digL (2 ^ g.2.1.toNat) g.1.toNat (n + 1)) g = st.1
   ·rw [decide_eq_true h2, cond_true]
    refine hB.same h2 fun hm => ?_
    obtain ⟨k, hk, he⟩ := List.mem_map.1 hm
    rw [List.mem_range] at hk
    have := dig_inj hM _ _ _ (show k < manyG g by omega) (show n + 1 < manyG g by omega) he
    omega
   ·rw [decide_eq_false h2, cond_false]
    exact hB.more (by omega)
theorem s_MendAfter_l14_loop {g : G8} {P L n : Nat} (hP : g.1 = (P : Int)) (hL : g.2.1 = (L : Int)) (hp : P ≤ 4) (hl : L ≤ 6) (hn : n < 2 ^ 62) :
  ∀ k i : Nat, i + k = P → loopF (s_MendAfter_l14 (n : Int) g) ((i : Int), digL (2 ^ L) i n) = some (digL (2 ^ L) P n) := by
 have hiL : ∀ i : Nat, i ≤ 4 → i * L ≤ 24 := fun i hi => Nat.le_trans (Nat.mul_le_mul hi hl) (by decide)
 intro k
 induction k with
 | zero =>
  intro i hi
  refine loopF_done ?_
  unfold s_MendAfter_l14
  rw [Tre.run_cond, decide_eq_false (by dsimp only; omega), cond_false, Tre.run_ret, show i = P by omega]
 | succ k ih =>
  intro i hi
  have h2L := pow_le (b := L) (c := 6) hl
  have hb := hiL i (by omega)
  have hstep : (s_MendAfter_l14 (n : Int) g ((i : Int), digL (2 ^ L) i n)).run some = some (.inl (((i + 1 : Nat) : Int), digL (2 ^ L) (i + 1) n)) := by
   unfold s_MendAfter_l14
   dsimp only
   have e1 : iwrap .i64 ((i : Int) * g.2.1) = ((i * L : Nat) : Int) := by rw [hL, ← Int.natCast_mul]; exact iwrap_nat (by omega)
   rw [Tre.run_cond, decide_eq_true (by omega), cond_true, e1, iwrap_u64 (n := ((i * L : Nat) : Int)) (by omega) (by omega), Tre.run_ite, if_pos (by omega), hL, iwrap_u64 (n := (L : Int)) (by omega) (by omega), Tre.run_ite, if_pos (by omega)]
   rw [ishr_nat (by omega)]
   have e2 : iwrap .i64 (ishl .i64 1 (L : Int) - 1) = ((2 ^ L - 1 : Nat) : Int) := top1_nat (by omega)
   have hsr : n >>> (i * L) < 2 ^ 63 := Nat.lt_of_le_of_lt (Nat.shiftRight_le _ _) (by omega)
   rw [e2, iand_nat hsr (by omega), Tre.run_ite, if_pos (by unfold digL; simp only [List.length_map, List.length_range]; unfold appendMax; omega), Tre.run_ret, iwrap_succ (by omega)]
   congr 3
   unfold digL
   rw [List.range_succ, List.map_append, Nat.and_two_pow_sub_one_eq_mod, Nat.shiftRight_eq_div_pow, Nat.mul_comm i L, Nat.pow_mul]
   rfl
  rw [loopF_step hstep]
  exact ih (i + 1) (by omega)
theorem dig_data {g : G8} {P L : Nat} (hP : g.1 = (P : Int)) (hL : g.2.1 = (L : Int)) {k : Nat} (hk : k < manyG g) : isData g (digL (2 ^ g.2.1.toNat) g.1.toNat k) :=
 (dig_mem (Nat.two_pow_pos _) _ _).1 ⟨k, hk, rfl⟩
theorem s_MendAfter_l10_loop {g : G8} {c i P L : Nat} {p : P8} {x : List Int × List Int × Unit} (hg : isG g = true) (hP : g.1 = (P : Int)) (hL : g.2.1 = (L : Int)) (hPL : P * L ≤ 10) (hx : p.1[i]? = some x) (hk : okS c (colsG g) x.1 = true) (hc : c ≤ 1000) :
  ∀ k n : Nat, n + k = manyG g → loopF (s_MendAfter_l10 (i : Int) g (p, ())) ((mendL g x.1 n).1, (mendL g x.1 n).2.1, (n : Int), (mendL g x.1 n).2.2) = some ((mendL g x.1 (manyG g)).1, (mendL g x.1 (manyG g)).2.1, (mendL g x.1 (manyG g)).2.2) := by
 have hb := isG_spec hg
 have hi : i < p.1.length := (List.getElem?_eq_some_iff.1 hx).1
 have e1 : iwrap .i64 (g.1 * g.2.1) = ((P * L : Nat) : Int) := by rw [hP, hL, ← Int.natCast_mul]; exact iwrap_nat (by omega)
 have hmany : manyG g = 2 ^ (P * L) := by unfold manyG; rw [hP, hL, Int.toNat_natCast, Int.toNat_natCast, ← Nat.pow_mul, Nat.mul_comm]
 have h2 := pow_le (b := P * L) (c := 10) hPL
 have e2 : ishl .i64 1 ((P * L : Nat) : Int) = ((manyG g : Nat) : Int) := by
  rw [hmany, show (1 : Int) = ((1 : Nat) : Int) from rfl, ishl_nat (by omega) (by omega), Nat.one_mul]
 intro k
 induction k with
 | zero =>
  intro n hn
  refine loopF_done ?_
  unfold s_MendAfter_l10
  dsimp only
  rw [e1, iwrap_u64 (by omega) (by omega), Tre.run_ite, if_pos (by omega), e2, Tre.run_cond, decide_eq_false (by omega), cond_false, Tre.run_ret, show n = manyG g by omega]
 | succ k ih =>
  intro n hn
  have hstep : (s_MendAfter_l10 (i : Int) g (p, ()) ((mendL g x.1 n).1, (mendL g x.1 n).2.1, (n : Int), (mendL g x.1 n).2.2)).run some = some (.inl ((mendL g x.1 (n + 1)).1, (mendL g x.1 (n + 1)).2.1, ((n + 1 : Nat) : Int), (mendL g x.1 (n + 1)).2.2)) := by
   have hdat := s_MendAfter_l14_loop (g := g) (n := n) hP hL (by omega) (by omega) (by omega) P 0 (by omega)
   have hdat : loopF (s_MendAfter_l14 (n : Int) g) (0, []) = _ := hdat
   have hd := dig_data hP hL (k := n) (by omega)
   have hdd : digL (2 ^ g.2.1.toNat) g.1.toNat n = digL (2 ^ L) P n := by rw [hP, hL, Int.toNat_natCast, Int.toNat_natCast]
   have hm : missO g x.1 (digL (2 ^ L) P n) = some (missN x.1 (digL (2 ^ L) P n) g) := askO_true (data_okM hg hk hc (by rw [← hdd]; exact hd))
   have hst : mendL g x.1 (n + 1) = bestStep (fun d => missN x.1 d g) (mendL g x.1 n) (digL (2 ^ L) P n) := by
    unfold mendL
    rw [List.range_succ, List.foldl_append, ← hdd]
    rfl
   unfold s_MendAfter_l10
   dsimp only
   rw [e1, iwrap_u64 (by omega) (by omega), Tre.run_ite, if_pos (by omega), e2, Tre.run_cond, decide_eq_true (by omega), cond_true, run_some_mat hdat, Tre.run_ite, if_pos ⟨by omega, by omega⟩, Int.toNat_natCast, run_some_mat hx, run_some_mat hx, run_some_mat hm, iwrap_succ (by omega), hst]
   unfold bestStep
   simp only [Tre.run_cond]
   cases decide (missN x.1 (digL (2 ^ L) P n) g < (mendL g x.1 n).1)
   ·rw [cond_false, cond_false]
    cases decide (missN x.1 (digL (2 ^ L) P n) g = (mendL g x.1 n).1) <;> rfl
   ·rfl
  rw [loopF_step hstep]
  exact ih (n + 1) (by omega)
theorem s_MendAfter_spec (p0 : G8) (p1 : List D8) (p2 : Int) (y : Int × Int × List Int) (h : mendR p0 p1 p2 = some y) : s_MendAfter_F p0 p1 p2 = some y := by
 obtain ⟨hok, rfl⟩ := askO_some h
 unfold s_MendAfter_F s_MendAfter mendM
 rw [run_some_mat (show atR p1 p2 p0 = some _ from askO_true hok)]
 unfold atM
 by_cases h0 : codeM p0 p1 p2 = 0
 ·obtain ⟨i, x, rfl, hx, hi, hk, hg⟩ := rows_at h0
  have hb := isG_spec hg
  obtain ⟨P, hP⟩ := Int.eq_ofNat_of_zero_le (show 0 ≤ p0.1 by omega)
  obtain ⟨L, hL⟩ := Int.eq_ofNat_of_zero_le (show 0 ≤ p0.2.1 by omega)
  have hPL : P * L ≤ 24 := Nat.le_trans (Nat.mul_le_mul (show P ≤ 4 by omega) (show L ≤ 6 by omega)) (by decide)
  have e1 : iwrap .i64 (p0.1 * p0.2.1) = ((P * L : Nat) : Int) := by rw [hP, hL, ← Int.natCast_mul]; exact iwrap_nat (by omega)
  have e0 : p0.1 * p0.2.1 = ((P * L : Nat) : Int) := by rw [hP, hL, ← Int.natCast_mul]
  rw [decide_eq_true h0, cond_true, cond_true, Tre.run_inr, Tre.run_cond]
  rw [show (!decide ((0 : Int) = 0)) = false from rfl, cond_false]
  dsimp only
  rw [e1, Tre.run_cond]
  unfold mendX
  rw [e0]
  by_cases h10 : ((P * L : Nat) : Int) > 10
  ·rw [decide_eq_true h10, cond_true, cond_true]; rfl
  rw [decide_eq_false h10, cond_false, cond_false]
  have hrow : rowsM p0 p1 (i : Int) = x.1 := by unfold rowsM; rw [Int.toNat_natCast, hx]
  rw [hrow]
  have hl := s_MendAfter_l10_loop (p := afterM p0 p1) hg hP hL (by omega) hx hk (by omega) (manyG p0) 0 (by omega)
  have hl : loopF (s_MendAfter_l10 (i : Int) p0 (afterM p0 p1, ())) (99, false, 0, []) = _ := hl
  rw [run_some_mat hl, Tre.run_cond]
  cases (mendL p0 x.1 (manyG p0)).2.1 <;> rfl
 ·have h1 : decide (codeM p0 p1 p2 = 0) = false := decide_eq_false h0
  rw [h1, cond_false, cond_false, Tre.run_inl, Tre.run_cond]
  dsimp only
  rw [h1]
  rfl
noncomputable def s_MendAfter_V : Env := ⟨tau, [(36, s_l08At_23e7_c), (37, s_l08Missed_9ed6_c)], []⟩
noncomputable def s_MendAfter_b : Code := (Try.f9.body).getD .skip
noncomputable def s_MendAfter_l14_mk (z14_0 : Bool) (h14_0_0 : Int) (h14_0_1 : Int) (h14_0_2 : Bool) (h14_0_3 : Int) (h14_0_5 : TGather) (h14_0_6 : (TPlant × Unit)) (h14_0_7 : (List Int)) : (Int × (List Int)) → St := fun x => stOf [(2, (.imm true (.int .i64) h14_0_0)), (3, (.ptr (5, 0) [])), (9, (.ptr (23, 0) [])), (11, (.ref (13, 0) [])), (12, (.imm true (.int .i64) h14_0_1)), (13, (.imm true .bool h14_0_2)), (14, (.imm true (.int .i64) h14_0_3)), (15, (.ref (17, 0) [])), (16, (.imm true (.int .i64) x.1))] [((5, 0), some ⟨true, kGather, (.imm z14_0), h14_0_5⟩), ((23, 0), some ⟨true, kL08Run, .own, ((some (5, 0) : Option RName), h14_0_6)⟩), ((13, 0), some ⟨false, (.sl (.int .i64)), .own, h14_0_7⟩), ((17, 0), some ⟨false, (.sl (.int .i64)), .own, x.2⟩)]
noncomputable def s_MendAfter_l14_out (z14_0 : Bool) (h14_0_0 : Int) (h14_0_1 : Int) (h14_0_2 : Bool) (h14_0_3 : Int) (h14_0_5 : TGather) (h14_0_6 : (TPlant × Unit)) (h14_0_7 : (List Int)) : (List Int) → Ex × St := fun x => (.exit 2, stOf [(2, (.imm true (.int .i64) h14_0_0)), (3, (.ptr (5, 0) [])), (9, (.ptr (23, 0) [])), (11, (.ref (13, 0) [])), (12, (.imm true (.int .i64) h14_0_1)), (13, (.imm true .bool h14_0_2)), (14, (.imm true (.int .i64) h14_0_3)), (15, (.ref (17, 0) []))] [((5, 0), some ⟨true, kGather, (.imm z14_0), h14_0_5⟩), ((23, 0), some ⟨true, kL08Run, .own, ((some (5, 0) : Option RName), h14_0_6)⟩), ((13, 0), some ⟨false, (.sl (.int .i64)), .own, h14_0_7⟩), ((17, 0), some ⟨false, (.sl (.int .i64)), .own, x⟩)])
noncomputable def s_MendAfter_l14_D (s : St) : Tre (Ex × St) :=
 asImmZ true (.int .i64) (s.tmps 2) fun d2 =>
 asPtr (5, 0) [] (s.tmps 3) <|
 asPtr (23, 0) [] (s.tmps 9) <|
 asRef (13, 0) [] (s.tmps 11) <|
 asImmZ true (.int .i64) (s.tmps 12) fun d7 =>
 asImmZ true .bool (s.tmps 13) fun d9 =>
 asImmZ true (.int .i64) (s.tmps 14) fun d11 =>
 asRef (17, 0) [] (s.tmps 15) <|
 asImmZ true (.int .i64) (s.tmps 16) fun d14 =>
 asRoot true kGather (s.roots (5, 0)) fun m16 d17 =>
 asMImm m16 fun z18 =>
 asRoot true kL08Run (s.roots (23, 0)) fun m20 d21 =>
 asM .own m20 <|
 asProd d21 fun d22 d23 =>
 asD d22 (some (5, 0) : Option RName) <|
 asRoot false (.sl (.int .i64)) (s.roots (13, 0)) fun m25 d26 =>
 asM .own m25 <|
 asRoot false (.sl (.int .i64)) (s.roots (17, 0)) fun m28 d29 =>
 asM .own m28 <|
 .mat (loopF (s_MendAfter_l14 d11 d17) (d14, d29)) fun x => .ret (s_MendAfter_l14_out z18 d2 d7 d9 d11 d17 d23 d26 x)
noncomputable def s_MendAfter_l14_L : LoopI := ⟨([2, 3, 9, 11, 12, 13, 14, 15, 16], [(5, 0), (23, 0), (13, 0), (17, 0)]), ([2, 3, 9, 11, 12, 13, 14, 15], [(5, 0), (23, 0), (13, 0), (17, 0)]), s_MendAfter_l14_D⟩
noncomputable def s_MendAfter_l10_mk (z10_0 : Bool) (h10_0_0 : Int) (h10_0_4 : TGather) (h10_0_5 : (TPlant × Unit)) : (Int × Bool × Int × (List Int)) → St := fun x => stOf [(2, (.imm true (.int .i64) h10_0_0)), (3, (.ptr (5, 0) [])), (9, (.ptr (23, 0) [])), (11, (.ref (13, 0) [])), (12, (.imm true (.int .i64) x.1)), (13, (.imm true .bool x.2.1)), (14, (.imm true (.int .i64) x.2.2.1))] [((5, 0), some ⟨true, kGather, (.imm z10_0), h10_0_4⟩), ((23, 0), some ⟨true, kL08Run, .own, ((some (5, 0) : Option RName), h10_0_5)⟩), ((13, 0), some ⟨false, (.sl (.int .i64)), .own, x.2.2.2⟩)]
noncomputable def s_MendAfter_l10_out (_z10_0 : Bool) (_h10_0_0 : Int) (_h10_0_4 : TGather) (_h10_0_5 : (TPlant × Unit)) : (Int × Bool × (List Int)) → Ex × St := fun x => (.exit 0, stOf [(11, (.ref (13, 0) [])), (12, (.imm true (.int .i64) x.1)), (13, (.imm true .bool x.2.1))] [((13, 0), some ⟨false, (.sl (.int .i64)), .own, x.2.2⟩)])
noncomputable def s_MendAfter_l10_D (s : St) : Tre (Ex × St) :=
 asImmZ true (.int .i64) (s.tmps 2) fun d2 =>
 asPtr (5, 0) [] (s.tmps 3) <|
 asPtr (23, 0) [] (s.tmps 9) <|
 asRef (13, 0) [] (s.tmps 11) <|
 asImmZ true (.int .i64) (s.tmps 12) fun d7 =>
 asImmZ true .bool (s.tmps 13) fun d9 =>
 asImmZ true (.int .i64) (s.tmps 14) fun d11 =>
 asRoot true kGather (s.roots (5, 0)) fun m13 d14 =>
 asMImm m13 fun z15 =>
 asRoot true kL08Run (s.roots (23, 0)) fun m17 d18 =>
 asM .own m17 <|
 asProd d18 fun d19 d20 =>
 asD d19 (some (5, 0) : Option RName) <|
 asRoot false (.sl (.int .i64)) (s.roots (13, 0)) fun m22 d23 =>
 asM .own m22 <|
 .mat (loopF (s_MendAfter_l10 d2 d14 d20) (d7, d9, d11, d23)) fun x => .ret (s_MendAfter_l10_out z15 d2 d14 d20 x)
noncomputable def s_MendAfter_l10_L : LoopI := ⟨([2, 3, 9, 11, 12, 13, 14], [(5, 0), (23, 0), (13, 0)]), ([11, 12, 13], [(13, 0)]), s_MendAfter_l10_D⟩
noncomputable def s_MendAfter_A : List (Nat × LoopI) := [(14, s_MendAfter_l14_L), (10, s_MendAfter_l10_L)]
set_option maxRecDepth 100000 in
theorem s_MendAfter_l14_step : ∀ (z14_0 : Bool) (h14_0_0 : Int) (h14_0_1 : Int) (h14_0_2 : Bool) (h14_0_3 : Int) (h14_0_5 : TGather) (h14_0_6 : (TPlant × Unit)) (h14_0_7 : (List Int)) (x : (Int × (List Int))) (c : St → Option (Ex × St)), den s_MendAfter_V s_MendAfter_A (loopAt s_MendAfter_b 1) (s_MendAfter_l14_mk z14_0 h14_0_0 h14_0_1 h14_0_2 h14_0_3 h14_0_5 h14_0_6 h14_0_7 x) (roundK s_MendAfter_l14_L.kp s_MendAfter_l14_L.kx c) = (s_MendAfter_l14 h14_0_3 h14_0_5 x).run (roundR (s_MendAfter_l14_mk z14_0 h14_0_0 h14_0_1 h14_0_2 h14_0_3 h14_0_5 h14_0_6 h14_0_7) (s_MendAfter_l14_out z14_0 h14_0_0 h14_0_1 h14_0_2 h14_0_3 h14_0_5 h14_0_6 h14_0_7) c) := fun _ _ _ _ _ _ _ _ _ _ => by
 kernel_rfl
theorem s_MendAfter_l14_ok : LoopOK s_MendAfter_V s_MendAfter_A (loopAt s_MendAfter_b 1) s_MendAfter_l14_L := loopOK_of fun s e s' h => by
 generalize hs : restrict s_MendAfter_l14_L.kp s = s1 at h
 have h : (s_MendAfter_l14_D s1).run some = some (e, s') := h
 obtain ⟨d2, e1, h_0⟩ := asImmZ_spec h
 obtain ⟨e3, h_1⟩ := asPtr_spec h_0
 obtain ⟨e4, h_2⟩ := asPtr_spec h_1
 obtain ⟨e5, h_3⟩ := asRef_spec h_2
 obtain ⟨d7, e6, h_4⟩ := asImmZ_spec h_3
 obtain ⟨d9, e8, h_5⟩ := asImmZ_spec h_4
 obtain ⟨d11, e10, h_6⟩ := asImmZ_spec h_5
 obtain ⟨e12, h_7⟩ := asRef_spec h_6
 obtain ⟨d14, e13, h_8⟩ := asImmZ_spec h_7
 obtain ⟨m16, d17, e15, h_9⟩ := asRoot_spec h_8
 obtain ⟨z18, rfl, h_10⟩ := asMImm_spec h_9
 obtain ⟨m20, d21, e19, h_11⟩ := asRoot_spec h_10
 obtain ⟨rfl, h_12⟩ := asM_spec h_11
 obtain ⟨d22, d23, rfl, h_13⟩ := asProd_spec h_12
 obtain ⟨rfl, h_14⟩ := asD_spec h_13
 obtain ⟨m25, d26, e24, h_15⟩ := asRoot_spec h_14
 obtain ⟨rfl, h_16⟩ := asM_spec h_15
 obtain ⟨m28, d29, e27, h_17⟩ := asRoot_spec h_16
 obtain ⟨rfl, h_18⟩ := asM_spec h_17
 obtain ⟨y, hy, hz⟩ := mat_ret h_18
 refine ⟨_, _, s_MendAfter_l14_mk z18 d2 d7 d9 d11 d17 d23 d26, s_MendAfter_l14_out z18 d2 d7 d9 d11 d17 d23 d26, s_MendAfter_l14 d11 d17, (d14, d29), y, ?_, hy, ?_, s_MendAfter_l14_step z18 d2 d7 d9 d11 d17 d23 d26⟩
 ·subst hs; exact restrict_eq (T := [(2, (.imm true (.int .i64) d2)), (3, (.ptr (5, 0) [])), (9, (.ptr (23, 0) [])), (11, (.ref (13, 0) [])), (12, (.imm true (.int .i64) d7)), (13, (.imm true .bool d9)), (14, (.imm true (.int .i64) d11)), (15, (.ref (17, 0) [])), (16, (.imm true (.int .i64) d14))]) (U := [((5, 0), some ⟨true, kGather, (.imm z18), d17⟩), ((23, 0), some ⟨true, kL08Run, .own, ((some (5, 0) : Option RName), d23)⟩), ((13, 0), some ⟨false, (.sl (.int .i64)), .own, d26⟩), ((17, 0), some ⟨false, (.sl (.int .i64)), .own, d29⟩)]) rfl rfl ⟨e1, e3, e4, e5, e6, e8, e10, e12, e13, trivial⟩ ⟨e15, e19, e24, e27, trivial⟩
 ·exact Option.some.inj hz
set_option maxRecDepth 100000 in
theorem s_MendAfter_l10_step : ∀ (z10_0 : Bool) (h10_0_0 : Int) (h10_0_4 : TGather) (h10_0_5 : (TPlant × Unit)) (x : (Int × Bool × Int × (List Int))) (c : St → Option (Ex × St)), den s_MendAfter_V s_MendAfter_A (loopAt s_MendAfter_b 0) (s_MendAfter_l10_mk z10_0 h10_0_0 h10_0_4 h10_0_5 x) (roundK s_MendAfter_l10_L.kp s_MendAfter_l10_L.kx c) = (s_MendAfter_l10 h10_0_0 h10_0_4 h10_0_5 x).run (roundR (s_MendAfter_l10_mk z10_0 h10_0_0 h10_0_4 h10_0_5) (s_MendAfter_l10_out z10_0 h10_0_0 h10_0_4 h10_0_5) c) := fun _ _ _ _ _ _ => by
 kernel_rfl
theorem s_MendAfter_l10_ok : LoopOK s_MendAfter_V s_MendAfter_A (loopAt s_MendAfter_b 0) s_MendAfter_l10_L := loopOK_of fun s e s' h => by
 generalize hs : restrict s_MendAfter_l10_L.kp s = s1 at h
 have h : (s_MendAfter_l10_D s1).run some = some (e, s') := h
 obtain ⟨d2, e1, h_0⟩ := asImmZ_spec h
 obtain ⟨e3, h_1⟩ := asPtr_spec h_0
 obtain ⟨e4, h_2⟩ := asPtr_spec h_1
 obtain ⟨e5, h_3⟩ := asRef_spec h_2
 obtain ⟨d7, e6, h_4⟩ := asImmZ_spec h_3
 obtain ⟨d9, e8, h_5⟩ := asImmZ_spec h_4
 obtain ⟨d11, e10, h_6⟩ := asImmZ_spec h_5
 obtain ⟨m13, d14, e12, h_7⟩ := asRoot_spec h_6
 obtain ⟨z15, rfl, h_8⟩ := asMImm_spec h_7
 obtain ⟨m17, d18, e16, h_9⟩ := asRoot_spec h_8
 obtain ⟨rfl, h_10⟩ := asM_spec h_9
 obtain ⟨d19, d20, rfl, h_11⟩ := asProd_spec h_10
 obtain ⟨rfl, h_12⟩ := asD_spec h_11
 obtain ⟨m22, d23, e21, h_13⟩ := asRoot_spec h_12
 obtain ⟨rfl, h_14⟩ := asM_spec h_13
 obtain ⟨y, hy, hz⟩ := mat_ret h_14
 refine ⟨_, _, s_MendAfter_l10_mk z15 d2 d14 d20, s_MendAfter_l10_out z15 d2 d14 d20, s_MendAfter_l10 d2 d14 d20, (d7, d9, d11, d23), y, ?_, hy, ?_, s_MendAfter_l10_step z15 d2 d14 d20⟩
 ·subst hs; exact restrict_eq (T := [(2, (.imm true (.int .i64) d2)), (3, (.ptr (5, 0) [])), (9, (.ptr (23, 0) [])), (11, (.ref (13, 0) [])), (12, (.imm true (.int .i64) d7)), (13, (.imm true .bool d9)), (14, (.imm true (.int .i64) d11))]) (U := [((5, 0), some ⟨true, kGather, (.imm z15), d14⟩), ((23, 0), some ⟨true, kL08Run, .own, ((some (5, 0) : Option RName), d20)⟩), ((13, 0), some ⟨false, (.sl (.int .i64)), .own, d23⟩)]) rfl rfl ⟨e1, e3, e4, e5, e6, e8, e10, trivial⟩ ⟨e12, e16, e21, trivial⟩
 ·exact Option.some.inj hz
noncomputable def s_MendAfter_I : FnI := ⟨s_MendAfter_b, Try.f9.results.toList, Try.f9.resultTypes.toList, s_MendAfter_A⟩
noncomputable def s_MendAfter_out (_zp0 : Bool) (_zp1 : Bool) (_p0 : TGather) (_p1 : (List TDeed)) (_p2 : Int) : (Int × Int × (List Int)) → CallOut := fun r => ⟨(.tcons (.ref (1, 0) []) (.tcons (.imm true (.int .i64) r.1) (.tcons (.imm true (.int .i64) r.2.1) .tnil))), [], [⟨false, (.sl (.int .i64)), .own, r.2.2⟩]⟩
set_option maxRecDepth 100000 in
theorem s_MendAfter_eq : ∀ (zp0 : Bool) (zp1 : Bool) (p0 : TGather) (p1 : (List TDeed)) (p2 : Int), denFn s_MendAfter_V s_MendAfter_I ⟨[(.imm zp0 kGather p0), (.imm zp1 (.sl kDeed) p1), (.imm true (.int .i64) p2)], []⟩ = (s_MendAfter p0 p1 p2).run fun r => some (s_MendAfter_out zp0 zp1 p0 p1 p2 r) := fun _ _ _ _ _ => by kernel_rfl
noncomputable def s_MendAfter_G (av : List AV) (rs : List Root) : Tre CallOut :=
 asCons av fun a0_ av0 =>
 asCons av0 fun a1_ av1 =>
 asCons av1 fun a2_ av2 =>
 asEnd av2 <|
 asEnd rs <|
 asImm kGather a0_ fun z2 d1 =>
 asImm (.sl kDeed) a1_ fun z4 d3 =>
 asImmZ true (.int .i64) a2_ fun d5 =>
 .mat (mendR d1 d3 d5) fun r => .ret (s_MendAfter_out z2 z4 d1 d3 d5 r)
noncomputable def s_MendAfter_c : Ctr := ⟨[], fun ci => s_MendAfter_G ci.args ci.roots⟩
theorem s_MendAfter_env : EnvOK Try.prog s_MendAfter_V := (envOK_cons s_l08At_23e7_ok ent36 (envOK_cons s_l08Missed_9ed6_ok ent37 envOK_nil))
set_option maxRecDepth 100000 in
theorem s_MendAfter_ok : Contract Try.prog 9 s_MendAfter_c := by
 have hl : LoopsOK s_MendAfter_V s_MendAfter_A s_MendAfter_b := (loopsOK_all (n := 2) (by kernel_rfl) fun k hk => by
   match k, hk with
   | 0, _ => exact loopOK_at (id := 10) (L := s_MendAfter_l10_L) (by kernel_rfl) (by kernel_rfl) s_MendAfter_l10_ok
   | 1, _ => exact loopOK_at (id := 14) (L := s_MendAfter_l14_L) (by kernel_rfl) (by kernel_rfl) s_MendAfter_l14_ok)
 refine (contract_of (F := s_MendAfter_I) tau_tys s_MendAfter_env Try.func9 (by kernel_rfl) (by kernel_rfl) (by kernel_rfl) hl []).weaken ?_
 rintro ⟨av, rs⟩ co h
 have h : (s_MendAfter_G av rs).run some = some co := h
 obtain ⟨a0_, av0, rfl, h_0⟩ := asCons_spec h
 obtain ⟨a1_, av1, rfl, h_1⟩ := asCons_spec h_0
 obtain ⟨a2_, av2, rfl, h_2⟩ := asCons_spec h_1
 obtain ⟨rfl, h_3⟩ := asEnd_spec h_2
 obtain ⟨rfl, h_4⟩ := asEnd_spec h_3
 obtain ⟨z2, d1, rfl, h_5⟩ := asImm_spec h_4
 obtain ⟨z4, d3, rfl, h_6⟩ := asImm_spec h_5
 obtain ⟨d5, rfl, h_7⟩ := asImmZ_spec h_6
 exact fin_opt (s_MendAfter_eq z2 z4 d1 d3 d5) (s_MendAfter_spec d1 d3 d5) h_7
end Go.Proofs.Ytddaclhjnkimfaa

namespace Go.Proofs.Ytddaclhjnkimfaa
open Go Go.Abs Go.Proofs
noncomputable def i_MendAfter (p0 : TGather) (p1 : (List TDeed)) (p2 : Int) : Tre (Int × Int × (List Int)) :=
 .mat (codeR p0 p1 p2) fun r1 =>
 .cond (decide (r1 = 0))
  (let v2 := iwrap .i64 (p0.1 * p0.2.1)
  .cond (decide (v2 > 10))
   (.ret (0, 3, []))
   (.cond (!decide (r1 = 0))
    (.ret (0, r1, []))
    (.mat (afterR p0 p1) fun r3 =>
    .mat (i_Field_lists_i_MendAfterc1_591f_F (p0.2.1, (0, ())) p0.1 p0 p2 (-1) [] 0 r3.2) fun r4 =>
    .cond (decide (r4.2.2 > 1))
     (.ret (0, 4, []))
     (.ret (r4.1, 0, r4.2.1)))))
  (.cond (!decide (r1 = 0))
   (.ret (0, r1, []))
   (.mat (afterR p0 p1) fun r5 =>
   .mat (i_Field_lists_i_MendAfterc1_591f_F (p0.2.1, (0, ())) p0.1 p0 p2 (-1) [] 0 r5.2) fun r6 =>
   .cond (decide (r6.2.2 > 1))
    (.ret (0, 4, []))
    (.ret (r6.1, 0, r6.2.1))))
noncomputable def i_MendAfter_F (p0 : TGather) (p1 : (List TDeed)) (p2 : Int) : Option (Int × Int × (List Int)) := (i_MendAfter p0 p1 p2).run some
theorem count_of {f : Int × Int × Unit} {L : Nat} (hf : f.1 = (L : Int)) (hl : L ≤ 60) : i_Field_count_F f = some ((2 ^ L : Nat) : Int) := by
 unfold i_Field_count_F i_Field_count
 rw [hf, Tre.run_ite, if_pos (by omega), Tre.run_ret, show (1 : Int) = ((1 : Nat) : Int) from rfl, ishl_nat (by omega) (by have := pow_le hl; omega), Nat.one_mul]
section
variable {g : G8} {c i P L : Nat} {w : P8 × (G8 × Unit)} {x : List Int × List Int × Unit}
theorem mend_l4_end {f : Int × Int × Unit} (l : List Int) : (i_Field_lists_i_MendAfterc1_591f_l4 f (-1, l)).run some = some (.inr (-1, l)) := rfl
theorem mend_l4_step {f : Int × Int × Unit} (hf : f.1 = (L : Int)) (hl : L ≤ 60) (i : Nat) (l : List Int) (x : Int) (hx : l[i]? = some x) (hli : l.length ≤ 1000) :
  (i_Field_lists_i_MendAfterc1_591f_l4 f ((i : Int), l)).run some = some (cond (decide (x = ((2 ^ L : Nat) : Int) - 1)) (.inl ((i : Int) - 1, l.set i 0)) (.inr ((i : Int), l))) := by
 have hi : i < l.length := (List.getElem?_eq_some_iff.1 hx).1
 have := pow_le hl
 have := Nat.two_pow_pos L
 unfold i_Field_lists_i_MendAfterc1_591f_l4
 dsimp only
 rw [Tre.run_cond, decide_eq_true (by omega), cond_true, Tre.run_ite, if_pos ⟨by omega, by omega⟩, Int.toNat_natCast, run_some_mat hx, run_some_mat (count_of hf hl), Tre.run_cond, iwrap_i64 (n := ((2 ^ L : Nat) : Int) - 1) (by omega) (by omega)]
 cases decide (x = ((2 ^ L : Nat) : Int) - 1)
 ·rfl
 ·rw [cond_true, cond_true, Tre.run_ite, if_pos ⟨by omega, by omega⟩, run_some_mat hx, Tre.run_ret, iwrap_i64 (by omega) (by omega)]
def mendF (m : List Int → Int) (g : Int × List Int × Int) (x : List Int) : Int × List Int × Int := cond (decide (g.1 < 0) || decide (m x < g.1)) (m x, x, 1) (cond (decide (m x = g.1)) (g.1, g.2.1, g.2.2 + 1) g)
def MendI (m : List Int → Int) (pre : List (List Int)) (g : Int × List Int × Int) : Prop := (pre = [] ∧ g = (-1, [], 0)) ∨ (Best m pre g.1 g.2.1 (decide (g.2.2 > 1)) ∧ 0 ≤ g.1 ∧ 1 ≤ g.2.2 ∧ g.2.2 ≤ (pre.length : Int))
theorem mendI_step {m : List Int → Int} {pre : List (List Int)} {st : Int × List Int × Int} {x : List Int} (hm : 0 ≤ m x) (hx : x ∉ pre) (h : MendI m pre st) : MendI m (pre ++ [x]) (mendF m st x) := by
 refine .inr ?_
 unfold mendF
 rcases h with ⟨rfl, rfl⟩ | ⟨h1, h2, h3, h4⟩
 ·exact ⟨Best.first m x, hm, Int.le_refl (1 : Int), Int.le_refl (1 : Int)⟩
 ·rw [decide_eq_false (by omega), Bool.false_or]
  by_cases hl : m x < st.1
  ·rw [decide_eq_true hl, cond_true]
   exact ⟨h1.less hl, hm, Int.le_refl (1 : Int), by show (1 : Int) ≤ _; simp; omega⟩
  ·rw [decide_eq_false hl, cond_false]
   by_cases he : m x = st.1
   ·rw [decide_eq_true he, cond_true]
    refine ⟨?_, h2, by show 1 ≤ st.2.2 + 1; omega, by show st.2.2 + 1 ≤ _; simp; omega⟩
    show Best m (pre ++ [x]) st.1 st.2.1 (decide (st.2.2 + 1 > 1))
    rw [decide_eq_true (by omega)]
    exact h1.same he hx
   ·rw [decide_eq_false he, cond_false]
    exact ⟨h1.more (by omega), h2, h3, by simp; omega⟩
theorem mend_closure {g : G8} {st : Int × List Int × Int} {d : List Int} (hok : okM x.1 d g = true) (hx : w.1.1[i]? = some x) (hb : 0 ≤ st.2.2 ∧ st.2.2 ≤ 100000) :
  i_MendAfterc1_a693_F d g (i : Int) st.1 st.2.1 st.2.2 w = some (mendF (fun d => missN x.1 d g) st d) := by
 have hi : i < w.1.1.length := (List.getElem?_eq_some_iff.1 hx).1
 have hm : missI g x.1 d = some (missN x.1 d g) := askO_true hok
 have hcl : cloneR d = some d := lim_of (by unfold okM at hok; simp only [Bool.and_eq_true, decide_eq_true_eq] at hok; omega)
 unfold i_MendAfterc1_a693_F i_MendAfterc1_a693 mendF
 rw [Tre.run_ite, if_pos ⟨by omega, by omega⟩, Int.toNat_natCast, run_some_mat hx, run_some_mat hx, run_some_mat hm, Tre.run_cond]
 cases decide (st.1 < 0)
 ·rw [cond_false, Tre.run_cond, Bool.false_or]
  cases decide (missN x.1 d g < st.1)
  ·rw [cond_false, cond_false, Tre.run_cond]
   cases decide (missN x.1 d g = st.1)
   ·rfl
   ·rw [cond_true, cond_true, Tre.run_ret, iwrap_i64 (by omega) (by omega)]
  ·rw [cond_true, cond_true, run_some_mat hcl, Tre.run_cond, decide_eq_true rfl]
   rfl
 ·rw [cond_true, Bool.true_or, cond_true, run_some_mat hcl, Tre.run_cond, decide_eq_true rfl]
  rfl
theorem mend_lists (hg : isG g = true) (hP : g.1 = (P : Int)) (hL : g.2.1 = (L : Int)) (hPL : P * L ≤ 10) (hx : w.1.1[i]? = some x) (hk : okS c (colsG g) x.1 = true) (hc : c ≤ 1000) :
  ∃ st, i_Field_lists_i_MendAfterc1_591f_F (g.2.1, (0, ())) g.1 g (i : Int) (-1) [] 0 w = some st ∧ MendI (fun d => missN x.1 d g) (lexL (2 ^ L) P) st := by
 have hb := isG_spec hg
 have hM : 1 ≤ 2 ^ L := Nat.two_pow_pos L
 have h2L := pow_le (b := L) (c := 6) (by omega)
 have hlen : (lexL (2 ^ L) P).length ≤ 1024 := by
  rw [lex_len, ← Nat.pow_mul, Nat.mul_comm]
  exact pow_le (b := P * L) (c := 10) hPL
 obtain ⟨st, hl, hI⟩ := odo_loop (nx := nextL ((2 ^ L : Nat) : Int)) (step := i_Field_lists_i_MendAfterc1_591f_l2 g.1 g (i : Int) w (g.2.1, (0, ()))) (fun (st : Int × List Int × Int) (d : List Int) => (st.1, st.2.1, st.2.2, d)) (fun st => st) (mendF (fun d => missN x.1 d g)) (MendI (fun d => missN x.1 d g)) (all := lexL (2 ^ L) P) (by
  intro pre d st hd hn hlt hI
  obtain ⟨hdl, hdv⟩ := (lex_mem _ _ _).1 hd
  have hdat : isData g d := ⟨by rw [hdl, hP, Int.toNat_natCast], fun y hy => by rw [hL, Int.toNat_natCast]; exact hdv y hy⟩
  have hok := data_okM hg hk hc hdat
  have hms := miss_small hok
  refine ⟨?_, mendI_step hms.1 hn hI⟩
  have hcl := mend_closure (st := st) hok hx (by
   rcases hI with ⟨_, rfl⟩ | ⟨_, _, h3, h4⟩
   ·decide
   ·omega)
  unfold i_Field_lists_i_MendAfterc1_591f_l2
  dsimp only
  rw [run_some_mat hcl, hP, iwrap_i64 (n := (P : Int) - 1) (by omega) (by omega)]
  have st4 : ∀ (i : Nat) (l : List Int) (y : Int), l[i]? = some y → l.length ≤ 1000 → (i_Field_lists_i_MendAfterc1_591f_l4 (g.2.1, (0, ())) ((i : Int), l)).run some = some (cond (decide (y = ((2 ^ L : Nat) : Int) - 1)) (.inl ((i : Int) - 1, l.set i 0)) (.inr ((i : Int), l))) := fun i l y hy hl => mend_l4_step (f := (g.2.1, (0, ()))) hL (by omega) i l y hy hl
  rcases nextL_parts ((2 ^ L : Nat) : Int) d with hd2 | ⟨zs, cc, k, hcc, hd2⟩
  ·rw [hdl] at hd2
   have h4 := carry_top (step := i_Field_lists_i_MendAfterc1_591f_l4 (g.2.1, (0, ()))) (M := ((2 ^ L : Nat) : Int)) (N := 1000) mend_l4_end st4 P 0 (by omega)
   rw [List.replicate_zero, List.append_nil, ← hd2] at h4
   rw [run_some_mat h4, Tre.run_cond, decide_eq_true (show (-1 : Int) < 0 by decide), cond_true, Tre.run_ret]
   have : nextL ((2 ^ L : Nat) : Int) d = none := by rw [hd2]; exact nextL_top _ _
   rw [this]
  ·have hlz : zs.length + k + 1 = P := by rw [← hdl, hd2]; simp; omega
   have h4 := carry_mid (step := i_Field_lists_i_MendAfterc1_591f_l4 (g.2.1, (0, ()))) (M := ((2 ^ L : Nat) : Int)) (N := 1000) (zs := zs) st4 hcc k 0 (by omega)
   rw [List.replicate_zero, List.append_nil, ← hd2, Nat.add_zero, show ((zs.length + k : Nat) : Int) = (P : Int) - 1 by omega] at h4
   obtain ⟨kk, hkk, hkl⟩ := hdv cc (by rw [hd2]; simp)
   have hnx : nextL ((2 ^ L : Nat) : Int) d = some (zs ++ (cc + 1) :: List.replicate k 0) := by rw [hd2]; exact nextL_mid _ _ hcc _ _
   have hat : (zs ++ cc :: List.replicate k 0)[zs.length]? = some cc := by simp
   have hset : (zs ++ cc :: List.replicate k 0).set zs.length (cc + 1) = zs ++ (cc + 1) :: List.replicate k 0 := by simp
   rw [run_some_mat h4]
   dsimp only
   rw [Tre.run_cond, decide_eq_false (by omega), cond_false, Tre.run_ite, if_pos ⟨by omega, by simp; omega⟩, Int.toNat_natCast, run_some_mat hat, Tre.run_ite, if_pos ⟨by omega, by simp; omega⟩, run_some_mat hat, Tre.run_ret, iwrap_i64 (n := cc + 1) (by omega) (by omega), hset, hnx]) (run_lex hM P) [] (-1, [], 0) rfl (lex_nodup _ _) (.inl ⟨rfl, rfl⟩)
 refine ⟨st, ?_, hI⟩
 unfold i_Field_lists_i_MendAfterc1_591f_F i_Field_lists_i_MendAfterc1_591f
 rw [Tre.run_ite, if_pos ⟨rfl, by omega, rfl, by omega, by omega⟩]
 have hz : List.replicate g.1.toNat (0 : Int) = List.replicate P 0 := by rw [hP, Int.toNat_natCast]
 rw [hz]
 have hl : loopF (i_Field_lists_i_MendAfterc1_591f_l2 g.1 g (i : Int) w (g.2.1, (0, ()))) (-1, [], 0, List.replicate P 0) = some st := hl
 rw [run_some_mat hl]
 rfl
theorem mend_same (hg : isG g = true) (hP : g.1 = (P : Int)) (hL : g.2.1 = (L : Int)) {st : Int × List Int × Int} {xs : List Int} (hk : okS c (colsG g) xs = true) (hc : c ≤ 1000) (hI : MendI (fun d => missN xs d g) (lexL (2 ^ L) P) st) :
  (mendL g xs (manyG g)).2.1 = decide (st.2.2 > 1) ∧ (decide (st.2.2 > 1) = false → ((mendL g xs (manyG g)).1, (0 : Int), (mendL g xs (manyG g)).2.2) = (st.1, 0, st.2.1)) := by
 have hM : 1 ≤ 2 ^ L := Nat.two_pow_pos L
 have hpos : 1 ≤ manyG g := Nat.pow_pos (Nat.two_pow_pos _)
 have hB := mendL_best (g := g) (xs := xs) (fun d hd => by have := miss_small (data_okM hg hk hc hd); omega) (fun k hk => dig_data hP hL hk) (manyG g - 1) (by omega)
 rw [show manyG g - 1 + 1 = manyG g by omega] at hB
 have hmem : ∀ y, y ∈ (List.range (manyG g)).map (digL (2 ^ g.2.1.toNat) g.1.toNat) ↔ y ∈ lexL (2 ^ L) P := by
  intro y
  rw [lex_mem, ← dig_mem hM P y, List.mem_map]
  unfold manyG
  rw [hP, hL, Int.toNat_natCast, Int.toNat_natCast]
  simp only [List.mem_range]
 rcases hI with ⟨h0, _⟩ | ⟨h1, _, _, _⟩
 ·have := lex_len (2 ^ L) P
  rw [h0] at this
  have := Nat.pow_pos (n := P) hM
  simp at *
  omega
 ·obtain ⟨e1, e2, e3⟩ := hB.eq h1 hmem
  refine ⟨e2, fun hf => ?_⟩
  rw [e1, e3 (by rw [e2]; exact hf)]
end
theorem i_MendAfter_spec (p0 : G8) (p1 : List D8) (p2 : Int) (y : Int × Int × List Int) (h : mendR p0 p1 p2 = some y) : i_MendAfter_F p0 p1 p2 = some y := by
 obtain ⟨hok, rfl⟩ := askO_some h
 unfold i_MendAfter_F i_MendAfter mendM
 rw [run_some_mat (show codeR p0 p1 p2 = some _ from askO_true hok), Tre.run_cond]
 by_cases h0 : codeM p0 p1 p2 = 0
 ·obtain ⟨hg, hd, hl, _, _⟩ := codeM_zero_spec h0
  obtain ⟨i, x, rfl, hx, hi, hk, _⟩ := rows_at h0
  have hb := isG_spec hg
  obtain ⟨P, hP⟩ := Int.eq_ofNat_of_zero_le (show 0 ≤ p0.1 by omega)
  obtain ⟨L, hL⟩ := Int.eq_ofNat_of_zero_le (show 0 ≤ p0.2.1 by omega)
  have hPL : P * L ≤ 24 := Nat.le_trans (Nat.mul_le_mul (show P ≤ 4 by omega) (show L ≤ 6 by omega)) (by decide)
  have e1 : iwrap .i64 (p0.1 * p0.2.1) = ((P * L : Nat) : Int) := by rw [hP, hL, ← Int.natCast_mul]; exact iwrap_nat (by omega)
  have e0 : p0.1 * p0.2.1 = ((P * L : Nat) : Int) := by rw [hP, hL, ← Int.natCast_mul]
  rw [decide_eq_true h0, cond_true, cond_true]
  dsimp only
  rw [e1, Tre.run_cond]
  unfold mendX
  rw [e0]
  by_cases h10 : ((P * L : Nat) : Int) > 10
  ·rw [decide_eq_true h10, cond_true, cond_true]; rfl
  rw [decide_eq_false h10, cond_false, cond_false, Tre.run_cond, Bool.not_true, cond_false]
  have hrow : rowsM p0 p1 (i : Int) = x.1 := by unfold rowsM; rw [Int.toNat_natCast, hx]
  rw [hrow]
  have haft : afterR p0 p1 = some _ := askO_true (by rw [hg, hd, decide_eq_true hl]; rfl)
  obtain ⟨st, hst, hI⟩ := mend_lists (w := (afterM p0 p1, (p0, ()))) hg hP hL (by omega) hx hk (by omega)
  obtain ⟨s1, s2⟩ := mend_same hg hP hL hk (by omega) hI
  rw [run_some_mat haft, run_some_mat hst, Tre.run_cond, s1]
  cases hm : decide (st.2.2 > 1)
  ·rw [cond_false, cond_false, s2 hm]; rfl
  ·rfl
 ·have h1 : decide (codeM p0 p1 p2 = 0) = false := decide_eq_false h0
  rw [h1, cond_false, cond_false, Tre.run_cond, Bool.not_false, cond_true]
  rfl
noncomputable def i_MendAfter_V : Env := ⟨tau, [(40, i_deedsCode_c), (41, i_after_c), (42, i_Field_lists_i_MendAfterc1_591f_c)], []⟩
noncomputable def i_MendAfter_b : Code := (Try.f12.body).getD .skip
noncomputable def i_MendAfter_I : FnI := ⟨i_MendAfter_b, Try.f12.results.toList, Try.f12.resultTypes.toList, []⟩
noncomputable def i_MendAfter_out (_zp0 : Bool) (_zp1 : Bool) (_p0 : TGather) (_p1 : (List TDeed)) (_p2 : Int) : (Int × Int × (List Int)) → CallOut := fun r => ⟨(.tcons (.ref (1, 0) []) (.tcons (.imm true (.int .i64) r.1) (.tcons (.imm true (.int .i64) r.2.1) .tnil))), [], [⟨false, (.sl (.int .i64)), .own, r.2.2⟩]⟩
set_option maxRecDepth 100000 in
theorem i_MendAfter_eq : ∀ (zp0 : Bool) (zp1 : Bool) (p0 : TGather) (p1 : (List TDeed)) (p2 : Int), denFn i_MendAfter_V i_MendAfter_I ⟨[(.imm zp0 kGather p0), (.imm zp1 (.sl kDeed) p1), (.imm true (.int .i64) p2)], []⟩ = (i_MendAfter p0 p1 p2).run fun r => some (i_MendAfter_out zp0 zp1 p0 p1 p2 r) := fun _ _ _ _ _ => by kernel_rfl
noncomputable def i_MendAfter_G (av : List AV) (rs : List Root) : Tre CallOut :=
 asCons av fun a0_ av0 =>
 asCons av0 fun a1_ av1 =>
 asCons av1 fun a2_ av2 =>
 asEnd av2 <|
 asEnd rs <|
 asImm kGather a0_ fun z2 d1 =>
 asImm (.sl kDeed) a1_ fun z4 d3 =>
 asImmZ true (.int .i64) a2_ fun d5 =>
 .mat (mendR d1 d3 d5) fun r => .ret (i_MendAfter_out z2 z4 d1 d3 d5 r)
noncomputable def i_MendAfter_c : Ctr := ⟨[], fun ci => i_MendAfter_G ci.args ci.roots⟩
theorem i_MendAfter_env : EnvOK Try.prog i_MendAfter_V := (envOK_cons i_deedsCode_ok ent40 (envOK_cons i_after_ok ent41 (envOK_cons i_Field_lists_i_MendAfterc1_591f_ok ent42 envOK_nil)))
set_option maxRecDepth 100000 in
theorem i_MendAfter_ok : Contract Try.prog 12 i_MendAfter_c := by
 have hl : LoopsOK i_MendAfter_V [] i_MendAfter_b := loopsOK_nil (by kernel_rfl)
 refine (contract_of (F := i_MendAfter_I) tau_tys i_MendAfter_env Try.func12 (by kernel_rfl) (by kernel_rfl) (by kernel_rfl) hl []).weaken ?_
 rintro ⟨av, rs⟩ co h
 have h : (i_MendAfter_G av rs).run some = some co := h
 obtain ⟨a0_, av0, rfl, h_0⟩ := asCons_spec h
 obtain ⟨a1_, av1, rfl, h_1⟩ := asCons_spec h_0
 obtain ⟨a2_, av2, rfl, h_2⟩ := asCons_spec h_1
 obtain ⟨rfl, h_3⟩ := asEnd_spec h_2
 obtain ⟨rfl, h_4⟩ := asEnd_spec h_3
 obtain ⟨z2, d1, rfl, h_5⟩ := asImm_spec h_4
 obtain ⟨z4, d3, rfl, h_6⟩ := asImm_spec h_5
 obtain ⟨d5, rfl, h_7⟩ := asImmZ_spec h_6
 exact fin_opt (i_MendAfter_eq z2 z4 d1 d3 d5) (i_MendAfter_spec d1 d3 d5) h_7
end Go.Proofs.Ytddaclhjnkimfaa

namespace Go.Proofs.Ytddaclhjnkimfaa
open Go Go.Abs Go.Proofs
noncomputable def s_l00Same_l4 (h4_0_0 : (List Int)) (h4_0_1 : (List Int)) : Int → Tre (Int ⊕ (Bool ⊕ Unit)) := fun s4 =>
 .cond (decide (s4 < (h4_0_0.length : Int)))
  (.ite (0 ≤ s4 ∧ s4 < (h4_0_0.length : Int)) <|
  .mat (h4_0_0[s4.toNat]?) fun x1 =>
  .ite (0 ≤ s4 ∧ s4 < (h4_0_1.length : Int)) <|
  .mat (h4_0_1[s4.toNat]?) fun x2 =>
  .cond (!decide (x1 = x2))
   (.ret (.inr (.inl false)))
   (.ret (.inl (iwrap .i64 (s4 + 1)))))
  (.ret (.inr (.inr ())))
noncomputable def s_l00Same (p0 : (List Int)) (p1 : (List Int)) : Tre Bool :=
 .cond (!decide ((p0.length : Int) = (p1.length : Int)))
  (.ret false)
  (.mat (loopF (s_l00Same_l4 p0 p1) 0) fun l3 =>
  .alt l3
   (fun a4 =>
    .ret a4)
   (fun _ =>
    .ret true))
noncomputable def s_l00Same_F (p0 : (List Int)) (p1 : (List Int)) : Option Bool := (s_l00Same p0 p1).run some
def sameL (a b : List Int) : Option Bool := askO (decide (a.length ≤ 1048576) && decide (b.length ≤ 1048576)) (decide (a = b))
def sameAt (b : List Int) (i : Nat) (x : Int) : Option (Bool ⊕ Unit) := match b[i]? with
 | some y => cond (decide (x = y)) none (some (.inl false))
 | none => none
theorem findE_same (b : List Int) : ∀ (l : List Int) (i : Nat), l.length = (b.drop i).length → findE (β := Bool ⊕ Unit) (sameAt b) (.inr ()) i l = cond (decide (l = b.drop i)) (.inr ()) (.inl false) := by
 intro l
 induction l with
 | nil =>
  intro i h
  have : b.drop i = [] := List.eq_nil_of_length_eq_zero h.symm
  rw [this]; rfl
 | cons x l ih =>
  intro i h
  have hi : i < b.length := by rw [List.length_drop, List.length_cons] at h; omega
  have hd : b.drop i = b[i] :: b.drop (i + 1) := List.drop_eq_getElem_cons hi
  have hlen : l.length = (b.drop (i + 1)).length := by rw [hd, List.length_cons, List.length_cons] at h; omega
  have hih := ih (i + 1) hlen
  simp only [findE, sameAt]
  rw [List.getElem?_eq_getElem hi]
  simp only
  by_cases hx : x = b[i]
  ·rw [decide_eq_true hx, cond_true, hih]
   by_cases hl : l = b.drop (i + 1)
   ·rw [decide_eq_true hl, decide_eq_true (show x :: l = b.drop i by rw [hd, hx, hl])]
   ·rw [decide_eq_false hl, decide_eq_false (fun h2 => hl (by rw [hd] at h2; exact (List.cons.inj h2).2))]
  ·rw [decide_eq_false hx, cond_false, decide_eq_false (fun h2 => hx (by rw [hd] at h2; exact (List.cons.inj h2).1))]
   rfl
theorem s_l00Same_spec (p0 p1 : List Int) (y : Bool) (h : sameL p0 p1 = some y) : s_l00Same_F p0 p1 = some y := by
 obtain ⟨hok, rfl⟩ := askO_some h
 simp only [Bool.and_eq_true, decide_eq_true_eq] at hok
 unfold s_l00Same_F s_l00Same
 rw [Tre.run_cond]
 by_cases hl : p0.length = p1.length
 ·rw [decide_eq_true (show (p0.length : Int) = (p1.length : Int) by omega), Bool.not_true, cond_false, Tre.run_mat, find_loop (xs := p0) (sameAt p1) (.inr ()), findE_same p1 p0 0 (by simpa using hl)]
  ·rw [List.drop_zero]
   cases decide (p0 = p1) <;> rfl
  ·intro i x hx
   have hi : i < p0.length := (List.getElem?_eq_some_iff.1 hx).1
   have hy : p1[i]? = some p1[i] := List.getElem?_eq_getElem (by omega)
   unfold s_l00Same_l4
   unfold sameAt
   rw [run_inb hx, run_at hy, Tre.run_cond, hy]
   dsimp only
   cases decide (x = p1[i])
   ·rfl
   ·simp only [Bool.not_true, cond_true, cond_false, Tre.run_ret, iwrap_succ (show i < 4611686018427387904 by omega)]
  ·unfold s_l00Same_l4
   exact run_out
 ·rw [decide_eq_false (show ¬ (p0.length : Int) = (p1.length : Int) by omega), Bool.not_false, cond_true, Tre.run_ret, decide_eq_false (fun h => hl (by rw [h]))]
noncomputable def s_l00Same_V : Env := ⟨tau, [], []⟩
noncomputable def s_l00Same_b : Code := (Try.f51.body).getD .skip
noncomputable def s_l00Same_l4_mk (z4_0 : Bool) (z4_1 : Bool) (h4_0_0 : (List Int)) (h4_0_1 : (List Int)) : Int → St := fun x => stOf [(0, (.imm z4_0 (.sl (.int .i64)) h4_0_0)), (1, (.imm z4_1 (.sl (.int .i64)) h4_0_1)), (5, (.imm true (.int .i64) x))] []
noncomputable def s_l00Same_l4_out (_z4_0 : Bool) (_z4_1 : Bool) (_h4_0_0 : (List Int)) (_h4_0_1 : (List Int)) : (Bool ⊕ Unit) → Ex × St
 | .inl x => (.ret, stOf [(4, (.imm true .bool x))] [])
 | .inr x => (.exit 0, stOf [(4, .dead)] [])
noncomputable def s_l00Same_l4_D (s : St) : Tre (Ex × St) :=
 asImm (.sl (.int .i64)) (s.tmps 0) fun z3 d2 =>
 asImm (.sl (.int .i64)) (s.tmps 1) fun z6 d5 =>
 asImmZ true (.int .i64) (s.tmps 5) fun d8 =>
 .mat (loopF (s_l00Same_l4 d2 d5) d8) fun x => .alt x (fun a0 => .ret (s_l00Same_l4_out z3 z6 d2 d5 (.inl a0))) (fun b0 => .ret (s_l00Same_l4_out z3 z6 d2 d5 (.inr b0)))
noncomputable def s_l00Same_l4_L : LoopI := ⟨([0, 1, 5], []), ([4], []), s_l00Same_l4_D⟩
noncomputable def s_l00Same_A : List (Nat × LoopI) := [(4, s_l00Same_l4_L)]
set_option maxRecDepth 100000 in
theorem s_l00Same_l4_step : ∀ (z4_0 : Bool) (z4_1 : Bool) (h4_0_0 : (List Int)) (h4_0_1 : (List Int)) (x : Int) (c : St → Option (Ex × St)), den s_l00Same_V s_l00Same_A (loopAt s_l00Same_b 0) (s_l00Same_l4_mk z4_0 z4_1 h4_0_0 h4_0_1 x) (roundK s_l00Same_l4_L.kp s_l00Same_l4_L.kx c) = (s_l00Same_l4 h4_0_0 h4_0_1 x).run (roundR (s_l00Same_l4_mk z4_0 z4_1 h4_0_0 h4_0_1) (s_l00Same_l4_out z4_0 z4_1 h4_0_0 h4_0_1) c) := fun _ _ _ _ _ _ => by
 kernel_rfl
theorem s_l00Same_l4_ok : LoopOK s_l00Same_V s_l00Same_A (loopAt s_l00Same_b 0) s_l00Same_l4_L := loopOK_of fun s e s' h => by
 generalize hs : restrict s_l00Same_l4_L.kp s = s1 at h
 have h : (s_l00Same_l4_D s1).run some = some (e, s') := h
 obtain ⟨z3, d2, e1, h_0⟩ := asImm_spec h
 obtain ⟨z6, d5, e4, h_1⟩ := asImm_spec h_0
 obtain ⟨d8, e7, h_2⟩ := asImmZ_spec h_1
 obtain ⟨y, hy, hz⟩ := mat_some h_2
 refine ⟨_, _, s_l00Same_l4_mk z3 z6 d2 d5, s_l00Same_l4_out z3 z6 d2 d5, s_l00Same_l4 d2 d5, d8, y, ?_, hy, ?_, s_l00Same_l4_step z3 z6 d2 d5⟩
 ·subst hs; exact restrict_eq (T := [(0, (.imm z3 (.sl (.int .i64)) d2)), (1, (.imm z6 (.sl (.int .i64)) d5)), (5, (.imm true (.int .i64) d8))]) (U := []) rfl rfl ⟨e1, e4, e7, trivial⟩ trivial
 ·rcases y with x | x <;> exact Option.some.inj hz
noncomputable def s_l00Same_I : FnI := ⟨s_l00Same_b, Try.f51.results.toList, Try.f51.resultTypes.toList, s_l00Same_A⟩
noncomputable def s_l00Same_out (_zp0 : Bool) (_zp1 : Bool) (_p0 : (List Int)) (_p1 : (List Int)) : Bool → CallOut := fun r => ⟨(.imm true .bool r), [], []⟩
set_option maxRecDepth 100000 in
theorem s_l00Same_eq : ∀ (zp0 : Bool) (zp1 : Bool) (p0 : (List Int)) (p1 : (List Int)), denFn s_l00Same_V s_l00Same_I ⟨[(.imm zp0 (.sl (.int .i64)) p0), (.imm zp1 (.sl (.int .i64)) p1)], []⟩ = (s_l00Same p0 p1).run fun r => some (s_l00Same_out zp0 zp1 p0 p1 r) := fun _ _ _ _ => by kernel_rfl
noncomputable def s_l00Same_G (av : List AV) (rs : List Root) : Tre CallOut :=
 asCons av fun a0_ av0 =>
 asCons av0 fun a1_ av1 =>
 asEnd av1 <|
 asEnd rs <|
 asImm (.sl (.int .i64)) a0_ fun z2 d1 =>
 asImm (.sl (.int .i64)) a1_ fun z4 d3 =>
 .mat (sameL d1 d3) fun r => .ret (s_l00Same_out z2 z4 d1 d3 r)
noncomputable def s_l00Same_c : Ctr := ⟨[], fun ci => s_l00Same_G ci.args ci.roots⟩
theorem s_l00Same_env : EnvOK Try.prog s_l00Same_V := envOK_nil
set_option maxRecDepth 100000 in
theorem s_l00Same_ok : Contract Try.prog 51 s_l00Same_c := by
 have hl : LoopsOK s_l00Same_V s_l00Same_A s_l00Same_b := (loopsOK_all (n := 1) (by kernel_rfl) fun k hk => by
   match k, hk with
   | 0, _ => exact loopOK_at (id := 4) (L := s_l00Same_l4_L) (by kernel_rfl) (by kernel_rfl) s_l00Same_l4_ok)
 refine (contract_of (F := s_l00Same_I) tau_tys s_l00Same_env Try.func51 (by kernel_rfl) (by kernel_rfl) (by kernel_rfl) hl []).weaken ?_
 rintro ⟨av, rs⟩ co h
 have h : (s_l00Same_G av rs).run some = some co := h
 obtain ⟨a0_, av0, rfl, h_0⟩ := asCons_spec h
 obtain ⟨a1_, av1, rfl, h_1⟩ := asCons_spec h_0
 obtain ⟨rfl, h_2⟩ := asEnd_spec h_1
 obtain ⟨rfl, h_3⟩ := asEnd_spec h_2
 obtain ⟨z2, d1, rfl, h_4⟩ := asImm_spec h_3
 obtain ⟨z4, d3, rfl, h_5⟩ := asImm_spec h_4
 exact fin_opt (s_l00Same_eq z2 z4 d1 d3) (s_l00Same_spec d1 d3) h_5
end Go.Proofs.Ytddaclhjnkimfaa

namespace Go.Proofs.Ytddaclhjnkimfaa
open Go Go.Abs Go.Proofs
noncomputable def s_SameList (p0 : (List Int)) (p1 : (List Int)) : Tre Bool :=
 .mat (sameL p0 p1) fun r1 =>
 .ret r1
noncomputable def s_SameList_F (p0 : (List Int)) (p1 : (List Int)) : Option Bool := (s_SameList p0 p1).run some
noncomputable def s_SameList_V : Env := ⟨tau, [(51, s_l00Same_c)], []⟩
noncomputable def s_SameList_b : Code := (Try.f32.body).getD .skip
noncomputable def s_SameList_I : FnI := ⟨s_SameList_b, Try.f32.results.toList, Try.f32.resultTypes.toList, []⟩
noncomputable def s_SameList_out (_zp0 : Bool) (_zp1 : Bool) (_p0 : (List Int)) (_p1 : (List Int)) : Bool → CallOut := fun r => ⟨(.imm true .bool r), [], []⟩
set_option maxRecDepth 100000 in
theorem s_SameList_eq : ∀ (zp0 : Bool) (zp1 : Bool) (p0 : (List Int)) (p1 : (List Int)), denFn s_SameList_V s_SameList_I ⟨[(.imm zp0 (.sl (.int .i64)) p0), (.imm zp1 (.sl (.int .i64)) p1)], []⟩ = (s_SameList p0 p1).run fun r => some (s_SameList_out zp0 zp1 p0 p1 r) := fun _ _ _ _ => by kernel_rfl
noncomputable def s_SameList_G (av : List AV) (rs : List Root) : Tre CallOut :=
 asCons av fun a0_ av0 =>
 asCons av0 fun a1_ av1 =>
 asEnd av1 <|
 asEnd rs <|
 asImm (.sl (.int .i64)) a0_ fun z2 d1 =>
 asImm (.sl (.int .i64)) a1_ fun z4 d3 =>
 .mat (s_SameList_F d1 d3) fun r => .ret (s_SameList_out z2 z4 d1 d3 r)
noncomputable def s_SameList_c : Ctr := ⟨[], fun ci => s_SameList_G ci.args ci.roots⟩
theorem s_SameList_env : EnvOK Try.prog s_SameList_V := (envOK_cons s_l00Same_ok ent51 envOK_nil)
set_option maxRecDepth 100000 in
theorem s_SameList_ok : Contract Try.prog 32 s_SameList_c := by
 have hl : LoopsOK s_SameList_V [] s_SameList_b := loopsOK_nil (by kernel_rfl)
 refine (contract_of (F := s_SameList_I) tau_tys s_SameList_env Try.func32 (by kernel_rfl) (by kernel_rfl) (by kernel_rfl) hl []).weaken ?_
 rintro ⟨av, rs⟩ co h
 have h : (s_SameList_G av rs).run some = some co := h
 obtain ⟨a0_, av0, rfl, h_0⟩ := asCons_spec h
 obtain ⟨a1_, av1, rfl, h_1⟩ := asCons_spec h_0
 obtain ⟨rfl, h_2⟩ := asEnd_spec h_1
 obtain ⟨rfl, h_3⟩ := asEnd_spec h_2
 obtain ⟨z2, d1, rfl, h_4⟩ := asImm_spec h_3
 obtain ⟨z4, d3, rfl, h_5⟩ := asImm_spec h_4
 exact fin_mat (s_SameList_eq z2 z4 d1 d3) h_5
end Go.Proofs.Ytddaclhjnkimfaa

namespace Go.Proofs.Ytddaclhjnkimfaa
open Go Go.Abs Go.Proofs
-- shared
def lenP (p : P8) : Prop := ∀ s ∈ p.1, s.1.length ≤ 10 ∧ s.2.1.length ≤ 10
theorem begin_len {g : G8} (hg : isG g = true) : lenP (beginM g) := fun s hs => by
 have h := (okP_spec (beginM_ok hg)).2.1 s hs
 have h1 := (okS_spec.1 h.1).1
 have h2 := (okS_spec.1 h.2).1
 omega
theorem lenP_set {st : List (List Int × List Int × Unit)} {w : List (Int × Int × Unit) × Unit} {i : Nat} {x : List Int × List Int × Unit} (h : lenP (st, w)) (h1 : x.1.length ≤ 10) (h2 : x.2.1.length ≤ 10) : lenP (st.set i x, w) := fun s hs => by
 rcases List.mem_or_eq_of_mem_set hs with hs | rfl
 ·exact h s hs
 ·exact ⟨h1, h2⟩
theorem come_len {k : Nat} {g : G8} {p : P8} {x : Int × Int × Unit} {w : List (Int × Int × Unit) × Unit} (hg : isG g = true) (hk : k ≤ 1000) (hp : okP k g p = true) (hx : okRow (colsG g) x.2.1 = true) (h : lenP p) : lenP (comeM x p.1, w) := by
 have hc := (colsG_le hg).1
 unfold comeM
 cases hs : p.1[x.1.toNat]? with
 | none => exact h
 | some s =>
  simp only
  have hm := List.mem_of_getElem? hs
  have hr := okS_add ((okP_spec hp).2.1 s hm).1 hx
  have hle := rank_cols (b := colsG g) (by omega) (okS_rows hr (by omega) (Nat.le_refl _))
  by_cases he : ((echI (s.1 ++ [x.2.1])).length : Int) = ((s.1 ++ [x.2.1]).length : Int)
  ·rw [decide_eq_true he, cond_true]
   exact lenP_set (w := w) h (by show (s.1 ++ [x.2.1]).length ≤ 10; omega) (h s hm).2
  ·rw [decide_eq_false he]; exact h
theorem do_len {k : Nat} {g : G8} {d : D8} {p : P8} (hg : isG g = true) (hk : k ≤ 1000) (hp : okP k g p = true) (h : lenP p) : lenP (doM g d p).2 := by
 unfold doM
 cases decide (d.1 = 1)
 case true =>
  rw [cond_true]
  unfold sendM
  cases (decide (d.2.1 ≥ (p.1.length : Int)) || (decide (d.2.2.1 ≥ (p.1.length : Int)) || (decide (d.2.1 = d.2.2.1) || decide (d.2.2.1 = 0))))
  case true => exact h
  rw [cond_false]
  cases p.1[d.2.1.toNat]? with
  | none => exact h
  | some s =>
   simp only
   cases decide (d.2.2.2.1 ≥ ishl .i64 1 (s.1.length : Int))
   case true => exact h
   cases decide (d.2.2.2.1 = 0)
   case true => exact h
   cases decide ((p.2.1.length : Int) = 12)
   case true => exact h
   exact h
 rw [cond_false]
 cases inR d.1 2 5
 case true =>
  rw [cond_true]
  unfold wireM
  cases decide (d.2.1 ≥ (p.2.1.length : Int))
  case true => exact h
  rw [cond_false]
  cases hx : p.2.1[d.2.1.toNat]? with
  | none => exact h
  | some x =>
   simp only
   have hxr := ((okP_spec hp).2.2.2 x (List.mem_of_getElem? hx)).2
   cases decide (d.1 = 5)
   case true =>
    rw [cond_true]
    cases (decide (d.2.2.1 = 0) || decide (d.2.2.1 ≥ ishl .i64 1 (colsG g : Int)))
    ·exact h
    ·exact h
   rw [cond_false]
   cases decide (d.1 = 4)
   ·exact come_len hg hk hp hxr h
   ·exact h
 rw [cond_false]
 cases decide (d.2.1 ≥ (p.1.length : Int))
 case true => exact h
 rw [cond_false]
 cases hs : p.1[d.2.1.toNat]? with
 | none => exact h
 | some s =>
  simp only
  have hm := h s (List.mem_of_getElem? hs)
  cases decide (d.1 = 6)
  ·cases decide (d.1 = 7)
   ·exact lenP_set (w := p.2) h (Nat.zero_le _) hm.2
   ·exact lenP_set (w := p.2) h hm.2 hm.2
  ·exact lenP_set (w := p.2) h hm.1 hm.1
end Go.Proofs.Ytddaclhjnkimfaa

namespace Go.Proofs.Ytddaclhjnkimfaa
open Go Go.Abs Go.Proofs
-- shared
def Fine {α : Type} (t : Tre α) (Q : α → Prop) : Prop := ∃ a, t.run some = some a ∧ Q a
theorem Fine.ret {α : Type} {a : α} {Q : α → Prop} (h : Q a) : Fine (.ret a) Q := ⟨a, rfl, h⟩
theorem Fine.cond {α : Type} {b : Bool} {t f : Tre α} {Q : α → Prop} (ht : b = true → Fine t Q) (hf : b = false → Fine f Q) : Fine (.cond b t f) Q := by
 cases b
 ·exact hf rfl
 ·exact ht rfl
theorem Fine.condp {α : Type} {p : Prop} [Decidable p] {t f : Tre α} {Q : α → Prop} (ht : p → Fine t Q) (hf : ¬ p → Fine f Q) : Fine (.cond (decide p) t f) Q :=
 Fine.cond (fun h => ht (of_decide_eq_true h)) (fun h => hf (of_decide_eq_false h))
theorem Fine.ite {α : Type} {p : Prop} [h : Decidable p] {t : Tre α} {Q : α → Prop} (hp : p) (ht : p → Fine t Q) : Fine (.ite p t) Q := by
 obtain ⟨a, h1, h2⟩ := ht hp
 exact ⟨a, by rw [Tre.run_ite, if_pos hp]; exact h1, h2⟩
theorem Fine.ifn {α : Type} {p : Prop} [h : Decidable p] {t : Tre α} {Q : α → Prop} (hp : ¬ p) (ht : Fine t Q) : Fine (.ifn p t) Q := by
 obtain ⟨a, h1, h2⟩ := ht
 exact ⟨a, by rw [Tre.run_ifn, if_neg hp]; exact h1, h2⟩
theorem Fine.mat {α β : Type} {o : Option β} {k : β → Tre α} {P : β → Prop} {Q : α → Prop} (h : ∃ x, o = some x ∧ P x) (hk : ∀ x, P x → Fine (k x) Q) : Fine (.mat o k) Q := by
 obtain ⟨x, rfl, hx⟩ := h
 exact hk x hx
theorem Fine.get {α β : Type} {o : Option β} {x : β} {k : β → Tre α} {Q : α → Prop} (h : o = some x) (hk : Fine (k x) Q) : Fine (.mat o k) Q := by
 subst h; exact hk
theorem Fine.at {α β : Type} {xs : List β} {i : Int} {k : β → Tre α} {Q : α → Prop} (hi : 0 ≤ i ∧ i < (xs.length : Int)) (hk : ∀ x, x ∈ xs → Fine (k x) Q) : Fine (.mat xs[i.toNat]? k) Q := by
 have hl : i.toNat < xs.length := by omega
 exact .get (List.getElem?_eq_getElem hl) (hk _ (List.getElem_mem hl))
theorem Fine.at0 {α β : Type} {xs : List β} {k : β → Tre α} {Q : α → Prop} (hi : 0 < xs.length) (hk : ∀ x, x ∈ xs → Fine (k x) Q) : Fine (.mat xs[0]? k) Q :=
 .get (List.getElem?_eq_getElem hi) (hk _ (List.getElem_mem hi))
theorem Fine.run {α : Type} {t : Tre α} {Q : α → Prop} (h : Fine t Q) : ∃ a, t.run some = some a ∧ Q a := h
abbrev Src := List Int × Int × Int × Unit
def srcOK (c : Nat) (s : Src) : Prop := s.1.length ≤ 3000 ∧ (∀ x ∈ s.1, 0 ≤ x ∧ x ≤ 255) ∧ 0 ≤ s.2.1 ∧ s.2.1 ≤ (c : Int)
theorem srcOK.mono {c c' : Nat} {s : Src} (h : srcOK c s) (hc : c ≤ c') : srcOK c' s := ⟨h.1, h.2.1, h.2.2.1, by have := h.2.2.2; omega⟩
theorem and255 (a : Int) : 0 ≤ iand .u64 a 255 ∧ iand .u64 a 255 ≤ 255 := by
 have h : (BitVec.ofInt 64 a &&& BitVec.ofInt 64 255).toNat ≤ 255 := by
  rw [BitVec.toNat_and]
  exact Nat.le_trans Nat.and_le_right (by decide)
 unfold iand
 show 0 ≤ iwrap .u64 (((BitVec.ofInt 64 a &&& BitVec.ofInt 64 255).toNat : Nat) : Int) ∧ iwrap .u64 (((BitVec.ofInt 64 a &&& BitVec.ofInt 64 255).toNat : Nat) : Int) ≤ 255
 rw [iwrap_u64 (by omega) (by omega)]
 omega
theorem next_ok {c : Nat} {s : Src} (h : srcOK c s) (hc : c ≤ 100000) : ∃ r, s_l00Src_next_6913_F s = some r ∧ ((0 ≤ r.1 ∧ r.1 ≤ 255) ∧ srcOK (c + 1) r.2) := by
 obtain ⟨h1, h2, h3, h4⟩ := h
 have hw : iwrap .i64 (s.2.1 + 1) = s.2.1 + 1 := iwrap_i64 (by omega) (by omega)
 have hsrc : ∀ v : Int, srcOK (c + 1) (s.1, iwrap .i64 (s.2.1 + 1), v, s.2.2.2) := fun v => ⟨h1, h2, by show 0 ≤ iwrap .i64 (s.2.1 + 1); omega, by show iwrap .i64 (s.2.1 + 1) ≤ ((c + 1 : Nat) : Int); omega⟩
 have hand : ∀ a : Int, 0 ≤ iwrap .i64 (iand .u64 a 255) ∧ iwrap .i64 (iand .u64 a 255) ≤ 255 := fun a => by
  have := and255 a
  rw [iwrap_i64 (by omega) (by omega)]; exact this
 unfold s_l00Src_next_6913_F s_l00Src_next_6913
 refine Fine.run (Fine.condp (fun hlt => Fine.ite ⟨h3, hlt⟩ fun hi => Fine.at hi fun x hx => ?_) (fun _ => ?_))
 ·have hb := h2 x hx
  have hx1 : iwrap .i64 x = x := iwrap_i64 (by omega) (by omega)
  exact Fine.condp (fun _ => .ret ⟨by rw [hx1]; exact hb, hsrc _⟩) (fun _ => .ret ⟨hand _, hsrc _⟩)
 ·exact Fine.condp (fun _ => .ret ⟨⟨Int.le_refl 0, by show (0 : Int) ≤ 255; omega⟩, hsrc _⟩) (fun _ => .ret ⟨hand _, hsrc _⟩)
theorem tmod_rng {x n : Int} (hx : 0 ≤ x) (hn : 0 < n) : 0 ≤ Int.tmod x n ∧ Int.tmod x n < n := ⟨Int.tmod_nonneg n hx, Int.tmod_lt_of_pos x hn⟩
theorem pick_ok {n : Int} {c : Nat} {s : Src} (h : srcOK c s) (hc : c ≤ 90000) : ∃ r, s_l00Src_pick_9f69_F n s = some r ∧ ((0 ≤ r.1 ∧ (r.1 = 0 ∨ r.1 < n)) ∧ srcOK (c + 2) r.2) := by
 unfold s_l00Src_pick_9f69_F s_l00Src_pick_9f69
 refine Fine.run (Fine.condp (fun _ => .ret ⟨⟨Int.le_refl _, .inl rfl⟩, h.mono (by omega)⟩) (fun hn => Fine.mat (next_ok h (by omega)) fun x hx => Fine.condp (fun _ => Fine.mat (next_ok hx.2 (by omega)) fun y hy => ?_) (fun _ => ?_)))
 ·refine Fine.ifn (by omega) (.ret ⟨?_, hy.2⟩)
  have h1 : iwrap .i64 (x.1 * 256) = x.1 * 256 := iwrap_i64 (by omega) (by omega)
  have h2 : iwrap .i64 (iwrap .i64 (x.1 * 256) + y.1) = x.1 * 256 + y.1 := by rw [h1]; exact iwrap_i64 (by omega) (by omega)
  show 0 ≤ Int.tmod (iwrap .i64 (iwrap .i64 (x.1 * 256) + y.1)) n ∧ (Int.tmod (iwrap .i64 (iwrap .i64 (x.1 * 256) + y.1)) n = 0 ∨ Int.tmod (iwrap .i64 (iwrap .i64 (x.1 * 256) + y.1)) n < n)
  rw [h2]
  have := tmod_rng (x := x.1 * 256 + y.1) (n := n) (by omega) (by omega)
  exact ⟨this.1, .inr this.2⟩
 ·refine Fine.ifn (by omega) (.ret ⟨?_, hx.2.mono (by omega)⟩)
  have := tmod_rng (x := x.1) (n := n) (by omega) (by omega)
  exact ⟨this.1, .inr this.2⟩
theorem one_ok {n : Int} {c : Nat} {s : Src} (h : srcOK c s) (hc : c ≤ 90000) : ∃ r, s_l00Src_one_9f69_F n s = some r ∧ srcOK (c + 2) r.2 := by
 unfold s_l00Src_one_9f69_F s_l00Src_one_9f69
 exact Fine.run (Fine.mat (pick_ok h hc) fun x hx => .ret hx.2)
theorem kind_ok {c : Nat} {s : Src} (h : srcOK c s) (hc : c ≤ 90000) : ∃ r, s_l00Src_among_e38a_F s [1, 1, 1, 1, 1, 2, 2, 2, 2, 2, 2, 3, 4, 5, 6, 7, 8, 1, 2, 2] = some r ∧ ((1 ≤ r.1 ∧ r.1 ≤ 8) ∧ srcOK (c + 2) r.2) := by
 unfold s_l00Src_among_e38a_F s_l00Src_among_e38a
 refine Fine.run (Fine.mat (pick_ok h hc) fun x hx => Fine.ite ⟨hx.1.1, ?_⟩ fun hi => Fine.at hi fun y hy => .ret ⟨?_, hx.2⟩)
 ·have h1 := hx.1.2
  simp only [List.length_cons, List.length_nil] at h1 ⊢
  omega
 ·have : ∀ y ∈ ([1, 1, 1, 1, 1, 2, 2, 2, 2, 2, 2, 3, 4, 5, 6, 7, 8, 1, 2, 2] : List Int), 1 ≤ y ∧ y ≤ 8 := by decide
  exact this y hy
theorem inP_of {m : Nat} (hm : m ≤ 6) {x : Int} (h0 : 0 ≤ x) (h : x = 0 ∨ x < ishl .i64 1 (iwrap .u64 (m : Int))) : inP (m : Int) x = true := by
 rw [iwrap_u64 (by omega) (by omega), show (1 : Int) = ((1 : Nat) : Int) from rfl, ishl_nat (by omega) (by have := pow_le (b := m) (c := 6) hm; omega)] at h
 unfold inP
 rw [top1_nat (by omega), inR_iff]
 have := Nat.two_pow_pos m
 rw [Nat.one_mul] at h
 omega
theorem draw_data {m b : Nat} (hm : m ≤ 4) (hb : b ≤ 6) (w : Int × Int × Unit) : ∀ (n i : Nat) {c : Nat} {s : Src} {l : List Int}, i + n = m → srcOK c s → c + 2 * n ≤ 90000 → l.length = i → l.all (inP (b : Int)) = true →
  ∃ r : Src × Int × Int × List Int × Int × Int × Unit, loopF s_l08Drawn_6913_l6 ((i : Int), s, (m : Int), (b : Int), l, w) = some r ∧ (r.2.1 = (m : Int) ∧ r.2.2.1 = (b : Int) ∧ r.2.2.2.1.length = m ∧ r.2.2.2.1.all (inP (b : Int)) = true ∧ r.2.2.2.2 = w) := by
 intro n
 induction n with
 | zero =>
  intro i c s l hi hs _ hl ha
  refine ⟨(s, (m : Int), (b : Int), l, w), loopF_done ?_, rfl, rfl, by show l.length = m; omega, ha, rfl⟩
  unfold s_l08Drawn_6913_l6
  rw [Tre.run_cond, decide_eq_false (by show ¬ (i : Int) < (m : Int); omega), cond_false, Tre.run_ret]
 | succ n ih =>
  intro i c s l hi hs hc hl ha
  obtain ⟨r, hr, ⟨hr0, hr1⟩, hr2⟩ := pick_ok (n := ishl .i64 1 (iwrap .u64 (b : Int))) hs (by omega)
  have hstep : (s_l08Drawn_6913_l6 ((i : Int), s, (m : Int), (b : Int), l, w)).run some = some (.inl (((i + 1 : Nat) : Int), r.2, (m : Int), (b : Int), l ++ [r.1], w)) := by
   unfold s_l08Drawn_6913_l6
   rw [Tre.run_cond, decide_eq_true (by show (i : Int) < (m : Int); omega), cond_true, Tre.run_ite, if_pos (iwrap_u64_nonneg _)]
   dsimp only
   rw [run_some_mat hr, Tre.run_ite, if_pos (by unfold appendMax; omega), Tre.run_ret, iwrap_succ (by omega)]
  rw [loopF_step hstep]
  exact ih (i + 1) (by omega) hr2 (by omega) (by simp; omega) (by rw [List.all_append, ha, List.all_cons, inP_of hb hr0 hr1]; rfl)
theorem gather_ok {code : List Int} (hl : code.length ≤ 3000) (hc : ∀ x ∈ code, 0 ≤ x ∧ x ≤ 255) : ∃ r, s_A2Gather_F code = some r ∧ isG (r.1, r.2.1, r.2.2.2, r.2.2.1) = true := by
 have h0 : srcOK 0 (code, 0, 0, ()) := ⟨hl, hc, Int.le_refl _, Int.le_refl _⟩
 unfold s_A2Gather_F s_A2Gather
 refine Fine.run (Fine.mat (P := fun r => isG (r.1, r.2.1, r.2.2.2.2, r.2.2.1) = true) ?_ fun r hr => .ret hr)
 unfold s_l08Drawn_6913_F s_l08Drawn_6913
 refine Fine.run (Fine.mat (pick_ok h0 (by omega)) fun a ha => Fine.mat (pick_ok ha.2 (by omega)) fun b hb => Fine.mat (pick_ok hb.2 (by omega)) fun c hc => Fine.mat (pick_ok hc.2 (by omega)) fun d hd => Fine.mat (one_ok hd.2 (by omega)) fun e he => ?_)
 have w1 : iwrap .i64 (1 + d.1) = 1 + d.1 := iwrap_i64 (by omega) (by omega)
 have w2 : iwrap .i64 (1 + a.1) = 1 + a.1 := iwrap_i64 (by omega) (by omega)
 have w3 : iwrap .i64 (1 + b.1) = 1 + b.1 := iwrap_i64 (by omega) (by omega)
 have fin : ∀ (m k : Nat), 1 ≤ m → m ≤ 4 → 1 ≤ k → k ≤ 6 → Fine (Tre.mat (loopF s_l08Drawn_6913_l6 (0, e.2, (m : Int), (k : Int), [], c.1, iwrap .i64 (1 + d.1), ())) fun l8 => (Tre.ret (l8.2.1, l8.2.2.1, l8.2.2.2.2, l8.1, l8.2.2.2.1))) (fun r => isG (r.1, r.2.1, r.2.2.2.2, r.2.2.1) = true) := by
  intro m k h1 h2 h3 h4
  refine Fine.mat (draw_data h2 h4 (c.1, iwrap .i64 (1 + d.1), ()) m 0 (by omega) he (by omega) rfl rfl) fun r hr => .ret ?_
  obtain ⟨e1, e2, e3, e4, e5⟩ := hr
  show isG (r.2.1, r.2.2.1, r.2.2.2.1, r.2.2.2.2) = true
  rw [e1, e2, e5, w1]
  unfold isG
  simp only [Bool.and_eq_true, inR_iff, decide_eq_true_eq, e4, and_true]
  omega
 refine Fine.cond (fun _ => fin 4 6 (by omega) (by omega) (by omega) (by omega)) (fun _ => ?_)
 have := fin (1 + a.1.toNat) (1 + b.1.toNat) (by omega) (by omega) (by omega) (by omega)
 rw [show ((1 + a.1.toNat : Nat) : Int) = iwrap .i64 (1 + a.1) from by omega, show ((1 + b.1.toNat : Nat) : Int) = iwrap .i64 (1 + b.1) from by omega] at this
 exact this
theorem wire_n {n : Nat} {r : Int} (hn : n ≤ 12) (h0 : 0 ≤ r) (h1 : r = 0 ∨ r < 12) : 0 ≤ iwrap .i64 ((n : Int) + iwrap .i64 (Int.tdiv r 11)) ∧ iwrap .i64 ((n : Int) + iwrap .i64 (Int.tdiv r 11)) ≤ 13 := by
 have h : 0 ≤ Int.tdiv r 11 ∧ Int.tdiv r 11 ≤ 1 := by
  rw [Int.tdiv_eq_ediv_of_nonneg h0]; omega
 rw [iwrap_i64 (n := Int.tdiv r 11) (by omega) (by omega), iwrap_i64 (by omega) (by omega)]
 omega
theorem shl_n {n : Nat} (hn : n ≤ 10) : 1 ≤ ishl .i64 1 (iwrap .u64 (n : Int)) ∧ ishl .i64 1 (iwrap .u64 (n : Int)) ≤ 1024 := by
 have h := pow_le (b := n) (c := 10) hn
 have h2 := Nat.two_pow_pos n
 rw [iwrap_u64 (by omega) (by omega), show (1 : Int) = ((1 : Nat) : Int) from rfl, ishl_nat (by omega) (by omega)]
 omega
theorem vDeed_of {k a b c : Int} (hk : 1 ≤ k ∧ k ≤ 8) (ha : 0 ≤ a ∧ a ≤ 9999) (hb : 0 ≤ b ∧ b ≤ 9999) (hc : 0 ≤ c ∧ c ≤ 9999) (h1 : k = 1 ∨ k = 5 ∨ b = 0) (h2 : k = 1 ∨ c = 0) : vDeed (k, a, b, c, ()) = true := by
 unfold vDeed
 simp only [Bool.and_eq_true, Bool.or_eq_true, inR_iff, decide_eq_true_eq]
 exact ⟨⟨⟨⟨⟨hk, ha⟩, hb⟩, hc⟩, by omega⟩, h2⟩
theorem max_n {n : Int} (h : 1 ≤ n ∧ n ≤ 100) : s_l00Max_S (iwrap .i64 (n - 1)) 1 ≤ 100 := by
 unfold s_l00Max_S
 rw [iwrap_i64 (by omega) (by omega)]
 cases decide (n - 1 > 1)
 ·rw [cond_false]; omega
 ·rw [cond_true]; omega
theorem wrap1 {r : Int} (h0 : 0 ≤ r) (h1 : r ≤ 1000) : iwrap .i64 (1 + r) = 1 + r := iwrap_i64 (by omega) (by omega)
theorem wrapm {r : Int} (h0 : 0 ≤ r) (h1 : r ≤ 10000) : iwrap .i64 (r - 1) = r - 1 := iwrap_i64 (by omega) (by omega)
theorem pickw_ok {n : Nat} {r : Int} {c : Nat} {s : Src} (hn : n ≤ 12) (h0 : 0 ≤ r) (h1 : r = 0 ∨ r < 12) (h : srcOK c s) (hc : c ≤ 90000) : ∃ x, s_l00Src_pick_9f69_F (iwrap .i64 ((n : Int) + iwrap .i64 (Int.tdiv r 11))) s = some x ∧ ((0 ≤ x.1 ∧ x.1 ≤ 13) ∧ srcOK (c + 2) x.2) := by
 obtain ⟨x, e, h2, h3⟩ := pick_ok (n := iwrap .i64 ((n : Int) + iwrap .i64 (Int.tdiv r 11))) h hc
 have := wire_n hn h0 h1
 exact ⟨x, e, by omega, h3⟩
theorem picks_ok {n : Nat} {c : Nat} {s : Src} (hn : n ≤ 10) (h : srcOK c s) (hc : c ≤ 90000) : ∃ x, s_l00Src_pick_9f69_F (ishl .i64 1 (iwrap .u64 (n : Int))) s = some x ∧ ((0 ≤ x.1 ∧ x.1 ≤ 1023) ∧ srcOK (c + 2) x.2) := by
 obtain ⟨x, e, h2, h3⟩ := pick_ok (n := ishl .i64 1 (iwrap .u64 (n : Int))) h hc
 have := shl_n hn
 exact ⟨x, e, by omega, h3⟩
theorem pickm_ok {n : Int} {c : Nat} {s : Src} (hn : 1 ≤ n ∧ n ≤ 100) (h : srcOK c s) (hc : c ≤ 90000) : ∃ x, s_l00Src_pick_9f69_F (s_l00Max_S (iwrap .i64 (n - 1)) 1) s = some x ∧ ((0 ≤ x.1 ∧ x.1 ≤ 100) ∧ srcOK (c + 2) x.2) := by
 obtain ⟨x, e, h2, h3⟩ := pick_ok (n := s_l00Max_S (iwrap .i64 (n - 1)) 1) h hc
 have := max_n hn
 exact ⟨x, e, by omega, h3⟩
def Drawn (g : G8) (clean : Bool) (c : Nat) (k : Int) (l : List D8) (p : P8) (o : (Int × Src × List D8 × (P8 × Unit)) ⊕ (Src × List D8)) : Prop :=
 ∃ s' d, o = .inl (iwrap .i64 (k - 1), s', l ++ [d], ((doM g d p).2, ())) ∧ srcOK (c + 30) s' ∧ vDeed d = true ∧ (clean = true → d.1 ≠ 5)
theorem deeds_leaf {g : G8} {clean : Bool} {c c' : Nat} {k : Int} {s' : Src} {l : List D8} {p : P8} {m : Nat} (hg : isG g = true) (hl : l.length ≤ 1000) (hm : m ≤ 1000) (hp : okP m g p = true) {kk a b e : Int}
  (hs : srcOK c' s') (hc : c' ≤ c + 30) (hk : 1 ≤ kk ∧ kk ≤ 8) (ha : 0 ≤ a ∧ a ≤ 9999) (hb : 0 ≤ b ∧ b ≤ 9999) (he : 0 ≤ e ∧ e ≤ 9999) (h1 : kk = 1 ∨ kk = 5 ∨ b = 0) (h2 : kk = 1 ∨ e = 0) (h5 : clean = true → kk ≠ 5) :
  Fine (.ite ((l.length + 1) * 32 ≤ appendMax ∧ 1 ≤ 32) <| .mat (doR (kk, (a, (b, (e, ())))) (p, ()) g) fun r => .ret (.inl (iwrap .i64 (k - 1), s', l ++ [(kk, (a, (b, (e, ()))))], r.2))) (Drawn g clean c k l p) := by
 have hd := vDeed_of hk ha hb he h1 h2
 refine Fine.ite (by unfold appendMax; omega) fun _ => Fine.get (show doR (kk, a, b, e, ()) (p, ()) g = some _ from askO_true (by rw [Bool.and_eq_true, Bool.and_eq_true]; exact ⟨⟨hg, hd⟩, okP_mono hp hm⟩)) (.ret ?_)
 exact ⟨s', (kk, a, b, e, ()), rfl, hs.mono hc, hd, h5⟩
set_option maxHeartbeats 4000000 in
theorem deeds_step {g : G8} {clean : Bool} {count : Int} (hg : isG g = true) (hcount : count = statG g) {c : Nat} {k : Int} {s : Src} {l : List D8} {p : P8} (hk : 0 < k) (hs : srcOK c s) (hc : c ≤ 50000) (hl : l.length ≤ 1000) {m : Nat} (hm : m ≤ 1000) (hp : okP m g p = true) (hlen : lenP p) :
  Fine (s_l08Deeds_ad92_l5 clean count g (k, s, l, (p, ()))) (Drawn g clean c k l p) := by
 have hb := isG_spec hg
 have hst : statG g = 1 + g.2.2.2.1 + g.2.2.2.2.1 := rfl
 obtain ⟨q1, _, q3, _⟩ := okP_spec hp
 have hcols := (colsG_le hg).1
 have hcount2 : 1 ≤ count ∧ count ≤ 100 := by omega
 have hlen2 : ∀ s ∈ p.1, s.1.length ≤ 10 ∧ s.2.1.length ≤ 10 := hlen
 unfold s_l08Deeds_ad92_l5
 rw [cols_S hg]
 dsimp only
 refine Fine.condp (fun _ => Fine.mat (kind_ok hs (by omega)) fun r5 hr5 => ?_) (fun h => absurd hk h)
 obtain ⟨hr5, hs5⟩ := hr5
 cases clean
 all_goals
  repeat' first
   | with_reducible refine Fine.condp (fun _ => ?_) (fun _ => ?_)
   | (with_reducible refine Fine.mat (pickw_ok q3 (by omega) (by omega) (by assumption) (by omega)) (fun r hr => ?_); obtain ⟨hr1, hr2⟩ := hr)
   | (with_reducible refine Fine.mat (picks_ok (by omega) (by assumption) (by omega)) (fun r hr => ?_); obtain ⟨hr1, hr2⟩ := hr)
   | (with_reducible refine Fine.mat (pickm_ok hcount2 (by assumption) (by omega)) (fun r hr => ?_); obtain ⟨hr1, hr2⟩ := hr)
   | (with_reducible refine Fine.mat (one_ok (by assumption) (by omega)) (fun r hr => ?_))
   | (with_reducible refine Fine.mat (pick_ok (by assumption) (by omega)) (fun r hr => ?_); obtain ⟨hr1, hr2⟩ := hr)
   | (with_reducible refine Fine.at ⟨by omega, by omega⟩ (fun x hx => ?_); have hx1 := (hlen2 x hx).1; have hx2 := shl_n hx1)
   | (with_reducible refine Fine.at0 (by omega) (fun x hx => ?_); have hx1 := (hlen2 x hx).1; have hx2 := shl_n hx1)
   | (with_reducible refine Fine.ite (iwrap_u64_nonneg _) (fun _ => ?_))
   | with_reducible refine deeds_leaf hg hl hm hp (by assumption) (by omega) (by omega) (by omega) (by first | omega | (rw [wrap1 (by omega) (by omega)]; omega)) (by first | omega | (rw [wrapm (by omega) (by omega)]; omega)) (by omega) (by omega) (by first | (intro _; omega) | (intro h; cases h))
   | (with_reducible refine Fine.ite ⟨by omega, by omega⟩ (fun _ => ?_))
   | ((with_reducible refine Fine.cond (fun h => ?_) (fun h => ?_)) <;> (try exact Bool.noConfusion h))
   | (exfalso; omega)
theorem deeds_loop {g : G8} {clean : Bool} (hg : isG g = true) : ∀ (n : Nat) {c : Nat} {s : Src} {l : List D8} {p : P8} {m : Nat}, srcOK c s → c + 30 * n ≤ 50000 → l.length + n ≤ 1000 → m + n ≤ 1000 → okP m g p = true → lenP p → l.all vDeed = true → (clean = true → ∀ d ∈ l, d.1 ≠ 5) →
  ∃ r : Src × List D8, loopF (s_l08Deeds_ad92_l5 clean (statG g) g) ((n : Int), s, l, (p, ())) = some r ∧ (r.2.all vDeed = true ∧ r.2.length = l.length + n ∧ (clean = true → ∀ d ∈ r.2, d.1 ≠ 5)) := by
 intro n
 induction n with
 | zero =>
  intro c s l p m hs _ _ _ hp hq hl hk
  refine ⟨(s, l), loopF_done ?_, hl, rfl, hk⟩
  unfold s_l08Deeds_ad92_l5
  rw [Tre.run_cond, decide_eq_false (by show ¬ ((0 : Nat) : Int) > 0; omega), cond_false, Tre.run_ret]
 | succ n ih =>
  intro c s l p m hs hc hl hm hp hq hv hk
  obtain ⟨o, ho, s', d, rfl, h1, h2, h3⟩ := deeds_step (clean := clean) (k := ((n + 1 : Nat) : Int)) (l := l) hg rfl (by omega) hs (by omega) (by omega) (by omega) hp hq
  rw [wrapm (by omega) (by omega), show ((n + 1 : Nat) : Int) - 1 = (n : Int) by omega] at ho
  rw [loopF_step ho]
  obtain ⟨r, e, r1, r2, r3⟩ := ih (l := l ++ [d]) h1 (by omega) (by simp; omega) (by omega) (doM_ok hg h2 hp) (do_len hg (by omega) hp hq) (by rw [List.all_append, hv, List.all_cons, h2]; rfl) (fun hc x hx => by
   rcases List.mem_append.1 hx with hx | hx
   ·exact hk hc x hx
   ·simp only [List.mem_singleton] at hx; subst hx; exact h3 hc)
  exact ⟨r, e, r1, by rw [r2]; simp; omega, r3⟩
theorem deeds_ok {g : G8} (hg : isG g = true) (clean : Bool) {more : List Int} (hl : more.length ≤ 3000) (hc : ∀ x ∈ more, 0 ≤ x ∧ x ≤ 255) : ∃ r, s_A2Deeds_F more g clean = some r ∧ (r.all vDeed = true ∧ r.length ≤ 30 ∧ (clean = true → ∀ d ∈ r, d.1 ≠ 5)) := by
 have h0 : srcOK 0 (more, 0, 0, ()) := ⟨hl, hc, Int.le_refl _, Int.le_refl _⟩
 have hb := isG_spec hg
 have hst : statG g = 1 + g.2.2.2.1 + g.2.2.2.2.1 := rfl
 have w1 : iwrap .i64 (1 + g.2.2.2.1) = 1 + g.2.2.2.1 := iwrap_i64 (by omega) (by omega)
 have w2 : iwrap .i64 (iwrap .i64 (1 + g.2.2.2.1) + g.2.2.2.2.1) = statG g := by rw [w1, hst]; exact iwrap_i64 (by omega) (by omega)
 unfold s_A2Deeds_F s_A2Deeds
 refine Fine.run (Fine.mat (P := fun r => r.2.all vDeed = true ∧ r.2.length ≤ 30 ∧ (clean = true → ∀ d ∈ r.2, d.1 ≠ 5)) ?_ fun r hr => .ret hr)
 unfold s_l08Deeds_ad92_F s_l08Deeds_ad92
 refine Fine.run (Fine.get (show beginR g = some (beginM g, ()) from askO_true hg) ?_)
 dsimp only
 rw [w2]
 refine Fine.mat (pick_ok (n := iwrap .i64 (30 + 1)) h0 (by omega)) fun r hr => ?_
 obtain ⟨⟨hr0, hr1⟩, hr2⟩ := hr
 have w3 : iwrap .i64 (30 + 1) = 31 := by decide
 rw [w3] at hr1
 obtain ⟨n, hn⟩ := Int.eq_ofNat_of_zero_le hr0
 rw [hn]
 refine Fine.mat (deeds_loop (clean := clean) hg n hr2 (by omega) (by simp; omega) (by omega) (beginM_ok hg) (begin_len hg) rfl (fun _ d hd => by cases hd)) fun x hx => .ret ?_
 refine ⟨hx.1, ?_, hx.2.2⟩
 rw [hx.2.1]; simp; omega
theorem bytes_of {xs : List Int} (h : (K.sl (.int .u8)).wf xs) : ∀ x ∈ xs, 0 ≤ x ∧ x ≤ 255 := fun x hx => by
 have h1 : (Lit.int .u8 x).wf = true := h.2 x hx
 simp [Lit.wf, IntKind.min, IntKind.max, IntKind.signed, IntKind.bits] at h1
 omega
theorem long_no {a b : List Int} (h : l_a2Long_S a b = false) : a.length ≤ 3000 ∧ b.length ≤ 3000 := by
 unfold l_a2Long_S at h
 by_cases h1 : (a.length : Int) > 3000
 ·rw [decide_eq_true h1] at h; cases h
 ·rw [decide_eq_false h1, cond_false] at h
  have := of_decide_eq_false h
  omega
end Go.Proofs.Ytddaclhjnkimfaa

namespace Go.Proofs.Ytddaclhjnkimfaa
open Go Go.Abs Go.Proofs
-- shared
theorem at_ok {code : List Int} (hc : ∀ x ∈ code, 0 ≤ x ∧ x ≤ 255) {i n : Int} (hi : 0 ≤ i) : ∃ r, l_a2At_F code i n = some r ∧ (0 ≤ r ∧ (r = 0 ∨ r < n)) := by
 unfold l_a2At_F l_a2At
 refine Fine.run (Fine.condp (fun _ => .ret ⟨Int.le_refl _, .inl rfl⟩) fun h1 => Fine.condp (fun _ => .ret ⟨Int.le_refl _, .inl rfl⟩) fun h2 => Fine.ite ⟨hi, by omega⟩ fun h3 => Fine.at h3 fun x hx => Fine.ifn (by omega) (.ret ?_))
 have hb := hc x hx
 rw [iwrap_i64 (n := x) (by omega) (by omega)]
 have := tmod_rng (x := x) (n := n) (by omega) (by omega)
 exact ⟨this.1, .inr this.2⟩
end Go.Proofs.Ytddaclhjnkimfaa

namespace Go.Proofs.Ytddaclhjnkimfaa
open Go Go.Abs Go.Proofs
end Go.Proofs.Ytddaclhjnkimfaa

namespace Go.Proofs.Ytddaclhjnkimfaa
open Go Go.Abs Go.Proofs
-- shared
theorem asked_zero {g : G8} {ds : List D8} (hg : isG g = true) (hd : ds.all vDeed = true) (hl : ds.length ≤ 300) : askedM ds g = 0 := by
 unfold askedM
 rw [hg, hd, decide_eq_false (by omega)]
 rfl
theorem plant_of {g : G8} {ds : List D8} (hg : isG g = true) (hd : ds.all vDeed = true) (hl : ds.length ≤ 300) : plantR g ds = some ((zerosN (runM g ds (beginM g)).2 : Int), 0, (afterM g ds).1, (afterM g ds).2.1) := by
 have hb := isG_spec hg
 have : plantR g ds = some (plantM g ds) := askO_true (by rw [Bool.and_eq_true, decide_eq_true_eq, decide_eq_true_eq]; omega)
 rw [this]
 unfold plantM
 rw [decide_eq_true (asked_zero hg hd hl)]
 rfl
end Go.Proofs.Ytddaclhjnkimfaa

namespace Go.Proofs.Ytddaclhjnkimfaa
open Go Go.Abs Go.Proofs
-- shared
def srcN (g : G8) : List Nat := (srcL g).map Int.toNat
def datN (g : G8) : List Nat := g.2.2.1.map Int.toNat
structure SrcOK (g : G8) (N L : Nat) : Prop where
 n : g.1 = (N : Int)
 l : g.2.1 = (L : Int)
 n1 : 1 ≤ N ∧ N ≤ 4
 l1 : 1 ≤ L ∧ L ≤ 6
 src : srcL g = up (srcN g)
 dat : g.2.2.1 = up (datN g)
 heads : Heads N (srcN g)
 tails : (srcN g).map (· >>> N) = datN g
 small : ∀ x ∈ datN g, x < 2 ^ L
 big : ∀ x ∈ srcN g, x < 2 ^ (N + L)
theorem srcL_at (g : G8) (j : Nat) : (srcL g)[j]? = (g.2.2.1[j]?).map fun x => ior .i64 (ishl .i64 1 (j : Int)) (ishl .i64 x g.1) := by
 have key : ∀ (l : List Int) (i : Nat) (acc : List Int), ∃ t : List Int, foldE (β := List Int) (fun (i : Nat) acc x => .inl (acc ++ [ior .i64 (ishl .i64 1 (i : Int)) (ishl .i64 x g.1)])) id i acc l = acc ++ t ∧ ∀ j : Nat, t[j]? = (l[j]?).map fun x => ior .i64 (ishl .i64 1 ((i + j : Nat) : Int)) (ishl .i64 x g.1) := by
  intro l
  induction l with
  | nil => intro i acc; exact ⟨[], by simp [foldE], fun j => by simp⟩
  | cons x l ih =>
   intro i acc
   obtain ⟨t, h1, h2⟩ := ih (i + 1) (acc ++ [ior .i64 (ishl .i64 1 (i : Int)) (ishl .i64 x g.1)])
   refine ⟨ior .i64 (ishl .i64 1 (i : Int)) (ishl .i64 x g.1) :: t, by simp only [foldE]; rw [h1]; simp, fun j => ?_⟩
   cases j with
   | zero => simp
   | succ j => rw [List.getElem?_cons_succ, List.getElem?_cons_succ, h2 j, show i + 1 + j = i + (j + 1) by omega]
 obtain ⟨t, h1, h2⟩ := key g.2.2.1 0 []
 have h3 : srcL g = [] ++ t := h1
 rw [h3, List.nil_append, h2 j, Nat.zero_add]
theorem up_of {xs : List Int} (h : ∀ x ∈ xs, 0 ≤ x) : xs = up (xs.map Int.toNat) := by
 unfold up
 rw [List.map_map]
 refine ((List.map_congr_left fun x hx => ?_).trans (List.map_id _)).symm
 have := h x hx
 simp only [Function.comp_apply, id_eq]
 omega
theorem row_num {N L i n : Nat} (hi : i < N) (hn : n < 2 ^ L) (hN : N ≤ 4) (hL : L ≤ 6) : ior .i64 (ishl .i64 1 (i : Int)) (ishl .i64 (n : Int) (N : Int)) = ((2 ^ i ||| n * 2 ^ N : Nat) : Int) ∧ (2 ^ i ||| n * 2 ^ N) &&& (2 ^ N - 1) = 2 ^ i ∧ (2 ^ i ||| n * 2 ^ N) >>> N = n ∧ 2 ^ i ||| n * 2 ^ N < 2 ^ (N + L) := by
 have p1 := pow_le (b := i) (c := 4) (by omega)
 have p3 : 2 ^ (N + L) ≤ 2 ^ 10 := pow_le (by omega)
 have p4 : n * 2 ^ N < 2 ^ (N + L) := by
  rw [Nat.pow_add, Nat.mul_comm (2 ^ N)]
  exact Nat.mul_lt_mul_of_pos_right hn (Nat.two_pow_pos N)
 have p5 : 2 ^ i < 2 ^ (N + L) := Nat.pow_lt_pow_right (by decide) (by omega)
 have e1 : ishl .i64 1 (i : Int) = ((1 * 2 ^ i : Nat) : Int) := ishl_nat (a := 1) (by omega) (by omega)
 have e2 : ishl .i64 (n : Int) (N : Int) = ((n * 2 ^ N : Nat) : Int) := ishl_nat (by omega) (by omega)
 refine ⟨?_, ?_, ?_, Nat.or_lt_two_pow p5 p4⟩
 ·rw [e1, e2, ior_nat (by omega) (by omega), Nat.one_mul]
 ·refine Nat.eq_of_testBit_eq fun q => ?_
  rw [Nat.testBit_and, Nat.testBit_or, Nat.testBit_two_pow_sub_one, Nat.testBit_two_pow, Nat.testBit_mul_two_pow]
  by_cases hq : q < N
  ·simp [hq, Nat.not_le.2 hq]
  ·simp [hq]; omega
 ·refine Nat.eq_of_testBit_eq fun q => ?_
  rw [Nat.testBit_shiftRight, Nat.testBit_or, Nat.testBit_two_pow, Nat.testBit_mul_two_pow]
  simp
  omega
theorem src_ok {g : G8} (hg : isG g = true) : ∃ N L : Nat, SrcOK g N L := by
 have hb := isG_spec hg
 obtain ⟨N, hN⟩ := Int.eq_ofNat_of_zero_le (show 0 ≤ g.1 by omega)
 obtain ⟨L, hL⟩ := Int.eq_ofNat_of_zero_le (show 0 ≤ g.2.1 by omega)
 have hall : ∀ x ∈ g.2.2.1, ∃ n : Nat, x = (n : Int) ∧ n < 2 ^ L := fun x hx => by
  unfold isG at hg
  simp only [Bool.and_eq_true] at hg
  have := List.all_eq_true.1 hg.1.1.2 x hx
  rw [hL] at this
  exact inP_nat (by omega) this
 have hat : ∀ (i : Nat) (y : Int), (srcL g)[i]? = some y → ∃ n : Nat, g.2.2.1[i]? = some (n : Int) ∧ i < N ∧ n < 2 ^ L ∧ y = ((2 ^ i ||| n * 2 ^ N : Nat) : Int) := fun i y hy => by
  rw [srcL_at] at hy
  cases hx : g.2.2.1[i]? with
  | none => rw [hx] at hy; cases hy
  | some x =>
   rw [hx, Option.map_some, Option.some.injEq] at hy
   obtain ⟨n, rfl, hn⟩ := hall x (List.mem_of_getElem? hx)
   have hi := (List.getElem?_eq_some_iff.1 hx).1
   have hiN : i < N := by omega
   exact ⟨n, rfl, hiN, hn, by rw [← hy, hN]; exact (row_num hiN hn (by omega) (by omega)).1⟩
 have hsrc : srcL g = up (srcN g) := up_of fun y hy => by
  obtain ⟨i, hi⟩ := List.getElem?_of_mem hy
  obtain ⟨n, _, _, _, rfl⟩ := hat i y hi
  exact Int.natCast_nonneg _
 have hdat : g.2.2.1 = up (datN g) := up_of fun y hy => by
  obtain ⟨n, rfl, _⟩ := hall y hy
  exact Int.natCast_nonneg _
 have hatN : ∀ (i y : Nat), (srcN g)[i]? = some y → ∃ n : Nat, g.2.2.1[i]? = some (n : Int) ∧ i < N ∧ n < 2 ^ L ∧ y = 2 ^ i ||| n * 2 ^ N := fun i y hy => by
  have h1 : (srcL g)[i]? = some (y : Int) := by rw [hsrc]; exact up_at hy
  obtain ⟨n, a, b, c, d⟩ := hat i y h1
  exact ⟨n, a, b, c, by omega⟩
 have hlen : (srcN g).length = N := by unfold srcN; rw [List.length_map, srcL_len]; omega
 refine ⟨N, L, hN, hL, by omega, by omega, hsrc, hdat, ⟨hlen, fun i x hx => ?_⟩, ?_, ?_, ?_⟩
 ·obtain ⟨n, _, hi, hn, rfl⟩ := hatN i x hx
  exact (row_num hi hn (by omega) (by omega)).2.1
 ·refine List.ext_getElem? fun i => ?_
  rw [List.getElem?_map]
  unfold datN
  rw [List.getElem?_map]
  cases hx : (srcN g)[i]? with
  | none =>
   have h1 := List.getElem?_eq_none_iff.1 hx
   rw [List.getElem?_eq_none_iff.2 (show g.2.2.1.length ≤ i by omega)]
   rfl
  | some x =>
   obtain ⟨n, ha, hi, hn, rfl⟩ := hatN i x hx
   rw [ha, Option.map_some, Option.map_some, (row_num hi hn (by omega) (by omega)).2.2.1, Int.toNat_natCast]
 ·intro x hx
  obtain ⟨y, hy, rfl⟩ := List.mem_map.1 hx
  obtain ⟨n, rfl, hn⟩ := hall y hy
  exact hn
 ·intro x hx
  obtain ⟨i, hix⟩ := List.getElem?_of_mem hx
  obtain ⟨n, _, hi, hn, rfl⟩ := hatN i x hix
  exact (row_num hi hn (by omega) (by omega)).2.2.2
def inS (g : G8) (x : Int) : Prop := ∃ n : Nat, x = (n : Int) ∧ Sp (srcN g) n
def MixS (g : G8) (xs : List Int) : Prop := (∀ x ∈ xs, inS g x) ∧ (echI xs).length = xs.length
def MixP (g : G8) (p : P8) : Prop := (∀ s ∈ p.1, MixS g s.1 ∧ MixS g s.2.1) ∧ ∀ x ∈ p.2.1, inS g x.2.1
theorem mix_nil (g : G8) : MixS g [] := ⟨fun x hx => (by cases hx), by
 unfold echI
 rw [up_len, List.map_nil, ech_of (ech_zeros (rows := []) fun r hr => by cases hr)]
 rfl⟩
theorem begin_mix {g : G8} {N L : Nat} (hS : SrcOK g N L) : MixP g (beginM g) := by
 have hsrc : MixS g (srcL g) := ⟨fun x hx => by
  rw [hS.src] at hx
  obtain ⟨n, hn, rfl⟩ := List.mem_map.1 hx
  exact ⟨n, rfl, .mem hn⟩, by
  unfold echI
  rw [up_len, show (srcL g).map Int.toNat = srcN g from rfl, ech_of hS.heads.ech]
  unfold srcN
  rw [List.length_map]⟩
 refine ⟨fun s hs => ?_, fun x hx => by cases hx⟩
 unfold beginM at hs
 rcases List.mem_cons.1 hs with rfl | hs
 ·exact ⟨hsrc, hsrc⟩
 ·rw [(List.mem_replicate.1 hs).2]; exact ⟨mix_nil g, mix_nil g⟩
theorem heads_map {g : G8} {N : Nat} {ns : List Nat} (hN : g.1 = (N : Int)) (hn4 : N ≤ 4) (hb : ∀ n ∈ ns, n < 2 ^ 62) : ((up ns).map (headW g)).map Int.toNat = ns.map (· &&& (2 ^ N - 1)) := by
 unfold up
 rw [List.map_map, List.map_map]
 refine List.map_congr_left fun n hn => ?_
 have h1 := hb n hn
 have h2 : 2 ^ N ≤ 2 ^ 62 := pow_le (by omega)
 simp only [Function.comp_apply]
 unfold headW
 rw [hN, top1_nat (by omega), iand_nat (by omega) (by omega), Int.toNat_natCast]
end Go.Proofs.Ytddaclhjnkimfaa

namespace Go.Proofs.Ytddaclhjnkimfaa
open Go Go.Abs Go.Proofs
-- shared
def indP (p : P8) : Prop := ∀ s ∈ p.1, (echI s.1).length = s.1.length ∧ (echI s.2.1).length = s.2.1.length
theorem ind_nil : (echI []).length = ([] : List Int).length := (mix_nil (0, 0, [], 0, 0, ())).2
theorem begin_ind {g : G8} {N L : Nat} (hS : SrcOK g N L) : indP (beginM g) := fun s hs => ⟨((begin_mix hS).1 s hs).1.2, ((begin_mix hS).1 s hs).2.2⟩
theorem indP_set {st : List (List Int × List Int × Unit)} {w : List (Int × Int × Unit) × Unit} {i : Nat} {x : List Int × List Int × Unit} (h : indP (st, w)) (h1 : (echI x.1).length = x.1.length) (h2 : (echI x.2.1).length = x.2.1.length) : indP (st.set i x, w) := fun s hs => by
 rcases List.mem_or_eq_of_mem_set hs with hs | rfl
 ·exact h s hs
 ·exact ⟨h1, h2⟩
theorem come_ind {p : P8} {x : Int × Int × Unit} {w : List (Int × Int × Unit) × Unit} (h : indP p) : indP (comeM x p.1, w) := by
 unfold comeM
 cases hs : p.1[x.1.toNat]? with
 | none => exact h
 | some s =>
  simp only
  have hm := List.mem_of_getElem? hs
  by_cases he : ((echI (s.1 ++ [x.2.1])).length : Int) = ((s.1 ++ [x.2.1]).length : Int)
  ·have he2 : (echI (s.1 ++ [x.2.1])).length = (s.1 ++ [x.2.1]).length := by omega
   rw [decide_eq_true he, cond_true]
   exact indP_set (w := w) h he2 (h s hm).2
  ·rw [decide_eq_false he]; exact h
theorem do_ind {g : G8} {d : D8} {p : P8} (h : indP p) : indP (doM g d p).2 := by
 unfold doM
 cases decide (d.1 = 1)
 case true =>
  rw [cond_true]
  unfold sendM
  cases (decide (d.2.1 ≥ (p.1.length : Int)) || (decide (d.2.2.1 ≥ (p.1.length : Int)) || (decide (d.2.1 = d.2.2.1) || decide (d.2.2.1 = 0))))
  case true => exact h
  rw [cond_false]
  cases p.1[d.2.1.toNat]? with
  | none => exact h
  | some s =>
   simp only
   cases decide (d.2.2.2.1 ≥ ishl .i64 1 (s.1.length : Int))
   case true => exact h
   cases decide (d.2.2.2.1 = 0)
   case true => exact h
   cases decide ((p.2.1.length : Int) = 12)
   case true => exact h
   exact h
 rw [cond_false]
 cases inR d.1 2 5
 case true =>
  rw [cond_true]
  unfold wireM
  cases decide (d.2.1 ≥ (p.2.1.length : Int))
  case true => exact h
  rw [cond_false]
  cases hx : p.2.1[d.2.1.toNat]? with
  | none => exact h
  | some x =>
   simp only
   cases decide (d.1 = 5)
   case true =>
    rw [cond_true]
    cases (decide (d.2.2.1 = 0) || decide (d.2.2.1 ≥ ishl .i64 1 (colsG g : Int)))
    ·exact h
    ·exact h
   rw [cond_false]
   cases decide (d.1 = 4)
   ·exact come_ind h
   ·exact h
 rw [cond_false]
 cases decide (d.2.1 ≥ (p.1.length : Int))
 case true => exact h
 rw [cond_false]
 cases hs : p.1[d.2.1.toNat]? with
 | none => exact h
 | some s =>
  simp only
  have hm := h s (List.mem_of_getElem? hs)
  cases decide (d.1 = 6)
  ·cases decide (d.1 = 7)
   ·exact indP_set (w := p.2) h ind_nil hm.2
   ·exact indP_set (w := p.2) h hm.2 hm.2
  ·exact indP_set (w := p.2) h hm.1 hm.1
theorem run_ind {g : G8} : ∀ (l : List D8) {p : P8}, indP p → indP (runM g l p).1 := by
 intro l
 induction l with
 | nil => intro p h; exact h
 | cons d l ih => intro p h; exact ih (do_ind h)
end Go.Proofs.Ytddaclhjnkimfaa

namespace Go.Proofs.Ytddaclhjnkimfaa
open Go Go.Abs Go.Proofs
-- shared
def missF (N : Nat) (dn : List Nat) (n : Nat) : Nat := (n >>> N) ^^^ selN (n &&& (2 ^ N - 1)) 0 dn
theorem missF_zero (N : Nat) (dn : List Nat) : missF N dn 0 = 0 := by unfold missF; rw [Nat.zero_shiftRight, Nat.zero_and, selN_zero]; rfl
theorem missF_xor (N : Nat) (dn : List Nat) (a b : Nat) : missF N dn (a ^^^ b) = missF N dn a ^^^ missF N dn b := by
 unfold missF
 rw [Nat.shiftRight_xor_distrib, Nat.and_xor_distrib_right, selN_xor, Nat.xor_assoc, Nat.xor_assoc]
 congr 1
 rw [← Nat.xor_assoc, Nat.xor_comm (b >>> N), Nat.xor_assoc]
theorem missW_nat {g : G8} {N L n : Nat} {dn : List Nat} (hN : g.1 = (N : Int)) (hN4 : N ≤ 4) (hL : L ≤ 6) (hd : ∀ y ∈ dn, y < 2 ^ L) (hdl : dn.length ≤ 64) (hn : n < 2 ^ 10) : missW g (up dn) (n : Int) = ((missF N dn n : Nat) : Int) := by
 have h2N := pow_le (b := N) (c := 4) hN4
 have h2L := pow_le (b := L) (c := 6) hL
 have hand : n &&& (2 ^ N - 1) < 2 ^ N := Nat.and_lt_two_pow _ (by have := Nat.two_pow_pos N; omega)
 have hsr : n >>> N < 2 ^ 63 := Nat.lt_of_le_of_lt (Nat.shiftRight_le _ _) (by omega)
 obtain ⟨t, ht, htb⟩ := timesL_nat ((n &&& (2 ^ N - 1) : Nat) : Int) (b := L) (by omega) dn 0 0 (Nat.two_pow_pos L) hd
 have ht : timesL ((n &&& (2 ^ N - 1) : Nat) : Int) (up dn) = (t : Int) := ht
 have hsel := timesL_eq (a := n &&& (2 ^ N - 1)) (b := L) (ns := dn) (by omega) (by omega) hdl hd
 have hts : t = selN (n &&& (2 ^ N - 1)) 0 dn := by rw [ht] at hsel; exact Int.ofNat.inj hsel
 unfold missW missF
 rw [hN, top1_nat (by omega), iand_nat (by omega) (by omega), ht, ishr_nat (by omega), ixor_nat hsr (by omega), hts]
theorem miss_map {g : G8} {N L : Nat} {dn ns : List Nat} (hN : g.1 = (N : Int)) (hN4 : N ≤ 4) (hL : L ≤ 6) (hd : ∀ y ∈ dn, y < 2 ^ L) (hdl : dn.length ≤ 64) (hn : ∀ n ∈ ns, n < 2 ^ 10) :
  ((up ns).map (missW g (up dn))).map Int.toNat = ns.map (missF N dn) := by
 unfold up
 rw [List.map_map, List.map_map]
 refine List.map_congr_left fun n hm => ?_
 simp only [Function.comp_apply]
 have := missW_nat hN hN4 hL hd hdl (hn n hm)
 unfold up at this
 rw [this, Int.toNat_natCast]
theorem data_nat {g : G8} {d : List Int} (h : isData g d) : ∃ dn : List Nat, d = up dn ∧ dn.length = g.1.toNat ∧ ∀ y ∈ dn, y < 2 ^ g.2.1.toNat := by
 refine ⟨d.map Int.toNat, ?_, by rw [List.length_map]; exact h.1, fun y hy => ?_⟩
 ·exact up_of fun x hx => by obtain ⟨k, rfl, _⟩ := h.2 x hx; omega
 ·obtain ⟨x, hx, rfl⟩ := List.mem_map.1 hy
  obtain ⟨k, rfl, hk⟩ := h.2 x hx
  exact hk
theorem spoilt_miss {k : Nat} {g : G8} {xs d : List Int} (hg : isG g = true) (hk : okS k (colsG g) xs = true) (hk2 : k ≤ 1000) (hd : isData g d) (hi : (echI xs).length = xs.length) : (xs.length : Int) - rankM g xs ≤ missN xs d g := by
 have hcols := colsG_le hg
 have hb := isG_spec hg
 obtain ⟨N, hN⟩ := Int.eq_ofNat_of_zero_le (show 0 ≤ g.1 by omega)
 obtain ⟨L, hL⟩ := Int.eq_ofNat_of_zero_le (show 0 ≤ g.2.1 by omega)
 have hr : okRows 62 xs = true := okS_rows hk (by omega) (by omega)
 have hok := data_okM hg hk hk2 hd
 have hm := (missW_ok hok).2
 have hh := (heads_ok (g := g) (by omega) hr).2
 have h1 := ech_is (Nat.le_refl 62) hr
 have h2 := ech_is (Nat.le_refl 62) hh
 have h3 := ech_is (Nat.le_refl 62) hm
 obtain ⟨dn, rfl, hdl, hdb⟩ := data_nat hd
 obtain ⟨ns, rfl, _, hns, he⟩ := okRows_up hr
 have hn10 : ∀ n ∈ ns, n < 2 ^ 10 := fun n hn => by
  obtain ⟨m, e, hm⟩ := okRow_nat.1 ((okS_spec.1 hk).2 (n : Int) (List.mem_map.2 ⟨n, hn, rfl⟩))
  have := pow_le hcols.1
  omega
 rw [hN, Int.toNat_natCast] at hdl
 rw [hL, Int.toNat_natCast] at hdb
 have hmm := miss_map (g := g) (ns := ns) hN (by omega) (L := L) (by omega) hdb (by omega) hn10
 have hhm := heads_map (g := g) (ns := ns) hN (by omega) hns
 rw [he] at h1
 rw [hhm] at h2
 rw [hmm] at h3
 have hle := h1.pair_le (f := (· &&& (2 ^ N - 1))) (k := missF N dn) (Nat.zero_and _) (fun a b => Nat.and_xor_distrib_right) (missF_zero N dn) (missF_xor N dn) h2 h3 (by
  intro v _ hv hm0
  have hv : v &&& (2 ^ N - 1) = 0 := hv
  unfold missF at hm0
  rw [hv, selN_zero, Nat.xor_zero, Nat.shiftRight_eq_div_pow] at hm0
  rw [Nat.and_two_pow_sub_one_eq_mod] at hv
  rw [← Nat.div_add_mod v (2 ^ N), hm0, hv]
  rfl)
 rw [echI_len, he, up_len] at hi
 unfold rankM missN
 rw [echI_len, echI_len, hhm, hmm, up_len]
 omega
theorem own_miss {k : Nat} {g : G8} {xs : List Int} (hg : isG g = true) (hk : okS k (colsG g) xs = true) (hk2 : k ≤ 1000) (hi : (echI xs).length = xs.length) (hs : spoiltM g xs = 0) (hr0 : ¬ rankM g xs < g.1) : isData g ((echI xs).map (tailW g)) ∧ missN xs ((echI xs).map (tailW g)) g = 0 := by
 have hcols := colsG_le hg
 have hb := isG_spec hg
 obtain ⟨N, hN⟩ := Int.eq_ofNat_of_zero_le (show 0 ≤ g.1 by omega)
 obtain ⟨L, hL⟩ := Int.eq_ofNat_of_zero_le (show 0 ≤ g.2.1 by omega)
 have hr : okRows 62 xs = true := okS_rows hk (by omega) (by omega)
 have hh := heads_ok (g := g) (by omega) hr
 have h1 := ech_is (Nat.le_refl 62) hr
 have h2 := ech_is (Nat.le_refl 62) hh.2
 have hrc := rank_cols (b := N) (by omega) (by have := hh.1; rw [hN, Int.toNat_natCast] at this; exact this)
 obtain ⟨ns, rfl, _, hns, he⟩ := okRows_up hr
 have hnc : ∀ n ∈ ns, n < 2 ^ (N + L) := fun n hn => by
  obtain ⟨m, e, hm⟩ := okRow_nat.1 ((okS_spec.1 hk).2 (n : Int) (List.mem_map.2 ⟨n, hn, rfl⟩))
  rw [show colsG g = N + L by omega] at hm
  omega
 have hn10 : ∀ n ∈ ns, n < 2 ^ 10 := fun n hn => Nat.lt_of_lt_of_le (hnc n hn) (pow_le (by omega))
 have hhm := heads_map (g := g) (ns := ns) hN (by omega) hns
 rw [he] at h1
 rw [hhm] at h2
 rw [echI_len, he, up_len] at hi
 unfold spoiltM rankM at hs
 unfold rankM at hr0
 rw [echI_len, hhm] at hs hr0 hrc
 rw [up_len] at hs
 have hE : (ech ns).length = N := by omega
 have hH := h1.heads h2 hE (by omega)
 have hEb : ∀ x ∈ ech ns, x < 2 ^ (N + L) := fun x hx => by
  obtain ⟨_, _, _, _, h6⟩ := h1
  exact sp_lt hnc ((h6 x).2 (Sp.mem hx))
 have hdat : (echI (up ns)).map (tailW g) = up ((ech ns).map (· >>> N)) := by
  unfold echI
  rw [he]
  unfold up
  rw [List.map_map, List.map_map]
  refine List.map_congr_left fun n _ => ?_
  simp only [Function.comp_apply]
  unfold tailW
  rw [hN, ishr_nat (by omega)]
 have hdb : ∀ y ∈ (ech ns).map (· >>> N), y < 2 ^ L := fun y hy => by
  obtain ⟨x, hx, rfl⟩ := List.mem_map.1 hy
  show x >>> N < 2 ^ L
  rw [Nat.shiftRight_eq_div_pow]
  refine Nat.div_lt_of_lt_mul ?_
  rw [← Nat.pow_add]
  exact hEb x hx
 rw [hdat]
 refine ⟨⟨by rw [up_len, List.length_map, hE, hN, Int.toNat_natCast], fun x hx => ?_⟩, ?_⟩
 ·obtain ⟨n, hn, rfl⟩ := List.mem_map.1 hx
  exact ⟨n, rfl, by rw [hL, Int.toNat_natCast]; exact hdb n hn⟩
 ·unfold missN
  rw [echI_len, miss_map hN (by omega) (by omega) hdb (by rw [List.length_map]; omega) hn10, ech_of (ech_zeros fun r hr => ?_)]
  ·rfl
  ·obtain ⟨n, hn, rfl⟩ := List.mem_map.1 hr
   obtain ⟨_, _, _, _, h6⟩ := h1
   have hsp : Sp (ech ns) n := (h6 n).1 (Sp.mem hn)
   have hback := hH.back hsp
   have hsel := selN_map (f := (· >>> N)) (Nat.zero_shiftRight N) (fun a b => Nat.shiftRight_xor_distrib) (n &&& (2 ^ N - 1)) (ech ns) 0
   rw [hback] at hsel
   unfold missF
   rw [← hsel]
   exact Nat.xor_self _
end Go.Proofs.Ytddaclhjnkimfaa

namespace Go.Proofs.Ytddaclhjnkimfaa
open Go Go.Abs Go.Proofs
noncomputable def l_FnSpoilt (p0 : (List Int)) (p1 : (List Int)) : Tre Bool :=
 .cond (l_a2Long_S p0 p1)
  (.ret true)
  (.mat (s_A2Gather_F p0) fun r1 =>
  .mat (s_A2Deeds_F p1 (r1.1, (r1.2.1, (r1.2.2.2, r1.2.2.1))) false) fun r2 =>
  let v3 := iwrap .i64 (1 + r1.2.2.1.1)
  let v4 := iwrap .i64 (v3 + r1.2.2.1.2.1)
  .mat (l_a2At_F p1 0 v4) fun r5 =>
  .mat (plantR (r1.1, (r1.2.1, (r1.2.2.2, r1.2.2.1))) r2) fun r6 =>
  .mat (spAR (r1.1, (r1.2.1, (r1.2.2.2, r1.2.2.1))) r2 r5) fun r7 =>
  .mat (rankAR (r1.1, (r1.2.1, (r1.2.2.2, r1.2.2.1))) r2 r5) fun r8 =>
  .mat (datAR (r1.1, (r1.2.1, (r1.2.2.2, r1.2.2.1))) r2 r5) fun r9 =>
  .cond (!decide (r6.2.1 = 0))
   (.ret false)
   (.cond (!decide (r7.2 = 0))
    (.ret false)
    (.cond (!decide (r8.2 = 0))
     (.ret false)
     (.cond (decide ((r6.2.2.1.length : Int) ≤ r5))
      (.ret false)
      (.cond (decide (r7.1 < 0))
       (.ret false)
       (.ite (0 ≤ r5 ∧ r5 < (r6.2.2.1.length : Int)) <|
       .mat (r6.2.2.1[r5.toNat]?) fun _ =>
       .mat (r6.2.2.1[r5.toNat]?) fun x11 =>
       .cond (!decide (iwrap .i64 (r7.1 + r8.1) = (x11.1.length : Int)))
        (.ret false)
        (.cond (!((decide (r9.1 = 8)) == (decide (r7.1 > 0))))
         (.ret false)
         (.ite (0 ≤ r5 ∧ r5 < (r6.2.2.1.length : Int)) <|
         .mat (r6.2.2.1[r5.toNat]?) fun _ =>
         .mat (r6.2.2.1[r5.toNat]?) fun x13 =>
         .mat (missB (r1.1, (r1.2.1, (r1.2.2.2, r1.2.2.1))) x13.1 r1.2.2.2) fun r14 =>
         .cond (!decide (r14.2 = 0))
          (.ret false)
          (.cond (decide (r14.1 < r7.1))
           (.ret false)
           (.cond (decide (r14.1 > r1.2.1))
            (.ret false)
            (.cond (decide (r9.1 = 0))
             (.ite (0 ≤ r5 ∧ r5 < (r6.2.2.1.length : Int)) <|
             .mat (r6.2.2.1[r5.toNat]?) fun _ =>
             .mat (r6.2.2.1[r5.toNat]?) fun x16 =>
             .mat (missB (r1.1, (r1.2.1, (r1.2.2.2, r1.2.2.1))) x16.1 r9.2) fun r17 =>
             .cond (!decide (r17.2 = 0))
              (.ret false)
              (.cond (!decide (r17.1 = 0))
               (.ret false)
               (.mat (mendR (r1.1, (r1.2.1, (r1.2.2.2, r1.2.2.1))) r2 r5) fun r18 =>
               .mat (mendR (r1.1, (r1.2.1, (r1.2.2.2, r1.2.2.1))) r2 r5) fun r19 =>
               .cond (!decide (r18.2.1 = r19.2.1))
                (.ret false)
                (.cond (!decide (r19.2.1 = 0))
                 (.cond (decide (r19.2.1 = 3))
                  (.ret true)
                  (.ret (decide (r19.2.1 = 4))))
                 (.ite (0 ≤ r5 ∧ r5 < (r6.2.2.1.length : Int)) <|
                 .mat (r6.2.2.1[r5.toNat]?) fun _ =>
                 .mat (r6.2.2.1[r5.toNat]?) fun x21 =>
                 .mat (missB (r1.1, (r1.2.1, (r1.2.2.2, r1.2.2.1))) x21.1 r18.2.2) fun r22 =>
                 .cond (!decide (r22.2 = 0))
                  (.ret false)
                  (.cond (!decide (r22.1 = r18.1))
                   (.ret false)
                   (.cond (decide (r18.1 > r14.1))
                    (.ret false)
                    (.cond (decide (r18.1 < r7.1))
                     (.ret false)
                     (.cond (decide (r18.1 < r14.1))
                      (.ret true)
                      (.mat (s_SameList_F r18.2.2 r1.2.2.2) fun r23 =>
                      .ret r23))))))))))
             (.mat (mendR (r1.1, (r1.2.1, (r1.2.2.2, r1.2.2.1))) r2 r5) fun r24 =>
             .mat (mendR (r1.1, (r1.2.1, (r1.2.2.2, r1.2.2.1))) r2 r5) fun r25 =>
             .cond (!decide (r24.2.1 = r25.2.1))
              (.ret false)
              (.cond (!decide (r25.2.1 = 0))
               (.cond (decide (r25.2.1 = 3))
                (.ret true)
                (.ret (decide (r25.2.1 = 4))))
               (.ite (0 ≤ r5 ∧ r5 < (r6.2.2.1.length : Int)) <|
               .mat (r6.2.2.1[r5.toNat]?) fun _ =>
               .mat (r6.2.2.1[r5.toNat]?) fun x27 =>
               .mat (missB (r1.1, (r1.2.1, (r1.2.2.2, r1.2.2.1))) x27.1 r24.2.2) fun r28 =>
               .cond (!decide (r28.2 = 0))
                (.ret false)
                (.cond (!decide (r28.1 = r24.1))
                 (.ret false)
                 (.cond (decide (r24.1 > r14.1))
                  (.ret false)
                  (.cond (decide (r24.1 < r7.1))
                   (.ret false)
                   (.cond (decide (r24.1 < r14.1))
                    (.ret true)
                    (.mat (s_SameList_F r24.2.2 r1.2.2.2) fun r29 =>
                    .ret r29)))))))))))))))))))
noncomputable def l_FnSpoilt_F (p0 : (List Int)) (p1 : (List Int)) : Option Bool := (l_FnSpoilt p0 p1).run some
-- law
theorem miss_of {k : Nat} {g : G8} {xs d : List Int} (hg : isG g = true) (hk : okS k (colsG g) xs = true) (hl : xs.length ≤ 10) (hd : isData g d) : missB g xs d = some (missN xs d g, 0) := by
 have hb := isG_spec hg
 have hok := data_okM (k := 10) hg (okS_spec.2 ⟨hl, (okS_spec.1 hk).2⟩) (by omega) hd
 have hdl := hd.1
 have h1 : missB g xs d = some (missV g xs d) := askO_true (by simp only [Bool.and_eq_true, decide_eq_true_eq]; omega)
 rw [h1]
 unfold okM at hok
 simp only [Bool.and_eq_true] at hok
 obtain ⟨⟨_, hps⟩, hds⟩ := hok
 unfold missV
 rw [hg, cond_true, decide_eq_false (by omega), cond_false, hps, cond_true, decide_eq_true (by omega), cond_true, hds, cond_true]
theorem own_data {g : G8} (hg : isG g = true) : isData g g.2.2.1 := by
 have hb := isG_spec hg
 obtain ⟨L, hL⟩ := Int.eq_ofNat_of_zero_le (show 0 ≤ g.2.1 by omega)
 refine ⟨by omega, fun x hx => ?_⟩
 have hds : g.2.2.1.all (inP g.2.1) = true := by
  unfold isG at hg
  simp only [Bool.and_eq_true] at hg
  exact hg.1.1.2
 have := List.all_eq_true.1 hds x hx
 rw [hL] at this
 rw [hL, Int.toNat_natCast]
 exact inP_nat (by omega) this
theorem miss_cols {xs d : List Int} {g : G8} (h : okM xs d g = true) : missN xs d g ≤ g.2.1 := by
 have hr := missW_ok h
 unfold okM at h
 simp only [Bool.and_eq_true, decide_eq_true_eq, inR_iff] at h
 obtain ⟨⟨⟨⟨⟨hk, hm⟩, _⟩, _⟩, _⟩, _⟩ := h
 obtain ⟨ns, h1, _, h3, h4⟩ := okRows_up hr.1
 have h5 := ech_cols (ech_is (b := g.2.1.toNat) (by omega) hr.1) (b := g.2.1.toNat) (by rw [h4]; exact h3)
 unfold missN
 rw [echI_len]
 omega
theorem l_FnSpoilt_law (p0 p1 : List Int) (h0 : (K.sl (.int .u8)).wf p0) (h1 : (K.sl (.int .u8)).wf p1) : l_FnSpoilt_F p0 p1 = some true := by
 unfold l_FnSpoilt_F l_FnSpoilt
 rw [Tre.run_cond]
 cases hlong : l_a2Long_S p0 p1
 case true => rfl
 obtain ⟨n0, n1⟩ := long_no hlong
 obtain ⟨⟨ga, gb, ⟨gc, gd, ⟨⟩⟩, ge⟩, e1, hg⟩ := gather_ok n0 (bytes_of h0)
 rw [cond_false, run_some_mat e1]
 dsimp only at hg ⊢
 generalize hG : ((ga, gb, ge, gc, gd, ()) : G8) = g at hg
 have hb := isG_spec hg
 have hst : statG g = 1 + g.2.2.2.1 + g.2.2.2.2.1 := rfl
 have hcols := colsG_le hg
 have hgc : gc = g.2.2.2.1 := by rw [← hG]
 have hgd : gd = g.2.2.2.2.1 := by rw [← hG]
 have hge : ge = g.2.2.1 := by rw [← hG]
 have hgb : gb = g.2.1 := by rw [← hG]
 obtain ⟨ds, e2, hd, hl, _⟩ := deeds_ok hg false n1 (bytes_of h1)
 rw [run_some_mat e2, hgc, hgd, hge, hgb]
 have w1 : iwrap .i64 (1 + g.2.2.2.1) = 1 + g.2.2.2.1 := iwrap_i64 (by omega) (by omega)
 have w2 : iwrap .i64 (1 + g.2.2.2.1 + g.2.2.2.2.1) = statG g := iwrap_i64 (by omega) (by omega)
 rw [w1, w2]
 obtain ⟨i, e3, hi0, hi1⟩ := at_ok (bytes_of h1) (i := 0) (n := statG g) (Int.le_refl _)
 obtain ⟨i, rfl⟩ := Int.eq_ofNat_of_zero_le hi0
 have hi2 : (i : Int) < statG g := by omega
 have hP := afterM_ok hg hd (by omega)
 obtain ⟨q1, q2, _, _⟩ := okP_spec hP
 have hil : i < (afterM g ds).1.length := by omega
 obtain ⟨x, hx⟩ : ∃ x, (afterM g ds).1[i]? = some x := ⟨_, List.getElem?_eq_getElem hil⟩
 have hm := List.mem_of_getElem? hx
 have hok := (q2 x hm).1
 obtain ⟨N, L, hS⟩ := src_ok hg
 have hind := (run_ind (g := g) ds (begin_ind hS) x hm).1
 have hr62 : okRows 62 x.1 = true := okS_rows hok (by omega) (by omega)
 have hlx : x.1.length ≤ 10 := by
  have := rank_cols (b := colsG g) (by omega) (okS_rows hok (by omega) (Nat.le_refl _))
  omega
 have hrows : rowsM g ds (i : Int) = x.1 := by unfold rowsM; rw [Int.toNat_natCast, hx]
 have hcode : codeM g ds (i : Int) = 0 := by
  rw [codeM_asked, decide_eq_true (asked_zero hg hd (by omega)), cond_true, show inR (i : Int) 0 (statG g - 1) = true from inR_iff.2 (by omega), cond_true]
 have hask : (decide (g.2.2.1.length ≤ 1048576) && decide (ds.length ≤ 1048576)) = true := by rw [Bool.and_eq_true, decide_eq_true_eq, decide_eq_true_eq]; omega
 have hrb := rank_bounds (g := g) (by omega) hr62
 have hrk : rankM g x.1 = ((echI (x.1.map (headW g))).length : Int) := rfl
 have hsp : spoiltM g x.1 = (x.1.length : Int) - rankM g x.1 := rfl
 have wsp : iwrap .i64 (spoiltM g x.1) = spoiltM g x.1 := iwrap_i64 (by omega) (by omega)
 have e4 : spAR g ds (i : Int) = some (spoiltM g x.1, 0) := by
  have : spAR g ds (i : Int) = some (spAM g ds (i : Int)) := askO_true hask
  rw [this]; unfold spAM; rw [decide_eq_true hcode, cond_true, hrows, wsp]
 have e5 : rankAR g ds (i : Int) = some (rankM g x.1, 0) := by
  have : rankAR g ds (i : Int) = some (rankAM g ds (i : Int)) := askO_true hask
  rw [this]; unfold rankAM; rw [decide_eq_true hcode, cond_true, hrows]
 have e6 : datAR g ds (i : Int) = some (datM g x.1) := by
  have : datAR g ds (i : Int) = some (datAM g ds (i : Int)) := askO_true hask
  rw [this]; unfold datAM; rw [decide_eq_true hcode, cond_true, hrows]
 have e7 := miss_of hg hok hlx (own_data hg)
 have e8 : mendR g ds (i : Int) = some (mendX g x.1) := by
  have : mendR g ds (i : Int) = some (mendM g ds (i : Int)) := askO_true hask
  rw [this]; unfold mendM; rw [decide_eq_true hcode, cond_true, hrows]
 have hmiss := fun d hd => spoilt_miss (d := d) hg hok (by omega) hd hind
 have hm0 := hmiss _ (own_data hg)
 have hmc := miss_cols (data_okM hg hok (by omega) (own_data hg))
 have hbd : 0 ≤ (i : Int) ∧ (i : Int) < ((afterM g ds).1.length : Int) := by omega
 -- what is mended
 have hend : ∀ {ρ : Type} (k : Int → Int → List Int → Tre ρ) (c : ρ → Option ρ) (z : ρ), (∀ b, (b = 3 ∨ b = 4) → (k 0 b []).run c = some z) → (∀ a l, isData g l → a = missN x.1 l g → a ≤ missN x.1 g.2.2.1 g → (a = missN x.1 g.2.2.1 g → l = g.2.2.1) → (k a 0 l).run c = some z) → (k (mendX g x.1).1 (mendX g x.1).2.1 (mendX g x.1).2.2).run c = some z := by
  intro ρ k c z k1 k2
  obtain ⟨N, hN⟩ := Int.eq_ofNat_of_zero_le (show 0 ≤ g.1 by omega)
  obtain ⟨L, hL⟩ := Int.eq_ofNat_of_zero_le (show 0 ≤ g.2.1 by omega)
  have hpos : 1 ≤ manyG g := Nat.pow_pos (Nat.two_pow_pos _)
  have hB := mendL_best (g := g) (xs := x.1) (fun d hd => by have := miss_small (data_okM hg hok (by omega) hd); omega) (fun k hk => dig_data hN hL hk) (manyG g - 1) (by omega)
  rw [show manyG g - 1 + 1 = manyG g by omega] at hB
  unfold mendX
  cases decide (g.1 * g.2.1 > 10)
  case true => exact k1 3 (.inl rfl)
  rw [cond_false]
  cases hmany : (mendL g x.1 (manyG g)).2.1
  case true => exact k1 4 (.inr rfl)
  rw [cond_false]
  generalize mendL g x.1 (manyG g) = st at hB hmany
  rw [hmany] at hB
  have hall : ∀ y, isData g y → y ∈ (List.range (manyG g)).map (digL (2 ^ g.2.1.toNat) g.1.toNat) := fun y hy => by
   obtain ⟨n, hn, he⟩ := (dig_mem (Nat.two_pow_pos _) _ y).2 hy
   exact List.mem_map.2 ⟨n, List.mem_range.2 hn, he⟩
  obtain ⟨n, hn, he⟩ := List.mem_map.1 hB.mem
  have hdb : isData g st.2.2 := by rw [← he]; exact dig_data hN hL (List.mem_range.1 hn)
  refine k2 st.1 st.2.2 hdb hB.at_.symm (hB.low _ (hall _ (own_data hg))) fun hq => ?_
  refine Decidable.byContradiction fun hne => ?_
  have := hB.many.2 ⟨g.2.2.1, hall _ (own_data hg), fun e => hne e.symm, hq.symm⟩
  cases this
 rw [run_some_mat e3, run_some_mat (plant_of hg hd (by omega)), run_some_mat e4, run_some_mat e5, run_some_mat e6]
 simp only [Tre.run_cond, decide_true, Bool.not_true, cond_false]
 rw [decide_eq_false (by omega), cond_false, decide_eq_false (by omega), cond_false, Tre.run_ite, if_pos hbd, Int.toNat_natCast, run_some_mat hx, run_some_mat hx]
 rw [show iwrap .i64 (spoiltM g x.1 + rankM g x.1) = (x.1.length : Int) by rw [hsp, Int.sub_add_cancel]; exact iwrap_i64 (by omega) (by omega)]
 simp only [Tre.run_cond, decide_true, Bool.not_true, cond_false]
 -- the end of both ways
 have tail1 : ∀ (c : Bool → Option Bool), c true = some true → ((Tre.mat (mendR g ds (i : Int)) fun r24 => Tre.mat (mendR g ds (i : Int)) fun r25 => Tre.cond (!decide (r24.2.1 = r25.2.1)) (.ret false)
   (.cond (!decide (r25.2.1 = 0)) (.cond (decide (r25.2.1 = 3)) (.ret true) (.ret (decide (r25.2.1 = 4))))
    (.ite (0 ≤ (i : Int) ∧ (i : Int) < ((afterM g ds).1.length : Int)) <| .mat ((afterM g ds).1[i]?) fun _ => .mat ((afterM g ds).1[i]?) fun x27 => .mat (missB g x27.1 r24.2.2) fun r28 =>
     .cond (!decide (r28.2 = 0)) (.ret false) (.cond (!decide (r28.1 = r24.1)) (.ret false) (.cond (decide (r24.1 > missN x.1 g.2.2.1 g)) (.ret false) (.cond (decide (r24.1 < spoiltM g x.1)) (.ret false)
      (.cond (decide (r24.1 < missN x.1 g.2.2.1 g)) (.ret true) (.mat (s_SameList_F r24.2.2 g.2.2.1) fun r29 => .ret r29)))))))) : Tre Bool).run c = some true := by
  intro c hc
  rw [run_some_mat e8, run_some_mat e8]
  simp only [Tre.run_cond, decide_true, Bool.not_true, cond_false]
  refine hend (fun a b l => Tre.cond (!decide (b = 0)) (.cond (decide (b = 3)) (.ret true) (.ret (decide (b = 4))))
    (.ite (0 ≤ (i : Int) ∧ (i : Int) < ((afterM g ds).1.length : Int)) <| .mat ((afterM g ds).1[i]?) fun _ => .mat ((afterM g ds).1[i]?) fun x27 => .mat (missB g x27.1 l) fun r28 =>
     .cond (!decide (r28.2 = 0)) (.ret false) (.cond (!decide (r28.1 = a)) (.ret false) (.cond (decide (a > missN x.1 g.2.2.1 g)) (.ret false) (.cond (decide (a < spoiltM g x.1)) (.ret false)
      (.cond (decide (a < missN x.1 g.2.2.1 g)) (.ret true) (.mat (s_SameList_F l g.2.2.1) fun r29 => .ret r29))))))) c true ?_ ?_
  ·rintro b (rfl | rfl)
   ·exact hc
   ·exact hc
  ·intro a l hdl ha hle heq
   rw [Tre.run_cond, decide_eq_true rfl, Bool.not_true, cond_false, Tre.run_ite, if_pos hbd, run_some_mat hx, run_some_mat hx, run_some_mat (miss_of hg hok hlx hdl)]
   have hsl := hmiss l hdl
   simp only [Tre.run_cond, decide_true, Bool.not_true, cond_false]
   rw [decide_eq_true ha.symm, Bool.not_true, cond_false, decide_eq_false (by omega), cond_false, decide_eq_false (by omega), cond_false]
   by_cases hlt : a < missN x.1 g.2.2.1 g
   ·rw [decide_eq_true hlt, cond_true]; exact hc
   ·rw [decide_eq_false hlt, cond_false, heq (by omega)]
    have e9 : s_SameList_F g.2.2.1 g.2.2.1 = some true := by
     unfold s_SameList_F s_SameList
     have : sameL g.2.2.1 g.2.2.1 = some (decide (g.2.2.1 = g.2.2.1)) := askO_true (by rw [Bool.and_eq_true, decide_eq_true_eq]; omega)
     rw [run_some_mat this, decide_eq_true rfl]; rfl
    rw [run_some_mat e9]
    exact hc
 have hdm : (spoiltM g x.1 > 0 ∧ datM g x.1 = (8, [])) ∨ (spoiltM g x.1 = 0 ∧ datM g x.1 = (6, [])) ∨ ((spoiltM g x.1 = 0 ∧ ¬ rankM g x.1 < g.1) ∧ datM g x.1 = (0, (echI x.1).map (tailW g))) := by
  unfold datM
  rw [wsp]
  by_cases hz : spoiltM g x.1 = 0
  ·rw [decide_eq_true hz, cond_true]
   by_cases hr : rankM g x.1 < g.1
   ·rw [decide_eq_true hr, cond_true]; exact .inr (.inl ⟨hz, rfl⟩)
   ·rw [decide_eq_false hr, cond_false]; exact .inr (.inr ⟨⟨hz, hr⟩, rfl⟩)
  ·rw [decide_eq_false hz, cond_false]; exact .inl ⟨by omega, rfl⟩
 rcases hdm with ⟨hz, hdq⟩ | ⟨hz, hdq⟩ | ⟨⟨hz, hnr⟩, hdq⟩
 ·rw [hdq]
  dsimp only
  rw [show ((decide ((8 : Int) = 8)) == (decide (spoiltM g x.1 > 0))) = true by rw [decide_eq_true hz]; rfl, Bool.not_true, cond_false]
  rw [Tre.run_ite, if_pos hbd, run_some_mat hx, run_some_mat hx, run_some_mat e7]
  simp only [Tre.run_cond, decide_true, Bool.not_true, cond_false]
  rw [decide_eq_false (by omega), cond_false, decide_eq_false (by omega), cond_false, show decide ((8 : Int) = 0) = false from rfl, cond_false]
  exact tail1 _ rfl
 ·rw [hdq]
  dsimp only
  rw [show ((decide ((6 : Int) = 8)) == (decide (spoiltM g x.1 > 0))) = true by rw [decide_eq_false (by omega : ¬ spoiltM g x.1 > 0)]; rfl, Bool.not_true, cond_false]
  rw [Tre.run_ite, if_pos hbd, run_some_mat hx, run_some_mat hx, run_some_mat e7]
  simp only [Tre.run_cond, decide_true, Bool.not_true, cond_false]
  rw [decide_eq_false (by omega), cond_false, decide_eq_false (by omega), cond_false, show decide ((6 : Int) = 0) = false from rfl, cond_false]
  exact tail1 _ rfl
 ·rw [hdq]
  dsimp only
  obtain ⟨hod, ho0⟩ := own_miss hg hok (by omega) hind hz hnr
  have e10 := miss_of hg hok hlx hod
  rw [ho0] at e10
  rw [show ((decide ((0 : Int) = 8)) == (decide (spoiltM g x.1 > 0))) = true by rw [decide_eq_false (by omega : ¬ spoiltM g x.1 > 0)]; rfl, Bool.not_true, cond_false]
  rw [Tre.run_ite, if_pos hbd, run_some_mat hx, run_some_mat hx, run_some_mat e7]
  simp only [Tre.run_cond, decide_true, Bool.not_true, cond_false]
  rw [decide_eq_false (by omega), cond_false, decide_eq_false (by omega), cond_false, cond_true]
  rw [Tre.run_ite, if_pos hbd, run_some_mat hx, run_some_mat hx, run_some_mat e10]
  simp only [Tre.run_cond, decide_true, Bool.not_true, cond_false]
  exact tail1 _ rfl
noncomputable def l_FnSpoilt_V : Env := ⟨tau, [(23, l_a2Long_c), (24, s_A2Gather_c), (25, s_A2Deeds_c), (34, l_a2At_c), (26, i_PlantAfter_c), (30, i_SpoiltAfter_c), (29, i_RankAfter_c), (31, i_DataAfter_c), (33, i_MissedBy_c), (12, i_MendAfter_c), (9, s_MendAfter_c), (32, s_SameList_c)], []⟩
noncomputable def l_FnSpoilt_b : Code := (Try.f6.body).getD .skip
noncomputable def l_FnSpoilt_I : FnI := ⟨l_FnSpoilt_b, Try.f6.results.toList, Try.f6.resultTypes.toList, []⟩
noncomputable def l_FnSpoilt_out (_zp0 : Bool) (_zp1 : Bool) (_p0 : (List Int)) (_p1 : (List Int)) : Bool → CallOut := fun r => ⟨(.imm true .bool r), [], []⟩
set_option maxRecDepth 100000 in
theorem l_FnSpoilt_eq : ∀ (zp0 : Bool) (zp1 : Bool) (p0 : (List Int)) (p1 : (List Int)), denFn l_FnSpoilt_V l_FnSpoilt_I ⟨[(.imm zp0 (.sl (.int .u8)) p0), (.imm zp1 (.sl (.int .u8)) p1)], []⟩ = (l_FnSpoilt p0 p1).run fun r => some (l_FnSpoilt_out zp0 zp1 p0 p1 r) := fun _ _ _ _ => by kernel_rfl
noncomputable def l_FnSpoilt_G (av : List AV) (rs : List Root) : Tre CallOut :=
 asCons av fun a0_ av0 =>
 asCons av0 fun a1_ av1 =>
 asEnd av1 <|
 asEnd rs <|
 asImm (.sl (.int .u8)) a0_ fun z2 d1 =>
 asImm (.sl (.int .u8)) a1_ fun z4 d3 =>
 .mat (l_FnSpoilt_F d1 d3) fun r => .ret (l_FnSpoilt_out z2 z4 d1 d3 r)
noncomputable def l_FnSpoilt_c : Ctr := ⟨[], fun ci => l_FnSpoilt_G ci.args ci.roots⟩
theorem l_FnSpoilt_env : EnvOK Try.prog l_FnSpoilt_V := (envOK_cons l_a2Long_ok ent23 (envOK_cons s_A2Gather_ok ent24 (envOK_cons s_A2Deeds_ok ent25 (envOK_cons l_a2At_ok ent34 (envOK_cons i_PlantAfter_ok ent26 (envOK_cons i_SpoiltAfter_ok ent30 (envOK_cons i_RankAfter_ok ent29 (envOK_cons i_DataAfter_ok ent31 (envOK_cons i_MissedBy_ok ent33 (envOK_cons i_MendAfter_ok ent12 (envOK_cons s_MendAfter_ok ent9 (envOK_cons s_SameList_ok ent32 envOK_nil))))))))))))
set_option maxRecDepth 100000 in
theorem l_FnSpoilt_ok : Contract Try.prog 6 l_FnSpoilt_c := by
 have hl : LoopsOK l_FnSpoilt_V [] l_FnSpoilt_b := loopsOK_nil (by kernel_rfl)
 refine (contract_of (F := l_FnSpoilt_I) tau_tys l_FnSpoilt_env Try.func6 (by kernel_rfl) (by kernel_rfl) (by kernel_rfl) hl []).weaken ?_
 rintro ⟨av, rs⟩ co h
 have h : (l_FnSpoilt_G av rs).run some = some co := h
 obtain ⟨a0_, av0, rfl, h_0⟩ := asCons_spec h
 obtain ⟨a1_, av1, rfl, h_1⟩ := asCons_spec h_0
 obtain ⟨rfl, h_2⟩ := asEnd_spec h_1
 obtain ⟨rfl, h_3⟩ := asEnd_spec h_2
 obtain ⟨z2, d1, rfl, h_4⟩ := asImm_spec h_3
 obtain ⟨z4, d3, rfl, h_5⟩ := asImm_spec h_4
 exact fin_mat (l_FnSpoilt_eq z2 z4 d1 d3) h_5
end Go.Proofs.Ytddaclhjnkimfaa
