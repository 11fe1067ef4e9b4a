/- Part 4 of the proof of FnExactSpreadIndex. -/
import Derived.Test.YthnkanacjhlhhaaIx3
namespace Go.Proofs.Ythnkanacjhlhhaa
open Go Go.Abs Go.Proofs
noncomputable def i_ValidSpaces_l9 (h9_0_4 : (List TMatrix)) (h9_0_5 : Int) (h9_0_7 : TMatrix) : Int → Tre (Int ⊕ (Bool ⊕ Unit)) := fun s9 =>
  .cond (decide (s9 < h9_0_5))
    (.ite (0 ≤ s9 ∧ s9 < (h9_0_4.length : Int)) <|
    .mat (h9_0_4[s9.toNat]?) fun x7 =>
    .mat (i_SameMatrix_F h9_0_7 x7) fun r8 =>
    .cond r8
      (.ret (.inr (.inl false)))
      (.ret (.inl (iwrap .i64 (s9 + 1)))))
    (.ret (.inr (.inr ())))
noncomputable def i_ValidSpaces_l4 (h4_0_0 : (List TMatrix)) (h4_0_1 : (List TMatrix)) (h4_0_2 : Int) : Int → Tre (Int ⊕ (Bool ⊕ Unit)) := fun s4 =>
  .cond (decide (s4 < h4_0_2))
    (.ite (0 ≤ s4 ∧ s4 < (h4_0_1.length : Int)) <|
    .mat (h4_0_1[s4.toNat]?) fun x2 =>
    .mat (i_IsSpace_F x2) fun r3 =>
    .cond (!r3)
      (.ret (.inr (.inl false)))
      (.ite ((0 : Int) ≤ 0 ∧ (0 : Int) < (h4_0_0.length : Int)) <|
      .mat (h4_0_0[0]?) fun x4 =>
      .cond (!decide (x2.1 = x4.1))
        (.ret (.inr (.inl false)))
        (.ite ((0 : Int) ≤ 0 ∧ (0 : Int) < (h4_0_0.length : Int)) <|
        .mat (h4_0_0[0]?) fun x5 =>
        .cond (!decide ((x2.2.1.length : Int) = (x5.2.1.length : Int)))
          (.ret (.inr (.inl false)))
          (.ite (0 ≤ (0 : Int) ∧ (0 : Int) ≤ s4 ∧ s4 ≤ (h4_0_0.length : Int)) <|
          let v6 := (h4_0_0.drop 0).take (s4 - 0).toNat
          .mat (loopF (i_ValidSpaces_l9 v6 (v6.length : Int) x2) 0) fun l9 =>
          .alt l9
            (fun a10 =>
              .ret (.inr (.inl a10)))
            (fun _ =>
              .ret (.inl (iwrap .i64 (s4 + 1))))))))
    (.ret (.inr (.inr ())))
noncomputable def i_ValidSpaces (p0 : (List TMatrix)) : Tre Bool :=
  let v1 := inR (p0.length : Int) 1 400
  .cond (!v1)
    (.ret false)
    (.mat (loopF (i_ValidSpaces_l4 p0 p0 (p0.length : Int)) 0) fun l12 =>
    .alt l12
      (fun a13 =>
        .ret a13)
      (fun _ =>
        .ret true))
noncomputable def i_ValidSpaces_F (p0 : (List TMatrix)) : Option Bool := (i_ValidSpaces p0).run some
-- more
noncomputable def badI (ss : List (Int × List Int × Unit)) (i : Nat) (x : Int × List Int × Unit) : Bool :=
  !spMx x || !decide (x.1 = (firstMx ss).1) || !decide ((x.2.1.length : Int) = ((firstMx ss).2.1.length : Int)) || (ss.take i).any fun y => decide (x.1 = y.1) && decide (x.2.1 = y.2.1)
theorem goV_badI (ss : List (Int × List Int × Unit)) : goV (badI ss) 0 ss = goV (badMx ss) 0 ss := by
  refine goV_same fun i x hx hp => ?_
  unfold badI badMx
  cases spMx x
  · rfl
  by_cases hf : x.1 = (firstMx ss).1
  · have key : ∀ l : List (Int × List Int × Unit), (∀ y ∈ l, y.1 = (firstMx ss).1) → (l.any fun y => decide (x.1 = y.1) && decide (x.2.1 = y.2.1)) = l.any fun y => decide (x.2.1 = y.2.1) := by
      intro l
      induction l with
      | nil => intro _; rfl
      | cons y l ih =>
        intro hy
        simp only [List.any_cons]
        rw [ih fun z hz => hy z (.tail _ hz), decide_eq_true (hf.trans (hy y (.head _)).symm), Bool.true_and]
    rw [key (ss.take i) fun y hy => by
      obtain ⟨j, hj⟩ := List.getElem?_of_mem hy
      have hji : j < i := by have := (List.getElem?_eq_some_iff.1 hj).1; rw [List.length_take] at this; omega
      rw [List.getElem?_take, if_pos hji] at hj
      have := hp j y hji hj
      unfold badI at this
      simp only [Bool.or_eq_false_iff, Bool.not_eq_false'] at this
      exact of_decide_eq_true this.1.1.2]
  · rw [decide_eq_false hf]; rfl
theorem i_SameMatrix_is (a b : Int × List Int × Unit) (ha : a.2.1.length ≤ 1048576) (hb : b.2.1.length ≤ 1048576) : i_SameMatrix_F a b = some (decide (a.1 = b.1) && decide (a.2.1 = b.2.1)) := by
  unfold i_SameMatrix_F i_SameMatrix
  rw [Tre.run_cond]
  cases decide (a.1 = b.1)
  · rfl
  rw [cond_true, Bool.true_and, run_some_mat (show sameL a.2.1 b.2.1 = some _ from askO_true (by simp only [Bool.and_eq_true, decide_eq_true_eq]; exact ⟨ha, hb⟩))]
  rfl
theorem i_ValidSpaces_in (ss : List (Int × List Int × Unit)) (h : shortSs ss) (x : Int × List Int × Unit) (hx : x.2.1.length ≤ 1048576) (l : List (Int × List Int × Unit)) (hl : ∀ y ∈ l, y ∈ ss) (hll : l.length ≤ 1048576) :
    loopF (i_ValidSpaces_l9 l (l.length : Int) x) 0 = some (cond (l.any fun y => decide (x.1 = y.1) && decide (x.2.1 = y.2.1)) (.inl false) (.inr ())) := by
  rw [find_loop (xs := l) (fun _ y => cond (decide (x.1 = y.1) && decide (x.2.1 = y.2.1)) (some (.inl false)) none) (.inr ())]
  · rw [findE_any]
  · intro j y hy
    have hj : j < l.length := (List.getElem?_eq_some_iff.1 hy).1
    unfold i_ValidSpaces_l9
    rw [run_inb hy, run_some_mat (i_SameMatrix_is x y hx (h.2 y (hl y (List.mem_of_getElem? hy)))), Tre.run_cond]
    cases decide (x.1 = y.1) && decide (x.2.1 = y.2.1)
    · simp only [cond_false, Tre.run_ret, iwrap_succ (show j < 4611686018427387904 by omega)]
    · rfl
  · unfold i_ValidSpaces_l9
    exact run_out
theorem i_ValidSpaces_is (ss : List (Int × List Int × Unit)) (h : shortSs ss) : i_ValidSpaces_F ss = some (validSs ss) := by
  unfold i_ValidSpaces_F i_ValidSpaces validSs
  dsimp only
  rw [Tre.run_cond]
  cases h1 : inR (ss.length : Int) 1 400
  · rfl
  rw [inR_iff] at h1
  rw [Bool.not_true, cond_false, Bool.true_and, Tre.run_mat, find_loop (xs := ss) (fun i x => cond (badI ss i x) (some (.inl false)) none) (.inr ())]
  · rw [findE_goV, Option.bind_some, goV_badI]
    cases goV (badMx ss) 0 ss <;> rfl
  · intro i x hx
    have hi : i < ss.length := (List.getElem?_eq_some_iff.1 hx).1
    have hxl := h.2 x (List.mem_of_getElem? hx)
    unfold i_ValidSpaces_l4
    rw [run_inb hx, run_some_mat (i_IsSpace_is x hxl), Tre.run_cond]
    unfold badI
    cases spMx x
    · rfl
    rw [Bool.not_true, cond_false, Bool.false_or, Tre.run_ite, if_pos ⟨Int.le_refl _, by omega⟩, run_some_mat (first_at (by omega)), Tre.run_cond]
    cases decide (x.1 = (firstMx ss).1)
    · rfl
    rw [Bool.not_true, cond_false, Bool.false_or, Tre.run_ite, if_pos ⟨Int.le_refl _, by omega⟩, run_some_mat (first_at (by omega)), Tre.run_cond]
    cases decide ((x.2.1.length : Int) = ((firstMx ss).2.1.length : Int))
    · rfl
    rw [Bool.not_true, cond_false, Bool.false_or, Tre.run_ite, if_pos ⟨Int.le_refl _, by omega, by omega⟩]
    have hv : (ss.drop 0).take (((i : Int) - 0).toNat) = ss.take i := by rw [List.drop_zero, show ((i : Int) - 0).toNat = i by omega]
    rw [hv, run_some_mat (i_ValidSpaces_in ss h x hxl (ss.take i) (fun y hy => List.mem_of_mem_take hy) (by rw [List.length_take]; omega))]
    cases (ss.take i).any fun y => decide (x.1 = y.1) && decide (x.2.1 = y.2.1)
    · simp only [cond_false, iwrap_succ (show i < 4611686018427387904 by omega)]; rfl
    · rfl
  · unfold i_ValidSpaces_l4
    exact run_out
noncomputable def i_ValidSpaces_V : Env := ⟨tau, [(95, i_size_Matrix_c), (57, i_within_c), (76, i_IsSpace_c), (67, i_SameMatrix_c)], []⟩
noncomputable def i_ValidSpaces_b : Code := (Try.f43.body).getD .skip
noncomputable def i_ValidSpaces_l9_mk (z9_0 : Bool) (z9_1 : Bool) (z9_2 : Bool) (z9_3 : Bool) (h9_0_0 : (List TMatrix)) (h9_0_1 : (List TMatrix)) (h9_0_2 : Int) (h9_0_3 : Int) (h9_0_4 : (List TMatrix)) (h9_0_5 : Int) (h9_0_7 : TMatrix) : Int → St := fun x => stOf [(0, (.imm z9_0 (.sl kMatrix) h9_0_0)), (4, (.ptr (6, 0) [])), (11, (.imm z9_1 (.sl kMatrix) h9_0_1)), (12, (.imm true (.int .i64) h9_0_2)), (13, (.imm true (.int .i64) h9_0_3)), (43, (.imm z9_2 (.sl kMatrix) h9_0_4)), (44, (.imm true (.int .i64) h9_0_5)), (45, (.imm true (.int .i64) x))] [((6, 0), some ⟨true, kMatrix, (.imm z9_3), h9_0_7⟩)]
noncomputable def i_ValidSpaces_l9_out (z9_0 : Bool) (z9_1 : Bool) (_z9_2 : Bool) (_z9_3 : Bool) (h9_0_0 : (List TMatrix)) (h9_0_1 : (List TMatrix)) (h9_0_2 : Int) (h9_0_3 : Int) (_h9_0_4 : (List TMatrix)) (_h9_0_5 : Int) (_h9_0_7 : TMatrix) : (Bool ⊕ Unit) → Ex × St
  | .inl x => (.ret, stOf [(0, (.imm z9_0 (.sl kMatrix) h9_0_0)), (2, (.imm true .bool x)), (11, (.imm z9_1 (.sl kMatrix) h9_0_1)), (12, (.imm true (.int .i64) h9_0_2)), (13, (.imm true (.int .i64) h9_0_3))] [])
  | .inr x => (.exit 2, stOf [(0, (.imm z9_0 (.sl kMatrix) h9_0_0)), (2, .dead), (11, (.imm z9_1 (.sl kMatrix) h9_0_1)), (12, (.imm true (.int .i64) h9_0_2)), (13, (.imm true (.int .i64) h9_0_3))] [])
noncomputable def i_ValidSpaces_l9_D (s : St) : Tre (Ex × St) :=
  asImm (.sl kMatrix) (s.tmps 0) fun z3 d2 =>
  asPtr (6, 0) [] (s.tmps 4) <|
  asImm (.sl kMatrix) (s.tmps 11) fun z7 d6 =>
  asImmZ true (.int .i64) (s.tmps 12) fun d9 =>
  asImmZ true (.int .i64) (s.tmps 13) fun d11 =>
  asImm (.sl kMatrix) (s.tmps 43) fun z14 d13 =>
  asImmZ true (.int .i64) (s.tmps 44) fun d16 =>
  asImmZ true (.int .i64) (s.tmps 45) fun d18 =>
  asRoot true kMatrix (s.roots (6, 0)) fun m20 d21 =>
  asMImm m20 fun z22 =>
  .mat (loopF (i_ValidSpaces_l9 d13 d16 d21) d18) fun x => .alt x (fun a0 => .ret (i_ValidSpaces_l9_out z3 z7 z14 z22 d2 d6 d9 d11 d13 d16 d21 (.inl a0))) (fun b0 => .ret (i_ValidSpaces_l9_out z3 z7 z14 z22 d2 d6 d9 d11 d13 d16 d21 (.inr b0)))
noncomputable def i_ValidSpaces_l9_L : LoopI := ⟨([0, 4, 11, 12, 13, 43, 44, 45], [(6, 0)]), ([0, 2, 11, 12, 13], []), i_ValidSpaces_l9_D⟩
noncomputable def i_ValidSpaces_l4_mk (z4_0 : Bool) (z4_1 : Bool) (h4_0_0 : (List TMatrix)) (h4_0_1 : (List TMatrix)) (h4_0_2 : Int) : Int → St := fun x => stOf [(0, (.imm z4_0 (.sl kMatrix) h4_0_0)), (11, (.imm z4_1 (.sl kMatrix) h4_0_1)), (12, (.imm true (.int .i64) h4_0_2)), (13, (.imm true (.int .i64) x))] []
noncomputable def i_ValidSpaces_l4_out (_z4_0 : Bool) (_z4_1 : Bool) (_h4_0_0 : (List TMatrix)) (_h4_0_1 : (List TMatrix)) (_h4_0_2 : Int) : (Bool ⊕ Unit) → Ex × St
  | .inl x => (.ret, stOf [(2, (.imm true .bool x))] [])
  | .inr x => (.exit 0, stOf [(2, .dead)] [])
noncomputable def i_ValidSpaces_l4_D (s : St) : Tre (Ex × St) :=
  asImm (.sl kMatrix) (s.tmps 0) fun z3 d2 =>
  asImm (.sl kMatrix) (s.tmps 11) fun z6 d5 =>
  asImmZ true (.int .i64) (s.tmps 12) fun d8 =>
  asImmZ true (.int .i64) (s.tmps 13) fun d10 =>
  .mat (loopF (i_ValidSpaces_l4 d2 d5 d8) d10) fun x => .alt x (fun a0 => .ret (i_ValidSpaces_l4_out z3 z6 d2 d5 d8 (.inl a0))) (fun b0 => .ret (i_ValidSpaces_l4_out z3 z6 d2 d5 d8 (.inr b0)))
noncomputable def i_ValidSpaces_l4_L : LoopI := ⟨([0, 11, 12, 13], []), ([2], []), i_ValidSpaces_l4_D⟩
noncomputable def i_ValidSpaces_A : List (Nat × LoopI) := [(9, i_ValidSpaces_l9_L), (4, i_ValidSpaces_l4_L)]
set_option maxRecDepth 100000 in
theorem i_ValidSpaces_l9_step : ∀ (z9_0 : Bool) (z9_1 : Bool) (z9_2 : Bool) (z9_3 : Bool) (h9_0_0 : (List TMatrix)) (h9_0_1 : (List TMatrix)) (h9_0_2 : Int) (h9_0_3 : Int) (h9_0_4 : (List TMatrix)) (h9_0_5 : Int) (h9_0_7 : TMatrix) (x : Int) (c : St → Option (Ex × St)), den i_ValidSpaces_V i_ValidSpaces_A (loopAt i_ValidSpaces_b 1) (i_ValidSpaces_l9_mk z9_0 z9_1 z9_2 z9_3 h9_0_0 h9_0_1 h9_0_2 h9_0_3 h9_0_4 h9_0_5 h9_0_7 x) (roundK i_ValidSpaces_l9_L.kp i_ValidSpaces_l9_L.kx c) = (i_ValidSpaces_l9 h9_0_4 h9_0_5 h9_0_7 x).run (roundR (i_ValidSpaces_l9_mk z9_0 z9_1 z9_2 z9_3 h9_0_0 h9_0_1 h9_0_2 h9_0_3 h9_0_4 h9_0_5 h9_0_7) (i_ValidSpaces_l9_out z9_0 z9_1 z9_2 z9_3 h9_0_0 h9_0_1 h9_0_2 h9_0_3 h9_0_4 h9_0_5 h9_0_7) c) := fun _ _ _ _ _ _ _ _ _ _ _ _ _ => by
  kernel_rfl
theorem i_ValidSpaces_l9_ok : LoopOK i_ValidSpaces_V i_ValidSpaces_A (loopAt i_ValidSpaces_b 1) i_ValidSpaces_l9_L := loopOK_of fun s e s' h => by
  generalize hs : restrict i_ValidSpaces_l9_L.kp s = s1 at h
  have h : (i_ValidSpaces_l9_D s1).run some = some (e, s') := h
  obtain ⟨z3, d2, e1, h_0⟩ := asImm_spec h
  obtain ⟨e4, h_1⟩ := asPtr_spec h_0
  obtain ⟨z7, d6, e5, h_2⟩ := asImm_spec h_1
  obtain ⟨d9, e8, h_3⟩ := asImmZ_spec h_2
  obtain ⟨d11, e10, h_4⟩ := asImmZ_spec h_3
  obtain ⟨z14, d13, e12, h_5⟩ := asImm_spec h_4
  obtain ⟨d16, e15, h_6⟩ := asImmZ_spec h_5
  obtain ⟨d18, e17, h_7⟩ := asImmZ_spec h_6
  obtain ⟨m20, d21, e19, h_8⟩ := asRoot_spec h_7
  obtain ⟨z22, rfl, h_9⟩ := asMImm_spec h_8
  obtain ⟨y, hy, hz⟩ := mat_some h_9
  refine ⟨_, _, i_ValidSpaces_l9_mk z3 z7 z14 z22 d2 d6 d9 d11 d13 d16 d21, i_ValidSpaces_l9_out z3 z7 z14 z22 d2 d6 d9 d11 d13 d16 d21, i_ValidSpaces_l9 d13 d16 d21, d18, y, ?_, hy, ?_, i_ValidSpaces_l9_step z3 z7 z14 z22 d2 d6 d9 d11 d13 d16 d21⟩
  · subst hs; exact restrict_eq (T := [(0, (.imm z3 (.sl kMatrix) d2)), (4, (.ptr (6, 0) [])), (11, (.imm z7 (.sl kMatrix) d6)), (12, (.imm true (.int .i64) d9)), (13, (.imm true (.int .i64) d11)), (43, (.imm z14 (.sl kMatrix) d13)), (44, (.imm true (.int .i64) d16)), (45, (.imm true (.int .i64) d18))]) (U := [((6, 0), some ⟨true, kMatrix, (.imm z22), d21⟩)]) rfl rfl ⟨e1, e4, e5, e8, e10, e12, e15, e17, trivial⟩ ⟨e19, trivial⟩
  · rcases y with x | x <;> exact Option.some.inj hz
set_option maxRecDepth 100000 in
theorem i_ValidSpaces_l4_step : ∀ (z4_0 : Bool) (z4_1 : Bool) (h4_0_0 : (List TMatrix)) (h4_0_1 : (List TMatrix)) (h4_0_2 : Int) (x : Int) (c : St → Option (Ex × St)), den i_ValidSpaces_V i_ValidSpaces_A (loopAt i_ValidSpaces_b 0) (i_ValidSpaces_l4_mk z4_0 z4_1 h4_0_0 h4_0_1 h4_0_2 x) (roundK i_ValidSpaces_l4_L.kp i_ValidSpaces_l4_L.kx c) = (i_ValidSpaces_l4 h4_0_0 h4_0_1 h4_0_2 x).run (roundR (i_ValidSpaces_l4_mk z4_0 z4_1 h4_0_0 h4_0_1 h4_0_2) (i_ValidSpaces_l4_out z4_0 z4_1 h4_0_0 h4_0_1 h4_0_2) c) := fun _ _ _ _ _ _ _ => by
  kernel_rfl
theorem i_ValidSpaces_l4_ok : LoopOK i_ValidSpaces_V i_ValidSpaces_A (loopAt i_ValidSpaces_b 0) i_ValidSpaces_l4_L := loopOK_of fun s e s' h => by
  generalize hs : restrict i_ValidSpaces_l4_L.kp s = s1 at h
  have h : (i_ValidSpaces_l4_D s1).run some = some (e, s') := h
  obtain ⟨z3, d2, e1, h_0⟩ := asImm_spec h
  obtain ⟨z6, d5, e4, h_1⟩ := asImm_spec h_0
  obtain ⟨d8, e7, h_2⟩ := asImmZ_spec h_1
  obtain ⟨d10, e9, h_3⟩ := asImmZ_spec h_2
  obtain ⟨y, hy, hz⟩ := mat_some h_3
  refine ⟨_, _, i_ValidSpaces_l4_mk z3 z6 d2 d5 d8, i_ValidSpaces_l4_out z3 z6 d2 d5 d8, i_ValidSpaces_l4 d2 d5 d8, d10, y, ?_, hy, ?_, i_ValidSpaces_l4_step z3 z6 d2 d5 d8⟩
  · subst hs; exact restrict_eq (T := [(0, (.imm z3 (.sl kMatrix) d2)), (11, (.imm z6 (.sl kMatrix) d5)), (12, (.imm true (.int .i64) d8)), (13, (.imm true (.int .i64) d10))]) (U := []) rfl rfl ⟨e1, e4, e7, e9, trivial⟩ trivial
  · rcases y with x | x <;> exact Option.some.inj hz
noncomputable def i_ValidSpaces_I : FnI := ⟨i_ValidSpaces_b, Try.f43.results.toList, Try.f43.resultTypes.toList, i_ValidSpaces_A⟩
noncomputable def i_ValidSpaces_out (_zp0 : Bool) (_p0 : (List TMatrix)) : Bool → CallOut := fun r => ⟨(.imm true .bool r), [], []⟩
set_option maxRecDepth 100000 in
theorem i_ValidSpaces_eq : ∀ (zp0 : Bool) (p0 : (List TMatrix)), denFn i_ValidSpaces_V i_ValidSpaces_I ⟨[(.imm zp0 (.sl kMatrix) p0)], []⟩ = (i_ValidSpaces p0).run fun r => some (i_ValidSpaces_out zp0 p0 r) := fun _ _ => by kernel_rfl
noncomputable def i_ValidSpaces_G (av : List AV) (rs : List Root) : Tre CallOut :=
  asCons av fun a0_ av0 =>
  asEnd av0 <|
  asEnd rs <|
  asImm (.sl kMatrix) a0_ fun z2 d1 =>
  .mat (i_ValidSpaces_F d1) fun r => .ret (i_ValidSpaces_out z2 d1 r)
noncomputable def i_ValidSpaces_c : Ctr := ⟨[], fun ci => i_ValidSpaces_G ci.args ci.roots, false⟩
theorem i_ValidSpaces_env : EnvOK Try.prog .none i_ValidSpaces_V := (envOK_cons i_size_Matrix_ok ent95 (envOK_cons i_within_ok ent57 (envOK_cons i_IsSpace_ok ent76 (envOK_cons i_SameMatrix_ok ent67 envOK_nil))))
set_option maxRecDepth 100000 in
theorem i_ValidSpaces_ok : Contract Try.prog .none 43 i_ValidSpaces_c := by
  have hl : LoopsOK i_ValidSpaces_V i_ValidSpaces_A i_ValidSpaces_b := (loopsOK_all (n := 2) (by kernel_rfl) fun k hk => by
      match k, hk with
      | 0, _ => exact loopOK_at (id := 4) (L := i_ValidSpaces_l4_L) (by kernel_rfl) (by kernel_rfl) i_ValidSpaces_l4_ok
      | 1, _ => exact loopOK_at (id := 9) (L := i_ValidSpaces_l9_L) (by kernel_rfl) (by kernel_rfl) i_ValidSpaces_l9_ok)
  refine (contract_of (F := i_ValidSpaces_I) tau_tys i_ValidSpaces_env Try.func43 (by kernel_rfl) (by kernel_rfl) (by kernel_rfl) hl []).weaken ?_
  rintro ⟨av, rs⟩ co h
  have h : (i_ValidSpaces_G av rs).run some = some co := h
  obtain ⟨a0_, av0, rfl, h_0⟩ := asCons_spec h
  obtain ⟨rfl, h_1⟩ := asEnd_spec h_0
  obtain ⟨rfl, h_2⟩ := asEnd_spec h_1
  obtain ⟨z2, d1, rfl, h_3⟩ := asImm_spec h_2
  exact fin_mat (i_ValidSpaces_eq z2 d1) h_3
end Go.Proofs.Ythnkanacjhlhhaa

namespace Go.Proofs.Ythnkanacjhlhhaa
open Go Go.Abs Go.Proofs
end Go.Proofs.Ythnkanacjhlhhaa

namespace Go.Proofs.Ythnkanacjhlhhaa
open Go Go.Abs Go.Proofs
noncomputable def i_sumOf_l3 (h3_0_0 : Int) (h3_0_2 : (List Int)) (h3_0_3 : Int) : (Int × Int) → Tre ((Int × Int) ⊕ Int) := fun s3 =>
  .cond (decide (s3.2 < h3_0_3))
    (.ite (0 ≤ s3.2 ∧ s3.2 < (h3_0_2.length : Int)) <|
    .mat (h3_0_2[s3.2.toNat]?) fun x1 =>
    .ite (0 ≤ s3.2) <|
    let v2 := iand .i64 (ishr .i64 h3_0_0 s3.2) 1
    .cond (decide (v2 = 1))
      (.ret (.inl (ixor .i64 s3.1 x1, iwrap .i64 (s3.2 + 1))))
      (.ret (.inl (s3.1, iwrap .i64 (s3.2 + 1)))))
    (.ret (.inr s3.1))
noncomputable def i_sumOf (p0 : (List Int)) (p1 : Int) : Tre Int :=
  .mat (loopF (i_sumOf_l3 p1 p0 (p0.length : Int)) (0, 0)) fun l3 =>
  .ret l3
noncomputable def i_sumOf_F (p0 : (List Int)) (p1 : Int) : Option Int := (i_sumOf p0 p1).run some
def sumR (xs : List Int) (a : Int) : Option Int := lim xs.length (timesL a xs)
theorem i_sumOf_spec (p0 : List Int) (p1 : Int) (y : Int) (h : sumR p0 p1 = some y) : i_sumOf_F p0 p1 = some y := by
  obtain ⟨hl, rfl⟩ := lim_some h
  unfold i_sumOf_F i_sumOf
  rw [Tre.run_mat]
  have := fold_loop' (xs := p0) (step := i_sumOf_l3 p1 p0 (p0.length : Int)) (fun i acc => (acc, (i : Int))) (fun i acc x => .inl (cond (bitAt p1 (i : Int)) (ixor .i64 acc x) acc)) id (by
    intro i acc x hx
    have hi : i < p0.length := (List.getElem?_eq_some_iff.1 hx).1
    unfold i_sumOf_l3
    rw [run_inb hx, Tre.run_ite, if_pos (by dsimp only; omega), Tre.run_cond]
    show cond (bitAt p1 (i : Int)) _ _ = _
    cases bitAt p1 (i : Int)
    · rw [cond_false, Tre.run_ret, iwrap_succ (by omega)]; rfl
    · rw [cond_true, Tre.run_ret, iwrap_succ (by omega)]; rfl)
    (by
    intro acc
    unfold i_sumOf_l3
    exact run_out) 0
  rw [show ((0 : Int), (0 : Int)) = (0, ((0 : Nat) : Int)) from rfl, this]
  rfl
noncomputable def i_sumOf_V : Env := ⟨tau, [], []⟩
noncomputable def i_sumOf_b : Code := (Try.f80.body).getD .skip
noncomputable def i_sumOf_l3_mk (z3_0 : Bool) (h3_0_0 : Int) (h3_0_2 : (List Int)) (h3_0_3 : Int) : (Int × Int) → St := fun x => stOf [(1, (.imm true (.int .i64) h3_0_0)), (5, (.imm true (.int .i64) x.1)), (8, (.imm z3_0 (.sl (.int .i64)) h3_0_2)), (9, (.imm true (.int .i64) h3_0_3)), (10, (.imm true (.int .i64) x.2))] []
noncomputable def i_sumOf_l3_out (_z3_0 : Bool) (_h3_0_0 : Int) (_h3_0_2 : (List Int)) (_h3_0_3 : Int) : Int → Ex × St := fun x => (.exit 0, stOf [(5, (.imm true (.int .i64) x))] [])
noncomputable def i_sumOf_l3_D (s : St) : Tre (Ex × St) :=
  asImmZ true (.int .i64) (s.tmps 1) fun d2 =>
  asImmZ true (.int .i64) (s.tmps 5) fun d4 =>
  asImm (.sl (.int .i64)) (s.tmps 8) fun z7 d6 =>
  asImmZ true (.int .i64) (s.tmps 9) fun d9 =>
  asImmZ true (.int .i64) (s.tmps 10) fun d11 =>
  .mat (loopF (i_sumOf_l3 d2 d6 d9) (d4, d11)) fun x => .ret (i_sumOf_l3_out z7 d2 d6 d9 x)
noncomputable def i_sumOf_l3_L : LoopI := ⟨([1, 5, 8, 9, 10], []), ([5], []), i_sumOf_l3_D⟩
noncomputable def i_sumOf_A : List (Nat × LoopI) := [(3, i_sumOf_l3_L)]
set_option maxRecDepth 100000 in
theorem i_sumOf_l3_step : ∀ (z3_0 : Bool) (h3_0_0 : Int) (h3_0_2 : (List Int)) (h3_0_3 : Int) (x : (Int × Int)) (c : St → Option (Ex × St)), den i_sumOf_V i_sumOf_A (loopAt i_sumOf_b 0) (i_sumOf_l3_mk z3_0 h3_0_0 h3_0_2 h3_0_3 x) (roundK i_sumOf_l3_L.kp i_sumOf_l3_L.kx c) = (i_sumOf_l3 h3_0_0 h3_0_2 h3_0_3 x).run (roundR (i_sumOf_l3_mk z3_0 h3_0_0 h3_0_2 h3_0_3) (i_sumOf_l3_out z3_0 h3_0_0 h3_0_2 h3_0_3) c) := fun _ _ _ _ _ _ => by
  kernel_rfl
theorem i_sumOf_l3_ok : LoopOK i_sumOf_V i_sumOf_A (loopAt i_sumOf_b 0) i_sumOf_l3_L := loopOK_of fun s e s' h => by
  generalize hs : restrict i_sumOf_l3_L.kp s = s1 at h
  have h : (i_sumOf_l3_D s1).run some = some (e, s') := h
  obtain ⟨d2, e1, h_0⟩ := asImmZ_spec h
  obtain ⟨d4, e3, h_1⟩ := asImmZ_spec h_0
  obtain ⟨z7, d6, e5, h_2⟩ := asImm_spec h_1
  obtain ⟨d9, e8, h_3⟩ := asImmZ_spec h_2
  obtain ⟨d11, e10, h_4⟩ := asImmZ_spec h_3
  obtain ⟨y, hy, hz⟩ := mat_ret h_4
  refine ⟨_, _, i_sumOf_l3_mk z7 d2 d6 d9, i_sumOf_l3_out z7 d2 d6 d9, i_sumOf_l3 d2 d6 d9, (d4, d11), y, ?_, hy, ?_, i_sumOf_l3_step z7 d2 d6 d9⟩
  · subst hs; exact restrict_eq (T := [(1, (.imm true (.int .i64) d2)), (5, (.imm true (.int .i64) d4)), (8, (.imm z7 (.sl (.int .i64)) d6)), (9, (.imm true (.int .i64) d9)), (10, (.imm true (.int .i64) d11))]) (U := []) rfl rfl ⟨e1, e3, e5, e8, e10, trivial⟩ trivial
  · exact Option.some.inj hz
noncomputable def i_sumOf_I : FnI := ⟨i_sumOf_b, Try.f80.results.toList, Try.f80.resultTypes.toList, i_sumOf_A⟩
noncomputable def i_sumOf_out (_zp0 : Bool) (_p0 : (List Int)) (_p1 : Int) : Int → CallOut := fun r => ⟨(.imm true (.int .i64) r), [], []⟩
set_option maxRecDepth 100000 in
theorem i_sumOf_eq : ∀ (zp0 : Bool) (p0 : (List Int)) (p1 : Int), denFn i_sumOf_V i_sumOf_I ⟨[(.imm zp0 (.sl (.int .i64)) p0), (.imm true (.int .i64) p1)], []⟩ = (i_sumOf p0 p1).run fun r => some (i_sumOf_out zp0 p0 p1 r) := fun _ _ _ => by kernel_rfl
noncomputable def i_sumOf_G (av : List AV) (rs : List Root) : Tre CallOut :=
  asCons av fun a0_ av0 =>
  asCons av0 fun a1_ av1 =>
  asEnd av1 <|
  asEnd rs <|
  asImm (.sl (.int .i64)) a0_ fun z2 d1 =>
  asImmZ true (.int .i64) a1_ fun d3 =>
  .mat (sumR d1 d3) fun r => .ret (i_sumOf_out z2 d1 d3 r)
noncomputable def i_sumOf_c : Ctr := ⟨[], fun ci => i_sumOf_G ci.args ci.roots, false⟩
theorem i_sumOf_env : EnvOK Try.prog .none i_sumOf_V := envOK_nil
set_option maxRecDepth 100000 in
theorem i_sumOf_ok : Contract Try.prog .none 80 i_sumOf_c := by
  have hl : LoopsOK i_sumOf_V i_sumOf_A i_sumOf_b := (loopsOK_all (n := 1) (by kernel_rfl) fun k hk => by
      match k, hk with
      | 0, _ => exact loopOK_at (id := 3) (L := i_sumOf_l3_L) (by kernel_rfl) (by kernel_rfl) i_sumOf_l3_ok)
  refine (contract_of (F := i_sumOf_I) tau_tys i_sumOf_env Try.func80 (by kernel_rfl) (by kernel_rfl) (by kernel_rfl) hl []).weaken ?_
  rintro ⟨av, rs⟩ co h
  have h : (i_sumOf_G av rs).run some = some co := h
  obtain ⟨a0_, av0, rfl, h_0⟩ := asCons_spec h
  obtain ⟨a1_, av1, rfl, h_1⟩ := asCons_spec h_0
  obtain ⟨rfl, h_2⟩ := asEnd_spec h_1
  obtain ⟨rfl, h_3⟩ := asEnd_spec h_2
  obtain ⟨z2, d1, rfl, h_4⟩ := asImm_spec h_3
  obtain ⟨d3, rfl, h_5⟩ := asImmZ_spec h_4
  exact fin_opt (i_sumOf_eq z2 d1 d3) (i_sumOf_spec d1 d3) h_5
end Go.Proofs.Ythnkanacjhlhhaa

namespace Go.Proofs.Ythnkanacjhlhhaa
open Go Go.Abs Go.Proofs
noncomputable abbrev slices_Sort_int64_4600_c : Ctr := sortCtr
theorem slices_Sort_int64_4600_walk : SortWalk Try.prog 130 := fun blk off cap zs w h1 h2 h3 => AnyG.slices_Sort_int Try.sortL blk off cap zs w h1 h2 h3
theorem slices_Sort_int64_4600_none : SortNone Try.prog 130 := fun a w => AnyG.slices_Sort_int_none Try.sortL a 0 w
theorem slices_Sort_int64_4600_ok : Contract Try.prog .none 130 slices_Sort_int64_4600_c := sort_ok slices_Sort_int64_4600_walk slices_Sort_int64_4600_none
end Go.Proofs.Ythnkanacjhlhhaa

namespace Go.Proofs.Ythnkanacjhlhhaa
open Go Go.Abs Go.Proofs
noncomputable def i_Matrix_vectors_l3 (h3_0_0 : Int) (h3_0_2 : TMatrix) : (Int × (List Int)) → Tre ((Int × (List Int)) ⊕ (List Int)) := fun s3 =>
  .cond (decide (s3.1 < h3_0_0))
    (.mat (sumR h3_0_2.2.1 s3.1) fun r2 =>
    .ite ((s3.2.length + 1) * 8 ≤ appendMax ∧ 1 ≤ 8) <|
    .ret (.inl (iwrap .i64 (s3.1 + 1), s3.2 ++ ([r2]))))
    (.ret (.inr s3.2))
noncomputable def i_Matrix_vectors (p0 : TMatrix) : Tre (List Int) :=
  .ite (0 ≤ (p0.2.1.length : Int)) <|
  let v1 := ishl .i64 1 (p0.2.1.length : Int)
  .mat (loopF (i_Matrix_vectors_l3 v1 p0) (0, [])) fun l3 =>
  .ite (l3.length < 4611686018427387904) <|
  .ret (sortI l3)
noncomputable def i_Matrix_vectors_F (p0 : TMatrix) : Option (List Int) := (i_Matrix_vectors p0).run some
noncomputable def i_Matrix_vectors_V : Env := ⟨tau, [(80, i_sumOf_c), (130, slices_Sort_int64_4600_c)], []⟩
noncomputable def i_Matrix_vectors_b : Code := (Try.f77.body).getD .skip
noncomputable def i_Matrix_vectors_l3_mk (z3_0 : Bool) (h3_0_0 : Int) (h3_0_2 : TMatrix) : (Int × (List Int)) → St := fun x => stOf [(1, (.ptr (3, 0) [])), (3, (.ref (5, 0) [])), (9, (.imm true (.int .i64) h3_0_0)), (10, (.imm true (.int .i64) x.1))] [((3, 0), some ⟨true, kMatrix, (.imm z3_0), h3_0_2⟩), ((5, 0), some ⟨false, (.sl (.int .i64)), .own, x.2⟩)]
noncomputable def i_Matrix_vectors_l3_out (_z3_0 : Bool) (_h3_0_0 : Int) (_h3_0_2 : TMatrix) : (List Int) → Ex × St := fun x => (.exit 0, stOf [(3, (.ref (5, 0) []))] [((5, 0), some ⟨false, (.sl (.int .i64)), .own, x⟩)])
noncomputable def i_Matrix_vectors_l3_D (s : St) : Tre (Ex × St) :=
  asPtr (3, 0) [] (s.tmps 1) <|
  asRef (5, 0) [] (s.tmps 3) <|
  asImmZ true (.int .i64) (s.tmps 9) fun d4 =>
  asImmZ true (.int .i64) (s.tmps 10) fun d6 =>
  asRoot true kMatrix (s.roots (3, 0)) fun m8 d9 =>
  asMImm m8 fun z10 =>
  asRoot false (.sl (.int .i64)) (s.roots (5, 0)) fun m12 d13 =>
  asM .own m12 <|
  .mat (loopF (i_Matrix_vectors_l3 d4 d9) (d6, d13)) fun x => .ret (i_Matrix_vectors_l3_out z10 d4 d9 x)
noncomputable def i_Matrix_vectors_l3_L : LoopI := ⟨([1, 3, 9, 10], [(3, 0), (5, 0)]), ([3], [(5, 0)]), i_Matrix_vectors_l3_D⟩
noncomputable def i_Matrix_vectors_A : List (Nat × LoopI) := [(3, i_Matrix_vectors_l3_L)]
set_option maxRecDepth 100000 in
theorem i_Matrix_vectors_l3_step : ∀ (z3_0 : Bool) (h3_0_0 : Int) (h3_0_2 : TMatrix) (x : (Int × (List Int))) (c : St → Option (Ex × St)), den i_Matrix_vectors_V i_Matrix_vectors_A (loopAt i_Matrix_vectors_b 0) (i_Matrix_vectors_l3_mk z3_0 h3_0_0 h3_0_2 x) (roundK i_Matrix_vectors_l3_L.kp i_Matrix_vectors_l3_L.kx c) = (i_Matrix_vectors_l3 h3_0_0 h3_0_2 x).run (roundR (i_Matrix_vectors_l3_mk z3_0 h3_0_0 h3_0_2) (i_Matrix_vectors_l3_out z3_0 h3_0_0 h3_0_2) c) := fun _ _ _ _ _ => by
  kernel_rfl
theorem i_Matrix_vectors_l3_ok : LoopOK i_Matrix_vectors_V i_Matrix_vectors_A (loopAt i_Matrix_vectors_b 0) i_Matrix_vectors_l3_L := loopOK_of fun s e s' h => by
  generalize hs : restrict i_Matrix_vectors_l3_L.kp s = s1 at h
  have h : (i_Matrix_vectors_l3_D s1).run some = some (e, s') := h
  obtain ⟨e1, h_0⟩ := asPtr_spec h
  obtain ⟨e2, h_1⟩ := asRef_spec h_0
  obtain ⟨d4, e3, h_2⟩ := asImmZ_spec h_1
  obtain ⟨d6, e5, h_3⟩ := asImmZ_spec h_2
  obtain ⟨m8, d9, e7, h_4⟩ := asRoot_spec h_3
  obtain ⟨z10, rfl, h_5⟩ := asMImm_spec h_4
  obtain ⟨m12, d13, e11, h_6⟩ := asRoot_spec h_5
  obtain ⟨rfl, h_7⟩ := asM_spec h_6
  obtain ⟨y, hy, hz⟩ := mat_ret h_7
  refine ⟨_, _, i_Matrix_vectors_l3_mk z10 d4 d9, i_Matrix_vectors_l3_out z10 d4 d9, i_Matrix_vectors_l3 d4 d9, (d6, d13), y, ?_, hy, ?_, i_Matrix_vectors_l3_step z10 d4 d9⟩
  · subst hs; exact restrict_eq (T := [(1, (.ptr (3, 0) [])), (3, (.ref (5, 0) [])), (9, (.imm true (.int .i64) d4)), (10, (.imm true (.int .i64) d6))]) (U := [((3, 0), some ⟨true, kMatrix, (.imm z10), d9⟩), ((5, 0), some ⟨false, (.sl (.int .i64)), .own, d13⟩)]) rfl rfl ⟨e1, e2, e3, e5, trivial⟩ ⟨e7, e11, trivial⟩
  · exact Option.some.inj hz
noncomputable def i_Matrix_vectors_I : FnI := ⟨i_Matrix_vectors_b, Try.f77.results.toList, Try.f77.resultTypes.toList, i_Matrix_vectors_A⟩
noncomputable def i_Matrix_vectors_out (_zp0 : Bool) (_p0 : TMatrix) : (List Int) → CallOut := fun r => ⟨(.ref (1, 0) []), [], [⟨false, (.sl (.int .i64)), .own, r⟩]⟩
set_option maxRecDepth 100000 in
theorem i_Matrix_vectors_eq : ∀ (zp0 : Bool) (p0 : TMatrix), denFn i_Matrix_vectors_V i_Matrix_vectors_I ⟨[(.imm zp0 kMatrix p0)], []⟩ = (i_Matrix_vectors p0).run fun r => some (i_Matrix_vectors_out zp0 p0 r) := fun _ _ => by kernel_rfl
noncomputable def i_Matrix_vectors_G (av : List AV) (rs : List Root) : Tre CallOut :=
  asCons av fun a0_ av0 =>
  asEnd av0 <|
  asEnd rs <|
  asImm kMatrix a0_ fun z2 d1 =>
  .mat (i_Matrix_vectors_F d1) fun r => .ret (i_Matrix_vectors_out z2 d1 r)
noncomputable def i_Matrix_vectors_c : Ctr := ⟨[], fun ci => i_Matrix_vectors_G ci.args ci.roots, false⟩
theorem i_Matrix_vectors_env : EnvOK Try.prog .none i_Matrix_vectors_V := (envOK_cons i_sumOf_ok ent80 (envOK_cons slices_Sort_int64_4600_ok ent130 envOK_nil))
set_option maxRecDepth 100000 in
theorem i_Matrix_vectors_ok : Contract Try.prog .none 77 i_Matrix_vectors_c := by
  have hl : LoopsOK i_Matrix_vectors_V i_Matrix_vectors_A i_Matrix_vectors_b := (loopsOK_all (n := 1) (by kernel_rfl) fun k hk => by
      match k, hk with
      | 0, _ => exact loopOK_at (id := 3) (L := i_Matrix_vectors_l3_L) (by kernel_rfl) (by kernel_rfl) i_Matrix_vectors_l3_ok)
  refine (contract_of (F := i_Matrix_vectors_I) tau_tys i_Matrix_vectors_env Try.func77 (by kernel_rfl) (by kernel_rfl) (by kernel_rfl) hl []).weaken ?_
  rintro ⟨av, rs⟩ co h
  have h : (i_Matrix_vectors_G av rs).run some = some co := h
  obtain ⟨a0_, av0, rfl, h_0⟩ := asCons_spec h
  obtain ⟨rfl, h_1⟩ := asEnd_spec h_0
  obtain ⟨rfl, h_2⟩ := asEnd_spec h_1
  obtain ⟨z2, d1, rfl, h_3⟩ := asImm_spec h_2
  exact fin_mat (i_Matrix_vectors_eq z2 d1) h_3
end Go.Proofs.Ythnkanacjhlhhaa

namespace Go.Proofs.Ythnkanacjhlhhaa
open Go Go.Abs Go.Proofs
noncomputable def i_isSpreadc1 (p0 : Int) : Tre Bool :=
  .ret (!decide (p0 = 1))
noncomputable def i_isSpreadc1_F (p0 : Int) : Option Bool := (i_isSpreadc1 p0).run some
theorem i_isSpreadc1_spec (p0 : Int) : i_isSpreadc1_F p0 = some (!decide (p0 = 1)) := rfl
noncomputable def i_isSpreadc1_V : Env := ⟨tau, [], []⟩
noncomputable def i_isSpreadc1_b : Code := (Try.f97.body).getD .skip
noncomputable def i_isSpreadc1_I : FnI := ⟨i_isSpreadc1_b, Try.f97.results.toList, Try.f97.resultTypes.toList, []⟩
noncomputable def i_isSpreadc1_out (_p0 : Int) : Bool → CallOut := fun r => ⟨(.imm true .bool r), [], []⟩
set_option maxRecDepth 100000 in
theorem i_isSpreadc1_eq : ∀ (p0 : Int), denFn i_isSpreadc1_V i_isSpreadc1_I ⟨[(.imm true (.int .i64) p0)], []⟩ = (i_isSpreadc1 p0).run fun r => some (i_isSpreadc1_out p0 r) := fun _ => by kernel_rfl
noncomputable def i_isSpreadc1_G (av : List AV) (rs : List Root) : Tre CallOut :=
  asCons av fun a0_ av0 =>
  asEnd av0 <|
  asEnd rs <|
  asImmZ true (.int .i64) a0_ fun d1 =>
  .ret (i_isSpreadc1_out d1 (!decide (d1 = 1)))
noncomputable def i_isSpreadc1_c : Ctr := ⟨[], fun ci => i_isSpreadc1_G ci.args ci.roots, false⟩
theorem i_isSpreadc1_env : EnvOK Try.prog .none i_isSpreadc1_V := envOK_nil
set_option maxRecDepth 100000 in
theorem i_isSpreadc1_ok : Contract Try.prog .none 97 i_isSpreadc1_c := by
  have hl : LoopsOK i_isSpreadc1_V [] i_isSpreadc1_b := loopsOK_nil (by kernel_rfl)
  refine (contract_of (F := i_isSpreadc1_I) tau_tys i_isSpreadc1_env Try.func97 (by kernel_rfl) (by kernel_rfl) (by kernel_rfl) hl []).weaken ?_
  rintro ⟨av, rs⟩ co h
  have h : (i_isSpreadc1_G av rs).run some = some co := h
  obtain ⟨a0_, av0, rfl, h_0⟩ := asCons_spec h
  obtain ⟨rfl, h_1⟩ := asEnd_spec h_0
  obtain ⟨rfl, h_2⟩ := asEnd_spec h_1
  obtain ⟨d1, rfl, h_3⟩ := asImmZ_spec h_2
  exact fin_ret (i_isSpreadc1_eq d1) (i_isSpreadc1_spec d1) h_3
end Go.Proofs.Ythnkanacjhlhhaa

namespace Go.Proofs.Ythnkanacjhlhhaa
open Go Go.Abs Go.Proofs
noncomputable def slices_IndexFunc_int_i_isSpreadc1_l2 (h2_0_0 : (List Int)) (h2_0_1 : Int) : Int → Tre (Int ⊕ (Int ⊕ Unit)) := fun s2 =>
  .cond (decide (s2 < h2_0_1))
    (.ite (0 ≤ s2 ∧ s2 < (h2_0_0.length : Int)) <|
    .mat (h2_0_0[s2.toNat]?) fun x1 =>
    .cond (!decide (x1 = 1))
      (.ret (.inr (.inl s2)))
      (.ret (.inl (iwrap .i64 (s2 + 1)))))
    (.ret (.inr (.inr ())))
noncomputable def slices_IndexFunc_int_i_isSpreadc1 (p0 : (List Int)) : Tre Int :=
  .mat (loopF (slices_IndexFunc_int_i_isSpreadc1_l2 p0 (p0.length : Int)) 0) fun l2 =>
  .alt l2
    (fun a3 =>
      .ret a3)
    (fun _ =>
      .ret (-1))
noncomputable def slices_IndexFunc_int_i_isSpreadc1_F (p0 : (List Int)) : Option Int := (slices_IndexFunc_int_i_isSpreadc1 p0).run some
noncomputable def slices_IndexFunc_int_i_isSpreadc1_V : Env := ⟨tau, [(97, i_isSpreadc1_c)], []⟩
noncomputable def slices_IndexFunc_int_i_isSpreadc1_b : Code := (Try.f139.body).getD .skip
noncomputable def slices_IndexFunc_int_i_isSpreadc1_l2_mk (z2_0 : Bool) (h2_0_0 : (List Int)) (h2_0_1 : Int) : Int → St := fun x => stOf [(0, (.imm z2_0 (.sl (.int .i64)) h2_0_0)), (1, (.fn 97 [])), (7, (.imm true (.int .i64) h2_0_1)), (8, (.imm true (.int .i64) x))] []
noncomputable def slices_IndexFunc_int_i_isSpreadc1_l2_out (_z2_0 : Bool) (_h2_0_0 : (List Int)) (_h2_0_1 : Int) : (Int ⊕ Unit) → Ex × St
  | .inl x => (.ret, stOf [(4, (.imm true (.int .i64) x))] [])
  | .inr x => (.exit 0, stOf [(4, .dead)] [])
noncomputable def slices_IndexFunc_int_i_isSpreadc1_l2_D (s : St) : Tre (Ex × St) :=
  asImm (.sl (.int .i64)) (s.tmps 0) fun z3 d2 =>
  asFn 97 [] (s.tmps 1) <|
  asImmZ true (.int .i64) (s.tmps 7) fun d6 =>
  asImmZ true (.int .i64) (s.tmps 8) fun d8 =>
  .mat (loopF (slices_IndexFunc_int_i_isSpreadc1_l2 d2 d6) d8) fun x => .alt x (fun a0 => .ret (slices_IndexFunc_int_i_isSpreadc1_l2_out z3 d2 d6 (.inl a0))) (fun b0 => .ret (slices_IndexFunc_int_i_isSpreadc1_l2_out z3 d2 d6 (.inr b0)))
noncomputable def slices_IndexFunc_int_i_isSpreadc1_l2_L : LoopI := ⟨([0, 1, 7, 8], []), ([4], []), slices_IndexFunc_int_i_isSpreadc1_l2_D⟩
noncomputable def slices_IndexFunc_int_i_isSpreadc1_A : List (Nat × LoopI) := [(2, slices_IndexFunc_int_i_isSpreadc1_l2_L)]
set_option maxRecDepth 100000 in
theorem slices_IndexFunc_int_i_isSpreadc1_l2_step : ∀ (z2_0 : Bool) (h2_0_0 : (List Int)) (h2_0_1 : Int) (x : Int) (c : St → Option (Ex × St)), den slices_IndexFunc_int_i_isSpreadc1_V slices_IndexFunc_int_i_isSpreadc1_A (loopAt slices_IndexFunc_int_i_isSpreadc1_b 0) (slices_IndexFunc_int_i_isSpreadc1_l2_mk z2_0 h2_0_0 h2_0_1 x) (roundK slices_IndexFunc_int_i_isSpreadc1_l2_L.kp slices_IndexFunc_int_i_isSpreadc1_l2_L.kx c) = (slices_IndexFunc_int_i_isSpreadc1_l2 h2_0_0 h2_0_1 x).run (roundR (slices_IndexFunc_int_i_isSpreadc1_l2_mk z2_0 h2_0_0 h2_0_1) (slices_IndexFunc_int_i_isSpreadc1_l2_out z2_0 h2_0_0 h2_0_1) c) := fun _ _ _ _ _ => by
  kernel_rfl
theorem slices_IndexFunc_int_i_isSpreadc1_l2_ok : LoopOK slices_IndexFunc_int_i_isSpreadc1_V slices_IndexFunc_int_i_isSpreadc1_A (loopAt slices_IndexFunc_int_i_isSpreadc1_b 0) slices_IndexFunc_int_i_isSpreadc1_l2_L := loopOK_of fun s e s' h => by
  generalize hs : restrict slices_IndexFunc_int_i_isSpreadc1_l2_L.kp s = s1 at h
  have h : (slices_IndexFunc_int_i_isSpreadc1_l2_D s1).run some = some (e, s') := h
  obtain ⟨z3, d2, e1, h_0⟩ := asImm_spec h
  obtain ⟨e4, h_1⟩ := asFn_spec h_0
  obtain ⟨d6, e5, h_2⟩ := asImmZ_spec h_1
  obtain ⟨d8, e7, h_3⟩ := asImmZ_spec h_2
  obtain ⟨y, hy, hz⟩ := mat_some h_3
  refine ⟨_, _, slices_IndexFunc_int_i_isSpreadc1_l2_mk z3 d2 d6, slices_IndexFunc_int_i_isSpreadc1_l2_out z3 d2 d6, slices_IndexFunc_int_i_isSpreadc1_l2 d2 d6, d8, y, ?_, hy, ?_, slices_IndexFunc_int_i_isSpreadc1_l2_step z3 d2 d6⟩
  · subst hs; exact restrict_eq (T := [(0, (.imm z3 (.sl (.int .i64)) d2)), (1, (.fn 97 [])), (7, (.imm true (.int .i64) d6)), (8, (.imm true (.int .i64) d8))]) (U := []) rfl rfl ⟨e1, e4, e5, e7, trivial⟩ trivial
  · rcases y with x | x <;> exact Option.some.inj hz
noncomputable def slices_IndexFunc_int_i_isSpreadc1_I : FnI := ⟨slices_IndexFunc_int_i_isSpreadc1_b, Try.f139.results.toList, Try.f139.resultTypes.toList, slices_IndexFunc_int_i_isSpreadc1_A⟩
noncomputable def slices_IndexFunc_int_i_isSpreadc1_out (_zp0 : Bool) (_p0 : (List Int)) : Int → CallOut := fun r => ⟨(.imm true (.int .i64) r), [], []⟩
set_option maxRecDepth 100000 in
theorem slices_IndexFunc_int_i_isSpreadc1_eq : ∀ (zp0 : Bool) (p0 : (List Int)), denFn slices_IndexFunc_int_i_isSpreadc1_V slices_IndexFunc_int_i_isSpreadc1_I ⟨[(.imm zp0 (.sl (.int .i64)) p0), (.fn 97 [])], []⟩ = (slices_IndexFunc_int_i_isSpreadc1 p0).run fun r => some (slices_IndexFunc_int_i_isSpreadc1_out zp0 p0 r) := fun _ _ => by kernel_rfl
noncomputable def slices_IndexFunc_int_i_isSpreadc1_G (av : List AV) (rs : List Root) : Tre CallOut :=
  asCons av fun a0_ av0 =>
  asCons av0 fun a1_ av1 =>
  asEnd av1 <|
  asEnd rs <|
  asImm (.sl (.int .i64)) a0_ fun z2 d1 =>
  asFn 97 [] a1_ <|
  .mat (slices_IndexFunc_int_i_isSpreadc1_F d1) fun r => .ret (slices_IndexFunc_int_i_isSpreadc1_out z2 d1 r)
noncomputable def slices_IndexFunc_int_i_isSpreadc1_c : Ctr := ⟨[], fun ci => slices_IndexFunc_int_i_isSpreadc1_G ci.args ci.roots, false⟩
theorem slices_IndexFunc_int_i_isSpreadc1_env : EnvOK Try.prog .none slices_IndexFunc_int_i_isSpreadc1_V := (envOK_cons i_isSpreadc1_ok ent97 envOK_nil)
set_option maxRecDepth 100000 in
theorem slices_IndexFunc_int_i_isSpreadc1_ok : Contract Try.prog .none 139 slices_IndexFunc_int_i_isSpreadc1_c := by
  have hl : LoopsOK slices_IndexFunc_int_i_isSpreadc1_V slices_IndexFunc_int_i_isSpreadc1_A slices_IndexFunc_int_i_isSpreadc1_b := (loopsOK_all (n := 1) (by kernel_rfl) fun k hk => by
      match k, hk with
      | 0, _ => exact loopOK_at (id := 2) (L := slices_IndexFunc_int_i_isSpreadc1_l2_L) (by kernel_rfl) (by kernel_rfl) slices_IndexFunc_int_i_isSpreadc1_l2_ok)
  refine (contract_of (F := slices_IndexFunc_int_i_isSpreadc1_I) tau_tys slices_IndexFunc_int_i_isSpreadc1_env Try.func139 (by kernel_rfl) (by kernel_rfl) (by kernel_rfl) hl []).weaken ?_
  rintro ⟨av, rs⟩ co h
  have h : (slices_IndexFunc_int_i_isSpreadc1_G av rs).run some = some co := h
  obtain ⟨a0_, av0, rfl, h_0⟩ := asCons_spec h
  obtain ⟨a1_, av1, rfl, h_1⟩ := asCons_spec h_0
  obtain ⟨rfl, h_2⟩ := asEnd_spec h_1
  obtain ⟨rfl, h_3⟩ := asEnd_spec h_2
  obtain ⟨z2, d1, rfl, h_4⟩ := asImm_spec h_3
  obtain ⟨rfl, h_5⟩ := asFn_spec h_4
  exact fin_mat (slices_IndexFunc_int_i_isSpreadc1_eq z2 d1) h_5
end Go.Proofs.Ythnkanacjhlhhaa

namespace Go.Proofs.Ythnkanacjhlhhaa
open Go Go.Abs Go.Proofs
noncomputable def slices_ContainsFunc_int_i_isSpreadc1 (p0 : (List Int)) : Tre Bool :=
  .mat (slices_IndexFunc_int_i_isSpreadc1_F p0) fun r1 =>
  .ret (decide (r1 ≥ 0))
noncomputable def slices_ContainsFunc_int_i_isSpreadc1_F (p0 : (List Int)) : Option Bool := (slices_ContainsFunc_int_i_isSpreadc1 p0).run some
noncomputable def slices_ContainsFunc_int_i_isSpreadc1_V : Env := ⟨tau, [(139, slices_IndexFunc_int_i_isSpreadc1_c)], []⟩
noncomputable def slices_ContainsFunc_int_i_isSpreadc1_b : Code := (Try.f96.body).getD .skip
noncomputable def slices_ContainsFunc_int_i_isSpreadc1_I : FnI := ⟨slices_ContainsFunc_int_i_isSpreadc1_b, Try.f96.results.toList, Try.f96.resultTypes.toList, []⟩
noncomputable def slices_ContainsFunc_int_i_isSpreadc1_out (_zp0 : Bool) (_p0 : (List Int)) : Bool → CallOut := fun r => ⟨(.imm true .bool r), [], []⟩
set_option maxRecDepth 100000 in
theorem slices_ContainsFunc_int_i_isSpreadc1_eq : ∀ (zp0 : Bool) (p0 : (List Int)), denFn slices_ContainsFunc_int_i_isSpreadc1_V slices_ContainsFunc_int_i_isSpreadc1_I ⟨[(.imm zp0 (.sl (.int .i64)) p0), (.fn 97 [])], []⟩ = (slices_ContainsFunc_int_i_isSpreadc1 p0).run fun r => some (slices_ContainsFunc_int_i_isSpreadc1_out zp0 p0 r) := fun _ _ => by kernel_rfl
noncomputable def slices_ContainsFunc_int_i_isSpreadc1_G (av : List AV) (rs : List Root) : Tre CallOut :=
  asCons av fun a0_ av0 =>
  asCons av0 fun a1_ av1 =>
  asEnd av1 <|
  asEnd rs <|
  asImm (.sl (.int .i64)) a0_ fun z2 d1 =>
  asFn 97 [] a1_ <|
  .mat (slices_ContainsFunc_int_i_isSpreadc1_F d1) fun r => .ret (slices_ContainsFunc_int_i_isSpreadc1_out z2 d1 r)
noncomputable def slices_ContainsFunc_int_i_isSpreadc1_c : Ctr := ⟨[], fun ci => slices_ContainsFunc_int_i_isSpreadc1_G ci.args ci.roots, false⟩
theorem slices_ContainsFunc_int_i_isSpreadc1_env : EnvOK Try.prog .none slices_ContainsFunc_int_i_isSpreadc1_V := (envOK_cons slices_IndexFunc_int_i_isSpreadc1_ok ent139 envOK_nil)
set_option maxRecDepth 100000 in
theorem slices_ContainsFunc_int_i_isSpreadc1_ok : Contract Try.prog .none 96 slices_ContainsFunc_int_i_isSpreadc1_c := by
  have hl : LoopsOK slices_ContainsFunc_int_i_isSpreadc1_V [] slices_ContainsFunc_int_i_isSpreadc1_b := loopsOK_nil (by kernel_rfl)
  refine (contract_of (F := slices_ContainsFunc_int_i_isSpreadc1_I) tau_tys slices_ContainsFunc_int_i_isSpreadc1_env Try.func96 (by kernel_rfl) (by kernel_rfl) (by kernel_rfl) hl []).weaken ?_
  rintro ⟨av, rs⟩ co h
  have h : (slices_ContainsFunc_int_i_isSpreadc1_G av rs).run some = some co := h
  obtain ⟨a0_, av0, rfl, h_0⟩ := asCons_spec h
  obtain ⟨a1_, av1, rfl, h_1⟩ := asCons_spec h_0
  obtain ⟨rfl, h_2⟩ := asEnd_spec h_1
  obtain ⟨rfl, h_3⟩ := asEnd_spec h_2
  obtain ⟨z2, d1, rfl, h_4⟩ := asImm_spec h_3
  obtain ⟨rfl, h_5⟩ := asFn_spec h_4
  exact fin_mat (slices_ContainsFunc_int_i_isSpreadc1_eq z2 d1) h_5
end Go.Proofs.Ythnkanacjhlhhaa

namespace Go.Proofs.Ythnkanacjhlhhaa
open Go Go.Abs Go.Proofs
noncomputable def i_isSpread_l6 (h6_0_3 : Int) (h6_0_6 : (List Int)) : (Int × (List Int)) → Tre ((Int × (List Int)) ⊕ (List Int)) := fun s6 =>
  .cond (decide (s6.1 < h6_0_3))
    (.ite (0 ≤ s6.1 ∧ s6.1 < (h6_0_6.length : Int)) <|
    .mat (h6_0_6[s6.1.toNat]?) fun x4 =>
    .ite (0 ≤ x4 ∧ x4 < (s6.2.length : Int)) <|
    .mat (s6.2[x4.toNat]?) fun x5 =>
    .ite (0 ≤ x4 ∧ x4 < (s6.2.length : Int)) <|
    .mat (s6.2[x4.toNat]?) fun _ =>
    let v7 := s6.2.set x4.toNat (iwrap .i64 (x5 + 1))
    .ret (.inl (iwrap .i64 (s6.1 + 1), v7)))
    (.ret (.inr s6.2))
noncomputable def i_isSpread_l3 (h3_0_0 : (List TMatrix)) (h3_0_1 : Int) : (Int × (List Int)) → Tre ((Int × (List Int)) ⊕ (List Int)) := fun s3 =>
  .cond (decide (s3.1 < h3_0_1))
    (.ite (0 ≤ s3.1 ∧ s3.1 < (h3_0_0.length : Int)) <|
    .mat (h3_0_0[s3.1.toNat]?) fun x2 =>
    .mat (i_Matrix_vectors_F x2) fun r3 =>
    .mat (loopF (i_isSpread_l6 (r3.length : Int) r3) (0, s3.2)) fun l8 =>
    .ret (.inl (iwrap .i64 (s3.1 + 1), l8)))
    (.ret (.inr s3.2))
noncomputable def i_isSpread (p0 : (List TMatrix)) : Tre Bool :=
  .ite ((0 : Int) ≤ 0 ∧ (0 : Int) < (p0.length : Int)) <|
  .mat (p0[0]?) fun x1 =>
  .ite (0 ≤ x1.1) <|
  .ite (((.int .i64) : K) = (.int .i64) ∧ 0 ≤ ishl .i64 1 x1.1 ∧ ishl .i64 1 x1.1 = ishl .i64 1 x1.1 ∧ ishl .i64 1 x1.1 * (8 : Nat) ≤ 140737488355328 ∧ 1 ≤ 8) <|
  .mat (loopF (i_isSpread_l3 p0 (p0.length : Int)) (0, List.replicate (ishl .i64 1 x1.1).toNat 0)) fun l9 =>
  .ite (0 ≤ (1 : Int) ∧ (1 : Int) ≤ (l9.length : Int) ∧ (l9.length : Int) ≤ (l9.length : Int)) <|
  .mat (slices_ContainsFunc_int_i_isSpreadc1_F ((l9.drop 1).take (((l9.length : Int) - 1).toNat))) fun r10 =>
  .ret (!r10)
noncomputable def i_isSpread_F (p0 : (List TMatrix)) : Option Bool := (i_isSpread p0).run some
-- more
theorem i_Matrix_vectors_is {c : Nat} {ns : List Nat} (hc : c ≤ 10) (hl : ns.length ≤ 10) (hn : ∀ n ∈ ns, n < 2 ^ c) : i_Matrix_vectors_F ((c : Int), up ns, ()) = some (sortI (up (vecN ns))) := by
  have hp := pow_small hl
  unfold i_Matrix_vectors_F i_Matrix_vectors
  dsimp only
  rw [Tre.run_ite, if_pos (by omega), up_len, ishl_pow hl, Tre.run_mat]
  have := st_loop (step := i_Matrix_vectors_l3 ((2 ^ ns.length : Nat) : Int) ((c : Int), up ns, ())) (fun h => ((h : Int), up ((List.range h).map fun a => selN a 0 ns))) (2 ^ ns.length) (b := up (vecN ns)) (by
    intro h hh
    unfold i_Matrix_vectors_l3
    dsimp only
    rw [Tre.run_cond, decide_eq_true (by omega), cond_true, run_some_mat (show sumR (up ns) (h : Int) = some _ from lim_of (by rw [up_len]; omega))]
    rw [Tre.run_ite, if_pos (by rw [up_len, List.length_map, List.length_range]; unfold appendMax; omega), Tre.run_ret, iwrap_succ (by omega)]
    rw [timesL_eq (b := c) (by omega) (by omega) (by omega) hn]
    rw [List.range_succ, List.map_append]
    simp [up])
    (by
    unfold i_Matrix_vectors_l3
    dsimp only
    rw [Tre.run_cond, decide_eq_false (by omega)]
    rfl) (2 ^ ns.length) 0 (by omega)
  rw [show ((0 : Int), ([] : List Int)) = (((0 : Nat) : Int), up ((List.range 0).map fun a => selN a 0 ns)) from rfl, this, Option.bind_some]
  rw [Tre.run_ite, if_pos (by rw [up_len]; unfold vecN; rw [List.length_map, List.length_range]; omega)]
  rfl
theorem i_isSpread_in {c : Nat} (hc : c ≤ 10) (w vs : List Nat) (hv : ∀ v ∈ vs, v < 2 ^ c) (hw : w.length + vs.length < 4611686018427387904) :
    loopF (i_isSpread_l6 ((up vs).length : Int) (up vs)) (0, cntL c w) = some (cntL c (w ++ vs)) := by
  have := st_loop (step := i_isSpread_l6 ((up vs).length : Int) (up vs)) (fun j => ((j : Int), cntL c (w ++ vs.take j))) vs.length (b := cntL c (w ++ vs)) (by
    intro j hj
    have hx : (up vs)[j]? = some ((vs[j] : Nat) : Int) := up_at (List.getElem?_eq_getElem hj)
    have hv' := hv _ (List.getElem_mem hj)
    unfold i_isSpread_l6
    dsimp only
    rw [run_inb hx]
    rw [Tre.run_ite, if_pos (by rw [cntL_len]; omega), Int.toNat_natCast, run_some_mat (cntL_at hv'), Tre.run_ite, if_pos (by rw [cntL_len]; omega), run_some_mat (cntL_at hv'), Tre.run_ret]
    have hcl : (w ++ vs.take j).count vs[j] ≤ w.length + vs.length := by
      refine Nat.le_trans List.count_le_length ?_
      rw [List.length_append, List.length_take]; omega
    rw [iwrap_succ (by omega), iwrap_i64 (by omega) (by omega), cntL_set hv', List.append_assoc]
    rw [show vs.take j ++ [vs[j]] = vs.take (j + 1) by rw [List.take_succ_eq_append_getElem hj]])
    (by
    unfold i_isSpread_l6
    dsimp only
    rw [Tre.run_cond, decide_eq_false (by rw [up_len]; omega), List.take_length]
    rfl) vs.length 0 (by omega)
  rw [show ((0 : Int), cntL c w) = (((0 : Nat) : Int), cntL c (w ++ vs.take 0)) from by simp, this]
theorem i_isSpread_idx (xs : List Int) (hl : xs.length ≤ 1048576) : slices_ContainsFunc_int_i_isSpreadc1_F xs = some (xs.any fun x => !decide (x = 1)) := by
  have h1 : slices_IndexFunc_int_i_isSpreadc1_F xs = some (idxI (fun x => !decide (x = 1)) 0 xs) := by
    unfold slices_IndexFunc_int_i_isSpreadc1_F slices_IndexFunc_int_i_isSpreadc1
    rw [Tre.run_mat, find_loop (xs := xs) (fun i x => cond (!decide (x = 1)) (some (.inl (i : Int))) none) (.inr ())]
    · rw [Option.bind_some, ← findE_idx (p := fun x => !decide (x = 1))]
      generalize findE _ _ _ _ = r
      cases r <;> rfl
    · intro i x hx
      have hi : i < xs.length := (List.getElem?_eq_some_iff.1 hx).1
      unfold slices_IndexFunc_int_i_isSpreadc1_l2
      rw [run_inb hx, Tre.run_cond]
      cases decide (x = 1)
      · rfl
      · simp only [Bool.not_true, cond_false, Tre.run_ret, iwrap_succ (show i < 4611686018427387904 by omega)]
    · unfold slices_IndexFunc_int_i_isSpreadc1_l2
      exact run_out
  unfold slices_ContainsFunc_int_i_isSpreadc1_F slices_ContainsFunc_int_i_isSpreadc1
  rw [run_some_mat h1, Tre.run_ret, idxI_any]
theorem vec_lt {c : Nat} {ns : List Nat} (hn : ∀ n ∈ ns, n < 2 ^ c) : ∀ v ∈ vecN ns, v < 2 ^ c := fun _ hv => sp_lt hn (vec_mem.1 hv)
theorem vec_len (ns : List Nat) : (vecN ns).length = 2 ^ ns.length := by unfold vecN; rw [List.length_map, List.length_range]
theorem i_isSpread_is (ss : List (Int × List Int × Unit)) (h : validSs ss = true) : i_isSpread_F ss = some (spreadV ss) := by
  obtain ⟨c1, c2, hf, l1, l2, hx⟩ := valid_up h
  have hp := pow_small c2
  have hp2 : 1 ≤ 2 ^ colsN ss := Nat.two_pow_pos _
  have hlen : ∀ i, (allV (ss.take i)).length ≤ i * 1024 := by
    have key : ∀ l : List (Int × List Int × Unit), (∀ x ∈ l, x ∈ ss) → (allV l).length ≤ l.length * 1024 := by
      intro l
      induction l with
      | nil => intro _; exact Nat.zero_le _
      | cons x l ih =>
        intro hl
        obtain ⟨ns, rfl, k1, _, _⟩ := hx x (hl x (.head _))
        have h1 := ih fun y hy => hl y (.tail _ hy)
        have h2 := pow_small k1
        unfold allV at h1 ⊢
        rw [List.flatMap_cons, List.length_append, show rowsN ((colsN ss : Int), up ns, ()) = ns from up_toNat ns, vec_len, List.length_cons]
        omega
    intro i
    refine Nat.le_trans (key _ fun x hx => List.mem_of_mem_take hx) ?_
    rw [List.length_take]
    omega
  unfold i_isSpread_F i_isSpread
  rw [Tre.run_ite, if_pos ⟨Int.le_refl _, by omega⟩, run_some_mat (first_at (by omega)), hf, Tre.run_ite, if_pos (by omega), ishl_pow c2, Tre.run_ite, if_pos ⟨rfl, by omega, rfl, by omega, by omega⟩, Int.toNat_natCast, Tre.run_mat]
  have := st_loop (step := i_isSpread_l3 ss (ss.length : Int)) (fun i => ((i : Int), cntL (colsN ss) (allV (ss.take i)))) ss.length (b := cntL (colsN ss) (allV ss)) (by
    intro i hi
    have hxi : ss[i]? = some ss[i] := List.getElem?_eq_getElem hi
    obtain ⟨ns, he, k1, k2, k3⟩ := hx _ (List.getElem_mem hi)
    unfold i_isSpread_l3
    dsimp only
    rw [run_inb hxi, he, run_some_mat (i_Matrix_vectors_is c2 k1 k2)]
    obtain ⟨vs, hvs, hperm⟩ := sortI_up (vecN ns)
    have hvl : vs.length ≤ 1024 := by rw [hperm.length_eq, vec_len]; exact pow_small k1
    have hwl := hlen i
    rw [hvs, run_some_mat (i_isSpread_in c2 (allV (ss.take i)) vs (fun v hv => vec_lt k2 v (hperm.mem_iff.1 hv)) (by omega)), Tre.run_ret, iwrap_succ (by omega)]
    congr 3
    refine cntL_congr fun r => ?_
    have ht : ss.take (i + 1) = ss.take i ++ [((colsN ss : Int), up ns, ())] := by rw [List.take_succ_eq_append_getElem hi, he]
    rw [List.count_append, hperm.count_eq, ht]
    unfold allV
    rw [List.flatMap_append, List.count_append, List.flatMap_cons, List.flatMap_nil, List.append_nil, show rowsN ((colsN ss : Int), up ns, ()) = ns from up_toNat ns])
    (by
    unfold i_isSpread_l3
    dsimp only
    rw [List.take_length]
    exact run_out) ss.length 0 (by omega)
  have h0 : List.replicate (2 ^ colsN ss) (0 : Int) = cntL (colsN ss) (allV (ss.take 0)) := by
    apply List.ext_getElem
    · rw [List.length_replicate, cntL_len]
    · intro j h1 h2
      unfold cntL allV
      simp
  rw [h0, show ((0 : Int), cntL (colsN ss) (allV (ss.take 0))) = (((0 : Nat) : Int), cntL (colsN ss) (allV (ss.take 0))) from rfl, this, Option.bind_some]
  rw [Tre.run_ite, if_pos (by rw [cntL_len]; omega)]
  have hd : ((cntL (colsN ss) (allV ss)).drop 1).take ((((cntL (colsN ss) (allV ss)).length : Int) - 1).toNat) = (List.range' 1 (2 ^ colsN ss - 1)).map fun r => (((allV ss).count r : Nat) : Int) := by
    rw [List.take_of_length_le (by rw [List.length_drop, cntL_len]; omega)]
    unfold cntL
    rw [← List.map_drop, List.range_eq_range', List.drop_range']
  rw [hd, run_some_mat (i_isSpread_idx _ (by rw [List.length_map, List.length_range']; omega)), Tre.run_ret]
  congr 1
  unfold spreadV
  rw [List.any_map, List.not_any_eq_all_not]
  rw [Bool.eq_iff_iff, List.all_eq_true, List.all_eq_true]
  have key : ∀ r, r ∈ List.range' 1 (2 ^ colsN ss - 1) → (!((fun x : Int => !decide (x = 1)) ∘ fun r => (((allV ss).count r : Nat) : Int)) r) = decide (ss.countP (fun m => inMx m (r : Int)) = 1) := by
    intro r hr
    rw [List.mem_range'_1] at hr
    simp only [Function.comp_apply, Bool.not_not]
    rw [allV_count c2 (by omega) ss hx]
    exact decide_eq_decide.2 (by omega)
  constructor
  · intro h r hr; rw [← key r hr]; exact h r hr
  · intro h r hr; rw [key r hr]; exact h r hr
noncomputable def i_isSpread_V : Env := ⟨tau, [(77, i_Matrix_vectors_c), (96, slices_ContainsFunc_int_i_isSpreadc1_c)], []⟩
noncomputable def i_isSpread_b : Code := (Try.f44.body).getD .skip
noncomputable def i_isSpread_l6_mk (z6_0 : Bool) (h6_0_0 : (List TMatrix)) (h6_0_1 : Int) (h6_0_2 : Int) (h6_0_3 : Int) (h6_0_6 : (List Int)) : (Int × (List Int)) → St := fun x => stOf [(3, (.ref (5, 0) [])), (14, (.imm z6_0 (.sl kMatrix) h6_0_0)), (15, (.imm true (.int .i64) h6_0_1)), (16, (.imm true (.int .i64) h6_0_2)), (21, (.ref (23, 0) [])), (22, (.imm true (.int .i64) h6_0_3)), (23, (.imm true (.int .i64) x.1))] [((5, 0), some ⟨false, (.sl (.int .i64)), .own, x.2⟩), ((23, 0), some ⟨false, (.sl (.int .i64)), .own, h6_0_6⟩)]
noncomputable def i_isSpread_l6_out (z6_0 : Bool) (h6_0_0 : (List TMatrix)) (h6_0_1 : Int) (h6_0_2 : Int) (_h6_0_3 : Int) (_h6_0_6 : (List Int)) : (List Int) → Ex × St := fun x => (.exit 2, stOf [(3, (.ref (5, 0) [])), (14, (.imm z6_0 (.sl kMatrix) h6_0_0)), (15, (.imm true (.int .i64) h6_0_1)), (16, (.imm true (.int .i64) h6_0_2))] [((5, 0), some ⟨false, (.sl (.int .i64)), .own, x⟩)])
noncomputable def i_isSpread_l6_D (s : St) : Tre (Ex × St) :=
  asRef (5, 0) [] (s.tmps 3) <|
  asImm (.sl kMatrix) (s.tmps 14) fun z4 d3 =>
  asImmZ true (.int .i64) (s.tmps 15) fun d6 =>
  asImmZ true (.int .i64) (s.tmps 16) fun d8 =>
  asRef (23, 0) [] (s.tmps 21) <|
  asImmZ true (.int .i64) (s.tmps 22) fun d11 =>
  asImmZ true (.int .i64) (s.tmps 23) fun d13 =>
  asRoot false (.sl (.int .i64)) (s.roots (5, 0)) fun m15 d16 =>
  asM .own m15 <|
  asRoot false (.sl (.int .i64)) (s.roots (23, 0)) fun m18 d19 =>
  asM .own m18 <|
  .mat (loopF (i_isSpread_l6 d11 d19) (d13, d16)) fun x => .ret (i_isSpread_l6_out z4 d3 d6 d8 d11 d19 x)
noncomputable def i_isSpread_l6_L : LoopI := ⟨([3, 14, 15, 16, 21, 22, 23], [(5, 0), (23, 0)]), ([3, 14, 15, 16], [(5, 0)]), i_isSpread_l6_D⟩
noncomputable def i_isSpread_l3_mk (z3_0 : Bool) (h3_0_0 : (List TMatrix)) (h3_0_1 : Int) : (Int × (List Int)) → St := fun x => stOf [(3, (.ref (5, 0) [])), (14, (.imm z3_0 (.sl kMatrix) h3_0_0)), (15, (.imm true (.int .i64) h3_0_1)), (16, (.imm true (.int .i64) x.1))] [((5, 0), some ⟨false, (.sl (.int .i64)), .own, x.2⟩)]
noncomputable def i_isSpread_l3_out (_z3_0 : Bool) (_h3_0_0 : (List TMatrix)) (_h3_0_1 : Int) : (List Int) → Ex × St := fun x => (.exit 0, stOf [(3, (.ref (5, 0) []))] [((5, 0), some ⟨false, (.sl (.int .i64)), .own, x⟩)])
noncomputable def i_isSpread_l3_D (s : St) : Tre (Ex × St) :=
  asRef (5, 0) [] (s.tmps 3) <|
  asImm (.sl kMatrix) (s.tmps 14) fun z4 d3 =>
  asImmZ true (.int .i64) (s.tmps 15) fun d6 =>
  asImmZ true (.int .i64) (s.tmps 16) fun d8 =>
  asRoot false (.sl (.int .i64)) (s.roots (5, 0)) fun m10 d11 =>
  asM .own m10 <|
  .mat (loopF (i_isSpread_l3 d3 d6) (d8, d11)) fun x => .ret (i_isSpread_l3_out z4 d3 d6 x)
noncomputable def i_isSpread_l3_L : LoopI := ⟨([3, 14, 15, 16], [(5, 0)]), ([3], [(5, 0)]), i_isSpread_l3_D⟩
noncomputable def i_isSpread_A : List (Nat × LoopI) := [(6, i_isSpread_l6_L), (3, i_isSpread_l3_L)]
set_option maxRecDepth 100000 in
theorem i_isSpread_l6_step : ∀ (z6_0 : Bool) (h6_0_0 : (List TMatrix)) (h6_0_1 : Int) (h6_0_2 : Int) (h6_0_3 : Int) (h6_0_6 : (List Int)) (x : (Int × (List Int))) (c : St → Option (Ex × St)), den i_isSpread_V i_isSpread_A (loopAt i_isSpread_b 1) (i_isSpread_l6_mk z6_0 h6_0_0 h6_0_1 h6_0_2 h6_0_3 h6_0_6 x) (roundK i_isSpread_l6_L.kp i_isSpread_l6_L.kx c) = (i_isSpread_l6 h6_0_3 h6_0_6 x).run (roundR (i_isSpread_l6_mk z6_0 h6_0_0 h6_0_1 h6_0_2 h6_0_3 h6_0_6) (i_isSpread_l6_out z6_0 h6_0_0 h6_0_1 h6_0_2 h6_0_3 h6_0_6) c) := fun _ _ _ _ _ _ _ _ => by
  kernel_rfl
theorem i_isSpread_l6_ok : LoopOK i_isSpread_V i_isSpread_A (loopAt i_isSpread_b 1) i_isSpread_l6_L := loopOK_of fun s e s' h => by
  generalize hs : restrict i_isSpread_l6_L.kp s = s1 at h
  have h : (i_isSpread_l6_D s1).run some = some (e, s') := h
  obtain ⟨e1, h_0⟩ := asRef_spec h
  obtain ⟨z4, d3, e2, h_1⟩ := asImm_spec h_0
  obtain ⟨d6, e5, h_2⟩ := asImmZ_spec h_1
  obtain ⟨d8, e7, h_3⟩ := asImmZ_spec h_2
  obtain ⟨e9, h_4⟩ := asRef_spec h_3
  obtain ⟨d11, e10, h_5⟩ := asImmZ_spec h_4
  obtain ⟨d13, e12, h_6⟩ := asImmZ_spec h_5
  obtain ⟨m15, d16, e14, h_7⟩ := asRoot_spec h_6
  obtain ⟨rfl, h_8⟩ := asM_spec h_7
  obtain ⟨m18, d19, e17, h_9⟩ := asRoot_spec h_8
  obtain ⟨rfl, h_10⟩ := asM_spec h_9
  obtain ⟨y, hy, hz⟩ := mat_ret h_10
  refine ⟨_, _, i_isSpread_l6_mk z4 d3 d6 d8 d11 d19, i_isSpread_l6_out z4 d3 d6 d8 d11 d19, i_isSpread_l6 d11 d19, (d13, d16), y, ?_, hy, ?_, i_isSpread_l6_step z4 d3 d6 d8 d11 d19⟩
  · subst hs; exact restrict_eq (T := [(3, (.ref (5, 0) [])), (14, (.imm z4 (.sl kMatrix) d3)), (15, (.imm true (.int .i64) d6)), (16, (.imm true (.int .i64) d8)), (21, (.ref (23, 0) [])), (22, (.imm true (.int .i64) d11)), (23, (.imm true (.int .i64) d13))]) (U := [((5, 0), some ⟨false, (.sl (.int .i64)), .own, d16⟩), ((23, 0), some ⟨false, (.sl (.int .i64)), .own, d19⟩)]) rfl rfl ⟨e1, e2, e5, e7, e9, e10, e12, trivial⟩ ⟨e14, e17, trivial⟩
  · exact Option.some.inj hz
set_option maxRecDepth 100000 in
theorem i_isSpread_l3_step : ∀ (z3_0 : Bool) (h3_0_0 : (List TMatrix)) (h3_0_1 : Int) (x : (Int × (List Int))) (c : St → Option (Ex × St)), den i_isSpread_V i_isSpread_A (loopAt i_isSpread_b 0) (i_isSpread_l3_mk z3_0 h3_0_0 h3_0_1 x) (roundK i_isSpread_l3_L.kp i_isSpread_l3_L.kx c) = (i_isSpread_l3 h3_0_0 h3_0_1 x).run (roundR (i_isSpread_l3_mk z3_0 h3_0_0 h3_0_1) (i_isSpread_l3_out z3_0 h3_0_0 h3_0_1) c) := fun _ _ _ _ _ => by
  kernel_rfl
theorem i_isSpread_l3_ok : LoopOK i_isSpread_V i_isSpread_A (loopAt i_isSpread_b 0) i_isSpread_l3_L := loopOK_of fun s e s' h => by
  generalize hs : restrict i_isSpread_l3_L.kp s = s1 at h
  have h : (i_isSpread_l3_D s1).run some = some (e, s') := h
  obtain ⟨e1, h_0⟩ := asRef_spec h
  obtain ⟨z4, d3, e2, h_1⟩ := asImm_spec h_0
  obtain ⟨d6, e5, h_2⟩ := asImmZ_spec h_1
  obtain ⟨d8, e7, h_3⟩ := asImmZ_spec h_2
  obtain ⟨m10, d11, e9, h_4⟩ := asRoot_spec h_3
  obtain ⟨rfl, h_5⟩ := asM_spec h_4
  obtain ⟨y, hy, hz⟩ := mat_ret h_5
  refine ⟨_, _, i_isSpread_l3_mk z4 d3 d6, i_isSpread_l3_out z4 d3 d6, i_isSpread_l3 d3 d6, (d8, d11), y, ?_, hy, ?_, i_isSpread_l3_step z4 d3 d6⟩
  · subst hs; exact restrict_eq (T := [(3, (.ref (5, 0) [])), (14, (.imm z4 (.sl kMatrix) d3)), (15, (.imm true (.int .i64) d6)), (16, (.imm true (.int .i64) d8))]) (U := [((5, 0), some ⟨false, (.sl (.int .i64)), .own, d11⟩)]) rfl rfl ⟨e1, e2, e5, e7, trivial⟩ ⟨e9, trivial⟩
  · exact Option.some.inj hz
noncomputable def i_isSpread_I : FnI := ⟨i_isSpread_b, Try.f44.results.toList, Try.f44.resultTypes.toList, i_isSpread_A⟩
noncomputable def i_isSpread_out (_zp0 : Bool) (_p0 : (List TMatrix)) : Bool → CallOut := fun r => ⟨(.imm true .bool r), [], []⟩
set_option maxRecDepth 100000 in
theorem i_isSpread_eq : ∀ (zp0 : Bool) (p0 : (List TMatrix)), denFn i_isSpread_V i_isSpread_I ⟨[(.imm zp0 (.sl kMatrix) p0)], []⟩ = (i_isSpread p0).run fun r => some (i_isSpread_out zp0 p0 r) := fun _ _ => by kernel_rfl
noncomputable def i_isSpread_G (av : List AV) (rs : List Root) : Tre CallOut :=
  asCons av fun a0_ av0 =>
  asEnd av0 <|
  asEnd rs <|
  asImm (.sl kMatrix) a0_ fun z2 d1 =>
  .mat (i_isSpread_F d1) fun r => .ret (i_isSpread_out z2 d1 r)
noncomputable def i_isSpread_c : Ctr := ⟨[], fun ci => i_isSpread_G ci.args ci.roots, false⟩
theorem i_isSpread_env : EnvOK Try.prog .none i_isSpread_V := (envOK_cons i_Matrix_vectors_ok ent77 (envOK_cons slices_ContainsFunc_int_i_isSpreadc1_ok ent96 envOK_nil))
set_option maxRecDepth 100000 in
theorem i_isSpread_ok : Contract Try.prog .none 44 i_isSpread_c := by
  have hl : LoopsOK i_isSpread_V i_isSpread_A i_isSpread_b := (loopsOK_all (n := 2) (by kernel_rfl) fun k hk => by
      match k, hk with
      | 0, _ => exact loopOK_at (id := 3) (L := i_isSpread_l3_L) (by kernel_rfl) (by kernel_rfl) i_isSpread_l3_ok
      | 1, _ => exact loopOK_at (id := 6) (L := i_isSpread_l6_L) (by kernel_rfl) (by kernel_rfl) i_isSpread_l6_ok)
  refine (contract_of (F := i_isSpread_I) tau_tys i_isSpread_env Try.func44 (by kernel_rfl) (by kernel_rfl) (by kernel_rfl) hl []).weaken ?_
  rintro ⟨av, rs⟩ co h
  have h : (i_isSpread_G av rs).run some = some co := h
  obtain ⟨a0_, av0, rfl, h_0⟩ := asCons_spec h
  obtain ⟨rfl, h_1⟩ := asEnd_spec h_0
  obtain ⟨rfl, h_2⟩ := asEnd_spec h_1
  obtain ⟨z2, d1, rfl, h_3⟩ := asImm_spec h_2
  exact fin_mat (i_isSpread_eq z2 d1) h_3
end Go.Proofs.Ythnkanacjhlhhaa

namespace Go.Proofs.Ythnkanacjhlhhaa
open Go Go.Abs Go.Proofs
noncomputable def slices_Grow_int64_8ac3 (p0 : Int) : Tre (List Int) :=
  .cond (decide (p0 < 0))
    (.fail)
    (.cond (decide (iwrap .i64 (p0 - 0) > 0))
      (.ite ((((.int .i64) : K) = (.int .i64) ∧ 0 ≤ (iwrap .i64 (p0 - 0)) ∧ (iwrap .i64 (p0 - 0)).toNat * 8 ≤ appendMax ∧ 1 ≤ 8)) <|
      let v1 := List.replicate (iwrap .i64 (p0 - 0)).toNat 0
      .ite (0 ≤ (0 : Int) ∧ (0 : Int) ≤ (0 : Int) ∧ (0 : Int) ≤ (v1.length : Int)) <|
      .ret ((v1.drop 0).take 0))
      (.ret []))
noncomputable def slices_Grow_int64_8ac3_F (p0 : Int) : Option (List Int) := (slices_Grow_int64_8ac3 p0).run some
noncomputable def slices_Grow_int64_8ac3_V : Env := ⟨tau, [], []⟩
noncomputable def slices_Grow_int64_8ac3_b : Code := (Try.f164.body).getD .skip
noncomputable def slices_Grow_int64_8ac3_I : FnI := ⟨slices_Grow_int64_8ac3_b, Try.f164.results.toList, Try.f164.resultTypes.toList, []⟩
noncomputable def slices_Grow_int64_8ac3_out (_p0 : Int) : (List Int) → CallOut := fun r => ⟨(.ref (1, 0) []), [], [⟨false, (.sl (.int .i64)), .own, r⟩]⟩
set_option maxRecDepth 100000 in
theorem slices_Grow_int64_8ac3_eq : ∀ (p0 : Int), denFn slices_Grow_int64_8ac3_V slices_Grow_int64_8ac3_I ⟨[.nil, (.imm true (.int .i64) p0)], []⟩ = (slices_Grow_int64_8ac3 p0).run fun r => some (slices_Grow_int64_8ac3_out p0 r) := fun _ => by kernel_rfl
noncomputable def slices_Grow_int64_8ac3_G (av : List AV) (rs : List Root) : Tre CallOut :=
  asCons av fun a0_ av0 =>
  asCons av0 fun a1_ av1 =>
  asEnd av1 <|
  asEnd rs <|
  asNil a0_ <|
  asImmZ true (.int .i64) a1_ fun d1 =>
  .mat (slices_Grow_int64_8ac3_F d1) fun r => .ret (slices_Grow_int64_8ac3_out d1 r)
noncomputable def slices_Grow_int64_8ac3_c : Ctr := ⟨[0], fun ci => slices_Grow_int64_8ac3_G ci.args ci.roots, false⟩
theorem slices_Grow_int64_8ac3_env : EnvOK Try.prog .none slices_Grow_int64_8ac3_V := envOK_nil
set_option maxRecDepth 100000 in
theorem slices_Grow_int64_8ac3_ok : Contract Try.prog .none 164 slices_Grow_int64_8ac3_c := by
  have hl : LoopsOK slices_Grow_int64_8ac3_V [] slices_Grow_int64_8ac3_b := loopsOK_nil (by kernel_rfl)
  refine (contract_of (F := slices_Grow_int64_8ac3_I) tau_tys slices_Grow_int64_8ac3_env Try.func164 (by kernel_rfl) (by kernel_rfl) (by kernel_rfl) hl [0]).weaken ?_
  rintro ⟨av, rs⟩ co h
  have h : (slices_Grow_int64_8ac3_G av rs).run some = some co := h
  obtain ⟨a0_, av0, rfl, h_0⟩ := asCons_spec h
  obtain ⟨a1_, av1, rfl, h_1⟩ := asCons_spec h_0
  obtain ⟨rfl, h_2⟩ := asEnd_spec h_1
  obtain ⟨rfl, h_3⟩ := asEnd_spec h_2
  obtain ⟨rfl, h_4⟩ := asNil_spec h_3
  obtain ⟨d1, rfl, h_5⟩ := asImmZ_spec h_4
  exact fin_mat (slices_Grow_int64_8ac3_eq d1) h_5
end Go.Proofs.Ythnkanacjhlhhaa

namespace Go.Proofs.Ythnkanacjhlhhaa
open Go Go.Abs Go.Proofs
noncomputable def slices_Concat_int64_l3 (h3_0_2 : (List (List Int))) (h3_0_3 : Int) : (Int × Int) → Tre ((Int × Int) ⊕ Int) := fun s3 =>
  .cond (decide (s3.2 < h3_0_3))
    (.ite (0 ≤ s3.2 ∧ s3.2 < (h3_0_2.length : Int)) <|
    .mat (h3_0_2[s3.2.toNat]?) fun x1 =>
    let v2 := iwrap .i64 (s3.1 + (x1.length : Int))
    .cond (decide (v2 < 0))
      (.fail)
      (.ret (.inl (v2, iwrap .i64 (s3.2 + 1)))))
    (.ret (.inr s3.1))
noncomputable def slices_Concat_int64_l11 (h11_0_0 : (List (List Int))) (h11_0_1 : Int) : (Int × (List Int)) → Tre ((Int × (List Int)) ⊕ (List Int)) := fun s11 =>
  .cond (decide (s11.1 < h11_0_1))
    (.ite (0 ≤ s11.1 ∧ s11.1 < (h11_0_0.length : Int)) <|
    .mat (h11_0_0[s11.1.toNat]?) fun x5 =>
    .ite ((s11.2.length + x5.length) * 8 ≤ appendMax ∧ 1 ≤ 8) <|
    .ret (.inl (iwrap .i64 (s11.1 + 1), s11.2 ++ x5)))
    (.ret (.inr s11.2))
noncomputable def slices_Concat_int64 (p0 : (List (List Int))) : Tre (List Int) :=
  .mat (loopF (slices_Concat_int64_l3 p0 (p0.length : Int)) (0, 0)) fun l3 =>
  .mat (slices_Grow_int64_8ac3_F l3) fun r4 =>
  .mat (loopF (slices_Concat_int64_l11 p0 (p0.length : Int)) (0, r4)) fun l6 =>
  .ret l6
noncomputable def slices_Concat_int64_F (p0 : (List (List Int))) : Option (List Int) := (slices_Concat_int64 p0).run some
noncomputable def slices_Concat_int64_V : Env := ⟨tau, [(164, slices_Grow_int64_8ac3_c)], []⟩
noncomputable def slices_Concat_int64_b : Code := (Try.f140.body).getD .skip
noncomputable def slices_Concat_int64_l3_mk (z3_0 : Bool) (z3_1 : Bool) (h3_0_0 : (List (List Int))) (h3_0_2 : (List (List Int))) (h3_0_3 : Int) : (Int × Int) → St := fun x => stOf [(0, (.imm z3_0 (.sl (.sl (.int .i64))) h3_0_0)), (3, (.imm true (.int .i64) x.1)), (9, (.imm z3_1 (.sl (.sl (.int .i64))) h3_0_2)), (10, (.imm true (.int .i64) h3_0_3)), (11, (.imm true (.int .i64) x.2))] []
noncomputable def slices_Concat_int64_l3_out (z3_0 : Bool) (_z3_1 : Bool) (h3_0_0 : (List (List Int))) (_h3_0_2 : (List (List Int))) (_h3_0_3 : Int) : Int → Ex × St := fun x => (.exit 0, stOf [(0, (.imm z3_0 (.sl (.sl (.int .i64))) h3_0_0)), (3, (.imm true (.int .i64) x))] [])
noncomputable def slices_Concat_int64_l3_D (s : St) : Tre (Ex × St) :=
  asImm (.sl (.sl (.int .i64))) (s.tmps 0) fun z3 d2 =>
  asImmZ true (.int .i64) (s.tmps 3) fun d5 =>
  asImm (.sl (.sl (.int .i64))) (s.tmps 9) fun z8 d7 =>
  asImmZ true (.int .i64) (s.tmps 10) fun d10 =>
  asImmZ true (.int .i64) (s.tmps 11) fun d12 =>
  .mat (loopF (slices_Concat_int64_l3 d7 d10) (d5, d12)) fun x => .ret (slices_Concat_int64_l3_out z3 z8 d2 d7 d10 x)
noncomputable def slices_Concat_int64_l3_L : LoopI := ⟨([0, 3, 9, 10, 11], []), ([0, 3], []), slices_Concat_int64_l3_D⟩
noncomputable def slices_Concat_int64_l11_mk (z11_0 : Bool) (h11_0_0 : (List (List Int))) (h11_0_1 : Int) : (Int × (List Int)) → St := fun x => stOf [(6, (.ref (8, 0) [])), (25, (.imm z11_0 (.sl (.sl (.int .i64))) h11_0_0)), (26, (.imm true (.int .i64) h11_0_1)), (27, (.imm true (.int .i64) x.1))] [((8, 0), some ⟨false, (.sl (.int .i64)), .own, x.2⟩)]
noncomputable def slices_Concat_int64_l11_out (_z11_0 : Bool) (_h11_0_0 : (List (List Int))) (_h11_0_1 : Int) : (List Int) → Ex × St := fun x => (.exit 2, stOf [(6, (.ref (8, 0) []))] [((8, 0), some ⟨false, (.sl (.int .i64)), .own, x⟩)])
noncomputable def slices_Concat_int64_l11_D (s : St) : Tre (Ex × St) :=
  asRef (8, 0) [] (s.tmps 6) <|
  asImm (.sl (.sl (.int .i64))) (s.tmps 25) fun z4 d3 =>
  asImmZ true (.int .i64) (s.tmps 26) fun d6 =>
  asImmZ true (.int .i64) (s.tmps 27) fun d8 =>
  asRoot false (.sl (.int .i64)) (s.roots (8, 0)) fun m10 d11 =>
  asM .own m10 <|
  .mat (loopF (slices_Concat_int64_l11 d3 d6) (d8, d11)) fun x => .ret (slices_Concat_int64_l11_out z4 d3 d6 x)
noncomputable def slices_Concat_int64_l11_L : LoopI := ⟨([6, 25, 26, 27], [(8, 0)]), ([6], [(8, 0)]), slices_Concat_int64_l11_D⟩
noncomputable def slices_Concat_int64_A : List (Nat × LoopI) := [(3, slices_Concat_int64_l3_L), (11, slices_Concat_int64_l11_L)]
set_option maxRecDepth 100000 in
theorem slices_Concat_int64_l3_step : ∀ (z3_0 : Bool) (z3_1 : Bool) (h3_0_0 : (List (List Int))) (h3_0_2 : (List (List Int))) (h3_0_3 : Int) (x : (Int × Int)) (c : St → Option (Ex × St)), den slices_Concat_int64_V slices_Concat_int64_A (loopAt slices_Concat_int64_b 0) (slices_Concat_int64_l3_mk z3_0 z3_1 h3_0_0 h3_0_2 h3_0_3 x) (roundK slices_Concat_int64_l3_L.kp slices_Concat_int64_l3_L.kx c) = (slices_Concat_int64_l3 h3_0_2 h3_0_3 x).run (roundR (slices_Concat_int64_l3_mk z3_0 z3_1 h3_0_0 h3_0_2 h3_0_3) (slices_Concat_int64_l3_out z3_0 z3_1 h3_0_0 h3_0_2 h3_0_3) c) := fun _ _ _ _ _ _ _ => by
  kernel_rfl
theorem slices_Concat_int64_l3_ok : LoopOK slices_Concat_int64_V slices_Concat_int64_A (loopAt slices_Concat_int64_b 0) slices_Concat_int64_l3_L := loopOK_of fun s e s' h => by
  generalize hs : restrict slices_Concat_int64_l3_L.kp s = s1 at h
  have h : (slices_Concat_int64_l3_D s1).run some = some (e, s') := h
  obtain ⟨z3, d2, e1, h_0⟩ := asImm_spec h
  obtain ⟨d5, e4, h_1⟩ := asImmZ_spec h_0
  obtain ⟨z8, d7, e6, h_2⟩ := asImm_spec h_1
  obtain ⟨d10, e9, h_3⟩ := asImmZ_spec h_2
  obtain ⟨d12, e11, h_4⟩ := asImmZ_spec h_3
  obtain ⟨y, hy, hz⟩ := mat_ret h_4
  refine ⟨_, _, slices_Concat_int64_l3_mk z3 z8 d2 d7 d10, slices_Concat_int64_l3_out z3 z8 d2 d7 d10, slices_Concat_int64_l3 d7 d10, (d5, d12), y, ?_, hy, ?_, slices_Concat_int64_l3_step z3 z8 d2 d7 d10⟩
  · subst hs; exact restrict_eq (T := [(0, (.imm z3 (.sl (.sl (.int .i64))) d2)), (3, (.imm true (.int .i64) d5)), (9, (.imm z8 (.sl (.sl (.int .i64))) d7)), (10, (.imm true (.int .i64) d10)), (11, (.imm true (.int .i64) d12))]) (U := []) rfl rfl ⟨e1, e4, e6, e9, e11, trivial⟩ trivial
  · exact Option.some.inj hz
set_option maxRecDepth 100000 in
theorem slices_Concat_int64_l11_step : ∀ (z11_0 : Bool) (h11_0_0 : (List (List Int))) (h11_0_1 : Int) (x : (Int × (List Int))) (c : St → Option (Ex × St)), den slices_Concat_int64_V slices_Concat_int64_A (loopAt slices_Concat_int64_b 1) (slices_Concat_int64_l11_mk z11_0 h11_0_0 h11_0_1 x) (roundK slices_Concat_int64_l11_L.kp slices_Concat_int64_l11_L.kx c) = (slices_Concat_int64_l11 h11_0_0 h11_0_1 x).run (roundR (slices_Concat_int64_l11_mk z11_0 h11_0_0 h11_0_1) (slices_Concat_int64_l11_out z11_0 h11_0_0 h11_0_1) c) := fun _ _ _ _ _ => by
  kernel_rfl
theorem slices_Concat_int64_l11_ok : LoopOK slices_Concat_int64_V slices_Concat_int64_A (loopAt slices_Concat_int64_b 1) slices_Concat_int64_l11_L := loopOK_of fun s e s' h => by
  generalize hs : restrict slices_Concat_int64_l11_L.kp s = s1 at h
  have h : (slices_Concat_int64_l11_D s1).run some = some (e, s') := h
  obtain ⟨e1, h_0⟩ := asRef_spec h
  obtain ⟨z4, d3, e2, h_1⟩ := asImm_spec h_0
  obtain ⟨d6, e5, h_2⟩ := asImmZ_spec h_1
  obtain ⟨d8, e7, h_3⟩ := asImmZ_spec h_2
  obtain ⟨m10, d11, e9, h_4⟩ := asRoot_spec h_3
  obtain ⟨rfl, h_5⟩ := asM_spec h_4
  obtain ⟨y, hy, hz⟩ := mat_ret h_5
  refine ⟨_, _, slices_Concat_int64_l11_mk z4 d3 d6, slices_Concat_int64_l11_out z4 d3 d6, slices_Concat_int64_l11 d3 d6, (d8, d11), y, ?_, hy, ?_, slices_Concat_int64_l11_step z4 d3 d6⟩
  · subst hs; exact restrict_eq (T := [(6, (.ref (8, 0) [])), (25, (.imm z4 (.sl (.sl (.int .i64))) d3)), (26, (.imm true (.int .i64) d6)), (27, (.imm true (.int .i64) d8))]) (U := [((8, 0), some ⟨false, (.sl (.int .i64)), .own, d11⟩)]) rfl rfl ⟨e1, e2, e5, e7, trivial⟩ ⟨e9, trivial⟩
  · exact Option.some.inj hz
noncomputable def slices_Concat_int64_I : FnI := ⟨slices_Concat_int64_b, Try.f140.results.toList, Try.f140.resultTypes.toList, slices_Concat_int64_A⟩
noncomputable def slices_Concat_int64_out (_zp0 : Bool) (_p0 : (List (List Int))) : (List Int) → CallOut := fun r => ⟨(.ref (1, 0) []), [], [⟨false, (.sl (.int .i64)), .own, r⟩]⟩
set_option maxRecDepth 100000 in
theorem slices_Concat_int64_eq : ∀ (zp0 : Bool) (p0 : (List (List Int))), denFn slices_Concat_int64_V slices_Concat_int64_I ⟨[(.imm zp0 (.sl (.sl (.int .i64))) p0)], []⟩ = (slices_Concat_int64 p0).run fun r => some (slices_Concat_int64_out zp0 p0 r) := fun _ _ => by kernel_rfl
noncomputable def slices_Concat_int64_G (av : List AV) (rs : List Root) : Tre CallOut :=
  asCons av fun a0_ av0 =>
  asEnd av0 <|
  asEnd rs <|
  asImm (.sl (.sl (.int .i64))) a0_ fun z2 d1 =>
  .mat (slices_Concat_int64_F d1) fun r => .ret (slices_Concat_int64_out z2 d1 r)
noncomputable def slices_Concat_int64_c : Ctr := ⟨[], fun ci => slices_Concat_int64_G ci.args ci.roots, false⟩
theorem slices_Concat_int64_env : EnvOK Try.prog .none slices_Concat_int64_V := (envOK_cons slices_Grow_int64_8ac3_ok ent164 envOK_nil)
set_option maxRecDepth 100000 in
theorem slices_Concat_int64_ok : Contract Try.prog .none 140 slices_Concat_int64_c := by
  have hl : LoopsOK slices_Concat_int64_V slices_Concat_int64_A slices_Concat_int64_b := (loopsOK_all (n := 2) (by kernel_rfl) fun k hk => by
      match k, hk with
      | 0, _ => exact loopOK_at (id := 3) (L := slices_Concat_int64_l3_L) (by kernel_rfl) (by kernel_rfl) slices_Concat_int64_l3_ok
      | 1, _ => exact loopOK_at (id := 11) (L := slices_Concat_int64_l11_L) (by kernel_rfl) (by kernel_rfl) slices_Concat_int64_l11_ok)
  refine (contract_of (F := slices_Concat_int64_I) tau_tys slices_Concat_int64_env Try.func140 (by kernel_rfl) (by kernel_rfl) (by kernel_rfl) hl []).weaken ?_
  rintro ⟨av, rs⟩ co h
  have h : (slices_Concat_int64_G av rs).run some = some co := h
  obtain ⟨a0_, av0, rfl, h_0⟩ := asCons_spec h
  obtain ⟨rfl, h_1⟩ := asEnd_spec h_0
  obtain ⟨rfl, h_2⟩ := asEnd_spec h_1
  obtain ⟨z2, d1, rfl, h_3⟩ := asImm_spec h_2
  exact fin_mat (slices_Concat_int64_eq z2 d1) h_3
end Go.Proofs.Ythnkanacjhlhhaa

namespace Go.Proofs.Ythnkanacjhlhhaa
open Go Go.Abs Go.Proofs
noncomputable def i_Matrix_sum (p0 : TMatrix) (p1 : TMatrix) : Tre (Int × (List Int)) :=
  .mat (slices_Concat_int64_F ([p0.2.1, p1.2.1])) fun r1 =>
  .mat (echA r1) fun r2 =>
  .ret (p0.1, r2)
noncomputable def i_Matrix_sum_F (p0 : TMatrix) (p1 : TMatrix) : Option (Int × (List Int)) := (i_Matrix_sum p0 p1).run some
noncomputable def i_Matrix_sum_V : Env := ⟨tau, [(140, slices_Concat_int64_c), (62, i_echelon_c)], []⟩
noncomputable def i_Matrix_sum_b : Code := (Try.f98.body).getD .skip
noncomputable def i_Matrix_sum_I : FnI := ⟨i_Matrix_sum_b, Try.f98.results.toList, Try.f98.resultTypes.toList, []⟩
noncomputable def i_Matrix_sum_out (_zp0 : Bool) (_zp1 : Bool) (_p0 : TMatrix) (_p1 : TMatrix) : (Int × (List Int)) → CallOut := fun r => ⟨(.pair (.imm true (.int .i64) r.1) (.pair (.ref (1, 0) []) (.imm true .unit ()))), [], [⟨false, (.sl (.int .i64)), .own, r.2⟩]⟩
set_option maxRecDepth 100000 in
theorem i_Matrix_sum_eq : ∀ (zp0 : Bool) (zp1 : Bool) (p0 : TMatrix) (p1 : TMatrix), denFn i_Matrix_sum_V i_Matrix_sum_I ⟨[(.imm zp0 kMatrix p0), (.imm zp1 kMatrix p1)], []⟩ = (i_Matrix_sum p0 p1).run fun r => some (i_Matrix_sum_out zp0 zp1 p0 p1 r) := fun _ _ _ _ => by kernel_rfl
noncomputable def i_Matrix_sum_G (av : List AV) (rs : List Root) : Tre CallOut :=
  asCons av fun a0_ av0 =>
  asCons av0 fun a1_ av1 =>
  asEnd av1 <|
  asEnd rs <|
  asImm kMatrix a0_ fun z2 d1 =>
  asImm kMatrix a1_ fun z4 d3 =>
  .mat (i_Matrix_sum_F d1 d3) fun r => .ret (i_Matrix_sum_out z2 z4 d1 d3 r)
noncomputable def i_Matrix_sum_c : Ctr := ⟨[], fun ci => i_Matrix_sum_G ci.args ci.roots, false⟩
theorem i_Matrix_sum_env : EnvOK Try.prog .none i_Matrix_sum_V := (envOK_cons slices_Concat_int64_ok ent140 (envOK_cons i_echelon_ok ent62 envOK_nil))
set_option maxRecDepth 100000 in
theorem i_Matrix_sum_ok : Contract Try.prog .none 98 i_Matrix_sum_c := by
  have hl : LoopsOK i_Matrix_sum_V [] i_Matrix_sum_b := loopsOK_nil (by kernel_rfl)
  refine (contract_of (F := i_Matrix_sum_I) tau_tys i_Matrix_sum_env Try.func98 (by kernel_rfl) (by kernel_rfl) (by kernel_rfl) hl []).weaken ?_
  rintro ⟨av, rs⟩ co h
  have h : (i_Matrix_sum_G av rs).run some = some co := h
  obtain ⟨a0_, av0, rfl, h_0⟩ := asCons_spec h
  obtain ⟨a1_, av1, rfl, h_1⟩ := asCons_spec h_0
  obtain ⟨rfl, h_2⟩ := asEnd_spec h_1
  obtain ⟨rfl, h_3⟩ := asEnd_spec h_2
  obtain ⟨z2, d1, rfl, h_4⟩ := asImm_spec h_3
  obtain ⟨z4, d3, rfl, h_5⟩ := asImm_spec h_4
  exact fin_mat (i_Matrix_sum_eq z2 z4 d1 d3) h_5
end Go.Proofs.Ythnkanacjhlhhaa

namespace Go.Proofs.Ythnkanacjhlhhaa
open Go Go.Abs Go.Proofs
noncomputable def i_Matrix_contains (p0 : TMatrix) (p1 : TMatrix) : Tre Bool :=
  .mat (i_Matrix_sum_F p0 p1) fun r1 =>
  .ret (decide ((r1.2.length : Int) = (p0.2.1.length : Int)))
noncomputable def i_Matrix_contains_F (p0 : TMatrix) (p1 : TMatrix) : Option Bool := (i_Matrix_contains p0 p1).run some
-- more
theorem slices_Grow_int64_8ac3_is {n : Int} (h0 : 0 ≤ n) (h1 : n ≤ 1048576) : slices_Grow_int64_8ac3_F n = some [] := by
  unfold slices_Grow_int64_8ac3_F slices_Grow_int64_8ac3
  rw [Tre.run_cond, decide_eq_false (by omega), cond_false, Tre.run_cond, Int.sub_zero, iwrap_i64 (by omega) (by omega)]
  by_cases hn : n > 0
  · rw [decide_eq_true hn, cond_true, Tre.run_ite, if_pos ⟨rfl, h0, by unfold appendMax; omega, by omega⟩]
    dsimp only
    rw [Tre.run_ite, if_pos ⟨by omega, by omega, by omega⟩]
    rfl
  · rw [decide_eq_false hn]; rfl
def catS (a b : List Int) : Nat → Int × Int
  | 0 => (0, ((0 : Nat) : Int))
  | 1 => ((a.length : Int), ((1 : Nat) : Int))
  | _ => ((a.length : Int) + (b.length : Int), ((1 + 1 : Nat) : Int))
def catT (a b : List Int) : Nat → Int × List Int
  | 0 => (((0 : Nat) : Int), [])
  | 1 => (((1 : Nat) : Int), a)
  | _ => (((1 + 1 : Nat) : Int), a ++ b)
theorem slices_Concat_int64_is (a b : List Int) (ha : a.length ≤ 1000) (hb : b.length ≤ 1000) : slices_Concat_int64_F [a, b] = some (a ++ b) := by
  unfold slices_Concat_int64_F slices_Concat_int64
  have h3 := st_loop (step := slices_Concat_int64_l3 [a, b] (([a, b] : List (List Int)).length : Int)) (catS a b) 2 (b := (a.length : Int) + (b.length : Int)) (by
    intro i hi
    match i, hi with
    | 0, _ =>
      show (slices_Concat_int64_l3 [a, b] (([a, b] : List (List Int)).length : Int) (0, ((0 : Nat) : Int))).run some = some (.inl ((a.length : Int), ((1 : Nat) : Int)))
      unfold slices_Concat_int64_l3
      rw [run_inb (xs := [a, b]) (i := 0) (x := a) rfl]
      dsimp only
      rw [Int.zero_add, iwrap_i64 (by omega) (by omega), Tre.run_cond, decide_eq_false (by omega), cond_false, Tre.run_ret, iwrap_succ (by omega)]
    | 1, _ =>
      show (slices_Concat_int64_l3 [a, b] (([a, b] : List (List Int)).length : Int) ((a.length : Int), ((1 : Nat) : Int))).run some = some (.inl ((a.length : Int) + (b.length : Int), ((1 + 1 : Nat) : Int)))
      unfold slices_Concat_int64_l3
      rw [run_inb (xs := [a, b]) (i := 1) (x := b) rfl]
      dsimp only
      rw [iwrap_i64 (by omega) (by omega), Tre.run_cond, decide_eq_false (by omega), cond_false, Tre.run_ret, iwrap_succ (by omega)])
    (by
    rfl) 2 0 rfl
  rw [Tre.run_mat, show ((0 : Int), (0 : Int)) = catS a b 0 from rfl, h3, Option.bind_some]
  rw [run_some_mat (slices_Grow_int64_8ac3_is (by omega) (by omega))]
  have h11 := st_loop (step := slices_Concat_int64_l11 [a, b] (([a, b] : List (List Int)).length : Int)) (catT a b) 2 (b := a ++ b) (by
    intro i hi
    match i, hi with
    | 0, _ =>
      show (slices_Concat_int64_l11 [a, b] (([a, b] : List (List Int)).length : Int) (((0 : Nat) : Int), [])).run some = some (.inl (((0 + 1 : Nat) : Int), a))
      unfold slices_Concat_int64_l11
      rw [run_inb (xs := [a, b]) (i := 0) (x := a) rfl]
      rw [Tre.run_ite, if_pos (by unfold appendMax; simp only [List.length_nil]; omega), Tre.run_ret, iwrap_succ (by omega)]
      rfl
    | 1, _ =>
      show (slices_Concat_int64_l11 [a, b] (([a, b] : List (List Int)).length : Int) (((1 : Nat) : Int), a)).run some = some (.inl (((1 + 1 : Nat) : Int), a ++ b))
      unfold slices_Concat_int64_l11
      rw [run_inb (xs := [a, b]) (i := 1) (x := b) rfl]
      rw [Tre.run_ite, if_pos (by unfold appendMax; dsimp only; omega), Tre.run_ret, iwrap_succ (by omega)])
    (by
    rfl) 2 0 rfl
  rw [Tre.run_mat, show ((0 : Int), ([] : List Int)) = catT a b 0 from rfl, h11]
  rfl
theorem i_Matrix_contains_is {c : Nat} {ns : List Nat} {r : Nat} (hc : c ≤ 10) (hl : ns.length ≤ 10) (hn : ∀ n ∈ ns, n < 2 ^ c) (hr : r < 2 ^ c) (c' : Int) : i_Matrix_contains_F ((c : Int), up ns, ()) (c', [(r : Int)], ()) = some (inMx ((c : Int), up ns, ()) (r : Int)) := by
  have hup : up ns ++ [(r : Int)] = up (ns ++ [r]) := by simp [up]
  have h1 : i_Matrix_sum_F ((c : Int), up ns, ()) (c', [(r : Int)], ()) = some ((c : Int), echI (up ns ++ [(r : Int)])) := by
    unfold i_Matrix_sum_F i_Matrix_sum
    dsimp only
    rw [run_some_mat (slices_Concat_int64_is (up ns) [(r : Int)] (by rw [up_len]; omega) (by simp)), run_some_mat (show echA (up ns ++ [(r : Int)]) = some _ from askO_true (by
      rw [hup]
      refine okRows_mx (c := c) (by omega) (by simp; omega) fun n h => ?_
      rcases List.mem_append.1 h with h | h
      · exact hn n h
      · rw [List.mem_singleton.1 h]; exact hr))]
    rfl
  unfold i_Matrix_contains_F i_Matrix_contains inMx
  rw [run_some_mat h1, Tre.run_ret]
  congr 1
  apply decide_eq_decide.2
  dsimp only
  omega
noncomputable def i_Matrix_contains_V : Env := ⟨tau, [(98, i_Matrix_sum_c)], []⟩
noncomputable def i_Matrix_contains_b : Code := (Try.f48.body).getD .skip
noncomputable def i_Matrix_contains_I : FnI := ⟨i_Matrix_contains_b, Try.f48.results.toList, Try.f48.resultTypes.toList, []⟩
noncomputable def i_Matrix_contains_out (_zp0 : Bool) (_zp1 : Bool) (_p0 : TMatrix) (_p1 : TMatrix) : Bool → CallOut := fun r => ⟨(.imm true .bool r), [], []⟩
set_option maxRecDepth 100000 in
theorem i_Matrix_contains_eq : ∀ (zp0 : Bool) (zp1 : Bool) (p0 : TMatrix) (p1 : TMatrix), denFn i_Matrix_contains_V i_Matrix_contains_I ⟨[(.imm zp0 kMatrix p0), (.imm zp1 kMatrix p1)], []⟩ = (i_Matrix_contains p0 p1).run fun r => some (i_Matrix_contains_out zp0 zp1 p0 p1 r) := fun _ _ _ _ => by kernel_rfl
noncomputable def i_Matrix_contains_G (av : List AV) (rs : List Root) : Tre CallOut :=
  asCons av fun a0_ av0 =>
  asCons av0 fun a1_ av1 =>
  asEnd av1 <|
  asEnd rs <|
  asImm kMatrix a0_ fun z2 d1 =>
  asImm kMatrix a1_ fun z4 d3 =>
  .mat (i_Matrix_contains_F d1 d3) fun r => .ret (i_Matrix_contains_out z2 z4 d1 d3 r)
noncomputable def i_Matrix_contains_c : Ctr := ⟨[], fun ci => i_Matrix_contains_G ci.args ci.roots, false⟩
theorem i_Matrix_contains_env : EnvOK Try.prog .none i_Matrix_contains_V := (envOK_cons i_Matrix_sum_ok ent98 envOK_nil)
set_option maxRecDepth 100000 in
theorem i_Matrix_contains_ok : Contract Try.prog .none 48 i_Matrix_contains_c := by
  have hl : LoopsOK i_Matrix_contains_V [] i_Matrix_contains_b := loopsOK_nil (by kernel_rfl)
  refine (contract_of (F := i_Matrix_contains_I) tau_tys i_Matrix_contains_env Try.func48 (by kernel_rfl) (by kernel_rfl) (by kernel_rfl) hl []).weaken ?_
  rintro ⟨av, rs⟩ co h
  have h : (i_Matrix_contains_G av rs).run some = some co := h
  obtain ⟨a0_, av0, rfl, h_0⟩ := asCons_spec h
  obtain ⟨a1_, av1, rfl, h_1⟩ := asCons_spec h_0
  obtain ⟨rfl, h_2⟩ := asEnd_spec h_1
  obtain ⟨rfl, h_3⟩ := asEnd_spec h_2
  obtain ⟨z2, d1, rfl, h_4⟩ := asImm_spec h_3
  obtain ⟨z4, d3, rfl, h_5⟩ := asImm_spec h_4
  exact fin_mat (i_Matrix_contains_eq z2 z4 d1 d3) h_5
end Go.Proofs.Ythnkanacjhlhhaa

namespace Go.Proofs.Ythnkanacjhlhhaa
open Go Go.Abs Go.Proofs
noncomputable def i_SpreadIndexc1_a605 (p0 : TMatrix) (p1 : TMatrix) : Tre Bool :=
  .mat (i_Matrix_contains_F p0 p1) fun r1 =>
  .ret r1
noncomputable def i_SpreadIndexc1_a605_F (p0 : TMatrix) (p1 : TMatrix) : Option Bool := (i_SpreadIndexc1_a605 p0 p1).run some
noncomputable def i_SpreadIndexc1_a605_V : Env := ⟨tau, [(48, i_Matrix_contains_c)], []⟩
noncomputable def i_SpreadIndexc1_a605_b : Code := (Try.f47.body).getD .skip
noncomputable def i_SpreadIndexc1_a605_I : FnI := ⟨i_SpreadIndexc1_a605_b, Try.f47.results.toList, Try.f47.resultTypes.toList, []⟩
noncomputable def i_SpreadIndexc1_a605_out (_zp0 : Bool) (_p0 : TMatrix) (p1 : TMatrix) : Bool → CallOut := fun r => ⟨(.imm true .bool r), [⟨true, kMatrix, .own, p1⟩], []⟩
set_option maxRecDepth 100000 in
theorem i_SpreadIndexc1_a605_eq : ∀ (zp0 : Bool) (p0 : TMatrix) (p1 : TMatrix), denFn i_SpreadIndexc1_a605_V i_SpreadIndexc1_a605_I ⟨[(.imm zp0 kMatrix p0), (.ptr (0, 0) [])], [⟨true, kMatrix, .own, p1⟩]⟩ = (i_SpreadIndexc1_a605 p0 p1).run fun r => some (i_SpreadIndexc1_a605_out zp0 p0 p1 r) := fun _ _ _ => by kernel_rfl
noncomputable def i_SpreadIndexc1_a605_G (av : List AV) (rs : List Root) : Tre CallOut :=
  asCons av fun a0_ av0 =>
  asCons av0 fun a1_ av1 =>
  asEnd av1 <|
  asCons rs fun r0_ rs0 =>
  asEnd rs0 <|
  asImm kMatrix a0_ fun z2 d1 =>
  asPtr (0, 0) [] a1_ <|
  asRt true kMatrix r0_ fun m3 d4 =>
  asM .own m3 <|
  .mat (i_SpreadIndexc1_a605_F d1 d4) fun r => .ret (i_SpreadIndexc1_a605_out z2 d1 d4 r)
noncomputable def i_SpreadIndexc1_a605_c : Ctr := ⟨[], fun ci => i_SpreadIndexc1_a605_G ci.args ci.roots, false⟩
theorem i_SpreadIndexc1_a605_env : EnvOK Try.prog .none i_SpreadIndexc1_a605_V := (envOK_cons i_Matrix_contains_ok ent48 envOK_nil)
set_option maxRecDepth 100000 in
theorem i_SpreadIndexc1_a605_ok : Contract Try.prog .none 47 i_SpreadIndexc1_a605_c := by
  have hl : LoopsOK i_SpreadIndexc1_a605_V [] i_SpreadIndexc1_a605_b := loopsOK_nil (by kernel_rfl)
  refine (contract_of (F := i_SpreadIndexc1_a605_I) tau_tys i_SpreadIndexc1_a605_env Try.func47 (by kernel_rfl) (by kernel_rfl) (by kernel_rfl) hl []).weaken ?_
  rintro ⟨av, rs⟩ co h
  have h : (i_SpreadIndexc1_a605_G av rs).run some = some co := h
  obtain ⟨a0_, av0, rfl, h_0⟩ := asCons_spec h
  obtain ⟨a1_, av1, rfl, h_1⟩ := asCons_spec h_0
  obtain ⟨rfl, h_2⟩ := asEnd_spec h_1
  obtain ⟨r0_, rs0, rfl, h_3⟩ := asCons_spec h_2
  obtain ⟨rfl, h_4⟩ := asEnd_spec h_3
  obtain ⟨z2, d1, rfl, h_5⟩ := asImm_spec h_4
  obtain ⟨rfl, h_6⟩ := asPtr_spec h_5
  obtain ⟨m3, d4, rfl, h_7⟩ := asRt_spec h_6
  obtain ⟨rfl, h_8⟩ := asM_spec h_7
  exact fin_mat (i_SpreadIndexc1_a605_eq z2 d1 d4) h_8
end Go.Proofs.Ythnkanacjhlhhaa

namespace Go.Proofs.Ythnkanacjhlhhaa
open Go Go.Abs Go.Proofs
noncomputable def slices_IndexFunc_Matrix_i_SpreadIndexc1_l2 (h2_0_0 : (List TMatrix)) (h2_0_1 : Int) (h2_0_3 : TMatrix) : Int → Tre (Int ⊕ (Int ⊕ Unit)) := fun s2 =>
  .cond (decide (s2 < h2_0_1))
    (.ite (0 ≤ s2 ∧ s2 < (h2_0_0.length : Int)) <|
    .mat (h2_0_0[s2.toNat]?) fun x1 =>
    .mat (i_SpreadIndexc1_a605_F x1 h2_0_3) fun r2 =>
    .cond r2
      (.ret (.inr (.inl s2)))
      (.ret (.inl (iwrap .i64 (s2 + 1)))))
    (.ret (.inr (.inr ())))
noncomputable def slices_IndexFunc_Matrix_i_SpreadIndexc1 (p0 : (List TMatrix)) (p1 : TMatrix) : Tre Int :=
  .mat (loopF (slices_IndexFunc_Matrix_i_SpreadIndexc1_l2 p0 (p0.length : Int) p1) 0) fun l3 =>
  .alt l3
    (fun a4 =>
      .ret a4)
    (fun _ =>
      .ret (-1))
noncomputable def slices_IndexFunc_Matrix_i_SpreadIndexc1_F (p0 : (List TMatrix)) (p1 : TMatrix) : Option Int := (slices_IndexFunc_Matrix_i_SpreadIndexc1 p0 p1).run some
noncomputable def slices_IndexFunc_Matrix_i_SpreadIndexc1_V : Env := ⟨tau, [(47, i_SpreadIndexc1_a605_c)], []⟩
noncomputable def slices_IndexFunc_Matrix_i_SpreadIndexc1_b : Code := (Try.f46.body).getD .skip
noncomputable def slices_IndexFunc_Matrix_i_SpreadIndexc1_l2_mk (z2_0 : Bool) (h2_0_0 : (List TMatrix)) (h2_0_1 : Int) (h2_0_3 : TMatrix) : Int → St := fun x => stOf [(0, (.imm z2_0 (.sl kMatrix) h2_0_0)), (1, (.fn 47 [(0, 0)])), (7, (.imm true (.int .i64) h2_0_1)), (8, (.imm true (.int .i64) x))] [((0, 0), some ⟨true, kMatrix, .own, h2_0_3⟩)]
noncomputable def slices_IndexFunc_Matrix_i_SpreadIndexc1_l2_out (_z2_0 : Bool) (_h2_0_0 : (List TMatrix)) (_h2_0_1 : Int) (h2_0_3 : TMatrix) : (Int ⊕ Unit) → Ex × St
  | .inl x => (.ret, stOf [(4, (.imm true (.int .i64) x))] [((0, 0), some ⟨true, kMatrix, .own, h2_0_3⟩)])
  | .inr x => (.exit 0, stOf [(4, .dead)] [((0, 0), some ⟨true, kMatrix, .own, h2_0_3⟩)])
noncomputable def slices_IndexFunc_Matrix_i_SpreadIndexc1_l2_D (s : St) : Tre (Ex × St) :=
  asImm (.sl kMatrix) (s.tmps 0) fun z3 d2 =>
  asFn 47 [(0, 0)] (s.tmps 1) <|
  asImmZ true (.int .i64) (s.tmps 7) fun d6 =>
  asImmZ true (.int .i64) (s.tmps 8) fun d8 =>
  asRoot true kMatrix (s.roots (0, 0)) fun m10 d11 =>
  asM .own m10 <|
  .mat (loopF (slices_IndexFunc_Matrix_i_SpreadIndexc1_l2 d2 d6 d11) d8) fun x => .alt x (fun a0 => .ret (slices_IndexFunc_Matrix_i_SpreadIndexc1_l2_out z3 d2 d6 d11 (.inl a0))) (fun b0 => .ret (slices_IndexFunc_Matrix_i_SpreadIndexc1_l2_out z3 d2 d6 d11 (.inr b0)))
noncomputable def slices_IndexFunc_Matrix_i_SpreadIndexc1_l2_L : LoopI := ⟨([0, 1, 7, 8], [(0, 0)]), ([4], [(0, 0)]), slices_IndexFunc_Matrix_i_SpreadIndexc1_l2_D⟩
noncomputable def slices_IndexFunc_Matrix_i_SpreadIndexc1_A : List (Nat × LoopI) := [(2, slices_IndexFunc_Matrix_i_SpreadIndexc1_l2_L)]
set_option maxRecDepth 100000 in
theorem slices_IndexFunc_Matrix_i_SpreadIndexc1_l2_step : ∀ (z2_0 : Bool) (h2_0_0 : (List TMatrix)) (h2_0_1 : Int) (h2_0_3 : TMatrix) (x : Int) (c : St → Option (Ex × St)), den slices_IndexFunc_Matrix_i_SpreadIndexc1_V slices_IndexFunc_Matrix_i_SpreadIndexc1_A (loopAt slices_IndexFunc_Matrix_i_SpreadIndexc1_b 0) (slices_IndexFunc_Matrix_i_SpreadIndexc1_l2_mk z2_0 h2_0_0 h2_0_1 h2_0_3 x) (roundK slices_IndexFunc_Matrix_i_SpreadIndexc1_l2_L.kp slices_IndexFunc_Matrix_i_SpreadIndexc1_l2_L.kx c) = (slices_IndexFunc_Matrix_i_SpreadIndexc1_l2 h2_0_0 h2_0_1 h2_0_3 x).run (roundR (slices_IndexFunc_Matrix_i_SpreadIndexc1_l2_mk z2_0 h2_0_0 h2_0_1 h2_0_3) (slices_IndexFunc_Matrix_i_SpreadIndexc1_l2_out z2_0 h2_0_0 h2_0_1 h2_0_3) c) := fun _ _ _ _ _ _ => by
  kernel_rfl
theorem slices_IndexFunc_Matrix_i_SpreadIndexc1_l2_ok : LoopOK slices_IndexFunc_Matrix_i_SpreadIndexc1_V slices_IndexFunc_Matrix_i_SpreadIndexc1_A (loopAt slices_IndexFunc_Matrix_i_SpreadIndexc1_b 0) slices_IndexFunc_Matrix_i_SpreadIndexc1_l2_L := loopOK_of fun s e s' h => by
  generalize hs : restrict slices_IndexFunc_Matrix_i_SpreadIndexc1_l2_L.kp s = s1 at h
  have h : (slices_IndexFunc_Matrix_i_SpreadIndexc1_l2_D s1).run some = some (e, s') := h
  obtain ⟨z3, d2, e1, h_0⟩ := asImm_spec h
  obtain ⟨e4, h_1⟩ := asFn_spec h_0
  obtain ⟨d6, e5, h_2⟩ := asImmZ_spec h_1
  obtain ⟨d8, e7, h_3⟩ := asImmZ_spec h_2
  obtain ⟨m10, d11, e9, h_4⟩ := asRoot_spec h_3
  obtain ⟨rfl, h_5⟩ := asM_spec h_4
  obtain ⟨y, hy, hz⟩ := mat_some h_5
  refine ⟨_, _, slices_IndexFunc_Matrix_i_SpreadIndexc1_l2_mk z3 d2 d6 d11, slices_IndexFunc_Matrix_i_SpreadIndexc1_l2_out z3 d2 d6 d11, slices_IndexFunc_Matrix_i_SpreadIndexc1_l2 d2 d6 d11, d8, y, ?_, hy, ?_, slices_IndexFunc_Matrix_i_SpreadIndexc1_l2_step z3 d2 d6 d11⟩
  · subst hs; exact restrict_eq (T := [(0, (.imm z3 (.sl kMatrix) d2)), (1, (.fn 47 [(0, 0)])), (7, (.imm true (.int .i64) d6)), (8, (.imm true (.int .i64) d8))]) (U := [((0, 0), some ⟨true, kMatrix, .own, d11⟩)]) rfl rfl ⟨e1, e4, e5, e7, trivial⟩ ⟨e9, trivial⟩
  · rcases y with x | x <;> exact Option.some.inj hz
noncomputable def slices_IndexFunc_Matrix_i_SpreadIndexc1_I : FnI := ⟨slices_IndexFunc_Matrix_i_SpreadIndexc1_b, Try.f46.results.toList, Try.f46.resultTypes.toList, slices_IndexFunc_Matrix_i_SpreadIndexc1_A⟩
noncomputable def slices_IndexFunc_Matrix_i_SpreadIndexc1_out (_zp0 : Bool) (_p0 : (List TMatrix)) (p1 : TMatrix) : Int → CallOut := fun r => ⟨(.imm true (.int .i64) r), [⟨true, kMatrix, .own, p1⟩], []⟩
set_option maxRecDepth 100000 in
theorem slices_IndexFunc_Matrix_i_SpreadIndexc1_eq : ∀ (zp0 : Bool) (p0 : (List TMatrix)) (p1 : TMatrix), denFn slices_IndexFunc_Matrix_i_SpreadIndexc1_V slices_IndexFunc_Matrix_i_SpreadIndexc1_I ⟨[(.imm zp0 (.sl kMatrix) p0), (.fn 47 [(0, 0)])], [⟨true, kMatrix, .own, p1⟩]⟩ = (slices_IndexFunc_Matrix_i_SpreadIndexc1 p0 p1).run fun r => some (slices_IndexFunc_Matrix_i_SpreadIndexc1_out zp0 p0 p1 r) := fun _ _ _ => by kernel_rfl
noncomputable def slices_IndexFunc_Matrix_i_SpreadIndexc1_G (av : List AV) (rs : List Root) : Tre CallOut :=
  asCons av fun a0_ av0 =>
  asCons av0 fun a1_ av1 =>
  asEnd av1 <|
  asCons rs fun r0_ rs0 =>
  asEnd rs0 <|
  asImm (.sl kMatrix) a0_ fun z2 d1 =>
  asFn 47 [(0, 0)] a1_ <|
  asRt true kMatrix r0_ fun m3 d4 =>
  asM .own m3 <|
  .mat (slices_IndexFunc_Matrix_i_SpreadIndexc1_F d1 d4) fun r => .ret (slices_IndexFunc_Matrix_i_SpreadIndexc1_out z2 d1 d4 r)
noncomputable def slices_IndexFunc_Matrix_i_SpreadIndexc1_c : Ctr := ⟨[], fun ci => slices_IndexFunc_Matrix_i_SpreadIndexc1_G ci.args ci.roots, false⟩
theorem slices_IndexFunc_Matrix_i_SpreadIndexc1_env : EnvOK Try.prog .none slices_IndexFunc_Matrix_i_SpreadIndexc1_V := (envOK_cons i_SpreadIndexc1_a605_ok ent47 envOK_nil)
set_option maxRecDepth 100000 in
theorem slices_IndexFunc_Matrix_i_SpreadIndexc1_ok : Contract Try.prog .none 46 slices_IndexFunc_Matrix_i_SpreadIndexc1_c := by
  have hl : LoopsOK slices_IndexFunc_Matrix_i_SpreadIndexc1_V slices_IndexFunc_Matrix_i_SpreadIndexc1_A slices_IndexFunc_Matrix_i_SpreadIndexc1_b := (loopsOK_all (n := 1) (by kernel_rfl) fun k hk => by
      match k, hk with
      | 0, _ => exact loopOK_at (id := 2) (L := slices_IndexFunc_Matrix_i_SpreadIndexc1_l2_L) (by kernel_rfl) (by kernel_rfl) slices_IndexFunc_Matrix_i_SpreadIndexc1_l2_ok)
  refine (contract_of (F := slices_IndexFunc_Matrix_i_SpreadIndexc1_I) tau_tys slices_IndexFunc_Matrix_i_SpreadIndexc1_env Try.func46 (by kernel_rfl) (by kernel_rfl) (by kernel_rfl) hl []).weaken ?_
  rintro ⟨av, rs⟩ co h
  have h : (slices_IndexFunc_Matrix_i_SpreadIndexc1_G av rs).run some = some co := h
  obtain ⟨a0_, av0, rfl, h_0⟩ := asCons_spec h
  obtain ⟨a1_, av1, rfl, h_1⟩ := asCons_spec h_0
  obtain ⟨rfl, h_2⟩ := asEnd_spec h_1
  obtain ⟨r0_, rs0, rfl, h_3⟩ := asCons_spec h_2
  obtain ⟨rfl, h_4⟩ := asEnd_spec h_3
  obtain ⟨z2, d1, rfl, h_5⟩ := asImm_spec h_4
  obtain ⟨rfl, h_6⟩ := asFn_spec h_5
  obtain ⟨m3, d4, rfl, h_7⟩ := asRt_spec h_6
  obtain ⟨rfl, h_8⟩ := asM_spec h_7
  exact fin_mat (slices_IndexFunc_Matrix_i_SpreadIndexc1_eq z2 d1 d4) h_8
end Go.Proofs.Ythnkanacjhlhhaa

namespace Go.Proofs.Ythnkanacjhlhhaa
open Go Go.Abs Go.Proofs
noncomputable def i_SpreadIndex (p0 : (List TMatrix)) (p1 : Int) : Tre (Int × Int) :=
  .mat (i_ValidSpaces_F p0) fun r1 =>
  .cond (!r1)
    (.ret (0, 1))
    (.mat (i_isSpread_F p0) fun r2 =>
    .cond (!r2)
      (.ret (0, 4))
      (.cond (decide (p1 = 0))
        (.ret (0, 2))
        (.ite ((0 : Int) ≤ 0 ∧ (0 : Int) < (p0.length : Int)) <|
        .mat (p0[0]?) fun x3 =>
        .mat (i_Matrix_has_F x3 p1) fun r4 =>
        .cond (!r4)
          (.ret (0, 2))
          (.ite ((0 : Int) ≤ 0 ∧ (0 : Int) < (p0.length : Int)) <|
          .mat (p0[0]?) fun x5 =>
          .mat (slices_IndexFunc_Matrix_i_SpreadIndexc1_F p0 (x5.1, ([p1], ()))) fun r6 =>
          .ret (r6, 0)))))
noncomputable def i_SpreadIndex_F (p0 : (List TMatrix)) (p1 : Int) : Option (Int × Int) := (i_SpreadIndex p0 p1).run some
-- more
theorem i_SpreadIndex_idx (ss : List (Int × List Int × Unit)) (h : validSs ss = true) (r : Nat) (hr : r < 2 ^ colsN ss) (c' : Int) : slices_IndexFunc_Matrix_i_SpreadIndexc1_F ss (c', [(r : Int)], ()) = some (idxI (fun m => inMx m (r : Int)) 0 ss) := by
  obtain ⟨c1, c2, hf, l1, l2, hx⟩ := valid_up h
  unfold slices_IndexFunc_Matrix_i_SpreadIndexc1_F slices_IndexFunc_Matrix_i_SpreadIndexc1
  rw [Tre.run_mat, find_loop (xs := ss) (fun i x => cond (inMx x (r : Int)) (some (.inl (i : Int))) none) (.inr ())]
  · rw [Option.bind_some, ← findE_idx (p := fun x => inMx x (r : Int))]
    generalize findE _ _ _ _ = z
    cases z <;> rfl
  · intro i x hxi
    have hi : i < ss.length := (List.getElem?_eq_some_iff.1 hxi).1
    obtain ⟨ns, rfl, k1, k2, k3⟩ := hx x (List.mem_of_getElem? hxi)
    have h1 : i_SpreadIndexc1_a605_F ((colsN ss : Int), up ns, ()) (c', [(r : Int)], ()) = some (inMx ((colsN ss : Int), up ns, ()) (r : Int)) := by
      unfold i_SpreadIndexc1_a605_F i_SpreadIndexc1_a605
      rw [run_some_mat (i_Matrix_contains_is c2 k1 k2 hr c')]
      rfl
    unfold slices_IndexFunc_Matrix_i_SpreadIndexc1_l2
    rw [run_inb hxi, run_some_mat h1, Tre.run_cond]
    cases inMx ((colsN ss : Int), up ns, ()) (r : Int)
    · simp only [cond_false, Tre.run_ret, iwrap_succ (show i < 4611686018427387904 by omega)]
    · rfl
  · unfold slices_IndexFunc_Matrix_i_SpreadIndexc1_l2
    exact run_out
theorem i_SpreadIndex_is (ss : List (Int × List Int × Unit)) (hs : shortSs ss) (one : Int) : i_SpreadIndex_F ss one = some (indexV ss one) := by
  unfold i_SpreadIndex_F i_SpreadIndex indexV
  rw [run_some_mat (i_ValidSpaces_is ss hs), Tre.run_cond]
  cases h : validSs ss
  · rfl
  rw [Bool.not_true, cond_false, cond_false, run_some_mat (i_isSpread_is ss h), Tre.run_cond]
  cases h2 : spreadV ss
  · rfl
  obtain ⟨c1, c2, hf, l1, l2, hx⟩ := valid_up h
  have hp := pow_small c2
  have hp2 : 1 ≤ 2 ^ colsN ss := Nat.two_pow_pos _
  rw [Bool.not_true, cond_false, cond_false, Tre.run_cond, hf, top1_nat (by omega)]
  by_cases h0 : one = 0
  · subst h0
    rw [decide_eq_true rfl, cond_true, show inR 0 1 ((2 ^ colsN ss - 1 : Nat) : Int) = false from by rw [inR_false]; omega]
    rfl
  rw [decide_eq_false h0, cond_false, Tre.run_ite, if_pos ⟨Int.le_refl _, by omega⟩, run_some_mat (first_at (by omega)), run_some_mat (i_Matrix_has_is (firstMx ss) one (by omega)), Tre.run_cond]
  rw [hf, show inP (colsN ss : Int) one = inR one 1 ((2 ^ colsN ss - 1 : Nat) : Int) from by
    unfold inP
    rw [top1_nat (by omega), Bool.eq_iff_iff, inR_iff, inR_iff]
    omega]
  cases h3 : inR one 1 ((2 ^ colsN ss - 1 : Nat) : Int)
  · rfl
  rw [inR_iff] at h3
  obtain ⟨r, rfl⟩ := Int.eq_ofNat_of_zero_le (show 0 ≤ one by omega)
  rw [Bool.not_true, cond_false, cond_false, Tre.run_ite, if_pos ⟨Int.le_refl _, by omega⟩, run_some_mat (first_at (by omega)), run_some_mat (i_SpreadIndex_idx ss h r (by omega) _)]
  rfl
noncomputable def i_SpreadIndex_V : Env := ⟨tau, [(43, i_ValidSpaces_c), (44, i_isSpread_c), (45, i_Matrix_has_c), (46, slices_IndexFunc_Matrix_i_SpreadIndexc1_c)], []⟩
noncomputable def i_SpreadIndex_b : Code := (Try.f10.body).getD .skip
noncomputable def i_SpreadIndex_I : FnI := ⟨i_SpreadIndex_b, Try.f10.results.toList, Try.f10.resultTypes.toList, []⟩
noncomputable def i_SpreadIndex_out (_zp0 : Bool) (_p0 : (List TMatrix)) (_p1 : Int) : (Int × Int) → CallOut := fun r => ⟨(.tcons (.imm true (.int .i64) r.1) (.tcons (.imm true (.int .i64) r.2) .tnil)), [], []⟩
set_option maxRecDepth 100000 in
theorem i_SpreadIndex_eq : ∀ (zp0 : Bool) (p0 : (List TMatrix)) (p1 : Int), denFn i_SpreadIndex_V i_SpreadIndex_I ⟨[(.imm zp0 (.sl kMatrix) p0), (.imm true (.int .i64) p1)], []⟩ = (i_SpreadIndex p0 p1).run fun r => some (i_SpreadIndex_out zp0 p0 p1 r) := fun _ _ _ => by kernel_rfl
noncomputable def i_SpreadIndex_G (av : List AV) (rs : List Root) : Tre CallOut :=
  asCons av fun a0_ av0 =>
  asCons av0 fun a1_ av1 =>
  asEnd av1 <|
  asEnd rs <|
  asImm (.sl kMatrix) a0_ fun z2 d1 =>
  asImmZ true (.int .i64) a1_ fun d3 =>
  .mat (i_SpreadIndex_F d1 d3) fun r => .ret (i_SpreadIndex_out z2 d1 d3 r)
noncomputable def i_SpreadIndex_c : Ctr := ⟨[], fun ci => i_SpreadIndex_G ci.args ci.roots, false⟩
theorem i_SpreadIndex_env : EnvOK Try.prog .none i_SpreadIndex_V := (envOK_cons i_ValidSpaces_ok ent43 (envOK_cons i_isSpread_ok ent44 (envOK_cons i_Matrix_has_ok ent45 (envOK_cons slices_IndexFunc_Matrix_i_SpreadIndexc1_ok ent46 envOK_nil))))
set_option maxRecDepth 100000 in
theorem i_SpreadIndex_ok : Contract Try.prog .none 10 i_SpreadIndex_c := by
  have hl : LoopsOK i_SpreadIndex_V [] i_SpreadIndex_b := loopsOK_nil (by kernel_rfl)
  refine (contract_of (F := i_SpreadIndex_I) tau_tys i_SpreadIndex_env Try.func10 (by kernel_rfl) (by kernel_rfl) (by kernel_rfl) hl []).weaken ?_
  rintro ⟨av, rs⟩ co h
  have h : (i_SpreadIndex_G av rs).run some = some co := h
  obtain ⟨a0_, av0, rfl, h_0⟩ := asCons_spec h
  obtain ⟨a1_, av1, rfl, h_1⟩ := asCons_spec h_0
  obtain ⟨rfl, h_2⟩ := asEnd_spec h_1
  obtain ⟨rfl, h_3⟩ := asEnd_spec h_2
  obtain ⟨z2, d1, rfl, h_4⟩ := asImm_spec h_3
  obtain ⟨d3, rfl, h_5⟩ := asImmZ_spec h_4
  exact fin_mat (i_SpreadIndex_eq z2 d1 d3) h_5
end Go.Proofs.Ythnkanacjhlhhaa

namespace Go.Proofs.Ythnkanacjhlhhaa
open Go Go.Abs Go.Proofs
noncomputable def l_eqInt64S_l4 (h4_0_0 : (List Int)) (h4_0_1 : (List Int)) : Int → Tre (Int ⊕ (Bool ⊕ Unit)) := fun s4 =>
  .cond (decide (s4 < (h4_0_0.length : Int)))
    (.ite (0 ≤ s4 ∧ s4 < (h4_0_0.length : Int)) <|
    .mat (h4_0_0[s4.toNat]?) fun x1 =>
    .ite (0 ≤ s4 ∧ s4 < (h4_0_1.length : Int)) <|
    .mat (h4_0_1[s4.toNat]?) fun x2 =>
    .cond (!decide (x1 = x2))
      (.ret (.inr (.inl false)))
      (.ret (.inl (iwrap .i64 (s4 + 1)))))
    (.ret (.inr (.inr ())))
noncomputable def l_eqInt64S (p0 : (List Int)) (p1 : (List Int)) : Tre Bool :=
  .cond (!decide ((p0.length : Int) = (p1.length : Int)))
    (.ret false)
    (.mat (loopF (l_eqInt64S_l4 p0 p1) 0) fun l3 =>
    .alt l3
      (fun a4 =>
        .ret a4)
      (fun _ =>
        .ret true))
noncomputable def l_eqInt64S_F (p0 : (List Int)) (p1 : (List Int)) : Option Bool := (l_eqInt64S p0 p1).run some
abbrev eqS (p0 p1 : List Int) : Option Bool := eqR p0.length p0 p1
theorem l_eqInt64S_spec (p0 p1 : List Int) (y : Bool) (h : eqR p0.length p0 p1 = some y) : l_eqInt64S_F p0 p1 = some y := by
  obtain ⟨hl, rfl, rfl⟩ := eqR_some h
  unfold l_eqInt64S_F l_eqInt64S
  rw [Tre.run_cond, show (!decide ((p0.length : Int) = (p0.length : Int))) = false from by simp, cond_false, Tre.run_mat, find_loop (xs := p0) (fun _ _ => none) (.inr ())]
  · have : ∀ (l : List Int) (i : Nat), findE (β := Bool ⊕ Unit) (fun _ _ => none) (.inr ()) i l = .inr () := by
      intro l
      induction l with
      | nil => intro i; rfl
      | cons x l ih => intro i; exact ih _
    rw [this]
    rfl
  · intro i x hx
    have hi : i < p0.length := (List.getElem?_eq_some_iff.1 hx).1
    unfold l_eqInt64S_l4
    rw [run_inb hx, run_at hx, Tre.run_cond]
    simp only [decide_true, Bool.not_true, cond_false, Tre.run_ret, iwrap_succ (show i < 4611686018427387904 by omega)]
  · unfold l_eqInt64S_l4
    exact run_out
noncomputable def l_eqInt64S_V : Env := ⟨tau, [], []⟩
noncomputable def l_eqInt64S_b : Code := (Try.f99.body).getD .skip
noncomputable def l_eqInt64S_l4_mk (z4_0 : Bool) (z4_1 : Bool) (h4_0_0 : (List Int)) (h4_0_1 : (List Int)) : Int → St := fun x => stOf [(0, (.imm z4_0 (.sl (.int .i64)) h4_0_0)), (1, (.imm z4_1 (.sl (.int .i64)) h4_0_1)), (5, (.imm true (.int .i64) x))] []
noncomputable def l_eqInt64S_l4_out (_z4_0 : Bool) (_z4_1 : Bool) (_h4_0_0 : (List Int)) (_h4_0_1 : (List Int)) : (Bool ⊕ Unit) → Ex × St
  | .inl x => (.ret, stOf [(4, (.imm true .bool x))] [])
  | .inr x => (.exit 0, stOf [(4, .dead)] [])
noncomputable def l_eqInt64S_l4_D (s : St) : Tre (Ex × St) :=
  asImm (.sl (.int .i64)) (s.tmps 0) fun z3 d2 =>
  asImm (.sl (.int .i64)) (s.tmps 1) fun z6 d5 =>
  asImmZ true (.int .i64) (s.tmps 5) fun d8 =>
  .mat (loopF (l_eqInt64S_l4 d2 d5) d8) fun x => .alt x (fun a0 => .ret (l_eqInt64S_l4_out z3 z6 d2 d5 (.inl a0))) (fun b0 => .ret (l_eqInt64S_l4_out z3 z6 d2 d5 (.inr b0)))
noncomputable def l_eqInt64S_l4_L : LoopI := ⟨([0, 1, 5], []), ([4], []), l_eqInt64S_l4_D⟩
noncomputable def l_eqInt64S_A : List (Nat × LoopI) := [(4, l_eqInt64S_l4_L)]
set_option maxRecDepth 100000 in
theorem l_eqInt64S_l4_step : ∀ (z4_0 : Bool) (z4_1 : Bool) (h4_0_0 : (List Int)) (h4_0_1 : (List Int)) (x : Int) (c : St → Option (Ex × St)), den l_eqInt64S_V l_eqInt64S_A (loopAt l_eqInt64S_b 0) (l_eqInt64S_l4_mk z4_0 z4_1 h4_0_0 h4_0_1 x) (roundK l_eqInt64S_l4_L.kp l_eqInt64S_l4_L.kx c) = (l_eqInt64S_l4 h4_0_0 h4_0_1 x).run (roundR (l_eqInt64S_l4_mk z4_0 z4_1 h4_0_0 h4_0_1) (l_eqInt64S_l4_out z4_0 z4_1 h4_0_0 h4_0_1) c) := fun _ _ _ _ _ _ => by
  kernel_rfl
theorem l_eqInt64S_l4_ok : LoopOK l_eqInt64S_V l_eqInt64S_A (loopAt l_eqInt64S_b 0) l_eqInt64S_l4_L := loopOK_of fun s e s' h => by
  generalize hs : restrict l_eqInt64S_l4_L.kp s = s1 at h
  have h : (l_eqInt64S_l4_D s1).run some = some (e, s') := h
  obtain ⟨z3, d2, e1, h_0⟩ := asImm_spec h
  obtain ⟨z6, d5, e4, h_1⟩ := asImm_spec h_0
  obtain ⟨d8, e7, h_2⟩ := asImmZ_spec h_1
  obtain ⟨y, hy, hz⟩ := mat_some h_2
  refine ⟨_, _, l_eqInt64S_l4_mk z3 z6 d2 d5, l_eqInt64S_l4_out z3 z6 d2 d5, l_eqInt64S_l4 d2 d5, d8, y, ?_, hy, ?_, l_eqInt64S_l4_step z3 z6 d2 d5⟩
  · subst hs; exact restrict_eq (T := [(0, (.imm z3 (.sl (.int .i64)) d2)), (1, (.imm z6 (.sl (.int .i64)) d5)), (5, (.imm true (.int .i64) d8))]) (U := []) rfl rfl ⟨e1, e4, e7, trivial⟩ trivial
  · rcases y with x | x <;> exact Option.some.inj hz
noncomputable def l_eqInt64S_I : FnI := ⟨l_eqInt64S_b, Try.f99.results.toList, Try.f99.resultTypes.toList, l_eqInt64S_A⟩
noncomputable def l_eqInt64S_out (_zp0 : Bool) (_zp1 : Bool) (_p0 : (List Int)) (_p1 : (List Int)) : Bool → CallOut := fun r => ⟨(.imm true .bool r), [], []⟩
set_option maxRecDepth 100000 in
theorem l_eqInt64S_eq : ∀ (zp0 : Bool) (zp1 : Bool) (p0 : (List Int)) (p1 : (List Int)), denFn l_eqInt64S_V l_eqInt64S_I ⟨[(.imm zp0 (.sl (.int .i64)) p0), (.imm zp1 (.sl (.int .i64)) p1)], []⟩ = (l_eqInt64S p0 p1).run fun r => some (l_eqInt64S_out zp0 zp1 p0 p1 r) := fun _ _ _ _ => by kernel_rfl
noncomputable def l_eqInt64S_G (av : List AV) (rs : List Root) : Tre CallOut :=
  asCons av fun a0_ av0 =>
  asCons av0 fun a1_ av1 =>
  asEnd av1 <|
  asEnd rs <|
  asImm (.sl (.int .i64)) a0_ fun z2 d1 =>
  asImm (.sl (.int .i64)) a1_ fun z4 d3 =>
  .mat (eqS d1 d3) fun r => .ret (l_eqInt64S_out z2 z4 d1 d3 r)
noncomputable def l_eqInt64S_c : Ctr := ⟨[], fun ci => l_eqInt64S_G ci.args ci.roots, false⟩
theorem l_eqInt64S_env : EnvOK Try.prog .none l_eqInt64S_V := envOK_nil
set_option maxRecDepth 100000 in
theorem l_eqInt64S_ok : Contract Try.prog .none 99 l_eqInt64S_c := by
  have hl : LoopsOK l_eqInt64S_V l_eqInt64S_A l_eqInt64S_b := (loopsOK_all (n := 1) (by kernel_rfl) fun k hk => by
      match k, hk with
      | 0, _ => exact loopOK_at (id := 4) (L := l_eqInt64S_l4_L) (by kernel_rfl) (by kernel_rfl) l_eqInt64S_l4_ok)
  refine (contract_of (F := l_eqInt64S_I) tau_tys l_eqInt64S_env Try.func99 (by kernel_rfl) (by kernel_rfl) (by kernel_rfl) hl []).weaken ?_
  rintro ⟨av, rs⟩ co h
  have h : (l_eqInt64S_G av rs).run some = some co := h
  obtain ⟨a0_, av0, rfl, h_0⟩ := asCons_spec h
  obtain ⟨a1_, av1, rfl, h_1⟩ := asCons_spec h_0
  obtain ⟨rfl, h_2⟩ := asEnd_spec h_1
  obtain ⟨rfl, h_3⟩ := asEnd_spec h_2
  obtain ⟨z2, d1, rfl, h_4⟩ := asImm_spec h_3
  obtain ⟨z4, d3, rfl, h_5⟩ := asImm_spec h_4
  exact fin_opt (l_eqInt64S_eq z2 z4 d1 d3) (l_eqInt64S_spec d1 d3) h_5
end Go.Proofs.Ythnkanacjhlhhaa

namespace Go.Proofs.Ythnkanacjhlhhaa
open Go Go.Abs Go.Proofs
noncomputable def l_eqMatrix (p0 : TMatrix) (p1 : TMatrix) : Tre Bool :=
  .cond (!decide (p0.1 = p1.1))
    (.ret false)
    (.mat (eqS p0.2.1 p1.2.1) fun r1 =>
    .cond (!r1)
      (.ret false)
      (.ret true))
noncomputable def l_eqMatrix_F (p0 : TMatrix) (p1 : TMatrix) : Option Bool := (l_eqMatrix p0 p1).run some
noncomputable def l_eqMatrix_V : Env := ⟨tau, [(99, l_eqInt64S_c)], []⟩
noncomputable def l_eqMatrix_b : Code := (Try.f49.body).getD .skip
noncomputable def l_eqMatrix_I : FnI := ⟨l_eqMatrix_b, Try.f49.results.toList, Try.f49.resultTypes.toList, []⟩
noncomputable def l_eqMatrix_out (_zp0 : Bool) (_zp1 : Bool) (_p0 : TMatrix) (_p1 : TMatrix) : Bool → CallOut := fun r => ⟨(.imm true .bool r), [], []⟩
set_option maxRecDepth 100000 in
theorem l_eqMatrix_eq : ∀ (zp0 : Bool) (zp1 : Bool) (p0 : TMatrix) (p1 : TMatrix), denFn l_eqMatrix_V l_eqMatrix_I ⟨[(.imm zp0 kMatrix p0), (.imm zp1 kMatrix p1)], []⟩ = (l_eqMatrix p0 p1).run fun r => some (l_eqMatrix_out zp0 zp1 p0 p1 r) := fun _ _ _ _ => by kernel_rfl
noncomputable def l_eqMatrix_G (av : List AV) (rs : List Root) : Tre CallOut :=
  asCons av fun a0_ av0 =>
  asCons av0 fun a1_ av1 =>
  asEnd av1 <|
  asEnd rs <|
  asImm kMatrix a0_ fun z2 d1 =>
  asImm kMatrix a1_ fun z4 d3 =>
  .mat (l_eqMatrix_F d1 d3) fun r => .ret (l_eqMatrix_out z2 z4 d1 d3 r)
noncomputable def l_eqMatrix_c : Ctr := ⟨[], fun ci => l_eqMatrix_G ci.args ci.roots, false⟩
theorem l_eqMatrix_env : EnvOK Try.prog .none l_eqMatrix_V := (envOK_cons l_eqInt64S_ok ent99 envOK_nil)
set_option maxRecDepth 100000 in
theorem l_eqMatrix_ok : Contract Try.prog .none 49 l_eqMatrix_c := by
  have hl : LoopsOK l_eqMatrix_V [] l_eqMatrix_b := loopsOK_nil (by kernel_rfl)
  refine (contract_of (F := l_eqMatrix_I) tau_tys l_eqMatrix_env Try.func49 (by kernel_rfl) (by kernel_rfl) (by kernel_rfl) hl []).weaken ?_
  rintro ⟨av, rs⟩ co h
  have h : (l_eqMatrix_G av rs).run some = some co := h
  obtain ⟨a0_, av0, rfl, h_0⟩ := asCons_spec h
  obtain ⟨a1_, av1, rfl, h_1⟩ := asCons_spec h_0
  obtain ⟨rfl, h_2⟩ := asEnd_spec h_1
  obtain ⟨rfl, h_3⟩ := asEnd_spec h_2
  obtain ⟨z2, d1, rfl, h_4⟩ := asImm_spec h_3
  obtain ⟨z4, d3, rfl, h_5⟩ := asImm_spec h_4
  exact fin_mat (l_eqMatrix_eq z2 z4 d1 d3) h_5
end Go.Proofs.Ythnkanacjhlhhaa

namespace Go.Proofs.Ythnkanacjhlhhaa
open Go Go.Abs Go.Proofs
noncomputable def l_eqMatrixS_l4 (h4_0_0 : (List TMatrix)) (h4_0_1 : (List TMatrix)) : Int → Tre (Int ⊕ (Bool ⊕ Unit)) := fun s4 =>
  .cond (decide (s4 < (h4_0_0.length : Int)))
    (.ite (0 ≤ s4 ∧ s4 < (h4_0_0.length : Int)) <|
    .mat (h4_0_0[s4.toNat]?) fun x1 =>
    .ite (0 ≤ s4 ∧ s4 < (h4_0_1.length : Int)) <|
    .mat (h4_0_1[s4.toNat]?) fun x2 =>
    .mat (l_eqMatrix_F x1 x2) fun r3 =>
    .cond (!r3)
      (.ret (.inr (.inl false)))
      (.ret (.inl (iwrap .i64 (s4 + 1)))))
    (.ret (.inr (.inr ())))
noncomputable def l_eqMatrixS (p0 : (List TMatrix)) (p1 : (List TMatrix)) : Tre Bool :=
  .cond (!decide ((p0.length : Int) = (p1.length : Int)))
    (.ret false)
    (.mat (loopF (l_eqMatrixS_l4 p0 p1) 0) fun l4 =>
    .alt l4
      (fun a5 =>
        .ret a5)
      (fun _ =>
        .ret true))
noncomputable def l_eqMatrixS_F (p0 : (List TMatrix)) (p1 : (List TMatrix)) : Option Bool := (l_eqMatrixS p0 p1).run some
-- more
theorem l_eqMatrix_is (m : Int × List Int × Unit) (h : m.2.1.length ≤ 1048576) : l_eqMatrix_F m m = some true := by
  unfold l_eqMatrix_F l_eqMatrix
  rw [Tre.run_cond, decide_eq_true rfl, Bool.not_true, cond_false, run_some_mat (show eqS m.2.1 m.2.1 = some true from eqR_self h)]
  rfl
theorem l_eqMatrixS_is (p0 : List (Int × List Int × Unit)) (h : shortSs p0) : l_eqMatrixS_F p0 p0 = some true := by
  obtain ⟨hl, hm⟩ := h
  unfold l_eqMatrixS_F l_eqMatrixS
  rw [Tre.run_cond, show (!decide ((p0.length : Int) = (p0.length : Int))) = false from by simp, cond_false, Tre.run_mat, find_loop (xs := p0) (fun _ _ => none) (.inr ())]
  · have : ∀ (l : List (Int × List Int × Unit)) (i : Nat), findE (β := Bool ⊕ Unit) (fun _ _ => none) (.inr ()) i l = .inr () := by
      intro l
      induction l with
      | nil => intro i; rfl
      | cons x l ih => intro i; exact ih _
    rw [this]
    rfl
  · intro i x hx
    have hi : i < p0.length := (List.getElem?_eq_some_iff.1 hx).1
    unfold l_eqMatrixS_l4
    rw [run_inb hx, run_at hx, run_some_mat (l_eqMatrix_is x (hm x (List.mem_of_getElem? hx))), Tre.run_cond]
    simp only [Bool.not_true, cond_false, Tre.run_ret, iwrap_succ (show i < 4611686018427387904 by omega)]
  · unfold l_eqMatrixS_l4
    exact run_out
noncomputable def l_eqMatrixS_V : Env := ⟨tau, [(49, l_eqMatrix_c)], []⟩
noncomputable def l_eqMatrixS_b : Code := (Try.f11.body).getD .skip
noncomputable def l_eqMatrixS_l4_mk (z4_0 : Bool) (z4_1 : Bool) (h4_0_0 : (List TMatrix)) (h4_0_1 : (List TMatrix)) : Int → St := fun x => stOf [(0, (.imm z4_0 (.sl kMatrix) h4_0_0)), (1, (.imm z4_1 (.sl kMatrix) h4_0_1)), (5, (.imm true (.int .i64) x))] []
noncomputable def l_eqMatrixS_l4_out (_z4_0 : Bool) (_z4_1 : Bool) (_h4_0_0 : (List TMatrix)) (_h4_0_1 : (List TMatrix)) : (Bool ⊕ Unit) → Ex × St
  | .inl x => (.ret, stOf [(4, (.imm true .bool x))] [])
  | .inr x => (.exit 0, stOf [(4, .dead)] [])
noncomputable def l_eqMatrixS_l4_D (s : St) : Tre (Ex × St) :=
  asImm (.sl kMatrix) (s.tmps 0) fun z3 d2 =>
  asImm (.sl kMatrix) (s.tmps 1) fun z6 d5 =>
  asImmZ true (.int .i64) (s.tmps 5) fun d8 =>
  .mat (loopF (l_eqMatrixS_l4 d2 d5) d8) fun x => .alt x (fun a0 => .ret (l_eqMatrixS_l4_out z3 z6 d2 d5 (.inl a0))) (fun b0 => .ret (l_eqMatrixS_l4_out z3 z6 d2 d5 (.inr b0)))
noncomputable def l_eqMatrixS_l4_L : LoopI := ⟨([0, 1, 5], []), ([4], []), l_eqMatrixS_l4_D⟩
noncomputable def l_eqMatrixS_A : List (Nat × LoopI) := [(4, l_eqMatrixS_l4_L)]
set_option maxRecDepth 100000 in
theorem l_eqMatrixS_l4_step : ∀ (z4_0 : Bool) (z4_1 : Bool) (h4_0_0 : (List TMatrix)) (h4_0_1 : (List TMatrix)) (x : Int) (c : St → Option (Ex × St)), den l_eqMatrixS_V l_eqMatrixS_A (loopAt l_eqMatrixS_b 0) (l_eqMatrixS_l4_mk z4_0 z4_1 h4_0_0 h4_0_1 x) (roundK l_eqMatrixS_l4_L.kp l_eqMatrixS_l4_L.kx c) = (l_eqMatrixS_l4 h4_0_0 h4_0_1 x).run (roundR (l_eqMatrixS_l4_mk z4_0 z4_1 h4_0_0 h4_0_1) (l_eqMatrixS_l4_out z4_0 z4_1 h4_0_0 h4_0_1) c) := fun _ _ _ _ _ _ => by
  kernel_rfl
theorem l_eqMatrixS_l4_ok : LoopOK l_eqMatrixS_V l_eqMatrixS_A (loopAt l_eqMatrixS_b 0) l_eqMatrixS_l4_L := loopOK_of fun s e s' h => by
  generalize hs : restrict l_eqMatrixS_l4_L.kp s = s1 at h
  have h : (l_eqMatrixS_l4_D s1).run some = some (e, s') := h
  obtain ⟨z3, d2, e1, h_0⟩ := asImm_spec h
  obtain ⟨z6, d5, e4, h_1⟩ := asImm_spec h_0
  obtain ⟨d8, e7, h_2⟩ := asImmZ_spec h_1
  obtain ⟨y, hy, hz⟩ := mat_some h_2
  refine ⟨_, _, l_eqMatrixS_l4_mk z3 z6 d2 d5, l_eqMatrixS_l4_out z3 z6 d2 d5, l_eqMatrixS_l4 d2 d5, d8, y, ?_, hy, ?_, l_eqMatrixS_l4_step z3 z6 d2 d5⟩
  · subst hs; exact restrict_eq (T := [(0, (.imm z3 (.sl kMatrix) d2)), (1, (.imm z6 (.sl kMatrix) d5)), (5, (.imm true (.int .i64) d8))]) (U := []) rfl rfl ⟨e1, e4, e7, trivial⟩ trivial
  · rcases y with x | x <;> exact Option.some.inj hz
noncomputable def l_eqMatrixS_I : FnI := ⟨l_eqMatrixS_b, Try.f11.results.toList, Try.f11.resultTypes.toList, l_eqMatrixS_A⟩
noncomputable def l_eqMatrixS_out (_zp0 : Bool) (_zp1 : Bool) (_p0 : (List TMatrix)) (_p1 : (List TMatrix)) : Bool → CallOut := fun r => ⟨(.imm true .bool r), [], []⟩
set_option maxRecDepth 100000 in
theorem l_eqMatrixS_eq : ∀ (zp0 : Bool) (zp1 : Bool) (p0 : (List TMatrix)) (p1 : (List TMatrix)), denFn l_eqMatrixS_V l_eqMatrixS_I ⟨[(.imm zp0 (.sl kMatrix) p0), (.imm zp1 (.sl kMatrix) p1)], []⟩ = (l_eqMatrixS p0 p1).run fun r => some (l_eqMatrixS_out zp0 zp1 p0 p1 r) := fun _ _ _ _ => by kernel_rfl
noncomputable def l_eqMatrixS_G (av : List AV) (rs : List Root) : Tre CallOut :=
  asCons av fun a0_ av0 =>
  asCons av0 fun a1_ av1 =>
  asEnd av1 <|
  asEnd rs <|
  asImm (.sl kMatrix) a0_ fun z2 d1 =>
  asImm (.sl kMatrix) a1_ fun z4 d3 =>
  .mat (l_eqMatrixS_F d1 d3) fun r => .ret (l_eqMatrixS_out z2 z4 d1 d3 r)
noncomputable def l_eqMatrixS_c : Ctr := ⟨[], fun ci => l_eqMatrixS_G ci.args ci.roots, false⟩
theorem l_eqMatrixS_env : EnvOK Try.prog .none l_eqMatrixS_V := (envOK_cons l_eqMatrix_ok ent49 envOK_nil)
set_option maxRecDepth 100000 in
theorem l_eqMatrixS_ok : Contract Try.prog .none 11 l_eqMatrixS_c := by
  have hl : LoopsOK l_eqMatrixS_V l_eqMatrixS_A l_eqMatrixS_b := (loopsOK_all (n := 1) (by kernel_rfl) fun k hk => by
      match k, hk with
      | 0, _ => exact loopOK_at (id := 4) (L := l_eqMatrixS_l4_L) (by kernel_rfl) (by kernel_rfl) l_eqMatrixS_l4_ok)
  refine (contract_of (F := l_eqMatrixS_I) tau_tys l_eqMatrixS_env Try.func11 (by kernel_rfl) (by kernel_rfl) (by kernel_rfl) hl []).weaken ?_
  rintro ⟨av, rs⟩ co h
  have h : (l_eqMatrixS_G av rs).run some = some co := h
  obtain ⟨a0_, av0, rfl, h_0⟩ := asCons_spec h
  obtain ⟨a1_, av1, rfl, h_1⟩ := asCons_spec h_0
  obtain ⟨rfl, h_2⟩ := asEnd_spec h_1
  obtain ⟨rfl, h_3⟩ := asEnd_spec h_2
  obtain ⟨z2, d1, rfl, h_4⟩ := asImm_spec h_3
  obtain ⟨z4, d3, rfl, h_5⟩ := asImm_spec h_4
  exact fin_mat (l_eqMatrixS_eq z2 z4 d1 d3) h_5
end Go.Proofs.Ythnkanacjhlhhaa

namespace Go.Proofs.Ythnkanacjhlhhaa
open Go Go.Abs Go.Proofs
noncomputable def l_FnExactSpreadIndex (p0 : (List TMatrix)) (p1 : Int) : Tre Bool :=
  .mat (l_szMatrixS_F p0 1048576) fun r1 =>
  .cond (decide (r1 < 0))
    (.ret true)
    (.mat (l_toMatrixS_F p0) fun r2 =>
    .mat (s_SpreadIndex_F r2 p1) fun r3 =>
    .mat (l_toMatrixS_F p0) fun r4 =>
    .mat (i_SpreadIndex_F r4 p1) fun r5 =>
    .cond (!decide (r5.1 = r3.1))
      (.ret false)
      (.cond (!decide (r5.2 = r3.2))
        (.ret false)
        (.mat (l_toMatrixS_F p0) fun r6 =>
        .mat (l_eqMatrixS_F r4 r6) fun r7 =>
        .cond (!r7)
          (.ret false)
          (.ret true))))
noncomputable def l_FnExactSpreadIndex_F (p0 : (List TMatrix)) (p1 : Int) : Option Bool := (l_FnExactSpreadIndex p0 p1).run some
-- law
theorem l_FnExactSpreadIndex_law (p0 : List (Int × List Int × Unit)) (p1 : Int) (hw : (K.sl kMatrix).wf p0) (_h1 : (K.int .i64).wf p1) : l_FnExactSpreadIndex_F p0 p1 = some true := by
  unfold l_FnExactSpreadIndex_F l_FnExactSpreadIndex
  obtain ⟨r, hr, hs⟩ := l_szMatrixS_is p0 hw
  rw [run_some_mat hr, Tre.run_cond]
  by_cases h : r < 0
  · rw [decide_eq_true h]; rfl
  have hs := hs h
  rw [decide_eq_false h, cond_false, run_some_mat (l_toMatrixS_is p0 hs), run_some_mat (s_SpreadIndex_is p0 hs p1), run_some_mat (l_toMatrixS_is p0 hs), run_some_mat (i_SpreadIndex_is p0 hs p1)]
  rw [Tre.run_cond, decide_eq_true rfl, Bool.not_true, cond_false, Tre.run_cond, decide_eq_true rfl, Bool.not_true, cond_false]
  rw [run_some_mat (l_toMatrixS_is p0 hs), run_some_mat (l_eqMatrixS_is p0 hs)]
  rfl
noncomputable def l_FnExactSpreadIndex_V : Env := ⟨tau, [(7, l_szMatrixS_c), (9, l_toMatrixS_c), (8, s_SpreadIndex_c), (10, i_SpreadIndex_c), (11, l_eqMatrixS_c)], []⟩
noncomputable def l_FnExactSpreadIndex_b : Code := (Try.f3.body).getD .skip
noncomputable def l_FnExactSpreadIndex_I : FnI := ⟨l_FnExactSpreadIndex_b, Try.f3.results.toList, Try.f3.resultTypes.toList, []⟩
noncomputable def l_FnExactSpreadIndex_out (_zp0 : Bool) (_p0 : (List TMatrix)) (_p1 : Int) : Bool → CallOut := fun r => ⟨(.imm true .bool r), [], []⟩
set_option maxRecDepth 100000 in
theorem l_FnExactSpreadIndex_eq : ∀ (zp0 : Bool) (p0 : (List TMatrix)) (p1 : Int), denFn l_FnExactSpreadIndex_V l_FnExactSpreadIndex_I ⟨[(.imm zp0 (.sl kMatrix) p0), (.imm true (.int .i64) p1)], []⟩ = (l_FnExactSpreadIndex p0 p1).run fun r => some (l_FnExactSpreadIndex_out zp0 p0 p1 r) := fun _ _ _ => by kernel_rfl
noncomputable def l_FnExactSpreadIndex_G (av : List AV) (rs : List Root) : Tre CallOut :=
  asCons av fun a0_ av0 =>
  asCons av0 fun a1_ av1 =>
  asEnd av1 <|
  asEnd rs <|
  asImm (.sl kMatrix) a0_ fun z2 d1 =>
  asImmZ true (.int .i64) a1_ fun d3 =>
  .mat (l_FnExactSpreadIndex_F d1 d3) fun r => .ret (l_FnExactSpreadIndex_out z2 d1 d3 r)
noncomputable def l_FnExactSpreadIndex_c : Ctr := ⟨[], fun ci => l_FnExactSpreadIndex_G ci.args ci.roots, false⟩
theorem l_FnExactSpreadIndex_env : EnvOK Try.prog .none l_FnExactSpreadIndex_V := (envOK_cons l_szMatrixS_ok ent7 (envOK_cons l_toMatrixS_ok ent9 (envOK_cons s_SpreadIndex_ok ent8 (envOK_cons i_SpreadIndex_ok ent10 (envOK_cons l_eqMatrixS_ok ent11 envOK_nil)))))
set_option maxRecDepth 100000 in
theorem l_FnExactSpreadIndex_ok : Contract Try.prog .none 3 l_FnExactSpreadIndex_c := by
  have hl : LoopsOK l_FnExactSpreadIndex_V [] l_FnExactSpreadIndex_b := loopsOK_nil (by kernel_rfl)
  refine (contract_of (F := l_FnExactSpreadIndex_I) tau_tys l_FnExactSpreadIndex_env Try.func3 (by kernel_rfl) (by kernel_rfl) (by kernel_rfl) hl []).weaken ?_
  rintro ⟨av, rs⟩ co h
  have h : (l_FnExactSpreadIndex_G av rs).run some = some co := h
  obtain ⟨a0_, av0, rfl, h_0⟩ := asCons_spec h
  obtain ⟨a1_, av1, rfl, h_1⟩ := asCons_spec h_0
  obtain ⟨rfl, h_2⟩ := asEnd_spec h_1
  obtain ⟨rfl, h_3⟩ := asEnd_spec h_2
  obtain ⟨z2, d1, rfl, h_4⟩ := asImm_spec h_3
  obtain ⟨d3, rfl, h_5⟩ := asImmZ_spec h_4
  exact fin_mat (l_FnExactSpreadIndex_eq z2 d1 d3) h_5
end Go.Proofs.Ythnkanacjhlhhaa
