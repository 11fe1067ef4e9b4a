/- Part 5 of the proof of FnExactDataAfter. -/
import Derived.Test.YtfjbiapiadokfaaDa4
namespace Go.Proofs.Ytfjbiapiadokfaa
open Go Go.Abs Go.Proofs

/-! function 25: loop.example/g01144/laws.heldInt64S -/
noncomputable def l_heldInt64S_l2 (h2_0_0 : (List Int)) : (Int × Int) → Tre ((Int × Int) ⊕ ((Int × Int) ⊕ Int)) := fun s2 =>
  .cond (decide (s2.2 < (h2_0_0.length : Int)))
    (.ite (0 ≤ s2.2 ∧ s2.2 < (h2_0_0.length : Int)) <|
    .mat (h2_0_0[s2.2.toNat]?) fun x1 =>
    .cond (!decide (x1 = s2.1))
      (.ret (.inr (.inl (s2.1, -1))))
      (.ret (.inl (iwrap .i64 (s2.1 + 1), iwrap .i64 (s2.2 + 1)))))
    (.ret (.inr (.inr s2.1)))
noncomputable def l_heldInt64S (p0 : (List Int)) (p1 : Int) : Tre Int :=
  .mat (loopF (l_heldInt64S_l2 p0) (p1, 0)) fun l2 =>
  .alt l2
    (fun a3 =>
      .ret a3.2)
    (fun b4 =>
      .ret b4)
noncomputable def l_heldInt64S_F (p0 : (List Int)) (p1 : Int) : Option Int := (l_heldInt64S p0 p1).run some
/-- do the marks stand? -/
def heldR (xs : List Int) (k : Int) : Option Int := if (inR k 0 1048576 && decide (xs.length ≤ 1048576)) = true ∧ xs = marks k xs.length then some (k + (xs.length : Int)) else none
theorem l_heldInt64S_spec (p0 : List Int) (p1 : Int) (y : Int) (h : heldR p0 p1 = some y) : l_heldInt64S_F p0 p1 = some y := by
  unfold heldR at h
  split at h
  case isFalse => cases h
  case isTrue hh =>
  obtain ⟨hok, hm⟩ := hh
  cases h
  simp only [Bool.and_eq_true, decide_eq_true_eq, inR_iff] at hok
  obtain ⟨hk, hl⟩ := hok
  unfold l_heldInt64S_F l_heldInt64S
  have := fold_loop' (xs := p0) (step := l_heldInt64S_l2 p0) (γ := Unit) (fun i _ => (p1 + (i : Int), (i : Int))) (fun _ _ _ => .inl ()) (fun _ => .inr (p1 + (p0.length : Int))) (by
    intro i acc x hx
    have hi : i < p0.length := (List.getElem?_eq_some_iff.1 hx).1
    have hxv : x = p1 + (i : Int) := by
      rw [hm] at hx
      unfold marks at hx
      simp only [List.getElem?_map, Option.map_eq_some_iff] at hx
      obtain ⟨a, ha, rfl⟩ := hx
      rw [List.getElem?_range' (by simpa using hi)] at ha
      simp at ha
      rw [ha]
    unfold l_heldInt64S_l2
    rw [run_inb hx, Tre.run_cond]
    simp only [hxv, decide_true, Bool.not_true, cond_false]
    rw [Tre.run_ret, iwrap_succ (by omega), iwrap_i64 (by omega) (by omega)]
    simp only [Int.natCast_add, Int.natCast_one, Int.add_assoc])
    (by
    intro acc
    unfold l_heldInt64S_l2
    exact run_out) ()
  have hf : ∀ (l : List Int) (i : Nat), foldE (β := (Int × Int) ⊕ Int) (fun (_ : Nat) (_ : Unit) (_ : Int) => .inl ()) (fun _ => .inr (p1 + (p0.length : Int))) i () l = .inr (p1 + (p0.length : Int)) := by
    intro l
    induction l with
    | nil => intro i; rfl
    | cons x l ih => intro i; exact ih _
  rw [hf] at this
  have h1 : loopF (l_heldInt64S_l2 p0) (p1, 0) = some (.inr (p1 + (p0.length : Int))) := by simpa using this
  rw [run_some_mat h1]
  rfl

noncomputable def l_heldInt64S_V : Env := ⟨tau, []⟩
noncomputable def l_heldInt64S_b : Code := (Try.f25.body).getD .skip
noncomputable def l_heldInt64S_l2_mk (z2_0 : Bool) (h2_0_0 : (List Int)) : (Int × Int) → St := fun x => stOf [(0, (.imm z2_0 (.sl (.int .i64)) h2_0_0)), (1, (.imm true (.int .i64) x.1)), (5, (.imm true (.int .i64) x.2))] []
noncomputable def l_heldInt64S_l2_out (_z2_0 : Bool) (_h2_0_0 : (List Int)) : ((Int × Int) ⊕ Int) → Ex × St
  | .inl x => (.ret, stOf [(1, (.imm true (.int .i64) x.1)), (4, (.imm true (.int .i64) x.2))] [])
  | .inr x => (.exit 0, stOf [(1, (.imm true (.int .i64) x)), (4, .dead)] [])
noncomputable def l_heldInt64S_l2_D (s : St) : Tre (Ex × St) :=
  asImm (.sl (.int .i64)) (s.tmps 0) fun z3 d2 =>
  asImmZ true (.int .i64) (s.tmps 1) fun d5 =>
  asImmZ true (.int .i64) (s.tmps 5) fun d7 =>
  .mat (loopF (l_heldInt64S_l2 d2) (d5, d7)) fun x => .alt x (fun a0 => .ret (l_heldInt64S_l2_out z3 d2 (.inl a0))) (fun b0 => .ret (l_heldInt64S_l2_out z3 d2 (.inr b0)))
noncomputable def l_heldInt64S_l2_L : LoopI := ⟨([0, 1, 5], []), ([1, 4], []), l_heldInt64S_l2_D⟩
noncomputable def l_heldInt64S_A : List (Nat × LoopI) := [(2, l_heldInt64S_l2_L)]
set_option maxRecDepth 100000 in
theorem l_heldInt64S_l2_step : ∀ (z2_0 : Bool) (h2_0_0 : (List Int)) (x : (Int × Int)) (c : St → Option (Ex × St)), den l_heldInt64S_V l_heldInt64S_A (loopAt l_heldInt64S_b 0) (l_heldInt64S_l2_mk z2_0 h2_0_0 x) (roundK l_heldInt64S_l2_L.kp l_heldInt64S_l2_L.kx c) = (l_heldInt64S_l2 h2_0_0 x).run (roundR (l_heldInt64S_l2_mk z2_0 h2_0_0) (l_heldInt64S_l2_out z2_0 h2_0_0) c) := fun _ _ _ _ => by
  kernel_rfl
theorem l_heldInt64S_l2_ok : LoopOK l_heldInt64S_V l_heldInt64S_A (loopAt l_heldInt64S_b 0) l_heldInt64S_l2_L := loopOK_of fun s e s' h => by
  generalize hs : restrict l_heldInt64S_l2_L.kp s = s1 at h
  have h : (l_heldInt64S_l2_D s1).run some = some (e, s') := h
  obtain ⟨z3, d2, e1, h_0⟩ := asImm_spec h
  obtain ⟨d5, e4, h_1⟩ := asImmZ_spec h_0
  obtain ⟨d7, e6, h_2⟩ := asImmZ_spec h_1
  obtain ⟨y, hy, hz⟩ := mat_some h_2
  refine ⟨_, _, l_heldInt64S_l2_mk z3 d2, l_heldInt64S_l2_out z3 d2, l_heldInt64S_l2 d2, (d5, d7), y, ?_, hy, ?_, l_heldInt64S_l2_step z3 d2⟩
  · subst hs; exact restrict_eq (T := [(0, (.imm z3 (.sl (.int .i64)) d2)), (1, (.imm true (.int .i64) d5)), (5, (.imm true (.int .i64) d7))]) (U := []) rfl rfl ⟨e1, e4, e6, trivial⟩ trivial
  · rcases y with x | x <;> exact Option.some.inj hz
noncomputable def l_heldInt64S_I : FnI := ⟨l_heldInt64S_b, Try.f25.results.toList, Try.f25.resultTypes.toList, l_heldInt64S_A⟩
noncomputable def l_heldInt64S_out (_zp0 : Bool) (_p0 : (List Int)) (_p1 : Int) : Int → CallOut := fun r => ⟨(.imm true (.int .i64) r), [], []⟩
set_option maxRecDepth 100000 in
theorem l_heldInt64S_eq : ∀ (zp0 : Bool) (p0 : (List Int)) (p1 : Int), denFn l_heldInt64S_V l_heldInt64S_I ⟨[(.imm zp0 (.sl (.int .i64)) p0), (.imm true (.int .i64) p1)], []⟩ = (l_heldInt64S p0 p1).run fun r => some (l_heldInt64S_out zp0 p0 p1 r) := fun _ _ _ => by kernel_rfl
noncomputable def l_heldInt64S_G (av : List AV) (rs : List Root) : Tre CallOut :=
  asCons av fun a0_ av0 =>
  asCons av0 fun a1_ av1 =>
  asEnd av1 <|
  asEnd rs <|
  asImm (.sl (.int .i64)) a0_ fun z2 d1 =>
  asImmZ true (.int .i64) a1_ fun d3 =>
  .mat (heldR d1 d3) fun r => .ret (l_heldInt64S_out z2 d1 d3 r)
noncomputable def l_heldInt64S_c : Ctr := ⟨[], fun ci => l_heldInt64S_G ci.args ci.roots⟩
theorem l_heldInt64S_env : EnvOK Try.prog l_heldInt64S_V := envOK_nil
set_option maxRecDepth 100000 in
theorem l_heldInt64S_ok : Contract Try.prog 25 l_heldInt64S_c := by
  have hl : LoopsOK l_heldInt64S_V l_heldInt64S_A l_heldInt64S_b := (loopsOK_all (n := 1) (by kernel_rfl) fun k hk => by
      match k, hk with
      | 0, _ => exact loopOK_at (id := 2) (L := l_heldInt64S_l2_L) (by kernel_rfl) (by kernel_rfl) l_heldInt64S_l2_ok)
  refine (contract_of (F := l_heldInt64S_I) tau_tys l_heldInt64S_env Try.func25 (by kernel_rfl) (by kernel_rfl) (by kernel_rfl) hl []).weaken ?_
  rintro ⟨av, rs⟩ co h
  have h : (l_heldInt64S_G av rs).run some = some co := h
  obtain ⟨a0_, av0, rfl, h_0⟩ := asCons_spec h
  obtain ⟨a1_, av1, rfl, h_1⟩ := asCons_spec h_0
  obtain ⟨rfl, h_2⟩ := asEnd_spec h_1
  obtain ⟨rfl, h_3⟩ := asEnd_spec h_2
  obtain ⟨z2, d1, rfl, h_4⟩ := asImm_spec h_3
  obtain ⟨d3, rfl, h_5⟩ := asImmZ_spec h_4
  exact fin_opt (l_heldInt64S_eq z2 d1 d3) (l_heldInt64S_spec d1 d3) h_5

end Go.Proofs.Ytfjbiapiadokfaa

namespace Go.Proofs.Ytfjbiapiadokfaa
open Go Go.Abs Go.Proofs

/-! function 6: loop.example/g01144/laws.FnExactDataAfter -/
noncomputable def l_FnExactDataAfter (p0 : (Int × (Int × ((List Int) × (Int × (Int × Unit)))))) (p1 : (List (Int × (Int × (Int × (Int × Unit)))))) (p2 : Int) : Tre Bool :=
  .cond (decide ((l_szGather_S p0 1048576) < 0))
    (.ret true)
    (let v1 := l_szDeedS_S p1 (l_szGather_S p0 1048576)
    .cond (decide (v1 < 0))
      (.ret true)
      (.mat (toG p0) fun r2 =>
      .mat (cloneR p1) fun r3 =>
      .mat (datAR (r2.1, (r2.2.1, (r2.2.2.2, r2.2.2.1))) r3 p2) fun r4 =>
      .mat (toG p0) fun r5 =>
      .mat (cloneR p1) fun r6 =>
      .mat (datAR (r5.1, (r5.2.1, (r5.2.2.2, r5.2.2.1))) r6 p2) fun r7 =>
      .mat (eqS r7.2 r4.2) fun r8 =>
      .cond (!r8)
        (.ret false)
        (.cond (!decide (r7.1 = r4.1))
          (.ret false)
          (.mat (toG p0) fun r9 =>
          .mat (eqG (r5.1, (r5.2.1, (r5.2.2.2, r5.2.2.1))) (r9.1, (r9.2.1, (r9.2.2.2, r9.2.2.1)))) fun r10 =>
          .cond (!r10)
            (.ret false)
            (.mat (cloneR p1) fun r11 =>
            .mat (eqDs r6 r11) fun r12 =>
            .cond (!r12)
              (.ret false)
              (.mat (markG r5.1 r5.2.1 r5.2.2.1 1 (r5.1, (r5.2.1, (r5.2.2.2, r5.2.2.1)))) fun r13 =>
              .mat (markD r13.1 r6) fun r14 =>
              .cond (decide (r14.1 < 0))
                (.ret false)
                (.mat (eqS r7.2 r4.2) fun r15 =>
                .cond (!r15)
                  (.ret false)
                  (.cond (!decide (r7.1 = r4.1))
                    (.ret false)
                    (.mat (markR 1 r7.2) fun r16 =>
                    .mat (heldR r16.2 1) fun r17 =>
                    .cond (decide (r17 < 0))
                      (.ret false)
                      (.cond (!decide (r17 = r16.1))
                        (.ret false)
                        (.mat (toG p0) fun r18 =>
                        .mat (cloneR p1) fun r19 =>
                        .mat (datAR (r18.1, (r18.2.1, (r18.2.2.2, r18.2.2.1))) r19 p2) fun r20 =>
                        .mat (eqS r20.2 r4.2) fun r21 =>
                        .cond (!r21)
                          (.ret false)
                          (.cond (!decide (r20.1 = r4.1))
                            (.ret false)
                            (.mat (heldR r16.2 1) fun r22 =>
                            .cond (decide (r22 < 0))
                              (.ret false)
                              (.cond (!decide (r22 = r16.1))
                                (.ret false)
                                (.ret true)))))))))))))))
noncomputable def l_FnExactDataAfter_F (p0 : (Int × (Int × ((List Int) × (Int × (Int × Unit)))))) (p1 : (List (Int × (Int × (Int × (Int × Unit)))))) (p2 : Int) : Option Bool := (l_FnExactDataAfter p0 p1 p2).run some
-- law
theorem datAM_len (g : G8) (ds : List D8) (s : Int) : (datAM g ds s).2.length ≤ 1048576 := by
  unfold datAM
  by_cases h0 : codeM g ds s = 0
  · rw [decide_eq_true h0, cond_true]
    have hg := (codeM_zero_spec h0).1
    have hk := rowsM_ok h0
    have hb := isG_spec hg
    have hr : okRows 62 (rowsM g ds s) = true := okS_rows hk (by omega) (by have := (colsG_le hg).1; omega)
    have hle := (rank_bounds (g := g) (by omega) hr).2
    have hl := (okS_spec.1 hk).1
    unfold datM
    cases decide (iwrap .i64 (spoiltM g (rowsM g ds s)) = 0)
    · simp
    · cases decide (rankM g (rowsM g ds s) < g.1)
      · simp only [cond_true, cond_false, List.length_map]; omega
      · simp
  · rw [decide_eq_false h0]; simp
theorem l_FnExactDataAfter_law (p0 : Int × Int × List Int × Int × Int × Unit) (p1 : List (Int × Int × Int × Int × Unit)) (p2 : Int) (hw : kGather.wf p0) (h1 : (K.sl kDeed).wf p1) (_ : (K.int .i64).wf p2) : l_FnExactDataAfter_F p0 p1 p2 = some true := by
  unfold l_FnExactDataAfter_F l_FnExactDataAfter
  rw [Tre.run_cond]
  by_cases hs : l_szGather_S p0 1048576 < 0
  · rw [decide_eq_true hs]; rfl
  have hl := l_szGather_len hw.2.2.1.1 hs
  rw [decide_eq_false hs, cond_false]
  dsimp only
  rw [Tre.run_cond]
  by_cases hq : l_szDeedS_S p1 (l_szGather_S p0 1048576) < 0
  · rw [decide_eq_true hq]; rfl
  have hd := l_szDeedS_len h1.1 (l_szGather_le hl) (by omega) hq
  rw [decide_eq_false hq, cond_false]
  have hn := datAM_len p0 p1 p2
  have e1 : toG p0 = _ := lim_of hl
  have e1d : cloneR p1 = _ := lim_of hd
  have e2 : datAR p0 p1 p2 = some (datAM p0 p1 p2) := askO_true (by simp [hl, hd])
  have e3 : eqG p0 p0 = some true := eqR_self hl
  have e3d : eqDs p1 p1 = some true := eqR_self hd
  have e4 : eqS (datAM p0 p1 p2).2 (datAM p0 p1 p2).2 = some true := eqR_self hn
  generalize datAM p0 p1 p2 = v at *
  obtain ⟨va, vl⟩ := v
  have hm : (marks 1 vl.length).length = vl.length := by simp [marks]
  have e5 : markG p0.1 p0.2.1 p0.2.2.2 1 p0 = some (1 + (p0.2.2.1.length : Int), (p0.1, p0.2.1, marks 1 p0.2.2.1.length, p0.2.2.2)) := askO_true (by simp [inR]; omega)
  have e5d : markD (1 + (p0.2.2.1.length : Int)) p1 = some (1 + (p0.2.2.1.length : Int) + 4 * (p1.length : Int), _) := askO_true (by simp [inR]; omega)
  have e6 : markR 1 vl = some (1 + (vl.length : Int), marks 1 vl.length) := askO_true (by simp [inR]; exact hn)
  have e7 : heldR (marks 1 vl.length) 1 = some (1 + (vl.length : Int)) := by
    unfold heldR
    rw [hm, if_pos ⟨by simp [inR]; exact hn, rfl⟩]
  have c1 : decide (1 + (p0.2.2.1.length : Int) + 4 * (p1.length : Int) < 0) = false := by simp; omega
  have c2 : decide (1 + (vl.length : Int) < 0) = false := by simp; omega
  rw [run_some_mat e1, run_some_mat e1d, run_some_mat (x := (va, vl)) e2, run_some_mat e1, run_some_mat e1d, run_some_mat (x := (va, vl)) e2, run_some_mat (x := true) e4]
  simp only [Tre.run_cond, decide_true, Bool.not_true, cond_false]
  rw [run_some_mat e1, run_some_mat (x := true) e3]
  simp only [Tre.run_cond, decide_true, Bool.not_true, cond_false]
  rw [run_some_mat e1d, run_some_mat (x := true) e3d]
  simp only [Tre.run_cond, decide_true, Bool.not_true, cond_false]
  rw [run_some_mat e5, run_some_mat e5d]
  simp only [Tre.run_cond, c1, cond_false]
  rw [run_some_mat (x := true) e4]
  simp only [Tre.run_cond, decide_true, Bool.not_true, cond_false]
  rw [run_some_mat e6]
  dsimp only
  rw [run_some_mat e7]
  simp only [Tre.run_cond, c2, decide_true, Bool.not_true, cond_false]
  rw [run_some_mat e1, run_some_mat e1d, run_some_mat (x := (va, vl)) e2, run_some_mat (x := true) e4]
  simp only [Tre.run_cond, decide_true, Bool.not_true, cond_false]
  rw [run_some_mat e7]
  simp only [Tre.run_cond, c2, decide_true, Bool.not_true, cond_false]
  rfl

noncomputable def l_FnExactDataAfter_V : Env := ⟨tau, [(7, l_szGather_c), (8, l_szDeedS_c), (10, l_toGather_c), (11, l_toDeedS_c), (19, s_DataAfter_c), (20, i_DataAfter_c), (21, l_eqInt64S_c), (13, l_eqGather_c), (14, l_eqDeedS_c), (22, l_markGather_3874_c), (23, l_markDeedS_cc7b_c), (24, l_markInt64S_df1e_c), (25, l_heldInt64S_c)]⟩
noncomputable def l_FnExactDataAfter_b : Code := (Try.f6.body).getD .skip
noncomputable def l_FnExactDataAfter_I : FnI := ⟨l_FnExactDataAfter_b, Try.f6.results.toList, Try.f6.resultTypes.toList, []⟩
noncomputable def l_FnExactDataAfter_out (_zp0 : Bool) (_zp1 : Bool) (_p0 : (Int × (Int × ((List Int) × (Int × (Int × Unit)))))) (_p1 : (List (Int × (Int × (Int × (Int × Unit)))))) (_p2 : Int) : Bool → CallOut := fun r => ⟨(.imm true .bool r), [], []⟩
set_option maxRecDepth 100000 in
theorem l_FnExactDataAfter_eq : ∀ (zp0 : Bool) (zp1 : Bool) (p0 : (Int × (Int × ((List Int) × (Int × (Int × Unit)))))) (p1 : (List (Int × (Int × (Int × (Int × Unit)))))) (p2 : Int), denFn l_FnExactDataAfter_V l_FnExactDataAfter_I ⟨[(.imm zp0 kGather p0), (.imm zp1 (.sl kDeed) p1), (.imm true (.int .i64) p2)], []⟩ = (l_FnExactDataAfter p0 p1 p2).run fun r => some (l_FnExactDataAfter_out zp0 zp1 p0 p1 p2 r) := fun _ _ _ _ _ => by kernel_rfl
noncomputable def l_FnExactDataAfter_G (av : List AV) (rs : List Root) : Tre CallOut :=
  asCons av fun a0_ av0 =>
  asCons av0 fun a1_ av1 =>
  asCons av1 fun a2_ av2 =>
  asEnd av2 <|
  asEnd rs <|
  asImm kGather a0_ fun z2 d1 =>
  asImm (.sl kDeed) a1_ fun z4 d3 =>
  asImmZ true (.int .i64) a2_ fun d5 =>
  .mat (l_FnExactDataAfter_F d1 d3 d5) fun r => .ret (l_FnExactDataAfter_out z2 z4 d1 d3 d5 r)
noncomputable def l_FnExactDataAfter_c : Ctr := ⟨[], fun ci => l_FnExactDataAfter_G ci.args ci.roots⟩
theorem l_FnExactDataAfter_env : EnvOK Try.prog l_FnExactDataAfter_V := (envOK_cons l_szGather_ok ent7 (envOK_cons l_szDeedS_ok ent8 (envOK_cons l_toGather_ok ent10 (envOK_cons l_toDeedS_ok ent11 (envOK_cons s_DataAfter_ok ent19 (envOK_cons i_DataAfter_ok ent20 (envOK_cons l_eqInt64S_ok ent21 (envOK_cons l_eqGather_ok ent13 (envOK_cons l_eqDeedS_ok ent14 (envOK_cons l_markGather_3874_ok ent22 (envOK_cons l_markDeedS_cc7b_ok ent23 (envOK_cons l_markInt64S_df1e_ok ent24 (envOK_cons l_heldInt64S_ok ent25 envOK_nil)))))))))))))
set_option maxRecDepth 100000 in
theorem l_FnExactDataAfter_ok : Contract Try.prog 6 l_FnExactDataAfter_c := by
  have hl : LoopsOK l_FnExactDataAfter_V [] l_FnExactDataAfter_b := loopsOK_nil (by kernel_rfl)
  refine (contract_of (F := l_FnExactDataAfter_I) tau_tys l_FnExactDataAfter_env Try.func6 (by kernel_rfl) (by kernel_rfl) (by kernel_rfl) hl []).weaken ?_
  rintro ⟨av, rs⟩ co h
  have h : (l_FnExactDataAfter_G av rs).run some = some co := h
  obtain ⟨a0_, av0, rfl, h_0⟩ := asCons_spec h
  obtain ⟨a1_, av1, rfl, h_1⟩ := asCons_spec h_0
  obtain ⟨a2_, av2, rfl, h_2⟩ := asCons_spec h_1
  obtain ⟨rfl, h_3⟩ := asEnd_spec h_2
  obtain ⟨rfl, h_4⟩ := asEnd_spec h_3
  obtain ⟨z2, d1, rfl, h_5⟩ := asImm_spec h_4
  obtain ⟨z4, d3, rfl, h_6⟩ := asImm_spec h_5
  obtain ⟨d5, rfl, h_7⟩ := asImmZ_spec h_6
  exact fin_mat (l_FnExactDataAfter_eq z2 z4 d1 d3 d5) h_7

end Go.Proofs.Ytfjbiapiadokfaa
