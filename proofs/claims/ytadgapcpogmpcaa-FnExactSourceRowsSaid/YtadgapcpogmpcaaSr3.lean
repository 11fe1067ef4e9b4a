/- Part 3 of the proof of FnExactSourceRows. -/
import Derived.Test.YtadgapcpogmpcaaSr2
namespace Go.Proofs.Ytadgapcpogmpcaa
open Go Go.Abs Go.Proofs

/-! function 36: slices.ContainsFunc[[]int64,int64] -/
noncomputable def slices_ContainsFunc_int64_i_Gather_isDatac1 (p0 : (List Int)) (p1 : (Int × (Int × ((List Int) × (Int × (Int × Unit)))))) : Tre Bool :=
  .mat (idxD p0 p1) fun r1 =>
  .ret (decide (r1 ≥ 0))
noncomputable def slices_ContainsFunc_int64_i_Gather_isDatac1_F (p0 : (List Int)) (p1 : (Int × (Int × ((List Int) × (Int × (Int × Unit)))))) : Option Bool := (slices_ContainsFunc_int64_i_Gather_isDatac1 p0 p1).run some
/-- is there a word that is too great? -/
def hasD (xs : List Int) (p : Int × Int × List Int × Int × Int × Unit) : Option Bool := askO (decide (0 ≤ p.2.1) && decide (xs.length ≤ 1048576)) (xs.any fun x => !inP p.2.1 x)
theorem slices_ContainsFunc_int64_i_Gather_isDatac1_spec (p0 : List Int) (p1 : Int × Int × List Int × Int × Int × Unit) (y : Bool) (h : hasD p0 p1 = some y) : slices_ContainsFunc_int64_i_Gather_isDatac1_F p0 p1 = some y := by
  obtain ⟨hl, rfl⟩ := askO_some h
  unfold slices_ContainsFunc_int64_i_Gather_isDatac1_F slices_ContainsFunc_int64_i_Gather_isDatac1
  rw [run_some_mat (show idxD p0 p1 = some _ from askO_true hl), Tre.run_ret, idxI_any]

noncomputable def slices_ContainsFunc_int64_i_Gather_isDatac1_V : Env := ⟨tau, [(45, slices_IndexFunc_int64_i_Gather_isDatac1_c)]⟩
noncomputable def slices_ContainsFunc_int64_i_Gather_isDatac1_b : Code := (Try.f36.body).getD .skip
noncomputable def slices_ContainsFunc_int64_i_Gather_isDatac1_I : FnI := ⟨slices_ContainsFunc_int64_i_Gather_isDatac1_b, Try.f36.results.toList, Try.f36.resultTypes.toList, []⟩
noncomputable def slices_ContainsFunc_int64_i_Gather_isDatac1_out (_zp0 : Bool) (zp1 : Bool) (_p0 : (List Int)) (p1 : (Int × (Int × ((List Int) × (Int × (Int × Unit)))))) : Bool → CallOut := fun r => ⟨(.imm true .bool r), [⟨true, kGather, (.imm zp1), p1⟩], []⟩
set_option maxRecDepth 100000 in
theorem slices_ContainsFunc_int64_i_Gather_isDatac1_eq : ∀ (zp0 : Bool) (zp1 : Bool) (p0 : (List Int)) (p1 : (Int × (Int × ((List Int) × (Int × (Int × Unit)))))), denFn slices_ContainsFunc_int64_i_Gather_isDatac1_V slices_ContainsFunc_int64_i_Gather_isDatac1_I ⟨[(.imm zp0 (.sl (.int .i64)) p0), (.fn 42 [(0, 0)])], [⟨true, kGather, (.imm zp1), p1⟩]⟩ = (slices_ContainsFunc_int64_i_Gather_isDatac1 p0 p1).run fun r => some (slices_ContainsFunc_int64_i_Gather_isDatac1_out zp0 zp1 p0 p1 r) := fun _ _ _ _ => by kernel_rfl
noncomputable def slices_ContainsFunc_int64_i_Gather_isDatac1_G (av : List AV) (rs : List Root) : Tre CallOut :=
  asCons av fun a0_ av0 =>
  asCons av0 fun a1_ av1 =>
  asEnd av1 <|
  asCons rs fun r0_ rs0 =>
  asEnd rs0 <|
  asImm (.sl (.int .i64)) a0_ fun z2 d1 =>
  asFn 42 [(0, 0)] a1_ <|
  asRt true kGather r0_ fun m3 d4 =>
  asMImm m3 fun z5 =>
  .mat (hasD d1 d4) fun r => .ret (slices_ContainsFunc_int64_i_Gather_isDatac1_out z2 z5 d1 d4 r)
noncomputable def slices_ContainsFunc_int64_i_Gather_isDatac1_c : Ctr := ⟨[], fun ci => slices_ContainsFunc_int64_i_Gather_isDatac1_G ci.args ci.roots⟩
theorem slices_ContainsFunc_int64_i_Gather_isDatac1_env : EnvOK Try.prog slices_ContainsFunc_int64_i_Gather_isDatac1_V := (envOK_cons slices_IndexFunc_int64_i_Gather_isDatac1_ok ent45 envOK_nil)
set_option maxRecDepth 100000 in
theorem slices_ContainsFunc_int64_i_Gather_isDatac1_ok : Contract Try.prog 36 slices_ContainsFunc_int64_i_Gather_isDatac1_c := by
  have hl : LoopsOK slices_ContainsFunc_int64_i_Gather_isDatac1_V [] slices_ContainsFunc_int64_i_Gather_isDatac1_b := loopsOK_nil (by kernel_rfl)
  refine (contract_of (F := slices_ContainsFunc_int64_i_Gather_isDatac1_I) tau_tys slices_ContainsFunc_int64_i_Gather_isDatac1_env Try.func36 (by kernel_rfl) (by kernel_rfl) (by kernel_rfl) hl []).weaken ?_
  rintro ⟨av, rs⟩ co h
  have h : (slices_ContainsFunc_int64_i_Gather_isDatac1_G av rs).run some = some co := h
  obtain ⟨a0_, av0, rfl, h_0⟩ := asCons_spec h
  obtain ⟨a1_, av1, rfl, h_1⟩ := asCons_spec h_0
  obtain ⟨rfl, h_2⟩ := asEnd_spec h_1
  obtain ⟨r0_, rs0, rfl, h_3⟩ := asCons_spec h_2
  obtain ⟨rfl, h_4⟩ := asEnd_spec h_3
  obtain ⟨z2, d1, rfl, h_5⟩ := asImm_spec h_4
  obtain ⟨rfl, h_6⟩ := asFn_spec h_5
  obtain ⟨m3, d4, rfl, h_7⟩ := asRt_spec h_6
  obtain ⟨z5, rfl, h_8⟩ := asMImm_spec h_7
  exact fin_opt (slices_ContainsFunc_int64_i_Gather_isDatac1_eq z2 z5 d1 d4) (slices_ContainsFunc_int64_i_Gather_isDatac1_spec d1 d4) h_8

end Go.Proofs.Ytadgapcpogmpcaa

namespace Go.Proofs.Ytadgapcpogmpcaa
open Go Go.Abs Go.Proofs

/-! function 30: (loop.example/g01144/impl.Gather).isData -/
noncomputable def i_Gather_isData (p0 : (Int × (Int × ((List Int) × (Int × (Int × Unit)))))) (p1 : (List Int)) : Tre Bool :=
  .cond (decide ((p1.length : Int) = p0.1))
    (.mat (hasD p1 p0) fun r1 =>
    .ret (!r1))
    (.ret false)
noncomputable def i_Gather_isData_F (p0 : (Int × (Int × ((List Int) × (Int × (Int × Unit)))))) (p1 : (List Int)) : Option Bool := (i_Gather_isData p0 p1).run some
/-- are these data of a gathering? -/
def isDat (p : Int × Int × List Int × Int × Int × Unit) (xs : List Int) : Option Bool := askO (decide (0 ≤ p.2.1) && decide (xs.length ≤ 1048576)) (decide ((xs.length : Int) = p.1) && xs.all (inP p.2.1))
theorem i_Gather_isData_spec (p0 : Int × Int × List Int × Int × Int × Unit) (p1 : List Int) (y : Bool) (h : isDat p0 p1 = some y) : i_Gather_isData_F p0 p1 = some y := by
  obtain ⟨hl, rfl⟩ := askO_some h
  unfold i_Gather_isData_F i_Gather_isData
  rw [Tre.run_cond, run_some_mat (show hasD p1 p0 = some _ from askO_true hl), Tre.run_ret, Tre.run_ret]
  cases decide ((p1.length : Int) = p0.1)
  · rfl
  · simp [List.not_any_eq_all_not]

noncomputable def i_Gather_isData_V : Env := ⟨tau, [(41, i_size_int64_c), (36, slices_ContainsFunc_int64_i_Gather_isDatac1_c)]⟩
noncomputable def i_Gather_isData_b : Code := (Try.f30.body).getD .skip
noncomputable def i_Gather_isData_I : FnI := ⟨i_Gather_isData_b, Try.f30.results.toList, Try.f30.resultTypes.toList, []⟩
noncomputable def i_Gather_isData_out (_zp0 : Bool) (_zp1 : Bool) (_p0 : (Int × (Int × ((List Int) × (Int × (Int × Unit)))))) (_p1 : (List Int)) : Bool → CallOut := fun r => ⟨(.imm true .bool r), [], []⟩
set_option maxRecDepth 100000 in
theorem i_Gather_isData_eq : ∀ (zp0 : Bool) (zp1 : Bool) (p0 : (Int × (Int × ((List Int) × (Int × (Int × Unit)))))) (p1 : (List Int)), denFn i_Gather_isData_V i_Gather_isData_I ⟨[(.imm zp0 kGather p0), (.imm zp1 (.sl (.int .i64)) p1)], []⟩ = (i_Gather_isData p0 p1).run fun r => some (i_Gather_isData_out zp0 zp1 p0 p1 r) := fun _ _ _ _ => by kernel_rfl
noncomputable def i_Gather_isData_G (av : List AV) (rs : List Root) : Tre CallOut :=
  asCons av fun a0_ av0 =>
  asCons av0 fun a1_ av1 =>
  asEnd av1 <|
  asEnd rs <|
  asImm kGather a0_ fun z2 d1 =>
  asImm (.sl (.int .i64)) a1_ fun z4 d3 =>
  .mat (isDat d1 d3) fun r => .ret (i_Gather_isData_out z2 z4 d1 d3 r)
noncomputable def i_Gather_isData_c : Ctr := ⟨[], fun ci => i_Gather_isData_G ci.args ci.roots⟩
theorem i_Gather_isData_env : EnvOK Try.prog i_Gather_isData_V := (envOK_cons i_size_int64_ok ent41 (envOK_cons slices_ContainsFunc_int64_i_Gather_isDatac1_ok ent36 envOK_nil))
set_option maxRecDepth 100000 in
theorem i_Gather_isData_ok : Contract Try.prog 30 i_Gather_isData_c := by
  have hl : LoopsOK i_Gather_isData_V [] i_Gather_isData_b := loopsOK_nil (by kernel_rfl)
  refine (contract_of (F := i_Gather_isData_I) tau_tys i_Gather_isData_env Try.func30 (by kernel_rfl) (by kernel_rfl) (by kernel_rfl) hl []).weaken ?_
  rintro ⟨av, rs⟩ co h
  have h : (i_Gather_isData_G av rs).run some = some co := h
  obtain ⟨a0_, av0, rfl, h_0⟩ := asCons_spec h
  obtain ⟨a1_, av1, rfl, h_1⟩ := asCons_spec h_0
  obtain ⟨rfl, h_2⟩ := asEnd_spec h_1
  obtain ⟨rfl, h_3⟩ := asEnd_spec h_2
  obtain ⟨z2, d1, rfl, h_4⟩ := asImm_spec h_3
  obtain ⟨z4, d3, rfl, h_5⟩ := asImm_spec h_4
  exact fin_opt (i_Gather_isData_eq z2 z4 d1 d3) (i_Gather_isData_spec d1 d3) h_5

end Go.Proofs.Ytadgapcpogmpcaa

namespace Go.Proofs.Ytadgapcpogmpcaa
open Go Go.Abs Go.Proofs

/-! function 13: loop.example/g01144/impl.ValidGather -/
noncomputable def i_ValidGather (p0 : (Int × (Int × ((List Int) × (Int × (Int × Unit)))))) : Tre Bool :=
  .cond (inR p0.1 1 4)
    (.cond (inR p0.2.1 1 6)
      (.mat (isDat p0 p0.2.2.1) fun r1 =>
      .cond r1
        (.cond (inR p0.2.2.2.1 0 3)
          (.ret (inR p0.2.2.2.2.1 1 3))
          (.ret false))
        (.ret false))
      (.ret false))
    (.ret false)
noncomputable def i_ValidGather_F (p0 : (Int × (Int × ((List Int) × (Int × (Int × Unit)))))) : Option Bool := (i_ValidGather p0).run some
theorem i_ValidGather_spec (p0 : Int × Int × List Int × Int × Int × Unit) (y : Bool) (h : okG p0 = some y) : i_ValidGather_F p0 = some y := by
  obtain ⟨hl, rfl⟩ := lim_some h
  unfold i_ValidGather_F i_ValidGather isG
  simp only [Tre.run_cond, Tre.run_ret]
  cases h1 : inR p0.1 1 4
  · rfl
  cases h2 : inR p0.2.1 1 6
  · rfl
  rw [inR_iff] at h2
  rw [run_some_mat (show isDat p0 p0.2.2.1 = some _ from askO_true (by simp; omega))]
  simp only [cond_true, Bool.true_and, Tre.run_cond, Tre.run_ret]
  cases decide ((p0.2.2.1.length : Int) = p0.1)
  · rfl
  cases p0.2.2.1.all (inP p0.2.1)
  · rfl
  cases inR p0.2.2.2.1 0 3 <;> rfl

noncomputable def i_ValidGather_V : Env := ⟨tau, [(27, i_within_c), (30, i_Gather_isData_c)]⟩
noncomputable def i_ValidGather_b : Code := (Try.f13.body).getD .skip
noncomputable def i_ValidGather_I : FnI := ⟨i_ValidGather_b, Try.f13.results.toList, Try.f13.resultTypes.toList, []⟩
noncomputable def i_ValidGather_out (_zp0 : Bool) (_p0 : (Int × (Int × ((List Int) × (Int × (Int × Unit)))))) : Bool → CallOut := fun r => ⟨(.imm true .bool r), [], []⟩
set_option maxRecDepth 100000 in
theorem i_ValidGather_eq : ∀ (zp0 : Bool) (p0 : (Int × (Int × ((List Int) × (Int × (Int × Unit)))))), denFn i_ValidGather_V i_ValidGather_I ⟨[(.imm zp0 kGather p0)], []⟩ = (i_ValidGather p0).run fun r => some (i_ValidGather_out zp0 p0 r) := fun _ _ => by kernel_rfl
noncomputable def i_ValidGather_G (av : List AV) (rs : List Root) : Tre CallOut :=
  asCons av fun a0_ av0 =>
  asEnd av0 <|
  asEnd rs <|
  asImm kGather a0_ fun z2 d1 =>
  .mat (okG d1) fun r => .ret (i_ValidGather_out z2 d1 r)
noncomputable def i_ValidGather_c : Ctr := ⟨[], fun ci => i_ValidGather_G ci.args ci.roots⟩
theorem i_ValidGather_env : EnvOK Try.prog i_ValidGather_V := (envOK_cons i_within_ok ent27 (envOK_cons i_Gather_isData_ok ent30 envOK_nil))
set_option maxRecDepth 100000 in
theorem i_ValidGather_ok : Contract Try.prog 13 i_ValidGather_c := by
  have hl : LoopsOK i_ValidGather_V [] i_ValidGather_b := loopsOK_nil (by kernel_rfl)
  refine (contract_of (F := i_ValidGather_I) tau_tys i_ValidGather_env Try.func13 (by kernel_rfl) (by kernel_rfl) (by kernel_rfl) hl []).weaken ?_
  rintro ⟨av, rs⟩ co h
  have h : (i_ValidGather_G av rs).run some = some co := h
  obtain ⟨a0_, av0, rfl, h_0⟩ := asCons_spec h
  obtain ⟨rfl, h_1⟩ := asEnd_spec h_0
  obtain ⟨rfl, h_2⟩ := asEnd_spec h_1
  obtain ⟨z2, d1, rfl, h_3⟩ := asImm_spec h_2
  exact fin_opt (i_ValidGather_eq z2 d1) (i_ValidGather_spec d1) h_3

end Go.Proofs.Ytadgapcpogmpcaa

namespace Go.Proofs.Ytadgapcpogmpcaa
open Go Go.Abs Go.Proofs

/-! function 17: loop.example/g01144/laws.eqInt64S -/
noncomputable def l_eqInt64S_l4 (h4_0_0 : (List Int)) (h4_0_1 : (List Int)) : Int → Tre (Int ⊕ (Bool ⊕ Unit)) := fun s4 =>
  .cond (decide (s4 < (h4_0_0.length : Int)))
    (.ite (0 ≤ s4 ∧ s4 < (h4_0_0.length : Int)) <|
    .mat (h4_0_0[s4.toNat]?) fun x1 =>
    .ite (0 ≤ s4 ∧ s4 < (h4_0_1.length : Int)) <|
    .mat (h4_0_1[s4.toNat]?) fun x2 =>
    .cond (!decide (x1 = x2))
      (.ret (.inr (.inl false)))
      (.ret (.inl (iwrap .i64 (s4 + 1)))))
    (.ret (.inr (.inr ())))
noncomputable def l_eqInt64S (p0 : (List Int)) (p1 : (List Int)) : Tre Bool :=
  .cond (!decide ((p0.length : Int) = (p1.length : Int)))
    (.ret false)
    (.mat (loopF (l_eqInt64S_l4 p0 p1) 0) fun l3 =>
    .alt l3
      (fun a4 =>
        .ret a4)
      (fun _ =>
        .ret true))
noncomputable def l_eqInt64S_F (p0 : (List Int)) (p1 : (List Int)) : Option Bool := (l_eqInt64S p0 p1).run some
/-- two rows alike -/
abbrev eqS (p0 p1 : List Int) : Option Bool := eqR p0.length p0 p1
theorem l_eqInt64S_spec (p0 p1 : List Int) (y : Bool) (h : eqR p0.length p0 p1 = some y) : l_eqInt64S_F p0 p1 = some y := by
  obtain ⟨hl, rfl, rfl⟩ := eqR_some h
  unfold l_eqInt64S_F l_eqInt64S
  rw [Tre.run_cond, show (!decide ((p0.length : Int) = (p0.length : Int))) = false from by simp, cond_false, Tre.run_mat, find_loop (xs := p0) (fun _ _ => none) (.inr ())]
  · have : ∀ (l : List Int) (i : Nat), findE (β := Bool ⊕ Unit) (fun _ _ => none) (.inr ()) i l = .inr () := by
      intro l
      induction l with
      | nil => intro i; rfl
      | cons x l ih => intro i; exact ih _
    rw [this]
    rfl
  · intro i x hx
    have hi : i < p0.length := (List.getElem?_eq_some_iff.1 hx).1
    unfold l_eqInt64S_l4
    rw [run_inb hx, run_at hx, Tre.run_cond]
    simp only [decide_true, Bool.not_true, cond_false, Tre.run_ret, iwrap_succ (show i < 4611686018427387904 by omega)]
  · unfold l_eqInt64S_l4
    exact run_out

noncomputable def l_eqInt64S_V : Env := ⟨tau, []⟩
noncomputable def l_eqInt64S_b : Code := (Try.f17.body).getD .skip
noncomputable def l_eqInt64S_l4_mk (z4_0 : Bool) (z4_1 : Bool) (h4_0_0 : (List Int)) (h4_0_1 : (List Int)) : Int → St := fun x => stOf [(0, (.imm z4_0 (.sl (.int .i64)) h4_0_0)), (1, (.imm z4_1 (.sl (.int .i64)) h4_0_1)), (5, (.imm true (.int .i64) x))] []
noncomputable def l_eqInt64S_l4_out (_z4_0 : Bool) (_z4_1 : Bool) (_h4_0_0 : (List Int)) (_h4_0_1 : (List Int)) : (Bool ⊕ Unit) → Ex × St
  | .inl x => (.ret, stOf [(4, (.imm true .bool x))] [])
  | .inr x => (.exit 0, stOf [(4, .dead)] [])
noncomputable def l_eqInt64S_l4_D (s : St) : Tre (Ex × St) :=
  asImm (.sl (.int .i64)) (s.tmps 0) fun z3 d2 =>
  asImm (.sl (.int .i64)) (s.tmps 1) fun z6 d5 =>
  asImmZ true (.int .i64) (s.tmps 5) fun d8 =>
  .mat (loopF (l_eqInt64S_l4 d2 d5) d8) fun x => .alt x (fun a0 => .ret (l_eqInt64S_l4_out z3 z6 d2 d5 (.inl a0))) (fun b0 => .ret (l_eqInt64S_l4_out z3 z6 d2 d5 (.inr b0)))
noncomputable def l_eqInt64S_l4_L : LoopI := ⟨([0, 1, 5], []), ([4], []), l_eqInt64S_l4_D⟩
noncomputable def l_eqInt64S_A : List (Nat × LoopI) := [(4, l_eqInt64S_l4_L)]
set_option maxRecDepth 100000 in
theorem l_eqInt64S_l4_step : ∀ (z4_0 : Bool) (z4_1 : Bool) (h4_0_0 : (List Int)) (h4_0_1 : (List Int)) (x : Int) (c : St → Option (Ex × St)), den l_eqInt64S_V l_eqInt64S_A (loopAt l_eqInt64S_b 0) (l_eqInt64S_l4_mk z4_0 z4_1 h4_0_0 h4_0_1 x) (roundK l_eqInt64S_l4_L.kp l_eqInt64S_l4_L.kx c) = (l_eqInt64S_l4 h4_0_0 h4_0_1 x).run (roundR (l_eqInt64S_l4_mk z4_0 z4_1 h4_0_0 h4_0_1) (l_eqInt64S_l4_out z4_0 z4_1 h4_0_0 h4_0_1) c) := fun _ _ _ _ _ _ => by
  kernel_rfl
theorem l_eqInt64S_l4_ok : LoopOK l_eqInt64S_V l_eqInt64S_A (loopAt l_eqInt64S_b 0) l_eqInt64S_l4_L := loopOK_of fun s e s' h => by
  generalize hs : restrict l_eqInt64S_l4_L.kp s = s1 at h
  have h : (l_eqInt64S_l4_D s1).run some = some (e, s') := h
  obtain ⟨z3, d2, e1, h_0⟩ := asImm_spec h
  obtain ⟨z6, d5, e4, h_1⟩ := asImm_spec h_0
  obtain ⟨d8, e7, h_2⟩ := asImmZ_spec h_1
  obtain ⟨y, hy, hz⟩ := mat_some h_2
  refine ⟨_, _, l_eqInt64S_l4_mk z3 z6 d2 d5, l_eqInt64S_l4_out z3 z6 d2 d5, l_eqInt64S_l4 d2 d5, d8, y, ?_, hy, ?_, l_eqInt64S_l4_step z3 z6 d2 d5⟩
  · subst hs; exact restrict_eq (T := [(0, (.imm z3 (.sl (.int .i64)) d2)), (1, (.imm z6 (.sl (.int .i64)) d5)), (5, (.imm true (.int .i64) d8))]) (U := []) rfl rfl ⟨e1, e4, e7, trivial⟩ trivial
  · rcases y with x | x <;> exact Option.some.inj hz
noncomputable def l_eqInt64S_I : FnI := ⟨l_eqInt64S_b, Try.f17.results.toList, Try.f17.resultTypes.toList, l_eqInt64S_A⟩
noncomputable def l_eqInt64S_out (_zp0 : Bool) (_zp1 : Bool) (_p0 : (List Int)) (_p1 : (List Int)) : Bool → CallOut := fun r => ⟨(.imm true .bool r), [], []⟩
set_option maxRecDepth 100000 in
theorem l_eqInt64S_eq : ∀ (zp0 : Bool) (zp1 : Bool) (p0 : (List Int)) (p1 : (List Int)), denFn l_eqInt64S_V l_eqInt64S_I ⟨[(.imm zp0 (.sl (.int .i64)) p0), (.imm zp1 (.sl (.int .i64)) p1)], []⟩ = (l_eqInt64S p0 p1).run fun r => some (l_eqInt64S_out zp0 zp1 p0 p1 r) := fun _ _ _ _ => by kernel_rfl
noncomputable def l_eqInt64S_G (av : List AV) (rs : List Root) : Tre CallOut :=
  asCons av fun a0_ av0 =>
  asCons av0 fun a1_ av1 =>
  asEnd av1 <|
  asEnd rs <|
  asImm (.sl (.int .i64)) a0_ fun z2 d1 =>
  asImm (.sl (.int .i64)) a1_ fun z4 d3 =>
  .mat (eqS d1 d3) fun r => .ret (l_eqInt64S_out z2 z4 d1 d3 r)
noncomputable def l_eqInt64S_c : Ctr := ⟨[], fun ci => l_eqInt64S_G ci.args ci.roots⟩
theorem l_eqInt64S_env : EnvOK Try.prog l_eqInt64S_V := envOK_nil
set_option maxRecDepth 100000 in
theorem l_eqInt64S_ok : Contract Try.prog 17 l_eqInt64S_c := by
  have hl : LoopsOK l_eqInt64S_V l_eqInt64S_A l_eqInt64S_b := (loopsOK_all (n := 1) (by kernel_rfl) fun k hk => by
      match k, hk with
      | 0, _ => exact loopOK_at (id := 4) (L := l_eqInt64S_l4_L) (by kernel_rfl) (by kernel_rfl) l_eqInt64S_l4_ok)
  refine (contract_of (F := l_eqInt64S_I) tau_tys l_eqInt64S_env Try.func17 (by kernel_rfl) (by kernel_rfl) (by kernel_rfl) hl []).weaken ?_
  rintro ⟨av, rs⟩ co h
  have h : (l_eqInt64S_G av rs).run some = some co := h
  obtain ⟨a0_, av0, rfl, h_0⟩ := asCons_spec h
  obtain ⟨a1_, av1, rfl, h_1⟩ := asCons_spec h_0
  obtain ⟨rfl, h_2⟩ := asEnd_spec h_1
  obtain ⟨rfl, h_3⟩ := asEnd_spec h_2
  obtain ⟨z2, d1, rfl, h_4⟩ := asImm_spec h_3
  obtain ⟨z4, d3, rfl, h_5⟩ := asImm_spec h_4
  exact fin_opt (l_eqInt64S_eq z2 z4 d1 d3) (l_eqInt64S_spec d1 d3) h_5

end Go.Proofs.Ytadgapcpogmpcaa

namespace Go.Proofs.Ytadgapcpogmpcaa
open Go Go.Abs Go.Proofs

/-! function 14: loop.example/g01144/laws.eqGather -/
noncomputable def l_eqGather (p0 : (Int × (Int × ((List Int) × (Int × (Int × Unit)))))) (p1 : (Int × (Int × ((List Int) × (Int × (Int × Unit)))))) : Tre Bool :=
  .cond (!decide (p0.1 = p1.1))
    (.ret false)
    (.cond (!decide (p0.2.1 = p1.2.1))
      (.ret false)
      (.mat (eqS p0.2.2.1 p1.2.2.1) fun r1 =>
      .cond (!r1)
        (.ret false)
        (.cond (!decide (p0.2.2.2.1 = p1.2.2.2.1))
          (.ret false)
          (.cond (!decide (p0.2.2.2.2.1 = p1.2.2.2.2.1))
            (.ret false)
            (.ret true)))))
noncomputable def l_eqGather_F (p0 : (Int × (Int × ((List Int) × (Int × (Int × Unit)))))) (p1 : (Int × (Int × ((List Int) × (Int × (Int × Unit)))))) : Option Bool := (l_eqGather p0 p1).run some
/-- two gatherings alike -/
abbrev eqG (p0 p1 : Int × Int × List Int × Int × Int × Unit) : Option Bool := eqR p0.2.2.1.length p0 p1
theorem l_eqGather_spec (p0 p1 : Int × Int × List Int × Int × Int × Unit) (y : Bool) (h : eqR p0.2.2.1.length p0 p1 = some y) : l_eqGather_F p0 p1 = some y := by
  obtain ⟨hl, rfl, rfl⟩ := eqR_some h
  unfold l_eqGather_F l_eqGather
  simp only [Tre.run_cond, Tre.run_ret, run_some_mat (show eqS p0.2.2.1 p0.2.2.1 = some _ from eqR_self hl), decide_true, Bool.not_true, cond_false]

noncomputable def l_eqGather_V : Env := ⟨tau, [(17, l_eqInt64S_c)]⟩
noncomputable def l_eqGather_b : Code := (Try.f14.body).getD .skip
noncomputable def l_eqGather_I : FnI := ⟨l_eqGather_b, Try.f14.results.toList, Try.f14.resultTypes.toList, []⟩
noncomputable def l_eqGather_out (_zp0 : Bool) (_zp1 : Bool) (_p0 : (Int × (Int × ((List Int) × (Int × (Int × Unit)))))) (_p1 : (Int × (Int × ((List Int) × (Int × (Int × Unit)))))) : Bool → CallOut := fun r => ⟨(.imm true .bool r), [], []⟩
set_option maxRecDepth 100000 in
theorem l_eqGather_eq : ∀ (zp0 : Bool) (zp1 : Bool) (p0 : (Int × (Int × ((List Int) × (Int × (Int × Unit)))))) (p1 : (Int × (Int × ((List Int) × (Int × (Int × Unit)))))), denFn l_eqGather_V l_eqGather_I ⟨[(.imm zp0 kGather p0), (.imm zp1 kGather p1)], []⟩ = (l_eqGather p0 p1).run fun r => some (l_eqGather_out zp0 zp1 p0 p1 r) := fun _ _ _ _ => by kernel_rfl
noncomputable def l_eqGather_G (av : List AV) (rs : List Root) : Tre CallOut :=
  asCons av fun a0_ av0 =>
  asCons av0 fun a1_ av1 =>
  asEnd av1 <|
  asEnd rs <|
  asImm kGather a0_ fun z2 d1 =>
  asImm kGather a1_ fun z4 d3 =>
  .mat (eqG d1 d3) fun r => .ret (l_eqGather_out z2 z4 d1 d3 r)
noncomputable def l_eqGather_c : Ctr := ⟨[], fun ci => l_eqGather_G ci.args ci.roots⟩
theorem l_eqGather_env : EnvOK Try.prog l_eqGather_V := (envOK_cons l_eqInt64S_ok ent17 envOK_nil)
set_option maxRecDepth 100000 in
theorem l_eqGather_ok : Contract Try.prog 14 l_eqGather_c := by
  have hl : LoopsOK l_eqGather_V [] l_eqGather_b := loopsOK_nil (by kernel_rfl)
  refine (contract_of (F := l_eqGather_I) tau_tys l_eqGather_env Try.func14 (by kernel_rfl) (by kernel_rfl) (by kernel_rfl) hl []).weaken ?_
  rintro ⟨av, rs⟩ co h
  have h : (l_eqGather_G av rs).run some = some co := h
  obtain ⟨a0_, av0, rfl, h_0⟩ := asCons_spec h
  obtain ⟨a1_, av1, rfl, h_1⟩ := asCons_spec h_0
  obtain ⟨rfl, h_2⟩ := asEnd_spec h_1
  obtain ⟨rfl, h_3⟩ := asEnd_spec h_2
  obtain ⟨z2, d1, rfl, h_4⟩ := asImm_spec h_3
  obtain ⟨z4, d3, rfl, h_5⟩ := asImm_spec h_4
  exact fin_opt (l_eqGather_eq z2 z4 d1 d3) (l_eqGather_spec d1 d3) h_5

end Go.Proofs.Ytadgapcpogmpcaa

namespace Go.Proofs.Ytadgapcpogmpcaa
open Go Go.Abs Go.Proofs

/-! function 31: loop.example/g01144/spec.l08Source -/
noncomputable def s_l08Source_9aa7_l3 (h3_0_1 : (Int × (Int × ((List Int) × (Int × (Int × Unit)))))) : (Int × (List Int)) → Tre ((Int × (List Int)) ⊕ (List Int)) := fun s3 =>
  .cond (decide (s3.1 < (h3_0_1.2.2.1.length : Int)))
    (.ite (0 ≤ iwrap .u64 s3.1) <|
    let v1 := ishl .i64 1 (iwrap .u64 s3.1)
    .ite (0 ≤ s3.1 ∧ s3.1 < (h3_0_1.2.2.1.length : Int)) <|
    .mat (h3_0_1.2.2.1[s3.1.toNat]?) fun x2 =>
    .ite (0 ≤ iwrap .u64 h3_0_1.1) <|
    let v3 := ishl .i64 x2 (iwrap .u64 h3_0_1.1)
    .ite ((s3.2.length + 1) * 8 ≤ appendMax ∧ 1 ≤ 8) <|
    let v4 := s3.2 ++ ([ior .i64 v1 v3])
    .ret (.inl (iwrap .i64 (s3.1 + 1), v4)))
    (.ret (.inr s3.2))
noncomputable def s_l08Source_9aa7 (p0 : (Int × (Int × ((List Int) × (Int × (Int × Unit)))))) : Tre (List Int) :=
  .mat (loopF (s_l08Source_9aa7_l3 p0) (0, [])) fun l5 =>
  .ret l5
noncomputable def s_l08Source_9aa7_F (p0 : (Int × (Int × ((List Int) × (Int × (Int × Unit)))))) : Option (List Int) := (s_l08Source_9aa7 p0).run some
/-- the rows of a source -/
def srcL (g : Int × Int × List Int × Int × Int × Unit) : List Int := foldE (β := List Int) (fun (i : Nat) acc x => .inl (acc ++ [ior .i64 (ishl .i64 1 (i : Int)) (ishl .i64 x g.1)])) id 0 [] g.2.2.1
def srcR (g : Int × Int × List Int × Int × Int × Unit) : Option (List Int) := askO (inR g.1 0 1048576 && decide (g.2.2.1.length ≤ 1048576)) (srcL g)
theorem s_l08Source_9aa7_spec (p0 : Int × Int × List Int × Int × Int × Unit) (y : List Int) (h : srcR p0 = some y) : s_l08Source_9aa7_F p0 = some y := by
  obtain ⟨hok, rfl⟩ := askO_some h
  simp only [Bool.and_eq_true, decide_eq_true_eq, inR_iff] at hok
  obtain ⟨hk, hl⟩ := hok
  unfold s_l08Source_9aa7_F s_l08Source_9aa7
  have hu : iwrap .u64 p0.1 = p0.1 := iwrap_u64 (by omega) (by omega)
  have := fold_loop (xs := p0.2.2.1) (step := s_l08Source_9aa7_l3 p0) (fun i acc => ((i : Int), acc)) (fun i acc x => .inl (acc ++ [ior .i64 (ishl .i64 1 (i : Int)) (ishl .i64 x p0.1)])) id (fun i acc => acc.length = i) (by
    intro i acc x hx hI
    have hi : i < p0.2.2.1.length := (List.getElem?_eq_some_iff.1 hx).1
    refine ⟨?_, fun a ha => by cases ha; simp [hI]⟩
    unfold s_l08Source_9aa7_l3
    have hui : iwrap .u64 (i : Int) = (i : Int) := iwrap_u64 (by omega) (by omega)
    rw [Tre.run_cond]
    show cond (decide ((i : Int) < (p0.2.2.1.length : Int))) _ _ = _
    rw [show decide ((i : Int) < (p0.2.2.1.length : Int)) = true from by simpa using hi, cond_true]
    dsimp only
    rw [hui, hu, Tre.run_ite, if_pos (by omega), run_at hx, Tre.run_ite, if_pos (by omega), Tre.run_ite, if_pos (by unfold appendMax; omega), Tre.run_ret, iwrap_succ (by omega)])
    (by
    intro acc _
    unfold s_l08Source_9aa7_l3
    exact run_out) p0.2.2.1 0 [] rfl (Nat.zero_le _) rfl
  have h1 : loopF (s_l08Source_9aa7_l3 p0) (0, []) = some (srcL p0) := this
  rw [run_some_mat h1]
  rfl
theorem srcL_len (g : Int × Int × List Int × Int × Int × Unit) : (srcL g).length = g.2.2.1.length := by
  have key : ∀ (l : List Int) (i : Nat) (acc : List Int), (foldE (β := List Int) (fun (i : Nat) acc x => .inl (acc ++ [ior .i64 (ishl .i64 1 (i : Int)) (ishl .i64 x g.1)])) id i acc l).length = acc.length + l.length := by
    intro l
    induction l with
    | nil => intro i acc; rfl
    | cons x l ih => intro i acc; simp only [foldE]; rw [ih]; simp; omega
  unfold srcL
  rw [key]
  simp

noncomputable def s_l08Source_9aa7_V : Env := ⟨tau, []⟩
noncomputable def s_l08Source_9aa7_b : Code := (Try.f31.body).getD .skip
noncomputable def s_l08Source_9aa7_l3_mk (z3_0 : Bool) (h3_0_1 : (Int × (Int × ((List Int) × (Int × (Int × Unit)))))) : (Int × (List Int)) → St := fun x => stOf [(0, (.ptr (0, 0) [])), (3, (.ref (5, 0) [])), (4, (.imm true (.int .i64) x.1))] [((0, 0), some ⟨true, kGather, (.imm z3_0), h3_0_1⟩), ((5, 0), some ⟨false, (.sl (.int .i64)), .own, x.2⟩)]
noncomputable def s_l08Source_9aa7_l3_out (z3_0 : Bool) (h3_0_1 : (Int × (Int × ((List Int) × (Int × (Int × Unit)))))) : (List Int) → Ex × St := fun x => (.exit 0, stOf [(3, (.ref (5, 0) []))] [((0, 0), some ⟨true, kGather, (.imm z3_0), h3_0_1⟩), ((5, 0), some ⟨false, (.sl (.int .i64)), .own, x⟩)])
noncomputable def s_l08Source_9aa7_l3_D (s : St) : Tre (Ex × St) :=
  asPtr (0, 0) [] (s.tmps 0) <|
  asRef (5, 0) [] (s.tmps 3) <|
  asImmZ true (.int .i64) (s.tmps 4) fun d4 =>
  asRoot true kGather (s.roots (0, 0)) fun m6 d7 =>
  asMImm m6 fun z8 =>
  asRoot false (.sl (.int .i64)) (s.roots (5, 0)) fun m10 d11 =>
  asM .own m10 <|
  .mat (loopF (s_l08Source_9aa7_l3 d7) (d4, d11)) fun x => .ret (s_l08Source_9aa7_l3_out z8 d7 x)
noncomputable def s_l08Source_9aa7_l3_L : LoopI := ⟨([0, 3, 4], [(0, 0), (5, 0)]), ([3], [(0, 0), (5, 0)]), s_l08Source_9aa7_l3_D⟩
noncomputable def s_l08Source_9aa7_A : List (Nat × LoopI) := [(3, s_l08Source_9aa7_l3_L)]
set_option maxRecDepth 100000 in
theorem s_l08Source_9aa7_l3_step : ∀ (z3_0 : Bool) (h3_0_1 : (Int × (Int × ((List Int) × (Int × (Int × Unit)))))) (x : (Int × (List Int))) (c : St → Option (Ex × St)), den s_l08Source_9aa7_V s_l08Source_9aa7_A (loopAt s_l08Source_9aa7_b 0) (s_l08Source_9aa7_l3_mk z3_0 h3_0_1 x) (roundK s_l08Source_9aa7_l3_L.kp s_l08Source_9aa7_l3_L.kx c) = (s_l08Source_9aa7_l3 h3_0_1 x).run (roundR (s_l08Source_9aa7_l3_mk z3_0 h3_0_1) (s_l08Source_9aa7_l3_out z3_0 h3_0_1) c) := fun _ _ _ _ => by
  kernel_rfl
theorem s_l08Source_9aa7_l3_ok : LoopOK s_l08Source_9aa7_V s_l08Source_9aa7_A (loopAt s_l08Source_9aa7_b 0) s_l08Source_9aa7_l3_L := loopOK_of fun s e s' h => by
  generalize hs : restrict s_l08Source_9aa7_l3_L.kp s = s1 at h
  have h : (s_l08Source_9aa7_l3_D s1).run some = some (e, s') := h
  obtain ⟨e1, h_0⟩ := asPtr_spec h
  obtain ⟨e2, h_1⟩ := asRef_spec h_0
  obtain ⟨d4, e3, h_2⟩ := asImmZ_spec h_1
  obtain ⟨m6, d7, e5, h_3⟩ := asRoot_spec h_2
  obtain ⟨z8, rfl, h_4⟩ := asMImm_spec h_3
  obtain ⟨m10, d11, e9, h_5⟩ := asRoot_spec h_4
  obtain ⟨rfl, h_6⟩ := asM_spec h_5
  obtain ⟨y, hy, hz⟩ := mat_ret h_6
  refine ⟨_, _, s_l08Source_9aa7_l3_mk z8 d7, s_l08Source_9aa7_l3_out z8 d7, s_l08Source_9aa7_l3 d7, (d4, d11), y, ?_, hy, ?_, s_l08Source_9aa7_l3_step z8 d7⟩
  · subst hs; exact restrict_eq (T := [(0, (.ptr (0, 0) [])), (3, (.ref (5, 0) [])), (4, (.imm true (.int .i64) d4))]) (U := [((0, 0), some ⟨true, kGather, (.imm z8), d7⟩), ((5, 0), some ⟨false, (.sl (.int .i64)), .own, d11⟩)]) rfl rfl ⟨e1, e2, e3, trivial⟩ ⟨e5, e9, trivial⟩
  · exact Option.some.inj hz
noncomputable def s_l08Source_9aa7_I : FnI := ⟨s_l08Source_9aa7_b, Try.f31.results.toList, Try.f31.resultTypes.toList, s_l08Source_9aa7_A⟩
noncomputable def s_l08Source_9aa7_out (zp0 : Bool) (p0 : (Int × (Int × ((List Int) × (Int × (Int × Unit)))))) : (List Int) → CallOut := fun r => ⟨(.ref (1, 0) []), [⟨true, kGather, (.imm zp0), p0⟩], [⟨false, (.sl (.int .i64)), .own, r⟩]⟩
set_option maxRecDepth 100000 in
theorem s_l08Source_9aa7_eq : ∀ (zp0 : Bool) (p0 : (Int × (Int × ((List Int) × (Int × (Int × Unit)))))), denFn s_l08Source_9aa7_V s_l08Source_9aa7_I ⟨[(.ptr (0, 0) [])], [⟨true, kGather, (.imm zp0), p0⟩]⟩ = (s_l08Source_9aa7 p0).run fun r => some (s_l08Source_9aa7_out zp0 p0 r) := fun _ _ => by kernel_rfl
noncomputable def s_l08Source_9aa7_G (av : List AV) (rs : List Root) : Tre CallOut :=
  asCons av fun a0_ av0 =>
  asEnd av0 <|
  asCons rs fun r0_ rs0 =>
  asEnd rs0 <|
  asPtr (0, 0) [] a0_ <|
  asRt true kGather r0_ fun m1 d2 =>
  asMImm m1 fun z3 =>
  .mat (srcR d2) fun r => .ret (s_l08Source_9aa7_out z3 d2 r)
noncomputable def s_l08Source_9aa7_c : Ctr := ⟨[], fun ci => s_l08Source_9aa7_G ci.args ci.roots⟩
theorem s_l08Source_9aa7_env : EnvOK Try.prog s_l08Source_9aa7_V := envOK_nil
set_option maxRecDepth 100000 in
theorem s_l08Source_9aa7_ok : Contract Try.prog 31 s_l08Source_9aa7_c := by
  have hl : LoopsOK s_l08Source_9aa7_V s_l08Source_9aa7_A s_l08Source_9aa7_b := (loopsOK_all (n := 1) (by kernel_rfl) fun k hk => by
      match k, hk with
      | 0, _ => exact loopOK_at (id := 3) (L := s_l08Source_9aa7_l3_L) (by kernel_rfl) (by kernel_rfl) s_l08Source_9aa7_l3_ok)
  refine (contract_of (F := s_l08Source_9aa7_I) tau_tys s_l08Source_9aa7_env Try.func31 (by kernel_rfl) (by kernel_rfl) (by kernel_rfl) hl []).weaken ?_
  rintro ⟨av, rs⟩ co h
  have h : (s_l08Source_9aa7_G av rs).run some = some co := h
  obtain ⟨a0_, av0, rfl, h_0⟩ := asCons_spec h
  obtain ⟨rfl, h_1⟩ := asEnd_spec h_0
  obtain ⟨r0_, rs0, rfl, h_2⟩ := asCons_spec h_1
  obtain ⟨rfl, h_3⟩ := asEnd_spec h_2
  obtain ⟨rfl, h_4⟩ := asPtr_spec h_3
  obtain ⟨m1, d2, rfl, h_5⟩ := asRt_spec h_4
  obtain ⟨z3, rfl, h_6⟩ := asMImm_spec h_5
  exact fin_opt (s_l08Source_9aa7_eq z3 d2) (s_l08Source_9aa7_spec d2) h_6

end Go.Proofs.Ytadgapcpogmpcaa

namespace Go.Proofs.Ytadgapcpogmpcaa
open Go Go.Abs Go.Proofs

/-! function 15: loop.example/g01144/spec.SourceRows -/
noncomputable def s_SourceRows (p0 : (Int × (Int × ((List Int) × (Int × (Int × Unit)))))) : Tre (Int × (List Int)) :=
  .mat (okG p0) fun r1 =>
  .cond (!r1)
    (.ret (1, []))
    (.mat (srcR p0) fun r2 =>
    .ret (0, r2))
noncomputable def s_SourceRows_F (p0 : (Int × (Int × ((List Int) × (Int × (Int × Unit)))))) : Option (Int × (List Int)) := (s_SourceRows p0).run some
/-- the rows of a source, with what is wrong -/
def srcV (g : Int × Int × List Int × Int × Int × Unit) : Int × List Int := cond (isG g) (0, srcL g) (1, [])
def srcB (g : Int × Int × List Int × Int × Int × Unit) : Option (Int × List Int) := lim g.2.2.1.length (srcV g)
theorem s_SourceRows_spec (p0 : Int × Int × List Int × Int × Int × Unit) (y : Int × List Int) (h : srcB p0 = some y) : s_SourceRows_F p0 = some y := by
  obtain ⟨hl, rfl⟩ := lim_some h
  unfold s_SourceRows_F s_SourceRows srcV
  rw [run_some_mat (show okG p0 = some _ from lim_of hl), Tre.run_cond]
  cases hg : isG p0
  · rfl
  have hb : 1 ≤ p0.1 ∧ p0.1 ≤ 4 := by
    unfold isG at hg
    simp only [Bool.and_eq_true, inR_iff] at hg
    exact hg.1.1.1.1.1
  rw [Bool.not_true, cond_false, cond_true, run_some_mat (show srcR p0 = some _ from askO_true (by simp only [Bool.and_eq_true, decide_eq_true_eq, inR_iff]; omega))]
  rfl

noncomputable def s_SourceRows_V : Env := ⟨tau, [(29, s_l08Ok_9aa7_c), (31, s_l08Source_9aa7_c)]⟩
noncomputable def s_SourceRows_b : Code := (Try.f15.body).getD .skip
noncomputable def s_SourceRows_I : FnI := ⟨s_SourceRows_b, Try.f15.results.toList, Try.f15.resultTypes.toList, []⟩
noncomputable def s_SourceRows_out (_zp0 : Bool) (_p0 : (Int × (Int × ((List Int) × (Int × (Int × Unit)))))) : (Int × (List Int)) → CallOut := fun r => ⟨(.tcons (.ref (1, 0) []) (.tcons (.imm true (.int .i64) r.1) .tnil)), [], [⟨false, (.sl (.int .i64)), .own, r.2⟩]⟩
set_option maxRecDepth 100000 in
theorem s_SourceRows_eq : ∀ (zp0 : Bool) (p0 : (Int × (Int × ((List Int) × (Int × (Int × Unit)))))), denFn s_SourceRows_V s_SourceRows_I ⟨[(.imm zp0 kGather p0)], []⟩ = (s_SourceRows p0).run fun r => some (s_SourceRows_out zp0 p0 r) := fun _ _ => by kernel_rfl
noncomputable def s_SourceRows_G (av : List AV) (rs : List Root) : Tre CallOut :=
  asCons av fun a0_ av0 =>
  asEnd av0 <|
  asEnd rs <|
  asImm kGather a0_ fun z2 d1 =>
  .mat (srcB d1) fun r => .ret (s_SourceRows_out z2 d1 r)
noncomputable def s_SourceRows_c : Ctr := ⟨[], fun ci => s_SourceRows_G ci.args ci.roots⟩
theorem s_SourceRows_env : EnvOK Try.prog s_SourceRows_V := (envOK_cons s_l08Ok_9aa7_ok ent29 (envOK_cons s_l08Source_9aa7_ok ent31 envOK_nil))
set_option maxRecDepth 100000 in
theorem s_SourceRows_ok : Contract Try.prog 15 s_SourceRows_c := by
  have hl : LoopsOK s_SourceRows_V [] s_SourceRows_b := loopsOK_nil (by kernel_rfl)
  refine (contract_of (F := s_SourceRows_I) tau_tys s_SourceRows_env Try.func15 (by kernel_rfl) (by kernel_rfl) (by kernel_rfl) hl []).weaken ?_
  rintro ⟨av, rs⟩ co h
  have h : (s_SourceRows_G av rs).run some = some co := h
  obtain ⟨a0_, av0, rfl, h_0⟩ := asCons_spec h
  obtain ⟨rfl, h_1⟩ := asEnd_spec h_0
  obtain ⟨rfl, h_2⟩ := asEnd_spec h_1
  obtain ⟨z2, d1, rfl, h_3⟩ := asImm_spec h_2
  exact fin_opt (s_SourceRows_eq z2 d1) (s_SourceRows_spec d1) h_3

end Go.Proofs.Ytadgapcpogmpcaa

namespace Go.Proofs.Ytadgapcpogmpcaa
open Go Go.Abs Go.Proofs

/-! function 32: (loop.example/g01144/impl.Gather).source -/
noncomputable def i_Gather_source_l3 (h3_0_0 : (List Int)) (h3_0_1 : Int) (h3_0_3 : (Int × (Int × ((List Int) × (Int × (Int × Unit)))))) : (Int × (List Int)) → Tre ((Int × (List Int)) ⊕ (List Int)) := fun s3 =>
  .cond (decide (s3.1 < h3_0_1))
    (.ite (0 ≤ s3.1 ∧ s3.1 < (h3_0_0.length : Int)) <|
    .mat (h3_0_0[s3.1.toNat]?) fun x1 =>
    .ite (0 ≤ s3.1) <|
    .ite (0 ≤ h3_0_3.1) <|
    let v2 := ior .i64 (ishl .i64 1 s3.1) (ishl .i64 x1 h3_0_3.1)
    .ite ((s3.2.length + 1) * 8 ≤ appendMax ∧ 1 ≤ 8) <|
    .ret (.inl (iwrap .i64 (s3.1 + 1), s3.2 ++ ([v2]))))
    (.ret (.inr s3.2))
noncomputable def i_Gather_source (p0 : (Int × (Int × ((List Int) × (Int × (Int × Unit)))))) : Tre (List Int) :=
  .mat (loopF (i_Gather_source_l3 p0.2.2.1 (p0.2.2.1.length : Int) p0) (0, [])) fun l3 =>
  .ret l3
noncomputable def i_Gather_source_F (p0 : (Int × (Int × ((List Int) × (Int × (Int × Unit)))))) : Option (List Int) := (i_Gather_source p0).run some
theorem i_Gather_source_spec (p0 : Int × Int × List Int × Int × Int × Unit) (y : List Int) (h : srcR p0 = some y) : i_Gather_source_F p0 = some y := by
  obtain ⟨hok, rfl⟩ := askO_some h
  simp only [Bool.and_eq_true, decide_eq_true_eq, inR_iff] at hok
  obtain ⟨hk, hl⟩ := hok
  unfold i_Gather_source_F i_Gather_source
  have := fold_loop (xs := p0.2.2.1) (step := i_Gather_source_l3 p0.2.2.1 (p0.2.2.1.length : Int) p0) (fun i acc => ((i : Int), acc)) (fun i acc x => .inl (acc ++ [ior .i64 (ishl .i64 1 (i : Int)) (ishl .i64 x p0.1)])) id (fun i acc => acc.length = i) (by
    intro i acc x hx hI
    have hi : i < p0.2.2.1.length := (List.getElem?_eq_some_iff.1 hx).1
    refine ⟨?_, fun a ha => by cases ha; simp [hI]⟩
    unfold i_Gather_source_l3
    rw [run_inb hx]
    dsimp only
    rw [Tre.run_ite, if_pos (by omega), Tre.run_ite, if_pos (by omega), Tre.run_ite, if_pos (by unfold appendMax; omega), Tre.run_ret, iwrap_succ (by omega)])
    (by
    intro acc _
    unfold i_Gather_source_l3
    exact run_out) p0.2.2.1 0 [] rfl (Nat.zero_le _) rfl
  have h1 : loopF (i_Gather_source_l3 p0.2.2.1 (p0.2.2.1.length : Int) p0) (0, []) = some (srcL p0) := this
  rw [run_some_mat h1]
  rfl

noncomputable def i_Gather_source_V : Env := ⟨tau, []⟩
noncomputable def i_Gather_source_b : Code := (Try.f32.body).getD .skip
noncomputable def i_Gather_source_l3_mk (z3_0 : Bool) (z3_1 : Bool) (h3_0_0 : (List Int)) (h3_0_1 : Int) (h3_0_3 : (Int × (Int × ((List Int) × (Int × (Int × Unit)))))) : (Int × (List Int)) → St := fun x => stOf [(1, (.ptr (3, 0) [])), (3, (.ref (5, 0) [])), (8, (.imm z3_0 (.sl (.int .i64)) h3_0_0)), (9, (.imm true (.int .i64) h3_0_1)), (10, (.imm true (.int .i64) x.1))] [((3, 0), some ⟨true, kGather, (.imm z3_1), h3_0_3⟩), ((5, 0), some ⟨false, (.sl (.int .i64)), .own, x.2⟩)]
noncomputable def i_Gather_source_l3_out (_z3_0 : Bool) (_z3_1 : Bool) (_h3_0_0 : (List Int)) (_h3_0_1 : Int) (_h3_0_3 : (Int × (Int × ((List Int) × (Int × (Int × Unit)))))) : (List Int) → Ex × St := fun x => (.exit 0, stOf [(3, (.ref (5, 0) []))] [((5, 0), some ⟨false, (.sl (.int .i64)), .own, x⟩)])
noncomputable def i_Gather_source_l3_D (s : St) : Tre (Ex × St) :=
  asPtr (3, 0) [] (s.tmps 1) <|
  asRef (5, 0) [] (s.tmps 3) <|
  asImm (.sl (.int .i64)) (s.tmps 8) fun z5 d4 =>
  asImmZ true (.int .i64) (s.tmps 9) fun d7 =>
  asImmZ true (.int .i64) (s.tmps 10) fun d9 =>
  asRoot true kGather (s.roots (3, 0)) fun m11 d12 =>
  asMImm m11 fun z13 =>
  asRoot false (.sl (.int .i64)) (s.roots (5, 0)) fun m15 d16 =>
  asM .own m15 <|
  .mat (loopF (i_Gather_source_l3 d4 d7 d12) (d9, d16)) fun x => .ret (i_Gather_source_l3_out z5 z13 d4 d7 d12 x)
noncomputable def i_Gather_source_l3_L : LoopI := ⟨([1, 3, 8, 9, 10], [(3, 0), (5, 0)]), ([3], [(5, 0)]), i_Gather_source_l3_D⟩
noncomputable def i_Gather_source_A : List (Nat × LoopI) := [(3, i_Gather_source_l3_L)]
set_option maxRecDepth 100000 in
theorem i_Gather_source_l3_step : ∀ (z3_0 : Bool) (z3_1 : Bool) (h3_0_0 : (List Int)) (h3_0_1 : Int) (h3_0_3 : (Int × (Int × ((List Int) × (Int × (Int × Unit)))))) (x : (Int × (List Int))) (c : St → Option (Ex × St)), den i_Gather_source_V i_Gather_source_A (loopAt i_Gather_source_b 0) (i_Gather_source_l3_mk z3_0 z3_1 h3_0_0 h3_0_1 h3_0_3 x) (roundK i_Gather_source_l3_L.kp i_Gather_source_l3_L.kx c) = (i_Gather_source_l3 h3_0_0 h3_0_1 h3_0_3 x).run (roundR (i_Gather_source_l3_mk z3_0 z3_1 h3_0_0 h3_0_1 h3_0_3) (i_Gather_source_l3_out z3_0 z3_1 h3_0_0 h3_0_1 h3_0_3) c) := fun _ _ _ _ _ _ _ => by
  kernel_rfl
theorem i_Gather_source_l3_ok : LoopOK i_Gather_source_V i_Gather_source_A (loopAt i_Gather_source_b 0) i_Gather_source_l3_L := loopOK_of fun s e s' h => by
  generalize hs : restrict i_Gather_source_l3_L.kp s = s1 at h
  have h : (i_Gather_source_l3_D s1).run some = some (e, s') := h
  obtain ⟨e1, h_0⟩ := asPtr_spec h
  obtain ⟨e2, h_1⟩ := asRef_spec h_0
  obtain ⟨z5, d4, e3, h_2⟩ := asImm_spec h_1
  obtain ⟨d7, e6, h_3⟩ := asImmZ_spec h_2
  obtain ⟨d9, e8, h_4⟩ := asImmZ_spec h_3
  obtain ⟨m11, d12, e10, h_5⟩ := asRoot_spec h_4
  obtain ⟨z13, rfl, h_6⟩ := asMImm_spec h_5
  obtain ⟨m15, d16, e14, h_7⟩ := asRoot_spec h_6
  obtain ⟨rfl, h_8⟩ := asM_spec h_7
  obtain ⟨y, hy, hz⟩ := mat_ret h_8
  refine ⟨_, _, i_Gather_source_l3_mk z5 z13 d4 d7 d12, i_Gather_source_l3_out z5 z13 d4 d7 d12, i_Gather_source_l3 d4 d7 d12, (d9, d16), y, ?_, hy, ?_, i_Gather_source_l3_step z5 z13 d4 d7 d12⟩
  · subst hs; exact restrict_eq (T := [(1, (.ptr (3, 0) [])), (3, (.ref (5, 0) [])), (8, (.imm z5 (.sl (.int .i64)) d4)), (9, (.imm true (.int .i64) d7)), (10, (.imm true (.int .i64) d9))]) (U := [((3, 0), some ⟨true, kGather, (.imm z13), d12⟩), ((5, 0), some ⟨false, (.sl (.int .i64)), .own, d16⟩)]) rfl rfl ⟨e1, e2, e3, e6, e8, trivial⟩ ⟨e10, e14, trivial⟩
  · exact Option.some.inj hz
noncomputable def i_Gather_source_I : FnI := ⟨i_Gather_source_b, Try.f32.results.toList, Try.f32.resultTypes.toList, i_Gather_source_A⟩
noncomputable def i_Gather_source_out (_zp0 : Bool) (_p0 : (Int × (Int × ((List Int) × (Int × (Int × Unit)))))) : (List Int) → CallOut := fun r => ⟨(.ref (1, 0) []), [], [⟨false, (.sl (.int .i64)), .own, r⟩]⟩
set_option maxRecDepth 100000 in
theorem i_Gather_source_eq : ∀ (zp0 : Bool) (p0 : (Int × (Int × ((List Int) × (Int × (Int × Unit)))))), denFn i_Gather_source_V i_Gather_source_I ⟨[(.imm zp0 kGather p0)], []⟩ = (i_Gather_source p0).run fun r => some (i_Gather_source_out zp0 p0 r) := fun _ _ => by kernel_rfl
noncomputable def i_Gather_source_G (av : List AV) (rs : List Root) : Tre CallOut :=
  asCons av fun a0_ av0 =>
  asEnd av0 <|
  asEnd rs <|
  asImm kGather a0_ fun z2 d1 =>
  .mat (srcR d1) fun r => .ret (i_Gather_source_out z2 d1 r)
noncomputable def i_Gather_source_c : Ctr := ⟨[], fun ci => i_Gather_source_G ci.args ci.roots⟩
theorem i_Gather_source_env : EnvOK Try.prog i_Gather_source_V := envOK_nil
set_option maxRecDepth 100000 in
theorem i_Gather_source_ok : Contract Try.prog 32 i_Gather_source_c := by
  have hl : LoopsOK i_Gather_source_V i_Gather_source_A i_Gather_source_b := (loopsOK_all (n := 1) (by kernel_rfl) fun k hk => by
      match k, hk with
      | 0, _ => exact loopOK_at (id := 3) (L := i_Gather_source_l3_L) (by kernel_rfl) (by kernel_rfl) i_Gather_source_l3_ok)
  refine (contract_of (F := i_Gather_source_I) tau_tys i_Gather_source_env Try.func32 (by kernel_rfl) (by kernel_rfl) (by kernel_rfl) hl []).weaken ?_
  rintro ⟨av, rs⟩ co h
  have h : (i_Gather_source_G av rs).run some = some co := h
  obtain ⟨a0_, av0, rfl, h_0⟩ := asCons_spec h
  obtain ⟨rfl, h_1⟩ := asEnd_spec h_0
  obtain ⟨rfl, h_2⟩ := asEnd_spec h_1
  obtain ⟨z2, d1, rfl, h_3⟩ := asImm_spec h_2
  exact fin_opt (i_Gather_source_eq z2 d1) (i_Gather_source_spec d1) h_3

end Go.Proofs.Ytadgapcpogmpcaa

namespace Go.Proofs.Ytadgapcpogmpcaa
open Go Go.Abs Go.Proofs

/-! function 16: loop.example/g01144/impl.SourceRows -/
noncomputable def i_SourceRows (p0 : (Int × (Int × ((List Int) × (Int × (Int × Unit)))))) : Tre (Int × (List Int)) :=
  .mat (okG p0) fun r1 =>
  .cond (!r1)
    (.ret (1, []))
    (.mat (srcR p0) fun r2 =>
    .ret (0, r2))
noncomputable def i_SourceRows_F (p0 : (Int × (Int × ((List Int) × (Int × (Int × Unit)))))) : Option (Int × (List Int)) := (i_SourceRows p0).run some
theorem i_SourceRows_spec (p0 : Int × Int × List Int × Int × Int × Unit) (y : Int × List Int) (h : srcB p0 = some y) : i_SourceRows_F p0 = some y := by
  obtain ⟨hl, rfl⟩ := lim_some h
  unfold i_SourceRows_F i_SourceRows srcV
  rw [run_some_mat (show okG p0 = some _ from lim_of hl), Tre.run_cond]
  cases hg : isG p0
  · rfl
  have hb : 1 ≤ p0.1 ∧ p0.1 ≤ 4 := by
    unfold isG at hg
    simp only [Bool.and_eq_true, inR_iff] at hg
    exact hg.1.1.1.1.1
  rw [Bool.not_true, cond_false, cond_true, run_some_mat (show srcR p0 = some _ from askO_true (by simp only [Bool.and_eq_true, decide_eq_true_eq, inR_iff]; omega))]
  rfl

noncomputable def i_SourceRows_V : Env := ⟨tau, [(13, i_ValidGather_c), (32, i_Gather_source_c)]⟩
noncomputable def i_SourceRows_b : Code := (Try.f16.body).getD .skip
noncomputable def i_SourceRows_I : FnI := ⟨i_SourceRows_b, Try.f16.results.toList, Try.f16.resultTypes.toList, []⟩
noncomputable def i_SourceRows_out (_zp0 : Bool) (_p0 : (Int × (Int × ((List Int) × (Int × (Int × Unit)))))) : (Int × (List Int)) → CallOut := fun r => ⟨(.tcons (.ref (1, 0) []) (.tcons (.imm true (.int .i64) r.1) .tnil)), [], [⟨false, (.sl (.int .i64)), .own, r.2⟩]⟩
set_option maxRecDepth 100000 in
theorem i_SourceRows_eq : ∀ (zp0 : Bool) (p0 : (Int × (Int × ((List Int) × (Int × (Int × Unit)))))), denFn i_SourceRows_V i_SourceRows_I ⟨[(.imm zp0 kGather p0)], []⟩ = (i_SourceRows p0).run fun r => some (i_SourceRows_out zp0 p0 r) := fun _ _ => by kernel_rfl
noncomputable def i_SourceRows_G (av : List AV) (rs : List Root) : Tre CallOut :=
  asCons av fun a0_ av0 =>
  asEnd av0 <|
  asEnd rs <|
  asImm kGather a0_ fun z2 d1 =>
  .mat (srcB d1) fun r => .ret (i_SourceRows_out z2 d1 r)
noncomputable def i_SourceRows_c : Ctr := ⟨[], fun ci => i_SourceRows_G ci.args ci.roots⟩
theorem i_SourceRows_env : EnvOK Try.prog i_SourceRows_V := (envOK_cons i_ValidGather_ok ent13 (envOK_cons i_Gather_source_ok ent32 envOK_nil))
set_option maxRecDepth 100000 in
theorem i_SourceRows_ok : Contract Try.prog 16 i_SourceRows_c := by
  have hl : LoopsOK i_SourceRows_V [] i_SourceRows_b := loopsOK_nil (by kernel_rfl)
  refine (contract_of (F := i_SourceRows_I) tau_tys i_SourceRows_env Try.func16 (by kernel_rfl) (by kernel_rfl) (by kernel_rfl) hl []).weaken ?_
  rintro ⟨av, rs⟩ co h
  have h : (i_SourceRows_G av rs).run some = some co := h
  obtain ⟨a0_, av0, rfl, h_0⟩ := asCons_spec h
  obtain ⟨rfl, h_1⟩ := asEnd_spec h_0
  obtain ⟨rfl, h_2⟩ := asEnd_spec h_1
  obtain ⟨z2, d1, rfl, h_3⟩ := asImm_spec h_2
  exact fin_opt (i_SourceRows_eq z2 d1) (i_SourceRows_spec d1) h_3

end Go.Proofs.Ytadgapcpogmpcaa

namespace Go.Proofs.Ytadgapcpogmpcaa
open Go Go.Abs Go.Proofs

/-! function 19: loop.example/g01144/laws.markInt64S -/
noncomputable def l_markInt64S_4b97_l2 : (Int × Int × (Int × (Int × ((List Int) × (Int × (Int × Unit)))))) → Tre ((Int × Int × (Int × (Int × ((List Int) × (Int × (Int × Unit)))))) ⊕ (Int × (Int × (Int × ((List Int) × (Int × (Int × Unit))))))) := fun s2 =>
  .cond (decide (s2.2.1 < (s2.2.2.2.2.1.length : Int)))
    (.ite (0 ≤ s2.2.1 ∧ s2.2.1 < (s2.2.2.2.2.1.length : Int)) <|
    .mat (s2.2.2.2.2.1[s2.2.1.toNat]?) fun _ =>
    let v2 := s2.2.2.2.2.1.set s2.2.1.toNat s2.1
    .ret (.inl (iwrap .i64 (s2.1 + 1), iwrap .i64 (s2.2.1 + 1), (s2.2.2.1, (s2.2.2.2.1, (v2, s2.2.2.2.2.2))))))
    (.ret (.inr (s2.1, s2.2.2)))
noncomputable def l_markInt64S_4b97 (p0 : Int) (p1 : (Int × (Int × ((List Int) × (Int × (Int × Unit)))))) : Tre (Int × (Int × (Int × ((List Int) × (Int × (Int × Unit)))))) :=
  .mat (loopF l_markInt64S_4b97_l2 (p0, 0, p1)) fun l3 =>
  .ret (l3.1, l3.2)
noncomputable def l_markInt64S_4b97_F (p0 : Int) (p1 : (Int × (Int × ((List Int) × (Int × (Int × Unit)))))) : Option (Int × (Int × (Int × ((List Int) × (Int × (Int × Unit)))))) := (l_markInt64S_4b97 p0 p1).run some
/-- the data of a gathering are marked -/
def markN (k : Int) (g : Int × Int × List Int × Int × Int × Unit) : Option (Int × Int × Int × List Int × Int × Int × Unit) := askO (inR k 0 1048576 && decide (g.2.2.1.length ≤ 1048576)) (k + (g.2.2.1.length : Int), (g.1, g.2.1, marks k g.2.2.1.length, g.2.2.2))
theorem l_markInt64S_4b97_spec (p0 : Int) (p1 : Int × Int × List Int × Int × Int × Unit) (y : Int × Int × Int × List Int × Int × Int × Unit) (h : markN p0 p1 = some y) : l_markInt64S_4b97_F p0 p1 = some y := by
  obtain ⟨hok, rfl⟩ := askO_some h
  simp only [Bool.and_eq_true, decide_eq_true_eq, inR_iff] at hok
  obtain ⟨hk, hl⟩ := hok
  obtain ⟨ga, gb, xs, gr⟩ := p1
  unfold l_markInt64S_4b97_F l_markInt64S_4b97
  dsimp only at hl ⊢
  have := fold_loop (xs := xs) (step := l_markInt64S_4b97_l2) (fun i acc => (p0 + (i : Int), (i : Int), (ga, gb, acc, gr))) (fun i acc _ => .inl (acc.set i (p0 + (i : Int)))) (fun acc => (p0 + (xs.length : Int), (ga, gb, acc, gr))) (fun i acc => acc.length = xs.length) (by
    intro i acc x hx hI
    have hi : i < xs.length := (List.getElem?_eq_some_iff.1 hx).1
    refine ⟨?_, fun a ha => by cases ha; simpa using hI⟩
    unfold l_markInt64S_4b97_l2
    rw [run_inb (List.getElem?_eq_getElem (by omega : i < acc.length))]
    dsimp only
    rw [Tre.run_ret, iwrap_succ (by omega), iwrap_i64 (by omega) (by omega), Int.toNat_natCast]
    simp only [Int.natCast_add, Int.natCast_one, Int.add_assoc])
    (by
    intro acc hI
    unfold l_markInt64S_4b97_l2
    rw [← show acc.length = xs.length from hI]
    exact run_out) xs 0 xs rfl (Nat.zero_le _) rfl
  rw [foldE_marks _ _ _ _ _ (by simp)] at this
  have h1 : loopF l_markInt64S_4b97_l2 (p0, 0, (ga, gb, xs, gr)) = some (p0 + (xs.length : Int), (ga, gb, marks p0 xs.length, gr)) := by
    simpa [marks] using this
  rw [run_some_mat h1]
  rfl

noncomputable def l_markInt64S_4b97_V : Env := ⟨tau, []⟩
noncomputable def l_markInt64S_4b97_b : Code := (Try.f19.body).getD .skip
noncomputable def l_markInt64S_4b97_l2_mk : (Int × Int × (Int × (Int × ((List Int) × (Int × (Int × Unit)))))) → St := fun x => stOf [(0, (.ref (0, 0) [.snd, .snd, .fst])), (1, (.imm true (.int .i64) x.1)), (5, (.imm true (.int .i64) x.2.1))] [((0, 0), some ⟨true, kGather, .own, x.2.2⟩)]
noncomputable def l_markInt64S_4b97_l2_out : (Int × (Int × (Int × ((List Int) × (Int × (Int × Unit)))))) → Ex × St := fun x => (.exit 0, stOf [(1, (.imm true (.int .i64) x.1))] [((0, 0), some ⟨true, kGather, .own, x.2⟩)])
noncomputable def l_markInt64S_4b97_l2_D (s : St) : Tre (Ex × St) :=
  asRef (0, 0) [.snd, .snd, .fst] (s.tmps 0) <|
  asImmZ true (.int .i64) (s.tmps 1) fun d3 =>
  asImmZ true (.int .i64) (s.tmps 5) fun d5 =>
  asRoot true kGather (s.roots (0, 0)) fun m7 d8 =>
  asM .own m7 <|
  .mat (loopF l_markInt64S_4b97_l2 (d3, d5, d8)) fun x => .ret (l_markInt64S_4b97_l2_out x)
noncomputable def l_markInt64S_4b97_l2_L : LoopI := ⟨([0, 1, 5], [(0, 0)]), ([1], [(0, 0)]), l_markInt64S_4b97_l2_D⟩
noncomputable def l_markInt64S_4b97_A : List (Nat × LoopI) := [(2, l_markInt64S_4b97_l2_L)]
set_option maxRecDepth 100000 in
theorem l_markInt64S_4b97_l2_step : ∀ (x : (Int × Int × (Int × (Int × ((List Int) × (Int × (Int × Unit))))))) (c : St → Option (Ex × St)), den l_markInt64S_4b97_V l_markInt64S_4b97_A (loopAt l_markInt64S_4b97_b 0) (l_markInt64S_4b97_l2_mk x) (roundK l_markInt64S_4b97_l2_L.kp l_markInt64S_4b97_l2_L.kx c) = (l_markInt64S_4b97_l2 x).run (roundR (l_markInt64S_4b97_l2_mk) (l_markInt64S_4b97_l2_out) c) := fun _ _ => by
  kernel_rfl
theorem l_markInt64S_4b97_l2_ok : LoopOK l_markInt64S_4b97_V l_markInt64S_4b97_A (loopAt l_markInt64S_4b97_b 0) l_markInt64S_4b97_l2_L := loopOK_of fun s e s' h => by
  generalize hs : restrict l_markInt64S_4b97_l2_L.kp s = s1 at h
  have h : (l_markInt64S_4b97_l2_D s1).run some = some (e, s') := h
  obtain ⟨e1, h_0⟩ := asRef_spec h
  obtain ⟨d3, e2, h_1⟩ := asImmZ_spec h_0
  obtain ⟨d5, e4, h_2⟩ := asImmZ_spec h_1
  obtain ⟨m7, d8, e6, h_3⟩ := asRoot_spec h_2
  obtain ⟨rfl, h_4⟩ := asM_spec h_3
  obtain ⟨y, hy, hz⟩ := mat_ret h_4
  refine ⟨_, _, l_markInt64S_4b97_l2_mk, l_markInt64S_4b97_l2_out, l_markInt64S_4b97_l2, (d3, d5, d8), y, ?_, hy, ?_, l_markInt64S_4b97_l2_step⟩
  · subst hs; exact restrict_eq (T := [(0, (.ref (0, 0) [.snd, .snd, .fst])), (1, (.imm true (.int .i64) d3)), (5, (.imm true (.int .i64) d5))]) (U := [((0, 0), some ⟨true, kGather, .own, d8⟩)]) rfl rfl ⟨e1, e2, e4, trivial⟩ ⟨e6, trivial⟩
  · exact Option.some.inj hz
noncomputable def l_markInt64S_4b97_I : FnI := ⟨l_markInt64S_4b97_b, Try.f19.results.toList, Try.f19.resultTypes.toList, l_markInt64S_4b97_A⟩
noncomputable def l_markInt64S_4b97_out (_p0 : Int) (_p1 : (Int × (Int × ((List Int) × (Int × (Int × Unit)))))) : (Int × (Int × (Int × ((List Int) × (Int × (Int × Unit)))))) → CallOut := fun r => ⟨(.imm true (.int .i64) r.1), [⟨true, kGather, .own, r.2⟩], []⟩
set_option maxRecDepth 100000 in
theorem l_markInt64S_4b97_eq : ∀ (p0 : Int) (p1 : (Int × (Int × ((List Int) × (Int × (Int × Unit)))))), denFn l_markInt64S_4b97_V l_markInt64S_4b97_I ⟨[(.ref (0, 0) [.snd, .snd, .fst]), (.imm true (.int .i64) p0)], [⟨true, kGather, .own, p1⟩]⟩ = (l_markInt64S_4b97 p0 p1).run fun r => some (l_markInt64S_4b97_out p0 p1 r) := fun _ _ => by kernel_rfl
noncomputable def l_markInt64S_4b97_G (av : List AV) (rs : List Root) : Tre CallOut :=
  asCons av fun a0_ av0 =>
  asCons av0 fun a1_ av1 =>
  asEnd av1 <|
  asCons rs fun r0_ rs0 =>
  asEnd rs0 <|
  asRef (0, 0) [.snd, .snd, .fst] a0_ <|
  asImmZ true (.int .i64) a1_ fun d1 =>
  asRt true kGather r0_ fun m2 d3 =>
  asM .own m2 <|
  .mat (markN d1 d3) fun r => .ret (l_markInt64S_4b97_out d1 d3 r)
noncomputable def l_markInt64S_4b97_c : Ctr := ⟨[0], fun ci => l_markInt64S_4b97_G ci.args ci.roots⟩
theorem l_markInt64S_4b97_env : EnvOK Try.prog l_markInt64S_4b97_V := envOK_nil
set_option maxRecDepth 100000 in
theorem l_markInt64S_4b97_ok : Contract Try.prog 19 l_markInt64S_4b97_c := by
  have hl : LoopsOK l_markInt64S_4b97_V l_markInt64S_4b97_A l_markInt64S_4b97_b := (loopsOK_all (n := 1) (by kernel_rfl) fun k hk => by
      match k, hk with
      | 0, _ => exact loopOK_at (id := 2) (L := l_markInt64S_4b97_l2_L) (by kernel_rfl) (by kernel_rfl) l_markInt64S_4b97_l2_ok)
  refine (contract_of (F := l_markInt64S_4b97_I) tau_tys l_markInt64S_4b97_env Try.func19 (by kernel_rfl) (by kernel_rfl) (by kernel_rfl) hl [0]).weaken ?_
  rintro ⟨av, rs⟩ co h
  have h : (l_markInt64S_4b97_G av rs).run some = some co := h
  obtain ⟨a0_, av0, rfl, h_0⟩ := asCons_spec h
  obtain ⟨a1_, av1, rfl, h_1⟩ := asCons_spec h_0
  obtain ⟨rfl, h_2⟩ := asEnd_spec h_1
  obtain ⟨r0_, rs0, rfl, h_3⟩ := asCons_spec h_2
  obtain ⟨rfl, h_4⟩ := asEnd_spec h_3
  obtain ⟨rfl, h_5⟩ := asRef_spec h_4
  obtain ⟨d1, rfl, h_6⟩ := asImmZ_spec h_5
  obtain ⟨m2, d3, rfl, h_7⟩ := asRt_spec h_6
  obtain ⟨rfl, h_8⟩ := asM_spec h_7
  exact fin_opt (l_markInt64S_4b97_eq d1 d3) (l_markInt64S_4b97_spec d1 d3) h_8

end Go.Proofs.Ytadgapcpogmpcaa

namespace Go.Proofs.Ytadgapcpogmpcaa
open Go Go.Abs Go.Proofs

/-! function 18: loop.example/g01144/laws.markGather -/
noncomputable def l_markGather_3874 (_p0 : Int) (_p1 : Int) (_p2 : (Int × (Int × Unit))) (p3 : Int) (p4 : (Int × (Int × ((List Int) × (Int × (Int × Unit)))))) : Tre (Int × (Int × (Int × ((List Int) × (Int × (Int × Unit)))))) :=
  .mat (markN p3 p4) fun r1 =>
  .ret (r1.1, r1.2)
noncomputable def l_markGather_3874_F (p0 : Int) (p1 : Int) (p2 : (Int × (Int × Unit))) (p3 : Int) (p4 : (Int × (Int × ((List Int) × (Int × (Int × Unit)))))) : Option (Int × (Int × (Int × ((List Int) × (Int × (Int × Unit)))))) := (l_markGather_3874 p0 p1 p2 p3 p4).run some
def markG (_ _ : Int) (_ : Int × Int × Unit) (k : Int) (g : Int × Int × List Int × Int × Int × Unit) : Option (Int × Int × Int × List Int × Int × Int × Unit) := markN k g
theorem l_markGather_3874_spec (p0 p1 : Int) (p2 : Int × Int × Unit) (p3 : Int) (p4 : Int × Int × List Int × Int × Int × Unit) (y : Int × Int × Int × List Int × Int × Int × Unit) (h : markG p0 p1 p2 p3 p4 = some y) : l_markGather_3874_F p0 p1 p2 p3 p4 = some y := by
  unfold l_markGather_3874_F l_markGather_3874
  rw [run_some_mat (show markN p3 p4 = some y from h)]
  rfl

noncomputable def l_markGather_3874_V : Env := ⟨tau, [(19, l_markInt64S_4b97_c)]⟩
noncomputable def l_markGather_3874_b : Code := (Try.f18.body).getD .skip
noncomputable def l_markGather_3874_I : FnI := ⟨l_markGather_3874_b, Try.f18.results.toList, Try.f18.resultTypes.toList, []⟩
noncomputable def l_markGather_3874_out (_p0 : Int) (_p1 : Int) (_p2 : (Int × (Int × Unit))) (_p3 : Int) (_p4 : (Int × (Int × ((List Int) × (Int × (Int × Unit)))))) : (Int × (Int × (Int × ((List Int) × (Int × (Int × Unit)))))) → CallOut := fun r => ⟨(.imm true (.int .i64) r.1), [⟨true, kGather, .own, r.2⟩], []⟩
set_option maxRecDepth 100000 in
theorem l_markGather_3874_eq : ∀ (p0 : Int) (p1 : Int) (p2 : (Int × (Int × Unit))) (p3 : Int) (p4 : (Int × (Int × ((List Int) × (Int × (Int × Unit)))))), denFn l_markGather_3874_V l_markGather_3874_I ⟨[(.pair (.imm true (.int .i64) p0) (.pair (.imm true (.int .i64) p1) (.pair (.ref (0, 0) [.snd, .snd, .fst]) (.imm true (.pair (.int .i64) (.pair (.int .i64) .unit)) p2)))), (.imm true (.int .i64) p3)], [⟨true, kGather, .own, p4⟩]⟩ = (l_markGather_3874 p0 p1 p2 p3 p4).run fun r => some (l_markGather_3874_out p0 p1 p2 p3 p4 r) := fun _ _ _ _ _ => by kernel_rfl
noncomputable def l_markGather_3874_G (av : List AV) (rs : List Root) : Tre CallOut :=
  asCons av fun a0_ av0 =>
  asCons av0 fun a1_ av1 =>
  asEnd av1 <|
  asCons rs fun r0_ rs0 =>
  asEnd rs0 <|
  asPair a0_ fun a1 a2 =>
  asImmZ true (.int .i64) a1 fun d3 =>
  asPair a2 fun a4 a5 =>
  asImmZ true (.int .i64) a4 fun d6 =>
  asPair a5 fun a7 a8 =>
  asRef (0, 0) [.snd, .snd, .fst] a7 <|
  asImmZ true (.pair (.int .i64) (.pair (.int .i64) .unit)) a8 fun d9 =>
  asImmZ true (.int .i64) a1_ fun d10 =>
  asRt true kGather r0_ fun m11 d12 =>
  asM .own m11 <|
  .mat (markG d3 d6 d9 d10 d12) fun r => .ret (l_markGather_3874_out d3 d6 d9 d10 d12 r)
noncomputable def l_markGather_3874_c : Ctr := ⟨[0], fun ci => l_markGather_3874_G ci.args ci.roots⟩
theorem l_markGather_3874_env : EnvOK Try.prog l_markGather_3874_V := (envOK_cons l_markInt64S_4b97_ok ent19 envOK_nil)
set_option maxRecDepth 100000 in
theorem l_markGather_3874_ok : Contract Try.prog 18 l_markGather_3874_c := by
  have hl : LoopsOK l_markGather_3874_V [] l_markGather_3874_b := loopsOK_nil (by kernel_rfl)
  refine (contract_of (F := l_markGather_3874_I) tau_tys l_markGather_3874_env Try.func18 (by kernel_rfl) (by kernel_rfl) (by kernel_rfl) hl [0]).weaken ?_
  rintro ⟨av, rs⟩ co h
  have h : (l_markGather_3874_G av rs).run some = some co := h
  obtain ⟨a0_, av0, rfl, h_0⟩ := asCons_spec h
  obtain ⟨a1_, av1, rfl, h_1⟩ := asCons_spec h_0
  obtain ⟨rfl, h_2⟩ := asEnd_spec h_1
  obtain ⟨r0_, rs0, rfl, h_3⟩ := asCons_spec h_2
  obtain ⟨rfl, h_4⟩ := asEnd_spec h_3
  obtain ⟨a1, a2, rfl, h_5⟩ := asPair_spec h_4
  obtain ⟨d3, rfl, h_6⟩ := asImmZ_spec h_5
  obtain ⟨a4, a5, rfl, h_7⟩ := asPair_spec h_6
  obtain ⟨d6, rfl, h_8⟩ := asImmZ_spec h_7
  obtain ⟨a7, a8, rfl, h_9⟩ := asPair_spec h_8
  obtain ⟨rfl, h_10⟩ := asRef_spec h_9
  obtain ⟨d9, rfl, h_11⟩ := asImmZ_spec h_10
  obtain ⟨d10, rfl, h_12⟩ := asImmZ_spec h_11
  obtain ⟨m11, d12, rfl, h_13⟩ := asRt_spec h_12
  obtain ⟨rfl, h_14⟩ := asM_spec h_13
  exact fin_opt (l_markGather_3874_eq d3 d6 d9 d10 d12) (l_markGather_3874_spec d3 d6 d9 d10 d12) h_14

end Go.Proofs.Ytadgapcpogmpcaa

namespace Go.Proofs.Ytadgapcpogmpcaa
open Go Go.Abs Go.Proofs

/-! function 19: loop.example/g01144/laws.markInt64S -/
noncomputable def l_markInt64S_df1e_l2 : (Int × Int × (List Int)) → Tre ((Int × Int × (List Int)) ⊕ (Int × (List Int))) := fun s2 =>
  .cond (decide (s2.2.1 < (s2.2.2.length : Int)))
    (.ite (0 ≤ s2.2.1 ∧ s2.2.1 < (s2.2.2.length : Int)) <|
    .mat (s2.2.2[s2.2.1.toNat]?) fun _ =>
    let v2 := s2.2.2.set s2.2.1.toNat s2.1
    .ret (.inl (iwrap .i64 (s2.1 + 1), iwrap .i64 (s2.2.1 + 1), v2)))
    (.ret (.inr (s2.1, s2.2.2)))
noncomputable def l_markInt64S_df1e (p0 : Int) (p1 : (List Int)) : Tre (Int × (List Int)) :=
  .mat (loopF l_markInt64S_df1e_l2 (p0, 0, p1)) fun l3 =>
  .ret (l3.1, l3.2)
noncomputable def l_markInt64S_df1e_F (p0 : Int) (p1 : (List Int)) : Option (Int × (List Int)) := (l_markInt64S_df1e p0 p1).run some
/-- a row is marked -/
def markR (k : Int) (xs : List Int) : Option (Int × List Int) := askO (inR k 0 1048576 && decide (xs.length ≤ 1048576)) (k + (xs.length : Int), marks k xs.length)
theorem l_markInt64S_df1e_spec (p0 : Int) (p1 : List Int) (y : Int × List Int) (h : markR p0 p1 = some y) : l_markInt64S_df1e_F p0 p1 = some y := by
  obtain ⟨hok, rfl⟩ := askO_some h
  simp only [Bool.and_eq_true, decide_eq_true_eq, inR_iff] at hok
  obtain ⟨hk, hl⟩ := hok
  unfold l_markInt64S_df1e_F l_markInt64S_df1e
  have := fold_loop (xs := p1) (step := l_markInt64S_df1e_l2) (fun i acc => (p0 + (i : Int), (i : Int), acc)) (fun i acc _ => .inl (acc.set i (p0 + (i : Int)))) (fun acc => (p0 + (p1.length : Int), acc)) (fun i acc => acc.length = p1.length) (by
    intro i acc x hx hI
    have hi : i < p1.length := (List.getElem?_eq_some_iff.1 hx).1
    refine ⟨?_, fun a ha => by cases ha; simpa using hI⟩
    unfold l_markInt64S_df1e_l2
    rw [run_inb (List.getElem?_eq_getElem (by omega : i < acc.length))]
    dsimp only
    rw [Tre.run_ret, iwrap_succ (by omega), iwrap_i64 (by omega) (by omega), Int.toNat_natCast]
    simp only [Int.natCast_add, Int.natCast_one, Int.add_assoc])
    (by
    intro acc hI
    unfold l_markInt64S_df1e_l2
    rw [← show acc.length = p1.length from hI]
    exact run_out) p1 0 p1 rfl (Nat.zero_le _) rfl
  rw [foldE_marks _ _ _ _ _ (by simp)] at this
  have h1 : loopF l_markInt64S_df1e_l2 (p0, 0, p1) = some (p0 + (p1.length : Int), marks p0 p1.length) := by
    simpa [marks] using this
  rw [run_some_mat h1]
  rfl

noncomputable def l_markInt64S_df1e_V : Env := ⟨tau, []⟩
noncomputable def l_markInt64S_df1e_b : Code := (Try.f19.body).getD .skip
noncomputable def l_markInt64S_df1e_l2_mk : (Int × Int × (List Int)) → St := fun x => stOf [(0, (.ref (0, 0) [])), (1, (.imm true (.int .i64) x.1)), (5, (.imm true (.int .i64) x.2.1))] [((0, 0), some ⟨false, (.sl (.int .i64)), .own, x.2.2⟩)]
noncomputable def l_markInt64S_df1e_l2_out : (Int × (List Int)) → Ex × St := fun x => (.exit 0, stOf [(1, (.imm true (.int .i64) x.1))] [((0, 0), some ⟨false, (.sl (.int .i64)), .own, x.2⟩)])
noncomputable def l_markInt64S_df1e_l2_D (s : St) : Tre (Ex × St) :=
  asRef (0, 0) [] (s.tmps 0) <|
  asImmZ true (.int .i64) (s.tmps 1) fun d3 =>
  asImmZ true (.int .i64) (s.tmps 5) fun d5 =>
  asRoot false (.sl (.int .i64)) (s.roots (0, 0)) fun m7 d8 =>
  asM .own m7 <|
  .mat (loopF l_markInt64S_df1e_l2 (d3, d5, d8)) fun x => .ret (l_markInt64S_df1e_l2_out x)
noncomputable def l_markInt64S_df1e_l2_L : LoopI := ⟨([0, 1, 5], [(0, 0)]), ([1], [(0, 0)]), l_markInt64S_df1e_l2_D⟩
noncomputable def l_markInt64S_df1e_A : List (Nat × LoopI) := [(2, l_markInt64S_df1e_l2_L)]
set_option maxRecDepth 100000 in
theorem l_markInt64S_df1e_l2_step : ∀ (x : (Int × Int × (List Int))) (c : St → Option (Ex × St)), den l_markInt64S_df1e_V l_markInt64S_df1e_A (loopAt l_markInt64S_df1e_b 0) (l_markInt64S_df1e_l2_mk x) (roundK l_markInt64S_df1e_l2_L.kp l_markInt64S_df1e_l2_L.kx c) = (l_markInt64S_df1e_l2 x).run (roundR (l_markInt64S_df1e_l2_mk) (l_markInt64S_df1e_l2_out) c) := fun _ _ => by
  kernel_rfl
theorem l_markInt64S_df1e_l2_ok : LoopOK l_markInt64S_df1e_V l_markInt64S_df1e_A (loopAt l_markInt64S_df1e_b 0) l_markInt64S_df1e_l2_L := loopOK_of fun s e s' h => by
  generalize hs : restrict l_markInt64S_df1e_l2_L.kp s = s1 at h
  have h : (l_markInt64S_df1e_l2_D s1).run some = some (e, s') := h
  obtain ⟨e1, h_0⟩ := asRef_spec h
  obtain ⟨d3, e2, h_1⟩ := asImmZ_spec h_0
  obtain ⟨d5, e4, h_2⟩ := asImmZ_spec h_1
  obtain ⟨m7, d8, e6, h_3⟩ := asRoot_spec h_2
  obtain ⟨rfl, h_4⟩ := asM_spec h_3
  obtain ⟨y, hy, hz⟩ := mat_ret h_4
  refine ⟨_, _, l_markInt64S_df1e_l2_mk, l_markInt64S_df1e_l2_out, l_markInt64S_df1e_l2, (d3, d5, d8), y, ?_, hy, ?_, l_markInt64S_df1e_l2_step⟩
  · subst hs; exact restrict_eq (T := [(0, (.ref (0, 0) [])), (1, (.imm true (.int .i64) d3)), (5, (.imm true (.int .i64) d5))]) (U := [((0, 0), some ⟨false, (.sl (.int .i64)), .own, d8⟩)]) rfl rfl ⟨e1, e2, e4, trivial⟩ ⟨e6, trivial⟩
  · exact Option.some.inj hz
noncomputable def l_markInt64S_df1e_I : FnI := ⟨l_markInt64S_df1e_b, Try.f19.results.toList, Try.f19.resultTypes.toList, l_markInt64S_df1e_A⟩
noncomputable def l_markInt64S_df1e_out (_p0 : Int) (_p1 : (List Int)) : (Int × (List Int)) → CallOut := fun r => ⟨(.imm true (.int .i64) r.1), [⟨false, (.sl (.int .i64)), .own, r.2⟩], []⟩
set_option maxRecDepth 100000 in
theorem l_markInt64S_df1e_eq : ∀ (p0 : Int) (p1 : (List Int)), denFn l_markInt64S_df1e_V l_markInt64S_df1e_I ⟨[(.ref (0, 0) []), (.imm true (.int .i64) p0)], [⟨false, (.sl (.int .i64)), .own, p1⟩]⟩ = (l_markInt64S_df1e p0 p1).run fun r => some (l_markInt64S_df1e_out p0 p1 r) := fun _ _ => by kernel_rfl
noncomputable def l_markInt64S_df1e_G (av : List AV) (rs : List Root) : Tre CallOut :=
  asCons av fun a0_ av0 =>
  asCons av0 fun a1_ av1 =>
  asEnd av1 <|
  asCons rs fun r0_ rs0 =>
  asEnd rs0 <|
  asRef (0, 0) [] a0_ <|
  asImmZ true (.int .i64) a1_ fun d1 =>
  asRt false (.sl (.int .i64)) r0_ fun m2 d3 =>
  asM .own m2 <|
  .mat (markR d1 d3) fun r => .ret (l_markInt64S_df1e_out d1 d3 r)
noncomputable def l_markInt64S_df1e_c : Ctr := ⟨[0], fun ci => l_markInt64S_df1e_G ci.args ci.roots⟩
theorem l_markInt64S_df1e_env : EnvOK Try.prog l_markInt64S_df1e_V := envOK_nil
set_option maxRecDepth 100000 in
theorem l_markInt64S_df1e_ok : Contract Try.prog 19 l_markInt64S_df1e_c := by
  have hl : LoopsOK l_markInt64S_df1e_V l_markInt64S_df1e_A l_markInt64S_df1e_b := (loopsOK_all (n := 1) (by kernel_rfl) fun k hk => by
      match k, hk with
      | 0, _ => exact loopOK_at (id := 2) (L := l_markInt64S_df1e_l2_L) (by kernel_rfl) (by kernel_rfl) l_markInt64S_df1e_l2_ok)
  refine (contract_of (F := l_markInt64S_df1e_I) tau_tys l_markInt64S_df1e_env Try.func19 (by kernel_rfl) (by kernel_rfl) (by kernel_rfl) hl [0]).weaken ?_
  rintro ⟨av, rs⟩ co h
  have h : (l_markInt64S_df1e_G av rs).run some = some co := h
  obtain ⟨a0_, av0, rfl, h_0⟩ := asCons_spec h
  obtain ⟨a1_, av1, rfl, h_1⟩ := asCons_spec h_0
  obtain ⟨rfl, h_2⟩ := asEnd_spec h_1
  obtain ⟨r0_, rs0, rfl, h_3⟩ := asCons_spec h_2
  obtain ⟨rfl, h_4⟩ := asEnd_spec h_3
  obtain ⟨rfl, h_5⟩ := asRef_spec h_4
  obtain ⟨d1, rfl, h_6⟩ := asImmZ_spec h_5
  obtain ⟨m2, d3, rfl, h_7⟩ := asRt_spec h_6
  obtain ⟨rfl, h_8⟩ := asM_spec h_7
  exact fin_opt (l_markInt64S_df1e_eq d1 d3) (l_markInt64S_df1e_spec d1 d3) h_8

end Go.Proofs.Ytadgapcpogmpcaa

namespace Go.Proofs.Ytadgapcpogmpcaa
open Go Go.Abs Go.Proofs

/-! function 20: loop.example/g01144/laws.heldInt64S -/
noncomputable def l_heldInt64S_l2 (h2_0_0 : (List Int)) : (Int × Int) → Tre ((Int × Int) ⊕ ((Int × Int) ⊕ Int)) := fun s2 =>
  .cond (decide (s2.2 < (h2_0_0.length : Int)))
    (.ite (0 ≤ s2.2 ∧ s2.2 < (h2_0_0.length : Int)) <|
    .mat (h2_0_0[s2.2.toNat]?) fun x1 =>
    .cond (!decide (x1 = s2.1))
      (.ret (.inr (.inl (s2.1, -1))))
      (.ret (.inl (iwrap .i64 (s2.1 + 1), iwrap .i64 (s2.2 + 1)))))
    (.ret (.inr (.inr s2.1)))
noncomputable def l_heldInt64S (p0 : (List Int)) (p1 : Int) : Tre Int :=
  .mat (loopF (l_heldInt64S_l2 p0) (p1, 0)) fun l2 =>
  .alt l2
    (fun a3 =>
      .ret a3.2)
    (fun b4 =>
      .ret b4)
noncomputable def l_heldInt64S_F (p0 : (List Int)) (p1 : Int) : Option Int := (l_heldInt64S p0 p1).run some
/-- do the marks stand? -/
def heldR (xs : List Int) (k : Int) : Option Int := if (inR k 0 1048576 && decide (xs.length ≤ 1048576)) = true ∧ xs = marks k xs.length then some (k + (xs.length : Int)) else none
theorem l_heldInt64S_spec (p0 : List Int) (p1 : Int) (y : Int) (h : heldR p0 p1 = some y) : l_heldInt64S_F p0 p1 = some y := by
  unfold heldR at h
  split at h
  case isFalse => cases h
  case isTrue hh =>
  obtain ⟨hok, hm⟩ := hh
  cases h
  simp only [Bool.and_eq_true, decide_eq_true_eq, inR_iff] at hok
  obtain ⟨hk, hl⟩ := hok
  unfold l_heldInt64S_F l_heldInt64S
  have := fold_loop' (xs := p0) (step := l_heldInt64S_l2 p0) (γ := Unit) (fun i _ => (p1 + (i : Int), (i : Int))) (fun _ _ _ => .inl ()) (fun _ => .inr (p1 + (p0.length : Int))) (by
    intro i acc x hx
    have hi : i < p0.length := (List.getElem?_eq_some_iff.1 hx).1
    have hxv : x = p1 + (i : Int) := by
      rw [hm] at hx
      unfold marks at hx
      simp only [List.getElem?_map, Option.map_eq_some_iff] at hx
      obtain ⟨a, ha, rfl⟩ := hx
      rw [List.getElem?_range' (by simpa using hi)] at ha
      simp at ha
      rw [ha]
    unfold l_heldInt64S_l2
    rw [run_inb hx, Tre.run_cond]
    simp only [hxv, decide_true, Bool.not_true, cond_false]
    rw [Tre.run_ret, iwrap_succ (by omega), iwrap_i64 (by omega) (by omega)]
    simp only [Int.natCast_add, Int.natCast_one, Int.add_assoc])
    (by
    intro acc
    unfold l_heldInt64S_l2
    exact run_out) ()
  have hf : ∀ (l : List Int) (i : Nat), foldE (β := (Int × Int) ⊕ Int) (fun (_ : Nat) (_ : Unit) (_ : Int) => .inl ()) (fun _ => .inr (p1 + (p0.length : Int))) i () l = .inr (p1 + (p0.length : Int)) := by
    intro l
    induction l with
    | nil => intro i; rfl
    | cons x l ih => intro i; exact ih _
  rw [hf] at this
  have h1 : loopF (l_heldInt64S_l2 p0) (p1, 0) = some (.inr (p1 + (p0.length : Int))) := by simpa using this
  rw [run_some_mat h1]
  rfl

noncomputable def l_heldInt64S_V : Env := ⟨tau, []⟩
noncomputable def l_heldInt64S_b : Code := (Try.f20.body).getD .skip
noncomputable def l_heldInt64S_l2_mk (z2_0 : Bool) (h2_0_0 : (List Int)) : (Int × Int) → St := fun x => stOf [(0, (.imm z2_0 (.sl (.int .i64)) h2_0_0)), (1, (.imm true (.int .i64) x.1)), (5, (.imm true (.int .i64) x.2))] []
noncomputable def l_heldInt64S_l2_out (_z2_0 : Bool) (_h2_0_0 : (List Int)) : ((Int × Int) ⊕ Int) → Ex × St
  | .inl x => (.ret, stOf [(1, (.imm true (.int .i64) x.1)), (4, (.imm true (.int .i64) x.2))] [])
  | .inr x => (.exit 0, stOf [(1, (.imm true (.int .i64) x)), (4, .dead)] [])
noncomputable def l_heldInt64S_l2_D (s : St) : Tre (Ex × St) :=
  asImm (.sl (.int .i64)) (s.tmps 0) fun z3 d2 =>
  asImmZ true (.int .i64) (s.tmps 1) fun d5 =>
  asImmZ true (.int .i64) (s.tmps 5) fun d7 =>
  .mat (loopF (l_heldInt64S_l2 d2) (d5, d7)) fun x => .alt x (fun a0 => .ret (l_heldInt64S_l2_out z3 d2 (.inl a0))) (fun b0 => .ret (l_heldInt64S_l2_out z3 d2 (.inr b0)))
noncomputable def l_heldInt64S_l2_L : LoopI := ⟨([0, 1, 5], []), ([1, 4], []), l_heldInt64S_l2_D⟩
noncomputable def l_heldInt64S_A : List (Nat × LoopI) := [(2, l_heldInt64S_l2_L)]
set_option maxRecDepth 100000 in
theorem l_heldInt64S_l2_step : ∀ (z2_0 : Bool) (h2_0_0 : (List Int)) (x : (Int × Int)) (c : St → Option (Ex × St)), den l_heldInt64S_V l_heldInt64S_A (loopAt l_heldInt64S_b 0) (l_heldInt64S_l2_mk z2_0 h2_0_0 x) (roundK l_heldInt64S_l2_L.kp l_heldInt64S_l2_L.kx c) = (l_heldInt64S_l2 h2_0_0 x).run (roundR (l_heldInt64S_l2_mk z2_0 h2_0_0) (l_heldInt64S_l2_out z2_0 h2_0_0) c) := fun _ _ _ _ => by
  kernel_rfl
theorem l_heldInt64S_l2_ok : LoopOK l_heldInt64S_V l_heldInt64S_A (loopAt l_heldInt64S_b 0) l_heldInt64S_l2_L := loopOK_of fun s e s' h => by
  generalize hs : restrict l_heldInt64S_l2_L.kp s = s1 at h
  have h : (l_heldInt64S_l2_D s1).run some = some (e, s') := h
  obtain ⟨z3, d2, e1, h_0⟩ := asImm_spec h
  obtain ⟨d5, e4, h_1⟩ := asImmZ_spec h_0
  obtain ⟨d7, e6, h_2⟩ := asImmZ_spec h_1
  obtain ⟨y, hy, hz⟩ := mat_some h_2
  refine ⟨_, _, l_heldInt64S_l2_mk z3 d2, l_heldInt64S_l2_out z3 d2, l_heldInt64S_l2 d2, (d5, d7), y, ?_, hy, ?_, l_heldInt64S_l2_step z3 d2⟩
  · subst hs; exact restrict_eq (T := [(0, (.imm z3 (.sl (.int .i64)) d2)), (1, (.imm true (.int .i64) d5)), (5, (.imm true (.int .i64) d7))]) (U := []) rfl rfl ⟨e1, e4, e6, trivial⟩ trivial
  · rcases y with x | x <;> exact Option.some.inj hz
noncomputable def l_heldInt64S_I : FnI := ⟨l_heldInt64S_b, Try.f20.results.toList, Try.f20.resultTypes.toList, l_heldInt64S_A⟩
noncomputable def l_heldInt64S_out (_zp0 : Bool) (_p0 : (List Int)) (_p1 : Int) : Int → CallOut := fun r => ⟨(.imm true (.int .i64) r), [], []⟩
set_option maxRecDepth 100000 in
theorem l_heldInt64S_eq : ∀ (zp0 : Bool) (p0 : (List Int)) (p1 : Int), denFn l_heldInt64S_V l_heldInt64S_I ⟨[(.imm zp0 (.sl (.int .i64)) p0), (.imm true (.int .i64) p1)], []⟩ = (l_heldInt64S p0 p1).run fun r => some (l_heldInt64S_out zp0 p0 p1 r) := fun _ _ _ => by kernel_rfl
noncomputable def l_heldInt64S_G (av : List AV) (rs : List Root) : Tre CallOut :=
  asCons av fun a0_ av0 =>
  asCons av0 fun a1_ av1 =>
  asEnd av1 <|
  asEnd rs <|
  asImm (.sl (.int .i64)) a0_ fun z2 d1 =>
  asImmZ true (.int .i64) a1_ fun d3 =>
  .mat (heldR d1 d3) fun r => .ret (l_heldInt64S_out z2 d1 d3 r)
noncomputable def l_heldInt64S_c : Ctr := ⟨[], fun ci => l_heldInt64S_G ci.args ci.roots⟩
theorem l_heldInt64S_env : EnvOK Try.prog l_heldInt64S_V := envOK_nil
set_option maxRecDepth 100000 in
theorem l_heldInt64S_ok : Contract Try.prog 20 l_heldInt64S_c := by
  have hl : LoopsOK l_heldInt64S_V l_heldInt64S_A l_heldInt64S_b := (loopsOK_all (n := 1) (by kernel_rfl) fun k hk => by
      match k, hk with
      | 0, _ => exact loopOK_at (id := 2) (L := l_heldInt64S_l2_L) (by kernel_rfl) (by kernel_rfl) l_heldInt64S_l2_ok)
  refine (contract_of (F := l_heldInt64S_I) tau_tys l_heldInt64S_env Try.func20 (by kernel_rfl) (by kernel_rfl) (by kernel_rfl) hl []).weaken ?_
  rintro ⟨av, rs⟩ co h
  have h : (l_heldInt64S_G av rs).run some = some co := h
  obtain ⟨a0_, av0, rfl, h_0⟩ := asCons_spec h
  obtain ⟨a1_, av1, rfl, h_1⟩ := asCons_spec h_0
  obtain ⟨rfl, h_2⟩ := asEnd_spec h_1
  obtain ⟨rfl, h_3⟩ := asEnd_spec h_2
  obtain ⟨z2, d1, rfl, h_4⟩ := asImm_spec h_3
  obtain ⟨d3, rfl, h_5⟩ := asImmZ_spec h_4
  exact fin_opt (l_heldInt64S_eq z2 d1 d3) (l_heldInt64S_spec d1 d3) h_5

end Go.Proofs.Ytadgapcpogmpcaa

namespace Go.Proofs.Ytadgapcpogmpcaa
open Go Go.Abs Go.Proofs

/-! function 5: loop.example/g01144/laws.FnExactSourceRows -/
noncomputable def l_FnExactSourceRows (p0 : (Int × (Int × ((List Int) × (Int × (Int × Unit)))))) : Tre Bool :=
  .cond (decide ((l_szGather_S p0 1048576) < 0))
    (.ret true)
    (.mat (toG p0) fun r1 =>
    .mat (srcB (r1.1, (r1.2.1, (r1.2.2.2, r1.2.2.1)))) fun r2 =>
    .mat (toG p0) fun r3 =>
    .mat (srcB (r3.1, (r3.2.1, (r3.2.2.2, r3.2.2.1)))) fun r4 =>
    .mat (eqS r4.2 r2.2) fun r5 =>
    .cond (!r5)
      (.ret false)
      (.cond (!decide (r4.1 = r2.1))
        (.ret false)
        (.mat (toG p0) fun r6 =>
        .mat (eqG (r3.1, (r3.2.1, (r3.2.2.2, r3.2.2.1))) (r6.1, (r6.2.1, (r6.2.2.2, r6.2.2.1)))) fun r7 =>
        .cond (!r7)
          (.ret false)
          (.mat (markG r3.1 r3.2.1 r3.2.2.1 1 (r3.1, (r3.2.1, (r3.2.2.2, r3.2.2.1)))) fun r8 =>
          .cond (decide (r8.1 < 0))
            (.ret false)
            (.mat (eqS r4.2 r2.2) fun r9 =>
            .cond (!r9)
              (.ret false)
              (.cond (!decide (r4.1 = r2.1))
                (.ret false)
                (.mat (markR 1 r4.2) fun r10 =>
                .mat (heldR r10.2 1) fun r11 =>
                .cond (decide (r11 < 0))
                  (.ret false)
                  (.cond (!decide (r11 = r10.1))
                    (.ret false)
                    (.mat (toG p0) fun r12 =>
                    .mat (srcB (r12.1, (r12.2.1, (r12.2.2.2, r12.2.2.1)))) fun r13 =>
                    .mat (eqS r13.2 r2.2) fun r14 =>
                    .cond (!r14)
                      (.ret false)
                      (.cond (!decide (r13.1 = r2.1))
                        (.ret false)
                        (.mat (heldR r10.2 1) fun r15 =>
                        .cond (decide (r15 < 0))
                          (.ret false)
                          (.cond (!decide (r15 = r10.1))
                            (.ret false)
                            (.ret true)))))))))))))
noncomputable def l_FnExactSourceRows_F (p0 : (Int × (Int × ((List Int) × (Int × (Int × Unit)))))) : Option Bool := (l_FnExactSourceRows p0).run some
-- law
theorem l_FnExactSourceRows_law (p0 : Int × Int × List Int × Int × Int × Unit) (hw : kGather.wf p0) : l_FnExactSourceRows_F p0 = some true := by
  unfold l_FnExactSourceRows_F l_FnExactSourceRows
  rw [Tre.run_cond]
  by_cases hs : l_szGather_S p0 1048576 < 0
  · rw [decide_eq_true hs]; rfl
  have hl := l_szGather_len hw.2.2.1.1 hs
  rw [decide_eq_false hs, cond_false]
  have hn : (srcV p0).2.length ≤ 1048576 := by
    unfold srcV
    cases isG p0
    · simp
    · simp only [cond_true]; rw [srcL_len]; exact hl
  have e1 : toG p0 = _ := lim_of hl
  have e2 : srcB p0 = some (srcV p0) := lim_of hl
  have e3 : eqG p0 p0 = some true := eqR_self hl
  have e4 : eqS (srcV p0).2 (srcV p0).2 = some true := eqR_self hn
  generalize srcV p0 = v at *
  obtain ⟨va, vl⟩ := v
  have hm : (marks 1 vl.length).length = vl.length := by simp [marks]
  have e5 : markG p0.1 p0.2.1 p0.2.2.2 1 p0 = some (1 + (p0.2.2.1.length : Int), (p0.1, p0.2.1, marks 1 p0.2.2.1.length, p0.2.2.2)) := askO_true (by simp [inR]; omega)
  have e6 : markR 1 vl = some (1 + (vl.length : Int), marks 1 vl.length) := askO_true (by simp [inR]; exact hn)
  have e7 : heldR (marks 1 vl.length) 1 = some (1 + (vl.length : Int)) := by
    unfold heldR
    rw [hm, if_pos ⟨by simp [inR]; exact hn, rfl⟩]
  have c1 : decide (1 + (p0.2.2.1.length : Int) < 0) = false := by simp; omega
  have c2 : decide (1 + (vl.length : Int) < 0) = false := by simp; omega
  rw [run_some_mat e1, run_some_mat (x := (va, vl)) e2, run_some_mat e1, run_some_mat (x := (va, vl)) e2, run_some_mat (x := true) e4]
  simp only [Tre.run_cond, decide_true, Bool.not_true, cond_false]
  rw [run_some_mat e1, run_some_mat (x := true) e3]
  simp only [Tre.run_cond, decide_true, Bool.not_true, cond_false]
  rw [run_some_mat e5]
  simp only [Tre.run_cond, c1, cond_false]
  rw [run_some_mat (x := true) e4]
  simp only [Tre.run_cond, decide_true, Bool.not_true, cond_false]
  rw [run_some_mat e6]
  dsimp only
  rw [run_some_mat e7]
  simp only [Tre.run_cond, c2, decide_true, Bool.not_true, cond_false]
  rw [run_some_mat e1, run_some_mat (x := (va, vl)) e2, run_some_mat (x := true) e4]
  simp only [Tre.run_cond, decide_true, Bool.not_true, cond_false]
  rw [run_some_mat e7]
  simp only [Tre.run_cond, c2, decide_true, Bool.not_true, cond_false]
  rfl

noncomputable def l_FnExactSourceRows_V : Env := ⟨tau, [(10, l_szGather_c), (12, l_toGather_c), (15, s_SourceRows_c), (16, i_SourceRows_c), (17, l_eqInt64S_c), (14, l_eqGather_c), (18, l_markGather_3874_c), (19, l_markInt64S_df1e_c), (20, l_heldInt64S_c)]⟩
noncomputable def l_FnExactSourceRows_b : Code := (Try.f5.body).getD .skip
noncomputable def l_FnExactSourceRows_I : FnI := ⟨l_FnExactSourceRows_b, Try.f5.results.toList, Try.f5.resultTypes.toList, []⟩
noncomputable def l_FnExactSourceRows_out (_zp0 : Bool) (_p0 : (Int × (Int × ((List Int) × (Int × (Int × Unit)))))) : Bool → CallOut := fun r => ⟨(.imm true .bool r), [], []⟩
set_option maxRecDepth 100000 in
theorem l_FnExactSourceRows_eq : ∀ (zp0 : Bool) (p0 : (Int × (Int × ((List Int) × (Int × (Int × Unit)))))), denFn l_FnExactSourceRows_V l_FnExactSourceRows_I ⟨[(.imm zp0 kGather p0)], []⟩ = (l_FnExactSourceRows p0).run fun r => some (l_FnExactSourceRows_out zp0 p0 r) := fun _ _ => by kernel_rfl
noncomputable def l_FnExactSourceRows_G (av : List AV) (rs : List Root) : Tre CallOut :=
  asCons av fun a0_ av0 =>
  asEnd av0 <|
  asEnd rs <|
  asImm kGather a0_ fun z2 d1 =>
  .mat (l_FnExactSourceRows_F d1) fun r => .ret (l_FnExactSourceRows_out z2 d1 r)
noncomputable def l_FnExactSourceRows_c : Ctr := ⟨[], fun ci => l_FnExactSourceRows_G ci.args ci.roots⟩
theorem l_FnExactSourceRows_env : EnvOK Try.prog l_FnExactSourceRows_V := (envOK_cons l_szGather_ok ent10 (envOK_cons l_toGather_ok ent12 (envOK_cons s_SourceRows_ok ent15 (envOK_cons i_SourceRows_ok ent16 (envOK_cons l_eqInt64S_ok ent17 (envOK_cons l_eqGather_ok ent14 (envOK_cons l_markGather_3874_ok ent18 (envOK_cons l_markInt64S_df1e_ok ent19 (envOK_cons l_heldInt64S_ok ent20 envOK_nil)))))))))
set_option maxRecDepth 100000 in
theorem l_FnExactSourceRows_ok : Contract Try.prog 5 l_FnExactSourceRows_c := by
  have hl : LoopsOK l_FnExactSourceRows_V [] l_FnExactSourceRows_b := loopsOK_nil (by kernel_rfl)
  refine (contract_of (F := l_FnExactSourceRows_I) tau_tys l_FnExactSourceRows_env Try.func5 (by kernel_rfl) (by kernel_rfl) (by kernel_rfl) hl []).weaken ?_
  rintro ⟨av, rs⟩ co h
  have h : (l_FnExactSourceRows_G av rs).run some = some co := h
  obtain ⟨a0_, av0, rfl, h_0⟩ := asCons_spec h
  obtain ⟨rfl, h_1⟩ := asEnd_spec h_0
  obtain ⟨rfl, h_2⟩ := asEnd_spec h_1
  obtain ⟨z2, d1, rfl, h_3⟩ := asImm_spec h_2
  exact fin_mat (l_FnExactSourceRows_eq z2 d1) h_3

end Go.Proofs.Ytadgapcpogmpcaa
