/- Part 3 of the proof of FnExactMissedBy. -/
import Derived.Test.YtadgapcpogmpcaaMb2
namespace Go.Proofs.Ytadgapcpogmpcaa
open Go Go.Abs Go.Proofs

/-! function 30: (loop.example/g01144/impl.Gather).isData -/
noncomputable def i_Gather_isData (p0 : (Int × (Int × ((List Int) × (Int × (Int × Unit)))))) (p1 : (List Int)) : Tre Bool :=
  .cond (decide ((p1.length : Int) = p0.1))
    (.mat (hasD p1 p0) fun r1 =>
    .ret (!r1))
    (.ret false)
noncomputable def i_Gather_isData_F (p0 : (Int × (Int × ((List Int) × (Int × (Int × Unit)))))) (p1 : (List Int)) : Option Bool := (i_Gather_isData p0 p1).run some
/-- are these data of a gathering? -/
def isDat (p : Int × Int × List Int × Int × Int × Unit) (xs : List Int) : Option Bool := askO (decide (0 ≤ p.2.1) && decide (xs.length ≤ 1048576)) (decide ((xs.length : Int) = p.1) && xs.all (inP p.2.1))
theorem i_Gather_isData_spec (p0 : Int × Int × List Int × Int × Int × Unit) (p1 : List Int) (y : Bool) (h : isDat p0 p1 = some y) : i_Gather_isData_F p0 p1 = some y := by
  obtain ⟨hl, rfl⟩ := askO_some h
  unfold i_Gather_isData_F i_Gather_isData
  rw [Tre.run_cond, run_some_mat (show hasD p1 p0 = some _ from askO_true hl), Tre.run_ret, Tre.run_ret]
  cases decide ((p1.length : Int) = p0.1)
  · rfl
  · simp [List.not_any_eq_all_not]

noncomputable def i_Gather_isData_V : Env := ⟨tau, [(41, i_size_int64_c), (36, slices_ContainsFunc_int64_i_Gather_isDatac1_c)]⟩
noncomputable def i_Gather_isData_b : Code := (Try.f30.body).getD .skip
noncomputable def i_Gather_isData_I : FnI := ⟨i_Gather_isData_b, Try.f30.results.toList, Try.f30.resultTypes.toList, []⟩
noncomputable def i_Gather_isData_out (_zp0 : Bool) (_zp1 : Bool) (_p0 : (Int × (Int × ((List Int) × (Int × (Int × Unit)))))) (_p1 : (List Int)) : Bool → CallOut := fun r => ⟨(.imm true .bool r), [], []⟩
set_option maxRecDepth 100000 in
theorem i_Gather_isData_eq : ∀ (zp0 : Bool) (zp1 : Bool) (p0 : (Int × (Int × ((List Int) × (Int × (Int × Unit)))))) (p1 : (List Int)), denFn i_Gather_isData_V i_Gather_isData_I ⟨[(.imm zp0 kGather p0), (.imm zp1 (.sl (.int .i64)) p1)], []⟩ = (i_Gather_isData p0 p1).run fun r => some (i_Gather_isData_out zp0 zp1 p0 p1 r) := fun _ _ _ _ => by kernel_rfl
noncomputable def i_Gather_isData_G (av : List AV) (rs : List Root) : Tre CallOut :=
  asCons av fun a0_ av0 =>
  asCons av0 fun a1_ av1 =>
  asEnd av1 <|
  asEnd rs <|
  asImm kGather a0_ fun z2 d1 =>
  asImm (.sl (.int .i64)) a1_ fun z4 d3 =>
  .mat (isDat d1 d3) fun r => .ret (i_Gather_isData_out z2 z4 d1 d3 r)
noncomputable def i_Gather_isData_c : Ctr := ⟨[], fun ci => i_Gather_isData_G ci.args ci.roots⟩
theorem i_Gather_isData_env : EnvOK Try.prog i_Gather_isData_V := (envOK_cons i_size_int64_ok ent41 (envOK_cons slices_ContainsFunc_int64_i_Gather_isDatac1_ok ent36 envOK_nil))
set_option maxRecDepth 100000 in
theorem i_Gather_isData_ok : Contract Try.prog 30 i_Gather_isData_c := by
  have hl : LoopsOK i_Gather_isData_V [] i_Gather_isData_b := loopsOK_nil (by kernel_rfl)
  refine (contract_of (F := i_Gather_isData_I) tau_tys i_Gather_isData_env Try.func30 (by kernel_rfl) (by kernel_rfl) (by kernel_rfl) hl []).weaken ?_
  rintro ⟨av, rs⟩ co h
  have h : (i_Gather_isData_G av rs).run some = some co := h
  obtain ⟨a0_, av0, rfl, h_0⟩ := asCons_spec h
  obtain ⟨a1_, av1, rfl, h_1⟩ := asCons_spec h_0
  obtain ⟨rfl, h_2⟩ := asEnd_spec h_1
  obtain ⟨rfl, h_3⟩ := asEnd_spec h_2
  obtain ⟨z2, d1, rfl, h_4⟩ := asImm_spec h_3
  obtain ⟨z4, d3, rfl, h_5⟩ := asImm_spec h_4
  exact fin_opt (i_Gather_isData_eq z2 z4 d1 d3) (i_Gather_isData_spec d1 d3) h_5

end Go.Proofs.Ytadgapcpogmpcaa

namespace Go.Proofs.Ytadgapcpogmpcaa
open Go Go.Abs Go.Proofs

/-! function 13: loop.example/g01144/impl.ValidGather -/
noncomputable def i_ValidGather (p0 : (Int × (Int × ((List Int) × (Int × (Int × Unit)))))) : Tre Bool :=
  .cond (inR p0.1 1 4)
    (.cond (inR p0.2.1 1 6)
      (.mat (isDat p0 p0.2.2.1) fun r1 =>
      .cond r1
        (.cond (inR p0.2.2.2.1 0 3)
          (.ret (inR p0.2.2.2.2.1 1 3))
          (.ret false))
        (.ret false))
      (.ret false))
    (.ret false)
noncomputable def i_ValidGather_F (p0 : (Int × (Int × ((List Int) × (Int × (Int × Unit)))))) : Option Bool := (i_ValidGather p0).run some
theorem i_ValidGather_spec (p0 : Int × Int × List Int × Int × Int × Unit) (y : Bool) (h : okG p0 = some y) : i_ValidGather_F p0 = some y := by
  obtain ⟨hl, rfl⟩ := lim_some h
  unfold i_ValidGather_F i_ValidGather isG
  simp only [Tre.run_cond, Tre.run_ret]
  cases h1 : inR p0.1 1 4
  · rfl
  cases h2 : inR p0.2.1 1 6
  · rfl
  rw [inR_iff] at h2
  rw [run_some_mat (show isDat p0 p0.2.2.1 = some _ from askO_true (by simp; omega))]
  simp only [cond_true, Bool.true_and, Tre.run_cond, Tre.run_ret]
  cases decide ((p0.2.2.1.length : Int) = p0.1)
  · rfl
  cases p0.2.2.1.all (inP p0.2.1)
  · rfl
  cases inR p0.2.2.2.1 0 3 <;> rfl

noncomputable def i_ValidGather_V : Env := ⟨tau, [(27, i_within_c), (30, i_Gather_isData_c)]⟩
noncomputable def i_ValidGather_b : Code := (Try.f13.body).getD .skip
noncomputable def i_ValidGather_I : FnI := ⟨i_ValidGather_b, Try.f13.results.toList, Try.f13.resultTypes.toList, []⟩
noncomputable def i_ValidGather_out (_zp0 : Bool) (_p0 : (Int × (Int × ((List Int) × (Int × (Int × Unit)))))) : Bool → CallOut := fun r => ⟨(.imm true .bool r), [], []⟩
set_option maxRecDepth 100000 in
theorem i_ValidGather_eq : ∀ (zp0 : Bool) (p0 : (Int × (Int × ((List Int) × (Int × (Int × Unit)))))), denFn i_ValidGather_V i_ValidGather_I ⟨[(.imm zp0 kGather p0)], []⟩ = (i_ValidGather p0).run fun r => some (i_ValidGather_out zp0 p0 r) := fun _ _ => by kernel_rfl
noncomputable def i_ValidGather_G (av : List AV) (rs : List Root) : Tre CallOut :=
  asCons av fun a0_ av0 =>
  asEnd av0 <|
  asEnd rs <|
  asImm kGather a0_ fun z2 d1 =>
  .mat (okG d1) fun r => .ret (i_ValidGather_out z2 d1 r)
noncomputable def i_ValidGather_c : Ctr := ⟨[], fun ci => i_ValidGather_G ci.args ci.roots⟩
theorem i_ValidGather_env : EnvOK Try.prog i_ValidGather_V := (envOK_cons i_within_ok ent27 (envOK_cons i_Gather_isData_ok ent30 envOK_nil))
set_option maxRecDepth 100000 in
theorem i_ValidGather_ok : Contract Try.prog 13 i_ValidGather_c := by
  have hl : LoopsOK i_ValidGather_V [] i_ValidGather_b := loopsOK_nil (by kernel_rfl)
  refine (contract_of (F := i_ValidGather_I) tau_tys i_ValidGather_env Try.func13 (by kernel_rfl) (by kernel_rfl) (by kernel_rfl) hl []).weaken ?_
  rintro ⟨av, rs⟩ co h
  have h : (i_ValidGather_G av rs).run some = some co := h
  obtain ⟨a0_, av0, rfl, h_0⟩ := asCons_spec h
  obtain ⟨rfl, h_1⟩ := asEnd_spec h_0
  obtain ⟨rfl, h_2⟩ := asEnd_spec h_1
  obtain ⟨z2, d1, rfl, h_3⟩ := asImm_spec h_2
  exact fin_opt (i_ValidGather_eq z2 d1) (i_ValidGather_spec d1) h_3

end Go.Proofs.Ytadgapcpogmpcaa

namespace Go.Proofs.Ytadgapcpogmpcaa
open Go Go.Abs Go.Proofs

/-! function 17: loop.example/g01144/laws.eqInt64S -/
noncomputable def l_eqInt64S_l4 (h4_0_0 : (List Int)) (h4_0_1 : (List Int)) : Int → Tre (Int ⊕ (Bool ⊕ Unit)) := fun s4 =>
  .cond (decide (s4 < (h4_0_0.length : Int)))
    (.ite (0 ≤ s4 ∧ s4 < (h4_0_0.length : Int)) <|
    .mat (h4_0_0[s4.toNat]?) fun x1 =>
    .ite (0 ≤ s4 ∧ s4 < (h4_0_1.length : Int)) <|
    .mat (h4_0_1[s4.toNat]?) fun x2 =>
    .cond (!decide (x1 = x2))
      (.ret (.inr (.inl false)))
      (.ret (.inl (iwrap .i64 (s4 + 1)))))
    (.ret (.inr (.inr ())))
noncomputable def l_eqInt64S (p0 : (List Int)) (p1 : (List Int)) : Tre Bool :=
  .cond (!decide ((p0.length : Int) = (p1.length : Int)))
    (.ret false)
    (.mat (loopF (l_eqInt64S_l4 p0 p1) 0) fun l3 =>
    .alt l3
      (fun a4 =>
        .ret a4)
      (fun _ =>
        .ret true))
noncomputable def l_eqInt64S_F (p0 : (List Int)) (p1 : (List Int)) : Option Bool := (l_eqInt64S p0 p1).run some
/-- two rows alike -/
abbrev eqS (p0 p1 : List Int) : Option Bool := eqR p0.length p0 p1
theorem l_eqInt64S_spec (p0 p1 : List Int) (y : Bool) (h : eqR p0.length p0 p1 = some y) : l_eqInt64S_F p0 p1 = some y := by
  obtain ⟨hl, rfl, rfl⟩ := eqR_some h
  unfold l_eqInt64S_F l_eqInt64S
  rw [Tre.run_cond, show (!decide ((p0.length : Int) = (p0.length : Int))) = false from by simp, cond_false, Tre.run_mat, find_loop (xs := p0) (fun _ _ => none) (.inr ())]
  · have : ∀ (l : List Int) (i : Nat), findE (β := Bool ⊕ Unit) (fun _ _ => none) (.inr ()) i l = .inr () := by
      intro l
      induction l with
      | nil => intro i; rfl
      | cons x l ih => intro i; exact ih _
    rw [this]
    rfl
  · intro i x hx
    have hi : i < p0.length := (List.getElem?_eq_some_iff.1 hx).1
    unfold l_eqInt64S_l4
    rw [run_inb hx, run_at hx, Tre.run_cond]
    simp only [decide_true, Bool.not_true, cond_false, Tre.run_ret, iwrap_succ (show i < 4611686018427387904 by omega)]
  · unfold l_eqInt64S_l4
    exact run_out

noncomputable def l_eqInt64S_V : Env := ⟨tau, []⟩
noncomputable def l_eqInt64S_b : Code := (Try.f17.body).getD .skip
noncomputable def l_eqInt64S_l4_mk (z4_0 : Bool) (z4_1 : Bool) (h4_0_0 : (List Int)) (h4_0_1 : (List Int)) : Int → St := fun x => stOf [(0, (.imm z4_0 (.sl (.int .i64)) h4_0_0)), (1, (.imm z4_1 (.sl (.int .i64)) h4_0_1)), (5, (.imm true (.int .i64) x))] []
noncomputable def l_eqInt64S_l4_out (_z4_0 : Bool) (_z4_1 : Bool) (_h4_0_0 : (List Int)) (_h4_0_1 : (List Int)) : (Bool ⊕ Unit) → Ex × St
  | .inl x => (.ret, stOf [(4, (.imm true .bool x))] [])
  | .inr x => (.exit 0, stOf [(4, .dead)] [])
noncomputable def l_eqInt64S_l4_D (s : St) : Tre (Ex × St) :=
  asImm (.sl (.int .i64)) (s.tmps 0) fun z3 d2 =>
  asImm (.sl (.int .i64)) (s.tmps 1) fun z6 d5 =>
  asImmZ true (.int .i64) (s.tmps 5) fun d8 =>
  .mat (loopF (l_eqInt64S_l4 d2 d5) d8) fun x => .alt x (fun a0 => .ret (l_eqInt64S_l4_out z3 z6 d2 d5 (.inl a0))) (fun b0 => .ret (l_eqInt64S_l4_out z3 z6 d2 d5 (.inr b0)))
noncomputable def l_eqInt64S_l4_L : LoopI := ⟨([0, 1, 5], []), ([4], []), l_eqInt64S_l4_D⟩
noncomputable def l_eqInt64S_A : List (Nat × LoopI) := [(4, l_eqInt64S_l4_L)]
set_option maxRecDepth 100000 in
theorem l_eqInt64S_l4_step : ∀ (z4_0 : Bool) (z4_1 : Bool) (h4_0_0 : (List Int)) (h4_0_1 : (List Int)) (x : Int) (c : St → Option (Ex × St)), den l_eqInt64S_V l_eqInt64S_A (loopAt l_eqInt64S_b 0) (l_eqInt64S_l4_mk z4_0 z4_1 h4_0_0 h4_0_1 x) (roundK l_eqInt64S_l4_L.kp l_eqInt64S_l4_L.kx c) = (l_eqInt64S_l4 h4_0_0 h4_0_1 x).run (roundR (l_eqInt64S_l4_mk z4_0 z4_1 h4_0_0 h4_0_1) (l_eqInt64S_l4_out z4_0 z4_1 h4_0_0 h4_0_1) c) := fun _ _ _ _ _ _ => by
  kernel_rfl
theorem l_eqInt64S_l4_ok : LoopOK l_eqInt64S_V l_eqInt64S_A (loopAt l_eqInt64S_b 0) l_eqInt64S_l4_L := loopOK_of fun s e s' h => by
  generalize hs : restrict l_eqInt64S_l4_L.kp s = s1 at h
  have h : (l_eqInt64S_l4_D s1).run some = some (e, s') := h
  obtain ⟨z3, d2, e1, h_0⟩ := asImm_spec h
  obtain ⟨z6, d5, e4, h_1⟩ := asImm_spec h_0
  obtain ⟨d8, e7, h_2⟩ := asImmZ_spec h_1
  obtain ⟨y, hy, hz⟩ := mat_some h_2
  refine ⟨_, _, l_eqInt64S_l4_mk z3 z6 d2 d5, l_eqInt64S_l4_out z3 z6 d2 d5, l_eqInt64S_l4 d2 d5, d8, y, ?_, hy, ?_, l_eqInt64S_l4_step z3 z6 d2 d5⟩
  · subst hs; exact restrict_eq (T := [(0, (.imm z3 (.sl (.int .i64)) d2)), (1, (.imm z6 (.sl (.int .i64)) d5)), (5, (.imm true (.int .i64) d8))]) (U := []) rfl rfl ⟨e1, e4, e7, trivial⟩ trivial
  · rcases y with x | x <;> exact Option.some.inj hz
noncomputable def l_eqInt64S_I : FnI := ⟨l_eqInt64S_b, Try.f17.results.toList, Try.f17.resultTypes.toList, l_eqInt64S_A⟩
noncomputable def l_eqInt64S_out (_zp0 : Bool) (_zp1 : Bool) (_p0 : (List Int)) (_p1 : (List Int)) : Bool → CallOut := fun r => ⟨(.imm true .bool r), [], []⟩
set_option maxRecDepth 100000 in
theorem l_eqInt64S_eq : ∀ (zp0 : Bool) (zp1 : Bool) (p0 : (List Int)) (p1 : (List Int)), denFn l_eqInt64S_V l_eqInt64S_I ⟨[(.imm zp0 (.sl (.int .i64)) p0), (.imm zp1 (.sl (.int .i64)) p1)], []⟩ = (l_eqInt64S p0 p1).run fun r => some (l_eqInt64S_out zp0 zp1 p0 p1 r) := fun _ _ _ _ => by kernel_rfl
noncomputable def l_eqInt64S_G (av : List AV) (rs : List Root) : Tre CallOut :=
  asCons av fun a0_ av0 =>
  asCons av0 fun a1_ av1 =>
  asEnd av1 <|
  asEnd rs <|
  asImm (.sl (.int .i64)) a0_ fun z2 d1 =>
  asImm (.sl (.int .i64)) a1_ fun z4 d3 =>
  .mat (eqS d1 d3) fun r => .ret (l_eqInt64S_out z2 z4 d1 d3 r)
noncomputable def l_eqInt64S_c : Ctr := ⟨[], fun ci => l_eqInt64S_G ci.args ci.roots⟩
theorem l_eqInt64S_env : EnvOK Try.prog l_eqInt64S_V := envOK_nil
set_option maxRecDepth 100000 in
theorem l_eqInt64S_ok : Contract Try.prog 17 l_eqInt64S_c := by
  have hl : LoopsOK l_eqInt64S_V l_eqInt64S_A l_eqInt64S_b := (loopsOK_all (n := 1) (by kernel_rfl) fun k hk => by
      match k, hk with
      | 0, _ => exact loopOK_at (id := 4) (L := l_eqInt64S_l4_L) (by kernel_rfl) (by kernel_rfl) l_eqInt64S_l4_ok)
  refine (contract_of (F := l_eqInt64S_I) tau_tys l_eqInt64S_env Try.func17 (by kernel_rfl) (by kernel_rfl) (by kernel_rfl) hl []).weaken ?_
  rintro ⟨av, rs⟩ co h
  have h : (l_eqInt64S_G av rs).run some = some co := h
  obtain ⟨a0_, av0, rfl, h_0⟩ := asCons_spec h
  obtain ⟨a1_, av1, rfl, h_1⟩ := asCons_spec h_0
  obtain ⟨rfl, h_2⟩ := asEnd_spec h_1
  obtain ⟨rfl, h_3⟩ := asEnd_spec h_2
  obtain ⟨z2, d1, rfl, h_4⟩ := asImm_spec h_3
  obtain ⟨z4, d3, rfl, h_5⟩ := asImm_spec h_4
  exact fin_opt (l_eqInt64S_eq z2 z4 d1 d3) (l_eqInt64S_spec d1 d3) h_5

end Go.Proofs.Ytadgapcpogmpcaa

namespace Go.Proofs.Ytadgapcpogmpcaa
open Go Go.Abs Go.Proofs

/-! function 14: loop.example/g01144/laws.eqGather -/
noncomputable def l_eqGather (p0 : (Int × (Int × ((List Int) × (Int × (Int × Unit)))))) (p1 : (Int × (Int × ((List Int) × (Int × (Int × Unit)))))) : Tre Bool :=
  .cond (!decide (p0.1 = p1.1))
    (.ret false)
    (.cond (!decide (p0.2.1 = p1.2.1))
      (.ret false)
      (.mat (eqS p0.2.2.1 p1.2.2.1) fun r1 =>
      .cond (!r1)
        (.ret false)
        (.cond (!decide (p0.2.2.2.1 = p1.2.2.2.1))
          (.ret false)
          (.cond (!decide (p0.2.2.2.2.1 = p1.2.2.2.2.1))
            (.ret false)
            (.ret true)))))
noncomputable def l_eqGather_F (p0 : (Int × (Int × ((List Int) × (Int × (Int × Unit)))))) (p1 : (Int × (Int × ((List Int) × (Int × (Int × Unit)))))) : Option Bool := (l_eqGather p0 p1).run some
/-- two gatherings alike -/
abbrev eqG (p0 p1 : Int × Int × List Int × Int × Int × Unit) : Option Bool := eqR p0.2.2.1.length p0 p1
theorem l_eqGather_spec (p0 p1 : Int × Int × List Int × Int × Int × Unit) (y : Bool) (h : eqR p0.2.2.1.length p0 p1 = some y) : l_eqGather_F p0 p1 = some y := by
  obtain ⟨hl, rfl, rfl⟩ := eqR_some h
  unfold l_eqGather_F l_eqGather
  simp only [Tre.run_cond, Tre.run_ret, run_some_mat (show eqS p0.2.2.1 p0.2.2.1 = some _ from eqR_self hl), decide_true, Bool.not_true, cond_false]

noncomputable def l_eqGather_V : Env := ⟨tau, [(17, l_eqInt64S_c)]⟩
noncomputable def l_eqGather_b : Code := (Try.f14.body).getD .skip
noncomputable def l_eqGather_I : FnI := ⟨l_eqGather_b, Try.f14.results.toList, Try.f14.resultTypes.toList, []⟩
noncomputable def l_eqGather_out (_zp0 : Bool) (_zp1 : Bool) (_p0 : (Int × (Int × ((List Int) × (Int × (Int × Unit)))))) (_p1 : (Int × (Int × ((List Int) × (Int × (Int × Unit)))))) : Bool → CallOut := fun r => ⟨(.imm true .bool r), [], []⟩
set_option maxRecDepth 100000 in
theorem l_eqGather_eq : ∀ (zp0 : Bool) (zp1 : Bool) (p0 : (Int × (Int × ((List Int) × (Int × (Int × Unit)))))) (p1 : (Int × (Int × ((List Int) × (Int × (Int × Unit)))))), denFn l_eqGather_V l_eqGather_I ⟨[(.imm zp0 kGather p0), (.imm zp1 kGather p1)], []⟩ = (l_eqGather p0 p1).run fun r => some (l_eqGather_out zp0 zp1 p0 p1 r) := fun _ _ _ _ => by kernel_rfl
noncomputable def l_eqGather_G (av : List AV) (rs : List Root) : Tre CallOut :=
  asCons av fun a0_ av0 =>
  asCons av0 fun a1_ av1 =>
  asEnd av1 <|
  asEnd rs <|
  asImm kGather a0_ fun z2 d1 =>
  asImm kGather a1_ fun z4 d3 =>
  .mat (eqG d1 d3) fun r => .ret (l_eqGather_out z2 z4 d1 d3 r)
noncomputable def l_eqGather_c : Ctr := ⟨[], fun ci => l_eqGather_G ci.args ci.roots⟩
theorem l_eqGather_env : EnvOK Try.prog l_eqGather_V := (envOK_cons l_eqInt64S_ok ent17 envOK_nil)
set_option maxRecDepth 100000 in
theorem l_eqGather_ok : Contract Try.prog 14 l_eqGather_c := by
  have hl : LoopsOK l_eqGather_V [] l_eqGather_b := loopsOK_nil (by kernel_rfl)
  refine (contract_of (F := l_eqGather_I) tau_tys l_eqGather_env Try.func14 (by kernel_rfl) (by kernel_rfl) (by kernel_rfl) hl []).weaken ?_
  rintro ⟨av, rs⟩ co h
  have h : (l_eqGather_G av rs).run some = some co := h
  obtain ⟨a0_, av0, rfl, h_0⟩ := asCons_spec h
  obtain ⟨a1_, av1, rfl, h_1⟩ := asCons_spec h_0
  obtain ⟨rfl, h_2⟩ := asEnd_spec h_1
  obtain ⟨rfl, h_3⟩ := asEnd_spec h_2
  obtain ⟨z2, d1, rfl, h_4⟩ := asImm_spec h_3
  obtain ⟨z4, d3, rfl, h_5⟩ := asImm_spec h_4
  exact fin_opt (l_eqGather_eq z2 z4 d1 d3) (l_eqGather_spec d1 d3) h_5

end Go.Proofs.Ytadgapcpogmpcaa

namespace Go.Proofs.Ytadgapcpogmpcaa
open Go Go.Abs Go.Proofs

/-! function 34: loop.example/g01144/spec.l08Cols -/
noncomputable def s_l08Cols_9aa7 (p0 : (Int × (Int × ((List Int) × (Int × (Int × Unit)))))) : Tre Int :=
  let v1 := iwrap .i64 (p0.1 + p0.2.1)
  .ret v1
noncomputable def s_l08Cols_9aa7_F (p0 : (Int × (Int × ((List Int) × (Int × (Int × Unit)))))) : Option Int := (s_l08Cols_9aa7 p0).run some
def s_l08Cols_9aa7_S (p0 : (Int × (Int × ((List Int) × (Int × (Int × Unit)))))) : Int :=
  let v1 := iwrap .i64 (p0.1 + p0.2.1)
  v1
theorem s_l08Cols_9aa7_spec (p0 : (Int × (Int × ((List Int) × (Int × (Int × Unit)))))) : s_l08Cols_9aa7_F p0 = some (s_l08Cols_9aa7_S p0) := rfl
noncomputable def s_l08Cols_9aa7_V : Env := ⟨tau, []⟩
noncomputable def s_l08Cols_9aa7_b : Code := (Try.f34.body).getD .skip
noncomputable def s_l08Cols_9aa7_I : FnI := ⟨s_l08Cols_9aa7_b, Try.f34.results.toList, Try.f34.resultTypes.toList, []⟩
noncomputable def s_l08Cols_9aa7_out (zp0 : Bool) (p0 : (Int × (Int × ((List Int) × (Int × (Int × Unit)))))) : Int → CallOut := fun r => ⟨(.imm true (.int .i64) r), [⟨true, kGather, (.imm zp0), p0⟩], []⟩
set_option maxRecDepth 100000 in
theorem s_l08Cols_9aa7_eq : ∀ (zp0 : Bool) (p0 : (Int × (Int × ((List Int) × (Int × (Int × Unit)))))), denFn s_l08Cols_9aa7_V s_l08Cols_9aa7_I ⟨[(.ptr (0, 0) [])], [⟨true, kGather, (.imm zp0), p0⟩]⟩ = (s_l08Cols_9aa7 p0).run fun r => some (s_l08Cols_9aa7_out zp0 p0 r) := fun _ _ => by kernel_rfl
noncomputable def s_l08Cols_9aa7_G (av : List AV) (rs : List Root) : Tre CallOut :=
  asCons av fun a0_ av0 =>
  asEnd av0 <|
  asCons rs fun r0_ rs0 =>
  asEnd rs0 <|
  asPtr (0, 0) [] a0_ <|
  asRt true kGather r0_ fun m1 d2 =>
  asMImm m1 fun z3 =>
  .ret (s_l08Cols_9aa7_out z3 d2 (s_l08Cols_9aa7_S d2))
noncomputable def s_l08Cols_9aa7_c : Ctr := ⟨[], fun ci => s_l08Cols_9aa7_G ci.args ci.roots⟩
theorem s_l08Cols_9aa7_env : EnvOK Try.prog s_l08Cols_9aa7_V := envOK_nil
set_option maxRecDepth 100000 in
theorem s_l08Cols_9aa7_ok : Contract Try.prog 34 s_l08Cols_9aa7_c := by
  have hl : LoopsOK s_l08Cols_9aa7_V [] s_l08Cols_9aa7_b := loopsOK_nil (by kernel_rfl)
  refine (contract_of (F := s_l08Cols_9aa7_I) tau_tys s_l08Cols_9aa7_env Try.func34 (by kernel_rfl) (by kernel_rfl) (by kernel_rfl) hl []).weaken ?_
  rintro ⟨av, rs⟩ co h
  have h : (s_l08Cols_9aa7_G av rs).run some = some co := h
  obtain ⟨a0_, av0, rfl, h_0⟩ := asCons_spec h
  obtain ⟨rfl, h_1⟩ := asEnd_spec h_0
  obtain ⟨r0_, rs0, rfl, h_2⟩ := asCons_spec h_1
  obtain ⟨rfl, h_3⟩ := asEnd_spec h_2
  obtain ⟨rfl, h_4⟩ := asPtr_spec h_3
  obtain ⟨m1, d2, rfl, h_5⟩ := asRt_spec h_4
  obtain ⟨z3, rfl, h_6⟩ := asMImm_spec h_5
  exact fin_ret (s_l08Cols_9aa7_eq z3 d2) (s_l08Cols_9aa7_spec d2) h_6

end Go.Proofs.Ytadgapcpogmpcaa

namespace Go.Proofs.Ytadgapcpogmpcaa
open Go Go.Abs Go.Proofs

/-! function 33: loop.example/g01144/spec.l08Below -/
noncomputable def s_l08Below_l2 (h2_0_0 : (List Int)) (h2_0_1 : Int) : Int → Tre (Int ⊕ (Bool ⊕ Unit)) := fun s2 =>
  .cond (decide (s2 < (h2_0_0.length : Int)))
    (.ite (0 ≤ s2 ∧ s2 < (h2_0_0.length : Int)) <|
    .mat (h2_0_0[s2.toNat]?) fun x1 =>
    let v2 := inR x1 0 (iwrap .i64 (h2_0_1 - 1))
    .cond (!v2)
      (.ret (.inr (.inl false)))
      (.ret (.inl (iwrap .i64 (s2 + 1)))))
    (.ret (.inr (.inr ())))
noncomputable def s_l08Below (p0 : (List Int)) (p1 : Int) : Tre Bool :=
  .mat (loopF (s_l08Below_l2 p0 p1) 0) fun l3 =>
  .alt l3
    (fun a4 =>
      .ret a4)
    (fun _ =>
      .ret true)
noncomputable def s_l08Below_F (p0 : (List Int)) (p1 : Int) : Option Bool := (s_l08Below p0 p1).run some
/-- are all of them less? -/
def belowR (xs : List Int) (b : Int) : Option Bool := lim xs.length (xs.all fun x => inR x 0 (iwrap .i64 (b - 1)))
theorem s_l08Below_spec (p0 : List Int) (p1 : Int) (y : Bool) (h : belowR p0 p1 = some y) : s_l08Below_F p0 p1 = some y := by
  obtain ⟨hl, rfl⟩ := lim_some h
  unfold s_l08Below_F s_l08Below
  rw [Tre.run_mat, find_loop (xs := p0) (fun _ x => cond (inR x 0 (iwrap .i64 (p1 - 1))) none (some (.inl false))) (.inr ()), findE_all, Option.bind_some]
  · cases p0.all fun x => inR x 0 (iwrap .i64 (p1 - 1)) <;> rfl
  · intro i x hx
    have hi : i < p0.length := (List.getElem?_eq_some_iff.1 hx).1
    unfold s_l08Below_l2
    rw [run_inb hx, Tre.run_cond]
    cases inR x 0 (iwrap .i64 (p1 - 1))
    · rfl
    · simp only [Bool.not_true, cond_false, cond_true, Tre.run_ret, iwrap_succ (show i < 4611686018427387904 by omega)]
  · unfold s_l08Below_l2
    exact run_out

noncomputable def s_l08Below_V : Env := ⟨tau, [(39, s_l00In_c)]⟩
noncomputable def s_l08Below_b : Code := (Try.f33.body).getD .skip
noncomputable def s_l08Below_l2_mk (z2_0 : Bool) (h2_0_0 : (List Int)) (h2_0_1 : Int) : Int → St := fun x => stOf [(0, (.imm z2_0 (.sl (.int .i64)) h2_0_0)), (1, (.imm true (.int .i64) h2_0_1)), (5, (.imm true (.int .i64) x))] []
noncomputable def s_l08Below_l2_out (_z2_0 : Bool) (_h2_0_0 : (List Int)) (_h2_0_1 : Int) : (Bool ⊕ Unit) → Ex × St
  | .inl x => (.ret, stOf [(4, (.imm true .bool x))] [])
  | .inr x => (.exit 0, stOf [(4, .dead)] [])
noncomputable def s_l08Below_l2_D (s : St) : Tre (Ex × St) :=
  asImm (.sl (.int .i64)) (s.tmps 0) fun z3 d2 =>
  asImmZ true (.int .i64) (s.tmps 1) fun d5 =>
  asImmZ true (.int .i64) (s.tmps 5) fun d7 =>
  .mat (loopF (s_l08Below_l2 d2 d5) d7) fun x => .alt x (fun a0 => .ret (s_l08Below_l2_out z3 d2 d5 (.inl a0))) (fun b0 => .ret (s_l08Below_l2_out z3 d2 d5 (.inr b0)))
noncomputable def s_l08Below_l2_L : LoopI := ⟨([0, 1, 5], []), ([4], []), s_l08Below_l2_D⟩
noncomputable def s_l08Below_A : List (Nat × LoopI) := [(2, s_l08Below_l2_L)]
set_option maxRecDepth 100000 in
theorem s_l08Below_l2_step : ∀ (z2_0 : Bool) (h2_0_0 : (List Int)) (h2_0_1 : Int) (x : Int) (c : St → Option (Ex × St)), den s_l08Below_V s_l08Below_A (loopAt s_l08Below_b 0) (s_l08Below_l2_mk z2_0 h2_0_0 h2_0_1 x) (roundK s_l08Below_l2_L.kp s_l08Below_l2_L.kx c) = (s_l08Below_l2 h2_0_0 h2_0_1 x).run (roundR (s_l08Below_l2_mk z2_0 h2_0_0 h2_0_1) (s_l08Below_l2_out z2_0 h2_0_0 h2_0_1) c) := fun _ _ _ _ _ => by
  kernel_rfl
theorem s_l08Below_l2_ok : LoopOK s_l08Below_V s_l08Below_A (loopAt s_l08Below_b 0) s_l08Below_l2_L := loopOK_of fun s e s' h => by
  generalize hs : restrict s_l08Below_l2_L.kp s = s1 at h
  have h : (s_l08Below_l2_D s1).run some = some (e, s') := h
  obtain ⟨z3, d2, e1, h_0⟩ := asImm_spec h
  obtain ⟨d5, e4, h_1⟩ := asImmZ_spec h_0
  obtain ⟨d7, e6, h_2⟩ := asImmZ_spec h_1
  obtain ⟨y, hy, hz⟩ := mat_some h_2
  refine ⟨_, _, s_l08Below_l2_mk z3 d2 d5, s_l08Below_l2_out z3 d2 d5, s_l08Below_l2 d2 d5, d7, y, ?_, hy, ?_, s_l08Below_l2_step z3 d2 d5⟩
  · subst hs; exact restrict_eq (T := [(0, (.imm z3 (.sl (.int .i64)) d2)), (1, (.imm true (.int .i64) d5)), (5, (.imm true (.int .i64) d7))]) (U := []) rfl rfl ⟨e1, e4, e6, trivial⟩ trivial
  · rcases y with x | x <;> exact Option.some.inj hz
noncomputable def s_l08Below_I : FnI := ⟨s_l08Below_b, Try.f33.results.toList, Try.f33.resultTypes.toList, s_l08Below_A⟩
noncomputable def s_l08Below_out (_zp0 : Bool) (_p0 : (List Int)) (_p1 : Int) : Bool → CallOut := fun r => ⟨(.imm true .bool r), [], []⟩
set_option maxRecDepth 100000 in
theorem s_l08Below_eq : ∀ (zp0 : Bool) (p0 : (List Int)) (p1 : Int), denFn s_l08Below_V s_l08Below_I ⟨[(.imm zp0 (.sl (.int .i64)) p0), (.imm true (.int .i64) p1)], []⟩ = (s_l08Below p0 p1).run fun r => some (s_l08Below_out zp0 p0 p1 r) := fun _ _ _ => by kernel_rfl
noncomputable def s_l08Below_G (av : List AV) (rs : List Root) : Tre CallOut :=
  asCons av fun a0_ av0 =>
  asCons av0 fun a1_ av1 =>
  asEnd av1 <|
  asEnd rs <|
  asImm (.sl (.int .i64)) a0_ fun z2 d1 =>
  asImmZ true (.int .i64) a1_ fun d3 =>
  .mat (belowR d1 d3) fun r => .ret (s_l08Below_out z2 d1 d3 r)
noncomputable def s_l08Below_c : Ctr := ⟨[], fun ci => s_l08Below_G ci.args ci.roots⟩
theorem s_l08Below_env : EnvOK Try.prog s_l08Below_V := (envOK_cons s_l00In_ok ent39 envOK_nil)
set_option maxRecDepth 100000 in
theorem s_l08Below_ok : Contract Try.prog 33 s_l08Below_c := by
  have hl : LoopsOK s_l08Below_V s_l08Below_A s_l08Below_b := (loopsOK_all (n := 1) (by kernel_rfl) fun k hk => by
      match k, hk with
      | 0, _ => exact loopOK_at (id := 2) (L := s_l08Below_l2_L) (by kernel_rfl) (by kernel_rfl) s_l08Below_l2_ok)
  refine (contract_of (F := s_l08Below_I) tau_tys s_l08Below_env Try.func33 (by kernel_rfl) (by kernel_rfl) (by kernel_rfl) hl []).weaken ?_
  rintro ⟨av, rs⟩ co h
  have h : (s_l08Below_G av rs).run some = some co := h
  obtain ⟨a0_, av0, rfl, h_0⟩ := asCons_spec h
  obtain ⟨a1_, av1, rfl, h_1⟩ := asCons_spec h_0
  obtain ⟨rfl, h_2⟩ := asEnd_spec h_1
  obtain ⟨rfl, h_3⟩ := asEnd_spec h_2
  obtain ⟨z2, d1, rfl, h_4⟩ := asImm_spec h_3
  obtain ⟨d3, rfl, h_5⟩ := asImmZ_spec h_4
  exact fin_opt (s_l08Below_eq z2 d1 d3) (s_l08Below_spec d1 d3) h_5

end Go.Proofs.Ytadgapcpogmpcaa

namespace Go.Proofs.Ytadgapcpogmpcaa
open Go Go.Abs Go.Proofs

/-! function 48: loop.example/g01144/spec.l02Bit -/
noncomputable def s_l02Bit (p0 : Int) (p1 : Int) : Tre Int :=
  .ite (0 ≤ iwrap .u64 p1) <|
  let v1 := ishr .i64 p0 (iwrap .u64 p1)
  .ret (iand .i64 v1 1)
noncomputable def s_l02Bit_F (p0 : Int) (p1 : Int) : Option Int := (s_l02Bit p0 p1).run some
/-- the place of a number -/
def bitR (x j : Int) : Option Int := askO (inR j 0 9223372036854775807) (iand .i64 (ishr .i64 x j) 1)
theorem s_l02Bit_spec (p0 p1 : Int) (y : Int) (h : bitR p0 p1 = some y) : s_l02Bit_F p0 p1 = some y := by
  obtain ⟨hl, rfl⟩ := askO_some h
  rw [inR_iff] at hl
  unfold s_l02Bit_F s_l02Bit
  rw [iwrap_u64 hl.1 (by omega), Tre.run_ite, if_pos hl.1]
  rfl
theorem bitR_nat {x : Int} {j : Nat} (h : j ≤ 1048576) : bitR x (j : Int) = some (iand .i64 (ishr .i64 x j) 1) := askO_true (by rw [inR_iff]; omega)

noncomputable def s_l02Bit_V : Env := ⟨tau, []⟩
noncomputable def s_l02Bit_b : Code := (Try.f48.body).getD .skip
noncomputable def s_l02Bit_I : FnI := ⟨s_l02Bit_b, Try.f48.results.toList, Try.f48.resultTypes.toList, []⟩
noncomputable def s_l02Bit_out (_p0 : Int) (_p1 : Int) : Int → CallOut := fun r => ⟨(.imm true (.int .i64) r), [], []⟩
set_option maxRecDepth 100000 in
theorem s_l02Bit_eq : ∀ (p0 : Int) (p1 : Int), denFn s_l02Bit_V s_l02Bit_I ⟨[(.imm true (.int .i64) p0), (.imm true (.int .i64) p1)], []⟩ = (s_l02Bit p0 p1).run fun r => some (s_l02Bit_out p0 p1 r) := fun _ _ => by kernel_rfl
noncomputable def s_l02Bit_G (av : List AV) (rs : List Root) : Tre CallOut :=
  asCons av fun a0_ av0 =>
  asCons av0 fun a1_ av1 =>
  asEnd av1 <|
  asEnd rs <|
  asImmZ true (.int .i64) a0_ fun d1 =>
  asImmZ true (.int .i64) a1_ fun d2 =>
  .mat (bitR d1 d2) fun r => .ret (s_l02Bit_out d1 d2 r)
noncomputable def s_l02Bit_c : Ctr := ⟨[], fun ci => s_l02Bit_G ci.args ci.roots⟩
theorem s_l02Bit_env : EnvOK Try.prog s_l02Bit_V := envOK_nil
set_option maxRecDepth 100000 in
theorem s_l02Bit_ok : Contract Try.prog 48 s_l02Bit_c := by
  have hl : LoopsOK s_l02Bit_V [] s_l02Bit_b := loopsOK_nil (by kernel_rfl)
  refine (contract_of (F := s_l02Bit_I) tau_tys s_l02Bit_env Try.func48 (by kernel_rfl) (by kernel_rfl) (by kernel_rfl) hl []).weaken ?_
  rintro ⟨av, rs⟩ co h
  have h : (s_l02Bit_G av rs).run some = some co := h
  obtain ⟨a0_, av0, rfl, h_0⟩ := asCons_spec h
  obtain ⟨a1_, av1, rfl, h_1⟩ := asCons_spec h_0
  obtain ⟨rfl, h_2⟩ := asEnd_spec h_1
  obtain ⟨rfl, h_3⟩ := asEnd_spec h_2
  obtain ⟨d1, rfl, h_4⟩ := asImmZ_spec h_3
  obtain ⟨d2, rfl, h_5⟩ := asImmZ_spec h_4
  exact fin_opt (s_l02Bit_eq d1 d2) (s_l02Bit_spec d1 d2) h_5

end Go.Proofs.Ytadgapcpogmpcaa

namespace Go.Proofs.Ytadgapcpogmpcaa
open Go Go.Abs Go.Proofs

/-! function 43: loop.example/g01144/spec.l02Times -/
noncomputable def s_l02Times_l3 (h3_0_0 : Int) (h3_0_1 : (List Int)) : (Int × Int) → Tre ((Int × Int) ⊕ Int) := fun s3 =>
  .cond (decide (s3.2 < (h3_0_1.length : Int)))
    (.mat (bitR h3_0_0 s3.2) fun r1 =>
    .cond (decide (r1 = 1))
      (.ite (0 ≤ s3.2 ∧ s3.2 < (h3_0_1.length : Int)) <|
      .mat (h3_0_1[s3.2.toNat]?) fun x2 =>
      .ret (.inl (ixor .i64 s3.1 x2, iwrap .i64 (s3.2 + 1))))
      (.ret (.inl (s3.1, iwrap .i64 (s3.2 + 1)))))
    (.ret (.inr s3.1))
noncomputable def s_l02Times (p0 : Int) (p1 : (List Int)) : Tre Int :=
  .mat (loopF (s_l02Times_l3 p0 p1) (0, 0)) fun l3 =>
  .ret l3
noncomputable def s_l02Times_F (p0 : Int) (p1 : (List Int)) : Option Int := (s_l02Times p0 p1).run some
/-- the sum of the rows that a number names -/
def timesR (a : Int) (xs : List Int) : Option Int := lim xs.length (timesL a xs)
theorem s_l02Times_spec (p0 : Int) (p1 : List Int) (y : Int) (h : timesR p0 p1 = some y) : s_l02Times_F p0 p1 = some y := by
  obtain ⟨hl, rfl⟩ := lim_some h
  unfold s_l02Times_F s_l02Times
  rw [Tre.run_mat]
  have := fold_loop' (xs := p1) (step := s_l02Times_l3 p0 p1) (fun i acc => (acc, (i : Int))) (fun i acc x => .inl (cond (bitAt p0 (i : Int)) (ixor .i64 acc x) acc)) id (by
    intro i acc x hx
    have hi : i < p1.length := (List.getElem?_eq_some_iff.1 hx).1
    unfold s_l02Times_l3
    rw [Tre.run_cond, show decide (((acc, (i : Int)) : Int × Int).2 < (p1.length : Int)) = true from by simpa using hi, cond_true, run_some_mat (bitR_nat (by omega) : bitR p0 (i : Int) = _), Tre.run_cond]
    show cond (bitAt p0 (i : Int)) _ _ = _
    cases bitAt p0 (i : Int)
    · rw [cond_false, Tre.run_ret, iwrap_succ (by omega)]; rfl
    · rw [cond_true, run_at hx, Tre.run_ret, iwrap_succ (by omega)]; rfl)
    (by
    intro acc
    unfold s_l02Times_l3
    exact run_out) 0
  rw [show ((0 : Int), (0 : Int)) = (0, ((0 : Nat) : Int)) from rfl, this]
  rfl

noncomputable def s_l02Times_V : Env := ⟨tau, [(48, s_l02Bit_c)]⟩
noncomputable def s_l02Times_b : Code := (Try.f43.body).getD .skip
noncomputable def s_l02Times_l3_mk (z3_0 : Bool) (h3_0_0 : Int) (h3_0_1 : (List Int)) : (Int × Int) → St := fun x => stOf [(0, (.imm true (.int .i64) h3_0_0)), (1, (.imm z3_0 (.sl (.int .i64)) h3_0_1)), (5, (.imm true (.int .i64) x.1)), (6, (.imm true (.int .i64) x.2))] []
noncomputable def s_l02Times_l3_out (_z3_0 : Bool) (_h3_0_0 : Int) (_h3_0_1 : (List Int)) : Int → Ex × St := fun x => (.exit 0, stOf [(5, (.imm true (.int .i64) x))] [])
noncomputable def s_l02Times_l3_D (s : St) : Tre (Ex × St) :=
  asImmZ true (.int .i64) (s.tmps 0) fun d2 =>
  asImm (.sl (.int .i64)) (s.tmps 1) fun z5 d4 =>
  asImmZ true (.int .i64) (s.tmps 5) fun d7 =>
  asImmZ true (.int .i64) (s.tmps 6) fun d9 =>
  .mat (loopF (s_l02Times_l3 d2 d4) (d7, d9)) fun x => .ret (s_l02Times_l3_out z5 d2 d4 x)
noncomputable def s_l02Times_l3_L : LoopI := ⟨([0, 1, 5, 6], []), ([5], []), s_l02Times_l3_D⟩
noncomputable def s_l02Times_A : List (Nat × LoopI) := [(3, s_l02Times_l3_L)]
set_option maxRecDepth 100000 in
theorem s_l02Times_l3_step : ∀ (z3_0 : Bool) (h3_0_0 : Int) (h3_0_1 : (List Int)) (x : (Int × Int)) (c : St → Option (Ex × St)), den s_l02Times_V s_l02Times_A (loopAt s_l02Times_b 0) (s_l02Times_l3_mk z3_0 h3_0_0 h3_0_1 x) (roundK s_l02Times_l3_L.kp s_l02Times_l3_L.kx c) = (s_l02Times_l3 h3_0_0 h3_0_1 x).run (roundR (s_l02Times_l3_mk z3_0 h3_0_0 h3_0_1) (s_l02Times_l3_out z3_0 h3_0_0 h3_0_1) c) := fun _ _ _ _ _ => by
  kernel_rfl
theorem s_l02Times_l3_ok : LoopOK s_l02Times_V s_l02Times_A (loopAt s_l02Times_b 0) s_l02Times_l3_L := loopOK_of fun s e s' h => by
  generalize hs : restrict s_l02Times_l3_L.kp s = s1 at h
  have h : (s_l02Times_l3_D s1).run some = some (e, s') := h
  obtain ⟨d2, e1, h_0⟩ := asImmZ_spec h
  obtain ⟨z5, d4, e3, h_1⟩ := asImm_spec h_0
  obtain ⟨d7, e6, h_2⟩ := asImmZ_spec h_1
  obtain ⟨d9, e8, h_3⟩ := asImmZ_spec h_2
  obtain ⟨y, hy, hz⟩ := mat_ret h_3
  refine ⟨_, _, s_l02Times_l3_mk z5 d2 d4, s_l02Times_l3_out z5 d2 d4, s_l02Times_l3 d2 d4, (d7, d9), y, ?_, hy, ?_, s_l02Times_l3_step z5 d2 d4⟩
  · subst hs; exact restrict_eq (T := [(0, (.imm true (.int .i64) d2)), (1, (.imm z5 (.sl (.int .i64)) d4)), (5, (.imm true (.int .i64) d7)), (6, (.imm true (.int .i64) d9))]) (U := []) rfl rfl ⟨e1, e3, e6, e8, trivial⟩ trivial
  · exact Option.some.inj hz
noncomputable def s_l02Times_I : FnI := ⟨s_l02Times_b, Try.f43.results.toList, Try.f43.resultTypes.toList, s_l02Times_A⟩
noncomputable def s_l02Times_out (_zp0 : Bool) (_p0 : Int) (_p1 : (List Int)) : Int → CallOut := fun r => ⟨(.imm true (.int .i64) r), [], []⟩
set_option maxRecDepth 100000 in
theorem s_l02Times_eq : ∀ (zp0 : Bool) (p0 : Int) (p1 : (List Int)), denFn s_l02Times_V s_l02Times_I ⟨[(.imm true (.int .i64) p0), (.imm zp0 (.sl (.int .i64)) p1)], []⟩ = (s_l02Times p0 p1).run fun r => some (s_l02Times_out zp0 p0 p1 r) := fun _ _ _ => by kernel_rfl
noncomputable def s_l02Times_G (av : List AV) (rs : List Root) : Tre CallOut :=
  asCons av fun a0_ av0 =>
  asCons av0 fun a1_ av1 =>
  asEnd av1 <|
  asEnd rs <|
  asImmZ true (.int .i64) a0_ fun d1 =>
  asImm (.sl (.int .i64)) a1_ fun z3 d2 =>
  .mat (timesR d1 d2) fun r => .ret (s_l02Times_out z3 d1 d2 r)
noncomputable def s_l02Times_c : Ctr := ⟨[], fun ci => s_l02Times_G ci.args ci.roots⟩
theorem s_l02Times_env : EnvOK Try.prog s_l02Times_V := (envOK_cons s_l02Bit_ok ent48 envOK_nil)
set_option maxRecDepth 100000 in
theorem s_l02Times_ok : Contract Try.prog 43 s_l02Times_c := by
  have hl : LoopsOK s_l02Times_V s_l02Times_A s_l02Times_b := (loopsOK_all (n := 1) (by kernel_rfl) fun k hk => by
      match k, hk with
      | 0, _ => exact loopOK_at (id := 3) (L := s_l02Times_l3_L) (by kernel_rfl) (by kernel_rfl) s_l02Times_l3_ok)
  refine (contract_of (F := s_l02Times_I) tau_tys s_l02Times_env Try.func43 (by kernel_rfl) (by kernel_rfl) (by kernel_rfl) hl []).weaken ?_
  rintro ⟨av, rs⟩ co h
  have h : (s_l02Times_G av rs).run some = some co := h
  obtain ⟨a0_, av0, rfl, h_0⟩ := asCons_spec h
  obtain ⟨a1_, av1, rfl, h_1⟩ := asCons_spec h_0
  obtain ⟨rfl, h_2⟩ := asEnd_spec h_1
  obtain ⟨rfl, h_3⟩ := asEnd_spec h_2
  obtain ⟨d1, rfl, h_4⟩ := asImmZ_spec h_3
  obtain ⟨z3, d2, rfl, h_5⟩ := asImm_spec h_4
  exact fin_opt (s_l02Times_eq z3 d1 d2) (s_l02Times_spec d1 d2) h_5

end Go.Proofs.Ytadgapcpogmpcaa

namespace Go.Proofs.Ytadgapcpogmpcaa
open Go Go.Abs Go.Proofs

/-! function 52: loop.example/g01144/spec.l00Own -/
noncomputable def s_l00Own (p0 : (List Int)) : Tre (List Int) :=
  .ite ((0 + p0.length) * 8 ≤ appendMax ∧ 1 ≤ 8) <|
  .ret ([] ++ p0)
noncomputable def s_l00Own_F (p0 : (List Int)) : Option (List Int) := (s_l00Own p0).run some
theorem s_l00Own_spec (p0 : List Int) (y : List Int) (h : cloneR p0 = some y) : s_l00Own_F p0 = some y := by
  obtain ⟨hl, rfl⟩ := lim_some h
  have hb : (0 + p0.length) * 8 ≤ appendMax ∧ 1 ≤ 8 := by unfold appendMax; omega
  unfold s_l00Own_F s_l00Own
  rw [Tre.run_ite, if_pos hb]
  rfl

noncomputable def s_l00Own_V : Env := ⟨tau, []⟩
noncomputable def s_l00Own_b : Code := (Try.f52.body).getD .skip
noncomputable def s_l00Own_I : FnI := ⟨s_l00Own_b, Try.f52.results.toList, Try.f52.resultTypes.toList, []⟩
noncomputable def s_l00Own_out (_zp0 : Bool) (_p0 : (List Int)) : (List Int) → CallOut := fun r => ⟨(.ref (1, 0) []), [], [⟨false, (.sl (.int .i64)), .own, r⟩]⟩
set_option maxRecDepth 100000 in
theorem s_l00Own_eq : ∀ (zp0 : Bool) (p0 : (List Int)), denFn s_l00Own_V s_l00Own_I ⟨[(.imm zp0 (.sl (.int .i64)) p0)], []⟩ = (s_l00Own p0).run fun r => some (s_l00Own_out zp0 p0 r) := fun _ _ => by kernel_rfl
noncomputable def s_l00Own_G (av : List AV) (rs : List Root) : Tre CallOut :=
  asCons av fun a0_ av0 =>
  asEnd av0 <|
  asEnd rs <|
  asImm (.sl (.int .i64)) a0_ fun z2 d1 =>
  .mat (cloneR d1) fun r => .ret (s_l00Own_out z2 d1 r)
noncomputable def s_l00Own_c : Ctr := ⟨[], fun ci => s_l00Own_G ci.args ci.roots⟩
theorem s_l00Own_env : EnvOK Try.prog s_l00Own_V := envOK_nil
set_option maxRecDepth 100000 in
theorem s_l00Own_ok : Contract Try.prog 52 s_l00Own_c := by
  have hl : LoopsOK s_l00Own_V [] s_l00Own_b := loopsOK_nil (by kernel_rfl)
  refine (contract_of (F := s_l00Own_I) tau_tys s_l00Own_env Try.func52 (by kernel_rfl) (by kernel_rfl) (by kernel_rfl) hl []).weaken ?_
  rintro ⟨av, rs⟩ co h
  have h : (s_l00Own_G av rs).run some = some co := h
  obtain ⟨a0_, av0, rfl, h_0⟩ := asCons_spec h
  obtain ⟨rfl, h_1⟩ := asEnd_spec h_0
  obtain ⟨rfl, h_2⟩ := asEnd_spec h_1
  obtain ⟨z2, d1, rfl, h_3⟩ := asImm_spec h_2
  exact fin_opt (s_l00Own_eq z2 d1) (s_l00Own_spec d1) h_3

end Go.Proofs.Ytadgapcpogmpcaa

namespace Go.Proofs.Ytadgapcpogmpcaa
open Go Go.Abs Go.Proofs

/-! function 49: loop.example/g01144/spec.l02Echelon -/
noncomputable def s_l02Echelon_l8 (h8_0_1 : Int) (h8_0_4 : (List Int)) : (Int × Int) → Tre ((Int × Int) ⊕ Int) := fun s8 =>
  .cond (decide (s8.2 < (h8_0_4.length : Int)))
    (.cond (decide (s8.1 < 0))
      (.ite (0 ≤ s8.2 ∧ s8.2 < (h8_0_4.length : Int)) <|
      .mat (h8_0_4[s8.2.toNat]?) fun x2 =>
      .mat (bitR x2 h8_0_1) fun r3 =>
      .cond (decide (r3 = 1))
        (.ret (.inl (s8.2, iwrap .i64 (s8.2 + 1))))
        (.ret (.inl (s8.1, iwrap .i64 (s8.2 + 1)))))
      (.ret (.inr s8.1)))
    (.ret (.inr s8.1))
noncomputable def s_l02Echelon_l16 (h16_0_1 : Int) (h16_0_2 : Int) : (Int × (List Int)) → Tre ((Int × (List Int)) ⊕ (List Int)) := fun s16 =>
  .cond (decide (s16.1 < (s16.2.length : Int)))
    (.ite (0 ≤ s16.1 ∧ s16.1 < (s16.2.length : Int)) <|
    .mat (s16.2[s16.1.toNat]?) fun x7 =>
    .mat (bitR x7 h16_0_1) fun r8 =>
    .cond (decide (r8 = 1))
      (.ite (0 ≤ s16.1 ∧ s16.1 < (s16.2.length : Int)) <|
      .mat (s16.2[s16.1.toNat]?) fun x9 =>
      .ite (0 ≤ s16.1 ∧ s16.1 < (s16.2.length : Int)) <|
      .mat (s16.2[s16.1.toNat]?) fun _ =>
      let v11 := s16.2.set s16.1.toNat (ixor .i64 x9 h16_0_2)
      .ret (.inl (iwrap .i64 (s16.1 + 1), v11)))
      (.ret (.inl (iwrap .i64 (s16.1 + 1), s16.2))))
    (.ret (.inr s16.2))
noncomputable def s_l02Echelon_l21 (h21_0_1 : Int) (h21_0_2 : Int) : (Int × (List Int)) → Tre ((Int × (List Int)) ⊕ (List Int)) := fun s21 =>
  .cond (decide (s21.1 < (s21.2.length : Int)))
    (.ite (0 ≤ s21.1 ∧ s21.1 < (s21.2.length : Int)) <|
    .mat (s21.2[s21.1.toNat]?) fun x13 =>
    .mat (bitR x13 h21_0_1) fun r14 =>
    .cond (decide (r14 = 1))
      (.ite (0 ≤ s21.1 ∧ s21.1 < (s21.2.length : Int)) <|
      .mat (s21.2[s21.1.toNat]?) fun x15 =>
      .ite (0 ≤ s21.1 ∧ s21.1 < (s21.2.length : Int)) <|
      .mat (s21.2[s21.1.toNat]?) fun _ =>
      let v17 := s21.2.set s21.1.toNat (ixor .i64 x15 h21_0_2)
      .ret (.inl (iwrap .i64 (s21.1 + 1), v17)))
      (.ret (.inl (iwrap .i64 (s21.1 + 1), s21.2))))
    (.ret (.inr s21.2))
noncomputable def s_l02Echelon_l4 (h4_0_0 : Int) : (Int × (List Int) × (List Int)) → Tre ((Int × (List Int) × (List Int)) ⊕ (List Int)) := fun s4 =>
  .cond (decide (s4.1 < h4_0_0))
    (.mat (loopF (s_l02Echelon_l8 s4.1 s4.2.1) (-1, 0)) fun l4 =>
    .cond (decide (l4 < 0))
      (.ret (.inl (iwrap .i64 (s4.1 + 1), s4.2.1, s4.2.2)))
      (.ite (0 ≤ l4 ∧ l4 < (s4.2.1.length : Int)) <|
      .mat (s4.2.1[l4.toNat]?) fun x5 =>
      .ite (0 ≤ l4 ∧ l4 < (s4.2.1.length : Int)) <|
      .mat (s4.2.1[l4.toNat]?) fun _ =>
      .mat (loopF (s_l02Echelon_l16 s4.1 x5) (0, s4.2.1.set l4.toNat 0)) fun l12 =>
      .mat (loopF (s_l02Echelon_l21 s4.1 x5) (0, s4.2.2)) fun l18 =>
      .ite ((l18.length + 1) * 8 ≤ appendMax ∧ 1 ≤ 8) <|
      .ret (.inl (iwrap .i64 (s4.1 + 1), l12, l18 ++ ([x5])))))
    (.ret (.inr s4.2.2))
noncomputable def s_l02Echelon (p0 : Int) (p1 : (List Int)) : Tre (List Int) :=
  .mat (cloneR p1) fun r1 =>
  .mat (loopF (s_l02Echelon_l4 p0) (0, r1, [])) fun l19 =>
  .ret l19
noncomputable def s_l02Echelon_F (p0 : Int) (p1 : (List Int)) : Option (List Int) := (s_l02Echelon p0 p1).run some
/-- the reduced form of rows of so many places -/
noncomputable def echB (m : Int) (xs : List Int) : Option (List Int) := askO (inR m 0 62 && okRows m.toNat xs) (echI xs)
theorem s_l02Echelon_find (c : Nat) (hc : c ≤ 62) (xs : List Int) (hl : xs.length ≤ 1048576) : loopF (s_l02Echelon_l8 (c : Int) xs) (-1, 0) = some (idxI (fun x => bitAt x (c : Int)) 0 xs) := by
  have := fold_loop (xs := xs) (step := s_l02Echelon_l8 (c : Int) xs) (fun i acc => (acc, (i : Int))) (fun i acc x => cond (decide (acc < 0)) (.inl (cond (bitAt x (c : Int)) (i : Int) acc)) (.inr acc)) id (fun _ _ => True) (by
    intro i acc x hx _
    refine ⟨?_, fun _ _ => trivial⟩
    have hi : i < xs.length := (List.getElem?_eq_some_iff.1 hx).1
    unfold s_l02Echelon_l8
    rw [Tre.run_cond, show decide (((acc, (i : Int)) : Int × Int).2 < (xs.length : Int)) = true from by simpa using hi, cond_true, Tre.run_cond]
    by_cases h0 : acc < 0
    · rw [show decide (acc < 0) = true from by simpa using h0]
      rw [cond_true, run_at hx, run_some_mat (bitR_nat (by omega) : bitR x (c : Int) = _), Tre.run_cond]
      show cond (bitAt x (c : Int)) _ _ = _
      cases bitAt x (c : Int)
      · rw [cond_false, Tre.run_ret, iwrap_succ (by omega)]; rfl
      · rw [cond_true, Tre.run_ret, iwrap_succ (by omega)]; rfl
    · rw [show decide (acc < 0) = false from by simpa using h0]
      rfl)
    (by
    intro acc _
    unfold s_l02Echelon_l8
    exact run_out) xs 0 (-1) rfl (Nat.zero_le _) trivial
  rw [show (((-1 : Int), (0 : Int)) : Int × Int) = (-1, ((0 : Nat) : Int)) from rfl, this]
  have key : ∀ (l : List Int) (i : Nat), foldE (β := Int) (fun (i : Nat) (acc : Int) x => cond (decide (acc < 0)) (.inl (cond (bitAt x (c : Int)) (i : Int) acc)) (.inr acc)) id i (-1) l = idxI (fun x => bitAt x (c : Int)) i l := by
    intro l
    induction l with
    | nil => intro i; rfl
    | cons x l ih =>
      intro i
      simp only [foldE, idxI, show decide ((-1 : Int) < 0) = true from rfl, cond_true]
      cases bitAt x (c : Int)
      · exact ih (i + 1)
      · have hn : decide ((i : Int) < 0) = false := by simp
        cases l with
        | nil => rfl
        | cons y l => simp only [foldE, cond_true, hn, cond_false]
  rw [key]
theorem s_l02Echelon_elim (c r : Nat) (hc : c ≤ 62) (hr : r < 2 ^ 62) (l : List Nat) (hb : ∀ n ∈ l, n < 2 ^ 62) (hl : l.length ≤ 1048576) : loopF (s_l02Echelon_l16 (c : Int) (r : Int)) (0, up l) = some (up (l.map (elimB c r))) := by
  have := part_loop (step := s_l02Echelon_l16 (c : Int) (r : Int)) (fun _ x => elimB c r x) l id (by
    intro i x hx
    have hi : i < l.length := (List.getElem?_eq_some_iff.1 hx).1
    have hx2 := up_at (part_at (g := fun _ x => elimB c r x) (i := i) hx)
    rw [if_neg (Nat.lt_irrefl i)] at hx2
    have hlen : (up (partB (fun _ x => elimB c r x) i l)).length = l.length := by rw [up_len, part_len]
    have hxb := hb x (List.mem_of_getElem? hx)
    rw [← part_set hx]
    unfold s_l02Echelon_l16
    rw [run_inb hx2, run_some_mat (bitR_nat (by omega) : bitR (x : Int) (c : Int) = _), Tre.run_cond]
    show cond (bitAt (x : Int) (c : Int)) _ _ = _
    rw [bitAt_nat (by omega) (by omega)]
    have he : elimB c r x = cond (x.testBit c) (x ^^^ r) x := rfl
    rw [he]
    cases x.testBit c
    · rw [cond_false, Tre.run_ret, iwrap_succ (by omega)]
      refine congrArg (fun z => some (Sum.inl (((i + 1 : Nat) : Int), z))) ?_
      rw [cond_false, ← up_set]
      exact (List.ext_getElem? fun j => by
        rw [List.getElem?_set]
        by_cases hj : i = j
        · subst hj; rw [if_pos rfl, hx2, if_pos (List.getElem?_eq_some_iff.1 hx2).1]
        · rw [if_neg hj]).symm
    · rw [cond_true, run_at hx2, run_at hx2, Tre.run_ret, iwrap_succ (by omega), ixor_nat (by omega) (by omega), Int.toNat_natCast, cond_true, ← up_set])
    (by
    unfold s_l02Echelon_l16
    have : ((partB (fun _ x => elimB c r x) l.length l).length : Int) = (l.length : Int) := by rw [part_len]
    show (Tre.cond (decide ((l.length : Int) < ((up (partB (fun _ x => elimB c r x) l.length l)).length : Int))) _ _).run some = _
    rw [up_len, part_len]
    exact run_out)
  rw [this, mapIdx_const]
  rfl
theorem s_l02Echelon_l21_eq : s_l02Echelon_l21 = s_l02Echelon_l16 := rfl
theorem s_l02Echelon_loop (m : Nat) (hm : m ≤ 62) (orig : List Nat) : ∀ (n c : Nat) (E : List (Nat × Nat)) (R : List Nat), c + n = m → Inv orig c E R → E.length ≤ c → R.length ≤ 1048576 → (∀ x ∈ R, x < 2 ^ m) → (∀ a ∈ E, a.2 < 2 ^ m) →
    ∃ E' : List Nat, loopF (s_l02Echelon_l4 (m : Int)) ((c : Int), up R, up (E.map (·.2))) = some (up E') ∧ IsEch orig E' := by
  intro n
  have hp := pow_le hm
  induction n with
  | zero =>
    intro c E R hc hI _ _ hR _
    have : c = m := hc
    subst this
    refine ⟨E.map (·.2), loopF_done ?_, hI.done fun x hx => zero_of_bits (hR x hx) (hI.low x hx)⟩
    unfold s_l02Echelon_l4
    exact run_out
  | succ n ih =>
    intro c E R hc hI hE hl hR hEb
    have hcm : c < m := by omega
    have hstep : ∀ E2 R2, Inv orig (c + 1) E2 R2 → E2.length ≤ c + 1 → R2.length ≤ 1048576 → (∀ x ∈ R2, x < 2 ^ m) → (∀ a ∈ E2, a.2 < 2 ^ m) → (s_l02Echelon_l4 (m : Int) ((c : Int), up R, up (E.map (·.2)))).run some = some (.inl (((c + 1 : Nat) : Int), up R2, up (E2.map (·.2)))) →
        ∃ E' : List Nat, loopF (s_l02Echelon_l4 (m : Int)) ((c : Int), up R, up (E.map (·.2))) = some (up E') ∧ IsEch orig E' := by
      intro E2 R2 h1 h2 h3 h4 h5 h6
      rw [loopF_step h6]
      exact ih (c + 1) E2 R2 (by omega) h1 h2 h3 h4 h5
    have hfind := s_l02Echelon_find c (by omega) (up R) (by rw [up_len]; exact hl)
    have hw : iwrap .i64 ((c : Int) + 1) = ((c + 1 : Nat) : Int) := iwrap_succ (by omega)
    have hdec : decide ((c : Int) < (m : Int)) = true := by simpa using hcm
    rcases idxI_cases (fun x => bitAt x (c : Int)) (up R) 0 with ⟨h1, h2⟩ | ⟨k, x, h1, h2, h3⟩
    · refine hstep E R (hI.skip fun x hx => ?_) (by omega) hl hR hEb ?_
      · have := h2 (x : Int) (List.mem_map.2 ⟨x, hx, rfl⟩)
        have hxb := hR x hx
        rwa [bitAt_nat (by omega) (by omega)] at this
      · unfold s_l02Echelon_l4
        rw [Tre.run_cond]
        show cond (decide ((c : Int) < (m : Int))) _ _ = _
        rw [hdec, cond_true, run_some_mat (hfind.trans (by rw [h1])), Tre.run_cond]
        simp only [show decide ((-1 : Int) < 0) = true from rfl, cond_true, Tre.run_ret, hw]
    · obtain ⟨r, hr1, rfl⟩ : ∃ r : Nat, R[k]? = some r ∧ (r : Int) = x := by
        simp only [up, List.getElem?_map, Option.map_eq_some_iff] at h1
        exact h1
      have hrm : r ∈ R := List.mem_of_getElem? hr1
      have hrb := hR r hrm
      rw [bitAt_nat (by omega) (by omega)] at h2
      rw [Nat.zero_add] at h3
      have hk : k < R.length := (List.getElem?_eq_some_iff.1 hr1).1
      have hE2 : ((E.map fun a => (a.1, elimB c r a.2)) ++ [(c, r)]).map (·.2) = (E.map (·.2)).map (elimB c r) ++ [r] := by simp [List.map_map, Function.comp_def]
      refine hstep (E.map (fun a => (a.1, elimB c r a.2)) ++ [(c, r)]) ((R.set k 0).map (elimB c r)) (hI.step hrm h2 ?_ ?_) (by simp; omega) (by simpa using hl) ?_ ?_ ?_
      · intro y hy
        obtain ⟨x, hx, rfl⟩ := List.mem_map.1 hy
        rcases List.mem_or_eq_of_mem_set hx with hx | rfl
        · exact .inr ⟨x, hx, rfl⟩
        · exact .inl (by unfold elimB; simp)
      · intro x hx
        obtain ⟨j, hj⟩ := List.getElem?_of_mem hx
        by_cases hjk : k = j
        · subst hjk; rw [hr1] at hj; exact .inl (Option.some.inj hj).symm
        · refine .inr (List.mem_map.2 ⟨x, List.mem_of_getElem? (i := j) ?_, rfl⟩)
          rw [List.getElem?_set, if_neg hjk, hj]
      · intro y hy
        obtain ⟨x, hx, rfl⟩ := List.mem_map.1 hy
        refine elimB_lt hrb ?_
        rcases List.mem_or_eq_of_mem_set hx with hx | rfl
        · exact hR x hx
        · exact Nat.two_pow_pos m
      · intro a ha
        rcases List.mem_append.1 ha with ha | ha
        · obtain ⟨b, hb, rfl⟩ := List.mem_map.1 ha
          exact elimB_lt hrb (hEb b hb)
        · simp only [List.mem_singleton] at ha; subst ha; exact hrb
      · have e1 := s_l02Echelon_elim c r (by omega) (by omega) (R.set k 0) (fun x hx => by
          rcases List.mem_or_eq_of_mem_set hx with hx | rfl
          · have := hR x hx; omega
          · decide) (by simpa using hl)
        have e2 : loopF (s_l02Echelon_l21 (c : Int) (r : Int)) (0, up (E.map (·.2))) = some (up ((E.map (·.2)).map (elimB c r))) := by
          rw [s_l02Echelon_l21_eq]
          exact s_l02Echelon_elim c r (by omega) (by omega) (E.map (·.2)) (fun x hx => by
          obtain ⟨a, ha, rfl⟩ := List.mem_map.1 hx
          have := hEb a ha
          omega) (by simp; omega)
        unfold s_l02Echelon_l4
        rw [Tre.run_cond]
        show cond (decide ((c : Int) < (m : Int))) _ _ = _
        rw [hdec, cond_true, run_some_mat (hfind.trans (by rw [h3])), Tre.run_cond]
        rw [show decide ((k : Int) < 0) = false from by simp, cond_false, run_at h1, run_at h1, Int.toNat_natCast]
        rw [show (up R).set k 0 = up (R.set k 0) from up_set R k 0, run_some_mat e1, run_some_mat e2]
        rw [Tre.run_ite, if_pos (by unfold appendMax; rw [up_len]; simp; omega), Tre.run_ret, hw, hE2]
        simp [up]
theorem s_l02Echelon_spec (p0 : Int) (p1 : List Int) (y : List Int) (h : echB p0 p1 = some y) : s_l02Echelon_F p0 p1 = some y := by
  obtain ⟨hl, rfl⟩ := askO_some h
  rw [Bool.and_eq_true, inR_iff] at hl
  obtain ⟨m, rfl⟩ : ∃ m : Nat, p0 = (m : Int) := ⟨p0.toNat, by omega⟩
  obtain ⟨ns, rfl, hlen, hb, hn⟩ := okRows_up hl.2
  rw [Int.toNat_natCast] at hb
  obtain ⟨E, h1, h2⟩ := s_l02Echelon_loop m (by omega) ns m 0 [] ns (by omega) (Inv.start ns) (Nat.zero_le _) hlen hb (fun a ha => by cases ha)
  unfold s_l02Echelon_F s_l02Echelon
  have e1 : cloneR (up ns) = some (up ns) := lim_of (by rw [up_len]; exact hlen)
  have h1 : loopF (s_l02Echelon_l4 (m : Int)) (0, up ns, []) = some (up E) := h1
  rw [run_some_mat e1, run_some_mat h1]
  unfold echI
  rw [hn, ech_of h2]
  rfl

noncomputable def s_l02Echelon_V : Env := ⟨tau, [(52, s_l00Own_c), (48, s_l02Bit_c)]⟩
noncomputable def s_l02Echelon_b : Code := (Try.f49.body).getD .skip
noncomputable def s_l02Echelon_l8_mk (h8_0_0 : Int) (h8_0_1 : Int) (h8_0_4 : (List Int)) (h8_0_5 : (List Int)) : (Int × Int) → St := fun x => stOf [(0, (.imm true (.int .i64) h8_0_0)), (5, (.ref (7, 0) [])), (6, (.ref (8, 0) [])), (7, (.imm true (.int .i64) h8_0_1)), (8, (.imm true (.int .i64) x.1)), (9, (.imm true (.int .i64) x.2))] [((7, 0), some ⟨false, (.sl (.int .i64)), .own, h8_0_4⟩), ((8, 0), some ⟨false, (.sl (.int .i64)), .own, h8_0_5⟩)]
noncomputable def s_l02Echelon_l8_out (h8_0_0 : Int) (h8_0_1 : Int) (h8_0_4 : (List Int)) (h8_0_5 : (List Int)) : Int → Ex × St := fun x => (.exit 2, stOf [(0, (.imm true (.int .i64) h8_0_0)), (5, (.ref (7, 0) [])), (6, (.ref (8, 0) [])), (7, (.imm true (.int .i64) h8_0_1)), (8, (.imm true (.int .i64) x))] [((7, 0), some ⟨false, (.sl (.int .i64)), .own, h8_0_4⟩), ((8, 0), some ⟨false, (.sl (.int .i64)), .own, h8_0_5⟩)])
noncomputable def s_l02Echelon_l8_D (s : St) : Tre (Ex × St) :=
  asImmZ true (.int .i64) (s.tmps 0) fun d2 =>
  asRef (7, 0) [] (s.tmps 5) <|
  asRef (8, 0) [] (s.tmps 6) <|
  asImmZ true (.int .i64) (s.tmps 7) fun d6 =>
  asImmZ true (.int .i64) (s.tmps 8) fun d8 =>
  asImmZ true (.int .i64) (s.tmps 9) fun d10 =>
  asRoot false (.sl (.int .i64)) (s.roots (7, 0)) fun m12 d13 =>
  asM .own m12 <|
  asRoot false (.sl (.int .i64)) (s.roots (8, 0)) fun m15 d16 =>
  asM .own m15 <|
  .mat (loopF (s_l02Echelon_l8 d6 d13) (d8, d10)) fun x => .ret (s_l02Echelon_l8_out d2 d6 d13 d16 x)
noncomputable def s_l02Echelon_l8_L : LoopI := ⟨([0, 5, 6, 7, 8, 9], [(7, 0), (8, 0)]), ([0, 5, 6, 7, 8], [(7, 0), (8, 0)]), s_l02Echelon_l8_D⟩
noncomputable def s_l02Echelon_l16_mk (h16_0_0 : Int) (h16_0_1 : Int) (h16_0_2 : Int) (h16_0_5 : (List Int)) : (Int × (List Int)) → St := fun x => stOf [(0, (.imm true (.int .i64) h16_0_0)), (5, (.ref (7, 0) [])), (6, (.ref (8, 0) [])), (7, (.imm true (.int .i64) h16_0_1)), (10, (.imm true (.int .i64) h16_0_2)), (11, (.imm true (.int .i64) x.1))] [((7, 0), some ⟨false, (.sl (.int .i64)), .own, x.2⟩), ((8, 0), some ⟨false, (.sl (.int .i64)), .own, h16_0_5⟩)]
noncomputable def s_l02Echelon_l16_out (h16_0_0 : Int) (h16_0_1 : Int) (h16_0_2 : Int) (h16_0_5 : (List Int)) : (List Int) → Ex × St := fun x => (.exit 4, stOf [(0, (.imm true (.int .i64) h16_0_0)), (5, (.ref (7, 0) [])), (6, (.ref (8, 0) [])), (7, (.imm true (.int .i64) h16_0_1)), (10, (.imm true (.int .i64) h16_0_2))] [((7, 0), some ⟨false, (.sl (.int .i64)), .own, x⟩), ((8, 0), some ⟨false, (.sl (.int .i64)), .own, h16_0_5⟩)])
noncomputable def s_l02Echelon_l16_D (s : St) : Tre (Ex × St) :=
  asImmZ true (.int .i64) (s.tmps 0) fun d2 =>
  asRef (7, 0) [] (s.tmps 5) <|
  asRef (8, 0) [] (s.tmps 6) <|
  asImmZ true (.int .i64) (s.tmps 7) fun d6 =>
  asImmZ true (.int .i64) (s.tmps 10) fun d8 =>
  asImmZ true (.int .i64) (s.tmps 11) fun d10 =>
  asRoot false (.sl (.int .i64)) (s.roots (7, 0)) fun m12 d13 =>
  asM .own m12 <|
  asRoot false (.sl (.int .i64)) (s.roots (8, 0)) fun m15 d16 =>
  asM .own m15 <|
  .mat (loopF (s_l02Echelon_l16 d6 d8) (d10, d13)) fun x => .ret (s_l02Echelon_l16_out d2 d6 d8 d16 x)
noncomputable def s_l02Echelon_l16_L : LoopI := ⟨([0, 5, 6, 7, 10, 11], [(7, 0), (8, 0)]), ([0, 5, 6, 7, 10], [(7, 0), (8, 0)]), s_l02Echelon_l16_D⟩
noncomputable def s_l02Echelon_l21_mk (h21_0_0 : Int) (h21_0_1 : Int) (h21_0_2 : Int) (h21_0_4 : (List Int)) : (Int × (List Int)) → St := fun x => stOf [(0, (.imm true (.int .i64) h21_0_0)), (5, (.ref (7, 0) [])), (6, (.ref (8, 0) [])), (7, (.imm true (.int .i64) h21_0_1)), (10, (.imm true (.int .i64) h21_0_2)), (12, (.imm true (.int .i64) x.1))] [((7, 0), some ⟨false, (.sl (.int .i64)), .own, h21_0_4⟩), ((8, 0), some ⟨false, (.sl (.int .i64)), .own, x.2⟩)]
noncomputable def s_l02Echelon_l21_out (h21_0_0 : Int) (h21_0_1 : Int) (h21_0_2 : Int) (h21_0_4 : (List Int)) : (List Int) → Ex × St := fun x => (.exit 6, stOf [(0, (.imm true (.int .i64) h21_0_0)), (5, (.ref (7, 0) [])), (6, (.ref (8, 0) [])), (7, (.imm true (.int .i64) h21_0_1)), (10, (.imm true (.int .i64) h21_0_2))] [((7, 0), some ⟨false, (.sl (.int .i64)), .own, h21_0_4⟩), ((8, 0), some ⟨false, (.sl (.int .i64)), .own, x⟩)])
noncomputable def s_l02Echelon_l21_D (s : St) : Tre (Ex × St) :=
  asImmZ true (.int .i64) (s.tmps 0) fun d2 =>
  asRef (7, 0) [] (s.tmps 5) <|
  asRef (8, 0) [] (s.tmps 6) <|
  asImmZ true (.int .i64) (s.tmps 7) fun d6 =>
  asImmZ true (.int .i64) (s.tmps 10) fun d8 =>
  asImmZ true (.int .i64) (s.tmps 12) fun d10 =>
  asRoot false (.sl (.int .i64)) (s.roots (7, 0)) fun m12 d13 =>
  asM .own m12 <|
  asRoot false (.sl (.int .i64)) (s.roots (8, 0)) fun m15 d16 =>
  asM .own m15 <|
  .mat (loopF (s_l02Echelon_l21 d6 d8) (d10, d16)) fun x => .ret (s_l02Echelon_l21_out d2 d6 d8 d13 x)
noncomputable def s_l02Echelon_l21_L : LoopI := ⟨([0, 5, 6, 7, 10, 12], [(7, 0), (8, 0)]), ([0, 5, 6, 7, 10], [(7, 0), (8, 0)]), s_l02Echelon_l21_D⟩
noncomputable def s_l02Echelon_l4_mk (h4_0_0 : Int) : (Int × (List Int) × (List Int)) → St := fun x => stOf [(0, (.imm true (.int .i64) h4_0_0)), (5, (.ref (7, 0) [])), (6, (.ref (8, 0) [])), (7, (.imm true (.int .i64) x.1))] [((7, 0), some ⟨false, (.sl (.int .i64)), .own, x.2.1⟩), ((8, 0), some ⟨false, (.sl (.int .i64)), .own, x.2.2⟩)]
noncomputable def s_l02Echelon_l4_out (_h4_0_0 : Int) : (List Int) → Ex × St := fun x => (.exit 0, stOf [(6, (.ref (8, 0) []))] [((8, 0), some ⟨false, (.sl (.int .i64)), .own, x⟩)])
noncomputable def s_l02Echelon_l4_D (s : St) : Tre (Ex × St) :=
  asImmZ true (.int .i64) (s.tmps 0) fun d2 =>
  asRef (7, 0) [] (s.tmps 5) <|
  asRef (8, 0) [] (s.tmps 6) <|
  asImmZ true (.int .i64) (s.tmps 7) fun d6 =>
  asRoot false (.sl (.int .i64)) (s.roots (7, 0)) fun m8 d9 =>
  asM .own m8 <|
  asRoot false (.sl (.int .i64)) (s.roots (8, 0)) fun m11 d12 =>
  asM .own m11 <|
  .mat (loopF (s_l02Echelon_l4 d2) (d6, d9, d12)) fun x => .ret (s_l02Echelon_l4_out d2 x)
noncomputable def s_l02Echelon_l4_L : LoopI := ⟨([0, 5, 6, 7], [(7, 0), (8, 0)]), ([6], [(8, 0)]), s_l02Echelon_l4_D⟩
noncomputable def s_l02Echelon_A : List (Nat × LoopI) := [(8, s_l02Echelon_l8_L), (16, s_l02Echelon_l16_L), (21, s_l02Echelon_l21_L), (4, s_l02Echelon_l4_L)]
set_option maxRecDepth 100000 in
theorem s_l02Echelon_l8_step : ∀ (h8_0_0 : Int) (h8_0_1 : Int) (h8_0_4 : (List Int)) (h8_0_5 : (List Int)) (x : (Int × Int)) (c : St → Option (Ex × St)), den s_l02Echelon_V s_l02Echelon_A (loopAt s_l02Echelon_b 1) (s_l02Echelon_l8_mk h8_0_0 h8_0_1 h8_0_4 h8_0_5 x) (roundK s_l02Echelon_l8_L.kp s_l02Echelon_l8_L.kx c) = (s_l02Echelon_l8 h8_0_1 h8_0_4 x).run (roundR (s_l02Echelon_l8_mk h8_0_0 h8_0_1 h8_0_4 h8_0_5) (s_l02Echelon_l8_out h8_0_0 h8_0_1 h8_0_4 h8_0_5) c) := fun _ _ _ _ _ _ => by
  kernel_rfl
theorem s_l02Echelon_l8_ok : LoopOK s_l02Echelon_V s_l02Echelon_A (loopAt s_l02Echelon_b 1) s_l02Echelon_l8_L := loopOK_of fun s e s' h => by
  generalize hs : restrict s_l02Echelon_l8_L.kp s = s1 at h
  have h : (s_l02Echelon_l8_D s1).run some = some (e, s') := h
  obtain ⟨d2, e1, h_0⟩ := asImmZ_spec h
  obtain ⟨e3, h_1⟩ := asRef_spec h_0
  obtain ⟨e4, h_2⟩ := asRef_spec h_1
  obtain ⟨d6, e5, h_3⟩ := asImmZ_spec h_2
  obtain ⟨d8, e7, h_4⟩ := asImmZ_spec h_3
  obtain ⟨d10, e9, h_5⟩ := asImmZ_spec h_4
  obtain ⟨m12, d13, e11, h_6⟩ := asRoot_spec h_5
  obtain ⟨rfl, h_7⟩ := asM_spec h_6
  obtain ⟨m15, d16, e14, h_8⟩ := asRoot_spec h_7
  obtain ⟨rfl, h_9⟩ := asM_spec h_8
  obtain ⟨y, hy, hz⟩ := mat_ret h_9
  refine ⟨_, _, s_l02Echelon_l8_mk d2 d6 d13 d16, s_l02Echelon_l8_out d2 d6 d13 d16, s_l02Echelon_l8 d6 d13, (d8, d10), y, ?_, hy, ?_, s_l02Echelon_l8_step d2 d6 d13 d16⟩
  · subst hs; exact restrict_eq (T := [(0, (.imm true (.int .i64) d2)), (5, (.ref (7, 0) [])), (6, (.ref (8, 0) [])), (7, (.imm true (.int .i64) d6)), (8, (.imm true (.int .i64) d8)), (9, (.imm true (.int .i64) d10))]) (U := [((7, 0), some ⟨false, (.sl (.int .i64)), .own, d13⟩), ((8, 0), some ⟨false, (.sl (.int .i64)), .own, d16⟩)]) rfl rfl ⟨e1, e3, e4, e5, e7, e9, trivial⟩ ⟨e11, e14, trivial⟩
  · exact Option.some.inj hz
set_option maxRecDepth 100000 in
theorem s_l02Echelon_l16_step : ∀ (h16_0_0 : Int) (h16_0_1 : Int) (h16_0_2 : Int) (h16_0_5 : (List Int)) (x : (Int × (List Int))) (c : St → Option (Ex × St)), den s_l02Echelon_V s_l02Echelon_A (loopAt s_l02Echelon_b 2) (s_l02Echelon_l16_mk h16_0_0 h16_0_1 h16_0_2 h16_0_5 x) (roundK s_l02Echelon_l16_L.kp s_l02Echelon_l16_L.kx c) = (s_l02Echelon_l16 h16_0_1 h16_0_2 x).run (roundR (s_l02Echelon_l16_mk h16_0_0 h16_0_1 h16_0_2 h16_0_5) (s_l02Echelon_l16_out h16_0_0 h16_0_1 h16_0_2 h16_0_5) c) := fun _ _ _ _ _ _ => by
  kernel_rfl
theorem s_l02Echelon_l16_ok : LoopOK s_l02Echelon_V s_l02Echelon_A (loopAt s_l02Echelon_b 2) s_l02Echelon_l16_L := loopOK_of fun s e s' h => by
  generalize hs : restrict s_l02Echelon_l16_L.kp s = s1 at h
  have h : (s_l02Echelon_l16_D s1).run some = some (e, s') := h
  obtain ⟨d2, e1, h_0⟩ := asImmZ_spec h
  obtain ⟨e3, h_1⟩ := asRef_spec h_0
  obtain ⟨e4, h_2⟩ := asRef_spec h_1
  obtain ⟨d6, e5, h_3⟩ := asImmZ_spec h_2
  obtain ⟨d8, e7, h_4⟩ := asImmZ_spec h_3
  obtain ⟨d10, e9, h_5⟩ := asImmZ_spec h_4
  obtain ⟨m12, d13, e11, h_6⟩ := asRoot_spec h_5
  obtain ⟨rfl, h_7⟩ := asM_spec h_6
  obtain ⟨m15, d16, e14, h_8⟩ := asRoot_spec h_7
  obtain ⟨rfl, h_9⟩ := asM_spec h_8
  obtain ⟨y, hy, hz⟩ := mat_ret h_9
  refine ⟨_, _, s_l02Echelon_l16_mk d2 d6 d8 d16, s_l02Echelon_l16_out d2 d6 d8 d16, s_l02Echelon_l16 d6 d8, (d10, d13), y, ?_, hy, ?_, s_l02Echelon_l16_step d2 d6 d8 d16⟩
  · subst hs; exact restrict_eq (T := [(0, (.imm true (.int .i64) d2)), (5, (.ref (7, 0) [])), (6, (.ref (8, 0) [])), (7, (.imm true (.int .i64) d6)), (10, (.imm true (.int .i64) d8)), (11, (.imm true (.int .i64) d10))]) (U := [((7, 0), some ⟨false, (.sl (.int .i64)), .own, d13⟩), ((8, 0), some ⟨false, (.sl (.int .i64)), .own, d16⟩)]) rfl rfl ⟨e1, e3, e4, e5, e7, e9, trivial⟩ ⟨e11, e14, trivial⟩
  · exact Option.some.inj hz
set_option maxRecDepth 100000 in
theorem s_l02Echelon_l21_step : ∀ (h21_0_0 : Int) (h21_0_1 : Int) (h21_0_2 : Int) (h21_0_4 : (List Int)) (x : (Int × (List Int))) (c : St → Option (Ex × St)), den s_l02Echelon_V s_l02Echelon_A (loopAt s_l02Echelon_b 3) (s_l02Echelon_l21_mk h21_0_0 h21_0_1 h21_0_2 h21_0_4 x) (roundK s_l02Echelon_l21_L.kp s_l02Echelon_l21_L.kx c) = (s_l02Echelon_l21 h21_0_1 h21_0_2 x).run (roundR (s_l02Echelon_l21_mk h21_0_0 h21_0_1 h21_0_2 h21_0_4) (s_l02Echelon_l21_out h21_0_0 h21_0_1 h21_0_2 h21_0_4) c) := fun _ _ _ _ _ _ => by
  kernel_rfl
theorem s_l02Echelon_l21_ok : LoopOK s_l02Echelon_V s_l02Echelon_A (loopAt s_l02Echelon_b 3) s_l02Echelon_l21_L := loopOK_of fun s e s' h => by
  generalize hs : restrict s_l02Echelon_l21_L.kp s = s1 at h
  have h : (s_l02Echelon_l21_D s1).run some = some (e, s') := h
  obtain ⟨d2, e1, h_0⟩ := asImmZ_spec h
  obtain ⟨e3, h_1⟩ := asRef_spec h_0
  obtain ⟨e4, h_2⟩ := asRef_spec h_1
  obtain ⟨d6, e5, h_3⟩ := asImmZ_spec h_2
  obtain ⟨d8, e7, h_4⟩ := asImmZ_spec h_3
  obtain ⟨d10, e9, h_5⟩ := asImmZ_spec h_4
  obtain ⟨m12, d13, e11, h_6⟩ := asRoot_spec h_5
  obtain ⟨rfl, h_7⟩ := asM_spec h_6
  obtain ⟨m15, d16, e14, h_8⟩ := asRoot_spec h_7
  obtain ⟨rfl, h_9⟩ := asM_spec h_8
  obtain ⟨y, hy, hz⟩ := mat_ret h_9
  refine ⟨_, _, s_l02Echelon_l21_mk d2 d6 d8 d13, s_l02Echelon_l21_out d2 d6 d8 d13, s_l02Echelon_l21 d6 d8, (d10, d16), y, ?_, hy, ?_, s_l02Echelon_l21_step d2 d6 d8 d13⟩
  · subst hs; exact restrict_eq (T := [(0, (.imm true (.int .i64) d2)), (5, (.ref (7, 0) [])), (6, (.ref (8, 0) [])), (7, (.imm true (.int .i64) d6)), (10, (.imm true (.int .i64) d8)), (12, (.imm true (.int .i64) d10))]) (U := [((7, 0), some ⟨false, (.sl (.int .i64)), .own, d13⟩), ((8, 0), some ⟨false, (.sl (.int .i64)), .own, d16⟩)]) rfl rfl ⟨e1, e3, e4, e5, e7, e9, trivial⟩ ⟨e11, e14, trivial⟩
  · exact Option.some.inj hz
set_option maxRecDepth 100000 in
theorem s_l02Echelon_l4_step : ∀ (h4_0_0 : Int) (x : (Int × (List Int) × (List Int))) (c : St → Option (Ex × St)), den s_l02Echelon_V s_l02Echelon_A (loopAt s_l02Echelon_b 0) (s_l02Echelon_l4_mk h4_0_0 x) (roundK s_l02Echelon_l4_L.kp s_l02Echelon_l4_L.kx c) = (s_l02Echelon_l4 h4_0_0 x).run (roundR (s_l02Echelon_l4_mk h4_0_0) (s_l02Echelon_l4_out h4_0_0) c) := fun _ _ _ => by
  kernel_rfl
theorem s_l02Echelon_l4_ok : LoopOK s_l02Echelon_V s_l02Echelon_A (loopAt s_l02Echelon_b 0) s_l02Echelon_l4_L := loopOK_of fun s e s' h => by
  generalize hs : restrict s_l02Echelon_l4_L.kp s = s1 at h
  have h : (s_l02Echelon_l4_D s1).run some = some (e, s') := h
  obtain ⟨d2, e1, h_0⟩ := asImmZ_spec h
  obtain ⟨e3, h_1⟩ := asRef_spec h_0
  obtain ⟨e4, h_2⟩ := asRef_spec h_1
  obtain ⟨d6, e5, h_3⟩ := asImmZ_spec h_2
  obtain ⟨m8, d9, e7, h_4⟩ := asRoot_spec h_3
  obtain ⟨rfl, h_5⟩ := asM_spec h_4
  obtain ⟨m11, d12, e10, h_6⟩ := asRoot_spec h_5
  obtain ⟨rfl, h_7⟩ := asM_spec h_6
  obtain ⟨y, hy, hz⟩ := mat_ret h_7
  refine ⟨_, _, s_l02Echelon_l4_mk d2, s_l02Echelon_l4_out d2, s_l02Echelon_l4 d2, (d6, d9, d12), y, ?_, hy, ?_, s_l02Echelon_l4_step d2⟩
  · subst hs; exact restrict_eq (T := [(0, (.imm true (.int .i64) d2)), (5, (.ref (7, 0) [])), (6, (.ref (8, 0) [])), (7, (.imm true (.int .i64) d6))]) (U := [((7, 0), some ⟨false, (.sl (.int .i64)), .own, d9⟩), ((8, 0), some ⟨false, (.sl (.int .i64)), .own, d12⟩)]) rfl rfl ⟨e1, e3, e4, e5, trivial⟩ ⟨e7, e10, trivial⟩
  · exact Option.some.inj hz
noncomputable def s_l02Echelon_I : FnI := ⟨s_l02Echelon_b, Try.f49.results.toList, Try.f49.resultTypes.toList, s_l02Echelon_A⟩
noncomputable def s_l02Echelon_out (_zp0 : Bool) (_p0 : Int) (_p1 : (List Int)) : (List Int) → CallOut := fun r => ⟨(.ref (1, 0) []), [], [⟨false, (.sl (.int .i64)), .own, r⟩]⟩
set_option maxRecDepth 100000 in
theorem s_l02Echelon_eq : ∀ (zp0 : Bool) (p0 : Int) (p1 : (List Int)), denFn s_l02Echelon_V s_l02Echelon_I ⟨[(.imm true (.int .i64) p0), (.imm zp0 (.sl (.int .i64)) p1)], []⟩ = (s_l02Echelon p0 p1).run fun r => some (s_l02Echelon_out zp0 p0 p1 r) := fun _ _ _ => by kernel_rfl
noncomputable def s_l02Echelon_G (av : List AV) (rs : List Root) : Tre CallOut :=
  asCons av fun a0_ av0 =>
  asCons av0 fun a1_ av1 =>
  asEnd av1 <|
  asEnd rs <|
  asImmZ true (.int .i64) a0_ fun d1 =>
  asImm (.sl (.int .i64)) a1_ fun z3 d2 =>
  .mat (echB d1 d2) fun r => .ret (s_l02Echelon_out z3 d1 d2 r)
noncomputable def s_l02Echelon_c : Ctr := ⟨[], fun ci => s_l02Echelon_G ci.args ci.roots⟩
theorem s_l02Echelon_env : EnvOK Try.prog s_l02Echelon_V := (envOK_cons s_l00Own_ok ent52 (envOK_cons s_l02Bit_ok ent48 envOK_nil))
set_option maxRecDepth 100000 in
theorem s_l02Echelon_ok : Contract Try.prog 49 s_l02Echelon_c := by
  have hl : LoopsOK s_l02Echelon_V s_l02Echelon_A s_l02Echelon_b := (loopsOK_all (n := 4) (by kernel_rfl) fun k hk => by
      match k, hk with
      | 0, _ => exact loopOK_at (id := 4) (L := s_l02Echelon_l4_L) (by kernel_rfl) (by kernel_rfl) s_l02Echelon_l4_ok
      | 1, _ => exact loopOK_at (id := 8) (L := s_l02Echelon_l8_L) (by kernel_rfl) (by kernel_rfl) s_l02Echelon_l8_ok
      | 2, _ => exact loopOK_at (id := 16) (L := s_l02Echelon_l16_L) (by kernel_rfl) (by kernel_rfl) s_l02Echelon_l16_ok
      | 3, _ => exact loopOK_at (id := 21) (L := s_l02Echelon_l21_L) (by kernel_rfl) (by kernel_rfl) s_l02Echelon_l21_ok)
  refine (contract_of (F := s_l02Echelon_I) tau_tys s_l02Echelon_env Try.func49 (by kernel_rfl) (by kernel_rfl) (by kernel_rfl) hl []).weaken ?_
  rintro ⟨av, rs⟩ co h
  have h : (s_l02Echelon_G av rs).run some = some co := h
  obtain ⟨a0_, av0, rfl, h_0⟩ := asCons_spec h
  obtain ⟨a1_, av1, rfl, h_1⟩ := asCons_spec h_0
  obtain ⟨rfl, h_2⟩ := asEnd_spec h_1
  obtain ⟨rfl, h_3⟩ := asEnd_spec h_2
  obtain ⟨d1, rfl, h_4⟩ := asImmZ_spec h_3
  obtain ⟨z3, d2, rfl, h_5⟩ := asImm_spec h_4
  exact fin_opt (s_l02Echelon_eq z3 d1 d2) (s_l02Echelon_spec d1 d2) h_5

end Go.Proofs.Ytadgapcpogmpcaa

namespace Go.Proofs.Ytadgapcpogmpcaa
open Go Go.Abs Go.Proofs

/-! function 44: loop.example/g01144/spec.l02Rank -/
noncomputable def s_l02Rank (p0 : Int) (p1 : (List Int)) : Tre Int :=
  .mat (echB p0 p1) fun r1 =>
  .ret (r1.length : Int)
noncomputable def s_l02Rank_F (p0 : Int) (p1 : (List Int)) : Option Int := (s_l02Rank p0 p1).run some
/-- the rank of rows of so many places -/
noncomputable def rankR (m : Int) (xs : List Int) : Option Int := askO (inR m 0 62 && okRows m.toNat xs) ((echI xs).length : Int)
theorem s_l02Rank_spec (p0 : Int) (p1 : List Int) (y : Int) (h : rankR p0 p1 = some y) : s_l02Rank_F p0 p1 = some y := by
  obtain ⟨hl, rfl⟩ := askO_some h
  unfold s_l02Rank_F s_l02Rank
  rw [run_some_mat (show echB p0 p1 = some _ from askO_true hl)]
  rfl

noncomputable def s_l02Rank_V : Env := ⟨tau, [(49, s_l02Echelon_c)]⟩
noncomputable def s_l02Rank_b : Code := (Try.f44.body).getD .skip
noncomputable def s_l02Rank_I : FnI := ⟨s_l02Rank_b, Try.f44.results.toList, Try.f44.resultTypes.toList, []⟩
noncomputable def s_l02Rank_out (_zp0 : Bool) (_p0 : Int) (_p1 : (List Int)) : Int → CallOut := fun r => ⟨(.imm true (.int .i64) r), [], []⟩
set_option maxRecDepth 100000 in
theorem s_l02Rank_eq : ∀ (zp0 : Bool) (p0 : Int) (p1 : (List Int)), denFn s_l02Rank_V s_l02Rank_I ⟨[(.imm true (.int .i64) p0), (.imm zp0 (.sl (.int .i64)) p1)], []⟩ = (s_l02Rank p0 p1).run fun r => some (s_l02Rank_out zp0 p0 p1 r) := fun _ _ _ => by kernel_rfl
noncomputable def s_l02Rank_G (av : List AV) (rs : List Root) : Tre CallOut :=
  asCons av fun a0_ av0 =>
  asCons av0 fun a1_ av1 =>
  asEnd av1 <|
  asEnd rs <|
  asImmZ true (.int .i64) a0_ fun d1 =>
  asImm (.sl (.int .i64)) a1_ fun z3 d2 =>
  .mat (rankR d1 d2) fun r => .ret (s_l02Rank_out z3 d1 d2 r)
noncomputable def s_l02Rank_c : Ctr := ⟨[], fun ci => s_l02Rank_G ci.args ci.roots⟩
theorem s_l02Rank_env : EnvOK Try.prog s_l02Rank_V := (envOK_cons s_l02Echelon_ok ent49 envOK_nil)
set_option maxRecDepth 100000 in
theorem s_l02Rank_ok : Contract Try.prog 44 s_l02Rank_c := by
  have hl : LoopsOK s_l02Rank_V [] s_l02Rank_b := loopsOK_nil (by kernel_rfl)
  refine (contract_of (F := s_l02Rank_I) tau_tys s_l02Rank_env Try.func44 (by kernel_rfl) (by kernel_rfl) (by kernel_rfl) hl []).weaken ?_
  rintro ⟨av, rs⟩ co h
  have h : (s_l02Rank_G av rs).run some = some co := h
  obtain ⟨a0_, av0, rfl, h_0⟩ := asCons_spec h
  obtain ⟨a1_, av1, rfl, h_1⟩ := asCons_spec h_0
  obtain ⟨rfl, h_2⟩ := asEnd_spec h_1
  obtain ⟨rfl, h_3⟩ := asEnd_spec h_2
  obtain ⟨d1, rfl, h_4⟩ := asImmZ_spec h_3
  obtain ⟨z3, d2, rfl, h_5⟩ := asImm_spec h_4
  exact fin_opt (s_l02Rank_eq z3 d1 d2) (s_l02Rank_spec d1 d2) h_5

end Go.Proofs.Ytadgapcpogmpcaa

namespace Go.Proofs.Ytadgapcpogmpcaa
open Go Go.Abs Go.Proofs

/-! function 35: loop.example/g01144/spec.l08Missed -/
noncomputable def s_l08Missed_5e37_l3 (h3_0_0 : (List Int)) (h3_0_1 : (List Int)) (h3_0_3 : (Int × (Int × ((List Int) × (Int × (Int × Unit)))))) : (Int × (List Int)) → Tre ((Int × (List Int)) ⊕ (List Int)) := fun s3 =>
  .cond (decide (s3.1 < (h3_0_0.length : Int)))
    (.ite (0 ≤ s3.1 ∧ s3.1 < (h3_0_0.length : Int)) <|
    .mat (h3_0_0[s3.1.toNat]?) fun x1 =>
    .ite (0 ≤ iwrap .u64 h3_0_3.1) <|
    let v2 := ishl .i64 1 (iwrap .u64 h3_0_3.1)
    let v3 := iand .i64 x1 (iwrap .i64 (v2 - 1))
    .ite (0 ≤ s3.1 ∧ s3.1 < (h3_0_0.length : Int)) <|
    .mat (h3_0_0[s3.1.toNat]?) fun x4 =>
    .ite (0 ≤ iwrap .u64 h3_0_3.1) <|
    let v5 := ishr .i64 x4 (iwrap .u64 h3_0_3.1)
    .mat (timesR v3 h3_0_1) fun r6 =>
    .ite ((s3.2.length + 1) * 8 ≤ appendMax ∧ 1 ≤ 8) <|
    let v7 := s3.2 ++ ([ixor .i64 v5 r6])
    .ret (.inl (iwrap .i64 (s3.1 + 1), v7)))
    (.ret (.inr s3.2))
noncomputable def s_l08Missed_5e37 (p0 : (List Int)) (p1 : (List Int)) (p2 : (Int × (Int × ((List Int) × (Int × (Int × Unit)))))) : Tre Int :=
  .mat (loopF (s_l08Missed_5e37_l3 p0 p1 p2) (0, [])) fun l8 =>
  .mat (rankR p2.2.1 l8) fun r9 =>
  .ret r9
noncomputable def s_l08Missed_5e37_F (p0 : (List Int)) (p1 : (List Int)) (p2 : (Int × (Int × ((List Int) × (Int × (Int × Unit)))))) : Option Int := (s_l08Missed_5e37 p0 p1 p2).run some
/-- what a packet misses -/
def missW (g : Int × Int × List Int × Int × Int × Unit) (ds : List Int) (x : Int) : Int := ixor .i64 (ishr .i64 x g.1) (timesL (iand .i64 x (top1 g.1)) ds)
/-- … of a station: the packets and the data are right ones -/
def okM (ps ds : List Int) (g : Int × Int × List Int × Int × Int × Unit) : Bool := inR g.1 1 4 && inR g.2.1 1 6 && decide (ps.length ≤ 1048576) && decide (ds.length ≤ 1048576) && ps.all (inP (g.1 + g.2.1)) && ds.all (inP g.2.1)
noncomputable def missN (ps ds : List Int) (g : Int × Int × List Int × Int × Int × Unit) : Int := (echI (ps.map (missW g ds))).length
noncomputable def missR (ps ds : List Int) (g : Int × Int × List Int × Int × Int × Unit) : Option Int := askO (okM ps ds g) (missN ps ds g)
theorem top1_def (m : Int) : iwrap .i64 (ishl .i64 1 m - 1) = top1 m := rfl
theorem foldE_map (f : Int → Int) : ∀ (l : List Int) (i : Nat) (acc : List Int), foldE (β := List Int) (fun _ acc x => .inl (acc ++ [f x])) id i acc l = acc ++ l.map f := by
  intro l
  induction l with
  | nil => intro i acc; simp [foldE]
  | cons x l ih => intro i acc; simp only [foldE]; rw [ih]; simp
theorem missW_ok {ps ds : List Int} {g : Int × Int × List Int × Int × Int × Unit} (h : okM ps ds g = true) : okRows g.2.1.toNat (ps.map (missW g ds)) = true ∧ okRows 62 (ps.map (missW g ds)) = true := by
  unfold okM at h
  simp only [Bool.and_eq_true, decide_eq_true_eq, inR_iff] at h
  obtain ⟨⟨⟨⟨⟨hk, hm⟩, hl1⟩, hl2⟩, hps⟩, hds⟩ := h
  obtain ⟨k, hk'⟩ : ∃ k : Nat, g.1 = (k : Int) := ⟨g.1.toNat, by omega⟩
  obtain ⟨m, hm'⟩ : ∃ m : Nat, g.2.1 = (m : Int) := ⟨g.2.1.toNat, by omega⟩
  have hdn : okRows m ds = true := by
    unfold okRows
    simp only [Bool.and_eq_true, decide_eq_true_eq, List.all_eq_true]
    refine ⟨hl2, fun x hx => ?_⟩
    obtain ⟨n, rfl, hn⟩ := inP_nat (m := m) (by omega) (by rw [← hm']; exact List.all_eq_true.1 hds x hx)
    omega
  obtain ⟨dn, rfl, _, hdb, _⟩ := okRows_up hdn
  have key : ∀ x ∈ ps, ∃ t : Nat, missW g (up dn) x = (t : Int) ∧ t < 2 ^ m := by
    intro x hx
    have h1 := List.all_eq_true.1 hps x hx
    rw [hk', hm', ← Int.natCast_add] at h1
    obtain ⟨n, rfl, hn⟩ := inP_nat (by omega) h1
    obtain ⟨t, ht, htb⟩ := timesL_nat (iand .i64 (n : Int) (top1 g.1)) (b := m) (by omega) dn 0 0 (Nat.two_pow_pos m) hdb
    have ht : timesL (iand .i64 (n : Int) (top1 g.1)) (up dn) = (t : Int) := ht
    have hs : n >>> k < 2 ^ m := by
      rw [Nat.shiftRight_eq_div_pow]
      refine Nat.div_lt_of_lt_mul ?_
      rw [← Nat.pow_add]
      exact hn
    have hm62 := pow_le (show m ≤ 62 by omega)
    refine ⟨(n >>> k) ^^^ t, ?_, Nat.xor_lt_two_pow hs htb⟩
    unfold missW
    rw [ht, hk', ishr_nat (by omega), ixor_nat (by omega) (by omega)]
  have h2 : ∀ b, m ≤ b → okRows b (ps.map (missW g (up dn))) = true := by
    intro b hb
    have := pow_le hb
    unfold okRows
    simp only [Bool.and_eq_true, decide_eq_true_eq, List.all_eq_true, List.length_map]
    refine ⟨hl1, fun x hx => ?_⟩
    obtain ⟨y, hy, rfl⟩ := List.mem_map.1 hx
    obtain ⟨t, ht, htb⟩ := key y hy
    rw [ht]
    omega
  rw [hm', Int.toNat_natCast]
  exact ⟨h2 m (Nat.le_refl m), h2 62 (by omega)⟩
theorem s_l08Missed_5e37_spec (p0 p1 : List Int) (p2 : Int × Int × List Int × Int × Int × Unit) (y : Int) (h : missR p0 p1 p2 = some y) : s_l08Missed_5e37_F p0 p1 p2 = some y := by
  obtain ⟨hok, rfl⟩ := askO_some h
  have hr := (missW_ok hok).1
  unfold okM at hok
  simp only [Bool.and_eq_true, decide_eq_true_eq, inR_iff] at hok
  obtain ⟨⟨⟨⟨⟨hk, hm⟩, hl1⟩, hl2⟩, hps⟩, hds⟩ := hok
  unfold s_l08Missed_5e37_F s_l08Missed_5e37
  have hu : iwrap .u64 p2.1 = p2.1 := iwrap_u64 (by omega) (by omega)
  have := fold_loop (xs := p0) (step := s_l08Missed_5e37_l3 p0 p1 p2) (fun i acc => ((i : Int), acc)) (fun _ acc x => .inl (acc ++ [missW p2 p1 x])) id (fun i acc => acc.length = i) (by
    intro i acc x hx hI
    have hi : i < p0.length := (List.getElem?_eq_some_iff.1 hx).1
    refine ⟨?_, fun a ha => by cases ha; simp [hI]⟩
    unfold s_l08Missed_5e37_l3
    rw [run_inb hx, hu, Tre.run_ite, if_pos (by omega)]
    dsimp only
    rw [run_at hx, Tre.run_ite, if_pos (by omega)]
    rw [top1_def, run_some_mat (show timesR (iand .i64 x (top1 p2.1)) p1 = some _ from lim_of hl2), Tre.run_ite, if_pos (by unfold appendMax; omega), Tre.run_ret, iwrap_succ (by omega)]
    rfl)
    (by
    intro acc _
    unfold s_l08Missed_5e37_l3
    exact run_out) p0 0 [] rfl (Nat.zero_le _) rfl
  rw [foldE_map] at this
  have h1 : loopF (s_l08Missed_5e37_l3 p0 p1 p2) (0, []) = some (p0.map (missW p2 p1)) := this
  rw [run_some_mat h1, run_some_mat (show rankR p2.2.1 (p0.map (missW p2 p1)) = some _ from askO_true (by rw [Bool.and_eq_true, inR_iff]; exact ⟨by omega, hr⟩))]
  rfl

noncomputable def s_l08Missed_5e37_V : Env := ⟨tau, [(43, s_l02Times_c), (44, s_l02Rank_c)]⟩
noncomputable def s_l08Missed_5e37_b : Code := (Try.f35.body).getD .skip
noncomputable def s_l08Missed_5e37_l3_mk (z3_0 : Bool) (z3_1 : Bool) (z3_2 : Bool) (h3_0_0 : (List Int)) (h3_0_1 : (List Int)) (h3_0_3 : (Int × (Int × ((List Int) × (Int × (Int × Unit)))))) : (Int × (List Int)) → St := fun x => stOf [(0, (.ptr (0, 0) [])), (1, (.imm z3_0 (.sl (.int .i64)) h3_0_0)), (2, (.imm z3_1 (.sl (.int .i64)) h3_0_1)), (7, (.ref (9, 0) [])), (8, (.imm true (.int .i64) x.1))] [((0, 0), some ⟨true, kGather, (.imm z3_2), h3_0_3⟩), ((9, 0), some ⟨false, (.sl (.int .i64)), .own, x.2⟩)]
noncomputable def s_l08Missed_5e37_l3_out (_z3_0 : Bool) (_z3_1 : Bool) (z3_2 : Bool) (_h3_0_0 : (List Int)) (_h3_0_1 : (List Int)) (h3_0_3 : (Int × (Int × ((List Int) × (Int × (Int × Unit)))))) : (List Int) → Ex × St := fun x => (.exit 0, stOf [(0, (.ptr (0, 0) [])), (7, (.ref (9, 0) []))] [((0, 0), some ⟨true, kGather, (.imm z3_2), h3_0_3⟩), ((9, 0), some ⟨false, (.sl (.int .i64)), .own, x⟩)])
noncomputable def s_l08Missed_5e37_l3_D (s : St) : Tre (Ex × St) :=
  asPtr (0, 0) [] (s.tmps 0) <|
  asImm (.sl (.int .i64)) (s.tmps 1) fun z4 d3 =>
  asImm (.sl (.int .i64)) (s.tmps 2) fun z7 d6 =>
  asRef (9, 0) [] (s.tmps 7) <|
  asImmZ true (.int .i64) (s.tmps 8) fun d10 =>
  asRoot true kGather (s.roots (0, 0)) fun m12 d13 =>
  asMImm m12 fun z14 =>
  asRoot false (.sl (.int .i64)) (s.roots (9, 0)) fun m16 d17 =>
  asM .own m16 <|
  .mat (loopF (s_l08Missed_5e37_l3 d3 d6 d13) (d10, d17)) fun x => .ret (s_l08Missed_5e37_l3_out z4 z7 z14 d3 d6 d13 x)
noncomputable def s_l08Missed_5e37_l3_L : LoopI := ⟨([0, 1, 2, 7, 8], [(0, 0), (9, 0)]), ([0, 7], [(0, 0), (9, 0)]), s_l08Missed_5e37_l3_D⟩
noncomputable def s_l08Missed_5e37_A : List (Nat × LoopI) := [(3, s_l08Missed_5e37_l3_L)]
set_option maxRecDepth 100000 in
theorem s_l08Missed_5e37_l3_step : ∀ (z3_0 : Bool) (z3_1 : Bool) (z3_2 : Bool) (h3_0_0 : (List Int)) (h3_0_1 : (List Int)) (h3_0_3 : (Int × (Int × ((List Int) × (Int × (Int × Unit)))))) (x : (Int × (List Int))) (c : St → Option (Ex × St)), den s_l08Missed_5e37_V s_l08Missed_5e37_A (loopAt s_l08Missed_5e37_b 0) (s_l08Missed_5e37_l3_mk z3_0 z3_1 z3_2 h3_0_0 h3_0_1 h3_0_3 x) (roundK s_l08Missed_5e37_l3_L.kp s_l08Missed_5e37_l3_L.kx c) = (s_l08Missed_5e37_l3 h3_0_0 h3_0_1 h3_0_3 x).run (roundR (s_l08Missed_5e37_l3_mk z3_0 z3_1 z3_2 h3_0_0 h3_0_1 h3_0_3) (s_l08Missed_5e37_l3_out z3_0 z3_1 z3_2 h3_0_0 h3_0_1 h3_0_3) c) := fun _ _ _ _ _ _ _ _ => by
  kernel_rfl
theorem s_l08Missed_5e37_l3_ok : LoopOK s_l08Missed_5e37_V s_l08Missed_5e37_A (loopAt s_l08Missed_5e37_b 0) s_l08Missed_5e37_l3_L := loopOK_of fun s e s' h => by
  generalize hs : restrict s_l08Missed_5e37_l3_L.kp s = s1 at h
  have h : (s_l08Missed_5e37_l3_D s1).run some = some (e, s') := h
  obtain ⟨e1, h_0⟩ := asPtr_spec h
  obtain ⟨z4, d3, e2, h_1⟩ := asImm_spec h_0
  obtain ⟨z7, d6, e5, h_2⟩ := asImm_spec h_1
  obtain ⟨e8, h_3⟩ := asRef_spec h_2
  obtain ⟨d10, e9, h_4⟩ := asImmZ_spec h_3
  obtain ⟨m12, d13, e11, h_5⟩ := asRoot_spec h_4
  obtain ⟨z14, rfl, h_6⟩ := asMImm_spec h_5
  obtain ⟨m16, d17, e15, h_7⟩ := asRoot_spec h_6
  obtain ⟨rfl, h_8⟩ := asM_spec h_7
  obtain ⟨y, hy, hz⟩ := mat_ret h_8
  refine ⟨_, _, s_l08Missed_5e37_l3_mk z4 z7 z14 d3 d6 d13, s_l08Missed_5e37_l3_out z4 z7 z14 d3 d6 d13, s_l08Missed_5e37_l3 d3 d6 d13, (d10, d17), y, ?_, hy, ?_, s_l08Missed_5e37_l3_step z4 z7 z14 d3 d6 d13⟩
  · subst hs; exact restrict_eq (T := [(0, (.ptr (0, 0) [])), (1, (.imm z4 (.sl (.int .i64)) d3)), (2, (.imm z7 (.sl (.int .i64)) d6)), (7, (.ref (9, 0) [])), (8, (.imm true (.int .i64) d10))]) (U := [((0, 0), some ⟨true, kGather, (.imm z14), d13⟩), ((9, 0), some ⟨false, (.sl (.int .i64)), .own, d17⟩)]) rfl rfl ⟨e1, e2, e5, e8, e9, trivial⟩ ⟨e11, e15, trivial⟩
  · exact Option.some.inj hz
noncomputable def s_l08Missed_5e37_I : FnI := ⟨s_l08Missed_5e37_b, Try.f35.results.toList, Try.f35.resultTypes.toList, s_l08Missed_5e37_A⟩
noncomputable def s_l08Missed_5e37_out (_zp0 : Bool) (_zp1 : Bool) (zp2 : Bool) (_p0 : (List Int)) (_p1 : (List Int)) (p2 : (Int × (Int × ((List Int) × (Int × (Int × Unit)))))) : Int → CallOut := fun r => ⟨(.imm true (.int .i64) r), [⟨true, kGather, (.imm zp2), p2⟩], []⟩
set_option maxRecDepth 100000 in
theorem s_l08Missed_5e37_eq : ∀ (zp0 : Bool) (zp1 : Bool) (zp2 : Bool) (p0 : (List Int)) (p1 : (List Int)) (p2 : (Int × (Int × ((List Int) × (Int × (Int × Unit)))))), denFn s_l08Missed_5e37_V s_l08Missed_5e37_I ⟨[(.ptr (0, 0) []), (.imm zp0 (.sl (.int .i64)) p0), (.imm zp1 (.sl (.int .i64)) p1)], [⟨true, kGather, (.imm zp2), p2⟩]⟩ = (s_l08Missed_5e37 p0 p1 p2).run fun r => some (s_l08Missed_5e37_out zp0 zp1 zp2 p0 p1 p2 r) := fun _ _ _ _ _ _ => by kernel_rfl
noncomputable def s_l08Missed_5e37_G (av : List AV) (rs : List Root) : Tre CallOut :=
  asCons av fun a0_ av0 =>
  asCons av0 fun a1_ av1 =>
  asCons av1 fun a2_ av2 =>
  asEnd av2 <|
  asCons rs fun r0_ rs0 =>
  asEnd rs0 <|
  asPtr (0, 0) [] a0_ <|
  asImm (.sl (.int .i64)) a1_ fun z2 d1 =>
  asImm (.sl (.int .i64)) a2_ fun z4 d3 =>
  asRt true kGather r0_ fun m5 d6 =>
  asMImm m5 fun z7 =>
  .mat (missR d1 d3 d6) fun r => .ret (s_l08Missed_5e37_out z2 z4 z7 d1 d3 d6 r)
noncomputable def s_l08Missed_5e37_c : Ctr := ⟨[], fun ci => s_l08Missed_5e37_G ci.args ci.roots⟩
theorem s_l08Missed_5e37_env : EnvOK Try.prog s_l08Missed_5e37_V := (envOK_cons s_l02Times_ok ent43 (envOK_cons s_l02Rank_ok ent44 envOK_nil))
set_option maxRecDepth 100000 in
theorem s_l08Missed_5e37_ok : Contract Try.prog 35 s_l08Missed_5e37_c := by
  have hl : LoopsOK s_l08Missed_5e37_V s_l08Missed_5e37_A s_l08Missed_5e37_b := (loopsOK_all (n := 1) (by kernel_rfl) fun k hk => by
      match k, hk with
      | 0, _ => exact loopOK_at (id := 3) (L := s_l08Missed_5e37_l3_L) (by kernel_rfl) (by kernel_rfl) s_l08Missed_5e37_l3_ok)
  refine (contract_of (F := s_l08Missed_5e37_I) tau_tys s_l08Missed_5e37_env Try.func35 (by kernel_rfl) (by kernel_rfl) (by kernel_rfl) hl []).weaken ?_
  rintro ⟨av, rs⟩ co h
  have h : (s_l08Missed_5e37_G av rs).run some = some co := h
  obtain ⟨a0_, av0, rfl, h_0⟩ := asCons_spec h
  obtain ⟨a1_, av1, rfl, h_1⟩ := asCons_spec h_0
  obtain ⟨a2_, av2, rfl, h_2⟩ := asCons_spec h_1
  obtain ⟨rfl, h_3⟩ := asEnd_spec h_2
  obtain ⟨r0_, rs0, rfl, h_4⟩ := asCons_spec h_3
  obtain ⟨rfl, h_5⟩ := asEnd_spec h_4
  obtain ⟨rfl, h_6⟩ := asPtr_spec h_5
  obtain ⟨z2, d1, rfl, h_7⟩ := asImm_spec h_6
  obtain ⟨z4, d3, rfl, h_8⟩ := asImm_spec h_7
  obtain ⟨m5, d6, rfl, h_9⟩ := asRt_spec h_8
  obtain ⟨z7, rfl, h_10⟩ := asMImm_spec h_9
  exact fin_opt (s_l08Missed_5e37_eq z2 z4 z7 d1 d3 d6) (s_l08Missed_5e37_spec d1 d3 d6) h_10

end Go.Proofs.Ytadgapcpogmpcaa

namespace Go.Proofs.Ytadgapcpogmpcaa
open Go Go.Abs Go.Proofs

/-! function 21: loop.example/g01144/spec.MissedBy -/
noncomputable def s_MissedBy (p0 : (Int × (Int × ((List Int) × (Int × (Int × Unit)))))) (p1 : (List Int)) (p2 : (List Int)) : Tre (Int × Int) :=
  .mat (okG p0) fun r1 =>
  .cond (!r1)
    (.ret (0, 1))
    (.cond (decide ((p1.length : Int) > 10))
      (.ret (0, 2))
      (let v2 := iwrap .u64 (s_l08Cols_9aa7_S p0)
      .ite (0 ≤ v2) <|
      .mat (belowR p1 (ishl .i64 1 v2)) fun r3 =>
      .cond (!r3)
        (.ret (0, 2))
        (.cond (!decide ((p2.length : Int) = p0.1))
          (.ret (0, 2))
          (.ite (0 ≤ iwrap .u64 p0.2.1) <|
          let v4 := ishl .i64 1 (iwrap .u64 p0.2.1)
          .mat (belowR p2 v4) fun r5 =>
          .cond (!r5)
            (.ret (0, 2))
            (.mat (missR p1 p2 p0) fun r6 =>
            .ret (r6, 0))))))
noncomputable def s_MissedBy_F (p0 : (Int × (Int × ((List Int) × (Int × (Int × Unit)))))) (p1 : (List Int)) (p2 : (List Int)) : Option (Int × Int) := (s_MissedBy p0 p1 p2).run some
/-- what a station misses, with what is wrong -/
noncomputable def missV (g : Int × Int × List Int × Int × Int × Unit) (ps ds : List Int) : Int × Int :=
  cond (isG g) (cond (decide ((ps.length : Int) > 10)) (0, 2) (cond (ps.all (inP (g.1 + g.2.1))) (cond (decide ((ds.length : Int) = g.1)) (cond (ds.all (inP g.2.1)) (missN ps ds g, 0) (0, 2)) (0, 2)) (0, 2))) (0, 1)
noncomputable def missB (g : Int × Int × List Int × Int × Int × Unit) (ps ds : List Int) : Option (Int × Int) := askO (decide (g.2.2.1.length ≤ 1048576) && decide (ps.length ≤ 1048576) && decide (ds.length ≤ 1048576)) (missV g ps ds)
theorem isG_bounds {g : Int × Int × List Int × Int × Int × Unit} (h : isG g = true) : (1 ≤ g.1 ∧ g.1 ≤ 4) ∧ 1 ≤ g.2.1 ∧ g.2.1 ≤ 6 := by
  unfold isG at h
  simp only [Bool.and_eq_true, inR_iff] at h
  exact ⟨h.1.1.1.1.1, h.1.1.1.1.2⟩
theorem s_MissedBy_spec (p0 : Int × Int × List Int × Int × Int × Unit) (p1 p2 : List Int) (y : Int × Int) (h : missB p0 p1 p2 = some y) : s_MissedBy_F p0 p1 p2 = some y := by
  obtain ⟨hok, rfl⟩ := askO_some h
  simp only [Bool.and_eq_true, decide_eq_true_eq] at hok
  obtain ⟨⟨h0, h1⟩, h2⟩ := hok
  unfold s_MissedBy_F s_MissedBy missV
  rw [run_some_mat (show okG p0 = some _ from lim_of h0), Tre.run_cond]
  cases hg : isG p0
  · rfl
  have hb := isG_bounds hg
  rw [Bool.not_true, cond_false, cond_true, Tre.run_cond]
  cases decide ((p1.length : Int) > 10)
  rotate_left
  · rfl
  have hc : s_l08Cols_9aa7_S p0 = p0.1 + p0.2.1 := by
    unfold s_l08Cols_9aa7_S
    exact iwrap_i64 (by omega) (by omega)
  rw [cond_false, cond_false, hc, iwrap_u64 (by omega) (by omega), iwrap_u64 (by omega) (by omega)]
  dsimp only
  rw [Tre.run_ite, if_pos (by omega), run_some_mat (show belowR p1 (ishl .i64 1 (p0.1 + p0.2.1)) = some (p1.all (inP (p0.1 + p0.2.1))) from lim_of h1), Tre.run_cond]
  cases hp : p1.all (inP (p0.1 + p0.2.1))
  · rfl
  rw [Bool.not_true, cond_false, cond_true, Tre.run_cond]
  cases hd : decide ((p2.length : Int) = p0.1)
  · rfl
  rw [Bool.not_true, cond_false, cond_true, Tre.run_ite, if_pos (by omega), run_some_mat (show belowR p2 (ishl .i64 1 p0.2.1) = some (p2.all (inP p0.2.1)) from lim_of h2), Tre.run_cond]
  cases hq : p2.all (inP p0.2.1)
  · rfl
  rw [Bool.not_true, cond_false, cond_true, run_some_mat (show missR p1 p2 p0 = some _ from askO_true (by
    unfold okM
    simp only [Bool.and_eq_true, decide_eq_true_eq, inR_iff]
    exact ⟨⟨⟨⟨⟨hb.1, hb.2⟩, h1⟩, h2⟩, hp⟩, hq⟩))]
  rfl

noncomputable def s_MissedBy_V : Env := ⟨tau, [(29, s_l08Ok_9aa7_c), (34, s_l08Cols_9aa7_c), (33, s_l08Below_c), (35, s_l08Missed_5e37_c)]⟩
noncomputable def s_MissedBy_b : Code := (Try.f21.body).getD .skip
noncomputable def s_MissedBy_I : FnI := ⟨s_MissedBy_b, Try.f21.results.toList, Try.f21.resultTypes.toList, []⟩
noncomputable def s_MissedBy_out (_zp0 : Bool) (_zp1 : Bool) (_zp2 : Bool) (_p0 : (Int × (Int × ((List Int) × (Int × (Int × Unit)))))) (_p1 : (List Int)) (_p2 : (List Int)) : (Int × Int) → CallOut := fun r => ⟨(.tcons (.imm true (.int .i64) r.1) (.tcons (.imm true (.int .i64) r.2) .tnil)), [], []⟩
set_option maxRecDepth 100000 in
theorem s_MissedBy_eq : ∀ (zp0 : Bool) (zp1 : Bool) (zp2 : Bool) (p0 : (Int × (Int × ((List Int) × (Int × (Int × Unit)))))) (p1 : (List Int)) (p2 : (List Int)), denFn s_MissedBy_V s_MissedBy_I ⟨[(.imm zp0 kGather p0), (.imm zp1 (.sl (.int .i64)) p1), (.imm zp2 (.sl (.int .i64)) p2)], []⟩ = (s_MissedBy p0 p1 p2).run fun r => some (s_MissedBy_out zp0 zp1 zp2 p0 p1 p2 r) := fun _ _ _ _ _ _ => by kernel_rfl
noncomputable def s_MissedBy_G (av : List AV) (rs : List Root) : Tre CallOut :=
  asCons av fun a0_ av0 =>
  asCons av0 fun a1_ av1 =>
  asCons av1 fun a2_ av2 =>
  asEnd av2 <|
  asEnd rs <|
  asImm kGather a0_ fun z2 d1 =>
  asImm (.sl (.int .i64)) a1_ fun z4 d3 =>
  asImm (.sl (.int .i64)) a2_ fun z6 d5 =>
  .mat (missB d1 d3 d5) fun r => .ret (s_MissedBy_out z2 z4 z6 d1 d3 d5 r)
noncomputable def s_MissedBy_c : Ctr := ⟨[], fun ci => s_MissedBy_G ci.args ci.roots⟩
theorem s_MissedBy_env : EnvOK Try.prog s_MissedBy_V := (envOK_cons s_l08Ok_9aa7_ok ent29 (envOK_cons s_l08Cols_9aa7_ok ent34 (envOK_cons s_l08Below_ok ent33 (envOK_cons s_l08Missed_5e37_ok ent35 envOK_nil))))
set_option maxRecDepth 100000 in
theorem s_MissedBy_ok : Contract Try.prog 21 s_MissedBy_c := by
  have hl : LoopsOK s_MissedBy_V [] s_MissedBy_b := loopsOK_nil (by kernel_rfl)
  refine (contract_of (F := s_MissedBy_I) tau_tys s_MissedBy_env Try.func21 (by kernel_rfl) (by kernel_rfl) (by kernel_rfl) hl []).weaken ?_
  rintro ⟨av, rs⟩ co h
  have h : (s_MissedBy_G av rs).run some = some co := h
  obtain ⟨a0_, av0, rfl, h_0⟩ := asCons_spec h
  obtain ⟨a1_, av1, rfl, h_1⟩ := asCons_spec h_0
  obtain ⟨a2_, av2, rfl, h_2⟩ := asCons_spec h_1
  obtain ⟨rfl, h_3⟩ := asEnd_spec h_2
  obtain ⟨rfl, h_4⟩ := asEnd_spec h_3
  obtain ⟨z2, d1, rfl, h_5⟩ := asImm_spec h_4
  obtain ⟨z4, d3, rfl, h_6⟩ := asImm_spec h_5
  obtain ⟨z6, d5, rfl, h_7⟩ := asImm_spec h_6
  exact fin_opt (s_MissedBy_eq z2 z4 z6 d1 d3 d5) (s_MissedBy_spec d1 d3 d5) h_7

end Go.Proofs.Ytadgapcpogmpcaa

namespace Go.Proofs.Ytadgapcpogmpcaa
open Go Go.Abs Go.Proofs

/-! function 37: loop.example/g01144/impl.MissedBy$1 -/
noncomputable def i_MissedByc1_9af1 (p0 : Int) (p1 : (Int × (Int × ((List Int) × (Int × (Int × Unit)))))) : Tre Bool :=
  let v1 := iwrap .i64 (p1.1 + p1.2.1)
  .ite (0 ≤ v1) <|
  let v2 := iwrap .i64 ((ishl .i64 1 v1) - 1)
  .ret (!(inR p0 0 v2))
noncomputable def i_MissedByc1_9af1_F (p0 : Int) (p1 : (Int × (Int × ((List Int) × (Int × (Int × Unit)))))) : Option Bool := (i_MissedByc1_9af1 p0 p1).run some
/-- is a packet too great? -/
def noM (x : Int) (p : Int × Int × List Int × Int × Int × Unit) : Option Bool := askO (decide (0 ≤ iwrap .i64 (p.1 + p.2.1))) (!inP (iwrap .i64 (p.1 + p.2.1)) x)
theorem i_MissedByc1_9af1_spec (p0 : Int) (p1 : Int × Int × List Int × Int × Int × Unit) (y : Bool) (h : noM p0 p1 = some y) : i_MissedByc1_9af1_F p0 p1 = some y := by
  obtain ⟨hl, rfl⟩ := askO_some h
  unfold i_MissedByc1_9af1_F i_MissedByc1_9af1
  dsimp only
  rw [Tre.run_ite, if_pos (of_decide_eq_true hl)]
  rfl

noncomputable def i_MissedByc1_9af1_V : Env := ⟨tau, [(27, i_within_c)]⟩
noncomputable def i_MissedByc1_9af1_b : Code := (Try.f37.body).getD .skip
noncomputable def i_MissedByc1_9af1_I : FnI := ⟨i_MissedByc1_9af1_b, Try.f37.results.toList, Try.f37.resultTypes.toList, []⟩
noncomputable def i_MissedByc1_9af1_out (zp0 : Bool) (_p0 : Int) (p1 : (Int × (Int × ((List Int) × (Int × (Int × Unit)))))) : Bool → CallOut := fun r => ⟨(.imm true .bool r), [⟨true, kGather, (.imm zp0), p1⟩], []⟩
set_option maxRecDepth 100000 in
theorem i_MissedByc1_9af1_eq : ∀ (zp0 : Bool) (p0 : Int) (p1 : (Int × (Int × ((List Int) × (Int × (Int × Unit)))))), denFn i_MissedByc1_9af1_V i_MissedByc1_9af1_I ⟨[(.imm true (.int .i64) p0), (.ptr (0, 0) [])], [⟨true, kGather, (.imm zp0), p1⟩]⟩ = (i_MissedByc1_9af1 p0 p1).run fun r => some (i_MissedByc1_9af1_out zp0 p0 p1 r) := fun _ _ _ => by kernel_rfl
noncomputable def i_MissedByc1_9af1_G (av : List AV) (rs : List Root) : Tre CallOut :=
  asCons av fun a0_ av0 =>
  asCons av0 fun a1_ av1 =>
  asEnd av1 <|
  asCons rs fun r0_ rs0 =>
  asEnd rs0 <|
  asImmZ true (.int .i64) a0_ fun d1 =>
  asPtr (0, 0) [] a1_ <|
  asRt true kGather r0_ fun m2 d3 =>
  asMImm m2 fun z4 =>
  .mat (noM d1 d3) fun r => .ret (i_MissedByc1_9af1_out z4 d1 d3 r)
noncomputable def i_MissedByc1_9af1_c : Ctr := ⟨[], fun ci => i_MissedByc1_9af1_G ci.args ci.roots⟩
theorem i_MissedByc1_9af1_env : EnvOK Try.prog i_MissedByc1_9af1_V := (envOK_cons i_within_ok ent27 envOK_nil)
set_option maxRecDepth 100000 in
theorem i_MissedByc1_9af1_ok : Contract Try.prog 37 i_MissedByc1_9af1_c := by
  have hl : LoopsOK i_MissedByc1_9af1_V [] i_MissedByc1_9af1_b := loopsOK_nil (by kernel_rfl)
  refine (contract_of (F := i_MissedByc1_9af1_I) tau_tys i_MissedByc1_9af1_env Try.func37 (by kernel_rfl) (by kernel_rfl) (by kernel_rfl) hl []).weaken ?_
  rintro ⟨av, rs⟩ co h
  have h : (i_MissedByc1_9af1_G av rs).run some = some co := h
  obtain ⟨a0_, av0, rfl, h_0⟩ := asCons_spec h
  obtain ⟨a1_, av1, rfl, h_1⟩ := asCons_spec h_0
  obtain ⟨rfl, h_2⟩ := asEnd_spec h_1
  obtain ⟨r0_, rs0, rfl, h_3⟩ := asCons_spec h_2
  obtain ⟨rfl, h_4⟩ := asEnd_spec h_3
  obtain ⟨d1, rfl, h_5⟩ := asImmZ_spec h_4
  obtain ⟨rfl, h_6⟩ := asPtr_spec h_5
  obtain ⟨m2, d3, rfl, h_7⟩ := asRt_spec h_6
  obtain ⟨z4, rfl, h_8⟩ := asMImm_spec h_7
  exact fin_opt (i_MissedByc1_9af1_eq z4 d1 d3) (i_MissedByc1_9af1_spec d1 d3) h_8

end Go.Proofs.Ytadgapcpogmpcaa

namespace Go.Proofs.Ytadgapcpogmpcaa
open Go Go.Abs Go.Proofs

/-! function 45: slices.IndexFunc[[]int64,int64] -/
noncomputable def slices_IndexFunc_int64_i_MissedByc1_l2 (h2_0_0 : (List Int)) (h2_0_1 : Int) (h2_0_3 : (Int × (Int × ((List Int) × (Int × (Int × Unit)))))) : Int → Tre (Int ⊕ (Int ⊕ Unit)) := fun s2 =>
  .cond (decide (s2 < h2_0_1))
    (.ite (0 ≤ s2 ∧ s2 < (h2_0_0.length : Int)) <|
    .mat (h2_0_0[s2.toNat]?) fun x1 =>
    .mat (noM x1 h2_0_3) fun r2 =>
    .cond r2
      (.ret (.inr (.inl s2)))
      (.ret (.inl (iwrap .i64 (s2 + 1)))))
    (.ret (.inr (.inr ())))
noncomputable def slices_IndexFunc_int64_i_MissedByc1 (p0 : (List Int)) (p1 : (Int × (Int × ((List Int) × (Int × (Int × Unit)))))) : Tre Int :=
  .mat (loopF (slices_IndexFunc_int64_i_MissedByc1_l2 p0 (p0.length : Int) p1) 0) fun l3 =>
  .alt l3
    (fun a4 =>
      .ret a4)
    (fun _ =>
      .ret (-1))
noncomputable def slices_IndexFunc_int64_i_MissedByc1_F (p0 : (List Int)) (p1 : (Int × (Int × ((List Int) × (Int × (Int × Unit)))))) : Option Int := (slices_IndexFunc_int64_i_MissedByc1 p0 p1).run some
/-- the first packet that is too great -/
def idxM (xs : List Int) (p : Int × Int × List Int × Int × Int × Unit) : Option Int := askO (decide (0 ≤ (iwrap .i64 (p.1 + p.2.1))) && decide (xs.length ≤ 1048576)) (idxI (fun x => !inP (iwrap .i64 (p.1 + p.2.1)) x) 0 xs)
theorem slices_IndexFunc_int64_i_MissedByc1_spec (p0 : List Int) (p1 : Int × Int × List Int × Int × Int × Unit) (y : Int) (h : idxM p0 p1 = some y) : slices_IndexFunc_int64_i_MissedByc1_F p0 p1 = some y := by
  obtain ⟨hl, rfl⟩ := askO_some h
  rw [Bool.and_eq_true] at hl
  obtain ⟨hm, hl⟩ := hl
  have hl := of_decide_eq_true hl
  unfold slices_IndexFunc_int64_i_MissedByc1_F slices_IndexFunc_int64_i_MissedByc1
  rw [Tre.run_mat, find_loop (xs := p0) (fun i x => cond (!inP (iwrap .i64 (p1.1 + p1.2.1)) x) (some (.inl (i : Int))) none) (.inr ())]
  · rw [Option.bind_some, ← findE_idx (p := fun x => !inP (iwrap .i64 (p1.1 + p1.2.1)) x)]
    generalize findE _ _ _ _ = r
    cases r <;> rfl
  · intro i x hx
    have hi : i < p0.length := (List.getElem?_eq_some_iff.1 hx).1
    unfold slices_IndexFunc_int64_i_MissedByc1_l2
    rw [run_inb hx, run_some_mat (show noM x p1 = some _ from askO_true hm), Tre.run_cond]
    cases inP (iwrap .i64 (p1.1 + p1.2.1)) x
    · rfl
    · simp only [Bool.not_true, cond_false, Tre.run_ret, iwrap_succ (show i < 4611686018427387904 by omega)]
  · unfold slices_IndexFunc_int64_i_MissedByc1_l2
    exact run_out

noncomputable def slices_IndexFunc_int64_i_MissedByc1_V : Env := ⟨tau, [(37, i_MissedByc1_9af1_c)]⟩
noncomputable def slices_IndexFunc_int64_i_MissedByc1_b : Code := (Try.f45.body).getD .skip
noncomputable def slices_IndexFunc_int64_i_MissedByc1_l2_mk (z2_0 : Bool) (z2_1 : Bool) (h2_0_0 : (List Int)) (h2_0_1 : Int) (h2_0_3 : (Int × (Int × ((List Int) × (Int × (Int × Unit)))))) : Int → St := fun x => stOf [(0, (.imm z2_0 (.sl (.int .i64)) h2_0_0)), (1, (.fn 37 [(0, 0)])), (7, (.imm true (.int .i64) h2_0_1)), (8, (.imm true (.int .i64) x))] [((0, 0), some ⟨true, kGather, (.imm z2_1), h2_0_3⟩)]
noncomputable def slices_IndexFunc_int64_i_MissedByc1_l2_out (_z2_0 : Bool) (z2_1 : Bool) (_h2_0_0 : (List Int)) (_h2_0_1 : Int) (h2_0_3 : (Int × (Int × ((List Int) × (Int × (Int × Unit)))))) : (Int ⊕ Unit) → Ex × St
  | .inl x => (.ret, stOf [(4, (.imm true (.int .i64) x))] [((0, 0), some ⟨true, kGather, (.imm z2_1), h2_0_3⟩)])
  | .inr x => (.exit 0, stOf [(4, .dead)] [((0, 0), some ⟨true, kGather, (.imm z2_1), h2_0_3⟩)])
noncomputable def slices_IndexFunc_int64_i_MissedByc1_l2_D (s : St) : Tre (Ex × St) :=
  asImm (.sl (.int .i64)) (s.tmps 0) fun z3 d2 =>
  asFn 37 [(0, 0)] (s.tmps 1) <|
  asImmZ true (.int .i64) (s.tmps 7) fun d6 =>
  asImmZ true (.int .i64) (s.tmps 8) fun d8 =>
  asRoot true kGather (s.roots (0, 0)) fun m10 d11 =>
  asMImm m10 fun z12 =>
  .mat (loopF (slices_IndexFunc_int64_i_MissedByc1_l2 d2 d6 d11) d8) fun x => .alt x (fun a0 => .ret (slices_IndexFunc_int64_i_MissedByc1_l2_out z3 z12 d2 d6 d11 (.inl a0))) (fun b0 => .ret (slices_IndexFunc_int64_i_MissedByc1_l2_out z3 z12 d2 d6 d11 (.inr b0)))
noncomputable def slices_IndexFunc_int64_i_MissedByc1_l2_L : LoopI := ⟨([0, 1, 7, 8], [(0, 0)]), ([4], [(0, 0)]), slices_IndexFunc_int64_i_MissedByc1_l2_D⟩
noncomputable def slices_IndexFunc_int64_i_MissedByc1_A : List (Nat × LoopI) := [(2, slices_IndexFunc_int64_i_MissedByc1_l2_L)]
set_option maxRecDepth 100000 in
theorem slices_IndexFunc_int64_i_MissedByc1_l2_step : ∀ (z2_0 : Bool) (z2_1 : Bool) (h2_0_0 : (List Int)) (h2_0_1 : Int) (h2_0_3 : (Int × (Int × ((List Int) × (Int × (Int × Unit)))))) (x : Int) (c : St → Option (Ex × St)), den slices_IndexFunc_int64_i_MissedByc1_V slices_IndexFunc_int64_i_MissedByc1_A (loopAt slices_IndexFunc_int64_i_MissedByc1_b 0) (slices_IndexFunc_int64_i_MissedByc1_l2_mk z2_0 z2_1 h2_0_0 h2_0_1 h2_0_3 x) (roundK slices_IndexFunc_int64_i_MissedByc1_l2_L.kp slices_IndexFunc_int64_i_MissedByc1_l2_L.kx c) = (slices_IndexFunc_int64_i_MissedByc1_l2 h2_0_0 h2_0_1 h2_0_3 x).run (roundR (slices_IndexFunc_int64_i_MissedByc1_l2_mk z2_0 z2_1 h2_0_0 h2_0_1 h2_0_3) (slices_IndexFunc_int64_i_MissedByc1_l2_out z2_0 z2_1 h2_0_0 h2_0_1 h2_0_3) c) := fun _ _ _ _ _ _ _ => by
  kernel_rfl
theorem slices_IndexFunc_int64_i_MissedByc1_l2_ok : LoopOK slices_IndexFunc_int64_i_MissedByc1_V slices_IndexFunc_int64_i_MissedByc1_A (loopAt slices_IndexFunc_int64_i_MissedByc1_b 0) slices_IndexFunc_int64_i_MissedByc1_l2_L := loopOK_of fun s e s' h => by
  generalize hs : restrict slices_IndexFunc_int64_i_MissedByc1_l2_L.kp s = s1 at h
  have h : (slices_IndexFunc_int64_i_MissedByc1_l2_D s1).run some = some (e, s') := h
  obtain ⟨z3, d2, e1, h_0⟩ := asImm_spec h
  obtain ⟨e4, h_1⟩ := asFn_spec h_0
  obtain ⟨d6, e5, h_2⟩ := asImmZ_spec h_1
  obtain ⟨d8, e7, h_3⟩ := asImmZ_spec h_2
  obtain ⟨m10, d11, e9, h_4⟩ := asRoot_spec h_3
  obtain ⟨z12, rfl, h_5⟩ := asMImm_spec h_4
  obtain ⟨y, hy, hz⟩ := mat_some h_5
  refine ⟨_, _, slices_IndexFunc_int64_i_MissedByc1_l2_mk z3 z12 d2 d6 d11, slices_IndexFunc_int64_i_MissedByc1_l2_out z3 z12 d2 d6 d11, slices_IndexFunc_int64_i_MissedByc1_l2 d2 d6 d11, d8, y, ?_, hy, ?_, slices_IndexFunc_int64_i_MissedByc1_l2_step z3 z12 d2 d6 d11⟩
  · subst hs; exact restrict_eq (T := [(0, (.imm z3 (.sl (.int .i64)) d2)), (1, (.fn 37 [(0, 0)])), (7, (.imm true (.int .i64) d6)), (8, (.imm true (.int .i64) d8))]) (U := [((0, 0), some ⟨true, kGather, (.imm z12), d11⟩)]) rfl rfl ⟨e1, e4, e5, e7, trivial⟩ ⟨e9, trivial⟩
  · rcases y with x | x <;> exact Option.some.inj hz
noncomputable def slices_IndexFunc_int64_i_MissedByc1_I : FnI := ⟨slices_IndexFunc_int64_i_MissedByc1_b, Try.f45.results.toList, Try.f45.resultTypes.toList, slices_IndexFunc_int64_i_MissedByc1_A⟩
noncomputable def slices_IndexFunc_int64_i_MissedByc1_out (_zp0 : Bool) (zp1 : Bool) (_p0 : (List Int)) (p1 : (Int × (Int × ((List Int) × (Int × (Int × Unit)))))) : Int → CallOut := fun r => ⟨(.imm true (.int .i64) r), [⟨true, kGather, (.imm zp1), p1⟩], []⟩
set_option maxRecDepth 100000 in
theorem slices_IndexFunc_int64_i_MissedByc1_eq : ∀ (zp0 : Bool) (zp1 : Bool) (p0 : (List Int)) (p1 : (Int × (Int × ((List Int) × (Int × (Int × Unit)))))), denFn slices_IndexFunc_int64_i_MissedByc1_V slices_IndexFunc_int64_i_MissedByc1_I ⟨[(.imm zp0 (.sl (.int .i64)) p0), (.fn 37 [(0, 0)])], [⟨true, kGather, (.imm zp1), p1⟩]⟩ = (slices_IndexFunc_int64_i_MissedByc1 p0 p1).run fun r => some (slices_IndexFunc_int64_i_MissedByc1_out zp0 zp1 p0 p1 r) := fun _ _ _ _ => by kernel_rfl
noncomputable def slices_IndexFunc_int64_i_MissedByc1_G (av : List AV) (rs : List Root) : Tre CallOut :=
  asCons av fun a0_ av0 =>
  asCons av0 fun a1_ av1 =>
  asEnd av1 <|
  asCons rs fun r0_ rs0 =>
  asEnd rs0 <|
  asImm (.sl (.int .i64)) a0_ fun z2 d1 =>
  asFn 37 [(0, 0)] a1_ <|
  asRt true kGather r0_ fun m3 d4 =>
  asMImm m3 fun z5 =>
  .mat (idxM d1 d4) fun r => .ret (slices_IndexFunc_int64_i_MissedByc1_out z2 z5 d1 d4 r)
noncomputable def slices_IndexFunc_int64_i_MissedByc1_c : Ctr := ⟨[], fun ci => slices_IndexFunc_int64_i_MissedByc1_G ci.args ci.roots⟩
theorem slices_IndexFunc_int64_i_MissedByc1_env : EnvOK Try.prog slices_IndexFunc_int64_i_MissedByc1_V := (envOK_cons i_MissedByc1_9af1_ok ent37 envOK_nil)
set_option maxRecDepth 100000 in
theorem slices_IndexFunc_int64_i_MissedByc1_ok : Contract Try.prog 45 slices_IndexFunc_int64_i_MissedByc1_c := by
  have hl : LoopsOK slices_IndexFunc_int64_i_MissedByc1_V slices_IndexFunc_int64_i_MissedByc1_A slices_IndexFunc_int64_i_MissedByc1_b := (loopsOK_all (n := 1) (by kernel_rfl) fun k hk => by
      match k, hk with
      | 0, _ => exact loopOK_at (id := 2) (L := slices_IndexFunc_int64_i_MissedByc1_l2_L) (by kernel_rfl) (by kernel_rfl) slices_IndexFunc_int64_i_MissedByc1_l2_ok)
  refine (contract_of (F := slices_IndexFunc_int64_i_MissedByc1_I) tau_tys slices_IndexFunc_int64_i_MissedByc1_env Try.func45 (by kernel_rfl) (by kernel_rfl) (by kernel_rfl) hl []).weaken ?_
  rintro ⟨av, rs⟩ co h
  have h : (slices_IndexFunc_int64_i_MissedByc1_G av rs).run some = some co := h
  obtain ⟨a0_, av0, rfl, h_0⟩ := asCons_spec h
  obtain ⟨a1_, av1, rfl, h_1⟩ := asCons_spec h_0
  obtain ⟨rfl, h_2⟩ := asEnd_spec h_1
  obtain ⟨r0_, rs0, rfl, h_3⟩ := asCons_spec h_2
  obtain ⟨rfl, h_4⟩ := asEnd_spec h_3
  obtain ⟨z2, d1, rfl, h_5⟩ := asImm_spec h_4
  obtain ⟨rfl, h_6⟩ := asFn_spec h_5
  obtain ⟨m3, d4, rfl, h_7⟩ := asRt_spec h_6
  obtain ⟨z5, rfl, h_8⟩ := asMImm_spec h_7
  exact fin_opt (slices_IndexFunc_int64_i_MissedByc1_eq z2 z5 d1 d4) (slices_IndexFunc_int64_i_MissedByc1_spec d1 d4) h_8

end Go.Proofs.Ytadgapcpogmpcaa

namespace Go.Proofs.Ytadgapcpogmpcaa
open Go Go.Abs Go.Proofs

/-! function 36: slices.ContainsFunc[[]int64,int64] -/
noncomputable def slices_ContainsFunc_int64_i_MissedByc1 (p0 : (List Int)) (p1 : (Int × (Int × ((List Int) × (Int × (Int × Unit)))))) : Tre Bool :=
  .mat (idxM p0 p1) fun r1 =>
  .ret (decide (r1 ≥ 0))
noncomputable def slices_ContainsFunc_int64_i_MissedByc1_F (p0 : (List Int)) (p1 : (Int × (Int × ((List Int) × (Int × (Int × Unit)))))) : Option Bool := (slices_ContainsFunc_int64_i_MissedByc1 p0 p1).run some
/-- is there a packet that is too great? -/
def hasM (xs : List Int) (p : Int × Int × List Int × Int × Int × Unit) : Option Bool := askO (decide (0 ≤ (iwrap .i64 (p.1 + p.2.1))) && decide (xs.length ≤ 1048576)) (xs.any fun x => !inP (iwrap .i64 (p.1 + p.2.1)) x)
theorem slices_ContainsFunc_int64_i_MissedByc1_spec (p0 : List Int) (p1 : Int × Int × List Int × Int × Int × Unit) (y : Bool) (h : hasM p0 p1 = some y) : slices_ContainsFunc_int64_i_MissedByc1_F p0 p1 = some y := by
  obtain ⟨hl, rfl⟩ := askO_some h
  unfold slices_ContainsFunc_int64_i_MissedByc1_F slices_ContainsFunc_int64_i_MissedByc1
  rw [run_some_mat (show idxM p0 p1 = some _ from askO_true hl), Tre.run_ret, idxI_any]

noncomputable def slices_ContainsFunc_int64_i_MissedByc1_V : Env := ⟨tau, [(45, slices_IndexFunc_int64_i_MissedByc1_c)]⟩
noncomputable def slices_ContainsFunc_int64_i_MissedByc1_b : Code := (Try.f36.body).getD .skip
noncomputable def slices_ContainsFunc_int64_i_MissedByc1_I : FnI := ⟨slices_ContainsFunc_int64_i_MissedByc1_b, Try.f36.results.toList, Try.f36.resultTypes.toList, []⟩
noncomputable def slices_ContainsFunc_int64_i_MissedByc1_out (_zp0 : Bool) (zp1 : Bool) (_p0 : (List Int)) (p1 : (Int × (Int × ((List Int) × (Int × (Int × Unit)))))) : Bool → CallOut := fun r => ⟨(.imm true .bool r), [⟨true, kGather, (.imm zp1), p1⟩], []⟩
set_option maxRecDepth 100000 in
theorem slices_ContainsFunc_int64_i_MissedByc1_eq : ∀ (zp0 : Bool) (zp1 : Bool) (p0 : (List Int)) (p1 : (Int × (Int × ((List Int) × (Int × (Int × Unit)))))), denFn slices_ContainsFunc_int64_i_MissedByc1_V slices_ContainsFunc_int64_i_MissedByc1_I ⟨[(.imm zp0 (.sl (.int .i64)) p0), (.fn 37 [(0, 0)])], [⟨true, kGather, (.imm zp1), p1⟩]⟩ = (slices_ContainsFunc_int64_i_MissedByc1 p0 p1).run fun r => some (slices_ContainsFunc_int64_i_MissedByc1_out zp0 zp1 p0 p1 r) := fun _ _ _ _ => by kernel_rfl
noncomputable def slices_ContainsFunc_int64_i_MissedByc1_G (av : List AV) (rs : List Root) : Tre CallOut :=
  asCons av fun a0_ av0 =>
  asCons av0 fun a1_ av1 =>
  asEnd av1 <|
  asCons rs fun r0_ rs0 =>
  asEnd rs0 <|
  asImm (.sl (.int .i64)) a0_ fun z2 d1 =>
  asFn 37 [(0, 0)] a1_ <|
  asRt true kGather r0_ fun m3 d4 =>
  asMImm m3 fun z5 =>
  .mat (hasM d1 d4) fun r => .ret (slices_ContainsFunc_int64_i_MissedByc1_out z2 z5 d1 d4 r)
noncomputable def slices_ContainsFunc_int64_i_MissedByc1_c : Ctr := ⟨[], fun ci => slices_ContainsFunc_int64_i_MissedByc1_G ci.args ci.roots⟩
theorem slices_ContainsFunc_int64_i_MissedByc1_env : EnvOK Try.prog slices_ContainsFunc_int64_i_MissedByc1_V := (envOK_cons slices_IndexFunc_int64_i_MissedByc1_ok ent45 envOK_nil)
set_option maxRecDepth 100000 in
theorem slices_ContainsFunc_int64_i_MissedByc1_ok : Contract Try.prog 36 slices_ContainsFunc_int64_i_MissedByc1_c := by
  have hl : LoopsOK slices_ContainsFunc_int64_i_MissedByc1_V [] slices_ContainsFunc_int64_i_MissedByc1_b := loopsOK_nil (by kernel_rfl)
  refine (contract_of (F := slices_ContainsFunc_int64_i_MissedByc1_I) tau_tys slices_ContainsFunc_int64_i_MissedByc1_env Try.func36 (by kernel_rfl) (by kernel_rfl) (by kernel_rfl) hl []).weaken ?_
  rintro ⟨av, rs⟩ co h
  have h : (slices_ContainsFunc_int64_i_MissedByc1_G av rs).run some = some co := h
  obtain ⟨a0_, av0, rfl, h_0⟩ := asCons_spec h
  obtain ⟨a1_, av1, rfl, h_1⟩ := asCons_spec h_0
  obtain ⟨rfl, h_2⟩ := asEnd_spec h_1
  obtain ⟨r0_, rs0, rfl, h_3⟩ := asCons_spec h_2
  obtain ⟨rfl, h_4⟩ := asEnd_spec h_3
  obtain ⟨z2, d1, rfl, h_5⟩ := asImm_spec h_4
  obtain ⟨rfl, h_6⟩ := asFn_spec h_5
  obtain ⟨m3, d4, rfl, h_7⟩ := asRt_spec h_6
  obtain ⟨z5, rfl, h_8⟩ := asMImm_spec h_7
  exact fin_opt (slices_ContainsFunc_int64_i_MissedByc1_eq z2 z5 d1 d4) (slices_ContainsFunc_int64_i_MissedByc1_spec d1 d4) h_8

end Go.Proofs.Ytadgapcpogmpcaa

namespace Go.Proofs.Ytadgapcpogmpcaa
open Go Go.Abs Go.Proofs

/-! function 46: loop.example/g01144/impl.sumOf -/
noncomputable def i_sumOf_l3 (h3_0_0 : Int) (h3_0_2 : (List Int)) (h3_0_3 : Int) : (Int × Int) → Tre ((Int × Int) ⊕ Int) := fun s3 =>
  .cond (decide (s3.2 < h3_0_3))
    (.ite (0 ≤ s3.2 ∧ s3.2 < (h3_0_2.length : Int)) <|
    .mat (h3_0_2[s3.2.toNat]?) fun x1 =>
    .ite (0 ≤ s3.2) <|
    let v2 := iand .i64 (ishr .i64 h3_0_0 s3.2) 1
    .cond (decide (v2 = 1))
      (.ret (.inl (ixor .i64 s3.1 x1, iwrap .i64 (s3.2 + 1))))
      (.ret (.inl (s3.1, iwrap .i64 (s3.2 + 1)))))
    (.ret (.inr s3.1))
noncomputable def i_sumOf (p0 : (List Int)) (p1 : Int) : Tre Int :=
  .mat (loopF (i_sumOf_l3 p1 p0 (p0.length : Int)) (0, 0)) fun l3 =>
  .ret l3
noncomputable def i_sumOf_F (p0 : (List Int)) (p1 : Int) : Option Int := (i_sumOf p0 p1).run some
/-- the sum of the rows that a number names -/
def sumR (xs : List Int) (a : Int) : Option Int := lim xs.length (timesL a xs)
theorem i_sumOf_spec (p0 : List Int) (p1 : Int) (y : Int) (h : sumR p0 p1 = some y) : i_sumOf_F p0 p1 = some y := by
  obtain ⟨hl, rfl⟩ := lim_some h
  unfold i_sumOf_F i_sumOf
  rw [Tre.run_mat]
  have := fold_loop' (xs := p0) (step := i_sumOf_l3 p1 p0 (p0.length : Int)) (fun i acc => (acc, (i : Int))) (fun i acc x => .inl (cond (bitAt p1 (i : Int)) (ixor .i64 acc x) acc)) id (by
    intro i acc x hx
    have hi : i < p0.length := (List.getElem?_eq_some_iff.1 hx).1
    unfold i_sumOf_l3
    rw [run_inb hx, Tre.run_ite, if_pos (by dsimp only; omega), Tre.run_cond]
    show cond (bitAt p1 (i : Int)) _ _ = _
    cases bitAt p1 (i : Int)
    · rw [cond_false, Tre.run_ret, iwrap_succ (by omega)]; rfl
    · rw [cond_true, Tre.run_ret, iwrap_succ (by omega)]; rfl)
    (by
    intro acc
    unfold i_sumOf_l3
    exact run_out) 0
  rw [show ((0 : Int), (0 : Int)) = (0, ((0 : Nat) : Int)) from rfl, this]
  rfl

noncomputable def i_sumOf_V : Env := ⟨tau, []⟩
noncomputable def i_sumOf_b : Code := (Try.f46.body).getD .skip
noncomputable def i_sumOf_l3_mk (z3_0 : Bool) (h3_0_0 : Int) (h3_0_2 : (List Int)) (h3_0_3 : Int) : (Int × Int) → St := fun x => stOf [(1, (.imm true (.int .i64) h3_0_0)), (5, (.imm true (.int .i64) x.1)), (8, (.imm z3_0 (.sl (.int .i64)) h3_0_2)), (9, (.imm true (.int .i64) h3_0_3)), (10, (.imm true (.int .i64) x.2))] []
noncomputable def i_sumOf_l3_out (_z3_0 : Bool) (_h3_0_0 : Int) (_h3_0_2 : (List Int)) (_h3_0_3 : Int) : Int → Ex × St := fun x => (.exit 0, stOf [(5, (.imm true (.int .i64) x))] [])
noncomputable def i_sumOf_l3_D (s : St) : Tre (Ex × St) :=
  asImmZ true (.int .i64) (s.tmps 1) fun d2 =>
  asImmZ true (.int .i64) (s.tmps 5) fun d4 =>
  asImm (.sl (.int .i64)) (s.tmps 8) fun z7 d6 =>
  asImmZ true (.int .i64) (s.tmps 9) fun d9 =>
  asImmZ true (.int .i64) (s.tmps 10) fun d11 =>
  .mat (loopF (i_sumOf_l3 d2 d6 d9) (d4, d11)) fun x => .ret (i_sumOf_l3_out z7 d2 d6 d9 x)
noncomputable def i_sumOf_l3_L : LoopI := ⟨([1, 5, 8, 9, 10], []), ([5], []), i_sumOf_l3_D⟩
noncomputable def i_sumOf_A : List (Nat × LoopI) := [(3, i_sumOf_l3_L)]
set_option maxRecDepth 100000 in
theorem i_sumOf_l3_step : ∀ (z3_0 : Bool) (h3_0_0 : Int) (h3_0_2 : (List Int)) (h3_0_3 : Int) (x : (Int × Int)) (c : St → Option (Ex × St)), den i_sumOf_V i_sumOf_A (loopAt i_sumOf_b 0) (i_sumOf_l3_mk z3_0 h3_0_0 h3_0_2 h3_0_3 x) (roundK i_sumOf_l3_L.kp i_sumOf_l3_L.kx c) = (i_sumOf_l3 h3_0_0 h3_0_2 h3_0_3 x).run (roundR (i_sumOf_l3_mk z3_0 h3_0_0 h3_0_2 h3_0_3) (i_sumOf_l3_out z3_0 h3_0_0 h3_0_2 h3_0_3) c) := fun _ _ _ _ _ _ => by
  kernel_rfl
theorem i_sumOf_l3_ok : LoopOK i_sumOf_V i_sumOf_A (loopAt i_sumOf_b 0) i_sumOf_l3_L := loopOK_of fun s e s' h => by
  generalize hs : restrict i_sumOf_l3_L.kp s = s1 at h
  have h : (i_sumOf_l3_D s1).run some = some (e, s') := h
  obtain ⟨d2, e1, h_0⟩ := asImmZ_spec h
  obtain ⟨d4, e3, h_1⟩ := asImmZ_spec h_0
  obtain ⟨z7, d6, e5, h_2⟩ := asImm_spec h_1
  obtain ⟨d9, e8, h_3⟩ := asImmZ_spec h_2
  obtain ⟨d11, e10, h_4⟩ := asImmZ_spec h_3
  obtain ⟨y, hy, hz⟩ := mat_ret h_4
  refine ⟨_, _, i_sumOf_l3_mk z7 d2 d6 d9, i_sumOf_l3_out z7 d2 d6 d9, i_sumOf_l3 d2 d6 d9, (d4, d11), y, ?_, hy, ?_, i_sumOf_l3_step z7 d2 d6 d9⟩
  · subst hs; exact restrict_eq (T := [(1, (.imm true (.int .i64) d2)), (5, (.imm true (.int .i64) d4)), (8, (.imm z7 (.sl (.int .i64)) d6)), (9, (.imm true (.int .i64) d9)), (10, (.imm true (.int .i64) d11))]) (U := []) rfl rfl ⟨e1, e3, e5, e8, e10, trivial⟩ trivial
  · exact Option.some.inj hz
noncomputable def i_sumOf_I : FnI := ⟨i_sumOf_b, Try.f46.results.toList, Try.f46.resultTypes.toList, i_sumOf_A⟩
noncomputable def i_sumOf_out (_zp0 : Bool) (_p0 : (List Int)) (_p1 : Int) : Int → CallOut := fun r => ⟨(.imm true (.int .i64) r), [], []⟩
set_option maxRecDepth 100000 in
theorem i_sumOf_eq : ∀ (zp0 : Bool) (p0 : (List Int)) (p1 : Int), denFn i_sumOf_V i_sumOf_I ⟨[(.imm zp0 (.sl (.int .i64)) p0), (.imm true (.int .i64) p1)], []⟩ = (i_sumOf p0 p1).run fun r => some (i_sumOf_out zp0 p0 p1 r) := fun _ _ _ => by kernel_rfl
noncomputable def i_sumOf_G (av : List AV) (rs : List Root) : Tre CallOut :=
  asCons av fun a0_ av0 =>
  asCons av0 fun a1_ av1 =>
  asEnd av1 <|
  asEnd rs <|
  asImm (.sl (.int .i64)) a0_ fun z2 d1 =>
  asImmZ true (.int .i64) a1_ fun d3 =>
  .mat (sumR d1 d3) fun r => .ret (i_sumOf_out z2 d1 d3 r)
noncomputable def i_sumOf_c : Ctr := ⟨[], fun ci => i_sumOf_G ci.args ci.roots⟩
theorem i_sumOf_env : EnvOK Try.prog i_sumOf_V := envOK_nil
set_option maxRecDepth 100000 in
theorem i_sumOf_ok : Contract Try.prog 46 i_sumOf_c := by
  have hl : LoopsOK i_sumOf_V i_sumOf_A i_sumOf_b := (loopsOK_all (n := 1) (by kernel_rfl) fun k hk => by
      match k, hk with
      | 0, _ => exact loopOK_at (id := 3) (L := i_sumOf_l3_L) (by kernel_rfl) (by kernel_rfl) i_sumOf_l3_ok)
  refine (contract_of (F := i_sumOf_I) tau_tys i_sumOf_env Try.func46 (by kernel_rfl) (by kernel_rfl) (by kernel_rfl) hl []).weaken ?_
  rintro ⟨av, rs⟩ co h
  have h : (i_sumOf_G av rs).run some = some co := h
  obtain ⟨a0_, av0, rfl, h_0⟩ := asCons_spec h
  obtain ⟨a1_, av1, rfl, h_1⟩ := asCons_spec h_0
  obtain ⟨rfl, h_2⟩ := asEnd_spec h_1
  obtain ⟨rfl, h_3⟩ := asEnd_spec h_2
  obtain ⟨z2, d1, rfl, h_4⟩ := asImm_spec h_3
  obtain ⟨d3, rfl, h_5⟩ := asImmZ_spec h_4
  exact fin_opt (i_sumOf_eq z2 d1 d3) (i_sumOf_spec d1 d3) h_5

end Go.Proofs.Ytadgapcpogmpcaa

namespace Go.Proofs.Ytadgapcpogmpcaa
open Go Go.Abs Go.Proofs

/-! function 50: slices.Clone[[]int64,int64] -/
noncomputable def slices_Clone_int64_b930 : Tre (List Int) :=
  .ret []
noncomputable def slices_Clone_int64_b930_F : Option (List Int) := (slices_Clone_int64_b930).run some
theorem slices_Clone_int64_b930_spec : slices_Clone_int64_b930_F = some [] := rfl
noncomputable def slices_Clone_int64_b930_V : Env := ⟨tau, []⟩
noncomputable def slices_Clone_int64_b930_b : Code := (Try.f50.body).getD .skip
noncomputable def slices_Clone_int64_b930_I : FnI := ⟨slices_Clone_int64_b930_b, Try.f50.results.toList, Try.f50.resultTypes.toList, []⟩
noncomputable def slices_Clone_int64_b930_out : (List Int) → CallOut := fun r => ⟨(.ref (1, 0) []), [], [⟨false, (.sl (.int .i64)), .own, r⟩]⟩
set_option maxRecDepth 100000 in
theorem slices_Clone_int64_b930_eq : denFn slices_Clone_int64_b930_V slices_Clone_int64_b930_I ⟨[.nil], []⟩ = (slices_Clone_int64_b930).run fun r => some (slices_Clone_int64_b930_out r) := by kernel_rfl
noncomputable def slices_Clone_int64_b930_G (av : List AV) (rs : List Root) : Tre CallOut :=
  asCons av fun a0_ av0 =>
  asEnd av0 <|
  asEnd rs <|
  asNil a0_ <|
  .ret (slices_Clone_int64_b930_out [])
noncomputable def slices_Clone_int64_b930_c : Ctr := ⟨[], fun ci => slices_Clone_int64_b930_G ci.args ci.roots⟩
theorem slices_Clone_int64_b930_env : EnvOK Try.prog slices_Clone_int64_b930_V := envOK_nil
set_option maxRecDepth 100000 in
theorem slices_Clone_int64_b930_ok : Contract Try.prog 50 slices_Clone_int64_b930_c := by
  have hl : LoopsOK slices_Clone_int64_b930_V [] slices_Clone_int64_b930_b := loopsOK_nil (by kernel_rfl)
  refine (contract_of (F := slices_Clone_int64_b930_I) tau_tys slices_Clone_int64_b930_env Try.func50 (by kernel_rfl) (by kernel_rfl) (by kernel_rfl) hl []).weaken ?_
  rintro ⟨av, rs⟩ co h
  have h : (slices_Clone_int64_b930_G av rs).run some = some co := h
  obtain ⟨a0_, av0, rfl, h_0⟩ := asCons_spec h
  obtain ⟨rfl, h_1⟩ := asEnd_spec h_0
  obtain ⟨rfl, h_2⟩ := asEnd_spec h_1
  obtain ⟨rfl, h_3⟩ := asNil_spec h_2
  exact fin_ret (slices_Clone_int64_b930_eq) (slices_Clone_int64_b930_spec) h_3

end Go.Proofs.Ytadgapcpogmpcaa

namespace Go.Proofs.Ytadgapcpogmpcaa
open Go Go.Abs Go.Proofs

/-! function 50: slices.Clone[[]int64,int64] -/
noncomputable def slices_Clone_int64_6661 (p0 : (List Int)) : Tre (List Int) :=
  .ite ((0 + p0.length) * 8 ≤ appendMax ∧ 1 ≤ 8) <|
  .ret ([] ++ p0)
noncomputable def slices_Clone_int64_6661_F (p0 : (List Int)) : Option (List Int) := (slices_Clone_int64_6661 p0).run some
theorem slices_Clone_int64_6661_spec (p0 : List Int) (y : List Int) (h : cloneR p0 = some y) : slices_Clone_int64_6661_F p0 = some y := by
  obtain ⟨hl, rfl⟩ := lim_some h
  have hb : (0 + p0.length) * 8 ≤ appendMax ∧ 1 ≤ 8 := by unfold appendMax; omega
  unfold slices_Clone_int64_6661_F slices_Clone_int64_6661
  rw [Tre.run_ite, if_pos hb]
  rfl

noncomputable def slices_Clone_int64_6661_V : Env := ⟨tau, []⟩
noncomputable def slices_Clone_int64_6661_b : Code := (Try.f50.body).getD .skip
noncomputable def slices_Clone_int64_6661_I : FnI := ⟨slices_Clone_int64_6661_b, Try.f50.results.toList, Try.f50.resultTypes.toList, []⟩
noncomputable def slices_Clone_int64_6661_out (_zp0 : Bool) (_p0 : (List Int)) : (List Int) → CallOut := fun r => ⟨(.ref (1, 0) []), [], [⟨false, (.sl (.int .i64)), .own, r⟩]⟩
set_option maxRecDepth 100000 in
theorem slices_Clone_int64_6661_eq : ∀ (zp0 : Bool) (p0 : (List Int)), denFn slices_Clone_int64_6661_V slices_Clone_int64_6661_I ⟨[(.nn zp0 (.int .i64) p0)], []⟩ = (slices_Clone_int64_6661 p0).run fun r => some (slices_Clone_int64_6661_out zp0 p0 r) := fun _ _ => by kernel_rfl
noncomputable def slices_Clone_int64_6661_G (av : List AV) (rs : List Root) : Tre CallOut :=
  asCons av fun a0_ av0 =>
  asEnd av0 <|
  asEnd rs <|
  asNn (.int .i64) a0_ fun z1 d2 =>
  .mat (cloneR d2) fun r => .ret (slices_Clone_int64_6661_out z1 d2 r)
noncomputable def slices_Clone_int64_6661_c : Ctr := ⟨[], fun ci => slices_Clone_int64_6661_G ci.args ci.roots⟩
theorem slices_Clone_int64_6661_env : EnvOK Try.prog slices_Clone_int64_6661_V := envOK_nil
set_option maxRecDepth 100000 in
theorem slices_Clone_int64_6661_ok : Contract Try.prog 50 slices_Clone_int64_6661_c := by
  have hl : LoopsOK slices_Clone_int64_6661_V [] slices_Clone_int64_6661_b := loopsOK_nil (by kernel_rfl)
  refine (contract_of (F := slices_Clone_int64_6661_I) tau_tys slices_Clone_int64_6661_env Try.func50 (by kernel_rfl) (by kernel_rfl) (by kernel_rfl) hl []).weaken ?_
  rintro ⟨av, rs⟩ co h
  have h : (slices_Clone_int64_6661_G av rs).run some = some co := h
  obtain ⟨a0_, av0, rfl, h_0⟩ := asCons_spec h
  obtain ⟨rfl, h_1⟩ := asEnd_spec h_0
  obtain ⟨rfl, h_2⟩ := asEnd_spec h_1
  obtain ⟨z1, d2, rfl, h_3⟩ := asNn_spec h_2
  exact fin_opt (slices_Clone_int64_6661_eq z1 d2) (slices_Clone_int64_6661_spec d2) h_3

end Go.Proofs.Ytadgapcpogmpcaa

namespace Go.Proofs.Ytadgapcpogmpcaa
open Go Go.Abs Go.Proofs

/-! function 50: slices.Clone[[]int64,int64]: nil or not -/
theorem slices_Clone_int64_nil (y : List Int) (h : cloneR ([] : List Int) = some y) : y = [] := (lim_some h).2.symm

noncomputable def slices_Clone_int64_G (av : List AV) (rs : List Root) : Tre CallOut :=
  asCons av fun a0_ av0 =>
  asEnd av0 <|
  asEnd rs <|
  asImm (.sl (.int .i64)) a0_ fun z2 d1 =>
  .mat (cloneR d1) fun r => .ret ⟨(.ref (1, 0) []), [], [⟨false, (.sl (.int .i64)), .own, r⟩]⟩
noncomputable def slices_Clone_int64_c : Ctr := ⟨[], fun ci => slices_Clone_int64_G ci.args ci.roots⟩
theorem slices_Clone_int64_ok : Contract Try.prog 50 slices_Clone_int64_c := by
  refine contract_nil (e := (.int .i64)) slices_Clone_int64_b930_ok slices_Clone_int64_6661_ok ?_
  rintro ⟨av, rs⟩ co h
  have h : (slices_Clone_int64_G av rs).run some = some co := h
  obtain ⟨a0_, av0, rfl, h_0⟩ := asCons_spec h
  obtain ⟨rfl, h_1⟩ := asEnd_spec h_0
  obtain ⟨rfl, h_2⟩ := asEnd_spec h_1
  obtain ⟨z2, d1, rfl, h_3⟩ := asImm_spec h_2
  refine ⟨z2, d1, rfl, ?_, ?_⟩
  · exact h_3
  · rintro rfl
    obtain ⟨y, h1, h2⟩ := mat_ret h_3
    have hy : y = [] := by
      have := slices_Clone_int64_nil y h1
      exact this
    subst hy
    rw [← h2]; rfl

end Go.Proofs.Ytadgapcpogmpcaa

namespace Go.Proofs.Ytadgapcpogmpcaa
open Go Go.Abs Go.Proofs

/-! function 51: loop.example/g01144/impl.echelon$1 -/
noncomputable def i_echelonc1_66da (p0 : Int) (p1 : Int) : Tre Bool :=
  .ite (0 ≤ p1) <|
  let v1 := iand .i64 (ishr .i64 p0 p1) 1
  .ret (decide (v1 = 1))
noncomputable def i_echelonc1_66da_F (p0 : Int) (p1 : Int) : Option Bool := (i_echelonc1_66da p0 p1).run some
/-- has a row a place? -/
def bitB (x j : Int) : Option Bool := askO (decide (0 ≤ j)) (bitAt x j)
theorem i_echelonc1_66da_spec (p0 p1 : Int) (y : Bool) (h : bitB p0 p1 = some y) : i_echelonc1_66da_F p0 p1 = some y := by
  obtain ⟨hl, rfl⟩ := askO_some h
  unfold i_echelonc1_66da_F i_echelonc1_66da
  rw [Tre.run_ite, if_pos (of_decide_eq_true hl)]
  rfl

noncomputable def i_echelonc1_66da_V : Env := ⟨tau, []⟩
noncomputable def i_echelonc1_66da_b : Code := (Try.f51.body).getD .skip
noncomputable def i_echelonc1_66da_I : FnI := ⟨i_echelonc1_66da_b, Try.f51.results.toList, Try.f51.resultTypes.toList, []⟩
noncomputable def i_echelonc1_66da_out (_p0 : Int) (p1 : Int) : Bool → CallOut := fun r => ⟨(.imm true .bool r), [⟨true, (.int .i64), .own, p1⟩], []⟩
set_option maxRecDepth 100000 in
theorem i_echelonc1_66da_eq : ∀ (p0 : Int) (p1 : Int), denFn i_echelonc1_66da_V i_echelonc1_66da_I ⟨[(.imm true (.int .i64) p0), (.ptr (0, 0) [])], [⟨true, (.int .i64), .own, p1⟩]⟩ = (i_echelonc1_66da p0 p1).run fun r => some (i_echelonc1_66da_out p0 p1 r) := fun _ _ => by kernel_rfl
noncomputable def i_echelonc1_66da_G (av : List AV) (rs : List Root) : Tre CallOut :=
  asCons av fun a0_ av0 =>
  asCons av0 fun a1_ av1 =>
  asEnd av1 <|
  asCons rs fun r0_ rs0 =>
  asEnd rs0 <|
  asImmZ true (.int .i64) a0_ fun d1 =>
  asPtr (0, 0) [] a1_ <|
  asRt true (.int .i64) r0_ fun m2 d3 =>
  asM .own m2 <|
  .mat (bitB d1 d3) fun r => .ret (i_echelonc1_66da_out d1 d3 r)
noncomputable def i_echelonc1_66da_c : Ctr := ⟨[], fun ci => i_echelonc1_66da_G ci.args ci.roots⟩
theorem i_echelonc1_66da_env : EnvOK Try.prog i_echelonc1_66da_V := envOK_nil
set_option maxRecDepth 100000 in
theorem i_echelonc1_66da_ok : Contract Try.prog 51 i_echelonc1_66da_c := by
  have hl : LoopsOK i_echelonc1_66da_V [] i_echelonc1_66da_b := loopsOK_nil (by kernel_rfl)
  refine (contract_of (F := i_echelonc1_66da_I) tau_tys i_echelonc1_66da_env Try.func51 (by kernel_rfl) (by kernel_rfl) (by kernel_rfl) hl []).weaken ?_
  rintro ⟨av, rs⟩ co h
  have h : (i_echelonc1_66da_G av rs).run some = some co := h
  obtain ⟨a0_, av0, rfl, h_0⟩ := asCons_spec h
  obtain ⟨a1_, av1, rfl, h_1⟩ := asCons_spec h_0
  obtain ⟨rfl, h_2⟩ := asEnd_spec h_1
  obtain ⟨r0_, rs0, rfl, h_3⟩ := asCons_spec h_2
  obtain ⟨rfl, h_4⟩ := asEnd_spec h_3
  obtain ⟨d1, rfl, h_5⟩ := asImmZ_spec h_4
  obtain ⟨rfl, h_6⟩ := asPtr_spec h_5
  obtain ⟨m2, d3, rfl, h_7⟩ := asRt_spec h_6
  obtain ⟨rfl, h_8⟩ := asM_spec h_7
  exact fin_opt (i_echelonc1_66da_eq d1 d3) (i_echelonc1_66da_spec d1 d3) h_8

end Go.Proofs.Ytadgapcpogmpcaa

namespace Go.Proofs.Ytadgapcpogmpcaa
open Go Go.Abs Go.Proofs

/-! function 45: slices.IndexFunc[[]int64,int64] -/
noncomputable def slices_IndexFunc_int64_i_echelonc1_l2 (h2_0_0 : (List Int)) (h2_0_1 : Int) (h2_0_3 : Int) : Int → Tre (Int ⊕ (Int ⊕ Unit)) := fun s2 =>
  .cond (decide (s2 < h2_0_1))
    (.ite (0 ≤ s2 ∧ s2 < (h2_0_0.length : Int)) <|
    .mat (h2_0_0[s2.toNat]?) fun x1 =>
    .mat (bitB x1 h2_0_3) fun r2 =>
    .cond r2
      (.ret (.inr (.inl s2)))
      (.ret (.inl (iwrap .i64 (s2 + 1)))))
    (.ret (.inr (.inr ())))
noncomputable def slices_IndexFunc_int64_i_echelonc1 (p0 : (List Int)) (p1 : Int) : Tre Int :=
  .mat (loopF (slices_IndexFunc_int64_i_echelonc1_l2 p0 (p0.length : Int) p1) 0) fun l3 =>
  .alt l3
    (fun a4 =>
      .ret a4)
    (fun _ =>
      .ret (-1))
noncomputable def slices_IndexFunc_int64_i_echelonc1_F (p0 : (List Int)) (p1 : Int) : Option Int := (slices_IndexFunc_int64_i_echelonc1 p0 p1).run some
/-- the first row with a place -/
def idxB (xs : List Int) (j : Int) : Option Int := askO (decide (0 ≤ j) && decide (xs.length ≤ 1048576)) (idxI (fun x => bitAt x j) 0 xs)
theorem slices_IndexFunc_int64_i_echelonc1_spec (p0 : List Int) (p1 : Int) (y : Int) (h : idxB p0 p1 = some y) : slices_IndexFunc_int64_i_echelonc1_F p0 p1 = some y := by
  obtain ⟨hl, rfl⟩ := askO_some h
  rw [Bool.and_eq_true] at hl
  obtain ⟨hm, hl⟩ := hl
  have hl := of_decide_eq_true hl
  unfold slices_IndexFunc_int64_i_echelonc1_F slices_IndexFunc_int64_i_echelonc1
  rw [Tre.run_mat, find_loop (xs := p0) (fun i x => cond (bitAt x p1) (some (.inl (i : Int))) none) (.inr ())]
  · rw [Option.bind_some, ← findE_idx (p := fun x => bitAt x p1)]
    generalize findE _ _ _ _ = r
    cases r <;> rfl
  · intro i x hx
    have hi : i < p0.length := (List.getElem?_eq_some_iff.1 hx).1
    unfold slices_IndexFunc_int64_i_echelonc1_l2
    rw [run_inb hx, run_some_mat (show bitB x p1 = some _ from askO_true hm), Tre.run_cond]
    cases bitAt x p1
    · simp only [cond_false, Tre.run_ret, iwrap_succ (show i < 4611686018427387904 by omega)]
    · rfl
  · unfold slices_IndexFunc_int64_i_echelonc1_l2
    exact run_out

noncomputable def slices_IndexFunc_int64_i_echelonc1_V : Env := ⟨tau, [(51, i_echelonc1_66da_c)]⟩
noncomputable def slices_IndexFunc_int64_i_echelonc1_b : Code := (Try.f45.body).getD .skip
noncomputable def slices_IndexFunc_int64_i_echelonc1_l2_mk (z2_0 : Bool) (h2_0_0 : (List Int)) (h2_0_1 : Int) (h2_0_3 : Int) : Int → St := fun x => stOf [(0, (.imm z2_0 (.sl (.int .i64)) h2_0_0)), (1, (.fn 51 [(0, 0)])), (7, (.imm true (.int .i64) h2_0_1)), (8, (.imm true (.int .i64) x))] [((0, 0), some ⟨true, (.int .i64), .own, h2_0_3⟩)]
noncomputable def slices_IndexFunc_int64_i_echelonc1_l2_out (_z2_0 : Bool) (_h2_0_0 : (List Int)) (_h2_0_1 : Int) (h2_0_3 : Int) : (Int ⊕ Unit) → Ex × St
  | .inl x => (.ret, stOf [(4, (.imm true (.int .i64) x))] [((0, 0), some ⟨true, (.int .i64), .own, h2_0_3⟩)])
  | .inr x => (.exit 0, stOf [(4, .dead)] [((0, 0), some ⟨true, (.int .i64), .own, h2_0_3⟩)])
noncomputable def slices_IndexFunc_int64_i_echelonc1_l2_D (s : St) : Tre (Ex × St) :=
  asImm (.sl (.int .i64)) (s.tmps 0) fun z3 d2 =>
  asFn 51 [(0, 0)] (s.tmps 1) <|
  asImmZ true (.int .i64) (s.tmps 7) fun d6 =>
  asImmZ true (.int .i64) (s.tmps 8) fun d8 =>
  asRoot true (.int .i64) (s.roots (0, 0)) fun m10 d11 =>
  asM .own m10 <|
  .mat (loopF (slices_IndexFunc_int64_i_echelonc1_l2 d2 d6 d11) d8) fun x => .alt x (fun a0 => .ret (slices_IndexFunc_int64_i_echelonc1_l2_out z3 d2 d6 d11 (.inl a0))) (fun b0 => .ret (slices_IndexFunc_int64_i_echelonc1_l2_out z3 d2 d6 d11 (.inr b0)))
noncomputable def slices_IndexFunc_int64_i_echelonc1_l2_L : LoopI := ⟨([0, 1, 7, 8], [(0, 0)]), ([4], [(0, 0)]), slices_IndexFunc_int64_i_echelonc1_l2_D⟩
noncomputable def slices_IndexFunc_int64_i_echelonc1_A : List (Nat × LoopI) := [(2, slices_IndexFunc_int64_i_echelonc1_l2_L)]
set_option maxRecDepth 100000 in
theorem slices_IndexFunc_int64_i_echelonc1_l2_step : ∀ (z2_0 : Bool) (h2_0_0 : (List Int)) (h2_0_1 : Int) (h2_0_3 : Int) (x : Int) (c : St → Option (Ex × St)), den slices_IndexFunc_int64_i_echelonc1_V slices_IndexFunc_int64_i_echelonc1_A (loopAt slices_IndexFunc_int64_i_echelonc1_b 0) (slices_IndexFunc_int64_i_echelonc1_l2_mk z2_0 h2_0_0 h2_0_1 h2_0_3 x) (roundK slices_IndexFunc_int64_i_echelonc1_l2_L.kp slices_IndexFunc_int64_i_echelonc1_l2_L.kx c) = (slices_IndexFunc_int64_i_echelonc1_l2 h2_0_0 h2_0_1 h2_0_3 x).run (roundR (slices_IndexFunc_int64_i_echelonc1_l2_mk z2_0 h2_0_0 h2_0_1 h2_0_3) (slices_IndexFunc_int64_i_echelonc1_l2_out z2_0 h2_0_0 h2_0_1 h2_0_3) c) := fun _ _ _ _ _ _ => by
  kernel_rfl
theorem slices_IndexFunc_int64_i_echelonc1_l2_ok : LoopOK slices_IndexFunc_int64_i_echelonc1_V slices_IndexFunc_int64_i_echelonc1_A (loopAt slices_IndexFunc_int64_i_echelonc1_b 0) slices_IndexFunc_int64_i_echelonc1_l2_L := loopOK_of fun s e s' h => by
  generalize hs : restrict slices_IndexFunc_int64_i_echelonc1_l2_L.kp s = s1 at h
  have h : (slices_IndexFunc_int64_i_echelonc1_l2_D s1).run some = some (e, s') := h
  obtain ⟨z3, d2, e1, h_0⟩ := asImm_spec h
  obtain ⟨e4, h_1⟩ := asFn_spec h_0
  obtain ⟨d6, e5, h_2⟩ := asImmZ_spec h_1
  obtain ⟨d8, e7, h_3⟩ := asImmZ_spec h_2
  obtain ⟨m10, d11, e9, h_4⟩ := asRoot_spec h_3
  obtain ⟨rfl, h_5⟩ := asM_spec h_4
  obtain ⟨y, hy, hz⟩ := mat_some h_5
  refine ⟨_, _, slices_IndexFunc_int64_i_echelonc1_l2_mk z3 d2 d6 d11, slices_IndexFunc_int64_i_echelonc1_l2_out z3 d2 d6 d11, slices_IndexFunc_int64_i_echelonc1_l2 d2 d6 d11, d8, y, ?_, hy, ?_, slices_IndexFunc_int64_i_echelonc1_l2_step z3 d2 d6 d11⟩
  · subst hs; exact restrict_eq (T := [(0, (.imm z3 (.sl (.int .i64)) d2)), (1, (.fn 51 [(0, 0)])), (7, (.imm true (.int .i64) d6)), (8, (.imm true (.int .i64) d8))]) (U := [((0, 0), some ⟨true, (.int .i64), .own, d11⟩)]) rfl rfl ⟨e1, e4, e5, e7, trivial⟩ ⟨e9, trivial⟩
  · rcases y with x | x <;> exact Option.some.inj hz
noncomputable def slices_IndexFunc_int64_i_echelonc1_I : FnI := ⟨slices_IndexFunc_int64_i_echelonc1_b, Try.f45.results.toList, Try.f45.resultTypes.toList, slices_IndexFunc_int64_i_echelonc1_A⟩
noncomputable def slices_IndexFunc_int64_i_echelonc1_out (_zp0 : Bool) (_p0 : (List Int)) (p1 : Int) : Int → CallOut := fun r => ⟨(.imm true (.int .i64) r), [⟨true, (.int .i64), .own, p1⟩], []⟩
set_option maxRecDepth 100000 in
theorem slices_IndexFunc_int64_i_echelonc1_eq : ∀ (zp0 : Bool) (p0 : (List Int)) (p1 : Int), denFn slices_IndexFunc_int64_i_echelonc1_V slices_IndexFunc_int64_i_echelonc1_I ⟨[(.imm zp0 (.sl (.int .i64)) p0), (.fn 51 [(0, 0)])], [⟨true, (.int .i64), .own, p1⟩]⟩ = (slices_IndexFunc_int64_i_echelonc1 p0 p1).run fun r => some (slices_IndexFunc_int64_i_echelonc1_out zp0 p0 p1 r) := fun _ _ _ => by kernel_rfl
noncomputable def slices_IndexFunc_int64_i_echelonc1_G (av : List AV) (rs : List Root) : Tre CallOut :=
  asCons av fun a0_ av0 =>
  asCons av0 fun a1_ av1 =>
  asEnd av1 <|
  asCons rs fun r0_ rs0 =>
  asEnd rs0 <|
  asImm (.sl (.int .i64)) a0_ fun z2 d1 =>
  asFn 51 [(0, 0)] a1_ <|
  asRt true (.int .i64) r0_ fun m3 d4 =>
  asM .own m3 <|
  .mat (idxB d1 d4) fun r => .ret (slices_IndexFunc_int64_i_echelonc1_out z2 d1 d4 r)
noncomputable def slices_IndexFunc_int64_i_echelonc1_c : Ctr := ⟨[], fun ci => slices_IndexFunc_int64_i_echelonc1_G ci.args ci.roots⟩
theorem slices_IndexFunc_int64_i_echelonc1_env : EnvOK Try.prog slices_IndexFunc_int64_i_echelonc1_V := (envOK_cons i_echelonc1_66da_ok ent51 envOK_nil)
set_option maxRecDepth 100000 in
theorem slices_IndexFunc_int64_i_echelonc1_ok : Contract Try.prog 45 slices_IndexFunc_int64_i_echelonc1_c := by
  have hl : LoopsOK slices_IndexFunc_int64_i_echelonc1_V slices_IndexFunc_int64_i_echelonc1_A slices_IndexFunc_int64_i_echelonc1_b := (loopsOK_all (n := 1) (by kernel_rfl) fun k hk => by
      match k, hk with
      | 0, _ => exact loopOK_at (id := 2) (L := slices_IndexFunc_int64_i_echelonc1_l2_L) (by kernel_rfl) (by kernel_rfl) slices_IndexFunc_int64_i_echelonc1_l2_ok)
  refine (contract_of (F := slices_IndexFunc_int64_i_echelonc1_I) tau_tys slices_IndexFunc_int64_i_echelonc1_env Try.func45 (by kernel_rfl) (by kernel_rfl) (by kernel_rfl) hl []).weaken ?_
  rintro ⟨av, rs⟩ co h
  have h : (slices_IndexFunc_int64_i_echelonc1_G av rs).run some = some co := h
  obtain ⟨a0_, av0, rfl, h_0⟩ := asCons_spec h
  obtain ⟨a1_, av1, rfl, h_1⟩ := asCons_spec h_0
  obtain ⟨rfl, h_2⟩ := asEnd_spec h_1
  obtain ⟨r0_, rs0, rfl, h_3⟩ := asCons_spec h_2
  obtain ⟨rfl, h_4⟩ := asEnd_spec h_3
  obtain ⟨z2, d1, rfl, h_5⟩ := asImm_spec h_4
  obtain ⟨rfl, h_6⟩ := asFn_spec h_5
  obtain ⟨m3, d4, rfl, h_7⟩ := asRt_spec h_6
  obtain ⟨rfl, h_8⟩ := asM_spec h_7
  exact fin_opt (slices_IndexFunc_int64_i_echelonc1_eq z2 d1 d4) (slices_IndexFunc_int64_i_echelonc1_spec d1 d4) h_8

end Go.Proofs.Ytadgapcpogmpcaa

namespace Go.Proofs.Ytadgapcpogmpcaa
open Go Go.Abs Go.Proofs

/-! function 47: loop.example/g01144/impl.echelon -/
noncomputable def i_echelon_l10 (h10_0_0 : Int) (h10_0_1 : Int) (h10_0_4 : Int) : (Int × (List Int)) → Tre ((Int × (List Int)) ⊕ (List Int)) := fun s10 =>
  .cond (decide (s10.1 < h10_0_1))
    (.cond (!decide (s10.1 = h10_0_0))
      (.ite (0 ≤ s10.1 ∧ s10.1 < (s10.2.length : Int)) <|
      .mat (s10.2[s10.1.toNat]?) fun x9 =>
      .ite (0 ≤ h10_0_4) <|
      let v10 := iand .i64 (ishr .i64 x9 h10_0_4) 1
      .cond (decide (v10 = 1))
        (.ite (0 ≤ s10.1 ∧ s10.1 < (s10.2.length : Int)) <|
        .mat (s10.2[s10.1.toNat]?) fun x11 =>
        .ite (0 ≤ h10_0_0 ∧ h10_0_0 < (s10.2.length : Int)) <|
        .mat (s10.2[h10_0_0.toNat]?) fun x12 =>
        .ite (0 ≤ s10.1 ∧ s10.1 < (s10.2.length : Int)) <|
        .mat (s10.2[s10.1.toNat]?) fun _ =>
        let v14 := s10.2.set s10.1.toNat (ixor .i64 x11 x12)
        .ret (.inl (iwrap .i64 (s10.1 + 1), v14)))
        (.ret (.inl (iwrap .i64 (s10.1 + 1), s10.2))))
      (.ret (.inl (iwrap .i64 (s10.1 + 1), s10.2))))
    (.ret (.inr s10.2))
noncomputable def i_echelon_l4 : (Int × (List Int) × Int) → Tre ((Int × (List Int) × Int) ⊕ (Int × (List Int))) := fun s4 =>
  .cond (decide (s4.2.2 < 62))
    (.cond (decide (s4.1 < (s4.2.1.length : Int)))
      (.ite (0 ≤ s4.1 ∧ s4.1 ≤ (s4.2.1.length : Int) ∧ (s4.2.1.length : Int) ≤ (s4.2.1.length : Int)) <|
      .mat (idxB ((s4.2.1.drop s4.1.toNat).take (((s4.2.1.length : Int) - s4.1).toNat)) s4.2.2) fun r2 =>
      .cond (decide (r2 < 0))
        (.ret (.inl (s4.1, s4.2.1, iwrap .i64 (s4.2.2 + 1))))
        (.ite (0 ≤ iwrap .i64 (s4.1 + r2) ∧ iwrap .i64 (s4.1 + r2) < (s4.2.1.length : Int)) <|
        .mat (s4.2.1[(iwrap .i64 (s4.1 + r2)).toNat]?) fun x3 =>
        .ite (0 ≤ s4.1 ∧ s4.1 < (s4.2.1.length : Int)) <|
        .mat (s4.2.1[s4.1.toNat]?) fun x4 =>
        .ite (0 ≤ s4.1 ∧ s4.1 < (s4.2.1.length : Int)) <|
        .mat (s4.2.1[s4.1.toNat]?) fun _ =>
        let v6 := s4.2.1.set s4.1.toNat x3
        .ite (0 ≤ iwrap .i64 (s4.1 + r2) ∧ iwrap .i64 (s4.1 + r2) < (v6.length : Int)) <|
        .mat (v6[(iwrap .i64 (s4.1 + r2)).toNat]?) fun _ =>
        let v8 := v6.set ((iwrap .i64 (s4.1 + r2)).toNat) x4
        .mat (loopF (i_echelon_l10 s4.1 (v8.length : Int) s4.2.2) (0, v8)) fun l15 =>
        .ret (.inl (iwrap .i64 (s4.1 + 1), l15, iwrap .i64 (s4.2.2 + 1)))))
      (.ret (.inr (s4.1, s4.2.1))))
    (.ret (.inr (s4.1, s4.2.1)))
noncomputable def i_echelon (p0 : (List Int)) : Tre (List Int) :=
  .mat (cloneR p0) fun r1 =>
  .mat (loopF i_echelon_l4 (0, r1, 0)) fun l16 =>
  .ite (0 ≤ (0 : Int) ∧ (0 : Int) ≤ l16.1 ∧ l16.1 ≤ (l16.2.length : Int)) <|
  .ret ((l16.2.drop 0).take ((l16.1 - 0).toNat))
noncomputable def i_echelon_F (p0 : (List Int)) : Option (List Int) := (i_echelon p0).run some
/-- the reduced form of rows -/
noncomputable def echA (xs : List Int) : Option (List Int) := askO (okRows 62 xs) (echI xs)
theorem i_echelon_elim (k c r : Nat) (hc : c ≤ 62) (hr : r < 2 ^ 62) (A B : List Nat) (hk : A.length = k) (hb : ∀ n ∈ A ++ r :: B, n < 2 ^ 62) (hl : (A ++ r :: B).length ≤ 1048576) :
    loopF (i_echelon_l10 (k : Int) ((A ++ r :: B).length : Int) (c : Int)) (0, up (A ++ r :: B)) = some (up (A.map (elimB c r) ++ r :: B.map (elimB c r))) := by
  have hkr : (A ++ r :: B)[k]? = some r := by rw [List.getElem?_append_right (by omega), hk]; simp
  generalize hL : A ++ r :: B = l at *
  have := part_loop (step := i_echelon_l10 (k : Int) (l.length : Int) (c : Int)) (fun i x => if i = k then x else elimB c r x) l id (by
    intro i x hx
    have hi : i < l.length := (List.getElem?_eq_some_iff.1 hx).1
    have hx2 := up_at (part_at (g := fun i x => if i = k then x else elimB c r x) (i := i) hx)
    rw [if_neg (Nat.lt_irrefl i)] at hx2
    have hr2 := up_at (part_at (g := fun i x => if i = k then x else elimB c r x) (i := i) hkr)
    simp only [if_true, ite_self] at hr2
    have hxb := hb x (List.mem_of_getElem? hx)
    rw [← part_set hx]
    generalize hP : partB (fun i x => if i = k then x else elimB c r x) i l = P at *
    have hset : (up P).set i (x : Int) = up P := List.ext_getElem? fun j => by
      rw [List.getElem?_set]
      by_cases hj : i = j
      · subst hj; rw [if_pos rfl, hx2, if_pos (List.getElem?_eq_some_iff.1 hx2).1]
      · rw [if_neg hj]
    unfold i_echelon_l10
    rw [Tre.run_cond]
    show cond (decide ((i : Int) < (l.length : Int))) _ _ = _
    rw [show decide ((i : Int) < (l.length : Int)) = true from by simpa using hi, cond_true, Tre.run_cond]
    show cond (!decide ((i : Int) = (k : Int))) _ _ = _
    by_cases hik : i = k
    · rw [show decide ((i : Int) = (k : Int)) = true from decide_eq_true (by omega), Bool.not_true, cond_false, Tre.run_ret, iwrap_succ (by omega), if_pos hik, ← up_set, hset]
    · rw [show decide ((i : Int) = (k : Int)) = false from decide_eq_false (by omega), Bool.not_false, cond_true, run_at hx2, Tre.run_ite, if_pos (by omega), Tre.run_cond, if_neg hik]
      show cond (bitAt (x : Int) (c : Int)) _ _ = _
      rw [bitAt_nat (by omega) (by omega)]
      have he : elimB c r x = cond (x.testBit c) (x ^^^ r) x := rfl
      rw [he]
      cases x.testBit c
      · rw [cond_false, Tre.run_ret, iwrap_succ (by omega), cond_false, ← up_set, hset]
      · rw [cond_true, run_at hx2, run_at hr2, run_at hx2, Tre.run_ret, iwrap_succ (by omega), ixor_nat (by omega) (by omega), Int.toNat_natCast, cond_true, ← up_set])
    (by
    unfold i_echelon_l10
    exact run_out)
  rw [this, ← hL, mapIdx_pivot (f := elimB c r) (g := fun i x => if i = k then x else elimB c r x) (r := r) (B := B) hk (fun i x h => if_neg h) (if_pos rfl)]
  rfl
theorem i_echelon_loop (orig : List Nat) : ∀ (n c : Nat) (E : List (Nat × Nat)) (R : List Nat), c + n = 62 → Inv orig c E R → E.length + R.length ≤ 1048576 → (∀ x ∈ R, x < 2 ^ 62) → (∀ a ∈ E, a.2 < 2 ^ 62) →
    ∃ (E' L : List Nat), loopF i_echelon_l4 ((E.length : Int), up (E.map (·.2) ++ R), (c : Int)) = some ((E'.length : Int), up (E' ++ L)) ∧ IsEch orig E' := by
  intro n
  induction n with
  | zero =>
    intro c E R hc hI _ hR _
    have : c = 62 := hc
    subst this
    refine ⟨E.map (·.2), R, loopF_done ?_, hI.done fun x hx => zero_of_bits (hR x hx) (hI.low x hx)⟩
    unfold i_echelon_l4
    simp [Tre.run_cond, Tre.run_ret]
  | succ n ih =>
    intro c E R hc hI hl hR hEb
    have hcm : c < 62 := by omega
    have hlen : (up (E.map (·.2) ++ R)).length = E.length + R.length := by rw [up_len]; simp
    by_cases hR0 : R = []
    · subst hR0
      refine ⟨E.map (·.2), [], loopF_done ?_, hI.done fun x hx => by cases hx⟩
      unfold i_echelon_l4
      simp [Tre.run_cond, Tre.run_ret]
    have hRl : 0 < R.length := List.length_pos_iff.2 hR0
    have hstep : ∀ E2 R2, Inv orig (c + 1) E2 R2 → E2.length + R2.length ≤ 1048576 → (∀ x ∈ R2, x < 2 ^ 62) → (∀ a ∈ E2, a.2 < 2 ^ 62) → (i_echelon_l4 ((E.length : Int), up (E.map (·.2) ++ R), (c : Int))).run some = some (.inl ((E2.length : Int), up (E2.map (·.2) ++ R2), ((c + 1 : Nat) : Int))) →
        ∃ (E' L : List Nat), loopF i_echelon_l4 ((E.length : Int), up (E.map (·.2) ++ R), (c : Int)) = some ((E'.length : Int), up (E' ++ L)) ∧ IsEch orig E' := by
      intro E2 R2 h1 h2 h3 h4 h5
      rw [loopF_step h5]
      exact ih (c + 1) E2 R2 (by omega) h1 h2 h3 h4
    have hsub : ((up (E.map (·.2) ++ R)).drop E.length).take (((E.length + R.length : Nat) : Int) - (E.length : Int)).toNat = up R := by
      rw [show (((E.length + R.length : Nat) : Int) - (E.length : Int)).toNat = R.length from by omega]
      unfold up
      rw [List.map_append, List.drop_append_of_le_length (by simp), List.drop_of_length_le (by simp), List.nil_append, List.take_of_length_le (by simp)]
    have hfind : idxB (up R) (c : Int) = some _ := askO_true (by rw [up_len]; simp; omega)
    have hw : iwrap .i64 ((c : Int) + 1) = ((c + 1 : Nat) : Int) := iwrap_succ (by omega)
    have hdec : decide ((c : Int) < 62) = true := by simp; omega
    have hdec2 : decide ((E.length : Int) < ((E.length + R.length : Nat) : Int)) = true := by simp; omega
    rcases idxI_cases (fun x => bitAt x (c : Int)) (up R) 0 with ⟨h1, h2⟩ | ⟨j, x, h1, h2, h3⟩
    · refine hstep E R (hI.skip fun x hx => ?_) hl hR hEb ?_
      · have := h2 (x : Int) (List.mem_map.2 ⟨x, hx, rfl⟩)
        have hxb := hR x hx
        rwa [bitAt_nat (by omega) (by omega)] at this
      · unfold i_echelon_l4
        dsimp only
        rw [hlen, Tre.run_cond, hdec, cond_true, Tre.run_cond, hdec2, cond_true, Tre.run_ite, if_pos (by omega), Int.toNat_natCast, hsub, run_some_mat (hfind.trans (by rw [h1])), Tre.run_cond]
        simp only [show decide ((-1 : Int) < 0) = true from rfl, cond_true, Tre.run_ret, hw]
    · obtain ⟨r, hr1, rfl⟩ : ∃ r : Nat, R[j]? = some r ∧ (r : Int) = x := by
        simp only [up, List.getElem?_map, Option.map_eq_some_iff] at h1
        exact h1
      have hrm : r ∈ R := List.mem_of_getElem? hr1
      have hrb := hR r hrm
      rw [bitAt_nat (by omega) (by omega)] at h2
      rw [Nat.zero_add] at h3
      have hj : j < R.length := (List.getElem?_eq_some_iff.1 hr1).1
      obtain ⟨y, R', rfl⟩ : ∃ y R', R = y :: R' := by
        cases R with
        | nil => exact absurd rfl hR0
        | cons y R' => exact ⟨y, R', rfl⟩
      -- the rows behind the swap
      obtain ⟨B, hB, hB1, hB2, hBl⟩ : ∃ B, ((y :: R').set 0 r).set j y = r :: B ∧ (∀ x ∈ B, x ∈ y :: R') ∧ (∀ x ∈ y :: R', x = r ∨ x ∈ B) ∧ B.length = R'.length := by
        cases j with
        | zero =>
          have hyr : y = r := by simpa using hr1
          subst hyr
          exact ⟨R', by simp, fun x hx => .tail _ hx, fun x hx => by
            cases hx with
            | head => exact .inl rfl
            | tail _ hx => exact .inr hx, rfl⟩
        | succ j =>
          have hr1 : R'[j]? = some r := by simpa using hr1
          have hj' : j < R'.length := (List.getElem?_eq_some_iff.1 hr1).1
          refine ⟨R'.set j y, by simp, fun x hx => ?_, fun x hx => ?_, by simp⟩
          · rcases List.mem_or_eq_of_mem_set hx with hx | rfl
            · exact .tail _ hx
            · exact .head _
          · cases hx with
            | head => exact .inr (List.mem_set hj' _)
            | tail _ hx =>
              obtain ⟨i, hi⟩ := List.getElem?_of_mem hx
              by_cases hij : j = i
              · subst hij; rw [hr1] at hi; exact .inl (Option.some.inj hi).symm
              · exact .inr (List.mem_of_getElem? (i := i) (by rw [List.getElem?_set, if_neg hij, hi]))
      have hE2 : ((E.map fun a => (a.1, elimB c r a.2)) ++ [(c, r)]).map (·.2) = (E.map (·.2)).map (elimB c r) ++ [r] := by simp [List.map_map, Function.comp_def]
      have hRB : (E.map (·.2) ++ r :: B).length = E.length + (y :: R').length := by simp [hBl]
      have hall : ∀ x ∈ E.map (·.2) ++ r :: B, x < 2 ^ 62 := by
        intro x hx
        rcases List.mem_append.1 hx with hx | hx
        · obtain ⟨a, ha, rfl⟩ := List.mem_map.1 hx; exact hEb a ha
        · cases hx with
          | head => exact hrb
          | tail _ hx => exact hR x (hB1 x hx)
      refine hstep (E.map (fun a => (a.1, elimB c r a.2)) ++ [(c, r)]) (B.map (elimB c r)) (hI.step hrm h2 ?_ ?_) (by simp [hBl] at hl ⊢; omega) ?_ ?_ ?_
      · intro z hz
        obtain ⟨x, hx, rfl⟩ := List.mem_map.1 hz
        exact .inr ⟨x, hB1 x hx, rfl⟩
      · intro x hx
        rcases hB2 x hx with h | h
        · exact .inl h
        · exact .inr (List.mem_map.2 ⟨x, h, rfl⟩)
      · intro z hz
        obtain ⟨x, hx, rfl⟩ := List.mem_map.1 hz
        exact elimB_lt hrb (hR x (hB1 x hx))
      · intro a ha
        rcases List.mem_append.1 ha with ha | ha
        · obtain ⟨b, hb, rfl⟩ := List.mem_map.1 ha
          exact elimB_lt hrb (hEb b hb)
        · simp only [List.mem_singleton] at ha; subst ha; exact hrb
      · have e1 := i_echelon_elim E.length c r (by omega) hrb (E.map (·.2)) B (by simp) hall (by rw [hRB]; exact hl)
        have hkj : iwrap .i64 ((E.length : Int) + (j : Int)) = ((E.length + j : Nat) : Int) := by rw [iwrap_i64 (by omega) (by omega)]; omega
        have hat1 : (up (E.map (·.2) ++ y :: R'))[E.length + j]? = some (r : Int) := up_at (by rw [List.getElem?_append_right (by simp)]; simpa using hr1)
        have hat2 : (up (E.map (·.2) ++ y :: R'))[E.length]? = some (y : Int) := up_at (by rw [List.getElem?_append_right (by simp)]; simp)
        have hs1 : (up (E.map (·.2) ++ y :: R')).set E.length (r : Int) = up (E.map (·.2) ++ (y :: R').set 0 r) := by
          rw [up_set, List.set_append_right _ _ (by simp)]
          simp
        have hs2 : (up (E.map (·.2) ++ (y :: R').set 0 r)).set (E.length + j) (y : Int) = up (E.map (·.2) ++ r :: B) := by
          rw [up_set, List.set_append_right _ _ (by simp), ← hB]
          simp
        have hat3 : ∃ z, (up (E.map (·.2) ++ (y :: R').set 0 r))[E.length + j]? = some z := ⟨_, List.getElem?_eq_getElem (by rw [up_len]; simp at hj ⊢; omega)⟩
        obtain ⟨z, hat3⟩ := hat3
        have hlen3 : ((up (E.map (·.2) ++ r :: B)).length : Int) = ((E.map (·.2) ++ r :: B).length : Int) := by rw [up_len]
        unfold i_echelon_l4
        dsimp only
        rw [hlen, Tre.run_cond, hdec, cond_true, Tre.run_cond, hdec2, cond_true, Tre.run_ite, if_pos (by omega), Int.toNat_natCast, hsub, run_some_mat (hfind.trans (by rw [h3])), Tre.run_cond]
        rw [show decide ((j : Int) < 0) = false from by simp, cond_false, hkj, ← hlen, run_at hat1, run_at2 hat2, run_at2 hat2]
        rw [Int.toNat_natCast, hs1, run_at2 hat3, hs2, hlen3, run_some_mat e1, Tre.run_ret, iwrap_succ (by omega), hw, hE2]
        simp [List.append_assoc]
theorem i_echelon_spec (p0 : List Int) (y : List Int) (h : echA p0 = some y) : i_echelon_F p0 = some y := by
  obtain ⟨hl, rfl⟩ := askO_some h
  obtain ⟨ns, rfl, hlen, hb, hn⟩ := okRows_up hl
  obtain ⟨E, L, h1, h2⟩ := i_echelon_loop ns 62 0 [] ns (by omega) (Inv.start ns) (by simpa using hlen) hb (fun a ha => by cases ha)
  unfold i_echelon_F i_echelon
  have e1 : cloneR (up ns) = some (up ns) := lim_of (by rw [up_len]; exact hlen)
  have h1 : loopF i_echelon_l4 (0, up ns, 0) = some ((E.length : Int), up (E ++ L)) := h1
  rw [run_some_mat e1, run_some_mat h1, Tre.run_ite, if_pos (by rw [up_len]; simp; omega), Tre.run_ret]
  unfold echI
  rw [hn, ech_of h2]
  simp [up]

noncomputable def i_echelon_V : Env := ⟨tau, [(50, slices_Clone_int64_c), (45, slices_IndexFunc_int64_i_echelonc1_c)]⟩
noncomputable def i_echelon_b : Code := (Try.f47.body).getD .skip
noncomputable def i_echelon_l10_mk (h10_0_0 : Int) (h10_0_1 : Int) (h10_0_4 : Int) : (Int × (List Int)) → St := fun x => stOf [(0, (.ref (2, 0) [])), (3, (.imm true (.int .i64) h10_0_0)), (4, (.ptr (6, 0) [])), (45, (.imm true (.int .i64) h10_0_1)), (46, (.imm true (.int .i64) x.1))] [((2, 0), some ⟨false, (.sl (.int .i64)), .own, x.2⟩), ((6, 0), some ⟨true, (.int .i64), .own, h10_0_4⟩)]
noncomputable def i_echelon_l10_out (h10_0_0 : Int) (_h10_0_1 : Int) (h10_0_4 : Int) : (List Int) → Ex × St := fun x => (.exit 2, stOf [(0, (.ref (2, 0) [])), (3, (.imm true (.int .i64) h10_0_0)), (4, (.ptr (6, 0) []))] [((2, 0), some ⟨false, (.sl (.int .i64)), .own, x⟩), ((6, 0), some ⟨true, (.int .i64), .own, h10_0_4⟩)])
noncomputable def i_echelon_l10_D (s : St) : Tre (Ex × St) :=
  asRef (2, 0) [] (s.tmps 0) <|
  asImmZ true (.int .i64) (s.tmps 3) fun d3 =>
  asPtr (6, 0) [] (s.tmps 4) <|
  asImmZ true (.int .i64) (s.tmps 45) fun d6 =>
  asImmZ true (.int .i64) (s.tmps 46) fun d8 =>
  asRoot false (.sl (.int .i64)) (s.roots (2, 0)) fun m10 d11 =>
  asM .own m10 <|
  asRoot true (.int .i64) (s.roots (6, 0)) fun m13 d14 =>
  asM .own m13 <|
  .mat (loopF (i_echelon_l10 d3 d6 d14) (d8, d11)) fun x => .ret (i_echelon_l10_out d3 d6 d14 x)
noncomputable def i_echelon_l10_L : LoopI := ⟨([0, 3, 4, 45, 46], [(2, 0), (6, 0)]), ([0, 3, 4], [(2, 0), (6, 0)]), i_echelon_l10_D⟩
noncomputable def i_echelon_l4_mk : (Int × (List Int) × Int) → St := fun x => stOf [(0, (.ref (2, 0) [])), (3, (.imm true (.int .i64) x.1)), (4, (.ptr (6, 0) []))] [((2, 0), some ⟨false, (.sl (.int .i64)), .own, x.2.1⟩), ((6, 0), some ⟨true, (.int .i64), .own, x.2.2⟩)]
noncomputable def i_echelon_l4_out : (Int × (List Int)) → Ex × St := fun x => (.exit 0, stOf [(0, (.ref (2, 0) [])), (3, (.imm true (.int .i64) x.1))] [((2, 0), some ⟨false, (.sl (.int .i64)), .own, x.2⟩)])
noncomputable def i_echelon_l4_D (s : St) : Tre (Ex × St) :=
  asRef (2, 0) [] (s.tmps 0) <|
  asImmZ true (.int .i64) (s.tmps 3) fun d3 =>
  asPtr (6, 0) [] (s.tmps 4) <|
  asRoot false (.sl (.int .i64)) (s.roots (2, 0)) fun m6 d7 =>
  asM .own m6 <|
  asRoot true (.int .i64) (s.roots (6, 0)) fun m9 d10 =>
  asM .own m9 <|
  .mat (loopF i_echelon_l4 (d3, d7, d10)) fun x => .ret (i_echelon_l4_out x)
noncomputable def i_echelon_l4_L : LoopI := ⟨([0, 3, 4], [(2, 0), (6, 0)]), ([0, 3], [(2, 0)]), i_echelon_l4_D⟩
noncomputable def i_echelon_A : List (Nat × LoopI) := [(10, i_echelon_l10_L), (4, i_echelon_l4_L)]
set_option maxRecDepth 100000 in
theorem i_echelon_l10_step : ∀ (h10_0_0 : Int) (h10_0_1 : Int) (h10_0_4 : Int) (x : (Int × (List Int))) (c : St → Option (Ex × St)), den i_echelon_V i_echelon_A (loopAt i_echelon_b 1) (i_echelon_l10_mk h10_0_0 h10_0_1 h10_0_4 x) (roundK i_echelon_l10_L.kp i_echelon_l10_L.kx c) = (i_echelon_l10 h10_0_0 h10_0_1 h10_0_4 x).run (roundR (i_echelon_l10_mk h10_0_0 h10_0_1 h10_0_4) (i_echelon_l10_out h10_0_0 h10_0_1 h10_0_4) c) := fun _ _ _ _ _ => by
  kernel_rfl
theorem i_echelon_l10_ok : LoopOK i_echelon_V i_echelon_A (loopAt i_echelon_b 1) i_echelon_l10_L := loopOK_of fun s e s' h => by
  generalize hs : restrict i_echelon_l10_L.kp s = s1 at h
  have h : (i_echelon_l10_D s1).run some = some (e, s') := h
  obtain ⟨e1, h_0⟩ := asRef_spec h
  obtain ⟨d3, e2, h_1⟩ := asImmZ_spec h_0
  obtain ⟨e4, h_2⟩ := asPtr_spec h_1
  obtain ⟨d6, e5, h_3⟩ := asImmZ_spec h_2
  obtain ⟨d8, e7, h_4⟩ := asImmZ_spec h_3
  obtain ⟨m10, d11, e9, h_5⟩ := asRoot_spec h_4
  obtain ⟨rfl, h_6⟩ := asM_spec h_5
  obtain ⟨m13, d14, e12, h_7⟩ := asRoot_spec h_6
  obtain ⟨rfl, h_8⟩ := asM_spec h_7
  obtain ⟨y, hy, hz⟩ := mat_ret h_8
  refine ⟨_, _, i_echelon_l10_mk d3 d6 d14, i_echelon_l10_out d3 d6 d14, i_echelon_l10 d3 d6 d14, (d8, d11), y, ?_, hy, ?_, i_echelon_l10_step d3 d6 d14⟩
  · subst hs; exact restrict_eq (T := [(0, (.ref (2, 0) [])), (3, (.imm true (.int .i64) d3)), (4, (.ptr (6, 0) [])), (45, (.imm true (.int .i64) d6)), (46, (.imm true (.int .i64) d8))]) (U := [((2, 0), some ⟨false, (.sl (.int .i64)), .own, d11⟩), ((6, 0), some ⟨true, (.int .i64), .own, d14⟩)]) rfl rfl ⟨e1, e2, e4, e5, e7, trivial⟩ ⟨e9, e12, trivial⟩
  · exact Option.some.inj hz
set_option maxRecDepth 100000 in
theorem i_echelon_l4_step : ∀ (x : (Int × (List Int) × Int)) (c : St → Option (Ex × St)), den i_echelon_V i_echelon_A (loopAt i_echelon_b 0) (i_echelon_l4_mk x) (roundK i_echelon_l4_L.kp i_echelon_l4_L.kx c) = (i_echelon_l4 x).run (roundR (i_echelon_l4_mk) (i_echelon_l4_out) c) := fun _ _ => by
  kernel_rfl
theorem i_echelon_l4_ok : LoopOK i_echelon_V i_echelon_A (loopAt i_echelon_b 0) i_echelon_l4_L := loopOK_of fun s e s' h => by
  generalize hs : restrict i_echelon_l4_L.kp s = s1 at h
  have h : (i_echelon_l4_D s1).run some = some (e, s') := h
  obtain ⟨e1, h_0⟩ := asRef_spec h
  obtain ⟨d3, e2, h_1⟩ := asImmZ_spec h_0
  obtain ⟨e4, h_2⟩ := asPtr_spec h_1
  obtain ⟨m6, d7, e5, h_3⟩ := asRoot_spec h_2
  obtain ⟨rfl, h_4⟩ := asM_spec h_3
  obtain ⟨m9, d10, e8, h_5⟩ := asRoot_spec h_4
  obtain ⟨rfl, h_6⟩ := asM_spec h_5
  obtain ⟨y, hy, hz⟩ := mat_ret h_6
  refine ⟨_, _, i_echelon_l4_mk, i_echelon_l4_out, i_echelon_l4, (d3, d7, d10), y, ?_, hy, ?_, i_echelon_l4_step⟩
  · subst hs; exact restrict_eq (T := [(0, (.ref (2, 0) [])), (3, (.imm true (.int .i64) d3)), (4, (.ptr (6, 0) []))]) (U := [((2, 0), some ⟨false, (.sl (.int .i64)), .own, d7⟩), ((6, 0), some ⟨true, (.int .i64), .own, d10⟩)]) rfl rfl ⟨e1, e2, e4, trivial⟩ ⟨e5, e8, trivial⟩
  · exact Option.some.inj hz
noncomputable def i_echelon_I : FnI := ⟨i_echelon_b, Try.f47.results.toList, Try.f47.resultTypes.toList, i_echelon_A⟩
noncomputable def i_echelon_out (_zp0 : Bool) (_p0 : (List Int)) : (List Int) → CallOut := fun r => ⟨(.ref (1, 0) []), [], [⟨false, (.sl (.int .i64)), .own, r⟩]⟩
set_option maxRecDepth 100000 in
theorem i_echelon_eq : ∀ (zp0 : Bool) (p0 : (List Int)), denFn i_echelon_V i_echelon_I ⟨[(.imm zp0 (.sl (.int .i64)) p0)], []⟩ = (i_echelon p0).run fun r => some (i_echelon_out zp0 p0 r) := fun _ _ => by kernel_rfl
noncomputable def i_echelon_G (av : List AV) (rs : List Root) : Tre CallOut :=
  asCons av fun a0_ av0 =>
  asEnd av0 <|
  asEnd rs <|
  asImm (.sl (.int .i64)) a0_ fun z2 d1 =>
  .mat (echA d1) fun r => .ret (i_echelon_out z2 d1 r)
noncomputable def i_echelon_c : Ctr := ⟨[], fun ci => i_echelon_G ci.args ci.roots⟩
theorem i_echelon_env : EnvOK Try.prog i_echelon_V := (envOK_cons slices_Clone_int64_ok ent50 (envOK_cons slices_IndexFunc_int64_i_echelonc1_ok ent45 envOK_nil))
set_option maxRecDepth 100000 in
theorem i_echelon_ok : Contract Try.prog 47 i_echelon_c := by
  have hl : LoopsOK i_echelon_V i_echelon_A i_echelon_b := (loopsOK_all (n := 2) (by kernel_rfl) fun k hk => by
      match k, hk with
      | 0, _ => exact loopOK_at (id := 4) (L := i_echelon_l4_L) (by kernel_rfl) (by kernel_rfl) i_echelon_l4_ok
      | 1, _ => exact loopOK_at (id := 10) (L := i_echelon_l10_L) (by kernel_rfl) (by kernel_rfl) i_echelon_l10_ok)
  refine (contract_of (F := i_echelon_I) tau_tys i_echelon_env Try.func47 (by kernel_rfl) (by kernel_rfl) (by kernel_rfl) hl []).weaken ?_
  rintro ⟨av, rs⟩ co h
  have h : (i_echelon_G av rs).run some = some co := h
  obtain ⟨a0_, av0, rfl, h_0⟩ := asCons_spec h
  obtain ⟨rfl, h_1⟩ := asEnd_spec h_0
  obtain ⟨rfl, h_2⟩ := asEnd_spec h_1
  obtain ⟨z2, d1, rfl, h_3⟩ := asImm_spec h_2
  exact fin_opt (i_echelon_eq z2 d1) (i_echelon_spec d1) h_3

end Go.Proofs.Ytadgapcpogmpcaa

namespace Go.Proofs.Ytadgapcpogmpcaa
open Go Go.Abs Go.Proofs

/-! function 38: (loop.example/g01144/impl.Gather).missed -/
noncomputable def i_Gather_missed_l3 (h3_0_0 : (List Int)) (h3_0_1 : (List Int)) (h3_0_2 : Int) (h3_0_4 : (Int × (Int × ((List Int) × (Int × (Int × Unit)))))) : (Int × (List Int)) → Tre ((Int × (List Int)) ⊕ (List Int)) := fun s3 =>
  .cond (decide (s3.1 < h3_0_2))
    (.ite (0 ≤ s3.1 ∧ s3.1 < (h3_0_1.length : Int)) <|
    .mat (h3_0_1[s3.1.toNat]?) fun x1 =>
    .ite (0 ≤ h3_0_4.1) <|
    .ite (0 ≤ h3_0_4.1) <|
    let v2 := iwrap .i64 ((ishl .i64 1 h3_0_4.1) - 1)
    .mat (sumR h3_0_0 (iand .i64 x1 v2)) fun r3 =>
    let v4 := ixor .i64 (ishr .i64 x1 h3_0_4.1) r3
    .ite ((s3.2.length + 1) * 8 ≤ appendMax ∧ 1 ≤ 8) <|
    .ret (.inl (iwrap .i64 (s3.1 + 1), s3.2 ++ ([v4]))))
    (.ret (.inr s3.2))
noncomputable def i_Gather_missed (p0 : (Int × (Int × ((List Int) × (Int × (Int × Unit)))))) (p1 : (List Int)) (p2 : (List Int)) : Tre Int :=
  .mat (loopF (i_Gather_missed_l3 p2 p1 (p1.length : Int) p0) (0, [])) fun l5 =>
  .mat (echA l5) fun r6 =>
  .ret (r6.length : Int)
noncomputable def i_Gather_missed_F (p0 : (Int × (Int × ((List Int) × (Int × (Int × Unit)))))) (p1 : (List Int)) (p2 : (List Int)) : Option Int := (i_Gather_missed p0 p1 p2).run some
noncomputable def missI (g : Int × Int × List Int × Int × Int × Unit) (ps ds : List Int) : Option Int := missR ps ds g
theorem i_Gather_missed_spec (p0 : Int × Int × List Int × Int × Int × Unit) (p1 p2 : List Int) (y : Int) (h : missI p0 p1 p2 = some y) : i_Gather_missed_F p0 p1 p2 = some y := by
  obtain ⟨hok, rfl⟩ := askO_some h
  have hr := (missW_ok hok).2
  unfold okM at hok
  simp only [Bool.and_eq_true, decide_eq_true_eq, inR_iff] at hok
  obtain ⟨⟨⟨⟨⟨hk, hm⟩, hl1⟩, hl2⟩, hps⟩, hds⟩ := hok
  unfold i_Gather_missed_F i_Gather_missed
  have := fold_loop (xs := p1) (step := i_Gather_missed_l3 p2 p1 (p1.length : Int) p0) (fun i acc => ((i : Int), acc)) (fun _ acc x => .inl (acc ++ [missW p0 p2 x])) id (fun i acc => acc.length = i) (by
    intro i acc x hx hI
    have hi : i < p1.length := (List.getElem?_eq_some_iff.1 hx).1
    refine ⟨?_, fun a ha => by cases ha; simp [hI]⟩
    unfold i_Gather_missed_l3
    rw [run_inb hx, Tre.run_ite, if_pos (by omega), Tre.run_ite, if_pos (by omega)]
    dsimp only
    rw [top1_def, run_some_mat (show sumR p2 (iand .i64 x (top1 p0.1)) = some _ from lim_of hl2), Tre.run_ite, if_pos (by unfold appendMax; omega), Tre.run_ret, iwrap_succ (by omega)]
    rfl)
    (by
    intro acc _
    unfold i_Gather_missed_l3
    exact run_out) p1 0 [] rfl (Nat.zero_le _) rfl
  rw [foldE_map] at this
  have h1 : loopF (i_Gather_missed_l3 p2 p1 (p1.length : Int) p0) (0, []) = some (p1.map (missW p0 p2)) := this
  rw [run_some_mat h1, run_some_mat (show echA (p1.map (missW p0 p2)) = some _ from askO_true hr)]
  rfl

noncomputable def i_Gather_missed_V : Env := ⟨tau, [(46, i_sumOf_c), (47, i_echelon_c), (41, i_size_int64_c)]⟩
noncomputable def i_Gather_missed_b : Code := (Try.f38.body).getD .skip
noncomputable def i_Gather_missed_l3_mk (z3_0 : Bool) (z3_1 : Bool) (z3_2 : Bool) (h3_0_0 : (List Int)) (h3_0_1 : (List Int)) (h3_0_2 : Int) (h3_0_4 : (Int × (Int × ((List Int) × (Int × (Int × Unit)))))) : (Int × (List Int)) → St := fun x => stOf [(2, (.imm z3_0 (.sl (.int .i64)) h3_0_0)), (3, (.ptr (5, 0) [])), (7, (.ref (9, 0) [])), (11, (.imm z3_1 (.sl (.int .i64)) h3_0_1)), (12, (.imm true (.int .i64) h3_0_2)), (13, (.imm true (.int .i64) x.1))] [((5, 0), some ⟨true, kGather, (.imm z3_2), h3_0_4⟩), ((9, 0), some ⟨false, (.sl (.int .i64)), .own, x.2⟩)]
noncomputable def i_Gather_missed_l3_out (_z3_0 : Bool) (_z3_1 : Bool) (_z3_2 : Bool) (_h3_0_0 : (List Int)) (_h3_0_1 : (List Int)) (_h3_0_2 : Int) (_h3_0_4 : (Int × (Int × ((List Int) × (Int × (Int × Unit)))))) : (List Int) → Ex × St := fun x => (.exit 0, stOf [(7, (.ref (9, 0) []))] [((9, 0), some ⟨false, (.sl (.int .i64)), .own, x⟩)])
noncomputable def i_Gather_missed_l3_D (s : St) : Tre (Ex × St) :=
  asImm (.sl (.int .i64)) (s.tmps 2) fun z3 d2 =>
  asPtr (5, 0) [] (s.tmps 3) <|
  asRef (9, 0) [] (s.tmps 7) <|
  asImm (.sl (.int .i64)) (s.tmps 11) fun z8 d7 =>
  asImmZ true (.int .i64) (s.tmps 12) fun d10 =>
  asImmZ true (.int .i64) (s.tmps 13) fun d12 =>
  asRoot true kGather (s.roots (5, 0)) fun m14 d15 =>
  asMImm m14 fun z16 =>
  asRoot false (.sl (.int .i64)) (s.roots (9, 0)) fun m18 d19 =>
  asM .own m18 <|
  .mat (loopF (i_Gather_missed_l3 d2 d7 d10 d15) (d12, d19)) fun x => .ret (i_Gather_missed_l3_out z3 z8 z16 d2 d7 d10 d15 x)
noncomputable def i_Gather_missed_l3_L : LoopI := ⟨([2, 3, 7, 11, 12, 13], [(5, 0), (9, 0)]), ([7], [(9, 0)]), i_Gather_missed_l3_D⟩
noncomputable def i_Gather_missed_A : List (Nat × LoopI) := [(3, i_Gather_missed_l3_L)]
set_option maxRecDepth 100000 in
theorem i_Gather_missed_l3_step : ∀ (z3_0 : Bool) (z3_1 : Bool) (z3_2 : Bool) (h3_0_0 : (List Int)) (h3_0_1 : (List Int)) (h3_0_2 : Int) (h3_0_4 : (Int × (Int × ((List Int) × (Int × (Int × Unit)))))) (x : (Int × (List Int))) (c : St → Option (Ex × St)), den i_Gather_missed_V i_Gather_missed_A (loopAt i_Gather_missed_b 0) (i_Gather_missed_l3_mk z3_0 z3_1 z3_2 h3_0_0 h3_0_1 h3_0_2 h3_0_4 x) (roundK i_Gather_missed_l3_L.kp i_Gather_missed_l3_L.kx c) = (i_Gather_missed_l3 h3_0_0 h3_0_1 h3_0_2 h3_0_4 x).run (roundR (i_Gather_missed_l3_mk z3_0 z3_1 z3_2 h3_0_0 h3_0_1 h3_0_2 h3_0_4) (i_Gather_missed_l3_out z3_0 z3_1 z3_2 h3_0_0 h3_0_1 h3_0_2 h3_0_4) c) := fun _ _ _ _ _ _ _ _ _ => by
  kernel_rfl
theorem i_Gather_missed_l3_ok : LoopOK i_Gather_missed_V i_Gather_missed_A (loopAt i_Gather_missed_b 0) i_Gather_missed_l3_L := loopOK_of fun s e s' h => by
  generalize hs : restrict i_Gather_missed_l3_L.kp s = s1 at h
  have h : (i_Gather_missed_l3_D s1).run some = some (e, s') := h
  obtain ⟨z3, d2, e1, h_0⟩ := asImm_spec h
  obtain ⟨e4, h_1⟩ := asPtr_spec h_0
  obtain ⟨e5, h_2⟩ := asRef_spec h_1
  obtain ⟨z8, d7, e6, h_3⟩ := asImm_spec h_2
  obtain ⟨d10, e9, h_4⟩ := asImmZ_spec h_3
  obtain ⟨d12, e11, h_5⟩ := asImmZ_spec h_4
  obtain ⟨m14, d15, e13, h_6⟩ := asRoot_spec h_5
  obtain ⟨z16, rfl, h_7⟩ := asMImm_spec h_6
  obtain ⟨m18, d19, e17, h_8⟩ := asRoot_spec h_7
  obtain ⟨rfl, h_9⟩ := asM_spec h_8
  obtain ⟨y, hy, hz⟩ := mat_ret h_9
  refine ⟨_, _, i_Gather_missed_l3_mk z3 z8 z16 d2 d7 d10 d15, i_Gather_missed_l3_out z3 z8 z16 d2 d7 d10 d15, i_Gather_missed_l3 d2 d7 d10 d15, (d12, d19), y, ?_, hy, ?_, i_Gather_missed_l3_step z3 z8 z16 d2 d7 d10 d15⟩
  · subst hs; exact restrict_eq (T := [(2, (.imm z3 (.sl (.int .i64)) d2)), (3, (.ptr (5, 0) [])), (7, (.ref (9, 0) [])), (11, (.imm z8 (.sl (.int .i64)) d7)), (12, (.imm true (.int .i64) d10)), (13, (.imm true (.int .i64) d12))]) (U := [((5, 0), some ⟨true, kGather, (.imm z16), d15⟩), ((9, 0), some ⟨false, (.sl (.int .i64)), .own, d19⟩)]) rfl rfl ⟨e1, e4, e5, e6, e9, e11, trivial⟩ ⟨e13, e17, trivial⟩
  · exact Option.some.inj hz
noncomputable def i_Gather_missed_I : FnI := ⟨i_Gather_missed_b, Try.f38.results.toList, Try.f38.resultTypes.toList, i_Gather_missed_A⟩
noncomputable def i_Gather_missed_out (_zp0 : Bool) (_zp1 : Bool) (_zp2 : Bool) (_p0 : (Int × (Int × ((List Int) × (Int × (Int × Unit)))))) (_p1 : (List Int)) (_p2 : (List Int)) : Int → CallOut := fun r => ⟨(.imm true (.int .i64) r), [], []⟩
set_option maxRecDepth 100000 in
theorem i_Gather_missed_eq : ∀ (zp0 : Bool) (zp1 : Bool) (zp2 : Bool) (p0 : (Int × (Int × ((List Int) × (Int × (Int × Unit)))))) (p1 : (List Int)) (p2 : (List Int)), denFn i_Gather_missed_V i_Gather_missed_I ⟨[(.imm zp0 kGather p0), (.imm zp1 (.sl (.int .i64)) p1), (.imm zp2 (.sl (.int .i64)) p2)], []⟩ = (i_Gather_missed p0 p1 p2).run fun r => some (i_Gather_missed_out zp0 zp1 zp2 p0 p1 p2 r) := fun _ _ _ _ _ _ => by kernel_rfl
noncomputable def i_Gather_missed_G (av : List AV) (rs : List Root) : Tre CallOut :=
  asCons av fun a0_ av0 =>
  asCons av0 fun a1_ av1 =>
  asCons av1 fun a2_ av2 =>
  asEnd av2 <|
  asEnd rs <|
  asImm kGather a0_ fun z2 d1 =>
  asImm (.sl (.int .i64)) a1_ fun z4 d3 =>
  asImm (.sl (.int .i64)) a2_ fun z6 d5 =>
  .mat (missI d1 d3 d5) fun r => .ret (i_Gather_missed_out z2 z4 z6 d1 d3 d5 r)
noncomputable def i_Gather_missed_c : Ctr := ⟨[], fun ci => i_Gather_missed_G ci.args ci.roots⟩
theorem i_Gather_missed_env : EnvOK Try.prog i_Gather_missed_V := (envOK_cons i_sumOf_ok ent46 (envOK_cons i_echelon_ok ent47 (envOK_cons i_size_int64_ok ent41 envOK_nil)))
set_option maxRecDepth 100000 in
theorem i_Gather_missed_ok : Contract Try.prog 38 i_Gather_missed_c := by
  have hl : LoopsOK i_Gather_missed_V i_Gather_missed_A i_Gather_missed_b := (loopsOK_all (n := 1) (by kernel_rfl) fun k hk => by
      match k, hk with
      | 0, _ => exact loopOK_at (id := 3) (L := i_Gather_missed_l3_L) (by kernel_rfl) (by kernel_rfl) i_Gather_missed_l3_ok)
  refine (contract_of (F := i_Gather_missed_I) tau_tys i_Gather_missed_env Try.func38 (by kernel_rfl) (by kernel_rfl) (by kernel_rfl) hl []).weaken ?_
  rintro ⟨av, rs⟩ co h
  have h : (i_Gather_missed_G av rs).run some = some co := h
  obtain ⟨a0_, av0, rfl, h_0⟩ := asCons_spec h
  obtain ⟨a1_, av1, rfl, h_1⟩ := asCons_spec h_0
  obtain ⟨a2_, av2, rfl, h_2⟩ := asCons_spec h_1
  obtain ⟨rfl, h_3⟩ := asEnd_spec h_2
  obtain ⟨rfl, h_4⟩ := asEnd_spec h_3
  obtain ⟨z2, d1, rfl, h_5⟩ := asImm_spec h_4
  obtain ⟨z4, d3, rfl, h_6⟩ := asImm_spec h_5
  obtain ⟨z6, d5, rfl, h_7⟩ := asImm_spec h_6
  exact fin_opt (i_Gather_missed_eq z2 z4 z6 d1 d3 d5) (i_Gather_missed_spec d1 d3 d5) h_7

end Go.Proofs.Ytadgapcpogmpcaa

namespace Go.Proofs.Ytadgapcpogmpcaa
open Go Go.Abs Go.Proofs

/-! function 23: loop.example/g01144/impl.MissedBy -/
noncomputable def i_MissedBy (p0 : (Int × (Int × ((List Int) × (Int × (Int × Unit)))))) (p1 : (List Int)) (p2 : (List Int)) : Tre (Int × Int) :=
  .mat (okG p0) fun r1 =>
  .cond (!r1)
    (.ret (0, 1))
    (.cond (decide ((p1.length : Int) > 10))
      (.ret (0, 2))
      (.mat (hasM p1 p0) fun r2 =>
      .cond r2
        (.ret (0, 2))
        (.mat (isDat p0 p2) fun r3 =>
        .cond (!r3)
          (.ret (0, 2))
          (.mat (missI p0 p1 p2) fun r4 =>
          .ret (r4, 0)))))
noncomputable def i_MissedBy_F (p0 : (Int × (Int × ((List Int) × (Int × (Int × Unit)))))) (p1 : (List Int)) (p2 : (List Int)) : Option (Int × Int) := (i_MissedBy p0 p1 p2).run some
theorem i_MissedBy_spec (p0 : Int × Int × List Int × Int × Int × Unit) (p1 p2 : List Int) (y : Int × Int) (h : missB p0 p1 p2 = some y) : i_MissedBy_F p0 p1 p2 = some y := by
  obtain ⟨hok, rfl⟩ := askO_some h
  simp only [Bool.and_eq_true, decide_eq_true_eq] at hok
  obtain ⟨⟨h0, h1⟩, h2⟩ := hok
  unfold i_MissedBy_F i_MissedBy missV
  rw [run_some_mat (show okG p0 = some _ from lim_of h0), Tre.run_cond]
  cases hg : isG p0
  · rfl
  have hb := isG_bounds hg
  rw [Bool.not_true, cond_false, cond_true, Tre.run_cond]
  cases decide ((p1.length : Int) > 10)
  rotate_left
  · rfl
  have hc : iwrap .i64 (p0.1 + p0.2.1) = p0.1 + p0.2.1 := iwrap_i64 (by omega) (by omega)
  have ha : (p1.any fun x => !inP (p0.1 + p0.2.1) x) = !p1.all (inP (p0.1 + p0.2.1)) := by rw [List.all_eq_not_any_not, Bool.not_not]
  rw [cond_false, cond_false, run_some_mat (show hasM p1 p0 = some _ from askO_true (by rw [hc]; simp; omega)), hc, ha, Tre.run_cond]
  cases hp : p1.all (inP (p0.1 + p0.2.1))
  · rfl
  rw [Bool.not_true, cond_false, cond_true, run_some_mat (show isDat p0 p2 = some _ from askO_true (by simp; omega)), Tre.run_cond]
  cases hd : decide ((p2.length : Int) = p0.1)
  · rfl
  cases hq : p2.all (inP p0.2.1)
  · rfl
  rw [Bool.and_true, Bool.not_true, cond_false, cond_true, cond_true, run_some_mat (show missI p0 p1 p2 = some _ from askO_true (by
    unfold okM
    simp only [Bool.and_eq_true, decide_eq_true_eq, inR_iff]
    exact ⟨⟨⟨⟨⟨hb.1, hb.2⟩, h1⟩, h2⟩, hp⟩, hq⟩))]
  rfl

noncomputable def i_MissedBy_V : Env := ⟨tau, [(13, i_ValidGather_c), (36, slices_ContainsFunc_int64_i_MissedByc1_c), (30, i_Gather_isData_c), (38, i_Gather_missed_c)]⟩
noncomputable def i_MissedBy_b : Code := (Try.f23.body).getD .skip
noncomputable def i_MissedBy_I : FnI := ⟨i_MissedBy_b, Try.f23.results.toList, Try.f23.resultTypes.toList, []⟩
noncomputable def i_MissedBy_out (_zp0 : Bool) (_zp1 : Bool) (_zp2 : Bool) (_p0 : (Int × (Int × ((List Int) × (Int × (Int × Unit)))))) (_p1 : (List Int)) (_p2 : (List Int)) : (Int × Int) → CallOut := fun r => ⟨(.tcons (.imm true (.int .i64) r.1) (.tcons (.imm true (.int .i64) r.2) .tnil)), [], []⟩
set_option maxRecDepth 100000 in
theorem i_MissedBy_eq : ∀ (zp0 : Bool) (zp1 : Bool) (zp2 : Bool) (p0 : (Int × (Int × ((List Int) × (Int × (Int × Unit)))))) (p1 : (List Int)) (p2 : (List Int)), denFn i_MissedBy_V i_MissedBy_I ⟨[(.imm zp0 kGather p0), (.imm zp1 (.sl (.int .i64)) p1), (.imm zp2 (.sl (.int .i64)) p2)], []⟩ = (i_MissedBy p0 p1 p2).run fun r => some (i_MissedBy_out zp0 zp1 zp2 p0 p1 p2 r) := fun _ _ _ _ _ _ => by kernel_rfl
noncomputable def i_MissedBy_G (av : List AV) (rs : List Root) : Tre CallOut :=
  asCons av fun a0_ av0 =>
  asCons av0 fun a1_ av1 =>
  asCons av1 fun a2_ av2 =>
  asEnd av2 <|
  asEnd rs <|
  asImm kGather a0_ fun z2 d1 =>
  asImm (.sl (.int .i64)) a1_ fun z4 d3 =>
  asImm (.sl (.int .i64)) a2_ fun z6 d5 =>
  .mat (missB d1 d3 d5) fun r => .ret (i_MissedBy_out z2 z4 z6 d1 d3 d5 r)
noncomputable def i_MissedBy_c : Ctr := ⟨[], fun ci => i_MissedBy_G ci.args ci.roots⟩
theorem i_MissedBy_env : EnvOK Try.prog i_MissedBy_V := (envOK_cons i_ValidGather_ok ent13 (envOK_cons slices_ContainsFunc_int64_i_MissedByc1_ok ent36 (envOK_cons i_Gather_isData_ok ent30 (envOK_cons i_Gather_missed_ok ent38 envOK_nil))))
set_option maxRecDepth 100000 in
theorem i_MissedBy_ok : Contract Try.prog 23 i_MissedBy_c := by
  have hl : LoopsOK i_MissedBy_V [] i_MissedBy_b := loopsOK_nil (by kernel_rfl)
  refine (contract_of (F := i_MissedBy_I) tau_tys i_MissedBy_env Try.func23 (by kernel_rfl) (by kernel_rfl) (by kernel_rfl) hl []).weaken ?_
  rintro ⟨av, rs⟩ co h
  have h : (i_MissedBy_G av rs).run some = some co := h
  obtain ⟨a0_, av0, rfl, h_0⟩ := asCons_spec h
  obtain ⟨a1_, av1, rfl, h_1⟩ := asCons_spec h_0
  obtain ⟨a2_, av2, rfl, h_2⟩ := asCons_spec h_1
  obtain ⟨rfl, h_3⟩ := asEnd_spec h_2
  obtain ⟨rfl, h_4⟩ := asEnd_spec h_3
  obtain ⟨z2, d1, rfl, h_5⟩ := asImm_spec h_4
  obtain ⟨z4, d3, rfl, h_6⟩ := asImm_spec h_5
  obtain ⟨z6, d5, rfl, h_7⟩ := asImm_spec h_6
  exact fin_opt (i_MissedBy_eq z2 z4 z6 d1 d3 d5) (i_MissedBy_spec d1 d3 d5) h_7

end Go.Proofs.Ytadgapcpogmpcaa

namespace Go.Proofs.Ytadgapcpogmpcaa
open Go Go.Abs Go.Proofs

/-! function 6: loop.example/g01144/laws.FnExactMissedBy -/
noncomputable def l_FnExactMissedBy (p0 : (Int × (Int × ((List Int) × (Int × (Int × Unit)))))) (p1 : (List Int)) (p2 : (List Int)) : Tre Bool :=
  .cond (decide ((p1.length : Int) > 1048576))
    (.ret true)
    (.cond (decide ((p2.length : Int) > 1048576))
      (.ret true)
      (.cond (decide ((l_szGather_S p0 1048576) < 0))
        (.ret true)
        (.mat (toG p0) fun r1 =>
        .mat (cloneR p1) fun r2 =>
        .mat (cloneR p2) fun r3 =>
        .mat (missB (r1.1, (r1.2.1, (r1.2.2.2, r1.2.2.1))) r2 r3) fun r4 =>
        .mat (toG p0) fun r5 =>
        .mat (cloneR p1) fun r6 =>
        .mat (cloneR p2) fun r7 =>
        .mat (missB (r5.1, (r5.2.1, (r5.2.2.2, r5.2.2.1))) r6 r7) fun r8 =>
        .cond (!decide (r8.1 = r4.1))
          (.ret false)
          (.cond (!decide (r8.2 = r4.2))
            (.ret false)
            (.mat (toG p0) fun r9 =>
            .mat (eqG (r5.1, (r5.2.1, (r5.2.2.2, r5.2.2.1))) (r9.1, (r9.2.1, (r9.2.2.2, r9.2.2.1)))) fun r10 =>
            .cond (!r10)
              (.ret false)
              (.mat (cloneR p1) fun r11 =>
              .mat (eqS r6 r11) fun r12 =>
              .cond (!r12)
                (.ret false)
                (.mat (cloneR p2) fun r13 =>
                .mat (eqS r7 r13) fun r14 =>
                .cond (!r14)
                  (.ret false)
                  (.ret true))))))))
noncomputable def l_FnExactMissedBy_F (p0 : (Int × (Int × ((List Int) × (Int × (Int × Unit)))))) (p1 : (List Int)) (p2 : (List Int)) : Option Bool := (l_FnExactMissedBy p0 p1 p2).run some
-- law
theorem l_FnExactMissedBy_law (p0 : Int × Int × List Int × Int × Int × Unit) (p1 p2 : List Int) (hw : kGather.wf p0) (h1 : (K.sl (.int .i64)).wf p1) (h2 : (K.sl (.int .i64)).wf p2) : l_FnExactMissedBy_F p0 p1 p2 = some true := by
  unfold l_FnExactMissedBy_F l_FnExactMissedBy
  rw [Tre.run_cond, Tre.run_cond, Tre.run_cond]
  by_cases hp : (p1.length : Int) > 1048576
  · rw [decide_eq_true hp]; rfl
  by_cases hq : (p2.length : Int) > 1048576
  · rw [decide_eq_true hq, decide_eq_false hp]; rfl
  by_cases hs : l_szGather_S p0 1048576 < 0
  · rw [decide_eq_true hs, decide_eq_false hp, decide_eq_false hq]; rfl
  have hl := l_szGather_len hw.2.2.1.1 hs
  have hp' : p1.length ≤ 1048576 := by omega
  have hq' : p2.length ≤ 1048576 := by omega
  rw [decide_eq_false hs, decide_eq_false hp, decide_eq_false hq, cond_false, cond_false, cond_false]
  have e1 : toG p0 = _ := lim_of hl
  have e2 : cloneR p1 = _ := lim_of hp'
  have e3 : cloneR p2 = _ := lim_of hq'
  have e4 : missB p0 p1 p2 = some (missV p0 p1 p2) := askO_true (by simp [hl, hp', hq'])
  have e5 : eqG p0 p0 = _ := eqR_self hl
  have e6 : eqS p1 p1 = _ := eqR_self hp'
  have e7 : eqS p2 p2 = _ := eqR_self hq'
  rw [run_some_mat e1, run_some_mat e2, run_some_mat e3, run_some_mat (x := missV p0 p1 p2) e4, run_some_mat e1, run_some_mat e2, run_some_mat e3, run_some_mat (x := missV p0 p1 p2) e4]
  simp only [Tre.run_cond, decide_true, Bool.not_true, cond_false]
  rw [run_some_mat e1, run_some_mat (x := true) e5, Tre.run_cond, Bool.not_true, cond_false, run_some_mat e2, run_some_mat (x := true) e6, Tre.run_cond, Bool.not_true, cond_false, run_some_mat e3, run_some_mat (x := true) e7]
  rfl

noncomputable def l_FnExactMissedBy_V : Env := ⟨tau, [(10, l_szGather_c), (12, l_toGather_c), (22, l_toInt64S_c), (21, s_MissedBy_c), (23, i_MissedBy_c), (14, l_eqGather_c), (17, l_eqInt64S_c)]⟩
noncomputable def l_FnExactMissedBy_b : Code := (Try.f6.body).getD .skip
noncomputable def l_FnExactMissedBy_I : FnI := ⟨l_FnExactMissedBy_b, Try.f6.results.toList, Try.f6.resultTypes.toList, []⟩
noncomputable def l_FnExactMissedBy_out (_zp0 : Bool) (_zp1 : Bool) (_zp2 : Bool) (_p0 : (Int × (Int × ((List Int) × (Int × (Int × Unit)))))) (_p1 : (List Int)) (_p2 : (List Int)) : Bool → CallOut := fun r => ⟨(.imm true .bool r), [], []⟩
set_option maxRecDepth 100000 in
theorem l_FnExactMissedBy_eq : ∀ (zp0 : Bool) (zp1 : Bool) (zp2 : Bool) (p0 : (Int × (Int × ((List Int) × (Int × (Int × Unit)))))) (p1 : (List Int)) (p2 : (List Int)), denFn l_FnExactMissedBy_V l_FnExactMissedBy_I ⟨[(.imm zp0 kGather p0), (.imm zp1 (.sl (.int .i64)) p1), (.imm zp2 (.sl (.int .i64)) p2)], []⟩ = (l_FnExactMissedBy p0 p1 p2).run fun r => some (l_FnExactMissedBy_out zp0 zp1 zp2 p0 p1 p2 r) := fun _ _ _ _ _ _ => by kernel_rfl
noncomputable def l_FnExactMissedBy_G (av : List AV) (rs : List Root) : Tre CallOut :=
  asCons av fun a0_ av0 =>
  asCons av0 fun a1_ av1 =>
  asCons av1 fun a2_ av2 =>
  asEnd av2 <|
  asEnd rs <|
  asImm kGather a0_ fun z2 d1 =>
  asImm (.sl (.int .i64)) a1_ fun z4 d3 =>
  asImm (.sl (.int .i64)) a2_ fun z6 d5 =>
  .mat (l_FnExactMissedBy_F d1 d3 d5) fun r => .ret (l_FnExactMissedBy_out z2 z4 z6 d1 d3 d5 r)
noncomputable def l_FnExactMissedBy_c : Ctr := ⟨[], fun ci => l_FnExactMissedBy_G ci.args ci.roots⟩
theorem l_FnExactMissedBy_env : EnvOK Try.prog l_FnExactMissedBy_V := (envOK_cons l_szGather_ok ent10 (envOK_cons l_toGather_ok ent12 (envOK_cons l_toInt64S_ok ent22 (envOK_cons s_MissedBy_ok ent21 (envOK_cons i_MissedBy_ok ent23 (envOK_cons l_eqGather_ok ent14 (envOK_cons l_eqInt64S_ok ent17 envOK_nil)))))))
set_option maxRecDepth 100000 in
theorem l_FnExactMissedBy_ok : Contract Try.prog 6 l_FnExactMissedBy_c := by
  have hl : LoopsOK l_FnExactMissedBy_V [] l_FnExactMissedBy_b := loopsOK_nil (by kernel_rfl)
  refine (contract_of (F := l_FnExactMissedBy_I) tau_tys l_FnExactMissedBy_env Try.func6 (by kernel_rfl) (by kernel_rfl) (by kernel_rfl) hl []).weaken ?_
  rintro ⟨av, rs⟩ co h
  have h : (l_FnExactMissedBy_G av rs).run some = some co := h
  obtain ⟨a0_, av0, rfl, h_0⟩ := asCons_spec h
  obtain ⟨a1_, av1, rfl, h_1⟩ := asCons_spec h_0
  obtain ⟨a2_, av2, rfl, h_2⟩ := asCons_spec h_1
  obtain ⟨rfl, h_3⟩ := asEnd_spec h_2
  obtain ⟨rfl, h_4⟩ := asEnd_spec h_3
  obtain ⟨z2, d1, rfl, h_5⟩ := asImm_spec h_4
  obtain ⟨z4, d3, rfl, h_6⟩ := asImm_spec h_5
  obtain ⟨z6, d5, rfl, h_7⟩ := asImm_spec h_6
  exact fin_mat (l_FnExactMissedBy_eq z2 z4 z6 d1 d3 d5) h_7

end Go.Proofs.Ytadgapcpogmpcaa
