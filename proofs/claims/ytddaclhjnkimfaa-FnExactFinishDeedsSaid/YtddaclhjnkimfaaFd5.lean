/- Part 5 of the proof of FnExactFinishDeeds. -/
import Derived.Test.YtddaclhjnkimfaaFd4
namespace Go.Proofs.Ytddaclhjnkimfaa
open Go Go.Abs Go.Proofs

/-! function 55: slices.Equal[[]int64,int64] -/
noncomputable def slices_Equal_int64_l4 (h4_0_0 : (List Int)) (h4_0_1 : (List Int)) (h4_0_2 : Int) : Int → Tre (Int ⊕ (Bool ⊕ Unit)) := fun s4 =>
  .cond (decide (s4 < h4_0_2))
    (.ite (0 ≤ s4 ∧ s4 < (h4_0_0.length : Int)) <|
    .mat (h4_0_0[s4.toNat]?) fun x1 =>
    .ite (0 ≤ s4 ∧ s4 < (h4_0_1.length : Int)) <|
    .mat (h4_0_1[s4.toNat]?) fun x2 =>
    .cond (!decide (x1 = x2))
      (.ret (.inr (.inl false)))
      (.ret (.inl (iwrap .i64 (s4 + 1)))))
    (.ret (.inr (.inr ())))
noncomputable def slices_Equal_int64 (p0 : (List Int)) (p1 : (List Int)) : Tre Bool :=
  .cond (!decide ((p0.length : Int) = (p1.length : Int)))
    (.ret false)
    (.mat (loopF (slices_Equal_int64_l4 p0 p1 (p0.length : Int)) 0) fun l3 =>
    .alt l3
      (fun a4 =>
        .ret a4)
      (fun _ =>
        .ret true))
noncomputable def slices_Equal_int64_F (p0 : (List Int)) (p1 : (List Int)) : Option Bool := (slices_Equal_int64 p0 p1).run some
theorem slices_Equal_int64_spec (p0 p1 : List Int) (y : Bool) (h : sameL p0 p1 = some y) : slices_Equal_int64_F p0 p1 = some y := by
  obtain ⟨hok, rfl⟩ := askO_some h
  simp only [Bool.and_eq_true, decide_eq_true_eq] at hok
  unfold slices_Equal_int64_F slices_Equal_int64
  rw [Tre.run_cond]
  by_cases hl : p0.length = p1.length
  · rw [decide_eq_true (show (p0.length : Int) = (p1.length : Int) by omega), Bool.not_true, cond_false, Tre.run_mat, find_loop (xs := p0) (sameAt p1) (.inr ()), findE_same p1 p0 0 (by simpa using hl)]
    · rw [List.drop_zero]
      cases decide (p0 = p1) <;> rfl
    · intro i x hx
      have hi : i < p0.length := (List.getElem?_eq_some_iff.1 hx).1
      have hy : p1[i]? = some p1[i] := List.getElem?_eq_getElem (by omega)
      unfold slices_Equal_int64_l4
      unfold sameAt
      rw [run_inb hx, run_at hy, Tre.run_cond, hy]
      dsimp only
      cases decide (x = p1[i])
      · rfl
      · simp only [Bool.not_true, cond_true, cond_false, Tre.run_ret, iwrap_succ (show i < 4611686018427387904 by omega)]
    · unfold slices_Equal_int64_l4
      exact run_out
  · rw [decide_eq_false (show ¬ (p0.length : Int) = (p1.length : Int) by omega), Bool.not_false, cond_true, Tre.run_ret, decide_eq_false (fun h => hl (by rw [h]))]

noncomputable def slices_Equal_int64_V : Env := ⟨tau, [], []⟩
noncomputable def slices_Equal_int64_b : Code := (Try.f55.body).getD .skip
noncomputable def slices_Equal_int64_l4_mk (z4_0 : Bool) (z4_1 : Bool) (h4_0_0 : (List Int)) (h4_0_1 : (List Int)) (h4_0_2 : Int) : Int → St := fun x => stOf [(0, (.imm z4_0 (.sl (.int .i64)) h4_0_0)), (1, (.imm z4_1 (.sl (.int .i64)) h4_0_1)), (12, (.imm true (.int .i64) h4_0_2)), (13, (.imm true (.int .i64) x))] []
noncomputable def slices_Equal_int64_l4_out (_z4_0 : Bool) (_z4_1 : Bool) (_h4_0_0 : (List Int)) (_h4_0_1 : (List Int)) (_h4_0_2 : Int) : (Bool ⊕ Unit) → Ex × St
  | .inl x => (.ret, stOf [(4, (.imm true .bool x))] [])
  | .inr x => (.exit 0, stOf [(4, .dead)] [])
noncomputable def slices_Equal_int64_l4_D (s : St) : Tre (Ex × St) :=
  asImm (.sl (.int .i64)) (s.tmps 0) fun z3 d2 =>
  asImm (.sl (.int .i64)) (s.tmps 1) fun z6 d5 =>
  asImmZ true (.int .i64) (s.tmps 12) fun d8 =>
  asImmZ true (.int .i64) (s.tmps 13) fun d10 =>
  .mat (loopF (slices_Equal_int64_l4 d2 d5 d8) d10) fun x => .alt x (fun a0 => .ret (slices_Equal_int64_l4_out z3 z6 d2 d5 d8 (.inl a0))) (fun b0 => .ret (slices_Equal_int64_l4_out z3 z6 d2 d5 d8 (.inr b0)))
noncomputable def slices_Equal_int64_l4_L : LoopI := ⟨([0, 1, 12, 13], []), ([4], []), slices_Equal_int64_l4_D⟩
noncomputable def slices_Equal_int64_A : List (Nat × LoopI) := [(4, slices_Equal_int64_l4_L)]
set_option maxRecDepth 100000 in
theorem slices_Equal_int64_l4_step : ∀ (z4_0 : Bool) (z4_1 : Bool) (h4_0_0 : (List Int)) (h4_0_1 : (List Int)) (h4_0_2 : Int) (x : Int) (c : St → Option (Ex × St)), den slices_Equal_int64_V slices_Equal_int64_A (loopAt slices_Equal_int64_b 0) (slices_Equal_int64_l4_mk z4_0 z4_1 h4_0_0 h4_0_1 h4_0_2 x) (roundK slices_Equal_int64_l4_L.kp slices_Equal_int64_l4_L.kx c) = (slices_Equal_int64_l4 h4_0_0 h4_0_1 h4_0_2 x).run (roundR (slices_Equal_int64_l4_mk z4_0 z4_1 h4_0_0 h4_0_1 h4_0_2) (slices_Equal_int64_l4_out z4_0 z4_1 h4_0_0 h4_0_1 h4_0_2) c) := fun _ _ _ _ _ _ _ => by
  kernel_rfl
theorem slices_Equal_int64_l4_ok : LoopOK slices_Equal_int64_V slices_Equal_int64_A (loopAt slices_Equal_int64_b 0) slices_Equal_int64_l4_L := loopOK_of fun s e s' h => by
  generalize hs : restrict slices_Equal_int64_l4_L.kp s = s1 at h
  have h : (slices_Equal_int64_l4_D s1).run some = some (e, s') := h
  obtain ⟨z3, d2, e1, h_0⟩ := asImm_spec h
  obtain ⟨z6, d5, e4, h_1⟩ := asImm_spec h_0
  obtain ⟨d8, e7, h_2⟩ := asImmZ_spec h_1
  obtain ⟨d10, e9, h_3⟩ := asImmZ_spec h_2
  obtain ⟨y, hy, hz⟩ := mat_some h_3
  refine ⟨_, _, slices_Equal_int64_l4_mk z3 z6 d2 d5 d8, slices_Equal_int64_l4_out z3 z6 d2 d5 d8, slices_Equal_int64_l4 d2 d5 d8, d10, y, ?_, hy, ?_, slices_Equal_int64_l4_step z3 z6 d2 d5 d8⟩
  · subst hs; exact restrict_eq (T := [(0, (.imm z3 (.sl (.int .i64)) d2)), (1, (.imm z6 (.sl (.int .i64)) d5)), (12, (.imm true (.int .i64) d8)), (13, (.imm true (.int .i64) d10))]) (U := []) rfl rfl ⟨e1, e4, e7, e9, trivial⟩ trivial
  · rcases y with x | x <;> exact Option.some.inj hz
noncomputable def slices_Equal_int64_I : FnI := ⟨slices_Equal_int64_b, Try.f55.results.toList, Try.f55.resultTypes.toList, slices_Equal_int64_A⟩
noncomputable def slices_Equal_int64_out (_zp0 : Bool) (_zp1 : Bool) (_p0 : (List Int)) (_p1 : (List Int)) : Bool → CallOut := fun r => ⟨(.imm true .bool r), [], []⟩
set_option maxRecDepth 100000 in
theorem slices_Equal_int64_eq : ∀ (zp0 : Bool) (zp1 : Bool) (p0 : (List Int)) (p1 : (List Int)), denFn slices_Equal_int64_V slices_Equal_int64_I ⟨[(.imm zp0 (.sl (.int .i64)) p0), (.imm zp1 (.sl (.int .i64)) p1)], []⟩ = (slices_Equal_int64 p0 p1).run fun r => some (slices_Equal_int64_out zp0 zp1 p0 p1 r) := fun _ _ _ _ => by kernel_rfl
noncomputable def slices_Equal_int64_G (av : List AV) (rs : List Root) : Tre CallOut :=
  asCons av fun a0_ av0 =>
  asCons av0 fun a1_ av1 =>
  asEnd av1 <|
  asEnd rs <|
  asImm (.sl (.int .i64)) a0_ fun z2 d1 =>
  asImm (.sl (.int .i64)) a1_ fun z4 d3 =>
  .mat (sameL d1 d3) fun r => .ret (slices_Equal_int64_out z2 z4 d1 d3 r)
noncomputable def slices_Equal_int64_c : Ctr := ⟨[], fun ci => slices_Equal_int64_G ci.args ci.roots⟩
theorem slices_Equal_int64_env : EnvOK Try.prog slices_Equal_int64_V := envOK_nil
set_option maxRecDepth 100000 in
theorem slices_Equal_int64_ok : Contract Try.prog 55 slices_Equal_int64_c := by
  have hl : LoopsOK slices_Equal_int64_V slices_Equal_int64_A slices_Equal_int64_b := (loopsOK_all (n := 1) (by kernel_rfl) fun k hk => by
      match k, hk with
      | 0, _ => exact loopOK_at (id := 4) (L := slices_Equal_int64_l4_L) (by kernel_rfl) (by kernel_rfl) slices_Equal_int64_l4_ok)
  refine (contract_of (F := slices_Equal_int64_I) tau_tys slices_Equal_int64_env Try.func55 (by kernel_rfl) (by kernel_rfl) (by kernel_rfl) hl []).weaken ?_
  rintro ⟨av, rs⟩ co h
  have h : (slices_Equal_int64_G av rs).run some = some co := h
  obtain ⟨a0_, av0, rfl, h_0⟩ := asCons_spec h
  obtain ⟨a1_, av1, rfl, h_1⟩ := asCons_spec h_0
  obtain ⟨rfl, h_2⟩ := asEnd_spec h_1
  obtain ⟨rfl, h_3⟩ := asEnd_spec h_2
  obtain ⟨z2, d1, rfl, h_4⟩ := asImm_spec h_3
  obtain ⟨z4, d3, rfl, h_5⟩ := asImm_spec h_4
  exact fin_opt (slices_Equal_int64_eq z2 z4 d1 d3) (slices_Equal_int64_spec d1 d3) h_5

end Go.Proofs.Ytddaclhjnkimfaa

namespace Go.Proofs.Ytddaclhjnkimfaa
open Go Go.Abs Go.Proofs

-- shared
theorem okW_after {g : G8} {ds : List D8} {s : Int} (h : codeM g ds s = 0) : okW 304 s (afterM g ds, (g, ())) = true := by
  obtain ⟨hg, hd, hl, h1, h2⟩ := codeM_zero_spec h
  unfold okW
  simp only [Bool.and_eq_true, inR_iff]
  exact ⟨⟨hg, afterM_ok hg hd hl⟩, h1, h2⟩
theorem okW_mono {k k' : Nat} {s : Int} {p : P8 × (G8 × Unit)} (h : okW k s p = true) (hk : k ≤ k') : okW k' s p = true := by
  unfold okW at h ⊢
  simp only [Bool.and_eq_true] at h ⊢
  exact ⟨⟨h.1.1, okP_mono h.1.2 hk⟩, h.2⟩
theorem after_some {g : G8} {ds : List D8} {s : Int} (h : codeM g ds s = 0) : afterR g ds = some ((zerosN (runM g ds (beginM g)).2 : Int), (afterM g ds, (g, ()))) := by
  obtain ⟨hg, hd, hl, _⟩ := codeM_zero_spec h
  exact askO_true (by rw [Bool.and_eq_true, Bool.and_eq_true, decide_eq_true_eq]; exact ⟨⟨hg, hd⟩, hl⟩)


end Go.Proofs.Ytddaclhjnkimfaa

namespace Go.Proofs.Ytddaclhjnkimfaa
open Go Go.Abs Go.Proofs

/-! function 21: loop.example/g01144/impl.FinishDeeds -/
noncomputable def i_FinishDeeds_l10 (h10_0_1 : Int) : (Int × (List (Int × (Int × (Int × (Int × Unit)))))) → Tre ((Int × (List (Int × (Int × (Int × (Int × Unit)))))) ⊕ (List (Int × (Int × (Int × (Int × Unit)))))) := fun s10 =>
  .cond (decide (s10.1 < h10_0_1))
    (.ite ((s10.2.length + 1) * 32 ≤ appendMax ∧ 1 ≤ 32) <|
    let v4 := s10.2 ++ ([(4, (0, (0, (0, ()))))])
    .ret (.inl (iwrap .i64 (s10.1 + 1), v4)))
    (.ret (.inr s10.2))
noncomputable def i_FinishDeeds_l22 (h22_0_1 : Int) (h22_0_2 : Int) : (Int × (List (Int × (Int × (Int × (Int × Unit)))))) → Tre ((Int × (List (Int × (Int × (Int × (Int × Unit)))))) ⊕ (List (Int × (Int × (Int × (Int × Unit)))))) := fun s22 =>
  .cond (decide (s22.1 < h22_0_2))
    (.ite (0 ≤ s22.1) <|
    .ite ((s22.2.length + 2) * 32 ≤ appendMax ∧ 1 ≤ 32) <|
    let v12 := s22.2 ++ ([(1, (0, (h22_0_1, (ishl .i64 1 s22.1, ())))), (2, (0, (0, (0, ()))))])
    .ret (.inl (iwrap .i64 (s22.1 + 1), v12)))
    (.ret (.inr s22.2))
noncomputable def i_FinishDeeds_l16 (h16_0_2 : (Int × (Int × ((List Int) × (Int × (Int × Unit)))))) (h16_0_3 : (((List ((List Int) × ((List Int) × Unit))) × ((List (Int × (Int × Unit))) × Unit)) × ((Int × (Int × ((List Int) × (Int × (Int × Unit))))) × Unit))) : (Int × (List (Int × (Int × (Int × (Int × Unit)))))) → Tre ((Int × (List (Int × (Int × (Int × (Int × Unit)))))) ⊕ (List (Int × (Int × (Int × (Int × Unit)))))) := fun s16 =>
  let v8 := i_Gather_stations_S h16_0_2
  .cond (decide (s16.1 < v8))
    (.mat (wdatR h16_0_3 s16.1) fun r9 =>
    .cond (decide (r9.1 = 0))
      (.mat (sameL r9.2 h16_0_2.2.2.1) fun r10 =>
      .cond r10
        (.ret (.inl (iwrap .i64 (s16.1 + 1), s16.2)))
        (.ite ((s16.2.length + 1) * 32 ≤ appendMax ∧ 1 ≤ 32) <|
        let v11 := s16.2 ++ ([(8, (s16.1, (0, (0, ()))))])
        .mat (loopF (i_FinishDeeds_l22 s16.1 h16_0_2.1) (0, v11)) fun l13 =>
        .ite ((l13.length + 1) * 32 ≤ appendMax ∧ 1 ≤ 32) <|
        let v14 := l13 ++ ([(6, (s16.1, (0, (0, ()))))])
        .ret (.inl (iwrap .i64 (s16.1 + 1), v14))))
      (.ite ((s16.2.length + 1) * 32 ≤ appendMax ∧ 1 ≤ 32) <|
      let v15 := s16.2 ++ ([(8, (s16.1, (0, (0, ()))))])
      .mat (loopF (i_FinishDeeds_l22 s16.1 h16_0_2.1) (0, v15)) fun l16 =>
      .ite ((l16.length + 1) * 32 ≤ appendMax ∧ 1 ≤ 32) <|
      let v17 := l16 ++ ([(6, (s16.1, (0, (0, ()))))])
      .ret (.inl (iwrap .i64 (s16.1 + 1), v17))))
    (.ret (.inr s16.2))
noncomputable def i_FinishDeeds (p0 : (Int × (Int × ((List Int) × (Int × (Int × Unit)))))) (p1 : (List (Int × (Int × (Int × (Int × Unit)))))) : Tre (Int × (List (Int × (Int × (Int × (Int × Unit)))))) :=
  .mat (codeR p0 p1 0) fun r1 =>
  .cond (!decide (r1 = 0))
    (.ret (r1, []))
    (.mat (afterR p0 p1) fun r2 =>
    .ite (0 ≤ (0 : Int) ∧ (0 : Int) < (r2.2.1.1.length : Int)) <|
    .mat (r2.2.1.1[0]?) fun x3 =>
    .cond (decide ((x3.2.1.length : Int) < p0.1))
      (.ret (4, []))
      (.mat (loopF (i_FinishDeeds_l10 (r2.2.1.2.1.length : Int)) (0, [])) fun l5 =>
      .cond (decide ((x3.1.length : Int) < p0.1))
        (.ite ((l5.length + 1) * 32 ≤ appendMax ∧ 1 ≤ 32) <|
        let v6 := l5 ++ ([(7, (0, (0, (0, ()))))])
        let v7 := iwrap .i64 (1 + p0.2.2.2.1)
        .mat (loopF (i_FinishDeeds_l16 p0 r2.2) (v7, v6)) fun l18 =>
        let v19 := iwrap .i64 ((p1.length : Int) + (l18.length : Int))
        .cond (decide (v19 > 300))
          (.ret (3, []))
          (.ret (0, l18)))
        (let v20 := iwrap .i64 (1 + p0.2.2.2.1)
        .mat (loopF (i_FinishDeeds_l16 p0 r2.2) (v20, l5)) fun l21 =>
        let v22 := iwrap .i64 ((p1.length : Int) + (l21.length : Int))
        .cond (decide (v22 > 300))
          (.ret (3, []))
          (.ret (0, l21)))))
noncomputable def i_FinishDeeds_F (p0 : (Int × (Int × ((List Int) × (Int × (Int × Unit)))))) (p1 : (List (Int × (Int × (Int × (Int × Unit)))))) : Option (Int × (List (Int × (Int × (Int × (Int × Unit)))))) := (i_FinishDeeds p0 p1).run some
theorem imp_l10 (n : Nat) (hn : n ≤ 1000) : ∀ (k i : Nat) (l : List D8), i + k = n → l.length + k ≤ 1000 → loopF (i_FinishDeeds_l10 (n : Int)) ((i : Int), l) = some (l ++ List.replicate k dropD) := by
  intro k
  induction k with
  | zero =>
    intro i l h _
    refine loopF_done ?_
    unfold i_FinishDeeds_l10
    rw [Tre.run_cond, decide_eq_false (by show ¬ (i : Int) < (n : Int); omega), cond_false, Tre.run_ret]
    simp
  | succ k ih =>
    intro i l h hl
    have hstep : (i_FinishDeeds_l10 (n : Int) ((i : Int), l)).run some = some (.inl (((i + 1 : Nat) : Int), l ++ [dropD])) := by
      unfold i_FinishDeeds_l10
      rw [Tre.run_cond, decide_eq_true (by show (i : Int) < (n : Int); omega), cond_true, Tre.run_ite, if_pos (by dsimp only; unfold appendMax; omega), Tre.run_ret, iwrap_succ (by omega)]
      rfl
    rw [loopF_step hstep, ih (i + 1) _ (by omega) (by simp; omega), List.replicate_succ, List.append_assoc]
    rfl
theorem imp_l22 (r : Int) (c : Nat) (hc : c ≤ 4) : ∀ (n i : Nat) (l : List D8), i + n = c → l.length + 2 * n ≤ 1000 → loopF (i_FinishDeeds_l22 r (c : Int)) ((i : Int), l) = some (l ++ sendsFrom r i n) := by
  intro n
  induction n with
  | zero =>
    intro i l h _
    refine loopF_done ?_
    unfold i_FinishDeeds_l22
    rw [Tre.run_cond, decide_eq_false (by show ¬ (i : Int) < (c : Int); omega), cond_false, Tre.run_ret]
    simp [sendsFrom]
  | succ n ih =>
    intro i l h hl
    have hstep : (i_FinishDeeds_l22 r (c : Int) ((i : Int), l)).run some = some (.inl (((i + 1 : Nat) : Int), l ++ [sendD r i, deliverD])) := by
      unfold i_FinishDeeds_l22
      rw [Tre.run_cond, decide_eq_true (by show (i : Int) < (c : Int); omega), cond_true, Tre.run_ite, if_pos (by show 0 ≤ (i : Int); omega), Tre.run_ite, if_pos (by dsimp only; unfold appendMax; omega), Tre.run_ret, iwrap_succ (by omega)]
      dsimp only
      rw [ishl_pow (by omega)]
      rfl
    rw [loopF_step hstep, ih (i + 1) _ (by omega) (by simp; omega), List.append_assoc]
    rfl
theorem imp_give {g : G8} (hg : isG g = true) {r : Int} {l : List D8} (hl : l.length + 10 ≤ 1000) {ρ : Type} {k : List D8 → Tre ρ} {cc : ρ → Option ρ} :
    (Tre.ite ((l.length + 1) * 32 ≤ appendMax ∧ 1 ≤ 32) <| .mat (loopF (i_FinishDeeds_l22 r g.1) (0, l ++ [(8, (r, (0, (0, ()))))])) fun l13 => .ite ((l13.length + 1) * 32 ≤ appendMax ∧ 1 ≤ 32) <| k (l13 ++ [(6, (r, (0, (0, ()))))])).run cc = (k (l ++ giveD g r)).run cc := by
  have hb := isG_spec hg
  obtain ⟨m, hm⟩ := Int.eq_ofNat_of_zero_le (show 0 ≤ g.1 by omega)
  rw [Tre.run_ite, if_pos (by unfold appendMax; omega)]
  have e := imp_l22 r m (by omega) m 0 (l ++ [forgetD r]) (by omega) (by simp; omega)
  rw [← hm] at e
  have e : loopF (i_FinishDeeds_l22 r g.1) (0, l ++ [(8, (r, (0, (0, ()))))]) = _ := e
  rw [run_some_mat e, Tre.run_ite, if_pos (by simp [sendsFrom_len]; unfold appendMax; omega)]
  unfold giveD
  rw [hm, Int.toNat_natCast, show l ++ forgetD r :: (sendsFrom r 0 m ++ [saveD r]) = l ++ [forgetD r] ++ sendsFrom r 0 m ++ [saveD r] from by simp]
  rfl
theorem imp_l16 {g : G8} {p : P8} (hg : isG g = true) (hp : okP 304 g p = true) : ∀ (n r : Nat) (l : List D8), (r : Int) + (n : Int) = statG g → l.length + 10 * n ≤ 1000 → loopF (i_FinishDeeds_l16 g (p, (g, ()))) ((r : Int), l) = some (l ++ giveAll g p r n) := by
  have hb := isG_spec hg
  have hst : statG g = 1 + g.2.2.2.1 + g.2.2.2.2.1 := rfl
  have hs : i_Gather_stations_S g = statG g := by
    unfold i_Gather_stations_S
    dsimp only
    rw [iwrap_i64 (n := 1 + g.2.2.2.1) (by omega) (by omega)]
    exact iwrap_i64 (by omega) (by omega)
  intro n
  induction n with
  | zero =>
    intro r l h _
    refine loopF_done ?_
    unfold i_FinishDeeds_l16
    dsimp only
    rw [Tre.run_cond, hs, decide_eq_false (by omega), cond_false, Tre.run_ret]
    simp [giveAll]
  | succ n ih =>
    intro r l h hl
    obtain ⟨q1, q2, q3, q4⟩ := okP_spec hp
    have hlt : r < p.1.length := by omega
    obtain ⟨x, hx⟩ : ∃ x, p.1[r]? = some x := ⟨_, List.getElem?_eq_getElem hlt⟩
    have hrows : rowsI p r = x.1 := by unfold rowsI; rw [hx]
    have hrowsP : rowsP p (r : Int) = x.1 := by unfold rowsP; rw [Int.toNat_natCast, hx]
    have hok := (q2 x (List.mem_of_getElem? hx)).1
    have hdat : wdatR (p, (g, ())) (r : Int) = some (datM g x.1) := by
      unfold wdatR
      rw [hrowsP]
      refine askO_true ?_
      unfold okW
      simp only [Bool.and_eq_true, inR_iff]
      exact ⟨⟨hg, okP_mono hp (by omega)⟩, by omega, by omega⟩
    have hlen : (datM g x.1).2.length ≤ 1048576 := datM_len hg hok
    have hsame : sameL (datM g x.1).2 g.2.2.1 = some (decide ((datM g x.1).2 = g.2.2.1)) := askO_true (by simp only [Bool.and_eq_true, decide_eq_true_eq]; omega)
    have hgive := @imp_give g hg (r : Int) l (by omega) _ (fun l14 => (.ret (.inl (iwrap .i64 ((r : Int) + 1), l14)) : Tre ((Int × List D8) ⊕ List D8))) some
    have hgl := know_len (g := g) (r := r) (p := p) hg
    have hcase : (i_FinishDeeds_l16 g (p, (g, ())) ((r : Int), l)).run some = some (.inl (((r + 1 : Nat) : Int), cond (knowsM g x.1) l (l ++ giveD g (r : Int)))) := by
      unfold i_FinishDeeds_l16
      dsimp only
      rw [Tre.run_cond, hs, decide_eq_true (by omega), cond_true, run_some_mat hdat, Tre.run_cond]
      unfold knowsM
      cases h0 : decide ((datM g x.1).1 = 0)
      · rw [cond_false, Bool.false_and, cond_false]
        exact hgive.trans (by rw [Tre.run_ret, iwrap_succ (by omega)])
      · rw [cond_true, run_some_mat hsame, Bool.true_and, Tre.run_cond]
        cases decide ((datM g x.1).2 = g.2.2.1)
        · rw [cond_false, cond_false]
          exact hgive.trans (by rw [Tre.run_ret, iwrap_succ (by omega)])
        · rw [cond_true, cond_true, Tre.run_ret, iwrap_succ (by omega)]
    rw [loopF_step hcase]
    simp only [giveAll, hrows]
    cases knowsM g x.1
    · rw [cond_false, cond_false, ih (r + 1) _ (by omega) (by simp; omega), List.append_assoc]
    · rw [cond_true, cond_true, ih (r + 1) _ (by omega) (by omega)]
theorem i_FinishDeeds_spec (p0 : G8) (p1 : List D8) (y : Int × List D8) (h : finR p0 p1 = some y) : i_FinishDeeds_F p0 p1 = some y := by
  obtain ⟨hok, rfl⟩ := askO_some h
  unfold i_FinishDeeds_F i_FinishDeeds finRes
  rw [run_some_mat (show codeR p0 p1 0 = some _ from askO_true hok), Tre.run_cond, codeM_zero]
  by_cases h0 : askedM p1 p0 = 0
  · obtain ⟨hg, hd, hl⟩ := askedM_zero h0
    have hb := isG_spec hg
    have hP := afterM_ok hg hd hl
    rw [decide_eq_true h0, Bool.not_true, cond_false, cond_true, run_some_mat (after_some (s := 0) (by rw [codeM_zero]; exact h0))]
    dsimp only
    have hfl := finM_len hg hP
    generalize afterM p0 p1 = P at hP hfl
    obtain ⟨q1, q2, q3, q4⟩ := okP_spec hP
    have hst : statG p0 = 1 + p0.2.2.2.1 + p0.2.2.2.2.1 := rfl
    have hlt : 0 < P.1.length := by omega
    obtain ⟨x0, hx0⟩ : ∃ x, P.1[0]? = some x := ⟨_, List.getElem?_eq_getElem hlt⟩
    have hsv : savedI P 0 = x0.2.1 := by unfold savedI; rw [hx0]
    have hrw : rowsI P 0 = x0.1 := by unfold rowsI; rw [hx0]
    rw [Tre.run_ite, if_pos ⟨Int.le_refl _, by omega⟩, run_some_mat hx0, Tre.run_cond, hsv]
    cases decide ((x0.2.1.length : Int) < p0.1)
    case true => rfl
    rw [cond_false, cond_false]
    have e1 := imp_l10 P.2.1.length (by omega) P.2.1.length 0 [] (by omega) (by simp; omega)
    have e1 : loopF (i_FinishDeeds_l10 (P.2.1.length : Int)) (0, []) = _ := e1
    rw [run_some_mat e1, Tre.run_cond, List.nil_append]
    obtain ⟨r0, hr0⟩ := Int.eq_ofNat_of_zero_le (show 0 ≤ 1 + p0.2.2.2.1 by omega)
    have w1 : iwrap .i64 (1 + p0.2.2.2.1) = (r0 : Int) := by rw [hr0]; exact iwrap_i64 (by omega) (by omega)
    have hfm : finM p0 P = List.replicate P.2.1.length dropD ++ (cond (decide ((x0.1.length : Int) < p0.1)) [crashD] [] ++ giveAll p0 P r0 p0.2.2.2.2.1.toNat) := by
      unfold finM; rw [hrw, hr0, Int.toNat_natCast]
    rw [hfm] at hfl ⊢
    have hend : ∀ (L : List D8), L.length ≤ 50 → (Tre.cond (decide (iwrap .i64 ((p1.length : Int) + (L.length : Int)) > 300)) (.ret ((3, []) : Int × List D8)) (.ret (0, L))).run some = some (cond (decide ((p1.length : Int) + (L.length : Int) > 300)) (3, []) (0, L)) := by
      intro L hL
      rw [iwrap_i64 (by omega) (by omega), Tre.run_cond]
      cases decide ((p1.length : Int) + (L.length : Int) > 300) <;> rfl
    cases hc : decide ((x0.1.length : Int) < p0.1)
    · rw [cond_false]
      have e3 := imp_l16 hg hP p0.2.2.2.2.1.toNat r0 (List.replicate P.2.1.length dropD) (by omega) (by simp; omega)
      rw [w1, run_some_mat e3]
      simp only [hc, cond_false, List.nil_append] at hfl ⊢
      exact hend _ hfl
    · rw [cond_true]
      rw [Tre.run_ite, if_pos (by simp; unfold appendMax; omega)]
      have e3 := imp_l16 hg hP p0.2.2.2.2.1.toNat r0 (List.replicate P.2.1.length dropD ++ [crashD]) (by omega) (by simp; omega)
      have e3 : loopF (i_FinishDeeds_l16 p0 (P, (p0, ()))) ((r0 : Int), List.replicate P.2.1.length dropD ++ [(7, (0, (0, (0, ()))))]) = _ := e3
      rw [w1, run_some_mat e3]
      simp only [hc, cond_true, List.append_assoc] at hfl ⊢
      exact hend _ hfl
  · rw [decide_eq_false h0]; rfl

noncomputable def i_FinishDeeds_V : Env := ⟨tau, [(40, i_deedsCode_c), (41, i_after_c), (52, i_size_int64_c), (53, i_Gather_stations_c), (54, i_works_data_40d4_c), (55, slices_Equal_int64_c)], [(5, [((26, 0), [.fst, .fst], true)])]⟩
noncomputable def i_FinishDeeds_b : Code := (Try.f21.body).getD .skip
noncomputable def i_FinishDeeds_l10_mk (z10_0 : Bool) (z10_1 : Bool) (z10_2 : Bool) (h10_0_0 : (List (Int × (Int × (Int × (Int × Unit)))))) (h10_0_1 : Int) (h10_0_3 : (Int × (Int × ((List Int) × (Int × (Int × Unit)))))) (h10_0_4 : (((List ((List Int) × ((List Int) × Unit))) × ((List (Int × (Int × Unit))) × Unit)) × ((Int × (Int × ((List Int) × (Int × (Int × Unit))))) × Unit))) (h10_0_5 : ((List Int) × ((List Int) × Unit))) : (Int × (List (Int × (Int × (Int × (Int × Unit)))))) → St := fun x => stOf [(1, (.imm z10_0 (.sl kDeed) h10_0_0)), (2, (.ptr (4, 0) [])), (7, (.ptr (26, 0) [])), (9, (.ptr (11, 0) [])), (10, (.ref (12, 0) [])), (46, (.imm true (.int .i64) h10_0_1)), (47, (.imm true (.int .i64) x.1))] [((4, 0), some ⟨true, kGather, (.imm z10_1), h10_0_3⟩), ((26, 0), some ⟨true, kWorks, (.pair (.pair (.sl (.imm true)) .own) (.imm z10_2)), h10_0_4⟩), ((11, 0), some ⟨true, kStation, (.imm true), h10_0_5⟩), ((12, 0), some ⟨false, (.sl kDeed), .own, x.2⟩)]
noncomputable def i_FinishDeeds_l10_out (z10_0 : Bool) (z10_1 : Bool) (z10_2 : Bool) (h10_0_0 : (List (Int × (Int × (Int × (Int × Unit)))))) (_h10_0_1 : Int) (h10_0_3 : (Int × (Int × ((List Int) × (Int × (Int × Unit)))))) (h10_0_4 : (((List ((List Int) × ((List Int) × Unit))) × ((List (Int × (Int × Unit))) × Unit)) × ((Int × (Int × ((List Int) × (Int × (Int × Unit))))) × Unit))) (h10_0_5 : ((List Int) × ((List Int) × Unit))) : (List (Int × (Int × (Int × (Int × Unit))))) → Ex × St := fun x => (.exit 0, stOf [(1, (.imm z10_0 (.sl kDeed) h10_0_0)), (2, (.ptr (4, 0) [])), (7, (.ptr (26, 0) [])), (9, (.ptr (11, 0) [])), (10, (.ref (12, 0) []))] [((4, 0), some ⟨true, kGather, (.imm z10_1), h10_0_3⟩), ((26, 0), some ⟨true, kWorks, (.pair (.pair (.sl (.imm true)) .own) (.imm z10_2)), h10_0_4⟩), ((11, 0), some ⟨true, kStation, (.imm true), h10_0_5⟩), ((12, 0), some ⟨false, (.sl kDeed), .own, x⟩)])
noncomputable def i_FinishDeeds_l10_D (s : St) : Tre (Ex × St) :=
  asImm (.sl kDeed) (s.tmps 1) fun z3 d2 =>
  asPtr (4, 0) [] (s.tmps 2) <|
  asPtr (26, 0) [] (s.tmps 7) <|
  asPtr (11, 0) [] (s.tmps 9) <|
  asRef (12, 0) [] (s.tmps 10) <|
  asImmZ true (.int .i64) (s.tmps 46) fun d9 =>
  asImmZ true (.int .i64) (s.tmps 47) fun d11 =>
  asRoot true kGather (s.roots (4, 0)) fun m13 d14 =>
  asMImm m13 fun z15 =>
  asRoot true kWorks (s.roots (26, 0)) fun m17 d18 =>
  asMPair m17 fun m19 m20 =>
  asM (.pair (.sl (.imm true)) .own) m19 <|
  asMImm m20 fun z21 =>
  asRoot true kStation (s.roots (11, 0)) fun m23 d24 =>
  asM (.imm true) m23 <|
  asRoot false (.sl kDeed) (s.roots (12, 0)) fun m26 d27 =>
  asM .own m26 <|
  .mat (loopF (i_FinishDeeds_l10 d9) (d11, d27)) fun x => .ret (i_FinishDeeds_l10_out z3 z15 z21 d2 d9 d14 d18 d24 x)
noncomputable def i_FinishDeeds_l10_L : LoopI := ⟨([1, 2, 7, 9, 10, 46, 47], [(4, 0), (26, 0), (11, 0), (12, 0)]), ([1, 2, 7, 9, 10], [(4, 0), (26, 0), (11, 0), (12, 0)]), i_FinishDeeds_l10_D⟩
noncomputable def i_FinishDeeds_l22_mk (z22_0 : Bool) (z22_1 : Bool) (z22_2 : Bool) (h22_0_0 : (List (Int × (Int × (Int × (Int × Unit)))))) (h22_0_1 : Int) (h22_0_2 : Int) (h22_0_4 : (Int × (Int × ((List Int) × (Int × (Int × Unit)))))) (h22_0_5 : (((List ((List Int) × ((List Int) × Unit))) × ((List (Int × (Int × Unit))) × Unit)) × ((Int × (Int × ((List Int) × (Int × (Int × Unit))))) × Unit))) : (Int × (List (Int × (Int × (Int × (Int × Unit)))))) → St := fun x => stOf [(1, (.imm z22_0 (.sl kDeed) h22_0_0)), (2, (.ptr (4, 0) [])), (7, (.ptr (26, 0) [])), (10, (.ref (12, 0) [])), (11, (.imm true (.int .i64) h22_0_1)), (93, (.imm true (.int .i64) h22_0_2)), (94, (.imm true (.int .i64) x.1))] [((4, 0), some ⟨true, kGather, (.imm z22_1), h22_0_4⟩), ((26, 0), some ⟨true, kWorks, (.pair (.pair (.sl (.imm true)) .own) (.imm z22_2)), h22_0_5⟩), ((12, 0), some ⟨false, (.sl kDeed), .own, x.2⟩)]
noncomputable def i_FinishDeeds_l22_out (z22_0 : Bool) (z22_1 : Bool) (z22_2 : Bool) (h22_0_0 : (List (Int × (Int × (Int × (Int × Unit)))))) (h22_0_1 : Int) (_h22_0_2 : Int) (h22_0_4 : (Int × (Int × ((List Int) × (Int × (Int × Unit)))))) (h22_0_5 : (((List ((List Int) × ((List Int) × Unit))) × ((List (Int × (Int × Unit))) × Unit)) × ((Int × (Int × ((List Int) × (Int × (Int × Unit))))) × Unit))) : (List (Int × (Int × (Int × (Int × Unit))))) → Ex × St := fun x => (.exit 4, stOf [(1, (.imm z22_0 (.sl kDeed) h22_0_0)), (2, (.ptr (4, 0) [])), (7, (.ptr (26, 0) [])), (10, (.ref (12, 0) [])), (11, (.imm true (.int .i64) h22_0_1))] [((4, 0), some ⟨true, kGather, (.imm z22_1), h22_0_4⟩), ((26, 0), some ⟨true, kWorks, (.pair (.pair (.sl (.imm true)) .own) (.imm z22_2)), h22_0_5⟩), ((12, 0), some ⟨false, (.sl kDeed), .own, x⟩)])
noncomputable def i_FinishDeeds_l22_D (s : St) : Tre (Ex × St) :=
  asImm (.sl kDeed) (s.tmps 1) fun z3 d2 =>
  asPtr (4, 0) [] (s.tmps 2) <|
  asPtr (26, 0) [] (s.tmps 7) <|
  asRef (12, 0) [] (s.tmps 10) <|
  asImmZ true (.int .i64) (s.tmps 11) fun d8 =>
  asImmZ true (.int .i64) (s.tmps 93) fun d10 =>
  asImmZ true (.int .i64) (s.tmps 94) fun d12 =>
  asRoot true kGather (s.roots (4, 0)) fun m14 d15 =>
  asMImm m14 fun z16 =>
  asRoot true kWorks (s.roots (26, 0)) fun m18 d19 =>
  asMPair m18 fun m20 m21 =>
  asM (.pair (.sl (.imm true)) .own) m20 <|
  asMImm m21 fun z22 =>
  asRoot false (.sl kDeed) (s.roots (12, 0)) fun m24 d25 =>
  asM .own m24 <|
  .mat (loopF (i_FinishDeeds_l22 d8 d10) (d12, d25)) fun x => .ret (i_FinishDeeds_l22_out z3 z16 z22 d2 d8 d10 d15 d19 x)
noncomputable def i_FinishDeeds_l22_L : LoopI := ⟨([1, 2, 7, 10, 11, 93, 94], [(4, 0), (26, 0), (12, 0)]), ([1, 2, 7, 10, 11], [(4, 0), (26, 0), (12, 0)]), i_FinishDeeds_l22_D⟩
noncomputable def i_FinishDeeds_l16_mk (z16_0 : Bool) (z16_1 : Bool) (z16_2 : Bool) (h16_0_0 : (List (Int × (Int × (Int × (Int × Unit)))))) (h16_0_2 : (Int × (Int × ((List Int) × (Int × (Int × Unit)))))) (h16_0_3 : (((List ((List Int) × ((List Int) × Unit))) × ((List (Int × (Int × Unit))) × Unit)) × ((Int × (Int × ((List Int) × (Int × (Int × Unit))))) × Unit))) : (Int × (List (Int × (Int × (Int × (Int × Unit)))))) → St := fun x => stOf [(1, (.imm z16_0 (.sl kDeed) h16_0_0)), (2, (.ptr (4, 0) [])), (7, (.ptr (26, 0) [])), (10, (.ref (12, 0) [])), (11, (.imm true (.int .i64) x.1))] [((4, 0), some ⟨true, kGather, (.imm z16_1), h16_0_2⟩), ((26, 0), some ⟨true, kWorks, (.pair (.pair (.sl (.imm true)) .own) (.imm z16_2)), h16_0_3⟩), ((12, 0), some ⟨false, (.sl kDeed), .own, x.2⟩)]
noncomputable def i_FinishDeeds_l16_out (z16_0 : Bool) (_z16_1 : Bool) (_z16_2 : Bool) (h16_0_0 : (List (Int × (Int × (Int × (Int × Unit)))))) (_h16_0_2 : (Int × (Int × ((List Int) × (Int × (Int × Unit)))))) (_h16_0_3 : (((List ((List Int) × ((List Int) × Unit))) × ((List (Int × (Int × Unit))) × Unit)) × ((Int × (Int × ((List Int) × (Int × (Int × Unit))))) × Unit))) : (List (Int × (Int × (Int × (Int × Unit))))) → Ex × St := fun x => (.exit 2, stOf [(1, (.imm z16_0 (.sl kDeed) h16_0_0)), (10, (.ref (12, 0) []))] [((12, 0), some ⟨false, (.sl kDeed), .own, x⟩)])
noncomputable def i_FinishDeeds_l16_D (s : St) : Tre (Ex × St) :=
  asImm (.sl kDeed) (s.tmps 1) fun z3 d2 =>
  asPtr (4, 0) [] (s.tmps 2) <|
  asPtr (26, 0) [] (s.tmps 7) <|
  asRef (12, 0) [] (s.tmps 10) <|
  asImmZ true (.int .i64) (s.tmps 11) fun d8 =>
  asRoot true kGather (s.roots (4, 0)) fun m10 d11 =>
  asMImm m10 fun z12 =>
  asRoot true kWorks (s.roots (26, 0)) fun m14 d15 =>
  asMPair m14 fun m16 m17 =>
  asM (.pair (.sl (.imm true)) .own) m16 <|
  asMImm m17 fun z18 =>
  asRoot false (.sl kDeed) (s.roots (12, 0)) fun m20 d21 =>
  asM .own m20 <|
  .mat (loopF (i_FinishDeeds_l16 d11 d15) (d8, d21)) fun x => .ret (i_FinishDeeds_l16_out z3 z12 z18 d2 d11 d15 x)
noncomputable def i_FinishDeeds_l16_L : LoopI := ⟨([1, 2, 7, 10, 11], [(4, 0), (26, 0), (12, 0)]), ([1, 10], [(12, 0)]), i_FinishDeeds_l16_D⟩
noncomputable def i_FinishDeeds_A : List (Nat × LoopI) := [(10, i_FinishDeeds_l10_L), (22, i_FinishDeeds_l22_L), (16, i_FinishDeeds_l16_L)]
set_option maxRecDepth 100000 in
theorem i_FinishDeeds_l10_step : ∀ (z10_0 : Bool) (z10_1 : Bool) (z10_2 : Bool) (h10_0_0 : (List (Int × (Int × (Int × (Int × Unit)))))) (h10_0_1 : Int) (h10_0_3 : (Int × (Int × ((List Int) × (Int × (Int × Unit)))))) (h10_0_4 : (((List ((List Int) × ((List Int) × Unit))) × ((List (Int × (Int × Unit))) × Unit)) × ((Int × (Int × ((List Int) × (Int × (Int × Unit))))) × Unit))) (h10_0_5 : ((List Int) × ((List Int) × Unit))) (x : (Int × (List (Int × (Int × (Int × (Int × Unit))))))) (c : St → Option (Ex × St)), den i_FinishDeeds_V i_FinishDeeds_A (loopAt i_FinishDeeds_b 0) (i_FinishDeeds_l10_mk z10_0 z10_1 z10_2 h10_0_0 h10_0_1 h10_0_3 h10_0_4 h10_0_5 x) (roundK i_FinishDeeds_l10_L.kp i_FinishDeeds_l10_L.kx c) = (i_FinishDeeds_l10 h10_0_1 x).run (roundR (i_FinishDeeds_l10_mk z10_0 z10_1 z10_2 h10_0_0 h10_0_1 h10_0_3 h10_0_4 h10_0_5) (i_FinishDeeds_l10_out z10_0 z10_1 z10_2 h10_0_0 h10_0_1 h10_0_3 h10_0_4 h10_0_5) c) := fun _ _ _ _ _ _ _ _ _ _ => by
  kernel_rfl
theorem i_FinishDeeds_l10_ok : LoopOK i_FinishDeeds_V i_FinishDeeds_A (loopAt i_FinishDeeds_b 0) i_FinishDeeds_l10_L := loopOK_of fun s e s' h => by
  generalize hs : restrict i_FinishDeeds_l10_L.kp s = s1 at h
  have h : (i_FinishDeeds_l10_D s1).run some = some (e, s') := h
  obtain ⟨z3, d2, e1, h_0⟩ := asImm_spec h
  obtain ⟨e4, h_1⟩ := asPtr_spec h_0
  obtain ⟨e5, h_2⟩ := asPtr_spec h_1
  obtain ⟨e6, h_3⟩ := asPtr_spec h_2
  obtain ⟨e7, h_4⟩ := asRef_spec h_3
  obtain ⟨d9, e8, h_5⟩ := asImmZ_spec h_4
  obtain ⟨d11, e10, h_6⟩ := asImmZ_spec h_5
  obtain ⟨m13, d14, e12, h_7⟩ := asRoot_spec h_6
  obtain ⟨z15, rfl, h_8⟩ := asMImm_spec h_7
  obtain ⟨m17, d18, e16, h_9⟩ := asRoot_spec h_8
  obtain ⟨m19, m20, rfl, h_10⟩ := asMPair_spec h_9
  obtain ⟨rfl, h_11⟩ := asM_spec h_10
  obtain ⟨z21, rfl, h_12⟩ := asMImm_spec h_11
  obtain ⟨m23, d24, e22, h_13⟩ := asRoot_spec h_12
  obtain ⟨rfl, h_14⟩ := asM_spec h_13
  obtain ⟨m26, d27, e25, h_15⟩ := asRoot_spec h_14
  obtain ⟨rfl, h_16⟩ := asM_spec h_15
  obtain ⟨y, hy, hz⟩ := mat_ret h_16
  refine ⟨_, _, i_FinishDeeds_l10_mk z3 z15 z21 d2 d9 d14 d18 d24, i_FinishDeeds_l10_out z3 z15 z21 d2 d9 d14 d18 d24, i_FinishDeeds_l10 d9, (d11, d27), y, ?_, hy, ?_, i_FinishDeeds_l10_step z3 z15 z21 d2 d9 d14 d18 d24⟩
  · subst hs; exact restrict_eq (T := [(1, (.imm z3 (.sl kDeed) d2)), (2, (.ptr (4, 0) [])), (7, (.ptr (26, 0) [])), (9, (.ptr (11, 0) [])), (10, (.ref (12, 0) [])), (46, (.imm true (.int .i64) d9)), (47, (.imm true (.int .i64) d11))]) (U := [((4, 0), some ⟨true, kGather, (.imm z15), d14⟩), ((26, 0), some ⟨true, kWorks, (.pair (.pair (.sl (.imm true)) .own) (.imm z21)), d18⟩), ((11, 0), some ⟨true, kStation, (.imm true), d24⟩), ((12, 0), some ⟨false, (.sl kDeed), .own, d27⟩)]) rfl rfl ⟨e1, e4, e5, e6, e7, e8, e10, trivial⟩ ⟨e12, e16, e22, e25, trivial⟩
  · exact Option.some.inj hz
set_option maxRecDepth 100000 in
theorem i_FinishDeeds_l22_step : ∀ (z22_0 : Bool) (z22_1 : Bool) (z22_2 : Bool) (h22_0_0 : (List (Int × (Int × (Int × (Int × Unit)))))) (h22_0_1 : Int) (h22_0_2 : Int) (h22_0_4 : (Int × (Int × ((List Int) × (Int × (Int × Unit)))))) (h22_0_5 : (((List ((List Int) × ((List Int) × Unit))) × ((List (Int × (Int × Unit))) × Unit)) × ((Int × (Int × ((List Int) × (Int × (Int × Unit))))) × Unit))) (x : (Int × (List (Int × (Int × (Int × (Int × Unit))))))) (c : St → Option (Ex × St)), den i_FinishDeeds_V i_FinishDeeds_A (loopAt i_FinishDeeds_b 2) (i_FinishDeeds_l22_mk z22_0 z22_1 z22_2 h22_0_0 h22_0_1 h22_0_2 h22_0_4 h22_0_5 x) (roundK i_FinishDeeds_l22_L.kp i_FinishDeeds_l22_L.kx c) = (i_FinishDeeds_l22 h22_0_1 h22_0_2 x).run (roundR (i_FinishDeeds_l22_mk z22_0 z22_1 z22_2 h22_0_0 h22_0_1 h22_0_2 h22_0_4 h22_0_5) (i_FinishDeeds_l22_out z22_0 z22_1 z22_2 h22_0_0 h22_0_1 h22_0_2 h22_0_4 h22_0_5) c) := fun _ _ _ _ _ _ _ _ _ _ => by
  kernel_rfl
theorem i_FinishDeeds_l22_ok : LoopOK i_FinishDeeds_V i_FinishDeeds_A (loopAt i_FinishDeeds_b 2) i_FinishDeeds_l22_L := loopOK_of fun s e s' h => by
  generalize hs : restrict i_FinishDeeds_l22_L.kp s = s1 at h
  have h : (i_FinishDeeds_l22_D s1).run some = some (e, s') := h
  obtain ⟨z3, d2, e1, h_0⟩ := asImm_spec h
  obtain ⟨e4, h_1⟩ := asPtr_spec h_0
  obtain ⟨e5, h_2⟩ := asPtr_spec h_1
  obtain ⟨e6, h_3⟩ := asRef_spec h_2
  obtain ⟨d8, e7, h_4⟩ := asImmZ_spec h_3
  obtain ⟨d10, e9, h_5⟩ := asImmZ_spec h_4
  obtain ⟨d12, e11, h_6⟩ := asImmZ_spec h_5
  obtain ⟨m14, d15, e13, h_7⟩ := asRoot_spec h_6
  obtain ⟨z16, rfl, h_8⟩ := asMImm_spec h_7
  obtain ⟨m18, d19, e17, h_9⟩ := asRoot_spec h_8
  obtain ⟨m20, m21, rfl, h_10⟩ := asMPair_spec h_9
  obtain ⟨rfl, h_11⟩ := asM_spec h_10
  obtain ⟨z22, rfl, h_12⟩ := asMImm_spec h_11
  obtain ⟨m24, d25, e23, h_13⟩ := asRoot_spec h_12
  obtain ⟨rfl, h_14⟩ := asM_spec h_13
  obtain ⟨y, hy, hz⟩ := mat_ret h_14
  refine ⟨_, _, i_FinishDeeds_l22_mk z3 z16 z22 d2 d8 d10 d15 d19, i_FinishDeeds_l22_out z3 z16 z22 d2 d8 d10 d15 d19, i_FinishDeeds_l22 d8 d10, (d12, d25), y, ?_, hy, ?_, i_FinishDeeds_l22_step z3 z16 z22 d2 d8 d10 d15 d19⟩
  · subst hs; exact restrict_eq (T := [(1, (.imm z3 (.sl kDeed) d2)), (2, (.ptr (4, 0) [])), (7, (.ptr (26, 0) [])), (10, (.ref (12, 0) [])), (11, (.imm true (.int .i64) d8)), (93, (.imm true (.int .i64) d10)), (94, (.imm true (.int .i64) d12))]) (U := [((4, 0), some ⟨true, kGather, (.imm z16), d15⟩), ((26, 0), some ⟨true, kWorks, (.pair (.pair (.sl (.imm true)) .own) (.imm z22)), d19⟩), ((12, 0), some ⟨false, (.sl kDeed), .own, d25⟩)]) rfl rfl ⟨e1, e4, e5, e6, e7, e9, e11, trivial⟩ ⟨e13, e17, e23, trivial⟩
  · exact Option.some.inj hz
set_option maxRecDepth 100000 in
theorem i_FinishDeeds_l16_step : ∀ (z16_0 : Bool) (z16_1 : Bool) (z16_2 : Bool) (h16_0_0 : (List (Int × (Int × (Int × (Int × Unit)))))) (h16_0_2 : (Int × (Int × ((List Int) × (Int × (Int × Unit)))))) (h16_0_3 : (((List ((List Int) × ((List Int) × Unit))) × ((List (Int × (Int × Unit))) × Unit)) × ((Int × (Int × ((List Int) × (Int × (Int × Unit))))) × Unit))) (x : (Int × (List (Int × (Int × (Int × (Int × Unit))))))) (c : St → Option (Ex × St)), den i_FinishDeeds_V i_FinishDeeds_A (loopAt i_FinishDeeds_b 1) (i_FinishDeeds_l16_mk z16_0 z16_1 z16_2 h16_0_0 h16_0_2 h16_0_3 x) (roundK i_FinishDeeds_l16_L.kp i_FinishDeeds_l16_L.kx c) = (i_FinishDeeds_l16 h16_0_2 h16_0_3 x).run (roundR (i_FinishDeeds_l16_mk z16_0 z16_1 z16_2 h16_0_0 h16_0_2 h16_0_3) (i_FinishDeeds_l16_out z16_0 z16_1 z16_2 h16_0_0 h16_0_2 h16_0_3) c) := fun _ _ _ _ _ _ _ _ => by
  kernel_rfl
theorem i_FinishDeeds_l16_ok : LoopOK i_FinishDeeds_V i_FinishDeeds_A (loopAt i_FinishDeeds_b 1) i_FinishDeeds_l16_L := loopOK_of fun s e s' h => by
  generalize hs : restrict i_FinishDeeds_l16_L.kp s = s1 at h
  have h : (i_FinishDeeds_l16_D s1).run some = some (e, s') := h
  obtain ⟨z3, d2, e1, h_0⟩ := asImm_spec h
  obtain ⟨e4, h_1⟩ := asPtr_spec h_0
  obtain ⟨e5, h_2⟩ := asPtr_spec h_1
  obtain ⟨e6, h_3⟩ := asRef_spec h_2
  obtain ⟨d8, e7, h_4⟩ := asImmZ_spec h_3
  obtain ⟨m10, d11, e9, h_5⟩ := asRoot_spec h_4
  obtain ⟨z12, rfl, h_6⟩ := asMImm_spec h_5
  obtain ⟨m14, d15, e13, h_7⟩ := asRoot_spec h_6
  obtain ⟨m16, m17, rfl, h_8⟩ := asMPair_spec h_7
  obtain ⟨rfl, h_9⟩ := asM_spec h_8
  obtain ⟨z18, rfl, h_10⟩ := asMImm_spec h_9
  obtain ⟨m20, d21, e19, h_11⟩ := asRoot_spec h_10
  obtain ⟨rfl, h_12⟩ := asM_spec h_11
  obtain ⟨y, hy, hz⟩ := mat_ret h_12
  refine ⟨_, _, i_FinishDeeds_l16_mk z3 z12 z18 d2 d11 d15, i_FinishDeeds_l16_out z3 z12 z18 d2 d11 d15, i_FinishDeeds_l16 d11 d15, (d8, d21), y, ?_, hy, ?_, i_FinishDeeds_l16_step z3 z12 z18 d2 d11 d15⟩
  · subst hs; exact restrict_eq (T := [(1, (.imm z3 (.sl kDeed) d2)), (2, (.ptr (4, 0) [])), (7, (.ptr (26, 0) [])), (10, (.ref (12, 0) [])), (11, (.imm true (.int .i64) d8))]) (U := [((4, 0), some ⟨true, kGather, (.imm z12), d11⟩), ((26, 0), some ⟨true, kWorks, (.pair (.pair (.sl (.imm true)) .own) (.imm z18)), d15⟩), ((12, 0), some ⟨false, (.sl kDeed), .own, d21⟩)]) rfl rfl ⟨e1, e4, e5, e6, e7, trivial⟩ ⟨e9, e13, e19, trivial⟩
  · exact Option.some.inj hz
noncomputable def i_FinishDeeds_I : FnI := ⟨i_FinishDeeds_b, Try.f21.results.toList, Try.f21.resultTypes.toList, i_FinishDeeds_A⟩
noncomputable def i_FinishDeeds_out (_zp0 : Bool) (_zp1 : Bool) (_p0 : (Int × (Int × ((List Int) × (Int × (Int × Unit)))))) (_p1 : (List (Int × (Int × (Int × (Int × Unit)))))) : (Int × (List (Int × (Int × (Int × (Int × Unit)))))) → CallOut := fun r => ⟨(.tcons (.ref (1, 0) []) (.tcons (.imm true (.int .i64) r.1) .tnil)), [], [⟨false, (.sl kDeed), .own, r.2⟩]⟩
set_option maxRecDepth 100000 in
theorem i_FinishDeeds_eq : ∀ (zp0 : Bool) (zp1 : Bool) (p0 : (Int × (Int × ((List Int) × (Int × (Int × Unit)))))) (p1 : (List (Int × (Int × (Int × (Int × Unit)))))), denFn i_FinishDeeds_V i_FinishDeeds_I ⟨[(.imm zp0 kGather p0), (.imm zp1 (.sl kDeed) p1)], []⟩ = (i_FinishDeeds p0 p1).run fun r => some (i_FinishDeeds_out zp0 zp1 p0 p1 r) := fun _ _ _ _ => by kernel_rfl
noncomputable def i_FinishDeeds_G (av : List AV) (rs : List Root) : Tre CallOut :=
  asCons av fun a0_ av0 =>
  asCons av0 fun a1_ av1 =>
  asEnd av1 <|
  asEnd rs <|
  asImm kGather a0_ fun z2 d1 =>
  asImm (.sl kDeed) a1_ fun z4 d3 =>
  .mat (finR d1 d3) fun r => .ret (i_FinishDeeds_out z2 z4 d1 d3 r)
noncomputable def i_FinishDeeds_c : Ctr := ⟨[], fun ci => i_FinishDeeds_G ci.args ci.roots⟩
theorem i_FinishDeeds_env : EnvOK Try.prog i_FinishDeeds_V := (envOK_cons i_deedsCode_ok ent40 (envOK_cons i_after_ok ent41 (envOK_cons i_size_int64_ok ent52 (envOK_cons i_Gather_stations_ok ent53 (envOK_cons i_works_data_40d4_ok ent54 (envOK_cons slices_Equal_int64_ok ent55 envOK_nil))))))
set_option maxRecDepth 100000 in
theorem i_FinishDeeds_ok : Contract Try.prog 21 i_FinishDeeds_c := by
  have hl : LoopsOK i_FinishDeeds_V i_FinishDeeds_A i_FinishDeeds_b := (loopsOK_all (n := 3) (by kernel_rfl) fun k hk => by
      match k, hk with
      | 0, _ => exact loopOK_at (id := 10) (L := i_FinishDeeds_l10_L) (by kernel_rfl) (by kernel_rfl) i_FinishDeeds_l10_ok
      | 1, _ => exact loopOK_at (id := 16) (L := i_FinishDeeds_l16_L) (by kernel_rfl) (by kernel_rfl) i_FinishDeeds_l16_ok
      | 2, _ => exact loopOK_at (id := 22) (L := i_FinishDeeds_l22_L) (by kernel_rfl) (by kernel_rfl) i_FinishDeeds_l22_ok)
  refine (contract_of (F := i_FinishDeeds_I) tau_tys i_FinishDeeds_env Try.func21 (by kernel_rfl) (by kernel_rfl) (by kernel_rfl) hl []).weaken ?_
  rintro ⟨av, rs⟩ co h
  have h : (i_FinishDeeds_G av rs).run some = some co := h
  obtain ⟨a0_, av0, rfl, h_0⟩ := asCons_spec h
  obtain ⟨a1_, av1, rfl, h_1⟩ := asCons_spec h_0
  obtain ⟨rfl, h_2⟩ := asEnd_spec h_1
  obtain ⟨rfl, h_3⟩ := asEnd_spec h_2
  obtain ⟨z2, d1, rfl, h_4⟩ := asImm_spec h_3
  obtain ⟨z4, d3, rfl, h_5⟩ := asImm_spec h_4
  exact fin_opt (i_FinishDeeds_eq z2 z4 d1 d3) (i_FinishDeeds_spec d1 d3) h_5

end Go.Proofs.Ytddaclhjnkimfaa

namespace Go.Proofs.Ytddaclhjnkimfaa
open Go Go.Abs Go.Proofs

/-! function 46: loop.example/g01144/laws.eqDeed -/
noncomputable def l_eqDeed (p0 : (Int × (Int × (Int × (Int × Unit))))) (p1 : (Int × (Int × (Int × (Int × Unit))))) : Tre Bool :=
  .cond (!decide (p0.1 = p1.1))
    (.ret false)
    (.cond (!decide (p0.2.1 = p1.2.1))
      (.ret false)
      (.cond (!decide (p0.2.2.1 = p1.2.2.1))
        (.ret false)
        (.cond (!decide (p0.2.2.2.1 = p1.2.2.2.1))
          (.ret false)
          (.ret true))))
noncomputable def l_eqDeed_F (p0 : (Int × (Int × (Int × (Int × Unit))))) (p1 : (Int × (Int × (Int × (Int × Unit))))) : Option Bool := (l_eqDeed p0 p1).run some
def l_eqDeed_S (p0 : (Int × (Int × (Int × (Int × Unit))))) (p1 : (Int × (Int × (Int × (Int × Unit))))) : Bool :=
  cond (!decide (p0.1 = p1.1))
    (false)
    (cond (!decide (p0.2.1 = p1.2.1))
      (false)
      (cond (!decide (p0.2.2.1 = p1.2.2.1))
        (false)
        (cond (!decide (p0.2.2.2.1 = p1.2.2.2.1))
          (false)
          (true))))
theorem l_eqDeed_spec (p0 : (Int × (Int × (Int × (Int × Unit))))) (p1 : (Int × (Int × (Int × (Int × Unit))))) : l_eqDeed_F p0 p1 = some (l_eqDeed_S p0 p1) := (run_cond_some rfl (run_cond_some rfl (run_cond_some rfl (run_cond_some rfl rfl))))
noncomputable def l_eqDeed_V : Env := ⟨tau, [], []⟩
noncomputable def l_eqDeed_b : Code := (Try.f46.body).getD .skip
noncomputable def l_eqDeed_I : FnI := ⟨l_eqDeed_b, Try.f46.results.toList, Try.f46.resultTypes.toList, []⟩
noncomputable def l_eqDeed_out (_p0 : (Int × (Int × (Int × (Int × Unit))))) (_p1 : (Int × (Int × (Int × (Int × Unit))))) : Bool → CallOut := fun r => ⟨(.imm true .bool r), [], []⟩
set_option maxRecDepth 100000 in
theorem l_eqDeed_eq : ∀ (p0 : (Int × (Int × (Int × (Int × Unit))))) (p1 : (Int × (Int × (Int × (Int × Unit))))), denFn l_eqDeed_V l_eqDeed_I ⟨[(.imm true kDeed p0), (.imm true kDeed p1)], []⟩ = (l_eqDeed p0 p1).run fun r => some (l_eqDeed_out p0 p1 r) := fun _ _ => by kernel_rfl
noncomputable def l_eqDeed_G (av : List AV) (rs : List Root) : Tre CallOut :=
  asCons av fun a0_ av0 =>
  asCons av0 fun a1_ av1 =>
  asEnd av1 <|
  asEnd rs <|
  asImmZ true kDeed a0_ fun d1 =>
  asImmZ true kDeed a1_ fun d2 =>
  .ret (l_eqDeed_out d1 d2 (l_eqDeed_S d1 d2))
noncomputable def l_eqDeed_c : Ctr := ⟨[], fun ci => l_eqDeed_G ci.args ci.roots⟩
theorem l_eqDeed_env : EnvOK Try.prog l_eqDeed_V := envOK_nil
set_option maxRecDepth 100000 in
theorem l_eqDeed_ok : Contract Try.prog 46 l_eqDeed_c := by
  have hl : LoopsOK l_eqDeed_V [] l_eqDeed_b := loopsOK_nil (by kernel_rfl)
  refine (contract_of (F := l_eqDeed_I) tau_tys l_eqDeed_env Try.func46 (by kernel_rfl) (by kernel_rfl) (by kernel_rfl) hl []).weaken ?_
  rintro ⟨av, rs⟩ co h
  have h : (l_eqDeed_G av rs).run some = some co := h
  obtain ⟨a0_, av0, rfl, h_0⟩ := asCons_spec h
  obtain ⟨a1_, av1, rfl, h_1⟩ := asCons_spec h_0
  obtain ⟨rfl, h_2⟩ := asEnd_spec h_1
  obtain ⟨rfl, h_3⟩ := asEnd_spec h_2
  obtain ⟨d1, rfl, h_4⟩ := asImmZ_spec h_3
  obtain ⟨d2, rfl, h_5⟩ := asImmZ_spec h_4
  exact fin_ret (l_eqDeed_eq d1 d2) (l_eqDeed_spec d1 d2) h_5

end Go.Proofs.Ytddaclhjnkimfaa

namespace Go.Proofs.Ytddaclhjnkimfaa
open Go Go.Abs Go.Proofs

/-! function 15: loop.example/g01144/laws.eqDeedS -/
noncomputable def l_eqDeedS_l4 (h4_0_0 : (List (Int × (Int × (Int × (Int × Unit)))))) (h4_0_1 : (List (Int × (Int × (Int × (Int × Unit)))))) : Int → Tre (Int ⊕ (Bool ⊕ Unit)) := fun s4 =>
  .cond (decide (s4 < (h4_0_0.length : Int)))
    (.ite (0 ≤ s4 ∧ s4 < (h4_0_0.length : Int)) <|
    .mat (h4_0_0[s4.toNat]?) fun x1 =>
    .ite (0 ≤ s4 ∧ s4 < (h4_0_1.length : Int)) <|
    .mat (h4_0_1[s4.toNat]?) fun x2 =>
    .cond (!(l_eqDeed_S x1 x2))
      (.ret (.inr (.inl false)))
      (.ret (.inl (iwrap .i64 (s4 + 1)))))
    (.ret (.inr (.inr ())))
noncomputable def l_eqDeedS (p0 : (List (Int × (Int × (Int × (Int × Unit)))))) (p1 : (List (Int × (Int × (Int × (Int × Unit)))))) : Tre Bool :=
  .cond (!decide ((p0.length : Int) = (p1.length : Int)))
    (.ret false)
    (.mat (loopF (l_eqDeedS_l4 p0 p1) 0) fun l3 =>
    .alt l3
      (fun a4 =>
        .ret a4)
      (fun _ =>
        .ret true))
noncomputable def l_eqDeedS_F (p0 : (List (Int × (Int × (Int × (Int × Unit)))))) (p1 : (List (Int × (Int × (Int × (Int × Unit)))))) : Option Bool := (l_eqDeedS p0 p1).run some
/-- two rows of deeds alike -/
abbrev eqDs (p0 p1 : List (Int × Int × Int × Int × Unit)) : Option Bool := eqR p0.length p0 p1
theorem l_eqDeedS_spec (p0 p1 : List (Int × Int × Int × Int × Unit)) (y : Bool) (h : eqR p0.length p0 p1 = some y) : l_eqDeedS_F p0 p1 = some y := by
  obtain ⟨hl, rfl, rfl⟩ := eqR_some h
  unfold l_eqDeedS_F l_eqDeedS
  rw [Tre.run_cond, show (!decide ((p0.length : Int) = (p0.length : Int))) = false from by simp, cond_false, Tre.run_mat, find_loop (xs := p0) (fun _ _ => none) (.inr ())]
  · have : ∀ (l : List (Int × Int × Int × Int × Unit)) (i : Nat), findE (β := Bool ⊕ Unit) (fun _ _ => none) (.inr ()) i l = .inr () := by
      intro l
      induction l with
      | nil => intro i; rfl
      | cons x l ih => intro i; exact ih _
    rw [this]
    rfl
  · intro i x hx
    have hi : i < p0.length := (List.getElem?_eq_some_iff.1 hx).1
    unfold l_eqDeedS_l4
    rw [run_inb hx, run_at hx, Tre.run_cond, show l_eqDeed_S x x = true from by unfold l_eqDeed_S; simp]
    simp only [Bool.not_true, cond_false, Tre.run_ret, iwrap_succ (show i < 4611686018427387904 by omega)]
  · unfold l_eqDeedS_l4
    exact run_out

noncomputable def l_eqDeedS_V : Env := ⟨tau, [(46, l_eqDeed_c)], []⟩
noncomputable def l_eqDeedS_b : Code := (Try.f15.body).getD .skip
noncomputable def l_eqDeedS_l4_mk (z4_0 : Bool) (z4_1 : Bool) (h4_0_0 : (List (Int × (Int × (Int × (Int × Unit)))))) (h4_0_1 : (List (Int × (Int × (Int × (Int × Unit)))))) : Int → St := fun x => stOf [(0, (.imm z4_0 (.sl kDeed) h4_0_0)), (1, (.imm z4_1 (.sl kDeed) h4_0_1)), (5, (.imm true (.int .i64) x))] []
noncomputable def l_eqDeedS_l4_out (_z4_0 : Bool) (_z4_1 : Bool) (_h4_0_0 : (List (Int × (Int × (Int × (Int × Unit)))))) (_h4_0_1 : (List (Int × (Int × (Int × (Int × Unit)))))) : (Bool ⊕ Unit) → Ex × St
  | .inl x => (.ret, stOf [(4, (.imm true .bool x))] [])
  | .inr x => (.exit 0, stOf [(4, .dead)] [])
noncomputable def l_eqDeedS_l4_D (s : St) : Tre (Ex × St) :=
  asImm (.sl kDeed) (s.tmps 0) fun z3 d2 =>
  asImm (.sl kDeed) (s.tmps 1) fun z6 d5 =>
  asImmZ true (.int .i64) (s.tmps 5) fun d8 =>
  .mat (loopF (l_eqDeedS_l4 d2 d5) d8) fun x => .alt x (fun a0 => .ret (l_eqDeedS_l4_out z3 z6 d2 d5 (.inl a0))) (fun b0 => .ret (l_eqDeedS_l4_out z3 z6 d2 d5 (.inr b0)))
noncomputable def l_eqDeedS_l4_L : LoopI := ⟨([0, 1, 5], []), ([4], []), l_eqDeedS_l4_D⟩
noncomputable def l_eqDeedS_A : List (Nat × LoopI) := [(4, l_eqDeedS_l4_L)]
set_option maxRecDepth 100000 in
theorem l_eqDeedS_l4_step : ∀ (z4_0 : Bool) (z4_1 : Bool) (h4_0_0 : (List (Int × (Int × (Int × (Int × Unit)))))) (h4_0_1 : (List (Int × (Int × (Int × (Int × Unit)))))) (x : Int) (c : St → Option (Ex × St)), den l_eqDeedS_V l_eqDeedS_A (loopAt l_eqDeedS_b 0) (l_eqDeedS_l4_mk z4_0 z4_1 h4_0_0 h4_0_1 x) (roundK l_eqDeedS_l4_L.kp l_eqDeedS_l4_L.kx c) = (l_eqDeedS_l4 h4_0_0 h4_0_1 x).run (roundR (l_eqDeedS_l4_mk z4_0 z4_1 h4_0_0 h4_0_1) (l_eqDeedS_l4_out z4_0 z4_1 h4_0_0 h4_0_1) c) := fun _ _ _ _ _ _ => by
  kernel_rfl
theorem l_eqDeedS_l4_ok : LoopOK l_eqDeedS_V l_eqDeedS_A (loopAt l_eqDeedS_b 0) l_eqDeedS_l4_L := loopOK_of fun s e s' h => by
  generalize hs : restrict l_eqDeedS_l4_L.kp s = s1 at h
  have h : (l_eqDeedS_l4_D s1).run some = some (e, s') := h
  obtain ⟨z3, d2, e1, h_0⟩ := asImm_spec h
  obtain ⟨z6, d5, e4, h_1⟩ := asImm_spec h_0
  obtain ⟨d8, e7, h_2⟩ := asImmZ_spec h_1
  obtain ⟨y, hy, hz⟩ := mat_some h_2
  refine ⟨_, _, l_eqDeedS_l4_mk z3 z6 d2 d5, l_eqDeedS_l4_out z3 z6 d2 d5, l_eqDeedS_l4 d2 d5, d8, y, ?_, hy, ?_, l_eqDeedS_l4_step z3 z6 d2 d5⟩
  · subst hs; exact restrict_eq (T := [(0, (.imm z3 (.sl kDeed) d2)), (1, (.imm z6 (.sl kDeed) d5)), (5, (.imm true (.int .i64) d8))]) (U := []) rfl rfl ⟨e1, e4, e7, trivial⟩ trivial
  · rcases y with x | x <;> exact Option.some.inj hz
noncomputable def l_eqDeedS_I : FnI := ⟨l_eqDeedS_b, Try.f15.results.toList, Try.f15.resultTypes.toList, l_eqDeedS_A⟩
noncomputable def l_eqDeedS_out (_zp0 : Bool) (_zp1 : Bool) (_p0 : (List (Int × (Int × (Int × (Int × Unit)))))) (_p1 : (List (Int × (Int × (Int × (Int × Unit)))))) : Bool → CallOut := fun r => ⟨(.imm true .bool r), [], []⟩
set_option maxRecDepth 100000 in
theorem l_eqDeedS_eq : ∀ (zp0 : Bool) (zp1 : Bool) (p0 : (List (Int × (Int × (Int × (Int × Unit)))))) (p1 : (List (Int × (Int × (Int × (Int × Unit)))))), denFn l_eqDeedS_V l_eqDeedS_I ⟨[(.imm zp0 (.sl kDeed) p0), (.imm zp1 (.sl kDeed) p1)], []⟩ = (l_eqDeedS p0 p1).run fun r => some (l_eqDeedS_out zp0 zp1 p0 p1 r) := fun _ _ _ _ => by kernel_rfl
noncomputable def l_eqDeedS_G (av : List AV) (rs : List Root) : Tre CallOut :=
  asCons av fun a0_ av0 =>
  asCons av0 fun a1_ av1 =>
  asEnd av1 <|
  asEnd rs <|
  asImm (.sl kDeed) a0_ fun z2 d1 =>
  asImm (.sl kDeed) a1_ fun z4 d3 =>
  .mat (eqDs d1 d3) fun r => .ret (l_eqDeedS_out z2 z4 d1 d3 r)
noncomputable def l_eqDeedS_c : Ctr := ⟨[], fun ci => l_eqDeedS_G ci.args ci.roots⟩
theorem l_eqDeedS_env : EnvOK Try.prog l_eqDeedS_V := (envOK_cons l_eqDeed_ok ent46 envOK_nil)
set_option maxRecDepth 100000 in
theorem l_eqDeedS_ok : Contract Try.prog 15 l_eqDeedS_c := by
  have hl : LoopsOK l_eqDeedS_V l_eqDeedS_A l_eqDeedS_b := (loopsOK_all (n := 1) (by kernel_rfl) fun k hk => by
      match k, hk with
      | 0, _ => exact loopOK_at (id := 4) (L := l_eqDeedS_l4_L) (by kernel_rfl) (by kernel_rfl) l_eqDeedS_l4_ok)
  refine (contract_of (F := l_eqDeedS_I) tau_tys l_eqDeedS_env Try.func15 (by kernel_rfl) (by kernel_rfl) (by kernel_rfl) hl []).weaken ?_
  rintro ⟨av, rs⟩ co h
  have h : (l_eqDeedS_G av rs).run some = some co := h
  obtain ⟨a0_, av0, rfl, h_0⟩ := asCons_spec h
  obtain ⟨a1_, av1, rfl, h_1⟩ := asCons_spec h_0
  obtain ⟨rfl, h_2⟩ := asEnd_spec h_1
  obtain ⟨rfl, h_3⟩ := asEnd_spec h_2
  obtain ⟨z2, d1, rfl, h_4⟩ := asImm_spec h_3
  obtain ⟨z4, d3, rfl, h_5⟩ := asImm_spec h_4
  exact fin_opt (l_eqDeedS_eq z2 z4 d1 d3) (l_eqDeedS_spec d1 d3) h_5

end Go.Proofs.Ytddaclhjnkimfaa

namespace Go.Proofs.Ytddaclhjnkimfaa
open Go Go.Abs Go.Proofs

/-! function 13: loop.example/g01144/laws.eqInt64S -/
noncomputable def l_eqInt64S_l4 (h4_0_0 : (List Int)) (h4_0_1 : (List Int)) : Int → Tre (Int ⊕ (Bool ⊕ Unit)) := fun s4 =>
  .cond (decide (s4 < (h4_0_0.length : Int)))
    (.ite (0 ≤ s4 ∧ s4 < (h4_0_0.length : Int)) <|
    .mat (h4_0_0[s4.toNat]?) fun x1 =>
    .ite (0 ≤ s4 ∧ s4 < (h4_0_1.length : Int)) <|
    .mat (h4_0_1[s4.toNat]?) fun x2 =>
    .cond (!decide (x1 = x2))
      (.ret (.inr (.inl false)))
      (.ret (.inl (iwrap .i64 (s4 + 1)))))
    (.ret (.inr (.inr ())))
noncomputable def l_eqInt64S (p0 : (List Int)) (p1 : (List Int)) : Tre Bool :=
  .cond (!decide ((p0.length : Int) = (p1.length : Int)))
    (.ret false)
    (.mat (loopF (l_eqInt64S_l4 p0 p1) 0) fun l3 =>
    .alt l3
      (fun a4 =>
        .ret a4)
      (fun _ =>
        .ret true))
noncomputable def l_eqInt64S_F (p0 : (List Int)) (p1 : (List Int)) : Option Bool := (l_eqInt64S p0 p1).run some
/-- two rows alike -/
abbrev eqS (p0 p1 : List Int) : Option Bool := eqR p0.length p0 p1
theorem l_eqInt64S_spec (p0 p1 : List Int) (y : Bool) (h : eqR p0.length p0 p1 = some y) : l_eqInt64S_F p0 p1 = some y := by
  obtain ⟨hl, rfl, rfl⟩ := eqR_some h
  unfold l_eqInt64S_F l_eqInt64S
  rw [Tre.run_cond, show (!decide ((p0.length : Int) = (p0.length : Int))) = false from by simp, cond_false, Tre.run_mat, find_loop (xs := p0) (fun _ _ => none) (.inr ())]
  · have : ∀ (l : List Int) (i : Nat), findE (β := Bool ⊕ Unit) (fun _ _ => none) (.inr ()) i l = .inr () := by
      intro l
      induction l with
      | nil => intro i; rfl
      | cons x l ih => intro i; exact ih _
    rw [this]
    rfl
  · intro i x hx
    have hi : i < p0.length := (List.getElem?_eq_some_iff.1 hx).1
    unfold l_eqInt64S_l4
    rw [run_inb hx, run_at hx, Tre.run_cond]
    simp only [decide_true, Bool.not_true, cond_false, Tre.run_ret, iwrap_succ (show i < 4611686018427387904 by omega)]
  · unfold l_eqInt64S_l4
    exact run_out

noncomputable def l_eqInt64S_V : Env := ⟨tau, [], []⟩
noncomputable def l_eqInt64S_b : Code := (Try.f13.body).getD .skip
noncomputable def l_eqInt64S_l4_mk (z4_0 : Bool) (z4_1 : Bool) (h4_0_0 : (List Int)) (h4_0_1 : (List Int)) : Int → St := fun x => stOf [(0, (.imm z4_0 (.sl (.int .i64)) h4_0_0)), (1, (.imm z4_1 (.sl (.int .i64)) h4_0_1)), (5, (.imm true (.int .i64) x))] []
noncomputable def l_eqInt64S_l4_out (_z4_0 : Bool) (_z4_1 : Bool) (_h4_0_0 : (List Int)) (_h4_0_1 : (List Int)) : (Bool ⊕ Unit) → Ex × St
  | .inl x => (.ret, stOf [(4, (.imm true .bool x))] [])
  | .inr x => (.exit 0, stOf [(4, .dead)] [])
noncomputable def l_eqInt64S_l4_D (s : St) : Tre (Ex × St) :=
  asImm (.sl (.int .i64)) (s.tmps 0) fun z3 d2 =>
  asImm (.sl (.int .i64)) (s.tmps 1) fun z6 d5 =>
  asImmZ true (.int .i64) (s.tmps 5) fun d8 =>
  .mat (loopF (l_eqInt64S_l4 d2 d5) d8) fun x => .alt x (fun a0 => .ret (l_eqInt64S_l4_out z3 z6 d2 d5 (.inl a0))) (fun b0 => .ret (l_eqInt64S_l4_out z3 z6 d2 d5 (.inr b0)))
noncomputable def l_eqInt64S_l4_L : LoopI := ⟨([0, 1, 5], []), ([4], []), l_eqInt64S_l4_D⟩
noncomputable def l_eqInt64S_A : List (Nat × LoopI) := [(4, l_eqInt64S_l4_L)]
set_option maxRecDepth 100000 in
theorem l_eqInt64S_l4_step : ∀ (z4_0 : Bool) (z4_1 : Bool) (h4_0_0 : (List Int)) (h4_0_1 : (List Int)) (x : Int) (c : St → Option (Ex × St)), den l_eqInt64S_V l_eqInt64S_A (loopAt l_eqInt64S_b 0) (l_eqInt64S_l4_mk z4_0 z4_1 h4_0_0 h4_0_1 x) (roundK l_eqInt64S_l4_L.kp l_eqInt64S_l4_L.kx c) = (l_eqInt64S_l4 h4_0_0 h4_0_1 x).run (roundR (l_eqInt64S_l4_mk z4_0 z4_1 h4_0_0 h4_0_1) (l_eqInt64S_l4_out z4_0 z4_1 h4_0_0 h4_0_1) c) := fun _ _ _ _ _ _ => by
  kernel_rfl
theorem l_eqInt64S_l4_ok : LoopOK l_eqInt64S_V l_eqInt64S_A (loopAt l_eqInt64S_b 0) l_eqInt64S_l4_L := loopOK_of fun s e s' h => by
  generalize hs : restrict l_eqInt64S_l4_L.kp s = s1 at h
  have h : (l_eqInt64S_l4_D s1).run some = some (e, s') := h
  obtain ⟨z3, d2, e1, h_0⟩ := asImm_spec h
  obtain ⟨z6, d5, e4, h_1⟩ := asImm_spec h_0
  obtain ⟨d8, e7, h_2⟩ := asImmZ_spec h_1
  obtain ⟨y, hy, hz⟩ := mat_some h_2
  refine ⟨_, _, l_eqInt64S_l4_mk z3 z6 d2 d5, l_eqInt64S_l4_out z3 z6 d2 d5, l_eqInt64S_l4 d2 d5, d8, y, ?_, hy, ?_, l_eqInt64S_l4_step z3 z6 d2 d5⟩
  · subst hs; exact restrict_eq (T := [(0, (.imm z3 (.sl (.int .i64)) d2)), (1, (.imm z6 (.sl (.int .i64)) d5)), (5, (.imm true (.int .i64) d8))]) (U := []) rfl rfl ⟨e1, e4, e7, trivial⟩ trivial
  · rcases y with x | x <;> exact Option.some.inj hz
noncomputable def l_eqInt64S_I : FnI := ⟨l_eqInt64S_b, Try.f13.results.toList, Try.f13.resultTypes.toList, l_eqInt64S_A⟩
noncomputable def l_eqInt64S_out (_zp0 : Bool) (_zp1 : Bool) (_p0 : (List Int)) (_p1 : (List Int)) : Bool → CallOut := fun r => ⟨(.imm true .bool r), [], []⟩
set_option maxRecDepth 100000 in
theorem l_eqInt64S_eq : ∀ (zp0 : Bool) (zp1 : Bool) (p0 : (List Int)) (p1 : (List Int)), denFn l_eqInt64S_V l_eqInt64S_I ⟨[(.imm zp0 (.sl (.int .i64)) p0), (.imm zp1 (.sl (.int .i64)) p1)], []⟩ = (l_eqInt64S p0 p1).run fun r => some (l_eqInt64S_out zp0 zp1 p0 p1 r) := fun _ _ _ _ => by kernel_rfl
noncomputable def l_eqInt64S_G (av : List AV) (rs : List Root) : Tre CallOut :=
  asCons av fun a0_ av0 =>
  asCons av0 fun a1_ av1 =>
  asEnd av1 <|
  asEnd rs <|
  asImm (.sl (.int .i64)) a0_ fun z2 d1 =>
  asImm (.sl (.int .i64)) a1_ fun z4 d3 =>
  .mat (eqS d1 d3) fun r => .ret (l_eqInt64S_out z2 z4 d1 d3 r)
noncomputable def l_eqInt64S_c : Ctr := ⟨[], fun ci => l_eqInt64S_G ci.args ci.roots⟩
theorem l_eqInt64S_env : EnvOK Try.prog l_eqInt64S_V := envOK_nil
set_option maxRecDepth 100000 in
theorem l_eqInt64S_ok : Contract Try.prog 13 l_eqInt64S_c := by
  have hl : LoopsOK l_eqInt64S_V l_eqInt64S_A l_eqInt64S_b := (loopsOK_all (n := 1) (by kernel_rfl) fun k hk => by
      match k, hk with
      | 0, _ => exact loopOK_at (id := 4) (L := l_eqInt64S_l4_L) (by kernel_rfl) (by kernel_rfl) l_eqInt64S_l4_ok)
  refine (contract_of (F := l_eqInt64S_I) tau_tys l_eqInt64S_env Try.func13 (by kernel_rfl) (by kernel_rfl) (by kernel_rfl) hl []).weaken ?_
  rintro ⟨av, rs⟩ co h
  have h : (l_eqInt64S_G av rs).run some = some co := h
  obtain ⟨a0_, av0, rfl, h_0⟩ := asCons_spec h
  obtain ⟨a1_, av1, rfl, h_1⟩ := asCons_spec h_0
  obtain ⟨rfl, h_2⟩ := asEnd_spec h_1
  obtain ⟨rfl, h_3⟩ := asEnd_spec h_2
  obtain ⟨z2, d1, rfl, h_4⟩ := asImm_spec h_3
  obtain ⟨z4, d3, rfl, h_5⟩ := asImm_spec h_4
  exact fin_opt (l_eqInt64S_eq z2 z4 d1 d3) (l_eqInt64S_spec d1 d3) h_5

end Go.Proofs.Ytddaclhjnkimfaa

namespace Go.Proofs.Ytddaclhjnkimfaa
open Go Go.Abs Go.Proofs

/-! function 14: loop.example/g01144/laws.eqGather -/
noncomputable def l_eqGather (p0 : (Int × (Int × ((List Int) × (Int × (Int × Unit)))))) (p1 : (Int × (Int × ((List Int) × (Int × (Int × Unit)))))) : Tre Bool :=
  .cond (!decide (p0.1 = p1.1))
    (.ret false)
    (.cond (!decide (p0.2.1 = p1.2.1))
      (.ret false)
      (.mat (eqS p0.2.2.1 p1.2.2.1) fun r1 =>
      .cond (!r1)
        (.ret false)
        (.cond (!decide (p0.2.2.2.1 = p1.2.2.2.1))
          (.ret false)
          (.cond (!decide (p0.2.2.2.2.1 = p1.2.2.2.2.1))
            (.ret false)
            (.ret true)))))
noncomputable def l_eqGather_F (p0 : (Int × (Int × ((List Int) × (Int × (Int × Unit)))))) (p1 : (Int × (Int × ((List Int) × (Int × (Int × Unit)))))) : Option Bool := (l_eqGather p0 p1).run some
/-- two gatherings alike -/
abbrev eqG (p0 p1 : Int × Int × List Int × Int × Int × Unit) : Option Bool := eqR p0.2.2.1.length p0 p1
theorem l_eqGather_spec (p0 p1 : Int × Int × List Int × Int × Int × Unit) (y : Bool) (h : eqR p0.2.2.1.length p0 p1 = some y) : l_eqGather_F p0 p1 = some y := by
  obtain ⟨hl, rfl, rfl⟩ := eqR_some h
  unfold l_eqGather_F l_eqGather
  simp only [Tre.run_cond, Tre.run_ret, run_some_mat (show eqS p0.2.2.1 p0.2.2.1 = some _ from eqR_self hl), decide_true, Bool.not_true, cond_false]

noncomputable def l_eqGather_V : Env := ⟨tau, [(13, l_eqInt64S_c)], []⟩
noncomputable def l_eqGather_b : Code := (Try.f14.body).getD .skip
noncomputable def l_eqGather_I : FnI := ⟨l_eqGather_b, Try.f14.results.toList, Try.f14.resultTypes.toList, []⟩
noncomputable def l_eqGather_out (_zp0 : Bool) (_zp1 : Bool) (_p0 : (Int × (Int × ((List Int) × (Int × (Int × Unit)))))) (_p1 : (Int × (Int × ((List Int) × (Int × (Int × Unit)))))) : Bool → CallOut := fun r => ⟨(.imm true .bool r), [], []⟩
set_option maxRecDepth 100000 in
theorem l_eqGather_eq : ∀ (zp0 : Bool) (zp1 : Bool) (p0 : (Int × (Int × ((List Int) × (Int × (Int × Unit)))))) (p1 : (Int × (Int × ((List Int) × (Int × (Int × Unit)))))), denFn l_eqGather_V l_eqGather_I ⟨[(.imm zp0 kGather p0), (.imm zp1 kGather p1)], []⟩ = (l_eqGather p0 p1).run fun r => some (l_eqGather_out zp0 zp1 p0 p1 r) := fun _ _ _ _ => by kernel_rfl
noncomputable def l_eqGather_G (av : List AV) (rs : List Root) : Tre CallOut :=
  asCons av fun a0_ av0 =>
  asCons av0 fun a1_ av1 =>
  asEnd av1 <|
  asEnd rs <|
  asImm kGather a0_ fun z2 d1 =>
  asImm kGather a1_ fun z4 d3 =>
  .mat (eqG d1 d3) fun r => .ret (l_eqGather_out z2 z4 d1 d3 r)
noncomputable def l_eqGather_c : Ctr := ⟨[], fun ci => l_eqGather_G ci.args ci.roots⟩
theorem l_eqGather_env : EnvOK Try.prog l_eqGather_V := (envOK_cons l_eqInt64S_ok ent13 envOK_nil)
set_option maxRecDepth 100000 in
theorem l_eqGather_ok : Contract Try.prog 14 l_eqGather_c := by
  have hl : LoopsOK l_eqGather_V [] l_eqGather_b := loopsOK_nil (by kernel_rfl)
  refine (contract_of (F := l_eqGather_I) tau_tys l_eqGather_env Try.func14 (by kernel_rfl) (by kernel_rfl) (by kernel_rfl) hl []).weaken ?_
  rintro ⟨av, rs⟩ co h
  have h : (l_eqGather_G av rs).run some = some co := h
  obtain ⟨a0_, av0, rfl, h_0⟩ := asCons_spec h
  obtain ⟨a1_, av1, rfl, h_1⟩ := asCons_spec h_0
  obtain ⟨rfl, h_2⟩ := asEnd_spec h_1
  obtain ⟨rfl, h_3⟩ := asEnd_spec h_2
  obtain ⟨z2, d1, rfl, h_4⟩ := asImm_spec h_3
  obtain ⟨z4, d3, rfl, h_5⟩ := asImm_spec h_4
  exact fin_opt (l_eqGather_eq z2 z4 d1 d3) (l_eqGather_spec d1 d3) h_5

end Go.Proofs.Ytddaclhjnkimfaa

namespace Go.Proofs.Ytddaclhjnkimfaa
open Go Go.Abs Go.Proofs

/-! function 18: loop.example/g01144/laws.markInt64S -/
noncomputable def l_markInt64S_4b97_l2 : (Int × Int × (Int × (Int × ((List Int) × (Int × (Int × Unit)))))) → Tre ((Int × Int × (Int × (Int × ((List Int) × (Int × (Int × Unit)))))) ⊕ (Int × (Int × (Int × ((List Int) × (Int × (Int × Unit))))))) := fun s2 =>
  .cond (decide (s2.2.1 < (s2.2.2.2.2.1.length : Int)))
    (.ite (0 ≤ s2.2.1 ∧ s2.2.1 < (s2.2.2.2.2.1.length : Int)) <|
    .mat (s2.2.2.2.2.1[s2.2.1.toNat]?) fun _ =>
    let v2 := s2.2.2.2.2.1.set s2.2.1.toNat s2.1
    .ret (.inl (iwrap .i64 (s2.1 + 1), iwrap .i64 (s2.2.1 + 1), (s2.2.2.1, (s2.2.2.2.1, (v2, s2.2.2.2.2.2))))))
    (.ret (.inr (s2.1, s2.2.2)))
noncomputable def l_markInt64S_4b97 (p0 : Int) (p1 : (Int × (Int × ((List Int) × (Int × (Int × Unit)))))) : Tre (Int × (Int × (Int × ((List Int) × (Int × (Int × Unit)))))) :=
  .mat (loopF l_markInt64S_4b97_l2 (p0, 0, p1)) fun l3 =>
  .ret (l3.1, l3.2)
noncomputable def l_markInt64S_4b97_F (p0 : Int) (p1 : (Int × (Int × ((List Int) × (Int × (Int × Unit)))))) : Option (Int × (Int × (Int × ((List Int) × (Int × (Int × Unit)))))) := (l_markInt64S_4b97 p0 p1).run some
/-- the data of a gathering are marked -/
def markN (k : Int) (g : Int × Int × List Int × Int × Int × Unit) : Option (Int × Int × Int × List Int × Int × Int × Unit) := askO (inR k 0 1048576 && decide (g.2.2.1.length ≤ 1048576)) (k + (g.2.2.1.length : Int), (g.1, g.2.1, marks k g.2.2.1.length, g.2.2.2))
theorem l_markInt64S_4b97_spec (p0 : Int) (p1 : Int × Int × List Int × Int × Int × Unit) (y : Int × Int × Int × List Int × Int × Int × Unit) (h : markN p0 p1 = some y) : l_markInt64S_4b97_F p0 p1 = some y := by
  obtain ⟨hok, rfl⟩ := askO_some h
  simp only [Bool.and_eq_true, decide_eq_true_eq, inR_iff] at hok
  obtain ⟨hk, hl⟩ := hok
  obtain ⟨ga, gb, xs, gr⟩ := p1
  unfold l_markInt64S_4b97_F l_markInt64S_4b97
  dsimp only at hl ⊢
  have := fold_loop (xs := xs) (step := l_markInt64S_4b97_l2) (fun i acc => (p0 + (i : Int), (i : Int), (ga, gb, acc, gr))) (fun i acc _ => .inl (acc.set i (p0 + (i : Int)))) (fun acc => (p0 + (xs.length : Int), (ga, gb, acc, gr))) (fun i acc => acc.length = xs.length) (by
    intro i acc x hx hI
    have hi : i < xs.length := (List.getElem?_eq_some_iff.1 hx).1
    refine ⟨?_, fun a ha => by cases ha; simpa using hI⟩
    unfold l_markInt64S_4b97_l2
    rw [run_inb (List.getElem?_eq_getElem (by omega : i < acc.length))]
    dsimp only
    rw [Tre.run_ret, iwrap_succ (by omega), iwrap_i64 (by omega) (by omega), Int.toNat_natCast]
    simp only [Int.natCast_add, Int.natCast_one, Int.add_assoc])
    (by
    intro acc hI
    unfold l_markInt64S_4b97_l2
    rw [← show acc.length = xs.length from hI]
    exact run_out) xs 0 xs rfl (Nat.zero_le _) rfl
  rw [foldE_marks _ _ _ _ _ (by simp)] at this
  have h1 : loopF l_markInt64S_4b97_l2 (p0, 0, (ga, gb, xs, gr)) = some (p0 + (xs.length : Int), (ga, gb, marks p0 xs.length, gr)) := by
    simpa [marks] using this
  rw [run_some_mat h1]
  rfl

noncomputable def l_markInt64S_4b97_V : Env := ⟨tau, [], []⟩
noncomputable def l_markInt64S_4b97_b : Code := (Try.f18.body).getD .skip
noncomputable def l_markInt64S_4b97_l2_mk : (Int × Int × (Int × (Int × ((List Int) × (Int × (Int × Unit)))))) → St := fun x => stOf [(0, (.ref (0, 0) [.snd, .snd, .fst])), (1, (.imm true (.int .i64) x.1)), (5, (.imm true (.int .i64) x.2.1))] [((0, 0), some ⟨true, kGather, .own, x.2.2⟩)]
noncomputable def l_markInt64S_4b97_l2_out : (Int × (Int × (Int × ((List Int) × (Int × (Int × Unit)))))) → Ex × St := fun x => (.exit 0, stOf [(1, (.imm true (.int .i64) x.1))] [((0, 0), some ⟨true, kGather, .own, x.2⟩)])
noncomputable def l_markInt64S_4b97_l2_D (s : St) : Tre (Ex × St) :=
  asRef (0, 0) [.snd, .snd, .fst] (s.tmps 0) <|
  asImmZ true (.int .i64) (s.tmps 1) fun d3 =>
  asImmZ true (.int .i64) (s.tmps 5) fun d5 =>
  asRoot true kGather (s.roots (0, 0)) fun m7 d8 =>
  asM .own m7 <|
  .mat (loopF l_markInt64S_4b97_l2 (d3, d5, d8)) fun x => .ret (l_markInt64S_4b97_l2_out x)
noncomputable def l_markInt64S_4b97_l2_L : LoopI := ⟨([0, 1, 5], [(0, 0)]), ([1], [(0, 0)]), l_markInt64S_4b97_l2_D⟩
noncomputable def l_markInt64S_4b97_A : List (Nat × LoopI) := [(2, l_markInt64S_4b97_l2_L)]
set_option maxRecDepth 100000 in
theorem l_markInt64S_4b97_l2_step : ∀ (x : (Int × Int × (Int × (Int × ((List Int) × (Int × (Int × Unit))))))) (c : St → Option (Ex × St)), den l_markInt64S_4b97_V l_markInt64S_4b97_A (loopAt l_markInt64S_4b97_b 0) (l_markInt64S_4b97_l2_mk x) (roundK l_markInt64S_4b97_l2_L.kp l_markInt64S_4b97_l2_L.kx c) = (l_markInt64S_4b97_l2 x).run (roundR (l_markInt64S_4b97_l2_mk) (l_markInt64S_4b97_l2_out) c) := fun _ _ => by
  kernel_rfl
theorem l_markInt64S_4b97_l2_ok : LoopOK l_markInt64S_4b97_V l_markInt64S_4b97_A (loopAt l_markInt64S_4b97_b 0) l_markInt64S_4b97_l2_L := loopOK_of fun s e s' h => by
  generalize hs : restrict l_markInt64S_4b97_l2_L.kp s = s1 at h
  have h : (l_markInt64S_4b97_l2_D s1).run some = some (e, s') := h
  obtain ⟨e1, h_0⟩ := asRef_spec h
  obtain ⟨d3, e2, h_1⟩ := asImmZ_spec h_0
  obtain ⟨d5, e4, h_2⟩ := asImmZ_spec h_1
  obtain ⟨m7, d8, e6, h_3⟩ := asRoot_spec h_2
  obtain ⟨rfl, h_4⟩ := asM_spec h_3
  obtain ⟨y, hy, hz⟩ := mat_ret h_4
  refine ⟨_, _, l_markInt64S_4b97_l2_mk, l_markInt64S_4b97_l2_out, l_markInt64S_4b97_l2, (d3, d5, d8), y, ?_, hy, ?_, l_markInt64S_4b97_l2_step⟩
  · subst hs; exact restrict_eq (T := [(0, (.ref (0, 0) [.snd, .snd, .fst])), (1, (.imm true (.int .i64) d3)), (5, (.imm true (.int .i64) d5))]) (U := [((0, 0), some ⟨true, kGather, .own, d8⟩)]) rfl rfl ⟨e1, e2, e4, trivial⟩ ⟨e6, trivial⟩
  · exact Option.some.inj hz
noncomputable def l_markInt64S_4b97_I : FnI := ⟨l_markInt64S_4b97_b, Try.f18.results.toList, Try.f18.resultTypes.toList, l_markInt64S_4b97_A⟩
noncomputable def l_markInt64S_4b97_out (_p0 : Int) (_p1 : (Int × (Int × ((List Int) × (Int × (Int × Unit)))))) : (Int × (Int × (Int × ((List Int) × (Int × (Int × Unit)))))) → CallOut := fun r => ⟨(.imm true (.int .i64) r.1), [⟨true, kGather, .own, r.2⟩], []⟩
set_option maxRecDepth 100000 in
theorem l_markInt64S_4b97_eq : ∀ (p0 : Int) (p1 : (Int × (Int × ((List Int) × (Int × (Int × Unit)))))), denFn l_markInt64S_4b97_V l_markInt64S_4b97_I ⟨[(.ref (0, 0) [.snd, .snd, .fst]), (.imm true (.int .i64) p0)], [⟨true, kGather, .own, p1⟩]⟩ = (l_markInt64S_4b97 p0 p1).run fun r => some (l_markInt64S_4b97_out p0 p1 r) := fun _ _ => by kernel_rfl
noncomputable def l_markInt64S_4b97_G (av : List AV) (rs : List Root) : Tre CallOut :=
  asCons av fun a0_ av0 =>
  asCons av0 fun a1_ av1 =>
  asEnd av1 <|
  asCons rs fun r0_ rs0 =>
  asEnd rs0 <|
  asRef (0, 0) [.snd, .snd, .fst] a0_ <|
  asImmZ true (.int .i64) a1_ fun d1 =>
  asRt true kGather r0_ fun m2 d3 =>
  asM .own m2 <|
  .mat (markN d1 d3) fun r => .ret (l_markInt64S_4b97_out d1 d3 r)
noncomputable def l_markInt64S_4b97_c : Ctr := ⟨[0], fun ci => l_markInt64S_4b97_G ci.args ci.roots⟩
theorem l_markInt64S_4b97_env : EnvOK Try.prog l_markInt64S_4b97_V := envOK_nil
set_option maxRecDepth 100000 in
theorem l_markInt64S_4b97_ok : Contract Try.prog 18 l_markInt64S_4b97_c := by
  have hl : LoopsOK l_markInt64S_4b97_V l_markInt64S_4b97_A l_markInt64S_4b97_b := (loopsOK_all (n := 1) (by kernel_rfl) fun k hk => by
      match k, hk with
      | 0, _ => exact loopOK_at (id := 2) (L := l_markInt64S_4b97_l2_L) (by kernel_rfl) (by kernel_rfl) l_markInt64S_4b97_l2_ok)
  refine (contract_of (F := l_markInt64S_4b97_I) tau_tys l_markInt64S_4b97_env Try.func18 (by kernel_rfl) (by kernel_rfl) (by kernel_rfl) hl [0]).weaken ?_
  rintro ⟨av, rs⟩ co h
  have h : (l_markInt64S_4b97_G av rs).run some = some co := h
  obtain ⟨a0_, av0, rfl, h_0⟩ := asCons_spec h
  obtain ⟨a1_, av1, rfl, h_1⟩ := asCons_spec h_0
  obtain ⟨rfl, h_2⟩ := asEnd_spec h_1
  obtain ⟨r0_, rs0, rfl, h_3⟩ := asCons_spec h_2
  obtain ⟨rfl, h_4⟩ := asEnd_spec h_3
  obtain ⟨rfl, h_5⟩ := asRef_spec h_4
  obtain ⟨d1, rfl, h_6⟩ := asImmZ_spec h_5
  obtain ⟨m2, d3, rfl, h_7⟩ := asRt_spec h_6
  obtain ⟨rfl, h_8⟩ := asM_spec h_7
  exact fin_opt (l_markInt64S_4b97_eq d1 d3) (l_markInt64S_4b97_spec d1 d3) h_8

end Go.Proofs.Ytddaclhjnkimfaa

namespace Go.Proofs.Ytddaclhjnkimfaa
open Go Go.Abs Go.Proofs

/-! function 16: loop.example/g01144/laws.markGather -/
noncomputable def l_markGather_3874 (_p0 : Int) (_p1 : Int) (_p2 : (Int × (Int × Unit))) (p3 : Int) (p4 : (Int × (Int × ((List Int) × (Int × (Int × Unit)))))) : Tre (Int × (Int × (Int × ((List Int) × (Int × (Int × Unit)))))) :=
  .mat (markN p3 p4) fun r1 =>
  .ret (r1.1, r1.2)
noncomputable def l_markGather_3874_F (p0 : Int) (p1 : Int) (p2 : (Int × (Int × Unit))) (p3 : Int) (p4 : (Int × (Int × ((List Int) × (Int × (Int × Unit)))))) : Option (Int × (Int × (Int × ((List Int) × (Int × (Int × Unit)))))) := (l_markGather_3874 p0 p1 p2 p3 p4).run some
def markG (_ _ : Int) (_ : Int × Int × Unit) (k : Int) (g : Int × Int × List Int × Int × Int × Unit) : Option (Int × Int × Int × List Int × Int × Int × Unit) := markN k g
theorem l_markGather_3874_spec (p0 p1 : Int) (p2 : Int × Int × Unit) (p3 : Int) (p4 : Int × Int × List Int × Int × Int × Unit) (y : Int × Int × Int × List Int × Int × Int × Unit) (h : markG p0 p1 p2 p3 p4 = some y) : l_markGather_3874_F p0 p1 p2 p3 p4 = some y := by
  unfold l_markGather_3874_F l_markGather_3874
  rw [run_some_mat (show markN p3 p4 = some y from h)]
  rfl

noncomputable def l_markGather_3874_V : Env := ⟨tau, [(18, l_markInt64S_4b97_c)], []⟩
noncomputable def l_markGather_3874_b : Code := (Try.f16.body).getD .skip
noncomputable def l_markGather_3874_I : FnI := ⟨l_markGather_3874_b, Try.f16.results.toList, Try.f16.resultTypes.toList, []⟩
noncomputable def l_markGather_3874_out (_p0 : Int) (_p1 : Int) (_p2 : (Int × (Int × Unit))) (_p3 : Int) (_p4 : (Int × (Int × ((List Int) × (Int × (Int × Unit)))))) : (Int × (Int × (Int × ((List Int) × (Int × (Int × Unit)))))) → CallOut := fun r => ⟨(.imm true (.int .i64) r.1), [⟨true, kGather, .own, r.2⟩], []⟩
set_option maxRecDepth 100000 in
theorem l_markGather_3874_eq : ∀ (p0 : Int) (p1 : Int) (p2 : (Int × (Int × Unit))) (p3 : Int) (p4 : (Int × (Int × ((List Int) × (Int × (Int × Unit)))))), denFn l_markGather_3874_V l_markGather_3874_I ⟨[(.pair (.imm true (.int .i64) p0) (.pair (.imm true (.int .i64) p1) (.pair (.ref (0, 0) [.snd, .snd, .fst]) (.imm true kField p2)))), (.imm true (.int .i64) p3)], [⟨true, kGather, .own, p4⟩]⟩ = (l_markGather_3874 p0 p1 p2 p3 p4).run fun r => some (l_markGather_3874_out p0 p1 p2 p3 p4 r) := fun _ _ _ _ _ => by kernel_rfl
noncomputable def l_markGather_3874_G (av : List AV) (rs : List Root) : Tre CallOut :=
  asCons av fun a0_ av0 =>
  asCons av0 fun a1_ av1 =>
  asEnd av1 <|
  asCons rs fun r0_ rs0 =>
  asEnd rs0 <|
  asPair a0_ fun a1 a2 =>
  asImmZ true (.int .i64) a1 fun d3 =>
  asPair a2 fun a4 a5 =>
  asImmZ true (.int .i64) a4 fun d6 =>
  asPair a5 fun a7 a8 =>
  asRef (0, 0) [.snd, .snd, .fst] a7 <|
  asImmZ true kField a8 fun d9 =>
  asImmZ true (.int .i64) a1_ fun d10 =>
  asRt true kGather r0_ fun m11 d12 =>
  asM .own m11 <|
  .mat (markG d3 d6 d9 d10 d12) fun r => .ret (l_markGather_3874_out d3 d6 d9 d10 d12 r)
noncomputable def l_markGather_3874_c : Ctr := ⟨[0], fun ci => l_markGather_3874_G ci.args ci.roots⟩
theorem l_markGather_3874_env : EnvOK Try.prog l_markGather_3874_V := (envOK_cons l_markInt64S_4b97_ok ent18 envOK_nil)
set_option maxRecDepth 100000 in
theorem l_markGather_3874_ok : Contract Try.prog 16 l_markGather_3874_c := by
  have hl : LoopsOK l_markGather_3874_V [] l_markGather_3874_b := loopsOK_nil (by kernel_rfl)
  refine (contract_of (F := l_markGather_3874_I) tau_tys l_markGather_3874_env Try.func16 (by kernel_rfl) (by kernel_rfl) (by kernel_rfl) hl [0]).weaken ?_
  rintro ⟨av, rs⟩ co h
  have h : (l_markGather_3874_G av rs).run some = some co := h
  obtain ⟨a0_, av0, rfl, h_0⟩ := asCons_spec h
  obtain ⟨a1_, av1, rfl, h_1⟩ := asCons_spec h_0
  obtain ⟨rfl, h_2⟩ := asEnd_spec h_1
  obtain ⟨r0_, rs0, rfl, h_3⟩ := asCons_spec h_2
  obtain ⟨rfl, h_4⟩ := asEnd_spec h_3
  obtain ⟨a1, a2, rfl, h_5⟩ := asPair_spec h_4
  obtain ⟨d3, rfl, h_6⟩ := asImmZ_spec h_5
  obtain ⟨a4, a5, rfl, h_7⟩ := asPair_spec h_6
  obtain ⟨d6, rfl, h_8⟩ := asImmZ_spec h_7
  obtain ⟨a7, a8, rfl, h_9⟩ := asPair_spec h_8
  obtain ⟨rfl, h_10⟩ := asRef_spec h_9
  obtain ⟨d9, rfl, h_11⟩ := asImmZ_spec h_10
  obtain ⟨d10, rfl, h_12⟩ := asImmZ_spec h_11
  obtain ⟨m11, d12, rfl, h_13⟩ := asRt_spec h_12
  obtain ⟨rfl, h_14⟩ := asM_spec h_13
  exact fin_opt (l_markGather_3874_eq d3 d6 d9 d10 d12) (l_markGather_3874_spec d3 d6 d9 d10 d12) h_14

end Go.Proofs.Ytddaclhjnkimfaa

namespace Go.Proofs.Ytddaclhjnkimfaa
open Go Go.Abs Go.Proofs

/-! function 17: loop.example/g01144/laws.markDeedS -/
noncomputable def l_markDeedS_cc7b_l2 : (Int × Int × (List (Int × (Int × (Int × (Int × Unit)))))) → Tre ((Int × Int × (List (Int × (Int × (Int × (Int × Unit)))))) ⊕ (Int × (List (Int × (Int × (Int × (Int × Unit))))))) := fun s2 =>
  .cond (decide (s2.2.1 < (s2.2.2.length : Int)))
    (.ite (0 ≤ s2.2.1 ∧ s2.2.1 < (s2.2.2.length : Int)) <|
    .mat (s2.2.2[s2.2.1.toNat]?) fun x1 =>
    let v2 := s2.2.2.set s2.2.1.toNat (s2.1, x1.2)
    .ite (0 ≤ s2.2.1 ∧ s2.2.1 < (v2.length : Int)) <|
    .mat (v2[s2.2.1.toNat]?) fun x3 =>
    let v4 := v2.set s2.2.1.toNat (x3.1, (iwrap .i64 (s2.1 + 1), x3.2.2))
    let v5 := iwrap .i64 ((iwrap .i64 (s2.1 + 1)) + 1)
    .ite (0 ≤ s2.2.1 ∧ s2.2.1 < (v4.length : Int)) <|
    .mat (v4[s2.2.1.toNat]?) fun x6 =>
    let v7 := v4.set s2.2.1.toNat (x6.1, (x6.2.1, (v5, x6.2.2.2)))
    .ite (0 ≤ s2.2.1 ∧ s2.2.1 < (v7.length : Int)) <|
    .mat (v7[s2.2.1.toNat]?) fun x8 =>
    let v9 := v7.set s2.2.1.toNat (x8.1, (x8.2.1, (x8.2.2.1, (iwrap .i64 (v5 + 1), x8.2.2.2.2))))
    let v10 := iwrap .i64 ((iwrap .i64 (v5 + 1)) + 1)
    .ret (.inl (v10, iwrap .i64 (s2.2.1 + 1), v9)))
    (.ret (.inr (s2.1, s2.2.2)))
noncomputable def l_markDeedS_cc7b (p0 : Int) (p1 : (List (Int × (Int × (Int × (Int × Unit)))))) : Tre (Int × (List (Int × (Int × (Int × (Int × Unit)))))) :=
  .mat (loopF l_markDeedS_cc7b_l2 (p0, 0, p1)) fun l11 =>
  .ret (l11.1, l11.2)
noncomputable def l_markDeedS_cc7b_F (p0 : Int) (p1 : (List (Int × (Int × (Int × (Int × Unit)))))) : Option (Int × (List (Int × (Int × (Int × (Int × Unit)))))) := (l_markDeedS_cc7b p0 p1).run some
/-- deeds are marked -/
def markOf (k : Int) (i : Nat) : Int × Int × Int × Int × Unit := (k + 4 * (i : Int), k + 4 * (i : Int) + 1, k + 4 * (i : Int) + 2, k + 4 * (i : Int) + 3, ())
def dmarks (k : Int) (n : Nat) : List (Int × Int × Int × Int × Unit) := (List.range' 0 n).map (markOf k)
def markD (k : Int) (ds : List (Int × Int × Int × Int × Unit)) : Option (Int × List (Int × Int × Int × Int × Unit)) :=
  askO (inR k 0 4194304 && decide (ds.length ≤ 1048576)) (k + 4 * (ds.length : Int), dmarks k ds.length)
theorem foldE_setf {α β γ : Type} (f : Nat → γ) (fin : List γ → β) : ∀ (l : List α) (i : Nat) (acc : List γ), acc.length = i + l.length → foldE (fun i acc _ => (.inl (acc.set i (f i)) : List γ ⊕ β)) fin i acc l = fin (acc.take i ++ (List.range' i l.length).map f) := by
  intro l
  induction l with
  | nil => intro i acc h; simp only [foldE, List.length_nil, List.range'_zero, List.map_nil, List.append_nil]; rw [List.take_of_length_le (by simp at h; omega)]
  | cons x l ih =>
    intro i acc h
    simp only [foldE, List.length_cons] at h ⊢
    rw [ih (i + 1) _ (by simp; omega), List.range'_succ, List.map_cons]
    congr 1
    have hi : i < acc.length := by omega
    rw [List.take_add_one, List.getElem?_set, if_pos rfl, if_pos hi, List.take_set_of_le (Nat.le_refl i)]
    simp
theorem l_markDeedS_cc7b_spec (p0 : Int) (p1 : List (Int × Int × Int × Int × Unit)) (y : Int × List (Int × Int × Int × Int × Unit)) (h : markD p0 p1 = some y) : l_markDeedS_cc7b_F p0 p1 = some y := by
  obtain ⟨hok, rfl⟩ := askO_some h
  simp only [Bool.and_eq_true, decide_eq_true_eq, inR_iff] at hok
  obtain ⟨hk, hl⟩ := hok
  unfold l_markDeedS_cc7b_F l_markDeedS_cc7b
  have := fold_loop (xs := p1) (step := l_markDeedS_cc7b_l2) (fun i acc => (p0 + 4 * (i : Int), (i : Int), acc)) (fun i acc _ => .inl (acc.set i (markOf p0 i))) (fun acc => (p0 + 4 * (p1.length : Int), acc)) (fun i acc => acc.length = p1.length) (by
    intro i acc x hx hI
    have hi : i < p1.length := (List.getElem?_eq_some_iff.1 hx).1
    have hI : acc.length = p1.length := hI
    refine ⟨?_, fun a ha => by cases ha; simpa using hI⟩
    have w1 : iwrap .i64 (p0 + 4 * (i : Int) + 1) = p0 + 4 * (i : Int) + 1 := iwrap_i64 (by omega) (by omega)
    have w2 : iwrap .i64 (p0 + 4 * (i : Int) + 1 + 1) = p0 + 4 * (i : Int) + 2 := by rw [iwrap_i64 (by omega) (by omega)]; omega
    have w3 : iwrap .i64 (p0 + 4 * (i : Int) + 2 + 1) = p0 + 4 * (i : Int) + 3 := by rw [iwrap_i64 (by omega) (by omega)]; omega
    have w4 : iwrap .i64 (p0 + 4 * (i : Int) + 3 + 1) = p0 + 4 * ((i + 1 : Nat) : Int) := by rw [iwrap_i64 (by omega) (by omega)]; omega
    have hs : ∀ (l : List (Int × Int × Int × Int × Unit)) a, l.length = p1.length → (l.set i a)[i]? = some a := fun l a hl => by rw [List.getElem?_set, if_pos rfl, if_pos (by omega)]
    unfold l_markDeedS_cc7b_l2
    rw [run_inb (List.getElem?_eq_getElem (by omega : i < acc.length))]
    simp only [w1, w2, w3, w4, Int.toNat_natCast]
    rw [run_at2 (hs _ _ hI), run_at2 (hs _ _ (by simpa using hI)), run_at2 (hs _ _ (by simpa using hI)), Tre.run_ret, iwrap_succ (by omega)]
    simp only [List.set_set, markOf])
    (by
    intro acc hI
    unfold l_markDeedS_cc7b_l2
    rw [← show acc.length = p1.length from hI]
    exact run_out) p1 0 p1 rfl (Nat.zero_le _) rfl
  rw [foldE_setf (markOf p0) _ _ _ _ (by simp)] at this
  have h1 : loopF l_markDeedS_cc7b_l2 (p0, 0, p1) = some (p0 + 4 * (p1.length : Int), dmarks p0 p1.length) := by
    simpa [dmarks] using this
  rw [run_some_mat h1]
  rfl

noncomputable def l_markDeedS_cc7b_V : Env := ⟨tau, [], []⟩
noncomputable def l_markDeedS_cc7b_b : Code := (Try.f17.body).getD .skip
noncomputable def l_markDeedS_cc7b_l2_mk : (Int × Int × (List (Int × (Int × (Int × (Int × Unit)))))) → St := fun x => stOf [(0, (.ref (0, 0) [])), (1, (.imm true (.int .i64) x.1)), (5, (.imm true (.int .i64) x.2.1))] [((0, 0), some ⟨false, (.sl kDeed), .own, x.2.2⟩)]
noncomputable def l_markDeedS_cc7b_l2_out : (Int × (List (Int × (Int × (Int × (Int × Unit)))))) → Ex × St := fun x => (.exit 0, stOf [(1, (.imm true (.int .i64) x.1))] [((0, 0), some ⟨false, (.sl kDeed), .own, x.2⟩)])
noncomputable def l_markDeedS_cc7b_l2_D (s : St) : Tre (Ex × St) :=
  asRef (0, 0) [] (s.tmps 0) <|
  asImmZ true (.int .i64) (s.tmps 1) fun d3 =>
  asImmZ true (.int .i64) (s.tmps 5) fun d5 =>
  asRoot false (.sl kDeed) (s.roots (0, 0)) fun m7 d8 =>
  asM .own m7 <|
  .mat (loopF l_markDeedS_cc7b_l2 (d3, d5, d8)) fun x => .ret (l_markDeedS_cc7b_l2_out x)
noncomputable def l_markDeedS_cc7b_l2_L : LoopI := ⟨([0, 1, 5], [(0, 0)]), ([1], [(0, 0)]), l_markDeedS_cc7b_l2_D⟩
noncomputable def l_markDeedS_cc7b_A : List (Nat × LoopI) := [(2, l_markDeedS_cc7b_l2_L)]
set_option maxRecDepth 100000 in
theorem l_markDeedS_cc7b_l2_step : ∀ (x : (Int × Int × (List (Int × (Int × (Int × (Int × Unit))))))) (c : St → Option (Ex × St)), den l_markDeedS_cc7b_V l_markDeedS_cc7b_A (loopAt l_markDeedS_cc7b_b 0) (l_markDeedS_cc7b_l2_mk x) (roundK l_markDeedS_cc7b_l2_L.kp l_markDeedS_cc7b_l2_L.kx c) = (l_markDeedS_cc7b_l2 x).run (roundR (l_markDeedS_cc7b_l2_mk) (l_markDeedS_cc7b_l2_out) c) := fun _ _ => by
  kernel_rfl
theorem l_markDeedS_cc7b_l2_ok : LoopOK l_markDeedS_cc7b_V l_markDeedS_cc7b_A (loopAt l_markDeedS_cc7b_b 0) l_markDeedS_cc7b_l2_L := loopOK_of fun s e s' h => by
  generalize hs : restrict l_markDeedS_cc7b_l2_L.kp s = s1 at h
  have h : (l_markDeedS_cc7b_l2_D s1).run some = some (e, s') := h
  obtain ⟨e1, h_0⟩ := asRef_spec h
  obtain ⟨d3, e2, h_1⟩ := asImmZ_spec h_0
  obtain ⟨d5, e4, h_2⟩ := asImmZ_spec h_1
  obtain ⟨m7, d8, e6, h_3⟩ := asRoot_spec h_2
  obtain ⟨rfl, h_4⟩ := asM_spec h_3
  obtain ⟨y, hy, hz⟩ := mat_ret h_4
  refine ⟨_, _, l_markDeedS_cc7b_l2_mk, l_markDeedS_cc7b_l2_out, l_markDeedS_cc7b_l2, (d3, d5, d8), y, ?_, hy, ?_, l_markDeedS_cc7b_l2_step⟩
  · subst hs; exact restrict_eq (T := [(0, (.ref (0, 0) [])), (1, (.imm true (.int .i64) d3)), (5, (.imm true (.int .i64) d5))]) (U := [((0, 0), some ⟨false, (.sl kDeed), .own, d8⟩)]) rfl rfl ⟨e1, e2, e4, trivial⟩ ⟨e6, trivial⟩
  · exact Option.some.inj hz
noncomputable def l_markDeedS_cc7b_I : FnI := ⟨l_markDeedS_cc7b_b, Try.f17.results.toList, Try.f17.resultTypes.toList, l_markDeedS_cc7b_A⟩
noncomputable def l_markDeedS_cc7b_out (_p0 : Int) (_p1 : (List (Int × (Int × (Int × (Int × Unit)))))) : (Int × (List (Int × (Int × (Int × (Int × Unit)))))) → CallOut := fun r => ⟨(.imm true (.int .i64) r.1), [⟨false, (.sl kDeed), .own, r.2⟩], []⟩
set_option maxRecDepth 100000 in
theorem l_markDeedS_cc7b_eq : ∀ (p0 : Int) (p1 : (List (Int × (Int × (Int × (Int × Unit)))))), denFn l_markDeedS_cc7b_V l_markDeedS_cc7b_I ⟨[(.ref (0, 0) []), (.imm true (.int .i64) p0)], [⟨false, (.sl kDeed), .own, p1⟩]⟩ = (l_markDeedS_cc7b p0 p1).run fun r => some (l_markDeedS_cc7b_out p0 p1 r) := fun _ _ => by kernel_rfl
noncomputable def l_markDeedS_cc7b_G (av : List AV) (rs : List Root) : Tre CallOut :=
  asCons av fun a0_ av0 =>
  asCons av0 fun a1_ av1 =>
  asEnd av1 <|
  asCons rs fun r0_ rs0 =>
  asEnd rs0 <|
  asRef (0, 0) [] a0_ <|
  asImmZ true (.int .i64) a1_ fun d1 =>
  asRt false (.sl kDeed) r0_ fun m2 d3 =>
  asM .own m2 <|
  .mat (markD d1 d3) fun r => .ret (l_markDeedS_cc7b_out d1 d3 r)
noncomputable def l_markDeedS_cc7b_c : Ctr := ⟨[0], fun ci => l_markDeedS_cc7b_G ci.args ci.roots⟩
theorem l_markDeedS_cc7b_env : EnvOK Try.prog l_markDeedS_cc7b_V := envOK_nil
set_option maxRecDepth 100000 in
theorem l_markDeedS_cc7b_ok : Contract Try.prog 17 l_markDeedS_cc7b_c := by
  have hl : LoopsOK l_markDeedS_cc7b_V l_markDeedS_cc7b_A l_markDeedS_cc7b_b := (loopsOK_all (n := 1) (by kernel_rfl) fun k hk => by
      match k, hk with
      | 0, _ => exact loopOK_at (id := 2) (L := l_markDeedS_cc7b_l2_L) (by kernel_rfl) (by kernel_rfl) l_markDeedS_cc7b_l2_ok)
  refine (contract_of (F := l_markDeedS_cc7b_I) tau_tys l_markDeedS_cc7b_env Try.func17 (by kernel_rfl) (by kernel_rfl) (by kernel_rfl) hl [0]).weaken ?_
  rintro ⟨av, rs⟩ co h
  have h : (l_markDeedS_cc7b_G av rs).run some = some co := h
  obtain ⟨a0_, av0, rfl, h_0⟩ := asCons_spec h
  obtain ⟨a1_, av1, rfl, h_1⟩ := asCons_spec h_0
  obtain ⟨rfl, h_2⟩ := asEnd_spec h_1
  obtain ⟨r0_, rs0, rfl, h_3⟩ := asCons_spec h_2
  obtain ⟨rfl, h_4⟩ := asEnd_spec h_3
  obtain ⟨rfl, h_5⟩ := asRef_spec h_4
  obtain ⟨d1, rfl, h_6⟩ := asImmZ_spec h_5
  obtain ⟨m2, d3, rfl, h_7⟩ := asRt_spec h_6
  obtain ⟨rfl, h_8⟩ := asM_spec h_7
  exact fin_opt (l_markDeedS_cc7b_eq d1 d3) (l_markDeedS_cc7b_spec d1 d3) h_8

end Go.Proofs.Ytddaclhjnkimfaa

namespace Go.Proofs.Ytddaclhjnkimfaa
open Go Go.Abs Go.Proofs

/-! function 22: loop.example/g01144/laws.heldDeedS -/
noncomputable def l_heldDeedS_l2 (h2_0_0 : (List (Int × (Int × (Int × (Int × Unit)))))) : (Int × Int) → Tre ((Int × Int) ⊕ ((Int × Int) ⊕ Int)) := fun s2 =>
  .cond (decide (s2.2 < (h2_0_0.length : Int)))
    (.ite (0 ≤ s2.2 ∧ s2.2 < (h2_0_0.length : Int)) <|
    .mat (h2_0_0[s2.2.toNat]?) fun x1 =>
    .cond (!decide (x1.1 = s2.1))
      (.ret (.inr (.inl (s2.1, -1))))
      (.ite (0 ≤ s2.2 ∧ s2.2 < (h2_0_0.length : Int)) <|
      .mat (h2_0_0[s2.2.toNat]?) fun x2 =>
      .cond (!decide (x2.2.1 = iwrap .i64 (s2.1 + 1)))
        (.ret (.inr (.inl (iwrap .i64 (s2.1 + 1), -1))))
        (let v3 := iwrap .i64 ((iwrap .i64 (s2.1 + 1)) + 1)
        .ite (0 ≤ s2.2 ∧ s2.2 < (h2_0_0.length : Int)) <|
        .mat (h2_0_0[s2.2.toNat]?) fun x4 =>
        .cond (!decide (x4.2.2.1 = v3))
          (.ret (.inr (.inl (v3, -1))))
          (.ite (0 ≤ s2.2 ∧ s2.2 < (h2_0_0.length : Int)) <|
          .mat (h2_0_0[s2.2.toNat]?) fun x5 =>
          .cond (!decide (x5.2.2.2.1 = iwrap .i64 (v3 + 1)))
            (.ret (.inr (.inl (iwrap .i64 (v3 + 1), -1))))
            (let v6 := iwrap .i64 ((iwrap .i64 (v3 + 1)) + 1)
            .ret (.inl (v6, iwrap .i64 (s2.2 + 1))))))))
    (.ret (.inr (.inr s2.1)))
noncomputable def l_heldDeedS (p0 : (List (Int × (Int × (Int × (Int × Unit)))))) (p1 : Int) : Tre Int :=
  .mat (loopF (l_heldDeedS_l2 p0) (p1, 0)) fun l7 =>
  .alt l7
    (fun a8 =>
      .ret a8.2)
    (fun b9 =>
      .ret b9)
noncomputable def l_heldDeedS_F (p0 : (List (Int × (Int × (Int × (Int × Unit)))))) (p1 : Int) : Option Int := (l_heldDeedS p0 p1).run some
/-- do the marks stand? -/
def heldD (xs : List (Int × Int × Int × Int × Unit)) (k : Int) : Option Int := askO (inR k 0 4194304 && decide (xs.length ≤ 1048576) && xs == dmarks k xs.length) (k + 4 * (xs.length : Int))
theorem l_heldDeedS_spec (p0 : List (Int × Int × Int × Int × Unit)) (p1 : Int) (y : Int) (h : heldD p0 p1 = some y) : l_heldDeedS_F p0 p1 = some y := by
  obtain ⟨hok, rfl⟩ := askO_some h
  simp only [Bool.and_eq_true, decide_eq_true_eq, inR_iff, beq_iff_eq] at hok
  obtain ⟨⟨hk, hl⟩, he⟩ := hok
  unfold l_heldDeedS_F l_heldDeedS
  have := fold_loop (xs := p0) (step := l_heldDeedS_l2 p0) (fun i (_ : Unit) => (p1 + 4 * (i : Int), (i : Int))) (fun _ _ _ => .inl ()) (fun _ => (.inr (p1 + 4 * (p0.length : Int)) : (Int × Int) ⊕ Int)) (fun _ _ => True) (by
    intro i acc x hx _
    have hi : i < p0.length := (List.getElem?_eq_some_iff.1 hx).1
    have hxv : x = markOf p1 i := by
      rw [he] at hx
      unfold dmarks at hx
      rw [List.getElem?_map, List.getElem?_range' (by omega)] at hx
      simp at hx
      exact hx.symm
    subst hxv
    refine ⟨?_, fun _ _ => trivial⟩
    have w1 : iwrap .i64 (p1 + 4 * (i : Int) + 1) = p1 + 4 * (i : Int) + 1 := iwrap_i64 (by omega) (by omega)
    have w2 : iwrap .i64 (p1 + 4 * (i : Int) + 1 + 1) = p1 + 4 * (i : Int) + 2 := by rw [iwrap_i64 (by omega) (by omega)]; omega
    have w3 : iwrap .i64 (p1 + 4 * (i : Int) + 2 + 1) = p1 + 4 * (i : Int) + 3 := by rw [iwrap_i64 (by omega) (by omega)]; omega
    have w4 : iwrap .i64 (p1 + 4 * (i : Int) + 3 + 1) = p1 + 4 * ((i + 1 : Nat) : Int) := by rw [iwrap_i64 (by omega) (by omega)]; omega
    unfold l_heldDeedS_l2
    rw [run_inb hx]
    simp only [w1, w2, w3, w4]
    have e1 : (!decide ((markOf p1 i).1 = p1 + 4 * (i : Int))) = false := by simp [markOf]
    have e2 : (!decide ((markOf p1 i).2.1 = p1 + 4 * (i : Int) + 1)) = false := by simp [markOf]
    have e3 : (!decide ((markOf p1 i).2.2.1 = p1 + 4 * (i : Int) + 2)) = false := by simp [markOf]
    have e4 : (!decide ((markOf p1 i).2.2.2.1 = p1 + 4 * (i : Int) + 3)) = false := by simp [markOf]
    rw [Tre.run_cond, e1, cond_false, run_at hx, Tre.run_cond, e2, cond_false, run_at hx, Tre.run_cond, e3, cond_false, run_at hx, Tre.run_cond, e4, cond_false, Tre.run_ret, iwrap_succ (by omega)])
    (by
    intro acc _
    unfold l_heldDeedS_l2
    exact run_out) p0 0 () (by simp) (Nat.zero_le _) trivial
  have hf : ∀ (l : List (Int × Int × Int × Int × Unit)) (i : Nat), foldE (β := (Int × Int) ⊕ Int) (fun (_ : Nat) (_ : Unit) _ => .inl ()) (fun _ => .inr (p1 + 4 * (p0.length : Int))) i () l = .inr (p1 + 4 * (p0.length : Int)) := by
    intro l
    induction l with
    | nil => intro i; rfl
    | cons x l ih => intro i; exact ih _
  rw [hf] at this
  have h1 : loopF (l_heldDeedS_l2 p0) (p1, 0) = some (.inr (p1 + 4 * (p0.length : Int))) := by simpa using this
  rw [run_some_mat h1]
  rfl

noncomputable def l_heldDeedS_V : Env := ⟨tau, [], []⟩
noncomputable def l_heldDeedS_b : Code := (Try.f22.body).getD .skip
noncomputable def l_heldDeedS_l2_mk (z2_0 : Bool) (h2_0_0 : (List (Int × (Int × (Int × (Int × Unit)))))) : (Int × Int) → St := fun x => stOf [(0, (.imm z2_0 (.sl kDeed) h2_0_0)), (1, (.imm true (.int .i64) x.1)), (5, (.imm true (.int .i64) x.2))] []
noncomputable def l_heldDeedS_l2_out (_z2_0 : Bool) (_h2_0_0 : (List (Int × (Int × (Int × (Int × Unit)))))) : ((Int × Int) ⊕ Int) → Ex × St
  | .inl x => (.ret, stOf [(1, (.imm true (.int .i64) x.1)), (4, (.imm true (.int .i64) x.2))] [])
  | .inr x => (.exit 0, stOf [(1, (.imm true (.int .i64) x)), (4, .dead)] [])
noncomputable def l_heldDeedS_l2_D (s : St) : Tre (Ex × St) :=
  asImm (.sl kDeed) (s.tmps 0) fun z3 d2 =>
  asImmZ true (.int .i64) (s.tmps 1) fun d5 =>
  asImmZ true (.int .i64) (s.tmps 5) fun d7 =>
  .mat (loopF (l_heldDeedS_l2 d2) (d5, d7)) fun x => .alt x (fun a0 => .ret (l_heldDeedS_l2_out z3 d2 (.inl a0))) (fun b0 => .ret (l_heldDeedS_l2_out z3 d2 (.inr b0)))
noncomputable def l_heldDeedS_l2_L : LoopI := ⟨([0, 1, 5], []), ([1, 4], []), l_heldDeedS_l2_D⟩
noncomputable def l_heldDeedS_A : List (Nat × LoopI) := [(2, l_heldDeedS_l2_L)]
set_option maxRecDepth 100000 in
theorem l_heldDeedS_l2_step : ∀ (z2_0 : Bool) (h2_0_0 : (List (Int × (Int × (Int × (Int × Unit)))))) (x : (Int × Int)) (c : St → Option (Ex × St)), den l_heldDeedS_V l_heldDeedS_A (loopAt l_heldDeedS_b 0) (l_heldDeedS_l2_mk z2_0 h2_0_0 x) (roundK l_heldDeedS_l2_L.kp l_heldDeedS_l2_L.kx c) = (l_heldDeedS_l2 h2_0_0 x).run (roundR (l_heldDeedS_l2_mk z2_0 h2_0_0) (l_heldDeedS_l2_out z2_0 h2_0_0) c) := fun _ _ _ _ => by
  kernel_rfl
theorem l_heldDeedS_l2_ok : LoopOK l_heldDeedS_V l_heldDeedS_A (loopAt l_heldDeedS_b 0) l_heldDeedS_l2_L := loopOK_of fun s e s' h => by
  generalize hs : restrict l_heldDeedS_l2_L.kp s = s1 at h
  have h : (l_heldDeedS_l2_D s1).run some = some (e, s') := h
  obtain ⟨z3, d2, e1, h_0⟩ := asImm_spec h
  obtain ⟨d5, e4, h_1⟩ := asImmZ_spec h_0
  obtain ⟨d7, e6, h_2⟩ := asImmZ_spec h_1
  obtain ⟨y, hy, hz⟩ := mat_some h_2
  refine ⟨_, _, l_heldDeedS_l2_mk z3 d2, l_heldDeedS_l2_out z3 d2, l_heldDeedS_l2 d2, (d5, d7), y, ?_, hy, ?_, l_heldDeedS_l2_step z3 d2⟩
  · subst hs; exact restrict_eq (T := [(0, (.imm z3 (.sl kDeed) d2)), (1, (.imm true (.int .i64) d5)), (5, (.imm true (.int .i64) d7))]) (U := []) rfl rfl ⟨e1, e4, e6, trivial⟩ trivial
  · rcases y with x | x <;> exact Option.some.inj hz
noncomputable def l_heldDeedS_I : FnI := ⟨l_heldDeedS_b, Try.f22.results.toList, Try.f22.resultTypes.toList, l_heldDeedS_A⟩
noncomputable def l_heldDeedS_out (_zp0 : Bool) (_p0 : (List (Int × (Int × (Int × (Int × Unit)))))) (_p1 : Int) : Int → CallOut := fun r => ⟨(.imm true (.int .i64) r), [], []⟩
set_option maxRecDepth 100000 in
theorem l_heldDeedS_eq : ∀ (zp0 : Bool) (p0 : (List (Int × (Int × (Int × (Int × Unit)))))) (p1 : Int), denFn l_heldDeedS_V l_heldDeedS_I ⟨[(.imm zp0 (.sl kDeed) p0), (.imm true (.int .i64) p1)], []⟩ = (l_heldDeedS p0 p1).run fun r => some (l_heldDeedS_out zp0 p0 p1 r) := fun _ _ _ => by kernel_rfl
noncomputable def l_heldDeedS_G (av : List AV) (rs : List Root) : Tre CallOut :=
  asCons av fun a0_ av0 =>
  asCons av0 fun a1_ av1 =>
  asEnd av1 <|
  asEnd rs <|
  asImm (.sl kDeed) a0_ fun z2 d1 =>
  asImmZ true (.int .i64) a1_ fun d3 =>
  .mat (heldD d1 d3) fun r => .ret (l_heldDeedS_out z2 d1 d3 r)
noncomputable def l_heldDeedS_c : Ctr := ⟨[], fun ci => l_heldDeedS_G ci.args ci.roots⟩
theorem l_heldDeedS_env : EnvOK Try.prog l_heldDeedS_V := envOK_nil
set_option maxRecDepth 100000 in
theorem l_heldDeedS_ok : Contract Try.prog 22 l_heldDeedS_c := by
  have hl : LoopsOK l_heldDeedS_V l_heldDeedS_A l_heldDeedS_b := (loopsOK_all (n := 1) (by kernel_rfl) fun k hk => by
      match k, hk with
      | 0, _ => exact loopOK_at (id := 2) (L := l_heldDeedS_l2_L) (by kernel_rfl) (by kernel_rfl) l_heldDeedS_l2_ok)
  refine (contract_of (F := l_heldDeedS_I) tau_tys l_heldDeedS_env Try.func22 (by kernel_rfl) (by kernel_rfl) (by kernel_rfl) hl []).weaken ?_
  rintro ⟨av, rs⟩ co h
  have h : (l_heldDeedS_G av rs).run some = some co := h
  obtain ⟨a0_, av0, rfl, h_0⟩ := asCons_spec h
  obtain ⟨a1_, av1, rfl, h_1⟩ := asCons_spec h_0
  obtain ⟨rfl, h_2⟩ := asEnd_spec h_1
  obtain ⟨rfl, h_3⟩ := asEnd_spec h_2
  obtain ⟨z2, d1, rfl, h_4⟩ := asImm_spec h_3
  obtain ⟨d3, rfl, h_5⟩ := asImmZ_spec h_4
  exact fin_opt (l_heldDeedS_eq z2 d1 d3) (l_heldDeedS_spec d1 d3) h_5

end Go.Proofs.Ytddaclhjnkimfaa

namespace Go.Proofs.Ytddaclhjnkimfaa
open Go Go.Abs Go.Proofs

/-! function 4: loop.example/g01144/laws.FnExactFinishDeeds -/
noncomputable def l_FnExactFinishDeeds (p0 : (Int × (Int × ((List Int) × (Int × (Int × Unit)))))) (p1 : (List (Int × (Int × (Int × (Int × Unit)))))) : Tre Bool :=
  .cond (decide ((l_szGather_S p0 1048576) < 0))
    (.ret true)
    (let v1 := l_szDeedS_S p1 (l_szGather_S p0 1048576)
    .cond (decide (v1 < 0))
      (.ret true)
      (.mat (toG p0) fun r2 =>
      .mat (cloneR p1) fun r3 =>
      .mat (finR (r2.1, (r2.2.1, (r2.2.2.2, r2.2.2.1))) r3) fun r4 =>
      .mat (toG p0) fun r5 =>
      .mat (cloneR p1) fun r6 =>
      .mat (finR (r5.1, (r5.2.1, (r5.2.2.2, r5.2.2.1))) r6) fun r7 =>
      .mat (eqDs r7.2 r4.2) fun r8 =>
      .cond (!r8)
        (.ret false)
        (.cond (!decide (r7.1 = r4.1))
          (.ret false)
          (.mat (toG p0) fun r9 =>
          .mat (eqG (r5.1, (r5.2.1, (r5.2.2.2, r5.2.2.1))) (r9.1, (r9.2.1, (r9.2.2.2, r9.2.2.1)))) fun r10 =>
          .cond (!r10)
            (.ret false)
            (.mat (cloneR p1) fun r11 =>
            .mat (eqDs r6 r11) fun r12 =>
            .cond (!r12)
              (.ret false)
              (.mat (markG r5.1 r5.2.1 r5.2.2.1 1 (r5.1, (r5.2.1, (r5.2.2.2, r5.2.2.1)))) fun r13 =>
              .mat (markD r13.1 r6) fun r14 =>
              .cond (decide (r14.1 < 0))
                (.ret false)
                (.mat (eqDs r7.2 r4.2) fun r15 =>
                .cond (!r15)
                  (.ret false)
                  (.cond (!decide (r7.1 = r4.1))
                    (.ret false)
                    (.mat (markD 1 r7.2) fun r16 =>
                    .mat (heldD r16.2 1) fun r17 =>
                    .cond (decide (r17 < 0))
                      (.ret false)
                      (.cond (!decide (r17 = r16.1))
                        (.ret false)
                        (.mat (toG p0) fun r18 =>
                        .mat (cloneR p1) fun r19 =>
                        .mat (finR (r18.1, (r18.2.1, (r18.2.2.2, r18.2.2.1))) r19) fun r20 =>
                        .mat (eqDs r20.2 r4.2) fun r21 =>
                        .cond (!r21)
                          (.ret false)
                          (.cond (!decide (r20.1 = r4.1))
                            (.ret false)
                            (.mat (heldD r16.2 1) fun r22 =>
                            .cond (decide (r22 < 0))
                              (.ret false)
                              (.cond (!decide (r22 = r16.1))
                                (.ret false)
                                (.ret true)))))))))))))))
noncomputable def l_FnExactFinishDeeds_F (p0 : (Int × (Int × ((List Int) × (Int × (Int × Unit)))))) (p1 : (List (Int × (Int × (Int × (Int × Unit)))))) : Option Bool := (l_FnExactFinishDeeds p0 p1).run some
-- law
theorem finRes_len (g : G8) (ds : List D8) : (finRes g ds).2.length ≤ 1048576 := by
  unfold finRes
  by_cases h0 : askedM ds g = 0
  · obtain ⟨hg, hd, hl⟩ := askedM_zero h0
    have hn := finM_len hg (afterM_ok hg hd hl)
    rw [decide_eq_true h0, cond_true]
    cases decide (((savedI (afterM g ds) 0).length : Int) < g.1)
    · cases decide ((ds.length : Int) + ((finM g (afterM g ds)).length : Int) > 300)
      · simp only [cond_false]; omega
      · simp
    · simp
  · rw [decide_eq_false h0]; simp
theorem dmarks_len (k : Int) (n : Nat) : (dmarks k n).length = n := by simp [dmarks]
theorem l_FnExactFinishDeeds_law (p0 : Int × Int × List Int × Int × Int × Unit) (p1 : List (Int × Int × Int × Int × Unit)) (hw : kGather.wf p0) (h1 : (K.sl kDeed).wf p1) : l_FnExactFinishDeeds_F p0 p1 = some true := by
  unfold l_FnExactFinishDeeds_F l_FnExactFinishDeeds
  rw [Tre.run_cond]
  by_cases hs : l_szGather_S p0 1048576 < 0
  · rw [decide_eq_true hs]; rfl
  have hl := l_szGather_len hw.2.2.1.1 hs
  rw [decide_eq_false hs, cond_false]
  dsimp only
  rw [Tre.run_cond]
  by_cases hq : l_szDeedS_S p1 (l_szGather_S p0 1048576) < 0
  · rw [decide_eq_true hq]; rfl
  have hd := l_szDeedS_len h1.1 (l_szGather_le hl) (by omega) hq
  rw [decide_eq_false hq, cond_false]
  have hn := finRes_len p0 p1
  have e1 : toG p0 = _ := lim_of hl
  have e1d : cloneR p1 = _ := lim_of hd
  have e2 : finR p0 p1 = some (finRes p0 p1) := askO_true (by simp [hl, hd])
  have e3 : eqG p0 p0 = some true := eqR_self hl
  have e3d : eqDs p1 p1 = some true := eqR_self hd
  have e4 : eqDs (finRes p0 p1).2 (finRes p0 p1).2 = some true := eqR_self hn
  generalize finRes p0 p1 = v at *
  obtain ⟨va, vl⟩ := v
  have e5 : markG p0.1 p0.2.1 p0.2.2.2 1 p0 = some (1 + (p0.2.2.1.length : Int), (p0.1, p0.2.1, marks 1 p0.2.2.1.length, p0.2.2.2)) := askO_true (by simp [inR]; omega)
  have e5d : markD (1 + (p0.2.2.1.length : Int)) p1 = some (1 + (p0.2.2.1.length : Int) + 4 * (p1.length : Int), _) := askO_true (by simp [inR]; omega)
  have e6 : markD 1 vl = some (1 + 4 * (vl.length : Int), dmarks 1 vl.length) := askO_true (by simp [inR]; exact hn)
  have e7 : heldD (dmarks 1 vl.length) 1 = some (1 + 4 * (vl.length : Int)) := by
    unfold heldD
    rw [dmarks_len]
    exact askO_true (by simp [inR]; exact hn)
  have c1 : decide (1 + (p0.2.2.1.length : Int) + 4 * (p1.length : Int) < 0) = false := by simp; omega
  have c2 : decide (1 + 4 * (vl.length : Int) < 0) = false := by simp; omega
  rw [run_some_mat e1, run_some_mat e1d, run_some_mat (x := (va, vl)) e2, run_some_mat e1, run_some_mat e1d, run_some_mat (x := (va, vl)) e2, run_some_mat (x := true) e4]
  simp only [Tre.run_cond, decide_true, Bool.not_true, cond_false]
  rw [run_some_mat e1, run_some_mat (x := true) e3]
  simp only [Tre.run_cond, decide_true, Bool.not_true, cond_false]
  rw [run_some_mat e1d, run_some_mat (x := true) e3d]
  simp only [Tre.run_cond, decide_true, Bool.not_true, cond_false]
  rw [run_some_mat e5, run_some_mat e5d]
  simp only [Tre.run_cond, c1, cond_false]
  rw [run_some_mat (x := true) e4]
  simp only [Tre.run_cond, decide_true, Bool.not_true, cond_false]
  rw [run_some_mat e6]
  dsimp only
  rw [run_some_mat e7]
  simp only [Tre.run_cond, c2, decide_true, Bool.not_true, cond_false]
  rw [run_some_mat e1, run_some_mat e1d, run_some_mat (x := (va, vl)) e2, run_some_mat (x := true) e4]
  simp only [Tre.run_cond, decide_true, Bool.not_true, cond_false]
  rw [run_some_mat e7]
  simp only [Tre.run_cond, c2, decide_true, Bool.not_true, cond_false]
  rfl

noncomputable def l_FnExactFinishDeeds_V : Env := ⟨tau, [(7, l_szGather_c), (8, l_szDeedS_c), (10, l_toGather_c), (11, l_toDeedS_c), (20, s_FinishDeeds_c), (21, i_FinishDeeds_c), (15, l_eqDeedS_c), (14, l_eqGather_c), (16, l_markGather_3874_c), (17, l_markDeedS_cc7b_c), (22, l_heldDeedS_c)], []⟩
noncomputable def l_FnExactFinishDeeds_b : Code := (Try.f4.body).getD .skip
noncomputable def l_FnExactFinishDeeds_I : FnI := ⟨l_FnExactFinishDeeds_b, Try.f4.results.toList, Try.f4.resultTypes.toList, []⟩
noncomputable def l_FnExactFinishDeeds_out (_zp0 : Bool) (_zp1 : Bool) (_p0 : (Int × (Int × ((List Int) × (Int × (Int × Unit)))))) (_p1 : (List (Int × (Int × (Int × (Int × Unit)))))) : Bool → CallOut := fun r => ⟨(.imm true .bool r), [], []⟩
set_option maxRecDepth 100000 in
theorem l_FnExactFinishDeeds_eq : ∀ (zp0 : Bool) (zp1 : Bool) (p0 : (Int × (Int × ((List Int) × (Int × (Int × Unit)))))) (p1 : (List (Int × (Int × (Int × (Int × Unit)))))), denFn l_FnExactFinishDeeds_V l_FnExactFinishDeeds_I ⟨[(.imm zp0 kGather p0), (.imm zp1 (.sl kDeed) p1)], []⟩ = (l_FnExactFinishDeeds p0 p1).run fun r => some (l_FnExactFinishDeeds_out zp0 zp1 p0 p1 r) := fun _ _ _ _ => by kernel_rfl
noncomputable def l_FnExactFinishDeeds_G (av : List AV) (rs : List Root) : Tre CallOut :=
  asCons av fun a0_ av0 =>
  asCons av0 fun a1_ av1 =>
  asEnd av1 <|
  asEnd rs <|
  asImm kGather a0_ fun z2 d1 =>
  asImm (.sl kDeed) a1_ fun z4 d3 =>
  .mat (l_FnExactFinishDeeds_F d1 d3) fun r => .ret (l_FnExactFinishDeeds_out z2 z4 d1 d3 r)
noncomputable def l_FnExactFinishDeeds_c : Ctr := ⟨[], fun ci => l_FnExactFinishDeeds_G ci.args ci.roots⟩
theorem l_FnExactFinishDeeds_env : EnvOK Try.prog l_FnExactFinishDeeds_V := (envOK_cons l_szGather_ok ent7 (envOK_cons l_szDeedS_ok ent8 (envOK_cons l_toGather_ok ent10 (envOK_cons l_toDeedS_ok ent11 (envOK_cons s_FinishDeeds_ok ent20 (envOK_cons i_FinishDeeds_ok ent21 (envOK_cons l_eqDeedS_ok ent15 (envOK_cons l_eqGather_ok ent14 (envOK_cons l_markGather_3874_ok ent16 (envOK_cons l_markDeedS_cc7b_ok ent17 (envOK_cons l_heldDeedS_ok ent22 envOK_nil)))))))))))
set_option maxRecDepth 100000 in
theorem l_FnExactFinishDeeds_ok : Contract Try.prog 4 l_FnExactFinishDeeds_c := by
  have hl : LoopsOK l_FnExactFinishDeeds_V [] l_FnExactFinishDeeds_b := loopsOK_nil (by kernel_rfl)
  refine (contract_of (F := l_FnExactFinishDeeds_I) tau_tys l_FnExactFinishDeeds_env Try.func4 (by kernel_rfl) (by kernel_rfl) (by kernel_rfl) hl []).weaken ?_
  rintro ⟨av, rs⟩ co h
  have h : (l_FnExactFinishDeeds_G av rs).run some = some co := h
  obtain ⟨a0_, av0, rfl, h_0⟩ := asCons_spec h
  obtain ⟨a1_, av1, rfl, h_1⟩ := asCons_spec h_0
  obtain ⟨rfl, h_2⟩ := asEnd_spec h_1
  obtain ⟨rfl, h_3⟩ := asEnd_spec h_2
  obtain ⟨z2, d1, rfl, h_4⟩ := asImm_spec h_3
  obtain ⟨z4, d3, rfl, h_5⟩ := asImm_spec h_4
  exact fin_mat (l_FnExactFinishDeeds_eq z2 z4 d1 d3) h_5

end Go.Proofs.Ytddaclhjnkimfaa
