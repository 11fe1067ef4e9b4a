/- Part 5 of the proof of FnExactMendAfter. -/
import Derived.Test.YtddaclhjnkimfaaMy4
namespace Go.Proofs.Ytddaclhjnkimfaa
open Go Go.Abs Go.Proofs
noncomputable def l_markDeedS_cc7b_l2 : (Int × Int × (List TDeed)) → Tre ((Int × Int × (List TDeed)) ⊕ (Int × (List TDeed))) := fun s2 =>
  .cond (decide (s2.2.1 < (s2.2.2.length : Int)))
    (.ite (0 ≤ s2.2.1 ∧ s2.2.1 < (s2.2.2.length : Int)) <|
    .mat (s2.2.2[s2.2.1.toNat]?) fun x1 =>
    let v2 := s2.2.2.set s2.2.1.toNat (s2.1, x1.2)
    .ite (0 ≤ s2.2.1 ∧ s2.2.1 < (v2.length : Int)) <|
    .mat (v2[s2.2.1.toNat]?) fun x3 =>
    let v4 := v2.set s2.2.1.toNat (x3.1, (iwrap .i64 (s2.1 + 1), x3.2.2))
    let v5 := iwrap .i64 ((iwrap .i64 (s2.1 + 1)) + 1)
    .ite (0 ≤ s2.2.1 ∧ s2.2.1 < (v4.length : Int)) <|
    .mat (v4[s2.2.1.toNat]?) fun x6 =>
    let v7 := v4.set s2.2.1.toNat (x6.1, (x6.2.1, (v5, x6.2.2.2)))
    .ite (0 ≤ s2.2.1 ∧ s2.2.1 < (v7.length : Int)) <|
    .mat (v7[s2.2.1.toNat]?) fun x8 =>
    let v9 := v7.set s2.2.1.toNat (x8.1, (x8.2.1, (x8.2.2.1, (iwrap .i64 (v5 + 1), x8.2.2.2.2))))
    let v10 := iwrap .i64 ((iwrap .i64 (v5 + 1)) + 1)
    .ret (.inl (v10, iwrap .i64 (s2.2.1 + 1), v9)))
    (.ret (.inr (s2.1, s2.2.2)))
noncomputable def l_markDeedS_cc7b (p0 : Int) (p1 : (List TDeed)) : Tre (Int × (List TDeed)) :=
  .mat (loopF l_markDeedS_cc7b_l2 (p0, 0, p1)) fun l11 =>
  .ret (l11.1, l11.2)
noncomputable def l_markDeedS_cc7b_F (p0 : Int) (p1 : (List TDeed)) : Option (Int × (List TDeed)) := (l_markDeedS_cc7b p0 p1).run some
def markOf (k : Int) (i : Nat) : Int × Int × Int × Int × Unit := (k + 4 * (i : Int), k + 4 * (i : Int) + 1, k + 4 * (i : Int) + 2, k + 4 * (i : Int) + 3, ())
def dmarks (k : Int) (n : Nat) : List (Int × Int × Int × Int × Unit) := (List.range' 0 n).map (markOf k)
def markD (k : Int) (ds : List (Int × Int × Int × Int × Unit)) : Option (Int × List (Int × Int × Int × Int × Unit)) :=
  askO (inR k 0 4194304 && decide (ds.length ≤ 1048576)) (k + 4 * (ds.length : Int), dmarks k ds.length)
theorem foldE_setf {α β γ : Type} (f : Nat → γ) (fin : List γ → β) : ∀ (l : List α) (i : Nat) (acc : List γ), acc.length = i + l.length → foldE (fun i acc _ => (.inl (acc.set i (f i)) : List γ ⊕ β)) fin i acc l = fin (acc.take i ++ (List.range' i l.length).map f) := by
  intro l
  induction l with
  | nil => intro i acc h; simp only [foldE, List.length_nil, List.range'_zero, List.map_nil, List.append_nil]; rw [List.take_of_length_le (by simp at h; omega)]
  | cons x l ih =>
    intro i acc h
    simp only [foldE, List.length_cons] at h ⊢
    rw [ih (i + 1) _ (by simp; omega), List.range'_succ, List.map_cons]
    congr 1
    have hi : i < acc.length := by omega
    rw [List.take_add_one, List.getElem?_set, if_pos rfl, if_pos hi, List.take_set_of_le (Nat.le_refl i)]
    simp
theorem l_markDeedS_cc7b_spec (p0 : Int) (p1 : List (Int × Int × Int × Int × Unit)) (y : Int × List (Int × Int × Int × Int × Unit)) (h : markD p0 p1 = some y) : l_markDeedS_cc7b_F p0 p1 = some y := by
  obtain ⟨hok, rfl⟩ := askO_some h
  simp only [Bool.and_eq_true, decide_eq_true_eq, inR_iff] at hok
  obtain ⟨hk, hl⟩ := hok
  unfold l_markDeedS_cc7b_F l_markDeedS_cc7b
  have := fold_loop (xs := p1) (step := l_markDeedS_cc7b_l2) (fun i acc => (p0 + 4 * (i : Int), (i : Int), acc)) (fun i acc _ => .inl (acc.set i (markOf p0 i))) (fun acc => (p0 + 4 * (p1.length : Int), acc)) (fun i acc => acc.length = p1.length) (by
    intro i acc x hx hI
    have hi : i < p1.length := (List.getElem?_eq_some_iff.1 hx).1
    have hI : acc.length = p1.length := hI
    refine ⟨?_, fun a ha => by cases ha; simpa using hI⟩
    have w1 : iwrap .i64 (p0 + 4 * (i : Int) + 1) = p0 + 4 * (i : Int) + 1 := iwrap_i64 (by omega) (by omega)
    have w2 : iwrap .i64 (p0 + 4 * (i : Int) + 1 + 1) = p0 + 4 * (i : Int) + 2 := by rw [iwrap_i64 (by omega) (by omega)]; omega
    have w3 : iwrap .i64 (p0 + 4 * (i : Int) + 2 + 1) = p0 + 4 * (i : Int) + 3 := by rw [iwrap_i64 (by omega) (by omega)]; omega
    have w4 : iwrap .i64 (p0 + 4 * (i : Int) + 3 + 1) = p0 + 4 * ((i + 1 : Nat) : Int) := by rw [iwrap_i64 (by omega) (by omega)]; omega
    have hs : ∀ (l : List (Int × Int × Int × Int × Unit)) a, l.length = p1.length → (l.set i a)[i]? = some a := fun l a hl => by rw [List.getElem?_set, if_pos rfl, if_pos (by omega)]
    unfold l_markDeedS_cc7b_l2
    rw [run_inb (List.getElem?_eq_getElem (by omega : i < acc.length))]
    simp only [w1, w2, w3, w4, Int.toNat_natCast]
    rw [run_at2 (hs _ _ hI), run_at2 (hs _ _ (by simpa using hI)), run_at2 (hs _ _ (by simpa using hI)), Tre.run_ret, iwrap_succ (by omega)]
    simp only [List.set_set, markOf])
    (by
    intro acc hI
    unfold l_markDeedS_cc7b_l2
    rw [← show acc.length = p1.length from hI]
    exact run_out) p1 0 p1 rfl (Nat.zero_le _) rfl
  rw [foldE_setf (markOf p0) _ _ _ _ (by simp)] at this
  have h1 : loopF l_markDeedS_cc7b_l2 (p0, 0, p1) = some (p0 + 4 * (p1.length : Int), dmarks p0 p1.length) := by
    simpa [dmarks] using this
  rw [run_some_mat h1]
  rfl
noncomputable def l_markDeedS_cc7b_V : Env := ⟨tau, [], []⟩
noncomputable def l_markDeedS_cc7b_b : Code := (Try.f17.body).getD .skip
noncomputable def l_markDeedS_cc7b_l2_mk : (Int × Int × (List TDeed)) → St := fun x => stOf [(0, (.ref (0, 0) [])), (1, (.imm true (.int .i64) x.1)), (5, (.imm true (.int .i64) x.2.1))] [((0, 0), some ⟨false, (.sl kDeed), .own, x.2.2⟩)]
noncomputable def l_markDeedS_cc7b_l2_out : (Int × (List TDeed)) → Ex × St := fun x => (.exit 0, stOf [(1, (.imm true (.int .i64) x.1))] [((0, 0), some ⟨false, (.sl kDeed), .own, x.2⟩)])
noncomputable def l_markDeedS_cc7b_l2_D (s : St) : Tre (Ex × St) :=
  asRef (0, 0) [] (s.tmps 0) <|
  asImmZ true (.int .i64) (s.tmps 1) fun d3 =>
  asImmZ true (.int .i64) (s.tmps 5) fun d5 =>
  asRoot false (.sl kDeed) (s.roots (0, 0)) fun m7 d8 =>
  asM .own m7 <|
  .mat (loopF l_markDeedS_cc7b_l2 (d3, d5, d8)) fun x => .ret (l_markDeedS_cc7b_l2_out x)
noncomputable def l_markDeedS_cc7b_l2_L : LoopI := ⟨([0, 1, 5], [(0, 0)]), ([1], [(0, 0)]), l_markDeedS_cc7b_l2_D⟩
noncomputable def l_markDeedS_cc7b_A : List (Nat × LoopI) := [(2, l_markDeedS_cc7b_l2_L)]
set_option maxRecDepth 100000 in
theorem l_markDeedS_cc7b_l2_step : ∀ (x : (Int × Int × (List TDeed))) (c : St → Option (Ex × St)), den l_markDeedS_cc7b_V l_markDeedS_cc7b_A (loopAt l_markDeedS_cc7b_b 0) (l_markDeedS_cc7b_l2_mk x) (roundK l_markDeedS_cc7b_l2_L.kp l_markDeedS_cc7b_l2_L.kx c) = (l_markDeedS_cc7b_l2 x).run (roundR (l_markDeedS_cc7b_l2_mk) (l_markDeedS_cc7b_l2_out) c) := fun _ _ => by
  kernel_rfl
theorem l_markDeedS_cc7b_l2_ok : LoopOK l_markDeedS_cc7b_V l_markDeedS_cc7b_A (loopAt l_markDeedS_cc7b_b 0) l_markDeedS_cc7b_l2_L := loopOK_of fun s e s' h => by
  generalize hs : restrict l_markDeedS_cc7b_l2_L.kp s = s1 at h
  have h : (l_markDeedS_cc7b_l2_D s1).run some = some (e, s') := h
  obtain ⟨e1, h_0⟩ := asRef_spec h
  obtain ⟨d3, e2, h_1⟩ := asImmZ_spec h_0
  obtain ⟨d5, e4, h_2⟩ := asImmZ_spec h_1
  obtain ⟨m7, d8, e6, h_3⟩ := asRoot_spec h_2
  obtain ⟨rfl, h_4⟩ := asM_spec h_3
  obtain ⟨y, hy, hz⟩ := mat_ret h_4
  refine ⟨_, _, l_markDeedS_cc7b_l2_mk, l_markDeedS_cc7b_l2_out, l_markDeedS_cc7b_l2, (d3, d5, d8), y, ?_, hy, ?_, l_markDeedS_cc7b_l2_step⟩
  · subst hs; exact restrict_eq (T := [(0, (.ref (0, 0) [])), (1, (.imm true (.int .i64) d3)), (5, (.imm true (.int .i64) d5))]) (U := [((0, 0), some ⟨false, (.sl kDeed), .own, d8⟩)]) rfl rfl ⟨e1, e2, e4, trivial⟩ ⟨e6, trivial⟩
  · exact Option.some.inj hz
noncomputable def l_markDeedS_cc7b_I : FnI := ⟨l_markDeedS_cc7b_b, Try.f17.results.toList, Try.f17.resultTypes.toList, l_markDeedS_cc7b_A⟩
noncomputable def l_markDeedS_cc7b_out (_p0 : Int) (_p1 : (List TDeed)) : (Int × (List TDeed)) → CallOut := fun r => ⟨(.imm true (.int .i64) r.1), [⟨false, (.sl kDeed), .own, r.2⟩], []⟩
set_option maxRecDepth 100000 in
theorem l_markDeedS_cc7b_eq : ∀ (p0 : Int) (p1 : (List TDeed)), denFn l_markDeedS_cc7b_V l_markDeedS_cc7b_I ⟨[(.ref (0, 0) []), (.imm true (.int .i64) p0)], [⟨false, (.sl kDeed), .own, p1⟩]⟩ = (l_markDeedS_cc7b p0 p1).run fun r => some (l_markDeedS_cc7b_out p0 p1 r) := fun _ _ => by kernel_rfl
noncomputable def l_markDeedS_cc7b_G (av : List AV) (rs : List Root) : Tre CallOut :=
  asCons av fun a0_ av0 =>
  asCons av0 fun a1_ av1 =>
  asEnd av1 <|
  asCons rs fun r0_ rs0 =>
  asEnd rs0 <|
  asRef (0, 0) [] a0_ <|
  asImmZ true (.int .i64) a1_ fun d1 =>
  asRt false (.sl kDeed) r0_ fun m2 d3 =>
  asM .own m2 <|
  .mat (markD d1 d3) fun r => .ret (l_markDeedS_cc7b_out d1 d3 r)
noncomputable def l_markDeedS_cc7b_c : Ctr := ⟨[0], fun ci => l_markDeedS_cc7b_G ci.args ci.roots⟩
theorem l_markDeedS_cc7b_env : EnvOK Try.prog l_markDeedS_cc7b_V := envOK_nil
set_option maxRecDepth 100000 in
theorem l_markDeedS_cc7b_ok : Contract Try.prog 17 l_markDeedS_cc7b_c := by
  have hl : LoopsOK l_markDeedS_cc7b_V l_markDeedS_cc7b_A l_markDeedS_cc7b_b := (loopsOK_all (n := 1) (by kernel_rfl) fun k hk => by
      match k, hk with
      | 0, _ => exact loopOK_at (id := 2) (L := l_markDeedS_cc7b_l2_L) (by kernel_rfl) (by kernel_rfl) l_markDeedS_cc7b_l2_ok)
  refine (contract_of (F := l_markDeedS_cc7b_I) tau_tys l_markDeedS_cc7b_env Try.func17 (by kernel_rfl) (by kernel_rfl) (by kernel_rfl) hl [0]).weaken ?_
  rintro ⟨av, rs⟩ co h
  have h : (l_markDeedS_cc7b_G av rs).run some = some co := h
  obtain ⟨a0_, av0, rfl, h_0⟩ := asCons_spec h
  obtain ⟨a1_, av1, rfl, h_1⟩ := asCons_spec h_0
  obtain ⟨rfl, h_2⟩ := asEnd_spec h_1
  obtain ⟨r0_, rs0, rfl, h_3⟩ := asCons_spec h_2
  obtain ⟨rfl, h_4⟩ := asEnd_spec h_3
  obtain ⟨rfl, h_5⟩ := asRef_spec h_4
  obtain ⟨d1, rfl, h_6⟩ := asImmZ_spec h_5
  obtain ⟨m2, d3, rfl, h_7⟩ := asRt_spec h_6
  obtain ⟨rfl, h_8⟩ := asM_spec h_7
  exact fin_opt (l_markDeedS_cc7b_eq d1 d3) (l_markDeedS_cc7b_spec d1 d3) h_8
end Go.Proofs.Ytddaclhjnkimfaa

namespace Go.Proofs.Ytddaclhjnkimfaa
open Go Go.Abs Go.Proofs
noncomputable def l_markInt64S_df1e_l2 : (Int × Int × (List Int)) → Tre ((Int × Int × (List Int)) ⊕ (Int × (List Int))) := fun s2 =>
  .cond (decide (s2.2.1 < (s2.2.2.length : Int)))
    (.ite (0 ≤ s2.2.1 ∧ s2.2.1 < (s2.2.2.length : Int)) <|
    .mat (s2.2.2[s2.2.1.toNat]?) fun _ =>
    let v2 := s2.2.2.set s2.2.1.toNat s2.1
    .ret (.inl (iwrap .i64 (s2.1 + 1), iwrap .i64 (s2.2.1 + 1), v2)))
    (.ret (.inr (s2.1, s2.2.2)))
noncomputable def l_markInt64S_df1e (p0 : Int) (p1 : (List Int)) : Tre (Int × (List Int)) :=
  .mat (loopF l_markInt64S_df1e_l2 (p0, 0, p1)) fun l3 =>
  .ret (l3.1, l3.2)
noncomputable def l_markInt64S_df1e_F (p0 : Int) (p1 : (List Int)) : Option (Int × (List Int)) := (l_markInt64S_df1e p0 p1).run some
def markR (k : Int) (xs : List Int) : Option (Int × List Int) := askO (inR k 0 1048576 && decide (xs.length ≤ 1048576)) (k + (xs.length : Int), marks k xs.length)
theorem l_markInt64S_df1e_spec (p0 : Int) (p1 : List Int) (y : Int × List Int) (h : markR p0 p1 = some y) : l_markInt64S_df1e_F p0 p1 = some y := by
  obtain ⟨hok, rfl⟩ := askO_some h
  simp only [Bool.and_eq_true, decide_eq_true_eq, inR_iff] at hok
  obtain ⟨hk, hl⟩ := hok
  unfold l_markInt64S_df1e_F l_markInt64S_df1e
  have := fold_loop (xs := p1) (step := l_markInt64S_df1e_l2) (fun i acc => (p0 + (i : Int), (i : Int), acc)) (fun i acc _ => .inl (acc.set i (p0 + (i : Int)))) (fun acc => (p0 + (p1.length : Int), acc)) (fun i acc => acc.length = p1.length) (by
    intro i acc x hx hI
    have hi : i < p1.length := (List.getElem?_eq_some_iff.1 hx).1
    refine ⟨?_, fun a ha => by cases ha; simpa using hI⟩
    unfold l_markInt64S_df1e_l2
    rw [run_inb (List.getElem?_eq_getElem (by omega : i < acc.length))]
    dsimp only
    rw [Tre.run_ret, iwrap_succ (by omega), iwrap_i64 (by omega) (by omega), Int.toNat_natCast]
    simp only [Int.natCast_add, Int.natCast_one, Int.add_assoc])
    (by
    intro acc hI
    unfold l_markInt64S_df1e_l2
    rw [← show acc.length = p1.length from hI]
    exact run_out) p1 0 p1 rfl (Nat.zero_le _) rfl
  rw [foldE_marks _ _ _ _ _ (by simp)] at this
  have h1 : loopF l_markInt64S_df1e_l2 (p0, 0, p1) = some (p0 + (p1.length : Int), marks p0 p1.length) := by
    simpa [marks] using this
  rw [run_some_mat h1]
  rfl
noncomputable def l_markInt64S_df1e_V : Env := ⟨tau, [], []⟩
noncomputable def l_markInt64S_df1e_b : Code := (Try.f18.body).getD .skip
noncomputable def l_markInt64S_df1e_l2_mk : (Int × Int × (List Int)) → St := fun x => stOf [(0, (.ref (0, 0) [])), (1, (.imm true (.int .i64) x.1)), (5, (.imm true (.int .i64) x.2.1))] [((0, 0), some ⟨false, (.sl (.int .i64)), .own, x.2.2⟩)]
noncomputable def l_markInt64S_df1e_l2_out : (Int × (List Int)) → Ex × St := fun x => (.exit 0, stOf [(1, (.imm true (.int .i64) x.1))] [((0, 0), some ⟨false, (.sl (.int .i64)), .own, x.2⟩)])
noncomputable def l_markInt64S_df1e_l2_D (s : St) : Tre (Ex × St) :=
  asRef (0, 0) [] (s.tmps 0) <|
  asImmZ true (.int .i64) (s.tmps 1) fun d3 =>
  asImmZ true (.int .i64) (s.tmps 5) fun d5 =>
  asRoot false (.sl (.int .i64)) (s.roots (0, 0)) fun m7 d8 =>
  asM .own m7 <|
  .mat (loopF l_markInt64S_df1e_l2 (d3, d5, d8)) fun x => .ret (l_markInt64S_df1e_l2_out x)
noncomputable def l_markInt64S_df1e_l2_L : LoopI := ⟨([0, 1, 5], [(0, 0)]), ([1], [(0, 0)]), l_markInt64S_df1e_l2_D⟩
noncomputable def l_markInt64S_df1e_A : List (Nat × LoopI) := [(2, l_markInt64S_df1e_l2_L)]
set_option maxRecDepth 100000 in
theorem l_markInt64S_df1e_l2_step : ∀ (x : (Int × Int × (List Int))) (c : St → Option (Ex × St)), den l_markInt64S_df1e_V l_markInt64S_df1e_A (loopAt l_markInt64S_df1e_b 0) (l_markInt64S_df1e_l2_mk x) (roundK l_markInt64S_df1e_l2_L.kp l_markInt64S_df1e_l2_L.kx c) = (l_markInt64S_df1e_l2 x).run (roundR (l_markInt64S_df1e_l2_mk) (l_markInt64S_df1e_l2_out) c) := fun _ _ => by
  kernel_rfl
theorem l_markInt64S_df1e_l2_ok : LoopOK l_markInt64S_df1e_V l_markInt64S_df1e_A (loopAt l_markInt64S_df1e_b 0) l_markInt64S_df1e_l2_L := loopOK_of fun s e s' h => by
  generalize hs : restrict l_markInt64S_df1e_l2_L.kp s = s1 at h
  have h : (l_markInt64S_df1e_l2_D s1).run some = some (e, s') := h
  obtain ⟨e1, h_0⟩ := asRef_spec h
  obtain ⟨d3, e2, h_1⟩ := asImmZ_spec h_0
  obtain ⟨d5, e4, h_2⟩ := asImmZ_spec h_1
  obtain ⟨m7, d8, e6, h_3⟩ := asRoot_spec h_2
  obtain ⟨rfl, h_4⟩ := asM_spec h_3
  obtain ⟨y, hy, hz⟩ := mat_ret h_4
  refine ⟨_, _, l_markInt64S_df1e_l2_mk, l_markInt64S_df1e_l2_out, l_markInt64S_df1e_l2, (d3, d5, d8), y, ?_, hy, ?_, l_markInt64S_df1e_l2_step⟩
  · subst hs; exact restrict_eq (T := [(0, (.ref (0, 0) [])), (1, (.imm true (.int .i64) d3)), (5, (.imm true (.int .i64) d5))]) (U := [((0, 0), some ⟨false, (.sl (.int .i64)), .own, d8⟩)]) rfl rfl ⟨e1, e2, e4, trivial⟩ ⟨e6, trivial⟩
  · exact Option.some.inj hz
noncomputable def l_markInt64S_df1e_I : FnI := ⟨l_markInt64S_df1e_b, Try.f18.results.toList, Try.f18.resultTypes.toList, l_markInt64S_df1e_A⟩
noncomputable def l_markInt64S_df1e_out (_p0 : Int) (_p1 : (List Int)) : (Int × (List Int)) → CallOut := fun r => ⟨(.imm true (.int .i64) r.1), [⟨false, (.sl (.int .i64)), .own, r.2⟩], []⟩
set_option maxRecDepth 100000 in
theorem l_markInt64S_df1e_eq : ∀ (p0 : Int) (p1 : (List Int)), denFn l_markInt64S_df1e_V l_markInt64S_df1e_I ⟨[(.ref (0, 0) []), (.imm true (.int .i64) p0)], [⟨false, (.sl (.int .i64)), .own, p1⟩]⟩ = (l_markInt64S_df1e p0 p1).run fun r => some (l_markInt64S_df1e_out p0 p1 r) := fun _ _ => by kernel_rfl
noncomputable def l_markInt64S_df1e_G (av : List AV) (rs : List Root) : Tre CallOut :=
  asCons av fun a0_ av0 =>
  asCons av0 fun a1_ av1 =>
  asEnd av1 <|
  asCons rs fun r0_ rs0 =>
  asEnd rs0 <|
  asRef (0, 0) [] a0_ <|
  asImmZ true (.int .i64) a1_ fun d1 =>
  asRt false (.sl (.int .i64)) r0_ fun m2 d3 =>
  asM .own m2 <|
  .mat (markR d1 d3) fun r => .ret (l_markInt64S_df1e_out d1 d3 r)
noncomputable def l_markInt64S_df1e_c : Ctr := ⟨[0], fun ci => l_markInt64S_df1e_G ci.args ci.roots⟩
theorem l_markInt64S_df1e_env : EnvOK Try.prog l_markInt64S_df1e_V := envOK_nil
set_option maxRecDepth 100000 in
theorem l_markInt64S_df1e_ok : Contract Try.prog 18 l_markInt64S_df1e_c := by
  have hl : LoopsOK l_markInt64S_df1e_V l_markInt64S_df1e_A l_markInt64S_df1e_b := (loopsOK_all (n := 1) (by kernel_rfl) fun k hk => by
      match k, hk with
      | 0, _ => exact loopOK_at (id := 2) (L := l_markInt64S_df1e_l2_L) (by kernel_rfl) (by kernel_rfl) l_markInt64S_df1e_l2_ok)
  refine (contract_of (F := l_markInt64S_df1e_I) tau_tys l_markInt64S_df1e_env Try.func18 (by kernel_rfl) (by kernel_rfl) (by kernel_rfl) hl [0]).weaken ?_
  rintro ⟨av, rs⟩ co h
  have h : (l_markInt64S_df1e_G av rs).run some = some co := h
  obtain ⟨a0_, av0, rfl, h_0⟩ := asCons_spec h
  obtain ⟨a1_, av1, rfl, h_1⟩ := asCons_spec h_0
  obtain ⟨rfl, h_2⟩ := asEnd_spec h_1
  obtain ⟨r0_, rs0, rfl, h_3⟩ := asCons_spec h_2
  obtain ⟨rfl, h_4⟩ := asEnd_spec h_3
  obtain ⟨rfl, h_5⟩ := asRef_spec h_4
  obtain ⟨d1, rfl, h_6⟩ := asImmZ_spec h_5
  obtain ⟨m2, d3, rfl, h_7⟩ := asRt_spec h_6
  obtain ⟨rfl, h_8⟩ := asM_spec h_7
  exact fin_opt (l_markInt64S_df1e_eq d1 d3) (l_markInt64S_df1e_spec d1 d3) h_8
end Go.Proofs.Ytddaclhjnkimfaa

namespace Go.Proofs.Ytddaclhjnkimfaa
open Go Go.Abs Go.Proofs
noncomputable def l_heldInt64S_l2 (h2_0_0 : (List Int)) : (Int × Int) → Tre ((Int × Int) ⊕ ((Int × Int) ⊕ Int)) := fun s2 =>
  .cond (decide (s2.2 < (h2_0_0.length : Int)))
    (.ite (0 ≤ s2.2 ∧ s2.2 < (h2_0_0.length : Int)) <|
    .mat (h2_0_0[s2.2.toNat]?) fun x1 =>
    .cond (!decide (x1 = s2.1))
      (.ret (.inr (.inl (s2.1, -1))))
      (.ret (.inl (iwrap .i64 (s2.1 + 1), iwrap .i64 (s2.2 + 1)))))
    (.ret (.inr (.inr s2.1)))
noncomputable def l_heldInt64S (p0 : (List Int)) (p1 : Int) : Tre Int :=
  .mat (loopF (l_heldInt64S_l2 p0) (p1, 0)) fun l2 =>
  .alt l2
    (fun a3 =>
      .ret a3.2)
    (fun b4 =>
      .ret b4)
noncomputable def l_heldInt64S_F (p0 : (List Int)) (p1 : Int) : Option Int := (l_heldInt64S p0 p1).run some
def heldR (xs : List Int) (k : Int) : Option Int := if (inR k 0 1048576 && decide (xs.length ≤ 1048576)) = true ∧ xs = marks k xs.length then some (k + (xs.length : Int)) else none
theorem l_heldInt64S_spec (p0 : List Int) (p1 : Int) (y : Int) (h : heldR p0 p1 = some y) : l_heldInt64S_F p0 p1 = some y := by
  unfold heldR at h
  split at h
  case isFalse => cases h
  case isTrue hh =>
  obtain ⟨hok, hm⟩ := hh
  cases h
  simp only [Bool.and_eq_true, decide_eq_true_eq, inR_iff] at hok
  obtain ⟨hk, hl⟩ := hok
  unfold l_heldInt64S_F l_heldInt64S
  have := fold_loop' (xs := p0) (step := l_heldInt64S_l2 p0) (γ := Unit) (fun i _ => (p1 + (i : Int), (i : Int))) (fun _ _ _ => .inl ()) (fun _ => .inr (p1 + (p0.length : Int))) (by
    intro i acc x hx
    have hi : i < p0.length := (List.getElem?_eq_some_iff.1 hx).1
    have hxv : x = p1 + (i : Int) := by
      rw [hm] at hx
      unfold marks at hx
      simp only [List.getElem?_map, Option.map_eq_some_iff] at hx
      obtain ⟨a, ha, rfl⟩ := hx
      rw [List.getElem?_range' (by simpa using hi)] at ha
      simp at ha
      rw [ha]
    unfold l_heldInt64S_l2
    rw [run_inb hx, Tre.run_cond]
    simp only [hxv, decide_true, Bool.not_true, cond_false]
    rw [Tre.run_ret, iwrap_succ (by omega), iwrap_i64 (by omega) (by omega)]
    simp only [Int.natCast_add, Int.natCast_one, Int.add_assoc])
    (by
    intro acc
    unfold l_heldInt64S_l2
    exact run_out) ()
  have hf : ∀ (l : List Int) (i : Nat), foldE (β := (Int × Int) ⊕ Int) (fun (_ : Nat) (_ : Unit) (_ : Int) => .inl ()) (fun _ => .inr (p1 + (p0.length : Int))) i () l = .inr (p1 + (p0.length : Int)) := by
    intro l
    induction l with
    | nil => intro i; rfl
    | cons x l ih => intro i; exact ih _
  rw [hf] at this
  have h1 : loopF (l_heldInt64S_l2 p0) (p1, 0) = some (.inr (p1 + (p0.length : Int))) := by simpa using this
  rw [run_some_mat h1]
  rfl
noncomputable def l_heldInt64S_V : Env := ⟨tau, [], []⟩
noncomputable def l_heldInt64S_b : Code := (Try.f19.body).getD .skip
noncomputable def l_heldInt64S_l2_mk (z2_0 : Bool) (h2_0_0 : (List Int)) : (Int × Int) → St := fun x => stOf [(0, (.imm z2_0 (.sl (.int .i64)) h2_0_0)), (1, (.imm true (.int .i64) x.1)), (5, (.imm true (.int .i64) x.2))] []
noncomputable def l_heldInt64S_l2_out (_z2_0 : Bool) (_h2_0_0 : (List Int)) : ((Int × Int) ⊕ Int) → Ex × St
  | .inl x => (.ret, stOf [(1, (.imm true (.int .i64) x.1)), (4, (.imm true (.int .i64) x.2))] [])
  | .inr x => (.exit 0, stOf [(1, (.imm true (.int .i64) x)), (4, .dead)] [])
noncomputable def l_heldInt64S_l2_D (s : St) : Tre (Ex × St) :=
  asImm (.sl (.int .i64)) (s.tmps 0) fun z3 d2 =>
  asImmZ true (.int .i64) (s.tmps 1) fun d5 =>
  asImmZ true (.int .i64) (s.tmps 5) fun d7 =>
  .mat (loopF (l_heldInt64S_l2 d2) (d5, d7)) fun x => .alt x (fun a0 => .ret (l_heldInt64S_l2_out z3 d2 (.inl a0))) (fun b0 => .ret (l_heldInt64S_l2_out z3 d2 (.inr b0)))
noncomputable def l_heldInt64S_l2_L : LoopI := ⟨([0, 1, 5], []), ([1, 4], []), l_heldInt64S_l2_D⟩
noncomputable def l_heldInt64S_A : List (Nat × LoopI) := [(2, l_heldInt64S_l2_L)]
set_option maxRecDepth 100000 in
theorem l_heldInt64S_l2_step : ∀ (z2_0 : Bool) (h2_0_0 : (List Int)) (x : (Int × Int)) (c : St → Option (Ex × St)), den l_heldInt64S_V l_heldInt64S_A (loopAt l_heldInt64S_b 0) (l_heldInt64S_l2_mk z2_0 h2_0_0 x) (roundK l_heldInt64S_l2_L.kp l_heldInt64S_l2_L.kx c) = (l_heldInt64S_l2 h2_0_0 x).run (roundR (l_heldInt64S_l2_mk z2_0 h2_0_0) (l_heldInt64S_l2_out z2_0 h2_0_0) c) := fun _ _ _ _ => by
  kernel_rfl
theorem l_heldInt64S_l2_ok : LoopOK l_heldInt64S_V l_heldInt64S_A (loopAt l_heldInt64S_b 0) l_heldInt64S_l2_L := loopOK_of fun s e s' h => by
  generalize hs : restrict l_heldInt64S_l2_L.kp s = s1 at h
  have h : (l_heldInt64S_l2_D s1).run some = some (e, s') := h
  obtain ⟨z3, d2, e1, h_0⟩ := asImm_spec h
  obtain ⟨d5, e4, h_1⟩ := asImmZ_spec h_0
  obtain ⟨d7, e6, h_2⟩ := asImmZ_spec h_1
  obtain ⟨y, hy, hz⟩ := mat_some h_2
  refine ⟨_, _, l_heldInt64S_l2_mk z3 d2, l_heldInt64S_l2_out z3 d2, l_heldInt64S_l2 d2, (d5, d7), y, ?_, hy, ?_, l_heldInt64S_l2_step z3 d2⟩
  · subst hs; exact restrict_eq (T := [(0, (.imm z3 (.sl (.int .i64)) d2)), (1, (.imm true (.int .i64) d5)), (5, (.imm true (.int .i64) d7))]) (U := []) rfl rfl ⟨e1, e4, e6, trivial⟩ trivial
  · rcases y with x | x <;> exact Option.some.inj hz
noncomputable def l_heldInt64S_I : FnI := ⟨l_heldInt64S_b, Try.f19.results.toList, Try.f19.resultTypes.toList, l_heldInt64S_A⟩
noncomputable def l_heldInt64S_out (_zp0 : Bool) (_p0 : (List Int)) (_p1 : Int) : Int → CallOut := fun r => ⟨(.imm true (.int .i64) r), [], []⟩
set_option maxRecDepth 100000 in
theorem l_heldInt64S_eq : ∀ (zp0 : Bool) (p0 : (List Int)) (p1 : Int), denFn l_heldInt64S_V l_heldInt64S_I ⟨[(.imm zp0 (.sl (.int .i64)) p0), (.imm true (.int .i64) p1)], []⟩ = (l_heldInt64S p0 p1).run fun r => some (l_heldInt64S_out zp0 p0 p1 r) := fun _ _ _ => by kernel_rfl
noncomputable def l_heldInt64S_G (av : List AV) (rs : List Root) : Tre CallOut :=
  asCons av fun a0_ av0 =>
  asCons av0 fun a1_ av1 =>
  asEnd av1 <|
  asEnd rs <|
  asImm (.sl (.int .i64)) a0_ fun z2 d1 =>
  asImmZ true (.int .i64) a1_ fun d3 =>
  .mat (heldR d1 d3) fun r => .ret (l_heldInt64S_out z2 d1 d3 r)
noncomputable def l_heldInt64S_c : Ctr := ⟨[], fun ci => l_heldInt64S_G ci.args ci.roots⟩
theorem l_heldInt64S_env : EnvOK Try.prog l_heldInt64S_V := envOK_nil
set_option maxRecDepth 100000 in
theorem l_heldInt64S_ok : Contract Try.prog 19 l_heldInt64S_c := by
  have hl : LoopsOK l_heldInt64S_V l_heldInt64S_A l_heldInt64S_b := (loopsOK_all (n := 1) (by kernel_rfl) fun k hk => by
      match k, hk with
      | 0, _ => exact loopOK_at (id := 2) (L := l_heldInt64S_l2_L) (by kernel_rfl) (by kernel_rfl) l_heldInt64S_l2_ok)
  refine (contract_of (F := l_heldInt64S_I) tau_tys l_heldInt64S_env Try.func19 (by kernel_rfl) (by kernel_rfl) (by kernel_rfl) hl []).weaken ?_
  rintro ⟨av, rs⟩ co h
  have h : (l_heldInt64S_G av rs).run some = some co := h
  obtain ⟨a0_, av0, rfl, h_0⟩ := asCons_spec h
  obtain ⟨a1_, av1, rfl, h_1⟩ := asCons_spec h_0
  obtain ⟨rfl, h_2⟩ := asEnd_spec h_1
  obtain ⟨rfl, h_3⟩ := asEnd_spec h_2
  obtain ⟨z2, d1, rfl, h_4⟩ := asImm_spec h_3
  obtain ⟨d3, rfl, h_5⟩ := asImmZ_spec h_4
  exact fin_opt (l_heldInt64S_eq z2 d1 d3) (l_heldInt64S_spec d1 d3) h_5
end Go.Proofs.Ytddaclhjnkimfaa

namespace Go.Proofs.Ytddaclhjnkimfaa
open Go Go.Abs Go.Proofs
noncomputable def l_FnExactMendAfter (p0 : TGather) (p1 : (List TDeed)) (p2 : Int) : Tre Bool :=
  .cond (decide ((l_szGather_S p0 1048576) < 0))
    (.ret true)
    (let v1 := l_szDeedS_S p1 (l_szGather_S p0 1048576)
    .cond (decide (v1 < 0))
      (.ret true)
      (.mat (toG p0) fun r2 =>
      .mat (cloneR p1) fun r3 =>
      .mat (mendR (r2.1, (r2.2.1, (r2.2.2.2, r2.2.2.1))) r3 p2) fun r4 =>
      .mat (toG p0) fun r5 =>
      .mat (cloneR p1) fun r6 =>
      .mat (mendR (r5.1, (r5.2.1, (r5.2.2.2, r5.2.2.1))) r6 p2) fun r7 =>
      .mat (eqS r7.2.2 r4.2.2) fun r8 =>
      .cond (!r8)
        (.ret false)
        (.cond (!decide (r7.1 = r4.1))
          (.ret false)
          (.cond (!decide (r7.2.1 = r4.2.1))
            (.ret false)
            (.mat (toG p0) fun r9 =>
            .mat (eqG (r5.1, (r5.2.1, (r5.2.2.2, r5.2.2.1))) (r9.1, (r9.2.1, (r9.2.2.2, r9.2.2.1)))) fun r10 =>
            .cond (!r10)
              (.ret false)
              (.mat (cloneR p1) fun r11 =>
              .mat (eqDs r6 r11) fun r12 =>
              .cond (!r12)
                (.ret false)
                (.mat (markG r5.1 r5.2.1 r5.2.2.1 1 (r5.1, (r5.2.1, (r5.2.2.2, r5.2.2.1)))) fun r13 =>
                .mat (markD r13.1 r6) fun r14 =>
                .cond (decide (r14.1 < 0))
                  (.ret false)
                  (.mat (eqS r7.2.2 r4.2.2) fun r15 =>
                  .cond (!r15)
                    (.ret false)
                    (.cond (!decide (r7.1 = r4.1))
                      (.ret false)
                      (.cond (!decide (r7.2.1 = r4.2.1))
                        (.ret false)
                        (.mat (markR 1 r7.2.2) fun r16 =>
                        .mat (heldR r16.2 1) fun r17 =>
                        .cond (decide (r17 < 0))
                          (.ret false)
                          (.cond (!decide (r17 = r16.1))
                            (.ret false)
                            (.mat (toG p0) fun r18 =>
                            .mat (cloneR p1) fun r19 =>
                            .mat (mendR (r18.1, (r18.2.1, (r18.2.2.2, r18.2.2.1))) r19 p2) fun r20 =>
                            .mat (eqS r20.2.2 r4.2.2) fun r21 =>
                            .cond (!r21)
                              (.ret false)
                              (.cond (!decide (r20.1 = r4.1))
                                (.ret false)
                                (.cond (!decide (r20.2.1 = r4.2.1))
                                  (.ret false)
                                  (.mat (heldR r16.2 1) fun r22 =>
                                  .cond (decide (r22 < 0))
                                    (.ret false)
                                    (.cond (!decide (r22 = r16.1))
                                      (.ret false)
                                      (.ret true))))))))))))))))))
noncomputable def l_FnExactMendAfter_F (p0 : TGather) (p1 : (List TDeed)) (p2 : Int) : Option Bool := (l_FnExactMendAfter p0 p1 p2).run some
-- law
theorem mendM_len (g : G8) (ds : List D8) (s : Int) : (mendM g ds s).2.2.length ≤ 1048576 := by
  unfold mendM
  by_cases h0 : codeM g ds s = 0
  · rw [decide_eq_true h0, cond_true]
    have hg := (codeM_zero_spec h0).1
    have hk := rowsM_ok h0
    have hb := isG_spec hg
    obtain ⟨P, hP⟩ := Int.eq_ofNat_of_zero_le (show 0 ≤ g.1 by omega)
    obtain ⟨L, hL⟩ := Int.eq_ofNat_of_zero_le (show 0 ≤ g.2.1 by omega)
    have hpos : 1 ≤ manyG g := Nat.pow_pos (Nat.two_pow_pos _)
    have hB := mendL_best (g := g) (xs := rowsM g ds s) (fun d hd => by have := miss_small (data_okM hg hk (by omega) hd); omega) (fun k hk => dig_data hP hL hk) (manyG g - 1) (by omega)
    rw [show manyG g - 1 + 1 = manyG g by omega] at hB
    obtain ⟨k, hk, he⟩ := List.mem_map.1 hB.mem
    have hlen : (mendL g (rowsM g ds s) (manyG g)).2.2.length = g.1.toNat := by rw [← he]; simp [digL]
    unfold mendX
    cases decide (g.1 * g.2.1 > 10)
    · cases (mendL g (rowsM g ds s) (manyG g)).2.1
      · simp only [cond_false, hlen]; omega
      · simp
    · simp
  · rw [decide_eq_false h0]; simp
theorem l_FnExactMendAfter_law (p0 : Int × Int × List Int × Int × Int × Unit) (p1 : List (Int × Int × Int × Int × Unit)) (p2 : Int) (hw : kGather.wf p0) (h1 : (K.sl kDeed).wf p1) (_ : (K.int .i64).wf p2) : l_FnExactMendAfter_F p0 p1 p2 = some true := by
  unfold l_FnExactMendAfter_F l_FnExactMendAfter
  rw [Tre.run_cond]
  by_cases hs : l_szGather_S p0 1048576 < 0
  · rw [decide_eq_true hs]; rfl
  have hl := l_szGather_len hw.2.2.1.1 hs
  rw [decide_eq_false hs, cond_false]
  dsimp only
  rw [Tre.run_cond]
  by_cases hq : l_szDeedS_S p1 (l_szGather_S p0 1048576) < 0
  · rw [decide_eq_true hq]; rfl
  have hd := l_szDeedS_len h1.1 (l_szGather_le hl) (by omega) hq
  rw [decide_eq_false hq, cond_false]
  have hn := mendM_len p0 p1 p2
  have e1 : toG p0 = _ := lim_of hl
  have e1d : cloneR p1 = _ := lim_of hd
  have e2 : mendR p0 p1 p2 = some (mendM p0 p1 p2) := askO_true (by simp [hl, hd])
  have e3 : eqG p0 p0 = some true := eqR_self hl
  have e3d : eqDs p1 p1 = some true := eqR_self hd
  have e4 : eqS (mendM p0 p1 p2).2.2 (mendM p0 p1 p2).2.2 = some true := eqR_self hn
  generalize mendM p0 p1 p2 = v at *
  obtain ⟨va, vb, vl⟩ := v
  have hm : (marks 1 vl.length).length = vl.length := by simp [marks]
  have e5 : markG p0.1 p0.2.1 p0.2.2.2 1 p0 = some (1 + (p0.2.2.1.length : Int), (p0.1, p0.2.1, marks 1 p0.2.2.1.length, p0.2.2.2)) := askO_true (by simp [inR]; omega)
  have e5d : markD (1 + (p0.2.2.1.length : Int)) p1 = some (1 + (p0.2.2.1.length : Int) + 4 * (p1.length : Int), _) := askO_true (by simp [inR]; omega)
  have e6 : markR 1 vl = some (1 + (vl.length : Int), marks 1 vl.length) := askO_true (by simp [inR]; exact hn)
  have e7 : heldR (marks 1 vl.length) 1 = some (1 + (vl.length : Int)) := by
    unfold heldR
    rw [hm, if_pos ⟨by simp [inR]; exact hn, rfl⟩]
  have c1 : decide (1 + (p0.2.2.1.length : Int) + 4 * (p1.length : Int) < 0) = false := by simp; omega
  have c2 : decide (1 + (vl.length : Int) < 0) = false := by simp; omega
  rw [run_some_mat e1, run_some_mat e1d, run_some_mat (x := (va, vb, vl)) e2, run_some_mat e1, run_some_mat e1d, run_some_mat (x := (va, vb, vl)) e2, run_some_mat (x := true) e4]
  simp only [Tre.run_cond, decide_true, Bool.not_true, cond_false]
  rw [run_some_mat e1, run_some_mat (x := true) e3]
  simp only [Tre.run_cond, decide_true, Bool.not_true, cond_false]
  rw [run_some_mat e1d, run_some_mat (x := true) e3d]
  simp only [Tre.run_cond, decide_true, Bool.not_true, cond_false]
  rw [run_some_mat e5, run_some_mat e5d]
  simp only [Tre.run_cond, c1, cond_false]
  rw [run_some_mat (x := true) e4]
  simp only [Tre.run_cond, decide_true, Bool.not_true, cond_false]
  rw [run_some_mat e6]
  dsimp only
  rw [run_some_mat e7]
  simp only [Tre.run_cond, c2, decide_true, Bool.not_true, cond_false]
  rw [run_some_mat e1, run_some_mat e1d, run_some_mat (x := (va, vb, vl)) e2, run_some_mat (x := true) e4]
  simp only [Tre.run_cond, decide_true, Bool.not_true, cond_false]
  rw [run_some_mat e7]
  simp only [Tre.run_cond, c2, decide_true, Bool.not_true, cond_false]
  rfl
noncomputable def l_FnExactMendAfter_V : Env := ⟨tau, [(7, l_szGather_c), (8, l_szDeedS_c), (10, l_toGather_c), (11, l_toDeedS_c), (9, s_MendAfter_c), (12, i_MendAfter_c), (13, l_eqInt64S_c), (14, l_eqGather_c), (15, l_eqDeedS_c), (16, l_markGather_3874_c), (17, l_markDeedS_cc7b_c), (18, l_markInt64S_df1e_c), (19, l_heldInt64S_c)], []⟩
noncomputable def l_FnExactMendAfter_b : Code := (Try.f3.body).getD .skip
noncomputable def l_FnExactMendAfter_I : FnI := ⟨l_FnExactMendAfter_b, Try.f3.results.toList, Try.f3.resultTypes.toList, []⟩
noncomputable def l_FnExactMendAfter_out (_zp0 : Bool) (_zp1 : Bool) (_p0 : TGather) (_p1 : (List TDeed)) (_p2 : Int) : Bool → CallOut := fun r => ⟨(.imm true .bool r), [], []⟩
set_option maxRecDepth 100000 in
theorem l_FnExactMendAfter_eq : ∀ (zp0 : Bool) (zp1 : Bool) (p0 : TGather) (p1 : (List TDeed)) (p2 : Int), denFn l_FnExactMendAfter_V l_FnExactMendAfter_I ⟨[(.imm zp0 kGather p0), (.imm zp1 (.sl kDeed) p1), (.imm true (.int .i64) p2)], []⟩ = (l_FnExactMendAfter p0 p1 p2).run fun r => some (l_FnExactMendAfter_out zp0 zp1 p0 p1 p2 r) := fun _ _ _ _ _ => by kernel_rfl
noncomputable def l_FnExactMendAfter_G (av : List AV) (rs : List Root) : Tre CallOut :=
  asCons av fun a0_ av0 =>
  asCons av0 fun a1_ av1 =>
  asCons av1 fun a2_ av2 =>
  asEnd av2 <|
  asEnd rs <|
  asImm kGather a0_ fun z2 d1 =>
  asImm (.sl kDeed) a1_ fun z4 d3 =>
  asImmZ true (.int .i64) a2_ fun d5 =>
  .mat (l_FnExactMendAfter_F d1 d3 d5) fun r => .ret (l_FnExactMendAfter_out z2 z4 d1 d3 d5 r)
noncomputable def l_FnExactMendAfter_c : Ctr := ⟨[], fun ci => l_FnExactMendAfter_G ci.args ci.roots⟩
theorem l_FnExactMendAfter_env : EnvOK Try.prog l_FnExactMendAfter_V := (envOK_cons l_szGather_ok ent7 (envOK_cons l_szDeedS_ok ent8 (envOK_cons l_toGather_ok ent10 (envOK_cons l_toDeedS_ok ent11 (envOK_cons s_MendAfter_ok ent9 (envOK_cons i_MendAfter_ok ent12 (envOK_cons l_eqInt64S_ok ent13 (envOK_cons l_eqGather_ok ent14 (envOK_cons l_eqDeedS_ok ent15 (envOK_cons l_markGather_3874_ok ent16 (envOK_cons l_markDeedS_cc7b_ok ent17 (envOK_cons l_markInt64S_df1e_ok ent18 (envOK_cons l_heldInt64S_ok ent19 envOK_nil)))))))))))))
set_option maxRecDepth 100000 in
theorem l_FnExactMendAfter_ok : Contract Try.prog 3 l_FnExactMendAfter_c := by
  have hl : LoopsOK l_FnExactMendAfter_V [] l_FnExactMendAfter_b := loopsOK_nil (by kernel_rfl)
  refine (contract_of (F := l_FnExactMendAfter_I) tau_tys l_FnExactMendAfter_env Try.func3 (by kernel_rfl) (by kernel_rfl) (by kernel_rfl) hl []).weaken ?_
  rintro ⟨av, rs⟩ co h
  have h : (l_FnExactMendAfter_G av rs).run some = some co := h
  obtain ⟨a0_, av0, rfl, h_0⟩ := asCons_spec h
  obtain ⟨a1_, av1, rfl, h_1⟩ := asCons_spec h_0
  obtain ⟨a2_, av2, rfl, h_2⟩ := asCons_spec h_1
  obtain ⟨rfl, h_3⟩ := asEnd_spec h_2
  obtain ⟨rfl, h_4⟩ := asEnd_spec h_3
  obtain ⟨z2, d1, rfl, h_5⟩ := asImm_spec h_4
  obtain ⟨z4, d3, rfl, h_6⟩ := asImm_spec h_5
  obtain ⟨d5, rfl, h_7⟩ := asImmZ_spec h_6
  exact fin_mat (l_FnExactMendAfter_eq z2 z4 d1 d3 d5) h_7
end Go.Proofs.Ytddaclhjnkimfaa
