/- Part 5 of the proof of FnMixed. -/
import Derived.Test.YtddaclhjnkimfaaMx4
namespace Go.Proofs.Ytddaclhjnkimfaa
open Go Go.Abs Go.Proofs
noncomputable def slices_IndexFunc_int64_i_MissedByc1_l2 (h2_0_0 : (List Int)) (h2_0_1 : Int) (h2_0_3 : TGather) : Int → Tre (Int ⊕ (Int ⊕ Unit)) := fun s2 =>
  .cond (decide (s2 < h2_0_1))
    (.ite (0 ≤ s2 ∧ s2 < (h2_0_0.length : Int)) <|
    .mat (h2_0_0[s2.toNat]?) fun x1 =>
    .mat (noM x1 h2_0_3) fun r2 =>
    .cond r2
      (.ret (.inr (.inl s2)))
      (.ret (.inl (iwrap .i64 (s2 + 1)))))
    (.ret (.inr (.inr ())))
noncomputable def slices_IndexFunc_int64_i_MissedByc1 (p0 : (List Int)) (p1 : TGather) : Tre Int :=
  .mat (loopF (slices_IndexFunc_int64_i_MissedByc1_l2 p0 (p0.length : Int) p1) 0) fun l3 =>
  .alt l3
    (fun a4 =>
      .ret a4)
    (fun _ =>
      .ret (-1))
noncomputable def slices_IndexFunc_int64_i_MissedByc1_F (p0 : (List Int)) (p1 : TGather) : Option Int := (slices_IndexFunc_int64_i_MissedByc1 p0 p1).run some
def idxM (xs : List Int) (p : Int × Int × List Int × Int × Int × Unit) : Option Int := askO (decide (0 ≤ (iwrap .i64 (p.1 + p.2.1))) && decide (xs.length ≤ 1048576)) (idxI (fun x => !inP (iwrap .i64 (p.1 + p.2.1)) x) 0 xs)
theorem slices_IndexFunc_int64_i_MissedByc1_spec (p0 : List Int) (p1 : Int × Int × List Int × Int × Int × Unit) (y : Int) (h : idxM p0 p1 = some y) : slices_IndexFunc_int64_i_MissedByc1_F p0 p1 = some y := by
  obtain ⟨hl, rfl⟩ := askO_some h
  rw [Bool.and_eq_true] at hl
  obtain ⟨hm, hl⟩ := hl
  have hl := of_decide_eq_true hl
  unfold slices_IndexFunc_int64_i_MissedByc1_F slices_IndexFunc_int64_i_MissedByc1
  rw [Tre.run_mat, find_loop (xs := p0) (fun i x => cond (!inP (iwrap .i64 (p1.1 + p1.2.1)) x) (some (.inl (i : Int))) none) (.inr ())]
  · rw [Option.bind_some, ← findE_idx (p := fun x => !inP (iwrap .i64 (p1.1 + p1.2.1)) x)]
    generalize findE _ _ _ _ = r
    cases r <;> rfl
  · intro i x hx
    have hi : i < p0.length := (List.getElem?_eq_some_iff.1 hx).1
    unfold slices_IndexFunc_int64_i_MissedByc1_l2
    rw [run_inb hx, run_some_mat (show noM x p1 = some _ from askO_true hm), Tre.run_cond]
    cases inP (iwrap .i64 (p1.1 + p1.2.1)) x
    · rfl
    · simp only [Bool.not_true, cond_false, Tre.run_ret, iwrap_succ (show i < 4611686018427387904 by omega)]
  · unfold slices_IndexFunc_int64_i_MissedByc1_l2
    exact run_out
noncomputable def slices_IndexFunc_int64_i_MissedByc1_V : Env := ⟨tau, [(69, i_MissedByc1_9af1_c)], []⟩
noncomputable def slices_IndexFunc_int64_i_MissedByc1_b : Code := (Try.f98.body).getD .skip
noncomputable def slices_IndexFunc_int64_i_MissedByc1_l2_mk (z2_0 : Bool) (z2_1 : Bool) (h2_0_0 : (List Int)) (h2_0_1 : Int) (h2_0_3 : TGather) : Int → St := fun x => stOf [(0, (.imm z2_0 (.sl (.int .i64)) h2_0_0)), (1, (.fn 69 [(0, 0)])), (7, (.imm true (.int .i64) h2_0_1)), (8, (.imm true (.int .i64) x))] [((0, 0), some ⟨true, kGather, (.imm z2_1), h2_0_3⟩)]
noncomputable def slices_IndexFunc_int64_i_MissedByc1_l2_out (_z2_0 : Bool) (z2_1 : Bool) (_h2_0_0 : (List Int)) (_h2_0_1 : Int) (h2_0_3 : TGather) : (Int ⊕ Unit) → Ex × St
  | .inl x => (.ret, stOf [(4, (.imm true (.int .i64) x))] [((0, 0), some ⟨true, kGather, (.imm z2_1), h2_0_3⟩)])
  | .inr x => (.exit 0, stOf [(4, .dead)] [((0, 0), some ⟨true, kGather, (.imm z2_1), h2_0_3⟩)])
noncomputable def slices_IndexFunc_int64_i_MissedByc1_l2_D (s : St) : Tre (Ex × St) :=
  asImm (.sl (.int .i64)) (s.tmps 0) fun z3 d2 =>
  asFn 69 [(0, 0)] (s.tmps 1) <|
  asImmZ true (.int .i64) (s.tmps 7) fun d6 =>
  asImmZ true (.int .i64) (s.tmps 8) fun d8 =>
  asRoot true kGather (s.roots (0, 0)) fun m10 d11 =>
  asMImm m10 fun z12 =>
  .mat (loopF (slices_IndexFunc_int64_i_MissedByc1_l2 d2 d6 d11) d8) fun x => .alt x (fun a0 => .ret (slices_IndexFunc_int64_i_MissedByc1_l2_out z3 z12 d2 d6 d11 (.inl a0))) (fun b0 => .ret (slices_IndexFunc_int64_i_MissedByc1_l2_out z3 z12 d2 d6 d11 (.inr b0)))
noncomputable def slices_IndexFunc_int64_i_MissedByc1_l2_L : LoopI := ⟨([0, 1, 7, 8], [(0, 0)]), ([4], [(0, 0)]), slices_IndexFunc_int64_i_MissedByc1_l2_D⟩
noncomputable def slices_IndexFunc_int64_i_MissedByc1_A : List (Nat × LoopI) := [(2, slices_IndexFunc_int64_i_MissedByc1_l2_L)]
set_option maxRecDepth 100000 in
theorem slices_IndexFunc_int64_i_MissedByc1_l2_step : ∀ (z2_0 : Bool) (z2_1 : Bool) (h2_0_0 : (List Int)) (h2_0_1 : Int) (h2_0_3 : TGather) (x : Int) (c : St → Option (Ex × St)), den slices_IndexFunc_int64_i_MissedByc1_V slices_IndexFunc_int64_i_MissedByc1_A (loopAt slices_IndexFunc_int64_i_MissedByc1_b 0) (slices_IndexFunc_int64_i_MissedByc1_l2_mk z2_0 z2_1 h2_0_0 h2_0_1 h2_0_3 x) (roundK slices_IndexFunc_int64_i_MissedByc1_l2_L.kp slices_IndexFunc_int64_i_MissedByc1_l2_L.kx c) = (slices_IndexFunc_int64_i_MissedByc1_l2 h2_0_0 h2_0_1 h2_0_3 x).run (roundR (slices_IndexFunc_int64_i_MissedByc1_l2_mk z2_0 z2_1 h2_0_0 h2_0_1 h2_0_3) (slices_IndexFunc_int64_i_MissedByc1_l2_out z2_0 z2_1 h2_0_0 h2_0_1 h2_0_3) c) := fun _ _ _ _ _ _ _ => by
  kernel_rfl
theorem slices_IndexFunc_int64_i_MissedByc1_l2_ok : LoopOK slices_IndexFunc_int64_i_MissedByc1_V slices_IndexFunc_int64_i_MissedByc1_A (loopAt slices_IndexFunc_int64_i_MissedByc1_b 0) slices_IndexFunc_int64_i_MissedByc1_l2_L := loopOK_of fun s e s' h => by
  generalize hs : restrict slices_IndexFunc_int64_i_MissedByc1_l2_L.kp s = s1 at h
  have h : (slices_IndexFunc_int64_i_MissedByc1_l2_D s1).run some = some (e, s') := h
  obtain ⟨z3, d2, e1, h_0⟩ := asImm_spec h
  obtain ⟨e4, h_1⟩ := asFn_spec h_0
  obtain ⟨d6, e5, h_2⟩ := asImmZ_spec h_1
  obtain ⟨d8, e7, h_3⟩ := asImmZ_spec h_2
  obtain ⟨m10, d11, e9, h_4⟩ := asRoot_spec h_3
  obtain ⟨z12, rfl, h_5⟩ := asMImm_spec h_4
  obtain ⟨y, hy, hz⟩ := mat_some h_5
  refine ⟨_, _, slices_IndexFunc_int64_i_MissedByc1_l2_mk z3 z12 d2 d6 d11, slices_IndexFunc_int64_i_MissedByc1_l2_out z3 z12 d2 d6 d11, slices_IndexFunc_int64_i_MissedByc1_l2 d2 d6 d11, d8, y, ?_, hy, ?_, slices_IndexFunc_int64_i_MissedByc1_l2_step z3 z12 d2 d6 d11⟩
  · subst hs; exact restrict_eq (T := [(0, (.imm z3 (.sl (.int .i64)) d2)), (1, (.fn 69 [(0, 0)])), (7, (.imm true (.int .i64) d6)), (8, (.imm true (.int .i64) d8))]) (U := [((0, 0), some ⟨true, kGather, (.imm z12), d11⟩)]) rfl rfl ⟨e1, e4, e5, e7, trivial⟩ ⟨e9, trivial⟩
  · rcases y with x | x <;> exact Option.some.inj hz
noncomputable def slices_IndexFunc_int64_i_MissedByc1_I : FnI := ⟨slices_IndexFunc_int64_i_MissedByc1_b, Try.f98.results.toList, Try.f98.resultTypes.toList, slices_IndexFunc_int64_i_MissedByc1_A⟩
noncomputable def slices_IndexFunc_int64_i_MissedByc1_out (_zp0 : Bool) (zp1 : Bool) (_p0 : (List Int)) (p1 : TGather) : Int → CallOut := fun r => ⟨(.imm true (.int .i64) r), [⟨true, kGather, (.imm zp1), p1⟩], []⟩
set_option maxRecDepth 100000 in
theorem slices_IndexFunc_int64_i_MissedByc1_eq : ∀ (zp0 : Bool) (zp1 : Bool) (p0 : (List Int)) (p1 : TGather), denFn slices_IndexFunc_int64_i_MissedByc1_V slices_IndexFunc_int64_i_MissedByc1_I ⟨[(.imm zp0 (.sl (.int .i64)) p0), (.fn 69 [(0, 0)])], [⟨true, kGather, (.imm zp1), p1⟩]⟩ = (slices_IndexFunc_int64_i_MissedByc1 p0 p1).run fun r => some (slices_IndexFunc_int64_i_MissedByc1_out zp0 zp1 p0 p1 r) := fun _ _ _ _ => by kernel_rfl
noncomputable def slices_IndexFunc_int64_i_MissedByc1_G (av : List AV) (rs : List Root) : Tre CallOut :=
  asCons av fun a0_ av0 =>
  asCons av0 fun a1_ av1 =>
  asEnd av1 <|
  asCons rs fun r0_ rs0 =>
  asEnd rs0 <|
  asImm (.sl (.int .i64)) a0_ fun z2 d1 =>
  asFn 69 [(0, 0)] a1_ <|
  asRt true kGather r0_ fun m3 d4 =>
  asMImm m3 fun z5 =>
  .mat (idxM d1 d4) fun r => .ret (slices_IndexFunc_int64_i_MissedByc1_out z2 z5 d1 d4 r)
noncomputable def slices_IndexFunc_int64_i_MissedByc1_c : Ctr := ⟨[], fun ci => slices_IndexFunc_int64_i_MissedByc1_G ci.args ci.roots⟩
theorem slices_IndexFunc_int64_i_MissedByc1_env : EnvOK Try.prog slices_IndexFunc_int64_i_MissedByc1_V := (envOK_cons i_MissedByc1_9af1_ok ent69 envOK_nil)
set_option maxRecDepth 100000 in
theorem slices_IndexFunc_int64_i_MissedByc1_ok : Contract Try.prog 98 slices_IndexFunc_int64_i_MissedByc1_c := by
  have hl : LoopsOK slices_IndexFunc_int64_i_MissedByc1_V slices_IndexFunc_int64_i_MissedByc1_A slices_IndexFunc_int64_i_MissedByc1_b := (loopsOK_all (n := 1) (by kernel_rfl) fun k hk => by
      match k, hk with
      | 0, _ => exact loopOK_at (id := 2) (L := slices_IndexFunc_int64_i_MissedByc1_l2_L) (by kernel_rfl) (by kernel_rfl) slices_IndexFunc_int64_i_MissedByc1_l2_ok)
  refine (contract_of (F := slices_IndexFunc_int64_i_MissedByc1_I) tau_tys slices_IndexFunc_int64_i_MissedByc1_env Try.func98 (by kernel_rfl) (by kernel_rfl) (by kernel_rfl) hl []).weaken ?_
  rintro ⟨av, rs⟩ co h
  have h : (slices_IndexFunc_int64_i_MissedByc1_G av rs).run some = some co := h
  obtain ⟨a0_, av0, rfl, h_0⟩ := asCons_spec h
  obtain ⟨a1_, av1, rfl, h_1⟩ := asCons_spec h_0
  obtain ⟨rfl, h_2⟩ := asEnd_spec h_1
  obtain ⟨r0_, rs0, rfl, h_3⟩ := asCons_spec h_2
  obtain ⟨rfl, h_4⟩ := asEnd_spec h_3
  obtain ⟨z2, d1, rfl, h_5⟩ := asImm_spec h_4
  obtain ⟨rfl, h_6⟩ := asFn_spec h_5
  obtain ⟨m3, d4, rfl, h_7⟩ := asRt_spec h_6
  obtain ⟨z5, rfl, h_8⟩ := asMImm_spec h_7
  exact fin_opt (slices_IndexFunc_int64_i_MissedByc1_eq z2 z5 d1 d4) (slices_IndexFunc_int64_i_MissedByc1_spec d1 d4) h_8
end Go.Proofs.Ytddaclhjnkimfaa

namespace Go.Proofs.Ytddaclhjnkimfaa
open Go Go.Abs Go.Proofs
noncomputable def slices_ContainsFunc_int64_i_MissedByc1 (p0 : (List Int)) (p1 : TGather) : Tre Bool :=
  .mat (idxM p0 p1) fun r1 =>
  .ret (decide (r1 ≥ 0))
noncomputable def slices_ContainsFunc_int64_i_MissedByc1_F (p0 : (List Int)) (p1 : TGather) : Option Bool := (slices_ContainsFunc_int64_i_MissedByc1 p0 p1).run some
def hasM (xs : List Int) (p : Int × Int × List Int × Int × Int × Unit) : Option Bool := askO (decide (0 ≤ (iwrap .i64 (p.1 + p.2.1))) && decide (xs.length ≤ 1048576)) (xs.any fun x => !inP (iwrap .i64 (p.1 + p.2.1)) x)
theorem slices_ContainsFunc_int64_i_MissedByc1_spec (p0 : List Int) (p1 : Int × Int × List Int × Int × Int × Unit) (y : Bool) (h : hasM p0 p1 = some y) : slices_ContainsFunc_int64_i_MissedByc1_F p0 p1 = some y := by
  obtain ⟨hl, rfl⟩ := askO_some h
  unfold slices_ContainsFunc_int64_i_MissedByc1_F slices_ContainsFunc_int64_i_MissedByc1
  rw [run_some_mat (show idxM p0 p1 = some _ from askO_true hl), Tre.run_ret, idxI_any]
noncomputable def slices_ContainsFunc_int64_i_MissedByc1_V : Env := ⟨tau, [(98, slices_IndexFunc_int64_i_MissedByc1_c)], []⟩
noncomputable def slices_ContainsFunc_int64_i_MissedByc1_b : Code := (Try.f68.body).getD .skip
noncomputable def slices_ContainsFunc_int64_i_MissedByc1_I : FnI := ⟨slices_ContainsFunc_int64_i_MissedByc1_b, Try.f68.results.toList, Try.f68.resultTypes.toList, []⟩
noncomputable def slices_ContainsFunc_int64_i_MissedByc1_out (_zp0 : Bool) (zp1 : Bool) (_p0 : (List Int)) (p1 : TGather) : Bool → CallOut := fun r => ⟨(.imm true .bool r), [⟨true, kGather, (.imm zp1), p1⟩], []⟩
set_option maxRecDepth 100000 in
theorem slices_ContainsFunc_int64_i_MissedByc1_eq : ∀ (zp0 : Bool) (zp1 : Bool) (p0 : (List Int)) (p1 : TGather), denFn slices_ContainsFunc_int64_i_MissedByc1_V slices_ContainsFunc_int64_i_MissedByc1_I ⟨[(.imm zp0 (.sl (.int .i64)) p0), (.fn 69 [(0, 0)])], [⟨true, kGather, (.imm zp1), p1⟩]⟩ = (slices_ContainsFunc_int64_i_MissedByc1 p0 p1).run fun r => some (slices_ContainsFunc_int64_i_MissedByc1_out zp0 zp1 p0 p1 r) := fun _ _ _ _ => by kernel_rfl
noncomputable def slices_ContainsFunc_int64_i_MissedByc1_G (av : List AV) (rs : List Root) : Tre CallOut :=
  asCons av fun a0_ av0 =>
  asCons av0 fun a1_ av1 =>
  asEnd av1 <|
  asCons rs fun r0_ rs0 =>
  asEnd rs0 <|
  asImm (.sl (.int .i64)) a0_ fun z2 d1 =>
  asFn 69 [(0, 0)] a1_ <|
  asRt true kGather r0_ fun m3 d4 =>
  asMImm m3 fun z5 =>
  .mat (hasM d1 d4) fun r => .ret (slices_ContainsFunc_int64_i_MissedByc1_out z2 z5 d1 d4 r)
noncomputable def slices_ContainsFunc_int64_i_MissedByc1_c : Ctr := ⟨[], fun ci => slices_ContainsFunc_int64_i_MissedByc1_G ci.args ci.roots⟩
theorem slices_ContainsFunc_int64_i_MissedByc1_env : EnvOK Try.prog slices_ContainsFunc_int64_i_MissedByc1_V := (envOK_cons slices_IndexFunc_int64_i_MissedByc1_ok ent98 envOK_nil)
set_option maxRecDepth 100000 in
theorem slices_ContainsFunc_int64_i_MissedByc1_ok : Contract Try.prog 68 slices_ContainsFunc_int64_i_MissedByc1_c := by
  have hl : LoopsOK slices_ContainsFunc_int64_i_MissedByc1_V [] slices_ContainsFunc_int64_i_MissedByc1_b := loopsOK_nil (by kernel_rfl)
  refine (contract_of (F := slices_ContainsFunc_int64_i_MissedByc1_I) tau_tys slices_ContainsFunc_int64_i_MissedByc1_env Try.func68 (by kernel_rfl) (by kernel_rfl) (by kernel_rfl) hl []).weaken ?_
  rintro ⟨av, rs⟩ co h
  have h : (slices_ContainsFunc_int64_i_MissedByc1_G av rs).run some = some co := h
  obtain ⟨a0_, av0, rfl, h_0⟩ := asCons_spec h
  obtain ⟨a1_, av1, rfl, h_1⟩ := asCons_spec h_0
  obtain ⟨rfl, h_2⟩ := asEnd_spec h_1
  obtain ⟨r0_, rs0, rfl, h_3⟩ := asCons_spec h_2
  obtain ⟨rfl, h_4⟩ := asEnd_spec h_3
  obtain ⟨z2, d1, rfl, h_5⟩ := asImm_spec h_4
  obtain ⟨rfl, h_6⟩ := asFn_spec h_5
  obtain ⟨m3, d4, rfl, h_7⟩ := asRt_spec h_6
  obtain ⟨z5, rfl, h_8⟩ := asMImm_spec h_7
  exact fin_opt (slices_ContainsFunc_int64_i_MissedByc1_eq z2 z5 d1 d4) (slices_ContainsFunc_int64_i_MissedByc1_spec d1 d4) h_8
end Go.Proofs.Ytddaclhjnkimfaa

namespace Go.Proofs.Ytddaclhjnkimfaa
open Go Go.Abs Go.Proofs
def missW (g : Int × Int × List Int × Int × Int × Unit) (ds : List Int) (x : Int) : Int := ixor .i64 (ishr .i64 x g.1) (timesL (iand .i64 x (top1 g.1)) ds)
def okM (ps ds : List Int) (g : Int × Int × List Int × Int × Int × Unit) : Bool := inR g.1 1 4 && inR g.2.1 1 6 && decide (ps.length ≤ 1048576) && decide (ds.length ≤ 1048576) && ps.all (inP (g.1 + g.2.1)) && ds.all (inP g.2.1)
noncomputable def missN (ps ds : List Int) (g : Int × Int × List Int × Int × Int × Unit) : Int := (echI (ps.map (missW g ds))).length
noncomputable def missR (ps ds : List Int) (g : Int × Int × List Int × Int × Int × Unit) : Option Int := askO (okM ps ds g) (missN ps ds g)
theorem top1_def (m : Int) : iwrap .i64 (ishl .i64 1 m - 1) = top1 m := rfl
theorem foldE_map (f : Int → Int) : ∀ (l : List Int) (i : Nat) (acc : List Int), foldE (β := List Int) (fun _ acc x => .inl (acc ++ [f x])) id i acc l = acc ++ l.map f := by
  intro l
  induction l with
  | nil => intro i acc; simp [foldE]
  | cons x l ih => intro i acc; simp only [foldE]; rw [ih]; simp
theorem missW_ok {ps ds : List Int} {g : Int × Int × List Int × Int × Int × Unit} (h : okM ps ds g = true) : okRows g.2.1.toNat (ps.map (missW g ds)) = true ∧ okRows 62 (ps.map (missW g ds)) = true := by
  unfold okM at h
  simp only [Bool.and_eq_true, decide_eq_true_eq, inR_iff] at h
  obtain ⟨⟨⟨⟨⟨hk, hm⟩, hl1⟩, hl2⟩, hps⟩, hds⟩ := h
  obtain ⟨k, hk'⟩ : ∃ k : Nat, g.1 = (k : Int) := ⟨g.1.toNat, by omega⟩
  obtain ⟨m, hm'⟩ : ∃ m : Nat, g.2.1 = (m : Int) := ⟨g.2.1.toNat, by omega⟩
  have hdn : okRows m ds = true := by
    unfold okRows
    simp only [Bool.and_eq_true, decide_eq_true_eq, List.all_eq_true]
    refine ⟨hl2, fun x hx => ?_⟩
    obtain ⟨n, rfl, hn⟩ := inP_nat (m := m) (by omega) (by rw [← hm']; exact List.all_eq_true.1 hds x hx)
    omega
  obtain ⟨dn, rfl, _, hdb, _⟩ := okRows_up hdn
  have key : ∀ x ∈ ps, ∃ t : Nat, missW g (up dn) x = (t : Int) ∧ t < 2 ^ m := by
    intro x hx
    have h1 := List.all_eq_true.1 hps x hx
    rw [hk', hm', ← Int.natCast_add] at h1
    obtain ⟨n, rfl, hn⟩ := inP_nat (by omega) h1
    obtain ⟨t, ht, htb⟩ := timesL_nat (iand .i64 (n : Int) (top1 g.1)) (b := m) (by omega) dn 0 0 (Nat.two_pow_pos m) hdb
    have ht : timesL (iand .i64 (n : Int) (top1 g.1)) (up dn) = (t : Int) := ht
    have hs : n >>> k < 2 ^ m := by
      rw [Nat.shiftRight_eq_div_pow]
      refine Nat.div_lt_of_lt_mul ?_
      rw [← Nat.pow_add]
      exact hn
    have hm62 := pow_le (show m ≤ 62 by omega)
    refine ⟨(n >>> k) ^^^ t, ?_, Nat.xor_lt_two_pow hs htb⟩
    unfold missW
    rw [ht, hk', ishr_nat (by omega), ixor_nat (by omega) (by omega)]
  have h2 : ∀ b, m ≤ b → okRows b (ps.map (missW g (up dn))) = true := by
    intro b hb
    have := pow_le hb
    unfold okRows
    simp only [Bool.and_eq_true, decide_eq_true_eq, List.all_eq_true, List.length_map]
    refine ⟨hl1, fun x hx => ?_⟩
    obtain ⟨y, hy, rfl⟩ := List.mem_map.1 hx
    obtain ⟨t, ht, htb⟩ := key y hy
    rw [ht]
    omega
  rw [hm', Int.toNat_natCast]
  exact ⟨h2 m (Nat.le_refl m), h2 62 (by omega)⟩
end Go.Proofs.Ytddaclhjnkimfaa

namespace Go.Proofs.Ytddaclhjnkimfaa
open Go Go.Abs Go.Proofs
noncomputable def i_Gather_missed_l3 (h3_0_0 : (List Int)) (h3_0_1 : (List Int)) (h3_0_2 : Int) (h3_0_4 : TGather) : (Int × (List Int)) → Tre ((Int × (List Int)) ⊕ (List Int)) := fun s3 =>
  .cond (decide (s3.1 < h3_0_2))
    (.ite (0 ≤ s3.1 ∧ s3.1 < (h3_0_1.length : Int)) <|
    .mat (h3_0_1[s3.1.toNat]?) fun x1 =>
    .ite (0 ≤ h3_0_4.1) <|
    .ite (0 ≤ h3_0_4.1) <|
    let v2 := iwrap .i64 ((ishl .i64 1 h3_0_4.1) - 1)
    .mat (sumR h3_0_0 (iand .i64 x1 v2)) fun r3 =>
    let v4 := ixor .i64 (ishr .i64 x1 h3_0_4.1) r3
    .ite ((s3.2.length + 1) * 8 ≤ appendMax ∧ 1 ≤ 8) <|
    .ret (.inl (iwrap .i64 (s3.1 + 1), s3.2 ++ ([v4]))))
    (.ret (.inr s3.2))
noncomputable def i_Gather_missed (p0 : TGather) (p1 : (List Int)) (p2 : (List Int)) : Tre Int :=
  .mat (loopF (i_Gather_missed_l3 p2 p1 (p1.length : Int) p0) (0, [])) fun l5 =>
  .mat (echA l5) fun r6 =>
  .ret (r6.length : Int)
noncomputable def i_Gather_missed_F (p0 : TGather) (p1 : (List Int)) (p2 : (List Int)) : Option Int := (i_Gather_missed p0 p1 p2).run some
noncomputable def missI (g : Int × Int × List Int × Int × Int × Unit) (ps ds : List Int) : Option Int := missR ps ds g
theorem i_Gather_missed_spec (p0 : Int × Int × List Int × Int × Int × Unit) (p1 p2 : List Int) (y : Int) (h : missI p0 p1 p2 = some y) : i_Gather_missed_F p0 p1 p2 = some y := by
  obtain ⟨hok, rfl⟩ := askO_some h
  have hr := (missW_ok hok).2
  unfold okM at hok
  simp only [Bool.and_eq_true, decide_eq_true_eq, inR_iff] at hok
  obtain ⟨⟨⟨⟨⟨hk, hm⟩, hl1⟩, hl2⟩, hps⟩, hds⟩ := hok
  unfold i_Gather_missed_F i_Gather_missed
  have := fold_loop (xs := p1) (step := i_Gather_missed_l3 p2 p1 (p1.length : Int) p0) (fun i acc => ((i : Int), acc)) (fun _ acc x => .inl (acc ++ [missW p0 p2 x])) id (fun i acc => acc.length = i) (by
    intro i acc x hx hI
    have hi : i < p1.length := (List.getElem?_eq_some_iff.1 hx).1
    refine ⟨?_, fun a ha => by cases ha; simp [hI]⟩
    unfold i_Gather_missed_l3
    rw [run_inb hx, Tre.run_ite, if_pos (by omega), Tre.run_ite, if_pos (by omega)]
    dsimp only
    rw [top1_def, run_some_mat (show sumR p2 (iand .i64 x (top1 p0.1)) = some _ from lim_of hl2), Tre.run_ite, if_pos (by unfold appendMax; omega), Tre.run_ret, iwrap_succ (by omega)]
    rfl)
    (by
    intro acc _
    unfold i_Gather_missed_l3
    exact run_out) p1 0 [] rfl (Nat.zero_le _) rfl
  rw [foldE_map] at this
  have h1 : loopF (i_Gather_missed_l3 p2 p1 (p1.length : Int) p0) (0, []) = some (p1.map (missW p0 p2)) := this
  rw [run_some_mat h1, run_some_mat (show echA (p1.map (missW p0 p2)) = some _ from askO_true hr)]
  rfl
noncomputable def i_Gather_missed_V : Env := ⟨tau, [(65, i_sumOf_c), (82, i_echelon_c), (52, i_size_int64_c)], []⟩
noncomputable def i_Gather_missed_b : Code := (Try.f44.body).getD .skip
noncomputable def i_Gather_missed_l3_mk (z3_0 : Bool) (z3_1 : Bool) (z3_2 : Bool) (h3_0_0 : (List Int)) (h3_0_1 : (List Int)) (h3_0_2 : Int) (h3_0_4 : TGather) : (Int × (List Int)) → St := fun x => stOf [(2, (.imm z3_0 (.sl (.int .i64)) h3_0_0)), (3, (.ptr (5, 0) [])), (7, (.ref (9, 0) [])), (11, (.imm z3_1 (.sl (.int .i64)) h3_0_1)), (12, (.imm true (.int .i64) h3_0_2)), (13, (.imm true (.int .i64) x.1))] [((5, 0), some ⟨true, kGather, (.imm z3_2), h3_0_4⟩), ((9, 0), some ⟨false, (.sl (.int .i64)), .own, x.2⟩)]
noncomputable def i_Gather_missed_l3_out (_z3_0 : Bool) (_z3_1 : Bool) (_z3_2 : Bool) (_h3_0_0 : (List Int)) (_h3_0_1 : (List Int)) (_h3_0_2 : Int) (_h3_0_4 : TGather) : (List Int) → Ex × St := fun x => (.exit 0, stOf [(7, (.ref (9, 0) []))] [((9, 0), some ⟨false, (.sl (.int .i64)), .own, x⟩)])
noncomputable def i_Gather_missed_l3_D (s : St) : Tre (Ex × St) :=
  asImm (.sl (.int .i64)) (s.tmps 2) fun z3 d2 =>
  asPtr (5, 0) [] (s.tmps 3) <|
  asRef (9, 0) [] (s.tmps 7) <|
  asImm (.sl (.int .i64)) (s.tmps 11) fun z8 d7 =>
  asImmZ true (.int .i64) (s.tmps 12) fun d10 =>
  asImmZ true (.int .i64) (s.tmps 13) fun d12 =>
  asRoot true kGather (s.roots (5, 0)) fun m14 d15 =>
  asMImm m14 fun z16 =>
  asRoot false (.sl (.int .i64)) (s.roots (9, 0)) fun m18 d19 =>
  asM .own m18 <|
  .mat (loopF (i_Gather_missed_l3 d2 d7 d10 d15) (d12, d19)) fun x => .ret (i_Gather_missed_l3_out z3 z8 z16 d2 d7 d10 d15 x)
noncomputable def i_Gather_missed_l3_L : LoopI := ⟨([2, 3, 7, 11, 12, 13], [(5, 0), (9, 0)]), ([7], [(9, 0)]), i_Gather_missed_l3_D⟩
noncomputable def i_Gather_missed_A : List (Nat × LoopI) := [(3, i_Gather_missed_l3_L)]
set_option maxRecDepth 100000 in
theorem i_Gather_missed_l3_step : ∀ (z3_0 : Bool) (z3_1 : Bool) (z3_2 : Bool) (h3_0_0 : (List Int)) (h3_0_1 : (List Int)) (h3_0_2 : Int) (h3_0_4 : TGather) (x : (Int × (List Int))) (c : St → Option (Ex × St)), den i_Gather_missed_V i_Gather_missed_A (loopAt i_Gather_missed_b 0) (i_Gather_missed_l3_mk z3_0 z3_1 z3_2 h3_0_0 h3_0_1 h3_0_2 h3_0_4 x) (roundK i_Gather_missed_l3_L.kp i_Gather_missed_l3_L.kx c) = (i_Gather_missed_l3 h3_0_0 h3_0_1 h3_0_2 h3_0_4 x).run (roundR (i_Gather_missed_l3_mk z3_0 z3_1 z3_2 h3_0_0 h3_0_1 h3_0_2 h3_0_4) (i_Gather_missed_l3_out z3_0 z3_1 z3_2 h3_0_0 h3_0_1 h3_0_2 h3_0_4) c) := fun _ _ _ _ _ _ _ _ _ => by
  kernel_rfl
theorem i_Gather_missed_l3_ok : LoopOK i_Gather_missed_V i_Gather_missed_A (loopAt i_Gather_missed_b 0) i_Gather_missed_l3_L := loopOK_of fun s e s' h => by
  generalize hs : restrict i_Gather_missed_l3_L.kp s = s1 at h
  have h : (i_Gather_missed_l3_D s1).run some = some (e, s') := h
  obtain ⟨z3, d2, e1, h_0⟩ := asImm_spec h
  obtain ⟨e4, h_1⟩ := asPtr_spec h_0
  obtain ⟨e5, h_2⟩ := asRef_spec h_1
  obtain ⟨z8, d7, e6, h_3⟩ := asImm_spec h_2
  obtain ⟨d10, e9, h_4⟩ := asImmZ_spec h_3
  obtain ⟨d12, e11, h_5⟩ := asImmZ_spec h_4
  obtain ⟨m14, d15, e13, h_6⟩ := asRoot_spec h_5
  obtain ⟨z16, rfl, h_7⟩ := asMImm_spec h_6
  obtain ⟨m18, d19, e17, h_8⟩ := asRoot_spec h_7
  obtain ⟨rfl, h_9⟩ := asM_spec h_8
  obtain ⟨y, hy, hz⟩ := mat_ret h_9
  refine ⟨_, _, i_Gather_missed_l3_mk z3 z8 z16 d2 d7 d10 d15, i_Gather_missed_l3_out z3 z8 z16 d2 d7 d10 d15, i_Gather_missed_l3 d2 d7 d10 d15, (d12, d19), y, ?_, hy, ?_, i_Gather_missed_l3_step z3 z8 z16 d2 d7 d10 d15⟩
  · subst hs; exact restrict_eq (T := [(2, (.imm z3 (.sl (.int .i64)) d2)), (3, (.ptr (5, 0) [])), (7, (.ref (9, 0) [])), (11, (.imm z8 (.sl (.int .i64)) d7)), (12, (.imm true (.int .i64) d10)), (13, (.imm true (.int .i64) d12))]) (U := [((5, 0), some ⟨true, kGather, (.imm z16), d15⟩), ((9, 0), some ⟨false, (.sl (.int .i64)), .own, d19⟩)]) rfl rfl ⟨e1, e4, e5, e6, e9, e11, trivial⟩ ⟨e13, e17, trivial⟩
  · exact Option.some.inj hz
noncomputable def i_Gather_missed_I : FnI := ⟨i_Gather_missed_b, Try.f44.results.toList, Try.f44.resultTypes.toList, i_Gather_missed_A⟩
noncomputable def i_Gather_missed_out (_zp0 : Bool) (_zp1 : Bool) (_zp2 : Bool) (_p0 : TGather) (_p1 : (List Int)) (_p2 : (List Int)) : Int → CallOut := fun r => ⟨(.imm true (.int .i64) r), [], []⟩
set_option maxRecDepth 100000 in
theorem i_Gather_missed_eq : ∀ (zp0 : Bool) (zp1 : Bool) (zp2 : Bool) (p0 : TGather) (p1 : (List Int)) (p2 : (List Int)), denFn i_Gather_missed_V i_Gather_missed_I ⟨[(.imm zp0 kGather p0), (.imm zp1 (.sl (.int .i64)) p1), (.imm zp2 (.sl (.int .i64)) p2)], []⟩ = (i_Gather_missed p0 p1 p2).run fun r => some (i_Gather_missed_out zp0 zp1 zp2 p0 p1 p2 r) := fun _ _ _ _ _ _ => by kernel_rfl
noncomputable def i_Gather_missed_G (av : List AV) (rs : List Root) : Tre CallOut :=
  asCons av fun a0_ av0 =>
  asCons av0 fun a1_ av1 =>
  asCons av1 fun a2_ av2 =>
  asEnd av2 <|
  asEnd rs <|
  asImm kGather a0_ fun z2 d1 =>
  asImm (.sl (.int .i64)) a1_ fun z4 d3 =>
  asImm (.sl (.int .i64)) a2_ fun z6 d5 =>
  .mat (missI d1 d3 d5) fun r => .ret (i_Gather_missed_out z2 z4 z6 d1 d3 d5 r)
noncomputable def i_Gather_missed_c : Ctr := ⟨[], fun ci => i_Gather_missed_G ci.args ci.roots⟩
theorem i_Gather_missed_env : EnvOK Try.prog i_Gather_missed_V := (envOK_cons i_sumOf_ok ent65 (envOK_cons i_echelon_ok ent82 (envOK_cons i_size_int64_ok ent52 envOK_nil)))
set_option maxRecDepth 100000 in
theorem i_Gather_missed_ok : Contract Try.prog 44 i_Gather_missed_c := by
  have hl : LoopsOK i_Gather_missed_V i_Gather_missed_A i_Gather_missed_b := (loopsOK_all (n := 1) (by kernel_rfl) fun k hk => by
      match k, hk with
      | 0, _ => exact loopOK_at (id := 3) (L := i_Gather_missed_l3_L) (by kernel_rfl) (by kernel_rfl) i_Gather_missed_l3_ok)
  refine (contract_of (F := i_Gather_missed_I) tau_tys i_Gather_missed_env Try.func44 (by kernel_rfl) (by kernel_rfl) (by kernel_rfl) hl []).weaken ?_
  rintro ⟨av, rs⟩ co h
  have h : (i_Gather_missed_G av rs).run some = some co := h
  obtain ⟨a0_, av0, rfl, h_0⟩ := asCons_spec h
  obtain ⟨a1_, av1, rfl, h_1⟩ := asCons_spec h_0
  obtain ⟨a2_, av2, rfl, h_2⟩ := asCons_spec h_1
  obtain ⟨rfl, h_3⟩ := asEnd_spec h_2
  obtain ⟨rfl, h_4⟩ := asEnd_spec h_3
  obtain ⟨z2, d1, rfl, h_5⟩ := asImm_spec h_4
  obtain ⟨z4, d3, rfl, h_6⟩ := asImm_spec h_5
  obtain ⟨z6, d5, rfl, h_7⟩ := asImm_spec h_6
  exact fin_opt (i_Gather_missed_eq z2 z4 z6 d1 d3 d5) (i_Gather_missed_spec d1 d3 d5) h_7
end Go.Proofs.Ytddaclhjnkimfaa

namespace Go.Proofs.Ytddaclhjnkimfaa
open Go Go.Abs Go.Proofs
def belowR (xs : List Int) (b : Int) : Option Bool := lim xs.length (xs.all fun x => inR x 0 (iwrap .i64 (b - 1)))
end Go.Proofs.Ytddaclhjnkimfaa

namespace Go.Proofs.Ytddaclhjnkimfaa
open Go Go.Abs Go.Proofs
noncomputable def missV (g : Int × Int × List Int × Int × Int × Unit) (ps ds : List Int) : Int × Int :=
  cond (isG g) (cond (decide ((ps.length : Int) > 10)) (0, 2) (cond (ps.all (inP (g.1 + g.2.1))) (cond (decide ((ds.length : Int) = g.1)) (cond (ds.all (inP g.2.1)) (missN ps ds g, 0) (0, 2)) (0, 2)) (0, 2))) (0, 1)
noncomputable def missB (g : Int × Int × List Int × Int × Int × Unit) (ps ds : List Int) : Option (Int × Int) := askO (decide (g.2.2.1.length ≤ 1048576) && decide (ps.length ≤ 1048576) && decide (ds.length ≤ 1048576)) (missV g ps ds)
theorem isG_bounds {g : Int × Int × List Int × Int × Int × Unit} (h : isG g = true) : (1 ≤ g.1 ∧ g.1 ≤ 4) ∧ 1 ≤ g.2.1 ∧ g.2.1 ≤ 6 := by
  unfold isG at h
  simp only [Bool.and_eq_true, inR_iff] at h
  exact ⟨h.1.1.1.1.1, h.1.1.1.1.2⟩
end Go.Proofs.Ytddaclhjnkimfaa

namespace Go.Proofs.Ytddaclhjnkimfaa
open Go Go.Abs Go.Proofs
noncomputable def i_MissedBy (p0 : TGather) (p1 : (List Int)) (p2 : (List Int)) : Tre (Int × Int) :=
  .mat (okG p0) fun r1 =>
  .cond (!r1)
    (.ret (0, 1))
    (.cond (decide ((p1.length : Int) > 10))
      (.ret (0, 2))
      (.mat (hasM p1 p0) fun r2 =>
      .cond r2
        (.ret (0, 2))
        (.mat (isDat p0 p2) fun r3 =>
        .cond (!r3)
          (.ret (0, 2))
          (.mat (missI p0 p1 p2) fun r4 =>
          .ret (r4, 0)))))
noncomputable def i_MissedBy_F (p0 : TGather) (p1 : (List Int)) (p2 : (List Int)) : Option (Int × Int) := (i_MissedBy p0 p1 p2).run some
theorem i_MissedBy_spec (p0 : Int × Int × List Int × Int × Int × Unit) (p1 p2 : List Int) (y : Int × Int) (h : missB p0 p1 p2 = some y) : i_MissedBy_F p0 p1 p2 = some y := by
  obtain ⟨hok, rfl⟩ := askO_some h
  simp only [Bool.and_eq_true, decide_eq_true_eq] at hok
  obtain ⟨⟨h0, h1⟩, h2⟩ := hok
  unfold i_MissedBy_F i_MissedBy missV
  rw [run_some_mat (show okG p0 = some _ from lim_of h0), Tre.run_cond]
  cases hg : isG p0
  · rfl
  have hb := isG_bounds hg
  rw [Bool.not_true, cond_false, cond_true, Tre.run_cond]
  cases decide ((p1.length : Int) > 10)
  rotate_left
  · rfl
  have hc : iwrap .i64 (p0.1 + p0.2.1) = p0.1 + p0.2.1 := iwrap_i64 (by omega) (by omega)
  have ha : (p1.any fun x => !inP (p0.1 + p0.2.1) x) = !p1.all (inP (p0.1 + p0.2.1)) := by rw [List.all_eq_not_any_not, Bool.not_not]
  rw [cond_false, cond_false, run_some_mat (show hasM p1 p0 = some _ from askO_true (by rw [hc]; simp; omega)), hc, ha, Tre.run_cond]
  cases hp : p1.all (inP (p0.1 + p0.2.1))
  · rfl
  rw [Bool.not_true, cond_false, cond_true, run_some_mat (show isDat p0 p2 = some _ from askO_true (by simp; omega)), Tre.run_cond]
  cases hd : decide ((p2.length : Int) = p0.1)
  · rfl
  cases hq : p2.all (inP p0.2.1)
  · rfl
  rw [Bool.and_true, Bool.not_true, cond_false, cond_true, cond_true, run_some_mat (show missI p0 p1 p2 = some _ from askO_true (by
    unfold okM
    simp only [Bool.and_eq_true, decide_eq_true_eq, inR_iff]
    exact ⟨⟨⟨⟨⟨hb.1, hb.2⟩, h1⟩, h2⟩, hp⟩, hq⟩))]
  rfl
noncomputable def i_MissedBy_V : Env := ⟨tau, [(60, i_ValidGather_c), (68, slices_ContainsFunc_int64_i_MissedByc1_c), (71, i_Gather_isData_c), (44, i_Gather_missed_c)], []⟩
noncomputable def i_MissedBy_b : Code := (Try.f33.body).getD .skip
noncomputable def i_MissedBy_I : FnI := ⟨i_MissedBy_b, Try.f33.results.toList, Try.f33.resultTypes.toList, []⟩
noncomputable def i_MissedBy_out (_zp0 : Bool) (_zp1 : Bool) (_zp2 : Bool) (_p0 : TGather) (_p1 : (List Int)) (_p2 : (List Int)) : (Int × Int) → CallOut := fun r => ⟨(.tcons (.imm true (.int .i64) r.1) (.tcons (.imm true (.int .i64) r.2) .tnil)), [], []⟩
set_option maxRecDepth 100000 in
theorem i_MissedBy_eq : ∀ (zp0 : Bool) (zp1 : Bool) (zp2 : Bool) (p0 : TGather) (p1 : (List Int)) (p2 : (List Int)), denFn i_MissedBy_V i_MissedBy_I ⟨[(.imm zp0 kGather p0), (.imm zp1 (.sl (.int .i64)) p1), (.imm zp2 (.sl (.int .i64)) p2)], []⟩ = (i_MissedBy p0 p1 p2).run fun r => some (i_MissedBy_out zp0 zp1 zp2 p0 p1 p2 r) := fun _ _ _ _ _ _ => by kernel_rfl
noncomputable def i_MissedBy_G (av : List AV) (rs : List Root) : Tre CallOut :=
  asCons av fun a0_ av0 =>
  asCons av0 fun a1_ av1 =>
  asCons av1 fun a2_ av2 =>
  asEnd av2 <|
  asEnd rs <|
  asImm kGather a0_ fun z2 d1 =>
  asImm (.sl (.int .i64)) a1_ fun z4 d3 =>
  asImm (.sl (.int .i64)) a2_ fun z6 d5 =>
  .mat (missB d1 d3 d5) fun r => .ret (i_MissedBy_out z2 z4 z6 d1 d3 d5 r)
noncomputable def i_MissedBy_c : Ctr := ⟨[], fun ci => i_MissedBy_G ci.args ci.roots⟩
theorem i_MissedBy_env : EnvOK Try.prog i_MissedBy_V := (envOK_cons i_ValidGather_ok ent60 (envOK_cons slices_ContainsFunc_int64_i_MissedByc1_ok ent68 (envOK_cons i_Gather_isData_ok ent71 (envOK_cons i_Gather_missed_ok ent44 envOK_nil))))
set_option maxRecDepth 100000 in
theorem i_MissedBy_ok : Contract Try.prog 33 i_MissedBy_c := by
  have hl : LoopsOK i_MissedBy_V [] i_MissedBy_b := loopsOK_nil (by kernel_rfl)
  refine (contract_of (F := i_MissedBy_I) tau_tys i_MissedBy_env Try.func33 (by kernel_rfl) (by kernel_rfl) (by kernel_rfl) hl []).weaken ?_
  rintro ⟨av, rs⟩ co h
  have h : (i_MissedBy_G av rs).run some = some co := h
  obtain ⟨a0_, av0, rfl, h_0⟩ := asCons_spec h
  obtain ⟨a1_, av1, rfl, h_1⟩ := asCons_spec h_0
  obtain ⟨a2_, av2, rfl, h_2⟩ := asCons_spec h_1
  obtain ⟨rfl, h_3⟩ := asEnd_spec h_2
  obtain ⟨rfl, h_4⟩ := asEnd_spec h_3
  obtain ⟨z2, d1, rfl, h_5⟩ := asImm_spec h_4
  obtain ⟨z4, d3, rfl, h_6⟩ := asImm_spec h_5
  obtain ⟨z6, d5, rfl, h_7⟩ := asImm_spec h_6
  exact fin_opt (i_MissedBy_eq z2 z4 z6 d1 d3 d5) (i_MissedBy_spec d1 d3 d5) h_7
end Go.Proofs.Ytddaclhjnkimfaa

namespace Go.Proofs.Ytddaclhjnkimfaa
open Go Go.Abs Go.Proofs
-- shared
def lenP (p : P8) : Prop := ∀ s ∈ p.1, s.1.length ≤ 10 ∧ s.2.1.length ≤ 10
theorem begin_len {g : G8} (hg : isG g = true) : lenP (beginM g) := fun s hs => by
  have h := (okP_spec (beginM_ok hg)).2.1 s hs
  have h1 := (okS_spec.1 h.1).1
  have h2 := (okS_spec.1 h.2).1
  omega
theorem lenP_set {st : List (List Int × List Int × Unit)} {w : List (Int × Int × Unit) × Unit} {i : Nat} {x : List Int × List Int × Unit} (h : lenP (st, w)) (h1 : x.1.length ≤ 10) (h2 : x.2.1.length ≤ 10) : lenP (st.set i x, w) := fun s hs => by
  rcases List.mem_or_eq_of_mem_set hs with hs | rfl
  · exact h s hs
  · exact ⟨h1, h2⟩
theorem come_len {k : Nat} {g : G8} {p : P8} {x : Int × Int × Unit} {w : List (Int × Int × Unit) × Unit} (hg : isG g = true) (hk : k ≤ 1000) (hp : okP k g p = true) (hx : okRow (colsG g) x.2.1 = true) (h : lenP p) : lenP (comeM x p.1, w) := by
  have hc := (colsG_le hg).1
  unfold comeM
  cases hs : p.1[x.1.toNat]? with
  | none => exact h
  | some s =>
    simp only
    have hm := List.mem_of_getElem? hs
    have hr := okS_add ((okP_spec hp).2.1 s hm).1 hx
    have hle := rank_cols (b := colsG g) (by omega) (okS_rows hr (by omega) (Nat.le_refl _))
    by_cases he : ((echI (s.1 ++ [x.2.1])).length : Int) = ((s.1 ++ [x.2.1]).length : Int)
    · rw [decide_eq_true he, cond_true]
      exact lenP_set (w := w) h (by show (s.1 ++ [x.2.1]).length ≤ 10; omega) (h s hm).2
    · rw [decide_eq_false he]; exact h
theorem do_len {k : Nat} {g : G8} {d : D8} {p : P8} (hg : isG g = true) (hk : k ≤ 1000) (hp : okP k g p = true) (h : lenP p) : lenP (doM g d p).2 := by
  unfold doM
  cases decide (d.1 = 1)
  case true =>
    rw [cond_true]
    unfold sendM
    cases (decide (d.2.1 ≥ (p.1.length : Int)) || (decide (d.2.2.1 ≥ (p.1.length : Int)) || (decide (d.2.1 = d.2.2.1) || decide (d.2.2.1 = 0))))
    case true => exact h
    rw [cond_false]
    cases p.1[d.2.1.toNat]? with
    | none => exact h
    | some s =>
      simp only
      cases decide (d.2.2.2.1 ≥ ishl .i64 1 (s.1.length : Int))
      case true => exact h
      cases decide (d.2.2.2.1 = 0)
      case true => exact h
      cases decide ((p.2.1.length : Int) = 12)
      case true => exact h
      exact h
  rw [cond_false]
  cases inR d.1 2 5
  case true =>
    rw [cond_true]
    unfold wireM
    cases decide (d.2.1 ≥ (p.2.1.length : Int))
    case true => exact h
    rw [cond_false]
    cases hx : p.2.1[d.2.1.toNat]? with
    | none => exact h
    | some x =>
      simp only
      have hxr := ((okP_spec hp).2.2.2 x (List.mem_of_getElem? hx)).2
      cases decide (d.1 = 5)
      case true =>
        rw [cond_true]
        cases (decide (d.2.2.1 = 0) || decide (d.2.2.1 ≥ ishl .i64 1 (colsG g : Int)))
        · exact h
        · exact h
      rw [cond_false]
      cases decide (d.1 = 4)
      · exact come_len hg hk hp hxr h
      · exact h
  rw [cond_false]
  cases decide (d.2.1 ≥ (p.1.length : Int))
  case true => exact h
  rw [cond_false]
  cases hs : p.1[d.2.1.toNat]? with
  | none => exact h
  | some s =>
    simp only
    have hm := h s (List.mem_of_getElem? hs)
    cases decide (d.1 = 6)
    · cases decide (d.1 = 7)
      · exact lenP_set (w := p.2) h (Nat.zero_le _) hm.2
      · exact lenP_set (w := p.2) h hm.2 hm.2
    · exact lenP_set (w := p.2) h hm.1 hm.1
end Go.Proofs.Ytddaclhjnkimfaa

namespace Go.Proofs.Ytddaclhjnkimfaa
open Go Go.Abs Go.Proofs
-- shared
def Fine {α : Type} (t : Tre α) (Q : α → Prop) : Prop := ∃ a, t.run some = some a ∧ Q a
theorem Fine.ret {α : Type} {a : α} {Q : α → Prop} (h : Q a) : Fine (.ret a) Q := ⟨a, rfl, h⟩
theorem Fine.cond {α : Type} {b : Bool} {t f : Tre α} {Q : α → Prop} (ht : b = true → Fine t Q) (hf : b = false → Fine f Q) : Fine (.cond b t f) Q := by
  cases b
  · exact hf rfl
  · exact ht rfl
theorem Fine.condp {α : Type} {p : Prop} [Decidable p] {t f : Tre α} {Q : α → Prop} (ht : p → Fine t Q) (hf : ¬ p → Fine f Q) : Fine (.cond (decide p) t f) Q :=
  Fine.cond (fun h => ht (of_decide_eq_true h)) (fun h => hf (of_decide_eq_false h))
theorem Fine.ite {α : Type} {p : Prop} [h : Decidable p] {t : Tre α} {Q : α → Prop} (hp : p) (ht : p → Fine t Q) : Fine (.ite p t) Q := by
  obtain ⟨a, h1, h2⟩ := ht hp
  exact ⟨a, by rw [Tre.run_ite, if_pos hp]; exact h1, h2⟩
theorem Fine.ifn {α : Type} {p : Prop} [h : Decidable p] {t : Tre α} {Q : α → Prop} (hp : ¬ p) (ht : Fine t Q) : Fine (.ifn p t) Q := by
  obtain ⟨a, h1, h2⟩ := ht
  exact ⟨a, by rw [Tre.run_ifn, if_neg hp]; exact h1, h2⟩
theorem Fine.mat {α β : Type} {o : Option β} {k : β → Tre α} {P : β → Prop} {Q : α → Prop} (h : ∃ x, o = some x ∧ P x) (hk : ∀ x, P x → Fine (k x) Q) : Fine (.mat o k) Q := by
  obtain ⟨x, rfl, hx⟩ := h
  exact hk x hx
theorem Fine.get {α β : Type} {o : Option β} {x : β} {k : β → Tre α} {Q : α → Prop} (h : o = some x) (hk : Fine (k x) Q) : Fine (.mat o k) Q := by
  subst h; exact hk
theorem Fine.at {α β : Type} {xs : List β} {i : Int} {k : β → Tre α} {Q : α → Prop} (hi : 0 ≤ i ∧ i < (xs.length : Int)) (hk : ∀ x, x ∈ xs → Fine (k x) Q) : Fine (.mat xs[i.toNat]? k) Q := by
  have hl : i.toNat < xs.length := by omega
  exact .get (List.getElem?_eq_getElem hl) (hk _ (List.getElem_mem hl))
theorem Fine.at0 {α β : Type} {xs : List β} {k : β → Tre α} {Q : α → Prop} (hi : 0 < xs.length) (hk : ∀ x, x ∈ xs → Fine (k x) Q) : Fine (.mat xs[0]? k) Q :=
  .get (List.getElem?_eq_getElem hi) (hk _ (List.getElem_mem hi))
theorem Fine.run {α : Type} {t : Tre α} {Q : α → Prop} (h : Fine t Q) : ∃ a, t.run some = some a ∧ Q a := h
abbrev Src := List Int × Int × Int × Unit
def srcOK (c : Nat) (s : Src) : Prop := s.1.length ≤ 3000 ∧ (∀ x ∈ s.1, 0 ≤ x ∧ x ≤ 255) ∧ 0 ≤ s.2.1 ∧ s.2.1 ≤ (c : Int)
theorem srcOK.mono {c c' : Nat} {s : Src} (h : srcOK c s) (hc : c ≤ c') : srcOK c' s := ⟨h.1, h.2.1, h.2.2.1, by have := h.2.2.2; omega⟩
theorem and255 (a : Int) : 0 ≤ iand .u64 a 255 ∧ iand .u64 a 255 ≤ 255 := by
  have h : (BitVec.ofInt 64 a &&& BitVec.ofInt 64 255).toNat ≤ 255 := by
    rw [BitVec.toNat_and]
    exact Nat.le_trans Nat.and_le_right (by decide)
  unfold iand
  show 0 ≤ iwrap .u64 (((BitVec.ofInt 64 a &&& BitVec.ofInt 64 255).toNat : Nat) : Int) ∧ iwrap .u64 (((BitVec.ofInt 64 a &&& BitVec.ofInt 64 255).toNat : Nat) : Int) ≤ 255
  rw [iwrap_u64 (by omega) (by omega)]
  omega
theorem next_ok {c : Nat} {s : Src} (h : srcOK c s) (hc : c ≤ 100000) : ∃ r, s_l00Src_next_6913_F s = some r ∧ ((0 ≤ r.1 ∧ r.1 ≤ 255) ∧ srcOK (c + 1) r.2) := by
  obtain ⟨h1, h2, h3, h4⟩ := h
  have hw : iwrap .i64 (s.2.1 + 1) = s.2.1 + 1 := iwrap_i64 (by omega) (by omega)
  have hsrc : ∀ v : Int, srcOK (c + 1) (s.1, iwrap .i64 (s.2.1 + 1), v, s.2.2.2) := fun v => ⟨h1, h2, by show 0 ≤ iwrap .i64 (s.2.1 + 1); omega, by show iwrap .i64 (s.2.1 + 1) ≤ ((c + 1 : Nat) : Int); omega⟩
  have hand : ∀ a : Int, 0 ≤ iwrap .i64 (iand .u64 a 255) ∧ iwrap .i64 (iand .u64 a 255) ≤ 255 := fun a => by
    have := and255 a
    rw [iwrap_i64 (by omega) (by omega)]; exact this
  unfold s_l00Src_next_6913_F s_l00Src_next_6913
  refine Fine.run (Fine.condp (fun hlt => Fine.ite ⟨h3, hlt⟩ fun hi => Fine.at hi fun x hx => ?_) (fun _ => ?_))
  · have hb := h2 x hx
    have hx1 : iwrap .i64 x = x := iwrap_i64 (by omega) (by omega)
    exact Fine.condp (fun _ => .ret ⟨by rw [hx1]; exact hb, hsrc _⟩) (fun _ => .ret ⟨hand _, hsrc _⟩)
  · exact Fine.condp (fun _ => .ret ⟨⟨Int.le_refl 0, by show (0 : Int) ≤ 255; omega⟩, hsrc _⟩) (fun _ => .ret ⟨hand _, hsrc _⟩)
theorem tmod_rng {x n : Int} (hx : 0 ≤ x) (hn : 0 < n) : 0 ≤ Int.tmod x n ∧ Int.tmod x n < n := ⟨Int.tmod_nonneg n hx, Int.tmod_lt_of_pos x hn⟩
theorem pick_ok {n : Int} {c : Nat} {s : Src} (h : srcOK c s) (hc : c ≤ 90000) : ∃ r, s_l00Src_pick_9f69_F n s = some r ∧ ((0 ≤ r.1 ∧ (r.1 = 0 ∨ r.1 < n)) ∧ srcOK (c + 2) r.2) := by
  unfold s_l00Src_pick_9f69_F s_l00Src_pick_9f69
  refine Fine.run (Fine.condp (fun _ => .ret ⟨⟨Int.le_refl _, .inl rfl⟩, h.mono (by omega)⟩) (fun hn => Fine.mat (next_ok h (by omega)) fun x hx => Fine.condp (fun _ => Fine.mat (next_ok hx.2 (by omega)) fun y hy => ?_) (fun _ => ?_)))
  · refine Fine.ifn (by omega) (.ret ⟨?_, hy.2⟩)
    have h1 : iwrap .i64 (x.1 * 256) = x.1 * 256 := iwrap_i64 (by omega) (by omega)
    have h2 : iwrap .i64 (iwrap .i64 (x.1 * 256) + y.1) = x.1 * 256 + y.1 := by rw [h1]; exact iwrap_i64 (by omega) (by omega)
    show 0 ≤ Int.tmod (iwrap .i64 (iwrap .i64 (x.1 * 256) + y.1)) n ∧ (Int.tmod (iwrap .i64 (iwrap .i64 (x.1 * 256) + y.1)) n = 0 ∨ Int.tmod (iwrap .i64 (iwrap .i64 (x.1 * 256) + y.1)) n < n)
    rw [h2]
    have := tmod_rng (x := x.1 * 256 + y.1) (n := n) (by omega) (by omega)
    exact ⟨this.1, .inr this.2⟩
  · refine Fine.ifn (by omega) (.ret ⟨?_, hx.2.mono (by omega)⟩)
    have := tmod_rng (x := x.1) (n := n) (by omega) (by omega)
    exact ⟨this.1, .inr this.2⟩
theorem one_ok {n : Int} {c : Nat} {s : Src} (h : srcOK c s) (hc : c ≤ 90000) : ∃ r, s_l00Src_one_9f69_F n s = some r ∧ srcOK (c + 2) r.2 := by
  unfold s_l00Src_one_9f69_F s_l00Src_one_9f69
  exact Fine.run (Fine.mat (pick_ok h hc) fun x hx => .ret hx.2)
theorem kind_ok {c : Nat} {s : Src} (h : srcOK c s) (hc : c ≤ 90000) : ∃ r, s_l00Src_among_e38a_F s [1, 1, 1, 1, 1, 2, 2, 2, 2, 2, 2, 3, 4, 5, 6, 7, 8, 1, 2, 2] = some r ∧ ((1 ≤ r.1 ∧ r.1 ≤ 8) ∧ srcOK (c + 2) r.2) := by
  unfold s_l00Src_among_e38a_F s_l00Src_among_e38a
  refine Fine.run (Fine.mat (pick_ok h hc) fun x hx => Fine.ite ⟨hx.1.1, ?_⟩ fun hi => Fine.at hi fun y hy => .ret ⟨?_, hx.2⟩)
  · have h1 := hx.1.2
    simp only [List.length_cons, List.length_nil] at h1 ⊢
    omega
  · have : ∀ y ∈ ([1, 1, 1, 1, 1, 2, 2, 2, 2, 2, 2, 3, 4, 5, 6, 7, 8, 1, 2, 2] : List Int), 1 ≤ y ∧ y ≤ 8 := by decide
    exact this y hy
theorem inP_of {m : Nat} (hm : m ≤ 6) {x : Int} (h0 : 0 ≤ x) (h : x = 0 ∨ x < ishl .i64 1 (iwrap .u64 (m : Int))) : inP (m : Int) x = true := by
  rw [iwrap_u64 (by omega) (by omega), show (1 : Int) = ((1 : Nat) : Int) from rfl, ishl_nat (by omega) (by have := pow_le (b := m) (c := 6) hm; omega)] at h
  unfold inP
  rw [top1_nat (by omega), inR_iff]
  have := Nat.two_pow_pos m
  rw [Nat.one_mul] at h
  omega
theorem draw_data {m b : Nat} (hm : m ≤ 4) (hb : b ≤ 6) (w : Int × Int × Unit) : ∀ (n i : Nat) {c : Nat} {s : Src} {l : List Int}, i + n = m → srcOK c s → c + 2 * n ≤ 90000 → l.length = i → l.all (inP (b : Int)) = true →
    ∃ r : Src × Int × Int × List Int × Int × Int × Unit, loopF s_l08Drawn_6913_l6 ((i : Int), s, (m : Int), (b : Int), l, w) = some r ∧ (r.2.1 = (m : Int) ∧ r.2.2.1 = (b : Int) ∧ r.2.2.2.1.length = m ∧ r.2.2.2.1.all (inP (b : Int)) = true ∧ r.2.2.2.2 = w) := by
  intro n
  induction n with
  | zero =>
    intro i c s l hi hs _ hl ha
    refine ⟨(s, (m : Int), (b : Int), l, w), loopF_done ?_, rfl, rfl, by show l.length = m; omega, ha, rfl⟩
    unfold s_l08Drawn_6913_l6
    rw [Tre.run_cond, decide_eq_false (by show ¬ (i : Int) < (m : Int); omega), cond_false, Tre.run_ret]
  | succ n ih =>
    intro i c s l hi hs hc hl ha
    obtain ⟨r, hr, ⟨hr0, hr1⟩, hr2⟩ := pick_ok (n := ishl .i64 1 (iwrap .u64 (b : Int))) hs (by omega)
    have hstep : (s_l08Drawn_6913_l6 ((i : Int), s, (m : Int), (b : Int), l, w)).run some = some (.inl (((i + 1 : Nat) : Int), r.2, (m : Int), (b : Int), l ++ [r.1], w)) := by
      unfold s_l08Drawn_6913_l6
      rw [Tre.run_cond, decide_eq_true (by show (i : Int) < (m : Int); omega), cond_true, Tre.run_ite, if_pos (iwrap_u64_nonneg _)]
      dsimp only
      rw [run_some_mat hr, Tre.run_ite, if_pos (by unfold appendMax; omega), Tre.run_ret, iwrap_succ (by omega)]
    rw [loopF_step hstep]
    exact ih (i + 1) (by omega) hr2 (by omega) (by simp; omega) (by rw [List.all_append, ha, List.all_cons, inP_of hb hr0 hr1]; rfl)
theorem gather_ok {code : List Int} (hl : code.length ≤ 3000) (hc : ∀ x ∈ code, 0 ≤ x ∧ x ≤ 255) : ∃ r, s_A2Gather_F code = some r ∧ isG (r.1, r.2.1, r.2.2.2, r.2.2.1) = true := by
  have h0 : srcOK 0 (code, 0, 0, ()) := ⟨hl, hc, Int.le_refl _, Int.le_refl _⟩
  unfold s_A2Gather_F s_A2Gather
  refine Fine.run (Fine.mat (P := fun r => isG (r.1, r.2.1, r.2.2.2.2, r.2.2.1) = true) ?_ fun r hr => .ret hr)
  unfold s_l08Drawn_6913_F s_l08Drawn_6913
  refine Fine.run (Fine.mat (pick_ok h0 (by omega)) fun a ha => Fine.mat (pick_ok ha.2 (by omega)) fun b hb => Fine.mat (pick_ok hb.2 (by omega)) fun c hc => Fine.mat (pick_ok hc.2 (by omega)) fun d hd => Fine.mat (one_ok hd.2 (by omega)) fun e he => ?_)
  have w1 : iwrap .i64 (1 + d.1) = 1 + d.1 := iwrap_i64 (by omega) (by omega)
  have w2 : iwrap .i64 (1 + a.1) = 1 + a.1 := iwrap_i64 (by omega) (by omega)
  have w3 : iwrap .i64 (1 + b.1) = 1 + b.1 := iwrap_i64 (by omega) (by omega)
  have fin : ∀ (m k : Nat), 1 ≤ m → m ≤ 4 → 1 ≤ k → k ≤ 6 → Fine (Tre.mat (loopF s_l08Drawn_6913_l6 (0, e.2, (m : Int), (k : Int), [], c.1, iwrap .i64 (1 + d.1), ())) fun l8 => (Tre.ret (l8.2.1, l8.2.2.1, l8.2.2.2.2, l8.1, l8.2.2.2.1))) (fun r => isG (r.1, r.2.1, r.2.2.2.2, r.2.2.1) = true) := by
    intro m k h1 h2 h3 h4
    refine Fine.mat (draw_data h2 h4 (c.1, iwrap .i64 (1 + d.1), ()) m 0 (by omega) he (by omega) rfl rfl) fun r hr => .ret ?_
    obtain ⟨e1, e2, e3, e4, e5⟩ := hr
    show isG (r.2.1, r.2.2.1, r.2.2.2.1, r.2.2.2.2) = true
    rw [e1, e2, e5, w1]
    unfold isG
    simp only [Bool.and_eq_true, inR_iff, decide_eq_true_eq, e4, and_true]
    omega
  refine Fine.cond (fun _ => fin 4 6 (by omega) (by omega) (by omega) (by omega)) (fun _ => ?_)
  have := fin (1 + a.1.toNat) (1 + b.1.toNat) (by omega) (by omega) (by omega) (by omega)
  rw [show ((1 + a.1.toNat : Nat) : Int) = iwrap .i64 (1 + a.1) from by omega, show ((1 + b.1.toNat : Nat) : Int) = iwrap .i64 (1 + b.1) from by omega] at this
  exact this
theorem wire_n {n : Nat} {r : Int} (hn : n ≤ 12) (h0 : 0 ≤ r) (h1 : r = 0 ∨ r < 12) : 0 ≤ iwrap .i64 ((n : Int) + iwrap .i64 (Int.tdiv r 11)) ∧ iwrap .i64 ((n : Int) + iwrap .i64 (Int.tdiv r 11)) ≤ 13 := by
  have h : 0 ≤ Int.tdiv r 11 ∧ Int.tdiv r 11 ≤ 1 := by
    rw [Int.tdiv_eq_ediv_of_nonneg h0]; omega
  rw [iwrap_i64 (n := Int.tdiv r 11) (by omega) (by omega), iwrap_i64 (by omega) (by omega)]
  omega
theorem shl_n {n : Nat} (hn : n ≤ 10) : 1 ≤ ishl .i64 1 (iwrap .u64 (n : Int)) ∧ ishl .i64 1 (iwrap .u64 (n : Int)) ≤ 1024 := by
  have h := pow_le (b := n) (c := 10) hn
  have h2 := Nat.two_pow_pos n
  rw [iwrap_u64 (by omega) (by omega), show (1 : Int) = ((1 : Nat) : Int) from rfl, ishl_nat (by omega) (by omega)]
  omega
theorem vDeed_of {k a b c : Int} (hk : 1 ≤ k ∧ k ≤ 8) (ha : 0 ≤ a ∧ a ≤ 9999) (hb : 0 ≤ b ∧ b ≤ 9999) (hc : 0 ≤ c ∧ c ≤ 9999) (h1 : k = 1 ∨ k = 5 ∨ b = 0) (h2 : k = 1 ∨ c = 0) : vDeed (k, a, b, c, ()) = true := by
  unfold vDeed
  simp only [Bool.and_eq_true, Bool.or_eq_true, inR_iff, decide_eq_true_eq]
  exact ⟨⟨⟨⟨⟨hk, ha⟩, hb⟩, hc⟩, by omega⟩, h2⟩
theorem max_n {n : Int} (h : 1 ≤ n ∧ n ≤ 100) : s_l00Max_S (iwrap .i64 (n - 1)) 1 ≤ 100 := by
  unfold s_l00Max_S
  rw [iwrap_i64 (by omega) (by omega)]
  cases decide (n - 1 > 1)
  · rw [cond_false]; omega
  · rw [cond_true]; omega
theorem wrap1 {r : Int} (h0 : 0 ≤ r) (h1 : r ≤ 1000) : iwrap .i64 (1 + r) = 1 + r := iwrap_i64 (by omega) (by omega)
theorem wrapm {r : Int} (h0 : 0 ≤ r) (h1 : r ≤ 10000) : iwrap .i64 (r - 1) = r - 1 := iwrap_i64 (by omega) (by omega)
theorem pickw_ok {n : Nat} {r : Int} {c : Nat} {s : Src} (hn : n ≤ 12) (h0 : 0 ≤ r) (h1 : r = 0 ∨ r < 12) (h : srcOK c s) (hc : c ≤ 90000) : ∃ x, s_l00Src_pick_9f69_F (iwrap .i64 ((n : Int) + iwrap .i64 (Int.tdiv r 11))) s = some x ∧ ((0 ≤ x.1 ∧ x.1 ≤ 13) ∧ srcOK (c + 2) x.2) := by
  obtain ⟨x, e, h2, h3⟩ := pick_ok (n := iwrap .i64 ((n : Int) + iwrap .i64 (Int.tdiv r 11))) h hc
  have := wire_n hn h0 h1
  exact ⟨x, e, by omega, h3⟩
theorem picks_ok {n : Nat} {c : Nat} {s : Src} (hn : n ≤ 10) (h : srcOK c s) (hc : c ≤ 90000) : ∃ x, s_l00Src_pick_9f69_F (ishl .i64 1 (iwrap .u64 (n : Int))) s = some x ∧ ((0 ≤ x.1 ∧ x.1 ≤ 1023) ∧ srcOK (c + 2) x.2) := by
  obtain ⟨x, e, h2, h3⟩ := pick_ok (n := ishl .i64 1 (iwrap .u64 (n : Int))) h hc
  have := shl_n hn
  exact ⟨x, e, by omega, h3⟩
theorem pickm_ok {n : Int} {c : Nat} {s : Src} (hn : 1 ≤ n ∧ n ≤ 100) (h : srcOK c s) (hc : c ≤ 90000) : ∃ x, s_l00Src_pick_9f69_F (s_l00Max_S (iwrap .i64 (n - 1)) 1) s = some x ∧ ((0 ≤ x.1 ∧ x.1 ≤ 100) ∧ srcOK (c + 2) x.2) := by
  obtain ⟨x, e, h2, h3⟩ := pick_ok (n := s_l00Max_S (iwrap .i64 (n - 1)) 1) h hc
  have := max_n hn
  exact ⟨x, e, by omega, h3⟩
def Drawn (g : G8) (clean : Bool) (c : Nat) (k : Int) (l : List D8) (p : P8) (o : (Int × Src × List D8 × (P8 × Unit)) ⊕ (Src × List D8)) : Prop :=
  ∃ s' d, o = .inl (iwrap .i64 (k - 1), s', l ++ [d], ((doM g d p).2, ())) ∧ srcOK (c + 30) s' ∧ vDeed d = true ∧ (clean = true → d.1 ≠ 5)
theorem deeds_leaf {g : G8} {clean : Bool} {c c' : Nat} {k : Int} {s' : Src} {l : List D8} {p : P8} {m : Nat} (hg : isG g = true) (hl : l.length ≤ 1000) (hm : m ≤ 1000) (hp : okP m g p = true) {kk a b e : Int}
    (hs : srcOK c' s') (hc : c' ≤ c + 30) (hk : 1 ≤ kk ∧ kk ≤ 8) (ha : 0 ≤ a ∧ a ≤ 9999) (hb : 0 ≤ b ∧ b ≤ 9999) (he : 0 ≤ e ∧ e ≤ 9999) (h1 : kk = 1 ∨ kk = 5 ∨ b = 0) (h2 : kk = 1 ∨ e = 0) (h5 : clean = true → kk ≠ 5) :
    Fine (.ite ((l.length + 1) * 32 ≤ appendMax ∧ 1 ≤ 32) <| .mat (doR (kk, (a, (b, (e, ())))) (p, ()) g) fun r => .ret (.inl (iwrap .i64 (k - 1), s', l ++ [(kk, (a, (b, (e, ()))))], r.2))) (Drawn g clean c k l p) := by
  have hd := vDeed_of hk ha hb he h1 h2
  refine Fine.ite (by unfold appendMax; omega) fun _ => Fine.get (show doR (kk, a, b, e, ()) (p, ()) g = some _ from askO_true (by rw [Bool.and_eq_true, Bool.and_eq_true]; exact ⟨⟨hg, hd⟩, okP_mono hp hm⟩)) (.ret ?_)
  exact ⟨s', (kk, a, b, e, ()), rfl, hs.mono hc, hd, h5⟩
set_option maxHeartbeats 4000000 in
theorem deeds_step {g : G8} {clean : Bool} {count : Int} (hg : isG g = true) (hcount : count = statG g) {c : Nat} {k : Int} {s : Src} {l : List D8} {p : P8} (hk : 0 < k) (hs : srcOK c s) (hc : c ≤ 50000) (hl : l.length ≤ 1000) {m : Nat} (hm : m ≤ 1000) (hp : okP m g p = true) (hlen : lenP p) :
    Fine (s_l08Deeds_ad92_l5 clean count g (k, s, l, (p, ()))) (Drawn g clean c k l p) := by
  have hb := isG_spec hg
  have hst : statG g = 1 + g.2.2.2.1 + g.2.2.2.2.1 := rfl
  obtain ⟨q1, _, q3, _⟩ := okP_spec hp
  have hcols := (colsG_le hg).1
  have hcount2 : 1 ≤ count ∧ count ≤ 100 := by omega
  have hlen2 : ∀ s ∈ p.1, s.1.length ≤ 10 ∧ s.2.1.length ≤ 10 := hlen
  unfold s_l08Deeds_ad92_l5
  rw [cols_S hg]
  dsimp only
  refine Fine.condp (fun _ => Fine.mat (kind_ok hs (by omega)) fun r5 hr5 => ?_) (fun h => absurd hk h)
  obtain ⟨hr5, hs5⟩ := hr5
  cases clean
  all_goals
    repeat' first
      | with_reducible refine Fine.condp (fun _ => ?_) (fun _ => ?_)
      | (with_reducible refine Fine.mat (pickw_ok q3 (by omega) (by omega) (by assumption) (by omega)) (fun r hr => ?_); obtain ⟨hr1, hr2⟩ := hr)
      | (with_reducible refine Fine.mat (picks_ok (by omega) (by assumption) (by omega)) (fun r hr => ?_); obtain ⟨hr1, hr2⟩ := hr)
      | (with_reducible refine Fine.mat (pickm_ok hcount2 (by assumption) (by omega)) (fun r hr => ?_); obtain ⟨hr1, hr2⟩ := hr)
      | (with_reducible refine Fine.mat (one_ok (by assumption) (by omega)) (fun r hr => ?_))
      | (with_reducible refine Fine.mat (pick_ok (by assumption) (by omega)) (fun r hr => ?_); obtain ⟨hr1, hr2⟩ := hr)
      | (with_reducible refine Fine.at ⟨by omega, by omega⟩ (fun x hx => ?_); have hx1 := (hlen2 x hx).1; have hx2 := shl_n hx1)
      | (with_reducible refine Fine.at0 (by omega) (fun x hx => ?_); have hx1 := (hlen2 x hx).1; have hx2 := shl_n hx1)
      | (with_reducible refine Fine.ite (iwrap_u64_nonneg _) (fun _ => ?_))
      | with_reducible refine deeds_leaf hg hl hm hp (by assumption) (by omega) (by omega) (by omega) (by first | omega | (rw [wrap1 (by omega) (by omega)]; omega)) (by first | omega | (rw [wrapm (by omega) (by omega)]; omega)) (by omega) (by omega) (by first | (intro _; omega) | (intro h; cases h))
      | (with_reducible refine Fine.ite ⟨by omega, by omega⟩ (fun _ => ?_))
      | ((with_reducible refine Fine.cond (fun h => ?_) (fun h => ?_)) <;> (try exact Bool.noConfusion h))
      | (exfalso; omega)
theorem deeds_loop {g : G8} {clean : Bool} (hg : isG g = true) : ∀ (n : Nat) {c : Nat} {s : Src} {l : List D8} {p : P8} {m : Nat}, srcOK c s → c + 30 * n ≤ 50000 → l.length + n ≤ 1000 → m + n ≤ 1000 → okP m g p = true → lenP p → l.all vDeed = true → (clean = true → ∀ d ∈ l, d.1 ≠ 5) →
    ∃ r : Src × List D8, loopF (s_l08Deeds_ad92_l5 clean (statG g) g) ((n : Int), s, l, (p, ())) = some r ∧ (r.2.all vDeed = true ∧ r.2.length = l.length + n ∧ (clean = true → ∀ d ∈ r.2, d.1 ≠ 5)) := by
  intro n
  induction n with
  | zero =>
    intro c s l p m hs _ _ _ hp hq hl hk
    refine ⟨(s, l), loopF_done ?_, hl, rfl, hk⟩
    unfold s_l08Deeds_ad92_l5
    rw [Tre.run_cond, decide_eq_false (by show ¬ ((0 : Nat) : Int) > 0; omega), cond_false, Tre.run_ret]
  | succ n ih =>
    intro c s l p m hs hc hl hm hp hq hv hk
    obtain ⟨o, ho, s', d, rfl, h1, h2, h3⟩ := deeds_step (clean := clean) (k := ((n + 1 : Nat) : Int)) (l := l) hg rfl (by omega) hs (by omega) (by omega) (by omega) hp hq
    rw [wrapm (by omega) (by omega), show ((n + 1 : Nat) : Int) - 1 = (n : Int) by omega] at ho
    rw [loopF_step ho]
    obtain ⟨r, e, r1, r2, r3⟩ := ih (l := l ++ [d]) h1 (by omega) (by simp; omega) (by omega) (doM_ok hg h2 hp) (do_len hg (by omega) hp hq) (by rw [List.all_append, hv, List.all_cons, h2]; rfl) (fun hc x hx => by
      rcases List.mem_append.1 hx with hx | hx
      · exact hk hc x hx
      · simp only [List.mem_singleton] at hx; subst hx; exact h3 hc)
    exact ⟨r, e, r1, by rw [r2]; simp; omega, r3⟩
theorem deeds_ok {g : G8} (hg : isG g = true) (clean : Bool) {more : List Int} (hl : more.length ≤ 3000) (hc : ∀ x ∈ more, 0 ≤ x ∧ x ≤ 255) : ∃ r, s_A2Deeds_F more g clean = some r ∧ (r.all vDeed = true ∧ r.length ≤ 30 ∧ (clean = true → ∀ d ∈ r, d.1 ≠ 5)) := by
  have h0 : srcOK 0 (more, 0, 0, ()) := ⟨hl, hc, Int.le_refl _, Int.le_refl _⟩
  have hb := isG_spec hg
  have hst : statG g = 1 + g.2.2.2.1 + g.2.2.2.2.1 := rfl
  have w1 : iwrap .i64 (1 + g.2.2.2.1) = 1 + g.2.2.2.1 := iwrap_i64 (by omega) (by omega)
  have w2 : iwrap .i64 (iwrap .i64 (1 + g.2.2.2.1) + g.2.2.2.2.1) = statG g := by rw [w1, hst]; exact iwrap_i64 (by omega) (by omega)
  unfold s_A2Deeds_F s_A2Deeds
  refine Fine.run (Fine.mat (P := fun r => r.2.all vDeed = true ∧ r.2.length ≤ 30 ∧ (clean = true → ∀ d ∈ r.2, d.1 ≠ 5)) ?_ fun r hr => .ret hr)
  unfold s_l08Deeds_ad92_F s_l08Deeds_ad92
  refine Fine.run (Fine.get (show beginR g = some (beginM g, ()) from askO_true hg) ?_)
  dsimp only
  rw [w2]
  refine Fine.mat (pick_ok (n := iwrap .i64 (30 + 1)) h0 (by omega)) fun r hr => ?_
  obtain ⟨⟨hr0, hr1⟩, hr2⟩ := hr
  have w3 : iwrap .i64 (30 + 1) = 31 := by decide
  rw [w3] at hr1
  obtain ⟨n, hn⟩ := Int.eq_ofNat_of_zero_le hr0
  rw [hn]
  refine Fine.mat (deeds_loop (clean := clean) hg n hr2 (by omega) (by simp; omega) (by omega) (beginM_ok hg) (begin_len hg) rfl (fun _ d hd => by cases hd)) fun x hx => .ret ?_
  refine ⟨hx.1, ?_, hx.2.2⟩
  rw [hx.2.1]; simp; omega
theorem bytes_of {xs : List Int} (h : (K.sl (.int .u8)).wf xs) : ∀ x ∈ xs, 0 ≤ x ∧ x ≤ 255 := fun x hx => by
  have h1 : (Lit.int .u8 x).wf = true := h.2 x hx
  simp [Lit.wf, IntKind.min, IntKind.max, IntKind.signed, IntKind.bits] at h1
  omega
theorem long_no {a b : List Int} (h : l_a2Long_S a b = false) : a.length ≤ 3000 ∧ b.length ≤ 3000 := by
  unfold l_a2Long_S at h
  by_cases h1 : (a.length : Int) > 3000
  · rw [decide_eq_true h1] at h; cases h
  · rw [decide_eq_false h1, cond_false] at h
    have := of_decide_eq_false h
    omega
end Go.Proofs.Ytddaclhjnkimfaa

namespace Go.Proofs.Ytddaclhjnkimfaa
open Go Go.Abs Go.Proofs
-- shared
def srcN (g : G8) : List Nat := (srcL g).map Int.toNat
def datN (g : G8) : List Nat := g.2.2.1.map Int.toNat
structure SrcOK (g : G8) (N L : Nat) : Prop where
  n : g.1 = (N : Int)
  l : g.2.1 = (L : Int)
  n1 : 1 ≤ N ∧ N ≤ 4
  l1 : 1 ≤ L ∧ L ≤ 6
  src : srcL g = up (srcN g)
  dat : g.2.2.1 = up (datN g)
  heads : Heads N (srcN g)
  tails : (srcN g).map (· >>> N) = datN g
  small : ∀ x ∈ datN g, x < 2 ^ L
  big : ∀ x ∈ srcN g, x < 2 ^ (N + L)
theorem srcL_at (g : G8) (j : Nat) : (srcL g)[j]? = (g.2.2.1[j]?).map fun x => ior .i64 (ishl .i64 1 (j : Int)) (ishl .i64 x g.1) := by
  have key : ∀ (l : List Int) (i : Nat) (acc : List Int), ∃ t : List Int, foldE (β := List Int) (fun (i : Nat) acc x => .inl (acc ++ [ior .i64 (ishl .i64 1 (i : Int)) (ishl .i64 x g.1)])) id i acc l = acc ++ t ∧ ∀ j : Nat, t[j]? = (l[j]?).map fun x => ior .i64 (ishl .i64 1 ((i + j : Nat) : Int)) (ishl .i64 x g.1) := by
    intro l
    induction l with
    | nil => intro i acc; exact ⟨[], by simp [foldE], fun j => by simp⟩
    | cons x l ih =>
      intro i acc
      obtain ⟨t, h1, h2⟩ := ih (i + 1) (acc ++ [ior .i64 (ishl .i64 1 (i : Int)) (ishl .i64 x g.1)])
      refine ⟨ior .i64 (ishl .i64 1 (i : Int)) (ishl .i64 x g.1) :: t, by simp only [foldE]; rw [h1]; simp, fun j => ?_⟩
      cases j with
      | zero => simp
      | succ j => rw [List.getElem?_cons_succ, List.getElem?_cons_succ, h2 j, show i + 1 + j = i + (j + 1) by omega]
  obtain ⟨t, h1, h2⟩ := key g.2.2.1 0 []
  have h3 : srcL g = [] ++ t := h1
  rw [h3, List.nil_append, h2 j, Nat.zero_add]
theorem up_of {xs : List Int} (h : ∀ x ∈ xs, 0 ≤ x) : xs = up (xs.map Int.toNat) := by
  unfold up
  rw [List.map_map]
  refine ((List.map_congr_left fun x hx => ?_).trans (List.map_id _)).symm
  have := h x hx
  simp only [Function.comp_apply, id_eq]
  omega
theorem row_num {N L i n : Nat} (hi : i < N) (hn : n < 2 ^ L) (hN : N ≤ 4) (hL : L ≤ 6) : ior .i64 (ishl .i64 1 (i : Int)) (ishl .i64 (n : Int) (N : Int)) = ((2 ^ i ||| n * 2 ^ N : Nat) : Int) ∧ (2 ^ i ||| n * 2 ^ N) &&& (2 ^ N - 1) = 2 ^ i ∧ (2 ^ i ||| n * 2 ^ N) >>> N = n ∧ 2 ^ i ||| n * 2 ^ N < 2 ^ (N + L) := by
  have p1 := pow_le (b := i) (c := 4) (by omega)
  have p3 : 2 ^ (N + L) ≤ 2 ^ 10 := pow_le (by omega)
  have p4 : n * 2 ^ N < 2 ^ (N + L) := by
    rw [Nat.pow_add, Nat.mul_comm (2 ^ N)]
    exact Nat.mul_lt_mul_of_pos_right hn (Nat.two_pow_pos N)
  have p5 : 2 ^ i < 2 ^ (N + L) := Nat.pow_lt_pow_right (by decide) (by omega)
  have e1 : ishl .i64 1 (i : Int) = ((1 * 2 ^ i : Nat) : Int) := ishl_nat (a := 1) (by omega) (by omega)
  have e2 : ishl .i64 (n : Int) (N : Int) = ((n * 2 ^ N : Nat) : Int) := ishl_nat (by omega) (by omega)
  refine ⟨?_, ?_, ?_, Nat.or_lt_two_pow p5 p4⟩
  · rw [e1, e2, ior_nat (by omega) (by omega), Nat.one_mul]
  · refine Nat.eq_of_testBit_eq fun q => ?_
    rw [Nat.testBit_and, Nat.testBit_or, Nat.testBit_two_pow_sub_one, Nat.testBit_two_pow, Nat.testBit_mul_two_pow]
    by_cases hq : q < N
    · simp [hq, Nat.not_le.2 hq]
    · simp [hq]; omega
  · refine Nat.eq_of_testBit_eq fun q => ?_
    rw [Nat.testBit_shiftRight, Nat.testBit_or, Nat.testBit_two_pow, Nat.testBit_mul_two_pow]
    simp
    omega
theorem src_ok {g : G8} (hg : isG g = true) : ∃ N L : Nat, SrcOK g N L := by
  have hb := isG_spec hg
  obtain ⟨N, hN⟩ := Int.eq_ofNat_of_zero_le (show 0 ≤ g.1 by omega)
  obtain ⟨L, hL⟩ := Int.eq_ofNat_of_zero_le (show 0 ≤ g.2.1 by omega)
  have hall : ∀ x ∈ g.2.2.1, ∃ n : Nat, x = (n : Int) ∧ n < 2 ^ L := fun x hx => by
    unfold isG at hg
    simp only [Bool.and_eq_true] at hg
    have := List.all_eq_true.1 hg.1.1.2 x hx
    rw [hL] at this
    exact inP_nat (by omega) this
  have hat : ∀ (i : Nat) (y : Int), (srcL g)[i]? = some y → ∃ n : Nat, g.2.2.1[i]? = some (n : Int) ∧ i < N ∧ n < 2 ^ L ∧ y = ((2 ^ i ||| n * 2 ^ N : Nat) : Int) := fun i y hy => by
    rw [srcL_at] at hy
    cases hx : g.2.2.1[i]? with
    | none => rw [hx] at hy; cases hy
    | some x =>
      rw [hx, Option.map_some, Option.some.injEq] at hy
      obtain ⟨n, rfl, hn⟩ := hall x (List.mem_of_getElem? hx)
      have hi := (List.getElem?_eq_some_iff.1 hx).1
      have hiN : i < N := by omega
      exact ⟨n, rfl, hiN, hn, by rw [← hy, hN]; exact (row_num hiN hn (by omega) (by omega)).1⟩
  have hsrc : srcL g = up (srcN g) := up_of fun y hy => by
    obtain ⟨i, hi⟩ := List.getElem?_of_mem hy
    obtain ⟨n, _, _, _, rfl⟩ := hat i y hi
    exact Int.natCast_nonneg _
  have hdat : g.2.2.1 = up (datN g) := up_of fun y hy => by
    obtain ⟨n, rfl, _⟩ := hall y hy
    exact Int.natCast_nonneg _
  have hatN : ∀ (i y : Nat), (srcN g)[i]? = some y → ∃ n : Nat, g.2.2.1[i]? = some (n : Int) ∧ i < N ∧ n < 2 ^ L ∧ y = 2 ^ i ||| n * 2 ^ N := fun i y hy => by
    have h1 : (srcL g)[i]? = some (y : Int) := by rw [hsrc]; exact up_at hy
    obtain ⟨n, a, b, c, d⟩ := hat i y h1
    exact ⟨n, a, b, c, by omega⟩
  have hlen : (srcN g).length = N := by unfold srcN; rw [List.length_map, srcL_len]; omega
  refine ⟨N, L, hN, hL, by omega, by omega, hsrc, hdat, ⟨hlen, fun i x hx => ?_⟩, ?_, ?_, ?_⟩
  · obtain ⟨n, _, hi, hn, rfl⟩ := hatN i x hx
    exact (row_num hi hn (by omega) (by omega)).2.1
  · refine List.ext_getElem? fun i => ?_
    rw [List.getElem?_map]
    unfold datN
    rw [List.getElem?_map]
    cases hx : (srcN g)[i]? with
    | none =>
      have h1 := List.getElem?_eq_none_iff.1 hx
      rw [List.getElem?_eq_none_iff.2 (show g.2.2.1.length ≤ i by omega)]
      rfl
    | some x =>
      obtain ⟨n, ha, hi, hn, rfl⟩ := hatN i x hx
      rw [ha, Option.map_some, Option.map_some, (row_num hi hn (by omega) (by omega)).2.2.1, Int.toNat_natCast]
  · intro x hx
    obtain ⟨y, hy, rfl⟩ := List.mem_map.1 hx
    obtain ⟨n, rfl, hn⟩ := hall y hy
    exact hn
  · intro x hx
    obtain ⟨i, hix⟩ := List.getElem?_of_mem hx
    obtain ⟨n, _, hi, hn, rfl⟩ := hatN i x hix
    exact (row_num hi hn (by omega) (by omega)).2.2.2
def inS (g : G8) (x : Int) : Prop := ∃ n : Nat, x = (n : Int) ∧ Sp (srcN g) n
def MixS (g : G8) (xs : List Int) : Prop := (∀ x ∈ xs, inS g x) ∧ (echI xs).length = xs.length
def MixP (g : G8) (p : P8) : Prop := (∀ s ∈ p.1, MixS g s.1 ∧ MixS g s.2.1) ∧ ∀ x ∈ p.2.1, inS g x.2.1
theorem mix_nil (g : G8) : MixS g [] := ⟨fun x hx => (by cases hx), by
  unfold echI
  rw [up_len, List.map_nil, ech_of (ech_zeros (rows := []) fun r hr => by cases hr)]
  rfl⟩
theorem mix_rows {g : G8} {xs : List Int} (h : MixS g xs) : ∃ ns : List Nat, xs = up ns ∧ xs.map Int.toNat = ns ∧ ∀ n ∈ ns, Sp (srcN g) n := by
  have h0 : xs = up (xs.map Int.toNat) := up_of fun x hx => by obtain ⟨n, rfl, _⟩ := h.1 x hx; exact Int.natCast_nonneg _
  refine ⟨_, h0, rfl, fun n hn => ?_⟩
  obtain ⟨x, hx, rfl⟩ := List.mem_map.1 hn
  obtain ⟨m, rfl, hm⟩ := h.1 x hx
  exact hm
theorem begin_mix {g : G8} {N L : Nat} (hS : SrcOK g N L) : MixP g (beginM g) := by
  have hsrc : MixS g (srcL g) := ⟨fun x hx => by
    rw [hS.src] at hx
    obtain ⟨n, hn, rfl⟩ := List.mem_map.1 hx
    exact ⟨n, rfl, .mem hn⟩, by
    unfold echI
    rw [up_len, show (srcL g).map Int.toNat = srcN g from rfl, ech_of hS.heads.ech]
    unfold srcN
    rw [List.length_map]⟩
  refine ⟨fun s hs => ?_, fun x hx => by cases hx⟩
  unfold beginM at hs
  rcases List.mem_cons.1 hs with rfl | hs
  · exact ⟨hsrc, hsrc⟩
  · rw [(List.mem_replicate.1 hs).2]; exact ⟨mix_nil g, mix_nil g⟩
theorem mix_set {g : G8} {st : List (List Int × List Int × Unit)} {w : List (Int × Int × Unit) × Unit} {i : Nat} {x : List Int × List Int × Unit} (h : MixP g (st, w)) (h1 : MixS g x.1) (h2 : MixS g x.2.1) : MixP g (st.set i x, w) := ⟨fun s hs => by
  rcases List.mem_or_eq_of_mem_set hs with hs | rfl
  · exact h.1 s hs
  · exact ⟨h1, h2⟩, h.2⟩
theorem mix_wire {g : G8} {st : List (List Int × List Int × Unit)} {w w' : List (Int × Int × Unit)} (h : MixP g (st, w, ())) (hw : ∀ x ∈ w', x ∈ w) : MixP g (st, w', ()) := ⟨h.1, fun x hx => h.2 x (hw x hx)⟩
theorem come_mix {g : G8} {p : P8} {x : Int × Int × Unit} (h : MixP g p) (hx : inS g x.2.1) : MixP g (comeM x p.1, p.2) := by
  unfold comeM
  cases hs : p.1[x.1.toNat]? with
  | none => exact h
  | some s =>
    simp only
    have hm := h.1 s (List.mem_of_getElem? hs)
    by_cases he : ((echI (s.1 ++ [x.2.1])).length : Int) = ((s.1 ++ [x.2.1]).length : Int)
    · rw [decide_eq_true he, cond_true]
      refine mix_set (w := p.2) h ⟨fun y hy => ?_, Int.ofNat_inj.1 he⟩ hm.2
      rcases List.mem_append.1 hy with hy | hy
      · exact hm.1.1 y hy
      · simp only [List.mem_singleton] at hy; subst hy; exact hx
    · rw [decide_eq_false he]; exact h
theorem times_mix {k : Nat} {g : G8} {xs : List Int} {c : Int} (hg : isG g = true) (hk : okS k (colsG g) xs = true) (h : MixS g xs) (hc : 0 ≤ c ∧ c ≤ 9999) (hl : xs.length ≤ 10) : inS g (timesL c xs) := by
  obtain ⟨ns, rfl, _, hs⟩ := mix_rows h
  obtain ⟨a, rfl⟩ := Int.eq_ofNat_of_zero_le hc.1
  have hcols := (colsG_le hg).1
  rw [up_len] at hl
  rw [timesL_eq (b := colsG g) (by omega) (by omega) (by omega) (fun n hn => by
    have := (okS_spec.1 hk).2 (n : Int) (List.mem_map.2 ⟨n, hn, rfl⟩)
    obtain ⟨m, e, hm⟩ := okRow_nat.1 this
    have : n = m := by omega
    omega)]
  exact ⟨_, rfl, Sp.trans hs (selN_Sp a ns ns 0 fun x hx => hx)⟩
theorem do_mix {k : Nat} {g : G8} {d : D8} {p : P8} (hg : isG g = true) (hd : vDeed d = true) (h5 : d.1 ≠ 5) (hp : okP k g p = true) (hl : lenP p) (h : MixP g p) : MixP g (doM g d p).2 := by
  obtain ⟨_, _, hc, _⟩ := vDeed_rng hd
  unfold doM
  cases decide (d.1 = 1)
  case true =>
    rw [cond_true]
    unfold sendM
    cases (decide (d.2.1 ≥ (p.1.length : Int)) || (decide (d.2.2.1 ≥ (p.1.length : Int)) || (decide (d.2.1 = d.2.2.1) || decide (d.2.2.1 = 0))))
    case true => exact h
    rw [cond_false]
    cases hs : p.1[d.2.1.toNat]? with
    | none => exact h
    | some s =>
      simp only
      have hm := List.mem_of_getElem? hs
      cases decide (d.2.2.2.1 ≥ ishl .i64 1 (s.1.length : Int))
      case true => exact h
      cases decide (d.2.2.2.1 = 0)
      case true => exact h
      cases decide ((p.2.1.length : Int) = 12)
      case true => exact h
      simp only [cond_false]
      refine ⟨h.1, fun x hx => ?_⟩
      rcases List.mem_append.1 hx with hx | hx
      · exact h.2 x hx
      · simp only [List.mem_singleton] at hx
        subst hx
        exact times_mix hg ((okP_spec hp).2.1 s hm).1 (h.1 s hm).1 hc (hl s hm).1
  rw [cond_false]
  cases inR d.1 2 5
  case true =>
    rw [cond_true]
    unfold wireM
    cases decide (d.2.1 ≥ (p.2.1.length : Int))
    case true => exact h
    rw [cond_false]
    cases hx : p.2.1[d.2.1.toNat]? with
    | none => exact h
    | some x =>
      simp only
      rw [decide_eq_false h5, cond_false]
      have hxm := h.2 x (List.mem_of_getElem? hx)
      have hcut : ∀ y ∈ (cond (decide (d.1 = 3)) p.2.1 (p.2.1.take d.2.1.toNat ++ p.2.1.drop (d.2.1.toNat + 1))), y ∈ p.2.1 := fun y hy => by
        cases hc3 : decide (d.1 = 3)
        · rw [hc3, cond_false] at hy
          rcases List.mem_append.1 hy with hy | hy
          · exact List.mem_of_mem_take hy
          · exact List.mem_of_mem_drop hy
        · rw [hc3, cond_true] at hy; exact hy
      cases decide (d.1 = 4)
      · exact mix_wire (come_mix h hxm) hcut
      · exact mix_wire (st := p.1) (w := p.2.1) h hcut
  rw [cond_false]
  cases decide (d.2.1 ≥ (p.1.length : Int))
  case true => exact h
  rw [cond_false]
  cases hs : p.1[d.2.1.toNat]? with
  | none => exact h
  | some s =>
    simp only
    have hm := h.1 s (List.mem_of_getElem? hs)
    cases decide (d.1 = 6)
    · cases decide (d.1 = 7)
      · exact mix_set (w := p.2) h (mix_nil g) hm.2
      · exact mix_set (w := p.2) h hm.2 hm.2
    · exact mix_set (w := p.2) h hm.1 hm.1
theorem run_mix {g : G8} (hg : isG g = true) : ∀ (l : List D8) {k : Nat} {p : P8}, l.all vDeed = true → (∀ d ∈ l, d.1 ≠ 5) → k + l.length ≤ 1000 → okP k g p = true → lenP p → MixP g p → lenP (runM g l p).1 ∧ MixP g (runM g l p).1 := by
  intro l
  induction l with
  | nil => intro k p _ _ _ _ hl h; exact ⟨hl, h⟩
  | cons d l ih =>
    intro k p hd h5 hk hp hl h
    simp only [List.all_cons, Bool.and_eq_true] at hd
    simp only [List.length_cons] at hk
    exact ih (k := k + 1) hd.2 (fun x hx => h5 x (.tail _ hx)) (by omega) (doM_ok hg hd.1 hp) (do_len hg (by omega) hp hl) (do_mix hg hd.1 (h5 d (.head _)) hp hl h)
theorem heads_map {g : G8} {N : Nat} {ns : List Nat} (hN : g.1 = (N : Int)) (hn4 : N ≤ 4) (hb : ∀ n ∈ ns, n < 2 ^ 62) : ((up ns).map (headW g)).map Int.toNat = ns.map (· &&& (2 ^ N - 1)) := by
  unfold up
  rw [List.map_map, List.map_map]
  refine List.map_congr_left fun n hn => ?_
  have h1 := hb n hn
  have h2 : 2 ^ N ≤ 2 ^ 62 := pow_le (by omega)
  simp only [Function.comp_apply]
  unfold headW
  rw [hN, top1_nat (by omega), iand_nat (by omega) (by omega), Int.toNat_natCast]
theorem mix_rank {k : Nat} {g : G8} {N L : Nat} {xs : List Int} (hg : isG g = true) (hS : SrcOK g N L) (hk : okS k (colsG g) xs = true) (hk2 : k ≤ 1000) (h : MixS g xs) : rankM g xs = (xs.length : Int) ∧ xs.length ≤ N := by
  have hcols := (colsG_le hg).1
  have hr : okRows 62 xs = true := okS_rows hk (by omega) (by omega)
  have hb := isG_spec hg
  have hh := heads_ok (g := g) (by omega) hr
  have h1 := ech_is (Nat.le_refl 62) hr
  have h2 := ech_is (Nat.le_refl 62) hh.2
  obtain ⟨ns, rfl, he, hs⟩ := mix_rows h
  obtain ⟨ns2, e2, _, hn2, _⟩ := okRows_up hr
  have hns : ns2 = ns := by have := congrArg (·.map Int.toNat) e2; rw [up_toNat, up_toNat] at this; exact this.symm
  subst hns
  rw [heads_map hS.n hS.n1.2 hn2] at h2
  rw [he] at h1
  have h3 := hS.heads.rank hs h1 h2
  have h4 := h.2
  rw [echI_len, he] at h4
  have h5 : (echI ((up ns2).map (headW g))).length = (up ns2).length := by rw [echI_len, heads_map hS.n hS.n1.2 hn2, h3, h4]
  have hN := hS.n1
  have h6 := rank_cols (b := N) (by omega) (by have := hh.1; rw [hS.n, Int.toNat_natCast] at this; exact this)
  unfold rankM
  omega
theorem mix_data {k : Nat} {g : G8} {N L : Nat} {xs : List Int} (hg : isG g = true) (hS : SrcOK g N L) (hk : okS k (colsG g) xs = true) (hk2 : k ≤ 1000) (h : MixS g xs) : datM g xs = cond (decide (xs.length = N)) (0, g.2.2.1) (6, []) := by
  obtain ⟨h1, h2⟩ := mix_rank hg hS hk hk2 h
  have hsp : spoiltM g xs = 0 := by unfold spoiltM; omega
  have hN := hS.n
  unfold datM
  rw [hsp, show iwrap .i64 0 = 0 from by decide, decide_eq_true rfl, cond_true, h1, hN]
  by_cases hl : xs.length = N
  · rw [decide_eq_true hl, decide_eq_false (by omega), cond_true, cond_false]
    have hr : okRows 62 xs = true := okS_rows hk (by omega) (by have := (colsG_le hg).1; omega)
    have h3 := ech_is (Nat.le_refl 62) hr
    have h4 := h.2
    obtain ⟨ns, rfl, he, hs⟩ := mix_rows h
    rw [echI_len] at h4
    rw [he] at h3 h4
    have h5 := hS.heads.full hs h3 (by omega)
    have h6 : echI (up ns) = srcL g := by unfold echI; rw [he, h5, hS.src]
    rw [h6, hS.src]
    have h7 : (up (srcN g)).map (tailW g) = up ((srcN g).map (· >>> N)) := by
      unfold up
      rw [List.map_map, List.map_map]
      refine List.map_congr_left fun n hn => ?_
      simp only [Function.comp_apply]
      unfold tailW
      rw [hN, ishr_nat (by have := hS.n1; omega)]
    rw [h7, hS.tails, ← hS.dat]
  · rw [decide_eq_false hl, decide_eq_true (by omega)]; rfl
theorem mix_miss {k : Nat} {g : G8} {N L : Nat} {xs : List Int} (hg : isG g = true) (hS : SrcOK g N L) (hk : okS k (colsG g) xs = true) (hl : xs.length ≤ 10) (h : MixS g xs) : missV g xs g.2.2.1 = (0, 0) := by
  have hcols := colsG_le hg
  have hb := isG_spec hg
  have hn1 := hS.n1
  have hl1 := hS.l1
  have hps : xs.all (inP (g.1 + g.2.1)) = true := List.all_eq_true.2 fun x hx => by
    obtain ⟨n, rfl, hn⟩ := okRow_nat.1 ((okS_spec.1 hk).2 x hx)
    unfold inP
    rw [← hcols.2, top1_nat (by omega), inR_iff]
    have := Nat.two_pow_pos (colsG g)
    omega
  have hds : g.2.2.1.all (inP g.2.1) = true := by
    unfold isG at hg
    simp only [Bool.and_eq_true] at hg
    exact hg.1.1.2
  unfold missV
  rw [hg, cond_true, decide_eq_false (by omega), cond_false, hps, cond_true, decide_eq_true hb.2.2.2.2.2.2.2.2, cond_true, hds, cond_true]
  have hz : missN xs g.2.2.1 g = 0 := by
    unfold missN
    rw [echI_len, ech_of (ech_zeros fun r hr => ?_)]
    · rfl
    · obtain ⟨y, hy, rfl⟩ := List.mem_map.1 hr
      obtain ⟨x, hx, rfl⟩ := List.mem_map.1 hy
      obtain ⟨n, rfl, hn⟩ := h.1 x hx
      obtain ⟨m, e, hm⟩ := okRow_nat.1 ((okS_spec.1 hk).2 _ hx)
      have hnm : n = m := by omega
      subst hnm
      have hc10 := pow_le (b := colsG g) (c := 10) hcols.1
      have h2N := pow_le (b := N) (c := 4) hn1.2
      have hand : n &&& (2 ^ N - 1) < 2 ^ N := Nat.and_lt_two_pow _ (by have := Nat.two_pow_pos N; omega)
      have hback := hS.heads.back hn
      have hshift : n >>> N = selN (n &&& (2 ^ N - 1)) 0 (datN g) := by
        have h1 := selN_map (f := (· >>> N)) (Nat.zero_shiftRight N) (fun a b => Nat.shiftRight_xor_distrib) (n &&& (2 ^ N - 1)) (srcN g) 0
        rw [hback, hS.tails] at h1
        exact h1
      have hsm : n >>> N < 2 ^ 63 := by rw [Nat.shiftRight_eq_div_pow]; exact Nat.lt_of_le_of_lt (Nat.div_le_self _ _) (by omega)
      have hlen : (datN g).length ≤ 64 := by unfold datN; rw [List.length_map]; omega
      unfold missW
      rw [hS.dat, hS.n, ishr_nat (by omega), top1_nat (by omega), iand_nat (by omega) (by omega), timesL_eq (b := L) (by omega) (by omega) hlen hS.small, ← hshift, ixor_nat hsm hsm, Nat.xor_self]
      rfl
  rw [hz]
end Go.Proofs.Ytddaclhjnkimfaa

namespace Go.Proofs.Ytddaclhjnkimfaa
open Go Go.Abs Go.Proofs
def samePR (p q : List (List Int × List Int × Unit) × List (Int × Int × Unit) × Unit) : Option Bool :=
  askO (decide (p = q) && decide (p.1.length ≤ 1048576) && decide (p.2.1.length ≤ 1048576) && p.1.all (fun x => decide (x.1.length ≤ 1048576) && decide (x.2.1.length ≤ 1048576))) true
theorem none_loop {α : Type} : ∀ (l : List α) (i : Nat), findE (β := Bool ⊕ Unit) (fun _ _ => none) (.inr ()) i l = .inr () := by
  intro l
  induction l with
  | nil => intro i; rfl
  | cons x l ih => intro i; exact ih _
end Go.Proofs.Ytddaclhjnkimfaa

namespace Go.Proofs.Ytddaclhjnkimfaa
open Go Go.Abs Go.Proofs
-- shared
theorem runM_app (g : G8) (d : D8) : ∀ (l : List D8) (p : P8), (runM g (l ++ [d]) p).1 = (doM g d (runM g l p).1).2 := by
  intro l
  induction l with
  | nil => intro p; rfl
  | cons x l ih => intro p; exact ih _
theorem asked_zero {g : G8} {ds : List D8} (hg : isG g = true) (hd : ds.all vDeed = true) (hl : ds.length ≤ 300) : askedM ds g = 0 := by
  unfold askedM
  rw [hg, hd, decide_eq_false (by omega)]
  rfl
theorem plant_of {g : G8} {ds : List D8} (hg : isG g = true) (hd : ds.all vDeed = true) (hl : ds.length ≤ 300) : plantR g ds = some ((zerosN (runM g ds (beginM g)).2 : Int), 0, (afterM g ds).1, (afterM g ds).2.1) := by
  have hb := isG_spec hg
  have : plantR g ds = some (plantM g ds) := askO_true (by rw [Bool.and_eq_true, decide_eq_true_eq, decide_eq_true_eq]; omega)
  rw [this]
  unfold plantM
  rw [decide_eq_true (asked_zero hg hd hl)]
  rfl
theorem same_of {k : Nat} {g : G8} {p q : P8} (hp : okP k g p = true) (hk : k ≤ 1048576) (hg : isG g = true) (h : p = q) : samePR p q = some true := by
  obtain ⟨q1, q2, q3, _⟩ := okP_spec hp
  have hb := isG_spec hg
  have hst : statG g = 1 + g.2.2.2.1 + g.2.2.2.2.1 := rfl
  refine askO_true ?_
  simp only [Bool.and_eq_true, decide_eq_true_eq, List.all_eq_true]
  refine ⟨⟨⟨h, by omega⟩, by omega⟩, fun x hx => ?_⟩
  have h1 := (okS_spec.1 (q2 x hx).1).1
  have h2 := (okS_spec.1 (q2 x hx).2).1
  omega
theorem runM_app2 (g : G8) (d e : D8) (l : List D8) (p : P8) : (runM g (l ++ [d, e]) p).1 = (doM g e (doM g d (runM g l p).1).2).2 := by
  rw [show l ++ [d, e] = (l ++ [d]) ++ [e] from by simp, runM_app, runM_app]
theorem wire_do {g : G8} {p : P8} {i : Nat} {x : Int × Int × Unit} {k b : Int} (hk : k = 2 ∨ k = 3 ∨ k = 4) (hx : p.2.1[i]? = some x) :
    (doM g (k, (i : Int), b, 0, ()) p).2 = (cond (decide (k = 4)) p.1 (comeM x p.1), cond (decide (k = 3)) p.2.1 (p.2.1.take i ++ p.2.1.drop (i + 1)), ()) := by
  have hi : i < p.2.1.length := (List.getElem?_eq_some_iff.1 hx).1
  unfold doM wireM
  have k1 : decide (((k, (i : Int), b, 0, ()) : D8).1 = 1) = false := decide_eq_false (by show ¬ k = 1; omega)
  have k2 : inR ((k, (i : Int), b, 0, ()) : D8).1 2 5 = true := inR_iff.2 (by show 2 ≤ k ∧ k ≤ 5; omega)
  have k3 : decide (((k, (i : Int), b, 0, ()) : D8).2.1 ≥ (p.2.1.length : Int)) = false := decide_eq_false (by show ¬ (i : Int) ≥ _; omega)
  have k4 : decide (((k, (i : Int), b, 0, ()) : D8).1 = 5) = false := decide_eq_false (by show ¬ k = 5; omega)
  rw [k1, k2, k3, cond_false, cond_true, cond_false]
  simp only [Int.toNat_natCast, hx]
  rw [k4, cond_false]
theorem spoil_do {g : G8} {p : P8} {i : Nat} {x : Int × Int × Unit} {m : Int} (hx : p.2.1[i]? = some x) (h0 : m ≠ 0) (h1 : m < ishl .i64 1 (colsG g : Int)) :
    (doM g (5, (i : Int), m, 0, ()) p).2 = (p.1, p.2.1.set i (x.1, ixor .i64 x.2.1 m, ()), ()) := by
  have hi : i < p.2.1.length := (List.getElem?_eq_some_iff.1 hx).1
  unfold doM wireM
  have k1 : decide (((5, (i : Int), m, 0, ()) : D8).1 = 1) = false := rfl
  have k2 : inR ((5, (i : Int), m, 0, ()) : D8).1 2 5 = true := rfl
  have k3 : decide (((5, (i : Int), m, 0, ()) : D8).2.1 ≥ (p.2.1.length : Int)) = false := decide_eq_false (by show ¬ (i : Int) ≥ _; omega)
  have k4 : decide (((5, (i : Int), m, 0, ()) : D8).1 = 5) = true := rfl
  rw [k1, k2, k3, cond_false, cond_true, cond_false]
  simp only [Int.toNat_natCast, hx]
  simp only [decide_true, cond_true]
  rw [decide_eq_false h0, decide_eq_false (by omega), Bool.false_or, cond_false]
end Go.Proofs.Ytddaclhjnkimfaa

namespace Go.Proofs.Ytddaclhjnkimfaa
open Go Go.Abs Go.Proofs
noncomputable def l_FnMixed_l14 (h14_0_0 : Int) (h14_0_4 : TPlant) (h14_0_5 : TMatrix) : Int → Tre (Int ⊕ (Bool ⊕ Unit)) := fun s14 =>
  .ite (0 ≤ h14_0_0 ∧ h14_0_0 < (h14_0_4.1.length : Int)) <|
  .mat (h14_0_4.1[h14_0_0.toNat]?) fun _ =>
  .mat (h14_0_4.1[h14_0_0.toNat]?) fun x9 =>
  .cond (decide (s14 < (x9.1.length : Int)))
    (.ite (0 ≤ h14_0_0 ∧ h14_0_0 < (h14_0_4.1.length : Int)) <|
    .mat (h14_0_4.1[h14_0_0.toNat]?) fun _ =>
    .mat (h14_0_4.1[h14_0_0.toNat]?) fun x11 =>
    .ite (0 ≤ s14 ∧ s14 < (x11.1.length : Int)) <|
    .mat (h14_0_4.1[h14_0_0.toNat]?) fun x12 =>
    .mat (x12.1[s14.toNat]?) fun x13 =>
    .mat (i_SolveRows_F h14_0_5 x13) fun r14 =>
    .cond (!decide (r14.2 = 0))
      (.ret (.inr (.inl false)))
      (.ret (.inl (iwrap .i64 (s14 + 1)))))
    (.ret (.inr (.inr ())))
noncomputable def l_FnMixed_l11 (h11_0_1 : TGather) (h11_0_2 : (List TDeed)) (h11_0_3 : TPlant) (h11_0_4 : TMatrix) : Int → Tre (Int ⊕ (Bool ⊕ Unit)) := fun s11 =>
  .cond (decide (s11 < (h11_0_3.1.length : Int)))
    (.mat (loopF (l_FnMixed_l14 s11 h11_0_3 h11_0_4) 0) fun l15 =>
    .alt l15
      (fun a16 =>
        .ret (.inr (.inl a16)))
      (fun _ =>
        .mat (rankAR h11_0_1 h11_0_2 s11) fun r18 =>
        .mat (spAR h11_0_1 h11_0_2 s11) fun r19 =>
        .mat (datAR h11_0_1 h11_0_2 s11) fun r20 =>
        .cond (!decide (r18.2 = 0))
          (.ret (.inr (.inl false)))
          (.cond (!decide (r19.2 = 0))
            (.ret (.inr (.inl false)))
            (.cond (!decide (r19.1 = 0))
              (.ret (.inr (.inl false)))
              (.ite (0 ≤ s11 ∧ s11 < (h11_0_3.1.length : Int)) <|
              .mat (h11_0_3.1[s11.toNat]?) fun _ =>
              .mat (h11_0_3.1[s11.toNat]?) fun x22 =>
              .cond (!decide (r18.1 = (x22.1.length : Int)))
                (.ret (.inr (.inl false)))
                (.cond (!((decide (r20.1 = 0)) == (decide (r18.1 = h11_0_1.1))))
                  (.ret (.inr (.inl false)))
                  (.cond (decide (r20.1 = 0))
                    (.mat (s_SameList_F r20.2 h11_0_1.2.2.1) fun r23 =>
                    .cond (!r23)
                      (.ret (.inr (.inl false)))
                      (.cond (!decide (r20.1 = 0))
                        (.cond (!decide (r20.1 = 6))
                          (.ret (.inr (.inl false)))
                          (.ite (0 ≤ s11 ∧ s11 < (h11_0_3.1.length : Int)) <|
                          .mat (h11_0_3.1[s11.toNat]?) fun _ =>
                          .mat (h11_0_3.1[s11.toNat]?) fun x25 =>
                          .mat (missB h11_0_1 x25.1 h11_0_1.2.2.1) fun r26 =>
                          .cond (!decide (r26.2 = 0))
                            (.ret (.inr (.inl false)))
                            (.cond (!decide (r26.1 = 0))
                              (.ret (.inr (.inl false)))
                              (.ret (.inl (iwrap .i64 (s11 + 1)))))))
                        (.ite (0 ≤ s11 ∧ s11 < (h11_0_3.1.length : Int)) <|
                        .mat (h11_0_3.1[s11.toNat]?) fun _ =>
                        .mat (h11_0_3.1[s11.toNat]?) fun x28 =>
                        .mat (missB h11_0_1 x28.1 h11_0_1.2.2.1) fun r29 =>
                        .cond (!decide (r29.2 = 0))
                          (.ret (.inr (.inl false)))
                          (.cond (!decide (r29.1 = 0))
                            (.ret (.inr (.inl false)))
                            (.ret (.inl (iwrap .i64 (s11 + 1))))))))
                    (.cond (!decide (r20.1 = 0))
                      (.cond (!decide (r20.1 = 6))
                        (.ret (.inr (.inl false)))
                        (.ite (0 ≤ s11 ∧ s11 < (h11_0_3.1.length : Int)) <|
                        .mat (h11_0_3.1[s11.toNat]?) fun _ =>
                        .mat (h11_0_3.1[s11.toNat]?) fun x31 =>
                        .mat (missB h11_0_1 x31.1 h11_0_1.2.2.1) fun r32 =>
                        .cond (!decide (r32.2 = 0))
                          (.ret (.inr (.inl false)))
                          (.cond (!decide (r32.1 = 0))
                            (.ret (.inr (.inl false)))
                            (.ret (.inl (iwrap .i64 (s11 + 1)))))))
                      (.ite (0 ≤ s11 ∧ s11 < (h11_0_3.1.length : Int)) <|
                      .mat (h11_0_3.1[s11.toNat]?) fun _ =>
                      .mat (h11_0_3.1[s11.toNat]?) fun x34 =>
                      .mat (missB h11_0_1 x34.1 h11_0_1.2.2.1) fun r35 =>
                      .cond (!decide (r35.2 = 0))
                        (.ret (.inr (.inl false)))
                        (.cond (!decide (r35.1 = 0))
                          (.ret (.inr (.inl false)))
                          (.ret (.inl (iwrap .i64 (s11 + 1))))))))))))))
    (.ret (.inr (.inr ())))
noncomputable def l_FnMixed (p0 : (List Int)) (p1 : (List Int)) : Tre Bool :=
  .cond (l_a2Long_S p0 p1)
    (.ret true)
    (.mat (s_A2Gather_F p0) fun r1 =>
    .mat (s_A2Deeds_F p1 (r1.1, (r1.2.1, (r1.2.2.2, r1.2.2.1))) true) fun r2 =>
    .mat (plantR (r1.1, (r1.2.1, (r1.2.2.2, r1.2.2.1))) r2) fun r3 =>
    .mat (srcB (r1.1, (r1.2.1, (r1.2.2.2, r1.2.2.1)))) fun r4 =>
    .cond (!decide (r3.2.1 = 0))
      (.ret false)
      (.cond (!decide (r4.1 = 0))
        (.ret false)
        (.cond (!decide ((r4.2.length : Int) = r1.1))
          (.ret false)
          (let v5 := iwrap .i64 (1 + r1.2.2.1.1)
          let v6 := iwrap .i64 (v5 + r1.2.2.1.2.1)
          .cond (!decide ((r3.2.2.1.length : Int) = v6))
            (.ret false)
            (let v7 := iwrap .i64 (r1.1 + r1.2.1)
            .mat (loopF (l_FnMixed_l11 (r1.1, (r1.2.1, (r1.2.2.2, r1.2.2.1))) r2 (r3.2.2.1, (r3.2.2.2, ())) (v7, (r4.2, ()))) 0) fun l36 =>
            .alt l36
              (fun a37 =>
                .ret a37)
              (fun _ =>
                .ret true))))))
noncomputable def l_FnMixed_F (p0 : (List Int)) (p1 : (List Int)) : Option Bool := (l_FnMixed p0 p1).run some
-- law
theorem has_m {c : Nat} {rows : List Int} {x : Int} (hc : c ≤ 10) : i_Matrix_has_F ((c : Int), rows, ()) x = some (inR x 0 (top1 (c : Int))) := by
  unfold i_Matrix_has_F i_Matrix_has
  rw [Tre.run_ite, if_pos (Int.natCast_nonneg c)]
  rfl
theorem no_loop {α : Type} : ∀ (l : List α) (i : Nat), findE (β := Int ⊕ Unit) (fun _ _ => none) (.inr ()) i l = .inr () := by
  intro l
  induction l with
  | nil => intro i; rfl
  | cons x l ih => intro i; exact ih _
theorem rows_m {c : Nat} {rows rows' : List Int} (hc : c ≤ 10) (hl : rows.length ≤ 1000) (h : ∀ x ∈ rows, inR x 0 (top1 (c : Int)) = true) : slices_ContainsFunc_int64_i_ValidMatrixc1_F rows ((c : Int), rows', ()) = some false := by
  unfold slices_ContainsFunc_int64_i_ValidMatrixc1_F slices_ContainsFunc_int64_i_ValidMatrixc1
  have h1 : slices_IndexFunc_int64_i_ValidMatrixc1_F rows ((c : Int), rows', ()) = some (-1) := by
    unfold slices_IndexFunc_int64_i_ValidMatrixc1_F slices_IndexFunc_int64_i_ValidMatrixc1
    rw [Tre.run_mat, find_loop (xs := rows) (fun _ _ => none) (.inr ()), no_loop]
    · rfl
    · intro i x hx
      have hi : i < rows.length := (List.getElem?_eq_some_iff.1 hx).1
      have hx1 : i_ValidMatrixc1_ccae_F x ((c : Int), rows', ()) = some false := by
        unfold i_ValidMatrixc1_ccae_F i_ValidMatrixc1_ccae
        rw [run_some_mat (has_m hc), h x (List.mem_of_getElem? hx)]
        rfl
      unfold slices_IndexFunc_int64_i_ValidMatrixc1_l2
      rw [run_inb hx, run_some_mat hx1, Tre.run_cond, cond_false, Tre.run_ret, iwrap_succ (by omega)]
    · unfold slices_IndexFunc_int64_i_ValidMatrixc1_l2
      exact run_out
  rw [run_some_mat h1]
  rfl
theorem code_m {c : Nat} {rows : List Int} {x : Int} (hc : 1 ≤ c ∧ c ≤ 10) (hl : rows.length ≤ 10) (h : ∀ x ∈ rows, inR x 0 (top1 (c : Int)) = true) (hx : inR x 0 (top1 (c : Int)) = true) : i_matricesCode_i_SolveRowsc1_81a7_F ((c : Int), rows, ()) x [((c : Int), rows, ())] = some 0 := by
  have h1 : i_ValidMatrix_F ((c : Int), rows, ()) = some true := by
    unfold i_ValidMatrix_F i_ValidMatrix
    rw [Tre.run_cond, show inR ((c : Int), rows, ()).1 1 10 = true from inR_iff.2 (by show 1 ≤ (c : Int) ∧ (c : Int) ≤ 10; omega), cond_true, Tre.run_cond, decide_eq_true (by show ((rows.length : Nat) : Int) ≤ 10; omega), cond_true, run_some_mat (rows_m hc.2 (by omega) h)]
    rfl
  have h2 : i_matricesCodec1_F ((c : Int), rows, ()) = some false := by
    unfold i_matricesCodec1_F i_matricesCodec1
    rw [run_some_mat h1]; rfl
  have h3 : slices_IndexFunc_Matrix_i_matricesCodec1_F [((c : Int), rows, ())] = some (-1) := by
    unfold slices_IndexFunc_Matrix_i_matricesCodec1_F slices_IndexFunc_Matrix_i_matricesCodec1
    rw [Tre.run_mat, find_loop (xs := [((c : Int), rows, ())]) (fun _ _ => none) (.inr ()), no_loop]
    · rfl
    · intro i y hy
      have hi : i < 1 := (List.getElem?_eq_some_iff.1 hy).1
      have : y = ((c : Int), rows, ()) := by
        have hi0 : i = 0 := by omega
        subst hi0
        exact (Option.some.inj hy).symm
      subst this
      unfold slices_IndexFunc_Matrix_i_matricesCodec1_l2
      rw [run_inb hy, run_some_mat h2, Tre.run_cond, cond_false, Tre.run_ret, iwrap_succ (by omega)]
    · unfold slices_IndexFunc_Matrix_i_matricesCodec1_l2
      exact run_out
  have h4 : slices_ContainsFunc_Matrix_i_matricesCodec1_F [((c : Int), rows, ())] = some false := by
    unfold slices_ContainsFunc_Matrix_i_matricesCodec1_F slices_ContainsFunc_Matrix_i_matricesCodec1
    rw [run_some_mat h3]; rfl
  have h5 : i_SolveRowsc1_1209_F ((c : Int), rows, ()) x = some true := by
    unfold i_SolveRowsc1_1209_F i_SolveRowsc1_1209
    rw [run_some_mat (has_m hc.2), hx]; rfl
  unfold i_matricesCode_i_SolveRowsc1_81a7_F i_matricesCode_i_SolveRowsc1_81a7
  rw [run_some_mat h4, Tre.run_cond, cond_false, run_some_mat h5]
  rfl
theorem solve_loop {c : Int} {rows : List Int} {x : Int} {m : Nat} (hl : rows.length ≤ 1000) (hm : m ≤ 1000) : ∀ (n i : Nat), i + n < m → timesL ((i + n : Nat) : Int) rows = x → ∃ b : Int, loopF (i_SolveRows_l5 (m : Int) (c, rows, ()) x) (i : Int) = some (.inl (b, 0)) := by
  intro n
  induction n with
  | zero =>
    intro i hi hx
    refine ⟨(i : Int), loopF_done ?_⟩
    unfold i_SolveRows_l5
    rw [Tre.run_cond, decide_eq_true (by omega), cond_true, run_some_mat (show sumR rows (i : Int) = some (timesL (i : Int) rows) from lim_of (by omega)), Tre.run_cond]
    rw [Nat.add_zero] at hx
    rw [hx, decide_eq_true rfl]
    rfl
  | succ n ih =>
    intro i hi hx
    by_cases he : timesL (i : Int) rows = x
    · refine ⟨(i : Int), loopF_done ?_⟩
      unfold i_SolveRows_l5
      rw [Tre.run_cond, decide_eq_true (by omega), cond_true, run_some_mat (show sumR rows (i : Int) = some (timesL (i : Int) rows) from lim_of (by omega)), Tre.run_cond, decide_eq_true he]
      rfl
    · have hstep : (i_SolveRows_l5 (m : Int) (c, rows, ()) x (i : Int)).run some = some (.inl ((i + 1 : Nat) : Int)) := by
        unfold i_SolveRows_l5
        rw [Tre.run_cond, decide_eq_true (by omega), cond_true, run_some_mat (show sumR rows (i : Int) = some (timesL (i : Int) rows) from lim_of (by omega)), Tre.run_cond, decide_eq_false he, cond_false, Tre.run_ret, iwrap_succ (by omega)]
      rw [loopF_step hstep]
      exact ih (i + 1) (by omega) (by rw [show i + 1 + n = i + (n + 1) by omega]; exact hx)
theorem row_in {c : Nat} {x : Int} (hc : c ≤ 10) (h : okRow c x = true) : inR x 0 (top1 (c : Int)) = true := by
  obtain ⟨n, rfl, hn⟩ := okRow_nat.1 h
  rw [top1_nat (by omega), inR_iff]
  have := Nat.two_pow_pos c
  omega
theorem solve_ok {g : G8} {N L : Nat} {x : Int} (hg : isG g = true) (hS : SrcOK g N L) (hsrc : okS 4 (colsG g) (srcL g) = true) (hx : inS g x) (hr : okRow (colsG g) x = true) : ∃ b : Int, i_SolveRows_F ((colsG g : Int), srcL g, ()) x = some (b, 0) := by
  have hcols := (colsG_le hg)
  have hb := isG_spec hg
  obtain ⟨h1, h2⟩ := okS_spec.1 hsrc
  have hN := hS.n1
  have hlen : (srcL g).length = N := by rw [hS.src, up_len, hS.heads.len]
  obtain ⟨n, rfl, hn⟩ := hx
  have hand : n &&& (2 ^ N - 1) < 2 ^ N := Nat.and_lt_two_pow _ (by have := Nat.two_pow_pos N; omega)
  have h2N := pow_le (b := N) (c := 4) hN.2
  have ht : timesL ((0 + (n &&& (2 ^ N - 1)) : Nat) : Int) (srcL g) = (n : Int) := by
    rw [Nat.zero_add, hS.src, timesL_eq (b := N + L) (by omega) (by have := hS.l1; omega) (by have := hS.heads.len; omega) hS.big, hS.heads.back hn]
  obtain ⟨b, hloop⟩ := solve_loop (c := (colsG g : Int)) (rows := srcL g) (x := (n : Int)) (m := 2 ^ N) (by omega) (by omega) (n &&& (2 ^ N - 1)) 0 (by omega) ht
  have hsh : ishl .i64 1 (((srcL g).length : Nat) : Int) = ((2 ^ N : Nat) : Int) := by
    rw [hlen, show (1 : Int) = ((1 : Nat) : Int) from rfl, ishl_nat (by omega) (by omega), Nat.one_mul]
  refine ⟨b, ?_⟩
  unfold i_SolveRows_F i_SolveRows
  rw [run_some_mat (code_m (by omega) (by omega) (fun y hy => row_in hcols.1 (h2 y hy)) (row_in hcols.1 hr)), Tre.run_cond, decide_eq_true rfl, Bool.not_true, cond_false, Tre.run_ite, if_pos (by show 0 ≤ (((srcL g).length : Nat) : Int); omega)]
  dsimp only
  rw [hsh]
  have hloop : loopF (i_SolveRows_l5 ((2 ^ N : Nat) : Int) ((colsG g : Int), srcL g, ()) (n : Int)) 0 = _ := hloop
  rw [run_some_mat hloop]
  rfl
theorem solve_all {g : G8} {N L : Nat} {st : List (List Int × List Int × Unit)} {w : List (Int × Int × Unit) × Unit} {i : Nat} {x : List Int × List Int × Unit} (hg : isG g = true) (hS : SrcOK g N L) (hsrc : okS 4 (colsG g) (srcL g) = true) (hx : st[i]? = some x) (hl : x.1.length ≤ 1000) (hin : ∀ y ∈ x.1, inS g y ∧ okRow (colsG g) y = true) :
    ∀ (n j : Nat), j + n = x.1.length → loopF (l_FnMixed_l14 (i : Int) (st, w) ((colsG g : Int), srcL g, ())) (j : Int) = some (.inr ()) := by
  have hi : i < st.length := (List.getElem?_eq_some_iff.1 hx).1
  have hb : 0 ≤ (i : Int) ∧ (i : Int) < (st.length : Int) := by omega
  intro n
  induction n with
  | zero =>
    intro j hj
    refine loopF_done ?_
    unfold l_FnMixed_l14
    rw [Tre.run_ite, if_pos hb, Int.toNat_natCast, run_some_mat hx, run_some_mat hx, Tre.run_cond, decide_eq_false (by omega), cond_false, Tre.run_ret]
  | succ n ih =>
    intro j hj
    have hjl : j < x.1.length := by omega
    obtain ⟨y, hy⟩ : ∃ y, x.1[j]? = some y := ⟨_, List.getElem?_eq_getElem hjl⟩
    obtain ⟨h1, h2⟩ := hin y (List.mem_of_getElem? hy)
    obtain ⟨b, hs⟩ := solve_ok hg hS hsrc h1 h2
    have hstep : (l_FnMixed_l14 (i : Int) (st, w) ((colsG g : Int), srcL g, ()) (j : Int)).run some = some (.inl ((j + 1 : Nat) : Int)) := by
      unfold l_FnMixed_l14
      rw [Tre.run_ite, if_pos hb, Int.toNat_natCast, run_some_mat hx, run_some_mat hx, Tre.run_cond, decide_eq_true (by omega), cond_true, Tre.run_ite, if_pos hb, run_some_mat hx, run_some_mat hx, Tre.run_ite, if_pos ⟨by omega, by omega⟩, run_some_mat hx, Int.toNat_natCast, run_some_mat hy, run_some_mat hs, Tre.run_cond, decide_eq_true rfl, Bool.not_true, cond_false, Tre.run_ret, iwrap_succ (by omega)]
    rw [loopF_step hstep]
    exact ih (j + 1) (by omega)
theorem mixed_all {g : G8} {N L : Nat} {ds : List D8} {w : List (Int × Int × Unit) × Unit} (hg : isG g = true) (hS : SrcOK g N L) (hd : ds.all vDeed = true) (hl : ds.length ≤ 300) (hsrc : okS 4 (colsG g) (srcL g) = true) (hlen : lenP (afterM g ds)) (hmix : MixP g (afterM g ds)) :
    ∀ (n i : Nat), ((i + n : Nat) : Int) = statG g → loopF (l_FnMixed_l11 g ds ((afterM g ds).1, w) ((colsG g : Int), srcL g, ())) (i : Int) = some (.inr ()) := by
  have hP := afterM_ok hg hd hl
  obtain ⟨q1, q2, _, _⟩ := okP_spec hP
  have hb := isG_spec hg
  have hst : statG g = 1 + g.2.2.2.1 + g.2.2.2.2.1 := rfl
  intro n
  induction n with
  | zero =>
    intro i hi
    refine loopF_done ?_
    unfold l_FnMixed_l11
    rw [Tre.run_cond, decide_eq_false (by show ¬ (i : Int) < ((afterM g ds).1.length : Int); omega), cond_false, Tre.run_ret]
  | succ n ih =>
    intro i hi
    have hil : i < (afterM g ds).1.length := by omega
    obtain ⟨x, hx⟩ : ∃ x, (afterM g ds).1[i]? = some x := ⟨_, List.getElem?_eq_getElem hil⟩
    have hm := List.mem_of_getElem? hx
    have hok := (q2 x hm).1
    have hmx := (hmix.1 x hm).1
    have hlx := (hlen x hm).1
    have hrows : rowsM g ds (i : Int) = x.1 := by unfold rowsM; rw [Int.toNat_natCast, hx]
    have hcode : codeM g ds (i : Int) = 0 := by
      rw [codeM_asked, decide_eq_true (asked_zero hg hd hl), cond_true, show inR (i : Int) 0 (statG g - 1) = true from inR_iff.2 (by omega), cond_true]
    have hask : (decide (g.2.2.1.length ≤ 1048576) && decide (ds.length ≤ 1048576)) = true := by rw [Bool.and_eq_true, decide_eq_true_eq, decide_eq_true_eq]; omega
    obtain ⟨r1, r2⟩ := mix_rank hg hS hok (by omega) hmx
    have hN := hS.n
    have hN1 := hS.n1
    have e1 : rankAR g ds (i : Int) = some ((x.1.length : Int), 0) := by
      have : rankAR g ds (i : Int) = some (rankAM g ds (i : Int)) := askO_true hask
      rw [this]; unfold rankAM; rw [decide_eq_true hcode, cond_true, hrows, r1]
    have e2 : spAR g ds (i : Int) = some (0, 0) := by
      have : spAR g ds (i : Int) = some (spAM g ds (i : Int)) := askO_true hask
      rw [this]; unfold spAM spoiltM; rw [decide_eq_true hcode, cond_true, hrows, r1, Int.sub_self]; rfl
    have e3 : datAR g ds (i : Int) = some (cond (decide (x.1.length = N)) (0, g.2.2.1) (6, [])) := by
      have : datAR g ds (i : Int) = some (datAM g ds (i : Int)) := askO_true hask
      rw [this]; unfold datAM; rw [decide_eq_true hcode, cond_true, hrows, mix_data hg hS hok (by omega) hmx]
    have e4 : missB g x.1 g.2.2.1 = some (0, 0) := by
      have : missB g x.1 g.2.2.1 = some (missV g x.1 g.2.2.1) := askO_true (by simp only [Bool.and_eq_true, decide_eq_true_eq]; omega)
      rw [this, mix_miss hg hS hok hlx hmx]
    have e5 : s_SameList_F g.2.2.1 g.2.2.1 = some true := by
      unfold s_SameList_F s_SameList
      have : sameL g.2.2.1 g.2.2.1 = some (decide (g.2.2.1 = g.2.2.1)) := askO_true (by rw [Bool.and_eq_true, decide_eq_true_eq]; omega)
      rw [run_some_mat this, decide_eq_true rfl]; rfl
    have hso := solve_all (w := w) hg hS hsrc hx (by omega) (fun y hy => ⟨hmx.1 y hy, (okS_spec.1 hok).2 y hy⟩) x.1.length 0 (by omega)
    have hso : loopF (l_FnMixed_l14 (i : Int) ((afterM g ds).1, w) ((colsG g : Int), srcL g, ())) 0 = _ := hso
    have hbd : 0 ≤ (i : Int) ∧ (i : Int) < ((afterM g ds).1.length : Int) := by omega
    have hstep : (l_FnMixed_l11 g ds ((afterM g ds).1, w) ((colsG g : Int), srcL g, ()) (i : Int)).run some = some (.inl ((i + 1 : Nat) : Int)) := by
      unfold l_FnMixed_l11
      rw [Tre.run_cond, decide_eq_true (by show (i : Int) < ((afterM g ds).1.length : Int); omega), cond_true, run_some_mat hso, Tre.run_inr, run_some_mat e1, run_some_mat e2, run_some_mat e3]
      simp only [Tre.run_cond, decide_true, Bool.not_true, cond_false]
      rw [Tre.run_ite, if_pos hbd, Int.toNat_natCast, run_some_mat hx, run_some_mat hx, Tre.run_cond, decide_eq_true rfl, Bool.not_true, cond_false]
      by_cases hl : x.1.length = N
      · rw [decide_eq_true hl, cond_true]
        simp only [Tre.run_cond, decide_true]
        rw [decide_eq_true (show (x.1.length : Int) = g.1 by omega)]
        simp only [beq_self_eq_true, Bool.not_true, cond_false, cond_true]
        rw [run_some_mat e5]
        simp only [Tre.run_cond, Bool.not_true, cond_false]
        rw [Tre.run_ite, if_pos hbd, run_some_mat hx, run_some_mat hx, run_some_mat e4]
        simp only [Tre.run_cond, decide_true, Bool.not_true, cond_false]
        rw [Tre.run_ret, iwrap_succ (by omega)]
      · rw [decide_eq_false hl, cond_false]
        simp only [Tre.run_cond, show decide ((6 : Int) = 0) = false from rfl]
        rw [decide_eq_false (show ¬ (x.1.length : Int) = g.1 by omega)]
        simp only [beq_self_eq_true, Bool.not_true, Bool.not_false, cond_false, cond_true, decide_true]
        rw [Tre.run_ite, if_pos hbd, run_some_mat hx, run_some_mat hx, run_some_mat e4]
        simp only [Tre.run_cond, decide_true, Bool.not_true, cond_false]
        rw [Tre.run_ret, iwrap_succ (by omega)]
    rw [loopF_step hstep]
    exact ih (i + 1) (by omega)
theorem l_FnMixed_law (p0 p1 : List Int) (h0 : (K.sl (.int .u8)).wf p0) (h1 : (K.sl (.int .u8)).wf p1) : l_FnMixed_F p0 p1 = some true := by
  unfold l_FnMixed_F l_FnMixed
  rw [Tre.run_cond]
  cases hlong : l_a2Long_S p0 p1
  case true => rfl
  obtain ⟨n0, n1⟩ := long_no hlong
  obtain ⟨⟨ga, gb, ⟨gc, gd, ⟨⟩⟩, ge⟩, e1, hg⟩ := gather_ok n0 (bytes_of h0)
  rw [cond_false, run_some_mat e1]
  dsimp only at hg ⊢
  generalize hG : ((ga, gb, ge, gc, gd, ()) : G8) = g at hg
  have hb := isG_spec hg
  have hst : statG g = 1 + gc + gd := by rw [← hG]; rfl
  have hga : g.1 = ga := by rw [← hG]
  have hgl : (ge.length : Int) = ga := by rw [← hG] at hb; exact hb.2.2.2.2.2.2.2.2
  have hb5 : 0 ≤ gc ∧ gc ≤ 3 ∧ 1 ≤ gd ∧ gd ≤ 3 := by rw [← hG] at hb; exact ⟨hb.2.2.2.2.1, hb.2.2.2.2.2.1, hb.2.2.2.2.2.2.1, hb.2.2.2.2.2.2.2.1⟩
  have hcols := (colsG_le hg)
  have hcol2 : ((colsG g : Nat) : Int) = ga + gb := by rw [hcols.2, ← hG]
  obtain ⟨ds, e2, hd, hl, h5⟩ := deeds_ok hg true n1 (bytes_of h1)
  obtain ⟨N, L, hS⟩ := src_ok hg
  have hP := afterM_ok hg hd (by omega)
  obtain ⟨q1, _, q3, q4⟩ := okP_spec hP
  have hbeg := beginM_ok hg
  have hsrc : okS 4 (colsG g) (srcL g) = true := ((okP_spec hbeg).2.1 (srcL g, srcL g, ()) (by unfold beginM; exact .head _)).1
  obtain ⟨hlen, hmix⟩ := run_mix hg ds (k := 4) hd (h5 rfl) (by omega) hbeg (begin_len hg) (begin_mix hS)
  have eB : srcB g = some (0, srcL g) := by
    have : srcB g = some (srcV g) := lim_of (by omega)
    rw [this]; unfold srcV; rw [hg]; rfl
  have hsl : ((srcL g).length : Int) = ga := by rw [srcL_len, ← hG]; exact hgl
  have w2 : iwrap .i64 (iwrap .i64 (1 + gc) + gd) = statG g := by rw [iwrap_i64 (n := 1 + gc) (by omega) (by omega), hst]; exact iwrap_i64 (by omega) (by omega)
  have w3 : iwrap .i64 (ga + gb) = ((colsG g : Nat) : Int) := by rw [hcol2]; exact iwrap_i64 (by omega) (by omega)
  rw [run_some_mat e2, run_some_mat (plant_of hg hd (by omega)), run_some_mat eB]
  simp only [Tre.run_cond, decide_true, Bool.not_true, cond_false]
  rw [decide_eq_true hsl, Bool.not_true, cond_false, w2, decide_eq_true q1, Bool.not_true, cond_false, w3]
  obtain ⟨n, hn⟩ := Int.eq_ofNat_of_zero_le (show 0 ≤ statG g by omega)
  have hall := mixed_all (w := ((afterM g ds).2.1, ())) hg hS hd (by omega) hsrc hlen hmix n 0 (by omega)
  have hall : loopF (l_FnMixed_l11 g ds ((afterM g ds).1, ((afterM g ds).2.1, ())) ((colsG g : Int), srcL g, ())) 0 = _ := hall
  rw [run_some_mat hall]
  rfl
noncomputable def l_FnMixed_V : Env := ⟨tau, [(23, l_a2Long_c), (24, s_A2Gather_c), (25, s_A2Deeds_c), (26, i_PlantAfter_c), (27, i_SourceRows_c), (28, i_SolveRows_c), (29, i_RankAfter_c), (30, i_SpoiltAfter_c), (31, i_DataAfter_c), (32, s_SameList_c), (33, i_MissedBy_c)], []⟩
noncomputable def l_FnMixed_b : Code := (Try.f5.body).getD .skip
noncomputable def l_FnMixed_l14_mk (h14_0_0 : Int) (h14_0_2 : TGather) (h14_0_3 : (List TDeed)) (h14_0_4 : TPlant) (h14_0_5 : TMatrix) : Int → St := fun x => stOf [(5, (.ptr (7, 0) [])), (6, (.ref (8, 0) [])), (7, (.ptr (9, 0) [])), (12, (.ptr (14, 0) [])), (13, (.imm true (.int .i64) h14_0_0)), (14, (.imm true (.int .i64) x))] [((7, 0), some ⟨true, kGather, .own, h14_0_2⟩), ((8, 0), some ⟨false, (.sl kDeed), .own, h14_0_3⟩), ((9, 0), some ⟨true, kPlant, .own, h14_0_4⟩), ((14, 0), some ⟨true, kMatrix, .own, h14_0_5⟩)]
noncomputable def l_FnMixed_l14_out (h14_0_0 : Int) (h14_0_2 : TGather) (h14_0_3 : (List TDeed)) (h14_0_4 : TPlant) (h14_0_5 : TMatrix) : (Bool ⊕ Unit) → Ex × St
  | .inl x => (.ret, stOf [(4, (.imm true .bool x)), (5, (.ptr (7, 0) [])), (6, (.ref (8, 0) [])), (7, (.ptr (9, 0) [])), (12, (.ptr (14, 0) [])), (13, (.imm true (.int .i64) h14_0_0))] [((7, 0), some ⟨true, kGather, .own, h14_0_2⟩), ((8, 0), some ⟨false, (.sl kDeed), .own, h14_0_3⟩), ((9, 0), some ⟨true, kPlant, .own, h14_0_4⟩), ((14, 0), some ⟨true, kMatrix, .own, h14_0_5⟩)])
  | .inr x => (.exit 2, stOf [(4, .dead), (5, (.ptr (7, 0) [])), (6, (.ref (8, 0) [])), (7, (.ptr (9, 0) [])), (12, (.ptr (14, 0) [])), (13, (.imm true (.int .i64) h14_0_0))] [((7, 0), some ⟨true, kGather, .own, h14_0_2⟩), ((8, 0), some ⟨false, (.sl kDeed), .own, h14_0_3⟩), ((9, 0), some ⟨true, kPlant, .own, h14_0_4⟩), ((14, 0), some ⟨true, kMatrix, .own, h14_0_5⟩)])
noncomputable def l_FnMixed_l14_D (s : St) : Tre (Ex × St) :=
  asPtr (7, 0) [] (s.tmps 5) <|
  asRef (8, 0) [] (s.tmps 6) <|
  asPtr (9, 0) [] (s.tmps 7) <|
  asPtr (14, 0) [] (s.tmps 12) <|
  asImmZ true (.int .i64) (s.tmps 13) fun d6 =>
  asImmZ true (.int .i64) (s.tmps 14) fun d8 =>
  asRoot true kGather (s.roots (7, 0)) fun m10 d11 =>
  asM .own m10 <|
  asRoot false (.sl kDeed) (s.roots (8, 0)) fun m13 d14 =>
  asM .own m13 <|
  asRoot true kPlant (s.roots (9, 0)) fun m16 d17 =>
  asM .own m16 <|
  asRoot true kMatrix (s.roots (14, 0)) fun m19 d20 =>
  asM .own m19 <|
  .mat (loopF (l_FnMixed_l14 d6 d17 d20) d8) fun x => .alt x (fun a0 => .ret (l_FnMixed_l14_out d6 d11 d14 d17 d20 (.inl a0))) (fun b0 => .ret (l_FnMixed_l14_out d6 d11 d14 d17 d20 (.inr b0)))
noncomputable def l_FnMixed_l14_L : LoopI := ⟨([5, 6, 7, 12, 13, 14], [(7, 0), (8, 0), (9, 0), (14, 0)]), ([4, 5, 6, 7, 12, 13], [(7, 0), (8, 0), (9, 0), (14, 0)]), l_FnMixed_l14_D⟩
noncomputable def l_FnMixed_l11_mk (h11_0_1 : TGather) (h11_0_2 : (List TDeed)) (h11_0_3 : TPlant) (h11_0_4 : TMatrix) : Int → St := fun x => stOf [(5, (.ptr (7, 0) [])), (6, (.ref (8, 0) [])), (7, (.ptr (9, 0) [])), (12, (.ptr (14, 0) [])), (13, (.imm true (.int .i64) x))] [((7, 0), some ⟨true, kGather, .own, h11_0_1⟩), ((8, 0), some ⟨false, (.sl kDeed), .own, h11_0_2⟩), ((9, 0), some ⟨true, kPlant, .own, h11_0_3⟩), ((14, 0), some ⟨true, kMatrix, .own, h11_0_4⟩)]
noncomputable def l_FnMixed_l11_out (_h11_0_1 : TGather) (_h11_0_2 : (List TDeed)) (_h11_0_3 : TPlant) (_h11_0_4 : TMatrix) : (Bool ⊕ Unit) → Ex × St
  | .inl x => (.ret, stOf [(4, (.imm true .bool x))] [])
  | .inr x => (.exit 0, stOf [(4, .dead)] [])
noncomputable def l_FnMixed_l11_D (s : St) : Tre (Ex × St) :=
  asPtr (7, 0) [] (s.tmps 5) <|
  asRef (8, 0) [] (s.tmps 6) <|
  asPtr (9, 0) [] (s.tmps 7) <|
  asPtr (14, 0) [] (s.tmps 12) <|
  asImmZ true (.int .i64) (s.tmps 13) fun d6 =>
  asRoot true kGather (s.roots (7, 0)) fun m8 d9 =>
  asM .own m8 <|
  asRoot false (.sl kDeed) (s.roots (8, 0)) fun m11 d12 =>
  asM .own m11 <|
  asRoot true kPlant (s.roots (9, 0)) fun m14 d15 =>
  asM .own m14 <|
  asRoot true kMatrix (s.roots (14, 0)) fun m17 d18 =>
  asM .own m17 <|
  .mat (loopF (l_FnMixed_l11 d9 d12 d15 d18) d6) fun x => .alt x (fun a0 => .ret (l_FnMixed_l11_out d9 d12 d15 d18 (.inl a0))) (fun b0 => .ret (l_FnMixed_l11_out d9 d12 d15 d18 (.inr b0)))
noncomputable def l_FnMixed_l11_L : LoopI := ⟨([5, 6, 7, 12, 13], [(7, 0), (8, 0), (9, 0), (14, 0)]), ([4], []), l_FnMixed_l11_D⟩
noncomputable def l_FnMixed_A : List (Nat × LoopI) := [(14, l_FnMixed_l14_L), (11, l_FnMixed_l11_L)]
set_option maxRecDepth 100000 in
theorem l_FnMixed_l14_step : ∀ (h14_0_0 : Int) (h14_0_2 : TGather) (h14_0_3 : (List TDeed)) (h14_0_4 : TPlant) (h14_0_5 : TMatrix) (x : Int) (c : St → Option (Ex × St)), den l_FnMixed_V l_FnMixed_A (loopAt l_FnMixed_b 1) (l_FnMixed_l14_mk h14_0_0 h14_0_2 h14_0_3 h14_0_4 h14_0_5 x) (roundK l_FnMixed_l14_L.kp l_FnMixed_l14_L.kx c) = (l_FnMixed_l14 h14_0_0 h14_0_4 h14_0_5 x).run (roundR (l_FnMixed_l14_mk h14_0_0 h14_0_2 h14_0_3 h14_0_4 h14_0_5) (l_FnMixed_l14_out h14_0_0 h14_0_2 h14_0_3 h14_0_4 h14_0_5) c) := fun _ _ _ _ _ _ _ => by
  kernel_rfl
theorem l_FnMixed_l14_ok : LoopOK l_FnMixed_V l_FnMixed_A (loopAt l_FnMixed_b 1) l_FnMixed_l14_L := loopOK_of fun s e s' h => by
  generalize hs : restrict l_FnMixed_l14_L.kp s = s1 at h
  have h : (l_FnMixed_l14_D s1).run some = some (e, s') := h
  obtain ⟨e1, h_0⟩ := asPtr_spec h
  obtain ⟨e2, h_1⟩ := asRef_spec h_0
  obtain ⟨e3, h_2⟩ := asPtr_spec h_1
  obtain ⟨e4, h_3⟩ := asPtr_spec h_2
  obtain ⟨d6, e5, h_4⟩ := asImmZ_spec h_3
  obtain ⟨d8, e7, h_5⟩ := asImmZ_spec h_4
  obtain ⟨m10, d11, e9, h_6⟩ := asRoot_spec h_5
  obtain ⟨rfl, h_7⟩ := asM_spec h_6
  obtain ⟨m13, d14, e12, h_8⟩ := asRoot_spec h_7
  obtain ⟨rfl, h_9⟩ := asM_spec h_8
  obtain ⟨m16, d17, e15, h_10⟩ := asRoot_spec h_9
  obtain ⟨rfl, h_11⟩ := asM_spec h_10
  obtain ⟨m19, d20, e18, h_12⟩ := asRoot_spec h_11
  obtain ⟨rfl, h_13⟩ := asM_spec h_12
  obtain ⟨y, hy, hz⟩ := mat_some h_13
  refine ⟨_, _, l_FnMixed_l14_mk d6 d11 d14 d17 d20, l_FnMixed_l14_out d6 d11 d14 d17 d20, l_FnMixed_l14 d6 d17 d20, d8, y, ?_, hy, ?_, l_FnMixed_l14_step d6 d11 d14 d17 d20⟩
  · subst hs; exact restrict_eq (T := [(5, (.ptr (7, 0) [])), (6, (.ref (8, 0) [])), (7, (.ptr (9, 0) [])), (12, (.ptr (14, 0) [])), (13, (.imm true (.int .i64) d6)), (14, (.imm true (.int .i64) d8))]) (U := [((7, 0), some ⟨true, kGather, .own, d11⟩), ((8, 0), some ⟨false, (.sl kDeed), .own, d14⟩), ((9, 0), some ⟨true, kPlant, .own, d17⟩), ((14, 0), some ⟨true, kMatrix, .own, d20⟩)]) rfl rfl ⟨e1, e2, e3, e4, e5, e7, trivial⟩ ⟨e9, e12, e15, e18, trivial⟩
  · rcases y with x | x <;> exact Option.some.inj hz
set_option maxRecDepth 100000 in
theorem l_FnMixed_l11_step : ∀ (h11_0_1 : TGather) (h11_0_2 : (List TDeed)) (h11_0_3 : TPlant) (h11_0_4 : TMatrix) (x : Int) (c : St → Option (Ex × St)), den l_FnMixed_V l_FnMixed_A (loopAt l_FnMixed_b 0) (l_FnMixed_l11_mk h11_0_1 h11_0_2 h11_0_3 h11_0_4 x) (roundK l_FnMixed_l11_L.kp l_FnMixed_l11_L.kx c) = (l_FnMixed_l11 h11_0_1 h11_0_2 h11_0_3 h11_0_4 x).run (roundR (l_FnMixed_l11_mk h11_0_1 h11_0_2 h11_0_3 h11_0_4) (l_FnMixed_l11_out h11_0_1 h11_0_2 h11_0_3 h11_0_4) c) := fun _ _ _ _ _ _ => by
  kernel_rfl
theorem l_FnMixed_l11_ok : LoopOK l_FnMixed_V l_FnMixed_A (loopAt l_FnMixed_b 0) l_FnMixed_l11_L := loopOK_of fun s e s' h => by
  generalize hs : restrict l_FnMixed_l11_L.kp s = s1 at h
  have h : (l_FnMixed_l11_D s1).run some = some (e, s') := h
  obtain ⟨e1, h_0⟩ := asPtr_spec h
  obtain ⟨e2, h_1⟩ := asRef_spec h_0
  obtain ⟨e3, h_2⟩ := asPtr_spec h_1
  obtain ⟨e4, h_3⟩ := asPtr_spec h_2
  obtain ⟨d6, e5, h_4⟩ := asImmZ_spec h_3
  obtain ⟨m8, d9, e7, h_5⟩ := asRoot_spec h_4
  obtain ⟨rfl, h_6⟩ := asM_spec h_5
  obtain ⟨m11, d12, e10, h_7⟩ := asRoot_spec h_6
  obtain ⟨rfl, h_8⟩ := asM_spec h_7
  obtain ⟨m14, d15, e13, h_9⟩ := asRoot_spec h_8
  obtain ⟨rfl, h_10⟩ := asM_spec h_9
  obtain ⟨m17, d18, e16, h_11⟩ := asRoot_spec h_10
  obtain ⟨rfl, h_12⟩ := asM_spec h_11
  obtain ⟨y, hy, hz⟩ := mat_some h_12
  refine ⟨_, _, l_FnMixed_l11_mk d9 d12 d15 d18, l_FnMixed_l11_out d9 d12 d15 d18, l_FnMixed_l11 d9 d12 d15 d18, d6, y, ?_, hy, ?_, l_FnMixed_l11_step d9 d12 d15 d18⟩
  · subst hs; exact restrict_eq (T := [(5, (.ptr (7, 0) [])), (6, (.ref (8, 0) [])), (7, (.ptr (9, 0) [])), (12, (.ptr (14, 0) [])), (13, (.imm true (.int .i64) d6))]) (U := [((7, 0), some ⟨true, kGather, .own, d9⟩), ((8, 0), some ⟨false, (.sl kDeed), .own, d12⟩), ((9, 0), some ⟨true, kPlant, .own, d15⟩), ((14, 0), some ⟨true, kMatrix, .own, d18⟩)]) rfl rfl ⟨e1, e2, e3, e4, e5, trivial⟩ ⟨e7, e10, e13, e16, trivial⟩
  · rcases y with x | x <;> exact Option.some.inj hz
noncomputable def l_FnMixed_I : FnI := ⟨l_FnMixed_b, Try.f5.results.toList, Try.f5.resultTypes.toList, l_FnMixed_A⟩
noncomputable def l_FnMixed_out (_zp0 : Bool) (_zp1 : Bool) (_p0 : (List Int)) (_p1 : (List Int)) : Bool → CallOut := fun r => ⟨(.imm true .bool r), [], []⟩
set_option maxRecDepth 100000 in
theorem l_FnMixed_eq : ∀ (zp0 : Bool) (zp1 : Bool) (p0 : (List Int)) (p1 : (List Int)), denFn l_FnMixed_V l_FnMixed_I ⟨[(.imm zp0 (.sl (.int .u8)) p0), (.imm zp1 (.sl (.int .u8)) p1)], []⟩ = (l_FnMixed p0 p1).run fun r => some (l_FnMixed_out zp0 zp1 p0 p1 r) := fun _ _ _ _ => by kernel_rfl
noncomputable def l_FnMixed_G (av : List AV) (rs : List Root) : Tre CallOut :=
  asCons av fun a0_ av0 =>
  asCons av0 fun a1_ av1 =>
  asEnd av1 <|
  asEnd rs <|
  asImm (.sl (.int .u8)) a0_ fun z2 d1 =>
  asImm (.sl (.int .u8)) a1_ fun z4 d3 =>
  .mat (l_FnMixed_F d1 d3) fun r => .ret (l_FnMixed_out z2 z4 d1 d3 r)
noncomputable def l_FnMixed_c : Ctr := ⟨[], fun ci => l_FnMixed_G ci.args ci.roots⟩
theorem l_FnMixed_env : EnvOK Try.prog l_FnMixed_V := (envOK_cons l_a2Long_ok ent23 (envOK_cons s_A2Gather_ok ent24 (envOK_cons s_A2Deeds_ok ent25 (envOK_cons i_PlantAfter_ok ent26 (envOK_cons i_SourceRows_ok ent27 (envOK_cons i_SolveRows_ok ent28 (envOK_cons i_RankAfter_ok ent29 (envOK_cons i_SpoiltAfter_ok ent30 (envOK_cons i_DataAfter_ok ent31 (envOK_cons s_SameList_ok ent32 (envOK_cons i_MissedBy_ok ent33 envOK_nil)))))))))))
set_option maxRecDepth 100000 in
theorem l_FnMixed_ok : Contract Try.prog 5 l_FnMixed_c := by
  have hl : LoopsOK l_FnMixed_V l_FnMixed_A l_FnMixed_b := (loopsOK_all (n := 2) (by kernel_rfl) fun k hk => by
      match k, hk with
      | 0, _ => exact loopOK_at (id := 11) (L := l_FnMixed_l11_L) (by kernel_rfl) (by kernel_rfl) l_FnMixed_l11_ok
      | 1, _ => exact loopOK_at (id := 14) (L := l_FnMixed_l14_L) (by kernel_rfl) (by kernel_rfl) l_FnMixed_l14_ok)
  refine (contract_of (F := l_FnMixed_I) tau_tys l_FnMixed_env Try.func5 (by kernel_rfl) (by kernel_rfl) (by kernel_rfl) hl []).weaken ?_
  rintro ⟨av, rs⟩ co h
  have h : (l_FnMixed_G av rs).run some = some co := h
  obtain ⟨a0_, av0, rfl, h_0⟩ := asCons_spec h
  obtain ⟨a1_, av1, rfl, h_1⟩ := asCons_spec h_0
  obtain ⟨rfl, h_2⟩ := asEnd_spec h_1
  obtain ⟨rfl, h_3⟩ := asEnd_spec h_2
  obtain ⟨z2, d1, rfl, h_4⟩ := asImm_spec h_3
  obtain ⟨z4, d3, rfl, h_5⟩ := asImm_spec h_4
  exact fin_mat (l_FnMixed_eq z2 z4 d1 d3) h_5
end Go.Proofs.Ytddaclhjnkimfaa
