/- Part 5 of the proof of FnExactPlantAfter. -/
import Derived.Test.YtohnlghdhbignaaPx4
namespace Go.Proofs.Ytohnlghdhbignaa
open Go Go.Abs Go.Proofs
noncomputable def l_heldParcelS_l2 (h2_0_0 : (List (Int × (Int × Unit)))) : (Int × Int) → Tre ((Int × Int) ⊕ ((Int × Int) ⊕ Int)) := fun s2 =>
 .cond (decide (s2.2 < (h2_0_0.length : Int)))
  (.ite (0 ≤ s2.2 ∧ s2.2 < (h2_0_0.length : Int)) <|
  .mat (h2_0_0[s2.2.toNat]?) fun x1 =>
  .cond (!decide (x1.1 = s2.1))
   (.ret (.inr (.inl (s2.1, -1))))
   (.ite (0 ≤ s2.2 ∧ s2.2 < (h2_0_0.length : Int)) <|
   .mat (h2_0_0[s2.2.toNat]?) fun x2 =>
   .cond (!decide (x2.2.1 = iwrap .i64 (s2.1 + 1)))
    (.ret (.inr (.inl (iwrap .i64 (s2.1 + 1), -1))))
    (let v3 := iwrap .i64 ((iwrap .i64 (s2.1 + 1)) + 1)
    .ret (.inl (v3, iwrap .i64 (s2.2 + 1))))))
  (.ret (.inr (.inr s2.1)))
noncomputable def l_heldParcelS (p0 : (List (Int × (Int × Unit)))) (p1 : Int) : Tre Int :=
 .mat (loopF (l_heldParcelS_l2 p0) (p1, 0)) fun l4 =>
 .alt l4
  (fun a5 =>
   .ret a5.2)
  (fun b6 =>
   .ret b6)
noncomputable def l_heldParcelS_F (p0 : (List (Int × (Int × Unit)))) (p1 : Int) : Option Int := (l_heldParcelS p0 p1).run some
noncomputable def l_heldParcelS_V : Env := ⟨tau, [], []⟩
noncomputable def l_heldParcelS_b : Code := (Try.f62.body).getD .skip
noncomputable def l_heldParcelS_l2_mk (z2_0 : Bool) (h2_0_0 : (List (Int × (Int × Unit)))) : (Int × Int) → St := fun x => stOf [(0, (.imm z2_0 (.sl kField) h2_0_0)), (1, (.imm true (.int .i64) x.1)), (5, (.imm true (.int .i64) x.2))] []
noncomputable def l_heldParcelS_l2_out (_z2_0 : Bool) (_h2_0_0 : (List (Int × (Int × Unit)))) : ((Int × Int) ⊕ Int) → Ex × St
 | .inl x => (.ret, stOf [(1, (.imm true (.int .i64) x.1)), (4, (.imm true (.int .i64) x.2))] [])
 | .inr x => (.exit 0, stOf [(1, (.imm true (.int .i64) x)), (4, .dead)] [])
noncomputable def l_heldParcelS_l2_D (s : St) : Tre (Ex × St) :=
 asImm (.sl kField) (s.tmps 0) fun z3 d2 =>
 asImmZ true (.int .i64) (s.tmps 1) fun d5 =>
 asImmZ true (.int .i64) (s.tmps 5) fun d7 =>
 .mat (loopF (l_heldParcelS_l2 d2) (d5, d7)) fun x => .alt x (fun a0 => .ret (l_heldParcelS_l2_out z3 d2 (.inl a0))) (fun b0 => .ret (l_heldParcelS_l2_out z3 d2 (.inr b0)))
noncomputable def l_heldParcelS_l2_L : LoopI := ⟨([0, 1, 5], []), ([1, 4], []), l_heldParcelS_l2_D⟩
noncomputable def l_heldParcelS_A : List (Nat × LoopI) := [(2, l_heldParcelS_l2_L)]
set_option maxRecDepth 100000 in
theorem l_heldParcelS_l2_step : ∀ (z2_0 : Bool) (h2_0_0 : (List (Int × (Int × Unit)))) (x : (Int × Int)) (c : St → Option (Ex × St)), den l_heldParcelS_V l_heldParcelS_A (loopAt l_heldParcelS_b 0) (l_heldParcelS_l2_mk z2_0 h2_0_0 x) (roundK l_heldParcelS_l2_L.kp l_heldParcelS_l2_L.kx c) = (l_heldParcelS_l2 h2_0_0 x).run (roundR (l_heldParcelS_l2_mk z2_0 h2_0_0) (l_heldParcelS_l2_out z2_0 h2_0_0) c) := fun _ _ _ _ => by
 kernel_rfl
theorem l_heldParcelS_l2_ok : LoopOK l_heldParcelS_V l_heldParcelS_A (loopAt l_heldParcelS_b 0) l_heldParcelS_l2_L := loopOK_of fun s e s' h => by
 generalize hs : restrict l_heldParcelS_l2_L.kp s = s1 at h
 have h : (l_heldParcelS_l2_D s1).run some = some (e, s') := h
 obtain ⟨z3, d2, e1, h_0⟩ := asImm_spec h
 obtain ⟨d5, e4, h_1⟩ := asImmZ_spec h_0
 obtain ⟨d7, e6, h_2⟩ := asImmZ_spec h_1
 obtain ⟨y, hy, hz⟩ := mat_some h_2
 refine ⟨_, _, l_heldParcelS_l2_mk z3 d2, l_heldParcelS_l2_out z3 d2, l_heldParcelS_l2 d2, (d5, d7), y, ?_, hy, ?_, l_heldParcelS_l2_step z3 d2⟩
 ·subst hs; exact restrict_eq (T := [(0, (.imm z3 (.sl kField) d2)), (1, (.imm true (.int .i64) d5)), (5, (.imm true (.int .i64) d7))]) (U := []) rfl rfl ⟨e1, e4, e6, trivial⟩ trivial
 ·rcases y with x | x <;> exact Option.some.inj hz
noncomputable def l_heldParcelS_I : FnI := ⟨l_heldParcelS_b, Try.f62.results.toList, Try.f62.resultTypes.toList, l_heldParcelS_A⟩
noncomputable def l_heldParcelS_out (_zp0 : Bool) (_p0 : (List (Int × (Int × Unit)))) (_p1 : Int) : Int → CallOut := fun r => ⟨(.imm true (.int .i64) r), [], []⟩
set_option maxRecDepth 100000 in
theorem l_heldParcelS_eq : ∀ (zp0 : Bool) (p0 : (List (Int × (Int × Unit)))) (p1 : Int), denFn l_heldParcelS_V l_heldParcelS_I ⟨[(.imm zp0 (.sl kField) p0), (.imm true (.int .i64) p1)], []⟩ = (l_heldParcelS p0 p1).run fun r => some (l_heldParcelS_out zp0 p0 p1 r) := fun _ _ _ => by kernel_rfl
noncomputable def l_heldParcelS_G (av : List AV) (rs : List Root) : Tre CallOut :=
 asCons av fun a0_ av0 =>
 asCons av0 fun a1_ av1 =>
 asEnd av1 <|
 asEnd rs <|
 asImm (.sl kField) a0_ fun z2 d1 =>
 asImmZ true (.int .i64) a1_ fun d3 =>
 .mat (l_heldParcelS_F d1 d3) fun r => .ret (l_heldParcelS_out z2 d1 d3 r)
noncomputable def l_heldParcelS_c : Ctr := ⟨[], fun ci => l_heldParcelS_G ci.args ci.roots, false⟩
theorem l_heldParcelS_env : EnvOK Try.prog l_heldParcelS_V := envOK_nil
set_option maxRecDepth 100000 in
theorem l_heldParcelS_ok : Contract Try.prog 62 l_heldParcelS_c := by
 have hl : LoopsOK l_heldParcelS_V l_heldParcelS_A l_heldParcelS_b := (loopsOK_all (n := 1) (by kernel_rfl) fun k hk => by
   match k, hk with
   | 0, _ => exact loopOK_at (id := 2) (L := l_heldParcelS_l2_L) (by kernel_rfl) (by kernel_rfl) l_heldParcelS_l2_ok)
 refine (contract_of (F := l_heldParcelS_I) tau_tys l_heldParcelS_env Try.func62 (by kernel_rfl) (by kernel_rfl) (by kernel_rfl) hl []).weaken ?_
 rintro ⟨av, rs⟩ co h
 have h : (l_heldParcelS_G av rs).run some = some co := h
 obtain ⟨a0_, av0, rfl, h_0⟩ := asCons_spec h
 obtain ⟨a1_, av1, rfl, h_1⟩ := asCons_spec h_0
 obtain ⟨rfl, h_2⟩ := asEnd_spec h_1
 obtain ⟨rfl, h_3⟩ := asEnd_spec h_2
 obtain ⟨z2, d1, rfl, h_4⟩ := asImm_spec h_3
 obtain ⟨d3, rfl, h_5⟩ := asImmZ_spec h_4
 exact fin_mat (l_heldParcelS_eq z2 d1 d3) h_5
end Go.Proofs.Ytohnlghdhbignaa

namespace Go.Proofs.Ytohnlghdhbignaa
open Go Go.Abs Go.Proofs
noncomputable def l_heldPlant (p0 : TPlant) (p1 : Int) : Tre Int :=
 .mat (l_heldStationS_F p0.1 p1) fun r1 =>
 .cond (decide (r1 < 0))
  (.ret (-1))
  (.mat (l_heldParcelS_F p0.2.1 r1) fun r2 =>
  .cond (decide (r2 < 0))
   (.ret (-1))
   (.ret r2))
noncomputable def l_heldPlant_F (p0 : TPlant) (p1 : Int) : Option Int := (l_heldPlant p0 p1).run some
-- more
theorem held_ok {k : Int} {n : Nat} (h0 : 0 ≤ k ∧ k ≤ 1000000) (hl : n ≤ 1000) : heldR (marks k n) k = some (k + (n : Int)) := by
 unfold heldR
 rw [marks_len, if_pos ⟨by rw [Bool.and_eq_true, inR_iff, decide_eq_true_eq]; omega, rfl⟩]
theorem held_stations {all : List (List Int × List Int × Unit)} : ∀ (l pre : List (List Int × List Int × Unit)) (k : Int), 0 ≤ k → k + 2000 * (l.length : Int) ≤ 1000000 → pre.length + l.length ≤ 1000 → (∀ s ∈ l, s.1.length ≤ 1000 ∧ s.2.1.length ≤ 1000) → all = pre ++ stMarks k l →
  loopF (l_heldStationS_l2 all) (k, (pre.length : Int)) = some (.inr (stEnd k l)) := by
 intro l
 induction l with
 | nil =>
  intro pre k _ _ _ _ ha
  refine loopF_done ?_
  unfold l_heldStationS_l2
  rw [Tre.run_cond, decide_eq_false (by rw [ha]; simp [stMarks]), cond_false, Tre.run_ret]
  rfl
 | cons s l ih =>
  intro pre k h0 hk hp h ha
  obtain ⟨s1, s2, ⟨⟩⟩ := s
  have hs := h (s1, s2, ()) (List.mem_cons_self)
  simp only [List.length_cons] at hk hs hp
  have hx : all[pre.length]? = some (marks k s1.length, marks (k + (s1.length : Int)) s2.length, ()) := by rw [ha]; simp [stMarks]
  have hstep : (l_heldStationS_l2 all (k, (pre.length : Int))).run some = some (.inl (k + (s1.length : Int) + (s2.length : Int), ((pre.length + 1 : Nat) : Int))) := by
   unfold l_heldStationS_l2
   dsimp only
   rw [run_inb hx, run_some_mat (held_ok (by omega) hs.1), Tre.run_cond, decide_eq_false (by omega), cond_false, run_at hx, run_some_mat (held_ok (by omega) hs.2), Tre.run_cond, decide_eq_false (by omega), cond_false, Tre.run_ret, iwrap_succ (by omega)]
  rw [loopF_step hstep]
  have := ih (pre ++ [(marks k s1.length, marks (k + (s1.length : Int)) s2.length, ())]) (k + (s1.length : Int) + (s2.length : Int)) (by omega) (by omega) (by simp; omega) (fun s hs => h s (List.mem_cons_of_mem _ hs)) (by rw [ha]; simp [stMarks])
  simp only [List.length_append, List.length_cons, List.length_nil, Nat.zero_add] at this
  exact this
theorem held_parcels {all : List (Int × Int × Unit)} : ∀ (l pre : List (Int × Int × Unit)) (k : Int), 0 ≤ k → k + 2 * (l.length : Int) ≤ 1000000 → pre.length + l.length ≤ 1000 → all = pre ++ paMarks k l →
  loopF (l_heldParcelS_l2 all) (k, (pre.length : Int)) = some (.inr (k + 2 * (l.length : Int))) := by
 intro l
 induction l with
 | nil =>
  intro pre k _ _ _ ha
  refine loopF_done ?_
  unfold l_heldParcelS_l2
  rw [Tre.run_cond, decide_eq_false (by rw [ha]; simp [paMarks]), cond_false, Tre.run_ret]
  simp
 | cons s l ih =>
  intro pre k h0 hk hp ha
  obtain ⟨s1, s2, ⟨⟩⟩ := s
  simp only [List.length_cons] at hk hp
  have hx : all[pre.length]? = some (k, k + 1, ()) := by rw [ha]; simp [paMarks]
  have hstep : (l_heldParcelS_l2 all (k, (pre.length : Int))).run some = some (.inl (k + 2, ((pre.length + 1 : Nat) : Int))) := by
   unfold l_heldParcelS_l2
   dsimp only
   rw [run_inb hx, Tre.run_cond]
   simp only [decide_true, Bool.not_true, cond_false]
   rw [run_at hx, iwrap_i64 (n := k + 1) (by omega) (by omega), Tre.run_cond]
   simp only [decide_true, Bool.not_true, cond_false]
   rw [iwrap_i64 (n := k + 1 + 1) (by omega) (by omega), Tre.run_ret, iwrap_succ (by omega), Int.add_assoc]
   rfl
  rw [loopF_step hstep]
  have := ih (pre ++ [(k, k + 1, ())]) (k + 2) (by omega) (by omega) (by simp; omega) (by rw [ha]; simp [paMarks])
  simp only [List.length_append, List.length_cons, List.length_nil, Nat.zero_add] at this
  rw [this, List.length_cons, show k + 2 + 2 * (l.length : Int) = k + 2 * ((l.length + 1 : Nat) : Int) by omega]
theorem held_plant {p : List (List Int × List Int × Unit) × List (Int × Int × Unit) × Unit} (h : smallP p) : l_heldPlant_F (plMarks 1 p) 1 = some (plEnd 1 p) := by
 obtain ⟨p1, p2, ⟨⟩⟩ := p
 obtain ⟨h1, h2, h3⟩ := h
 have h1 : p1.length ≤ 100 := h1
 have h3 : p2.length ≤ 100 := h3
 have hb := stEnd_le p1 1 h2
 have e1 : loopF (l_heldStationS_l2 (stMarks 1 p1)) (1, 0) = some (.inr (stEnd 1 p1)) := held_stations p1 [] 1 (by omega) (by omega) (by simp; omega) h2 rfl
 have e2 : loopF (l_heldParcelS_l2 (paMarks (stEnd 1 p1) p2)) (stEnd 1 p1, 0) = some (.inr (stEnd 1 p1 + 2 * (p2.length : Int))) := held_parcels p2 [] (stEnd 1 p1) (by omega) (by omega) (by simp; omega) rfl
 have f1 : l_heldStationS_F (stMarks 1 p1) 1 = some (stEnd 1 p1) := by
  unfold l_heldStationS_F l_heldStationS
  rw [run_some_mat e1]; rfl
 have f2 : l_heldParcelS_F (paMarks (stEnd 1 p1) p2) (stEnd 1 p1) = some (stEnd 1 p1 + 2 * (p2.length : Int)) := by
  unfold l_heldParcelS_F l_heldParcelS
  rw [run_some_mat e2]; rfl
 unfold l_heldPlant_F l_heldPlant plMarks plEnd
 dsimp only
 rw [run_some_mat f1, Tre.run_cond, decide_eq_false (by omega), cond_false, run_some_mat f2, Tre.run_cond, decide_eq_false (by omega), cond_false]
 rfl
noncomputable def l_heldPlant_V : Env := ⟨tau, [(61, l_heldStationS_c), (62, l_heldParcelS_c)], []⟩
noncomputable def l_heldPlant_b : Code := (Try.f29.body).getD .skip
noncomputable def l_heldPlant_I : FnI := ⟨l_heldPlant_b, Try.f29.results.toList, Try.f29.resultTypes.toList, []⟩
noncomputable def l_heldPlant_out (_zp0 : Bool) (_p0 : TPlant) (_p1 : Int) : Int → CallOut := fun r => ⟨(.imm true (.int .i64) r), [], []⟩
set_option maxRecDepth 100000 in
theorem l_heldPlant_eq : ∀ (zp0 : Bool) (p0 : TPlant) (p1 : Int), denFn l_heldPlant_V l_heldPlant_I ⟨[(.imm zp0 kPlant p0), (.imm true (.int .i64) p1)], []⟩ = (l_heldPlant p0 p1).run fun r => some (l_heldPlant_out zp0 p0 p1 r) := fun _ _ _ => by kernel_rfl
noncomputable def l_heldPlant_G (av : List AV) (rs : List Root) : Tre CallOut :=
 asCons av fun a0_ av0 =>
 asCons av0 fun a1_ av1 =>
 asEnd av1 <|
 asEnd rs <|
 asImm kPlant a0_ fun z2 d1 =>
 asImmZ true (.int .i64) a1_ fun d3 =>
 .mat (l_heldPlant_F d1 d3) fun r => .ret (l_heldPlant_out z2 d1 d3 r)
noncomputable def l_heldPlant_c : Ctr := ⟨[], fun ci => l_heldPlant_G ci.args ci.roots, false⟩
theorem l_heldPlant_env : EnvOK Try.prog l_heldPlant_V := (envOK_cons l_heldStationS_ok ent61 (envOK_cons l_heldParcelS_ok ent62 envOK_nil))
set_option maxRecDepth 100000 in
theorem l_heldPlant_ok : Contract Try.prog 29 l_heldPlant_c := by
 have hl : LoopsOK l_heldPlant_V [] l_heldPlant_b := loopsOK_nil (by kernel_rfl)
 refine (contract_of (F := l_heldPlant_I) tau_tys l_heldPlant_env Try.func29 (by kernel_rfl) (by kernel_rfl) (by kernel_rfl) hl []).weaken ?_
 rintro ⟨av, rs⟩ co h
 have h : (l_heldPlant_G av rs).run some = some co := h
 obtain ⟨a0_, av0, rfl, h_0⟩ := asCons_spec h
 obtain ⟨a1_, av1, rfl, h_1⟩ := asCons_spec h_0
 obtain ⟨rfl, h_2⟩ := asEnd_spec h_1
 obtain ⟨rfl, h_3⟩ := asEnd_spec h_2
 obtain ⟨z2, d1, rfl, h_4⟩ := asImm_spec h_3
 obtain ⟨d3, rfl, h_5⟩ := asImmZ_spec h_4
 exact fin_mat (l_heldPlant_eq z2 d1 d3) h_5
end Go.Proofs.Ytohnlghdhbignaa

namespace Go.Proofs.Ytohnlghdhbignaa
open Go Go.Abs Go.Proofs
noncomputable def l_FnExactPlantAfter (p0 : TGather) (p1 : (List TDeed)) : Tre Bool :=
 .cond (decide ((l_szGather_S p0 1048576) < 0))
  (.ret true)
  (let v1 := l_szDeedS_S p1 (l_szGather_S p0 1048576)
  .cond (decide (v1 < 0))
   (.ret true)
   (.mat (toG p0) fun r2 =>
   .mat (cloneR p1) fun r3 =>
   .mat (plantS (r2.1, (r2.2.1, (r2.2.2.2, r2.2.2.1))) r3) fun r4 =>
   .alt r4
    (fun a5 =>
     .mat (toG p0) fun r7 =>
     .mat (cloneR p1) fun r8 =>
     .mat (plantR (r7.1, (r7.2.1, (r7.2.2.2, r7.2.2.1))) r8) fun r9 =>
     .mat (l_eqPlant_F (r9.2.2.1, (r9.2.2.2, ())) (a5.2.2.1, (a5.2.2.2, ()))) fun r10 =>
     .cond (!r10)
      (.ret false)
      (.cond (!decide (r9.1 = a5.1))
       (.ret false)
       (.cond (!decide (r9.2.1 = a5.2.1))
        (.ret false)
        (.mat (toG p0) fun r11 =>
        .mat (eqG (r7.1, (r7.2.1, (r7.2.2.2, r7.2.2.1))) (r11.1, (r11.2.1, (r11.2.2.2, r11.2.2.1)))) fun r12 =>
        .cond (!r12)
         (.ret false)
         (.mat (cloneR p1) fun r13 =>
         .mat (eqDs r8 r13) fun r14 =>
         .cond (!r14)
          (.ret false)
          (.mat (markG r7.1 r7.2.1 r7.2.2.1 1 (r7.1, (r7.2.1, (r7.2.2.2, r7.2.2.1)))) fun r15 =>
          .mat (markD r15.1 r8) fun r16 =>
          .cond (decide (r16.1 < 0))
           (.ret false)
           (.mat (l_eqPlant_F (r9.2.2.1, (r9.2.2.2, ())) (a5.2.2.1, (a5.2.2.2, ()))) fun r17 =>
           .cond (!r17)
            (.ret false)
            (.cond (!decide (r9.1 = a5.1))
             (.ret false)
             (.cond (!decide (r9.2.1 = a5.2.1))
              (.ret false)
              (.mat (l_markPlant_4ae2_F 1 (r9.2.2.1, (r9.2.2.2, ()))) fun r18 =>
              .mat (l_heldPlant_F r18.2 1) fun r19 =>
              .cond (decide (r19 < 0))
               (.ret false)
               (.cond (!decide (r19 = r18.1))
                (.ret false)
                (.mat (toG p0) fun r20 =>
                .mat (cloneR p1) fun r21 =>
                .mat (plantR (r20.1, (r20.2.1, (r20.2.2.2, r20.2.2.1))) r21) fun r22 =>
                .mat (l_eqPlant_F (r22.2.2.1, (r22.2.2.2, ())) (a5.2.2.1, (a5.2.2.2, ()))) fun r23 =>
                .cond (!r23)
                 (.ret false)
                 (.cond (!decide (r22.1 = a5.1))
                  (.ret false)
                  (.cond (!decide (r22.2.1 = a5.2.1))
                   (.ret false)
                   (.mat (l_heldPlant_F r18.2 1) fun r24 =>
                   .cond (decide (r24 < 0))
                    (.ret false)
                    (.cond (!decide (r24 = r18.1))
                     (.ret false)
                     (.ret true)))))))))))))))))
    (fun b6 =>
     .mat (toG p0) fun r25 =>
     .mat (cloneR p1) fun r26 =>
     .mat (plantR (r25.1, (r25.2.1, (r25.2.2.2, r25.2.2.1))) r26) fun r27 =>
     .mat (l_eqPlant_F (r27.2.2.1, (r27.2.2.2, ())) b6.1) fun r28 =>
     .cond (!r28)
      (.ret false)
      (.cond (!decide (r27.1 = b6.2.1))
       (.ret false)
       (.cond (!decide (r27.2.1 = b6.2.2))
        (.ret false)
        (.mat (toG p0) fun r29 =>
        .mat (eqG (r25.1, (r25.2.1, (r25.2.2.2, r25.2.2.1))) (r29.1, (r29.2.1, (r29.2.2.2, r29.2.2.1)))) fun r30 =>
        .cond (!r30)
         (.ret false)
         (.mat (cloneR p1) fun r31 =>
         .mat (eqDs r26 r31) fun r32 =>
         .cond (!r32)
          (.ret false)
          (.mat (markG r25.1 r25.2.1 r25.2.2.1 1 (r25.1, (r25.2.1, (r25.2.2.2, r25.2.2.1)))) fun r33 =>
          .mat (markD r33.1 r26) fun r34 =>
          .cond (decide (r34.1 < 0))
           (.ret false)
           (.mat (l_eqPlant_F (r27.2.2.1, (r27.2.2.2, ())) b6.1) fun r35 =>
           .cond (!r35)
            (.ret false)
            (.cond (!decide (r27.1 = b6.2.1))
             (.ret false)
             (.cond (!decide (r27.2.1 = b6.2.2))
              (.ret false)
              (.mat (l_markPlant_4ae2_F 1 (r27.2.2.1, (r27.2.2.2, ()))) fun r36 =>
              .mat (l_heldPlant_F r36.2 1) fun r37 =>
              .cond (decide (r37 < 0))
               (.ret false)
               (.cond (!decide (r37 = r36.1))
                (.ret false)
                (.mat (toG p0) fun r38 =>
                .mat (cloneR p1) fun r39 =>
                .mat (plantR (r38.1, (r38.2.1, (r38.2.2.2, r38.2.2.1))) r39) fun r40 =>
                .mat (l_eqPlant_F (r40.2.2.1, (r40.2.2.2, ())) b6.1) fun r41 =>
                .cond (!r41)
                 (.ret false)
                 (.cond (!decide (r40.1 = b6.2.1))
                  (.ret false)
                  (.cond (!decide (r40.2.1 = b6.2.2))
                   (.ret false)
                   (.mat (l_heldPlant_F r36.2 1) fun r42 =>
                   .cond (decide (r42 < 0))
                    (.ret false)
                    (.cond (!decide (r42 = r36.1))
                     (.ret false)
                     (.ret true)))))))))))))))))))
noncomputable def l_FnExactPlantAfter_F (p0 : TGather) (p1 : (List TDeed)) : Option Bool := (l_FnExactPlantAfter p0 p1).run some
-- law
theorem plant_answers (g : G8) (ds : List D8) (h : (decide (g.2.2.1.length ≤ 1048576) && decide (ds.length ≤ 1048576)) = true) :
  ∃ (n c : Int) (p : P8), plantR g ds = some (n, c, p.1, p.2.1) ∧ (plantS g ds = some (.inl (n, c, p.1, p.2.1)) ∨ plantS g ds = some (.inr (p, n, c))) ∧ smallP p := by
 have e1 : plantR g ds = some (plantM g ds) := askO_true h
 have e2 : plantS g ds = some (cond (decide (askedM ds g = 0)) (.inr (afterM g ds, (zerosN (runM g ds (beginM g)).2 : Int), 0)) (.inl (0, askedM ds g, [], []))) := askO_true h
 rw [e1, e2]
 unfold plantM
 by_cases h0 : askedM ds g = 0
 ·obtain ⟨hg, hd, hl⟩ := askedM_zero h0
  have hP := afterM_ok hg hd hl
  obtain ⟨q1, q2, q3, _⟩ := okP_spec hP
  have hb := isG_spec hg
  have hst : statG g = 1 + g.2.2.2.1 + g.2.2.2.2.1 := rfl
  rw [decide_eq_true h0, cond_true]
  refine ⟨_, 0, afterM g ds, ?_, .inr rfl, ⟨by omega, fun s hs => ?_, by omega⟩⟩
  ·first | rfl | (rw [decide_eq_true h0]; rfl)
  ·have h1 := (okS_spec.1 (q2 s hs).1).1
   have h2 := (okS_spec.1 (q2 s hs).2).1
   omega
 ·rw [decide_eq_false h0, cond_false]
  refine ⟨0, askedM ds g, ([], [], ()), ?_, .inl rfl, ⟨by simp, fun s hs => (by cases hs), by simp⟩⟩
  first | rfl | (rw [decide_eq_false h0]; rfl)
theorem l_FnExactPlantAfter_law (p0 : Int × Int × List Int × Int × Int × Unit) (p1 : List (Int × Int × Int × Int × Unit)) (hw : kGather.wf p0) (h1 : (K.sl kDeed).wf p1) : l_FnExactPlantAfter_F p0 p1 = some true := by
 unfold l_FnExactPlantAfter_F l_FnExactPlantAfter
 rw [Tre.run_cond]
 by_cases hs : l_szGather_S p0 1048576 < 0
 ·rw [decide_eq_true hs]; rfl
 have hl := l_szGather_len hw.2.2.1.1 hs
 rw [decide_eq_false hs, cond_false]
 dsimp only
 rw [Tre.run_cond]
 by_cases hq : l_szDeedS_S p1 (l_szGather_S p0 1048576) < 0
 ·rw [decide_eq_true hq]; rfl
 have hd := l_szDeedS_len h1.1 (l_szGather_le hl) (by omega) hq
 rw [decide_eq_false hq, cond_false]
 have e1 : toG p0 = _ := lim_of hl
 have e1d : cloneR p1 = _ := lim_of hd
 obtain ⟨n, c, p, e2, e2s, hsm⟩ := plant_answers p0 p1 (by simp [hl, hd])
 have e3 : eqG p0 p0 = some true := eqR_self hl
 have e3d : eqDs p1 p1 = some true := eqR_self hd
 have e4 : l_eqPlant_F (p.1, p.2.1, ()) (p.1, p.2.1, ()) = some true := plant_self hsm
 have e5 : markG p0.1 p0.2.1 p0.2.2.2 1 p0 = some (1 + (p0.2.2.1.length : Int), (p0.1, p0.2.1, marks 1 p0.2.2.1.length, p0.2.2.2)) := askO_true (by simp [inR]; omega)
 have e5d : markD (1 + (p0.2.2.1.length : Int)) p1 = some (1 + (p0.2.2.1.length : Int) + 4 * (p1.length : Int), _) := askO_true (by simp [inR]; omega)
 have e6 : l_markPlant_4ae2_F 1 (p.1, p.2.1, ()) = some (plEnd 1 p, plMarks 1 p) := mark_plant hsm
 have e7 := held_plant hsm
 have hbe := stEnd_le p.1 1 hsm.2.1
 have hpe : plEnd 1 p = stEnd 1 p.1 + 2 * (p.2.1.length : Int) := rfl
 have c1 : decide (1 + (p0.2.2.1.length : Int) + 4 * (p1.length : Int) < 0) = false := by simp; omega
 have c2 : decide (plEnd 1 p < 0) = false := decide_eq_false (by omega)
 rw [run_some_mat e1, run_some_mat e1d]
 rcases e2s with e2s | e2s
 ·rw [run_some_mat e2s, Tre.run_inl, run_some_mat e1, run_some_mat e1d, run_some_mat e2]
  dsimp only
  rw [run_some_mat (x := true) e4]
  simp only [Tre.run_cond, decide_true, Bool.not_true, cond_false]
  rw [run_some_mat e1, run_some_mat (x := true) e3]
  simp only [Tre.run_cond, decide_true, Bool.not_true, cond_false]
  rw [run_some_mat e1d, run_some_mat (x := true) e3d]
  simp only [Tre.run_cond, decide_true, Bool.not_true, cond_false]
  rw [run_some_mat e5, run_some_mat e5d]
  simp only [Tre.run_cond, c1, cond_false]
  rw [run_some_mat (x := true) e4]
  simp only [Tre.run_cond, decide_true, Bool.not_true, cond_false]
  rw [run_some_mat e6]
  dsimp only
  rw [run_some_mat e7]
  simp only [Tre.run_cond, c2, decide_true, Bool.not_true, cond_false]
  rw [run_some_mat e1, run_some_mat e1d, run_some_mat e2]
  dsimp only
  rw [run_some_mat (x := true) e4]
  simp only [Tre.run_cond, decide_true, Bool.not_true, cond_false]
  rw [run_some_mat e7]
  simp only [Tre.run_cond, c2, decide_true, Bool.not_true, cond_false]
  rfl
 ·rw [run_some_mat e2s, Tre.run_inr, run_some_mat e1, run_some_mat e1d, run_some_mat e2]
  dsimp only
  have e4' : l_eqPlant_F (p.1, p.2.1, ()) p = some true := e4
  rw [run_some_mat (x := true) e4']
  simp only [Tre.run_cond, decide_true, Bool.not_true, cond_false]
  rw [run_some_mat e1, run_some_mat (x := true) e3]
  simp only [Tre.run_cond, decide_true, Bool.not_true, cond_false]
  rw [run_some_mat e1d, run_some_mat (x := true) e3d]
  simp only [Tre.run_cond, decide_true, Bool.not_true, cond_false]
  rw [run_some_mat e5, run_some_mat e5d]
  simp only [Tre.run_cond, c1, cond_false]
  rw [run_some_mat (x := true) e4']
  simp only [Tre.run_cond, decide_true, Bool.not_true, cond_false]
  rw [run_some_mat e6]
  dsimp only
  rw [run_some_mat e7]
  simp only [Tre.run_cond, c2, decide_true, Bool.not_true, cond_false]
  rw [run_some_mat e1, run_some_mat e1d, run_some_mat e2]
  dsimp only
  rw [run_some_mat (x := true) e4']
  simp only [Tre.run_cond, decide_true, Bool.not_true, cond_false]
  rw [run_some_mat e7]
  simp only [Tre.run_cond, c2, decide_true, Bool.not_true, cond_false]
  rfl
noncomputable def l_FnExactPlantAfter_V : Env := ⟨tau, [(19, l_szGather_c), (20, l_szDeedS_c), (21, l_toGather_c), (22, l_toDeedS_c), (13, s_PlantAfter_c), (11, i_PlantAfter_c), (23, l_eqPlant_c), (24, l_eqGather_c), (25, l_eqDeedS_c), (26, l_markGather_3874_c), (27, l_markDeedS_cc7b_c), (28, l_markPlant_4ae2_c), (29, l_heldPlant_c)], []⟩
noncomputable def l_FnExactPlantAfter_b : Code := (Try.f6.body).getD .skip
noncomputable def l_FnExactPlantAfter_I : FnI := ⟨l_FnExactPlantAfter_b, Try.f6.results.toList, Try.f6.resultTypes.toList, []⟩
noncomputable def l_FnExactPlantAfter_out (_zp0 : Bool) (_zp1 : Bool) (_p0 : TGather) (_p1 : (List TDeed)) : Bool → CallOut := fun r => ⟨(.imm true .bool r), [], []⟩
set_option maxRecDepth 100000 in
theorem l_FnExactPlantAfter_eq : ∀ (zp0 : Bool) (zp1 : Bool) (p0 : TGather) (p1 : (List TDeed)), denFn l_FnExactPlantAfter_V l_FnExactPlantAfter_I ⟨[(.imm zp0 kGather p0), (.imm zp1 (.sl kDeed) p1)], []⟩ = (l_FnExactPlantAfter p0 p1).run fun r => some (l_FnExactPlantAfter_out zp0 zp1 p0 p1 r) := fun _ _ _ _ => by kernel_rfl
noncomputable def l_FnExactPlantAfter_G (av : List AV) (rs : List Root) : Tre CallOut :=
 asCons av fun a0_ av0 =>
 asCons av0 fun a1_ av1 =>
 asEnd av1 <|
 asEnd rs <|
 asImm kGather a0_ fun z2 d1 =>
 asImm (.sl kDeed) a1_ fun z4 d3 =>
 .mat (l_FnExactPlantAfter_F d1 d3) fun r => .ret (l_FnExactPlantAfter_out z2 z4 d1 d3 r)
noncomputable def l_FnExactPlantAfter_c : Ctr := ⟨[], fun ci => l_FnExactPlantAfter_G ci.args ci.roots, false⟩
theorem l_FnExactPlantAfter_env : EnvOK Try.prog l_FnExactPlantAfter_V := (envOK_cons l_szGather_ok ent19 (envOK_cons l_szDeedS_ok ent20 (envOK_cons l_toGather_ok ent21 (envOK_cons l_toDeedS_ok ent22 (envOK_cons s_PlantAfter_ok ent13 (envOK_cons i_PlantAfter_ok ent11 (envOK_cons l_eqPlant_ok ent23 (envOK_cons l_eqGather_ok ent24 (envOK_cons l_eqDeedS_ok ent25 (envOK_cons l_markGather_3874_ok ent26 (envOK_cons l_markDeedS_cc7b_ok ent27 (envOK_cons l_markPlant_4ae2_ok ent28 (envOK_cons l_heldPlant_ok ent29 envOK_nil)))))))))))))
set_option maxRecDepth 100000 in
theorem l_FnExactPlantAfter_ok : Contract Try.prog 6 l_FnExactPlantAfter_c := by
 have hl : LoopsOK l_FnExactPlantAfter_V [] l_FnExactPlantAfter_b := loopsOK_nil (by kernel_rfl)
 refine (contract_of (F := l_FnExactPlantAfter_I) tau_tys l_FnExactPlantAfter_env Try.func6 (by kernel_rfl) (by kernel_rfl) (by kernel_rfl) hl []).weaken ?_
 rintro ⟨av, rs⟩ co h
 have h : (l_FnExactPlantAfter_G av rs).run some = some co := h
 obtain ⟨a0_, av0, rfl, h_0⟩ := asCons_spec h
 obtain ⟨a1_, av1, rfl, h_1⟩ := asCons_spec h_0
 obtain ⟨rfl, h_2⟩ := asEnd_spec h_1
 obtain ⟨rfl, h_3⟩ := asEnd_spec h_2
 obtain ⟨z2, d1, rfl, h_4⟩ := asImm_spec h_3
 obtain ⟨z4, d3, rfl, h_5⟩ := asImm_spec h_4
 exact fin_mat (l_FnExactPlantAfter_eq z2 z4 d1 d3) h_5
end Go.Proofs.Ytohnlghdhbignaa
