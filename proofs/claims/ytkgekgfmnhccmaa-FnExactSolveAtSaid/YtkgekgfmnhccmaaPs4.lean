/- Part 4 of the proof of FnExactSolveAt. -/
import Derived.Test.YtkgekgfmnhccmaaPs3
namespace Go.Proofs.Ytkgekgfmnhccmaa
open Go Go.Abs Go.Proofs
noncomputable def s_l07Rows_8c37Z_l4 (h4_0_1 : TNet) : (Int × (List (List Int))) → Tre ((Int × (List (List Int))) ⊕ (List (List Int))) := fun s4 =>
 .cond (decide (s4.1 < h4_0_1.2.2.1))
  (.mat (s_l07Unit_F h4_0_1.2.2.1 s4.1) fun r1 =>
  .ite ((s4.2.length + 1) * 24 ≤ appendMax ∧ 1 ≤ 24) <|
  .ret (.inl (iwrap .i64 (s4.1 + 1), s4.2 ++ ([r1]))))
  (.ret (.inr s4.2))
noncomputable def s_l07Rows_8c37Z_l11 (h11_0_3 : (List (List Int))) (h11_0_4 : (List Int)) : (Int × (List (List Int))) → Tre ((Int × (List (List Int))) ⊕ (List (List Int))) := fun s11 =>
 .cond (decide (s11.1 < (h11_0_4.length : Int)))
  (.ite (0 ≤ s11.1 ∧ s11.1 < (h11_0_4.length : Int)) <|
  .mat (h11_0_4[s11.1.toNat]?) fun x5 =>
  .ite (0 ≤ x5 ∧ x5 < (h11_0_3.length : Int)) <|
  .mat (h11_0_3[x5.toNat]?) fun x6 =>
  .ite ((s11.2.length + 1) * 24 ≤ appendMax ∧ 1 ≤ 24) <|
  .ret (.inl (iwrap .i64 (s11.1 + 1), s11.2 ++ ([x6]))))
  (.ret (.inr s11.2))
noncomputable def s_l07Rows_8c37Z (p0 : Int) (p1 : TNet) : Tre (List (List Int)) :=
 .cond (decide (p0 = 0))
  (.mat (loopF (s_l07Rows_8c37Z_l4 p1) (0, [])) fun l2 =>
  .ret l2)
  (.mat (s_l07Vectors_d9f5_F p1) fun r3 =>
  .mat (s_l07Into_e270_F p1 p0) fun r4 =>
  .mat (loopF (s_l07Rows_8c37Z_l11 r3 r4) (0, [])) fun l7 =>
  .ret l7)
noncomputable def s_l07Rows_8c37Z_F (p0 : Int) (p1 : TNet) : Option (List (List Int)) := (s_l07Rows_8c37Z p0 p1).run some
-- more
theorem srowsZ_is {n : TN6} (h : NetP n) (node : Int) : s_l07Rows_8c37Z_F node n = some (rowsV n node) := by
 have hE := h.len
 have hil : (intoV n.2.2.2.1 node).length ≤ n.2.2.2.1.length := pickI_len _ 0
 obtain ⟨hm1, hm2, hm3⟩ := mess_ok h
 unfold s_l07Rows_8c37Z_F s_l07Rows_8c37Z rowsV
 rw [Tre.run_cond]
 by_cases h0 : node = 0
 ·rw [decide_eq_true h0, cond_true, if_pos h0]
  have key := fold_loop (xs := List.range (messN n)) (step := s_l07Rows_8c37Z_l4 n) (γ := List (List Int)) (fun (i : Nat) acc => ((i : Int), acc)) (fun _ acc k => .inl (acc ++ [unitV (messN n) k])) id (fun i acc => acc.length = i) (by
   intro i acc x hx hi
   have hlt := (List.getElem?_eq_some_iff.1 hx).1
   rw [List.length_range] at hlt
   rw [List.getElem?_range hlt] at hx
   cases hx
   refine ⟨?_, fun a ha => ?_⟩
   ·unfold s_l07Rows_8c37Z_l4
    dsimp only
    rw [Tre.run_cond, decide_eq_true (by omega), cond_true, hm1, run_some_mat (sunit_is hlt (by omega)), Tre.run_ite, if_pos (by unfold appendMax; omega), Tre.run_ret, iwrap_succ (by omega)]
   ·cases ha; simp [hi]) (by
   intro acc _
   unfold s_l07Rows_8c37Z_l4
   dsimp only
   rw [Tre.run_cond, decide_eq_false (by rw [List.length_range]; omega), cond_false]
   rfl) _ 0 [] rfl (Nat.zero_le _) rfl
  rw [foldE_app] at key
  have key : loopF (s_l07Rows_8c37Z_l4 n) (0, []) = some ((List.range (messN n)).map (unitV (messN n))) := key
  rw [run_some_mat key]
  rfl
 ·rw [decide_eq_false h0, cond_false, if_neg h0, run_some_mat (svecs_is h), run_some_mat (s_l07Into_is n h.len h.two3 node)]
  have key := fold_loop (xs := intoV n.2.2.2.1 node) (step := s_l07Rows_8c37Z_l11 (vectorsV n) (intoV n.2.2.2.1 node)) (γ := List (List Int)) (fun (i : Nat) acc => ((i : Int), acc)) (fun _ acc x => .inl (acc ++ [(vectorsV n).getD x.toNat []])) id (fun i acc => acc.length = i) (by
   intro i acc x hx hi
   have hlt := (List.getElem?_eq_some_iff.1 hx).1
   obtain ⟨j, rfl, hj⟩ := into_all h (List.mem_of_getElem? hx)
   obtain ⟨v, hv, _⟩ := vectorsV_ok h hj
   have hvl := vectorsV_len n
   refine ⟨?_, fun a ha => ?_⟩
   ·unfold s_l07Rows_8c37Z_l11
    dsimp only
    rw [Tre.run_cond, decide_eq_true (by omega), cond_true, Tre.run_ite, if_pos (by omega), Int.toNat_natCast, run_some_mat hx, Tre.run_ite, if_pos (by omega), Int.toNat_natCast, run_some_mat hv, Tre.run_ite, if_pos (by unfold appendMax; omega), Tre.run_ret, iwrap_succ (by omega), getD_of hv]
   ·cases ha; simp [hi]) (by
   intro acc _
   unfold s_l07Rows_8c37Z_l11
   dsimp only
   rw [Tre.run_cond, decide_eq_false (by omega), cond_false]
   rfl) _ 0 [] rfl (Nat.zero_le _) rfl
  rw [foldE_app] at key
  have key : loopF (s_l07Rows_8c37Z_l11 (vectorsV n) (intoV n.2.2.2.1 node)) (0, []) = some ((intoV n.2.2.2.1 node).map fun x => (vectorsV n).getD x.toNat []) := key
  rw [run_some_mat key]
  rfl
noncomputable def s_l07Rows_8c37Z_V : Env := ⟨tau, [(111, s_l07Unit_c), (45, s_l07Vectors_d9f5_c), (47, s_l07Into_e270_c)], [(10, [((9, 0), [], true), ((7, 0), [], true)]), (1000000, [((6, 0), [], false)])]⟩
noncomputable def s_l07Rows_8c37Z_b : Code := (Try.f62.body).getD .skip
noncomputable def s_l07Rows_8c37Z_l4_mk (z4_0 : Bool) (h4_0_1 : TNet) : (Int × (List (List Int))) → St := fun x => stOf [(0, (.ptr (0, 0) [])), (5, (.ref (7, 0) [])), (6, (.imm true (.int .i64) x.1))] [((0, 0), some ⟨true, kNet, (.imm z4_0), h4_0_1⟩), ((7, 0), some ⟨false, (.sl (.sl (.int .i64))), .own, x.2⟩)]
noncomputable def s_l07Rows_8c37Z_l4_out (z4_0 : Bool) (h4_0_1 : TNet) : (List (List Int)) → Ex × St := fun x => (.exit 0, stOf [(5, (.ref (7, 0) []))] [((0, 0), some ⟨true, kNet, (.imm z4_0), h4_0_1⟩), ((7, 0), some ⟨false, (.sl (.sl (.int .i64))), .own, x⟩)])
noncomputable def s_l07Rows_8c37Z_l4_D (s : St) : Tre (Ex × St) :=
 asPtr (0, 0) [] (s.tmps 0) <|
 asRef (7, 0) [] (s.tmps 5) <|
 asImmZ true (.int .i64) (s.tmps 6) fun d4 =>
 asRoot true kNet (s.roots (0, 0)) fun m6 d7 =>
 asMImm m6 fun z8 =>
 asRoot false (.sl (.sl (.int .i64))) (s.roots (7, 0)) fun m10 d11 =>
 asM .own m10 <|
 .mat (loopF (s_l07Rows_8c37Z_l4 d7) (d4, d11)) fun x => .ret (s_l07Rows_8c37Z_l4_out z8 d7 x)
noncomputable def s_l07Rows_8c37Z_l4_L : LoopI := ⟨([0, 5, 6], [(0, 0), (7, 0)]), ([5], [(0, 0), (7, 0)]), s_l07Rows_8c37Z_l4_D⟩
noncomputable def s_l07Rows_8c37Z_l11_mk (z11_0 : Bool) (h11_0_1 : TNet) (h11_0_3 : (List (List Int))) (h11_0_4 : (List Int)) : (Int × (List (List Int))) → St := fun x => stOf [(5, (.ref (7, 0) [])), (7, (.ref (9, 0) [])), (8, (.ref (10, 0) [])), (9, (.imm true (.int .i64) x.1))] [((0, 0), some ⟨true, kNet, (.imm z11_0), h11_0_1⟩), ((7, 0), some ⟨false, (.sl (.sl (.int .i64))), (.sl (.imm true)), x.2⟩), ((9, 0), some ⟨false, (.sl (.sl (.int .i64))), (.sl (.imm true)), h11_0_3⟩), ((10, 0), some ⟨false, (.sl (.int .i64)), .own, h11_0_4⟩)]
noncomputable def s_l07Rows_8c37Z_l11_out (z11_0 : Bool) (h11_0_1 : TNet) (_h11_0_3 : (List (List Int))) (_h11_0_4 : (List Int)) : (List (List Int)) → Ex × St := fun x => (.exit 2, stOf [(5, (.ref (7, 0) []))] [((0, 0), some ⟨true, kNet, (.imm z11_0), h11_0_1⟩), ((7, 0), some ⟨false, (.sl (.sl (.int .i64))), (.sl (.imm true)), x⟩)])
noncomputable def s_l07Rows_8c37Z_l11_D (s : St) : Tre (Ex × St) :=
 asRef (7, 0) [] (s.tmps 5) <|
 asRef (9, 0) [] (s.tmps 7) <|
 asRef (10, 0) [] (s.tmps 8) <|
 asImmZ true (.int .i64) (s.tmps 9) fun d5 =>
 asRoot true kNet (s.roots (0, 0)) fun m7 d8 =>
 asMImm m7 fun z9 =>
 asRoot false (.sl (.sl (.int .i64))) (s.roots (7, 0)) fun m11 d12 =>
 asM (.sl (.imm true)) m11 <|
 asRoot false (.sl (.sl (.int .i64))) (s.roots (9, 0)) fun m14 d15 =>
 asM (.sl (.imm true)) m14 <|
 asRoot false (.sl (.int .i64)) (s.roots (10, 0)) fun m17 d18 =>
 asM .own m17 <|
 .mat (loopF (s_l07Rows_8c37Z_l11 d15 d18) (d5, d12)) fun x => .ret (s_l07Rows_8c37Z_l11_out z9 d8 d15 d18 x)
noncomputable def s_l07Rows_8c37Z_l11_L : LoopI := ⟨([5, 7, 8, 9], [(0, 0), (7, 0), (9, 0), (10, 0)]), ([5], [(0, 0), (7, 0)]), s_l07Rows_8c37Z_l11_D⟩
noncomputable def s_l07Rows_8c37Z_A : List (Nat × LoopI) := [(4, s_l07Rows_8c37Z_l4_L), (11, s_l07Rows_8c37Z_l11_L)]
set_option maxRecDepth 100000 in
theorem s_l07Rows_8c37Z_l4_step : ∀ (z4_0 : Bool) (h4_0_1 : TNet) (x : (Int × (List (List Int)))) (c : St → Option (Ex × St)), den s_l07Rows_8c37Z_V s_l07Rows_8c37Z_A (loopAt s_l07Rows_8c37Z_b 0) (s_l07Rows_8c37Z_l4_mk z4_0 h4_0_1 x) (roundK s_l07Rows_8c37Z_l4_L.kp s_l07Rows_8c37Z_l4_L.kx c) = (s_l07Rows_8c37Z_l4 h4_0_1 x).run (roundR (s_l07Rows_8c37Z_l4_mk z4_0 h4_0_1) (s_l07Rows_8c37Z_l4_out z4_0 h4_0_1) c) := fun _ _ _ _ => by
 kernel_rfl
theorem s_l07Rows_8c37Z_l4_ok : LoopOK s_l07Rows_8c37Z_V s_l07Rows_8c37Z_A (loopAt s_l07Rows_8c37Z_b 0) s_l07Rows_8c37Z_l4_L := loopOK_of fun s e s' h => by
 generalize hs : restrict s_l07Rows_8c37Z_l4_L.kp s = s1 at h
 have h : (s_l07Rows_8c37Z_l4_D s1).run some = some (e, s') := h
 obtain ⟨e1, h_0⟩ := asPtr_spec h
 obtain ⟨e2, h_1⟩ := asRef_spec h_0
 obtain ⟨d4, e3, h_2⟩ := asImmZ_spec h_1
 obtain ⟨m6, d7, e5, h_3⟩ := asRoot_spec h_2
 obtain ⟨z8, rfl, h_4⟩ := asMImm_spec h_3
 obtain ⟨m10, d11, e9, h_5⟩ := asRoot_spec h_4
 obtain ⟨rfl, h_6⟩ := asM_spec h_5
 obtain ⟨y, hy, hz⟩ := mat_ret h_6
 refine ⟨_, _, s_l07Rows_8c37Z_l4_mk z8 d7, s_l07Rows_8c37Z_l4_out z8 d7, s_l07Rows_8c37Z_l4 d7, (d4, d11), y, ?_, hy, ?_, s_l07Rows_8c37Z_l4_step z8 d7⟩
 ·subst hs; exact restrict_eq (T := [(0, (.ptr (0, 0) [])), (5, (.ref (7, 0) [])), (6, (.imm true (.int .i64) d4))]) (U := [((0, 0), some ⟨true, kNet, (.imm z8), d7⟩), ((7, 0), some ⟨false, (.sl (.sl (.int .i64))), .own, d11⟩)]) rfl rfl ⟨e1, e2, e3, trivial⟩ ⟨e5, e9, trivial⟩
 ·exact Option.some.inj hz
set_option maxRecDepth 100000 in
theorem s_l07Rows_8c37Z_l11_step : ∀ (z11_0 : Bool) (h11_0_1 : TNet) (h11_0_3 : (List (List Int))) (h11_0_4 : (List Int)) (x : (Int × (List (List Int)))) (c : St → Option (Ex × St)), den s_l07Rows_8c37Z_V s_l07Rows_8c37Z_A (loopAt s_l07Rows_8c37Z_b 1) (s_l07Rows_8c37Z_l11_mk z11_0 h11_0_1 h11_0_3 h11_0_4 x) (roundK s_l07Rows_8c37Z_l11_L.kp s_l07Rows_8c37Z_l11_L.kx c) = (s_l07Rows_8c37Z_l11 h11_0_3 h11_0_4 x).run (roundR (s_l07Rows_8c37Z_l11_mk z11_0 h11_0_1 h11_0_3 h11_0_4) (s_l07Rows_8c37Z_l11_out z11_0 h11_0_1 h11_0_3 h11_0_4) c) := fun _ _ _ _ _ _ => by
 kernel_rfl
theorem s_l07Rows_8c37Z_l11_ok : LoopOK s_l07Rows_8c37Z_V s_l07Rows_8c37Z_A (loopAt s_l07Rows_8c37Z_b 1) s_l07Rows_8c37Z_l11_L := loopOK_of fun s e s' h => by
 generalize hs : restrict s_l07Rows_8c37Z_l11_L.kp s = s1 at h
 have h : (s_l07Rows_8c37Z_l11_D s1).run some = some (e, s') := h
 obtain ⟨e1, h_0⟩ := asRef_spec h
 obtain ⟨e2, h_1⟩ := asRef_spec h_0
 obtain ⟨e3, h_2⟩ := asRef_spec h_1
 obtain ⟨d5, e4, h_3⟩ := asImmZ_spec h_2
 obtain ⟨m7, d8, e6, h_4⟩ := asRoot_spec h_3
 obtain ⟨z9, rfl, h_5⟩ := asMImm_spec h_4
 obtain ⟨m11, d12, e10, h_6⟩ := asRoot_spec h_5
 obtain ⟨rfl, h_7⟩ := asM_spec h_6
 obtain ⟨m14, d15, e13, h_8⟩ := asRoot_spec h_7
 obtain ⟨rfl, h_9⟩ := asM_spec h_8
 obtain ⟨m17, d18, e16, h_10⟩ := asRoot_spec h_9
 obtain ⟨rfl, h_11⟩ := asM_spec h_10
 obtain ⟨y, hy, hz⟩ := mat_ret h_11
 refine ⟨_, _, s_l07Rows_8c37Z_l11_mk z9 d8 d15 d18, s_l07Rows_8c37Z_l11_out z9 d8 d15 d18, s_l07Rows_8c37Z_l11 d15 d18, (d5, d12), y, ?_, hy, ?_, s_l07Rows_8c37Z_l11_step z9 d8 d15 d18⟩
 ·subst hs; exact restrict_eq (T := [(5, (.ref (7, 0) [])), (7, (.ref (9, 0) [])), (8, (.ref (10, 0) [])), (9, (.imm true (.int .i64) d5))]) (U := [((0, 0), some ⟨true, kNet, (.imm z9), d8⟩), ((7, 0), some ⟨false, (.sl (.sl (.int .i64))), (.sl (.imm true)), d12⟩), ((9, 0), some ⟨false, (.sl (.sl (.int .i64))), (.sl (.imm true)), d15⟩), ((10, 0), some ⟨false, (.sl (.int .i64)), .own, d18⟩)]) rfl rfl ⟨e1, e2, e3, e4, trivial⟩ ⟨e6, e10, e13, e16, trivial⟩
 ·exact Option.some.inj hz
noncomputable def s_l07Rows_8c37Z_I : FnI := ⟨s_l07Rows_8c37Z_b, Try.f62.results.toList, Try.f62.resultTypes.toList, s_l07Rows_8c37Z_A⟩
noncomputable def s_l07Rows_8c37Z_out (zp0 : Bool) (_p0 : Int) (p1 : TNet) : (List (List Int)) → CallOut := fun r => ⟨(.imm true (.sl (.sl (.int .i64))) r), [⟨true, kNet, (.imm zp0), p1⟩], []⟩
set_option maxRecDepth 100000 in
theorem s_l07Rows_8c37Z_eq : ∀ (zp0 : Bool) (p0 : Int) (p1 : TNet), denFn s_l07Rows_8c37Z_V s_l07Rows_8c37Z_I ⟨[(.ptr (0, 0) []), (.imm true (.int .i64) p0)], [⟨true, kNet, (.imm zp0), p1⟩]⟩ = (s_l07Rows_8c37Z p0 p1).run fun r => some (s_l07Rows_8c37Z_out zp0 p0 p1 r) := fun _ _ _ => by kernel_rfl
noncomputable def s_l07Rows_8c37Z_G (av : List AV) (rs : List Root) : Tre CallOut :=
 asCons av fun a0_ av0 =>
 asCons av0 fun a1_ av1 =>
 asEnd av1 <|
 asCons rs fun r0_ rs0 =>
 asEnd rs0 <|
 asPtr (0, 0) [] a0_ <|
 asImmZ true (.int .i64) a1_ fun d1 =>
 asRt true kNet r0_ fun m2 d3 =>
 asMImm m2 fun z4 =>
 .mat (s_l07Rows_8c37Z_F d1 d3) fun r => .ret (s_l07Rows_8c37Z_out z4 d1 d3 r)
noncomputable def s_l07Rows_8c37Z_c : Ctr := ⟨[], fun ci => s_l07Rows_8c37Z_G ci.args ci.roots, false⟩
theorem s_l07Rows_8c37Z_env : EnvOK Try.prog .none s_l07Rows_8c37Z_V := (envOK_cons s_l07Unit_ok ent111 (envOK_cons s_l07Vectors_d9f5_ok ent45 (envOK_cons s_l07Into_e270_ok ent47 envOK_nil)))
set_option maxRecDepth 100000 in
theorem s_l07Rows_8c37Z_ok : Contract Try.prog .none 62 s_l07Rows_8c37Z_c := by
 have hl : LoopsOK s_l07Rows_8c37Z_V s_l07Rows_8c37Z_A s_l07Rows_8c37Z_b := (loopsOK_all (n := 2) (by kernel_rfl) fun k hk => by
   match k, hk with
   | 0, _ => exact loopOK_at (id := 4) (L := s_l07Rows_8c37Z_l4_L) (by kernel_rfl) (by kernel_rfl) s_l07Rows_8c37Z_l4_ok
   | 1, _ => exact loopOK_at (id := 11) (L := s_l07Rows_8c37Z_l11_L) (by kernel_rfl) (by kernel_rfl) s_l07Rows_8c37Z_l11_ok)
 refine (contract_of (F := s_l07Rows_8c37Z_I) tau_tys s_l07Rows_8c37Z_env Try.func62 (by kernel_rfl) (by kernel_rfl) (by kernel_rfl) hl []).weaken ?_
 rintro ⟨av, rs⟩ co h
 have h : (s_l07Rows_8c37Z_G av rs).run some = some co := h
 obtain ⟨a0_, av0, rfl, h_0⟩ := asCons_spec h
 obtain ⟨a1_, av1, rfl, h_1⟩ := asCons_spec h_0
 obtain ⟨rfl, h_2⟩ := asEnd_spec h_1
 obtain ⟨r0_, rs0, rfl, h_3⟩ := asCons_spec h_2
 obtain ⟨rfl, h_4⟩ := asEnd_spec h_3
 obtain ⟨rfl, h_5⟩ := asPtr_spec h_4
 obtain ⟨d1, rfl, h_6⟩ := asImmZ_spec h_5
 obtain ⟨m2, d3, rfl, h_7⟩ := asRt_spec h_6
 obtain ⟨z4, rfl, h_8⟩ := asMImm_spec h_7
 exact fin_mat (s_l07Rows_8c37Z_eq z4 d1 d3) h_8
end Go.Proofs.Ytkgekgfmnhccmaa

namespace Go.Proofs.Ytkgekgfmnhccmaa
open Go Go.Abs Go.Proofs
noncomputable def s_l00OwnZ (p0 : (List Int)) : Tre (List Int) :=
 .ite ((0 + p0.length) * 8 ≤ appendMax ∧ 1 ≤ 8) <|
 .ret ([] ++ p0)
noncomputable def s_l00OwnZ_F (p0 : (List Int)) : Option (List Int) := (s_l00OwnZ p0).run some
-- more
theorem ownZ_is {p0 : List Int} (h : p0.length ≤ 1048576) : s_l00OwnZ_F p0 = some p0 := by
 unfold s_l00OwnZ_F s_l00OwnZ
 rw [Tre.run_ite, if_pos (by unfold appendMax; omega)]
 rfl
noncomputable def s_l00OwnZ_V : Env := ⟨tau, [], [(1000000, [((4, 0), [], false)])]⟩
noncomputable def s_l00OwnZ_b : Code := (Try.f64.body).getD .skip
noncomputable def s_l00OwnZ_I : FnI := ⟨s_l00OwnZ_b, Try.f64.results.toList, Try.f64.resultTypes.toList, []⟩
noncomputable def s_l00OwnZ_out (_zp0 : Bool) (_p0 : (List Int)) : (List Int) → CallOut := fun r => ⟨(.imm true (.sl (.int .i64)) r), [], []⟩
set_option maxRecDepth 100000 in
theorem s_l00OwnZ_eq : ∀ (zp0 : Bool) (p0 : (List Int)), denFn s_l00OwnZ_V s_l00OwnZ_I ⟨[(.imm zp0 (.sl (.int .i64)) p0)], []⟩ = (s_l00OwnZ p0).run fun r => some (s_l00OwnZ_out zp0 p0 r) := fun _ _ => by kernel_rfl
noncomputable def s_l00OwnZ_G (av : List AV) (rs : List Root) : Tre CallOut :=
 asCons av fun a0_ av0 =>
 asEnd av0 <|
 asEnd rs <|
 asImm (.sl (.int .i64)) a0_ fun z2 d1 =>
 .mat (s_l00OwnZ_F d1) fun r => .ret (s_l00OwnZ_out z2 d1 r)
noncomputable def s_l00OwnZ_c : Ctr := ⟨[], fun ci => s_l00OwnZ_G ci.args ci.roots, false⟩
theorem s_l00OwnZ_env : EnvOK Try.prog .none s_l00OwnZ_V := envOK_nil
set_option maxRecDepth 100000 in
theorem s_l00OwnZ_ok : Contract Try.prog .none 64 s_l00OwnZ_c := by
 have hl : LoopsOK s_l00OwnZ_V [] s_l00OwnZ_b := loopsOK_nil (by kernel_rfl)
 refine (contract_of (F := s_l00OwnZ_I) tau_tys s_l00OwnZ_env Try.func64 (by kernel_rfl) (by kernel_rfl) (by kernel_rfl) hl []).weaken ?_
 rintro ⟨av, rs⟩ co h
 have h : (s_l00OwnZ_G av rs).run some = some co := h
 obtain ⟨a0_, av0, rfl, h_0⟩ := asCons_spec h
 obtain ⟨rfl, h_1⟩ := asEnd_spec h_0
 obtain ⟨rfl, h_2⟩ := asEnd_spec h_1
 obtain ⟨z2, d1, rfl, h_3⟩ := asImm_spec h_2
 exact fin_mat (s_l00OwnZ_eq z2 d1) h_3
end Go.Proofs.Ytkgekgfmnhccmaa

namespace Go.Proofs.Ytkgekgfmnhccmaa
open Go Go.Abs Go.Proofs
noncomputable def s_l01Power_l2 (h2_0_0 : Int) (h2_0_3 : (Int × (Int × Unit))) : (Int × Int) → Tre ((Int × Int) ⊕ Int) := fun s2 =>
 .cond (decide (s2.1 > 0))
  (.mat (s_l01Mul_F h2_0_3 s2.2 h2_0_0) fun r1 =>
  .ret (.inl (iwrap .i64 (s2.1 - 1), r1)))
  (.ret (.inr s2.2))
noncomputable def s_l01Power (p0 : (Int × (Int × Unit))) (p1 : Int) (p2 : Int) : Tre Int :=
 .mat (loopF (s_l01Power_l2 p1 p0) (p2, 1)) fun l2 =>
 .ret l2
noncomputable def s_l01Power_F (p0 : (Int × (Int × Unit))) (p1 : Int) (p2 : Int) : Option Int := (s_l01Power p0 p1 p2).run some
noncomputable def s_l01Power_V : Env := ⟨tau, [(101, s_l01Mul_c)], []⟩
noncomputable def s_l01Power_b : Code := (Try.f144.body).getD .skip
noncomputable def s_l01Power_l2_mk (h2_0_0 : Int) (h2_0_3 : (Int × (Int × Unit))) : (Int × Int) → St := fun x => stOf [(1, (.imm true (.int .i64) h2_0_0)), (2, (.imm true (.int .i64) x.1)), (3, (.ptr (5, 0) [])), (7, (.imm true (.int .i64) x.2))] [((5, 0), some ⟨true, kField, .own, h2_0_3⟩)]
noncomputable def s_l01Power_l2_out (_h2_0_0 : Int) (_h2_0_3 : (Int × (Int × Unit))) : Int → Ex × St := fun x => (.exit 0, stOf [(7, (.imm true (.int .i64) x))] [])
noncomputable def s_l01Power_l2_D (s : St) : Tre (Ex × St) :=
 asImmZ true (.int .i64) (s.tmps 1) fun d2 =>
 asImmZ true (.int .i64) (s.tmps 2) fun d4 =>
 asPtr (5, 0) [] (s.tmps 3) <|
 asImmZ true (.int .i64) (s.tmps 7) fun d7 =>
 asRoot true kField (s.roots (5, 0)) fun m9 d10 =>
 asM .own m9 <|
 .mat (loopF (s_l01Power_l2 d2 d10) (d4, d7)) fun x => .ret (s_l01Power_l2_out d2 d10 x)
noncomputable def s_l01Power_l2_L : LoopI := ⟨([1, 2, 3, 7], [(5, 0)]), ([7], []), s_l01Power_l2_D⟩
noncomputable def s_l01Power_A : List (Nat × LoopI) := [(2, s_l01Power_l2_L)]
set_option maxRecDepth 100000 in
theorem s_l01Power_l2_step : ∀ (h2_0_0 : Int) (h2_0_3 : (Int × (Int × Unit))) (x : (Int × Int)) (c : St → Option (Ex × St)), den s_l01Power_V s_l01Power_A (loopAt s_l01Power_b 0) (s_l01Power_l2_mk h2_0_0 h2_0_3 x) (roundK s_l01Power_l2_L.kp s_l01Power_l2_L.kx c) = (s_l01Power_l2 h2_0_0 h2_0_3 x).run (roundR (s_l01Power_l2_mk h2_0_0 h2_0_3) (s_l01Power_l2_out h2_0_0 h2_0_3) c) := fun _ _ _ _ => by
 kernel_rfl
theorem s_l01Power_l2_ok : LoopOK s_l01Power_V s_l01Power_A (loopAt s_l01Power_b 0) s_l01Power_l2_L := loopOK_of fun s e s' h => by
 generalize hs : restrict s_l01Power_l2_L.kp s = s1 at h
 have h : (s_l01Power_l2_D s1).run some = some (e, s') := h
 obtain ⟨d2, e1, h_0⟩ := asImmZ_spec h
 obtain ⟨d4, e3, h_1⟩ := asImmZ_spec h_0
 obtain ⟨e5, h_2⟩ := asPtr_spec h_1
 obtain ⟨d7, e6, h_3⟩ := asImmZ_spec h_2
 obtain ⟨m9, d10, e8, h_4⟩ := asRoot_spec h_3
 obtain ⟨rfl, h_5⟩ := asM_spec h_4
 obtain ⟨y, hy, hz⟩ := mat_ret h_5
 refine ⟨_, _, s_l01Power_l2_mk d2 d10, s_l01Power_l2_out d2 d10, s_l01Power_l2 d2 d10, (d4, d7), y, ?_, hy, ?_, s_l01Power_l2_step d2 d10⟩
 ·subst hs; exact restrict_eq (T := [(1, (.imm true (.int .i64) d2)), (2, (.imm true (.int .i64) d4)), (3, (.ptr (5, 0) [])), (7, (.imm true (.int .i64) d7))]) (U := [((5, 0), some ⟨true, kField, .own, d10⟩)]) rfl rfl ⟨e1, e3, e5, e6, trivial⟩ ⟨e8, trivial⟩
 ·exact Option.some.inj hz
noncomputable def s_l01Power_I : FnI := ⟨s_l01Power_b, Try.f144.results.toList, Try.f144.resultTypes.toList, s_l01Power_A⟩
noncomputable def s_l01Power_out (_p0 : (Int × (Int × Unit))) (_p1 : Int) (_p2 : Int) : Int → CallOut := fun r => ⟨(.imm true (.int .i64) r), [], []⟩
set_option maxRecDepth 100000 in
theorem s_l01Power_eq : ∀ (p0 : (Int × (Int × Unit))) (p1 : Int) (p2 : Int), denFn s_l01Power_V s_l01Power_I ⟨[(.imm true kField p0), (.imm true (.int .i64) p1), (.imm true (.int .i64) p2)], []⟩ = (s_l01Power p0 p1 p2).run fun r => some (s_l01Power_out p0 p1 p2 r) := fun _ _ _ => by kernel_rfl
noncomputable def s_l01Power_G (av : List AV) (rs : List Root) : Tre CallOut :=
 asCons av fun a0_ av0 =>
 asCons av0 fun a1_ av1 =>
 asCons av1 fun a2_ av2 =>
 asEnd av2 <|
 asEnd rs <|
 asImmZ true kField a0_ fun d1 =>
 asImmZ true (.int .i64) a1_ fun d2 =>
 asImmZ true (.int .i64) a2_ fun d3 =>
 .mat (s_l01Power_F d1 d2 d3) fun r => .ret (s_l01Power_out d1 d2 d3 r)
noncomputable def s_l01Power_c : Ctr := ⟨[], fun ci => s_l01Power_G ci.args ci.roots, false⟩
theorem s_l01Power_env : EnvOK Try.prog .none s_l01Power_V := (envOK_cons s_l01Mul_ok ent101 envOK_nil)
set_option maxRecDepth 100000 in
theorem s_l01Power_ok : Contract Try.prog .none 144 s_l01Power_c := by
 have hl : LoopsOK s_l01Power_V s_l01Power_A s_l01Power_b := (loopsOK_all (n := 1) (by kernel_rfl) fun k hk => by
   match k, hk with
   | 0, _ => exact loopOK_at (id := 2) (L := s_l01Power_l2_L) (by kernel_rfl) (by kernel_rfl) s_l01Power_l2_ok)
 refine (contract_of (F := s_l01Power_I) tau_tys s_l01Power_env Try.func144 (by kernel_rfl) (by kernel_rfl) (by kernel_rfl) hl []).weaken ?_
 rintro ⟨av, rs⟩ co h
 have h : (s_l01Power_G av rs).run some = some co := h
 obtain ⟨a0_, av0, rfl, h_0⟩ := asCons_spec h
 obtain ⟨a1_, av1, rfl, h_1⟩ := asCons_spec h_0
 obtain ⟨a2_, av2, rfl, h_2⟩ := asCons_spec h_1
 obtain ⟨rfl, h_3⟩ := asEnd_spec h_2
 obtain ⟨rfl, h_4⟩ := asEnd_spec h_3
 obtain ⟨d1, rfl, h_5⟩ := asImmZ_spec h_4
 obtain ⟨d2, rfl, h_6⟩ := asImmZ_spec h_5
 obtain ⟨d3, rfl, h_7⟩ := asImmZ_spec h_6
 exact fin_mat (s_l01Power_eq d1 d2 d3) h_7
end Go.Proofs.Ytkgekgfmnhccmaa

namespace Go.Proofs.Ytkgekgfmnhccmaa
open Go Go.Abs Go.Proofs
noncomputable def s_l01Inverse (p0 : (Int × (Int × Unit))) (p1 : Int) : Tre Int :=
 .mat (s_l01Size_F p0) fun r1 =>
 .mat (s_l01Power_F p0 p1 (iwrap .i64 (r1 - 2))) fun r2 =>
 .ret r2
noncomputable def s_l01Inverse_F (p0 : (Int × (Int × Unit))) (p1 : Int) : Option Int := (s_l01Inverse p0 p1).run some
-- more
set_option maxRecDepth 100000
theorem sinv_2 : chk1 s_l01Inverse_F invN 1 2 = true := by kernel_rfl
theorem sinv_3 : chk1 s_l01Inverse_F invN 1 3 = true := by kernel_rfl
theorem sinv_7 : chk1 s_l01Inverse_F invN 2 7 = true := by kernel_rfl
theorem sinv_11 : chk1 s_l01Inverse_F invN 3 11 = true := by kernel_rfl
theorem sinv_13 : chk1 s_l01Inverse_F invN 3 13 = true := by kernel_rfl
theorem sinv_19 : chk1 s_l01Inverse_F invN 4 19 = true := by kernel_rfl
theorem sinv_25 : chk1 s_l01Inverse_F invN 4 25 = true := by kernel_rfl
theorem sinv_31 : chk1 s_l01Inverse_F invN 4 31 = true := by kernel_rfl
theorem sinv_37 : chk1 s_l01Inverse_F invN 5 37 = true := by kernel_rfl
theorem sinv_41 : chk1 s_l01Inverse_F invN 5 41 = true := by kernel_rfl
theorem sinv_47 : chk1 s_l01Inverse_F invN 5 47 = true := by kernel_rfl
theorem sinv_55 : chk1 s_l01Inverse_F invN 5 55 = true := by kernel_rfl
theorem sinv_59 : chk1 s_l01Inverse_F invN 5 59 = true := by kernel_rfl
theorem sinv_61 : chk1 s_l01Inverse_F invN 5 61 = true := by kernel_rfl
theorem sinv_is {f : TF3} (hf : fieldOk f = true) {a : Int} (ha : inF f a) : s_l01Inverse_F f a = some (invI f a) := by
 refine one_of (fun q hq => ?_) hf ha
 simp only [fieldN, List.mem_cons, List.not_mem_nil, or_false] at hq
 rcases hq with rfl | rfl | rfl | rfl | rfl | rfl | rfl | rfl | rfl | rfl | rfl | rfl | rfl | rfl
 ·exact sinv_2
 ·exact sinv_3
 ·exact sinv_7
 ·exact sinv_11
 ·exact sinv_13
 ·exact sinv_19
 ·exact sinv_25
 ·exact sinv_31
 ·exact sinv_37
 ·exact sinv_41
 ·exact sinv_47
 ·exact sinv_55
 ·exact sinv_59
 ·exact sinv_61
noncomputable def s_l01Inverse_V : Env := ⟨tau, [(86, s_l01Size_c), (144, s_l01Power_c)], []⟩
noncomputable def s_l01Inverse_b : Code := (Try.f113.body).getD .skip
noncomputable def s_l01Inverse_I : FnI := ⟨s_l01Inverse_b, Try.f113.results.toList, Try.f113.resultTypes.toList, []⟩
noncomputable def s_l01Inverse_out (_p0 : (Int × (Int × Unit))) (_p1 : Int) : Int → CallOut := fun r => ⟨(.imm true (.int .i64) r), [], []⟩
set_option maxRecDepth 100000 in
theorem s_l01Inverse_eq : ∀ (p0 : (Int × (Int × Unit))) (p1 : Int), denFn s_l01Inverse_V s_l01Inverse_I ⟨[(.imm true kField p0), (.imm true (.int .i64) p1)], []⟩ = (s_l01Inverse p0 p1).run fun r => some (s_l01Inverse_out p0 p1 r) := fun _ _ => by kernel_rfl
noncomputable def s_l01Inverse_G (av : List AV) (rs : List Root) : Tre CallOut :=
 asCons av fun a0_ av0 =>
 asCons av0 fun a1_ av1 =>
 asEnd av1 <|
 asEnd rs <|
 asImmZ true kField a0_ fun d1 =>
 asImmZ true (.int .i64) a1_ fun d2 =>
 .mat (s_l01Inverse_F d1 d2) fun r => .ret (s_l01Inverse_out d1 d2 r)
noncomputable def s_l01Inverse_c : Ctr := ⟨[], fun ci => s_l01Inverse_G ci.args ci.roots, false⟩
theorem s_l01Inverse_env : EnvOK Try.prog .none s_l01Inverse_V := (envOK_cons s_l01Size_ok ent86 (envOK_cons s_l01Power_ok ent144 envOK_nil))
set_option maxRecDepth 100000 in
theorem s_l01Inverse_ok : Contract Try.prog .none 113 s_l01Inverse_c := by
 have hl : LoopsOK s_l01Inverse_V [] s_l01Inverse_b := loopsOK_nil (by kernel_rfl)
 refine (contract_of (F := s_l01Inverse_I) tau_tys s_l01Inverse_env Try.func113 (by kernel_rfl) (by kernel_rfl) (by kernel_rfl) hl []).weaken ?_
 rintro ⟨av, rs⟩ co h
 have h : (s_l01Inverse_G av rs).run some = some co := h
 obtain ⟨a0_, av0, rfl, h_0⟩ := asCons_spec h
 obtain ⟨a1_, av1, rfl, h_1⟩ := asCons_spec h_0
 obtain ⟨rfl, h_2⟩ := asEnd_spec h_1
 obtain ⟨rfl, h_3⟩ := asEnd_spec h_2
 obtain ⟨d1, rfl, h_4⟩ := asImmZ_spec h_3
 obtain ⟨d2, rfl, h_5⟩ := asImmZ_spec h_4
 exact fin_mat (s_l01Inverse_eq d1 d2) h_5
end Go.Proofs.Ytkgekgfmnhccmaa

namespace Go.Proofs.Ytkgekgfmnhccmaa
open Go Go.Abs Go.Proofs
noncomputable def s_l04AddZ_l3 (h3_0_0 : (List Int)) (h3_0_1 : (List Int)) (h3_0_2 : Int) (h3_0_4 : (Int × (Int × Unit))) : (Int × (List Int)) → Tre ((Int × (List Int)) ⊕ (List Int)) := fun s3 =>
 .cond (decide (s3.1 < (h3_0_0.length : Int)))
  (.ite (0 ≤ s3.1 ∧ s3.1 < (h3_0_0.length : Int)) <|
  .mat (h3_0_0[s3.1.toNat]?) fun x1 =>
  .ite (0 ≤ s3.1 ∧ s3.1 < (h3_0_1.length : Int)) <|
  .mat (h3_0_1[s3.1.toNat]?) fun x2 =>
  .mat (s_l01Mul_F h3_0_4 x2 h3_0_2) fun r3 =>
  .ite ((s3.2.length + 1) * 8 ≤ appendMax ∧ 1 ≤ 8) <|
  let v4 := s3.2 ++ ([ixor .i64 x1 r3])
  .ret (.inl (iwrap .i64 (s3.1 + 1), v4)))
  (.ret (.inr s3.2))
noncomputable def s_l04AddZ (p0 : (Int × (Int × Unit))) (p1 : (List Int)) (p2 : (List Int)) (p3 : Int) : Tre (List Int) :=
 .mat (loopF (s_l04AddZ_l3 p1 p2 p3 p0) (0, [])) fun l5 =>
 .ret l5
noncomputable def s_l04AddZ_F (p0 : (Int × (Int × Unit))) (p1 : (List Int)) (p2 : (List Int)) (p3 : Int) : Option (List Int) := (s_l04AddZ p0 p1 p2 p3).run some
-- more
theorem s_l04AddZ_is {f : TF3} (hf : fieldOk f = true) {u w : List Int} (hl : u.length = w.length) (hs : u.length ≤ 1000000) (hw : ∀ y ∈ w, inF f y) {x : Int} (hx : inF f x) : s_l04AddZ_F f u w x = some (addV f u w x) := by
 have key := fold_loop (xs := u.zip w) (step := s_l04AddZ_l3 u w x f) (fun (i : Nat) (acc : List Int) => ((i : Int), acc)) (fun _ acc p => .inl (acc ++ [ixor .i64 p.1 (mulI f p.2 x)])) id (fun i acc => acc.length = i) (by
  intro i acc p hp hi
  have hlt := (List.getElem?_eq_some_iff.1 hp).1
  rw [List.length_zip] at hlt
  obtain ⟨p1, p2⟩ := p
  rw [List.getElem?_zip_eq_some] at hp
  obtain ⟨h1, h2⟩ := hp
  refine ⟨?_, fun a ha => ?_⟩
  ·unfold s_l04AddZ_l3
   dsimp only
   rw [Tre.run_cond, decide_eq_true (by omega), cond_true, Tre.run_ite, if_pos (by omega), Int.toNat_natCast, run_some_mat h1, Tre.run_ite, if_pos (by omega), run_some_mat h2, run_some_mat (smul_is hf (hw _ (List.mem_of_getElem? h2)) hx), Tre.run_ite, if_pos (by unfold appendMax; omega), Tre.run_ret, iwrap_succ (by omega)]
  ·cases ha; simp [hi]) (by
  intro acc _
  unfold s_l04AddZ_l3
  dsimp only
  rw [Tre.run_cond, decide_eq_false (by rw [List.length_zip]; omega), cond_false]
  rfl) (u.zip w) 0 [] rfl (Nat.zero_le _) rfl
 rw [foldE_app] at key
 have key : loopF (s_l04AddZ_l3 u w x f) (0, []) = some (addV f u w x) := key
 unfold s_l04AddZ_F s_l04AddZ
 rw [run_some_mat key]
 rfl
noncomputable def s_l04AddZ_V : Env := ⟨tau, [(101, s_l01Mul_c)], [(1000000, [((10, 0), [], false)])]⟩
noncomputable def s_l04AddZ_b : Code := (Try.f112.body).getD .skip
noncomputable def s_l04AddZ_l3_mk (z3_0 : Bool) (z3_1 : Bool) (h3_0_0 : (List Int)) (h3_0_1 : (List Int)) (h3_0_2 : Int) (h3_0_4 : (Int × (Int × Unit))) : (Int × (List Int)) → St := fun x => stOf [(1, (.imm z3_0 (.sl (.int .i64)) h3_0_0)), (2, (.imm z3_1 (.sl (.int .i64)) h3_0_1)), (3, (.imm true (.int .i64) h3_0_2)), (4, (.ptr (6, 0) [])), (9, (.ref (11, 0) [])), (10, (.imm true (.int .i64) x.1))] [((6, 0), some ⟨true, kField, .own, h3_0_4⟩), ((11, 0), some ⟨false, (.sl (.int .i64)), .own, x.2⟩)]
noncomputable def s_l04AddZ_l3_out (_z3_0 : Bool) (_z3_1 : Bool) (_h3_0_0 : (List Int)) (_h3_0_1 : (List Int)) (_h3_0_2 : Int) (_h3_0_4 : (Int × (Int × Unit))) : (List Int) → Ex × St := fun x => (.exit 0, stOf [(9, (.ref (11, 0) []))] [((11, 0), some ⟨false, (.sl (.int .i64)), .own, x⟩)])
noncomputable def s_l04AddZ_l3_D (s : St) : Tre (Ex × St) :=
 asImm (.sl (.int .i64)) (s.tmps 1) fun z3 d2 =>
 asImm (.sl (.int .i64)) (s.tmps 2) fun z6 d5 =>
 asImmZ true (.int .i64) (s.tmps 3) fun d8 =>
 asPtr (6, 0) [] (s.tmps 4) <|
 asRef (11, 0) [] (s.tmps 9) <|
 asImmZ true (.int .i64) (s.tmps 10) fun d12 =>
 asRoot true kField (s.roots (6, 0)) fun m14 d15 =>
 asM .own m14 <|
 asRoot false (.sl (.int .i64)) (s.roots (11, 0)) fun m17 d18 =>
 asM .own m17 <|
 .mat (loopF (s_l04AddZ_l3 d2 d5 d8 d15) (d12, d18)) fun x => .ret (s_l04AddZ_l3_out z3 z6 d2 d5 d8 d15 x)
noncomputable def s_l04AddZ_l3_L : LoopI := ⟨([1, 2, 3, 4, 9, 10], [(6, 0), (11, 0)]), ([9], [(11, 0)]), s_l04AddZ_l3_D⟩
noncomputable def s_l04AddZ_A : List (Nat × LoopI) := [(3, s_l04AddZ_l3_L)]
set_option maxRecDepth 100000 in
theorem s_l04AddZ_l3_step : ∀ (z3_0 : Bool) (z3_1 : Bool) (h3_0_0 : (List Int)) (h3_0_1 : (List Int)) (h3_0_2 : Int) (h3_0_4 : (Int × (Int × Unit))) (x : (Int × (List Int))) (c : St → Option (Ex × St)), den s_l04AddZ_V s_l04AddZ_A (loopAt s_l04AddZ_b 0) (s_l04AddZ_l3_mk z3_0 z3_1 h3_0_0 h3_0_1 h3_0_2 h3_0_4 x) (roundK s_l04AddZ_l3_L.kp s_l04AddZ_l3_L.kx c) = (s_l04AddZ_l3 h3_0_0 h3_0_1 h3_0_2 h3_0_4 x).run (roundR (s_l04AddZ_l3_mk z3_0 z3_1 h3_0_0 h3_0_1 h3_0_2 h3_0_4) (s_l04AddZ_l3_out z3_0 z3_1 h3_0_0 h3_0_1 h3_0_2 h3_0_4) c) := fun _ _ _ _ _ _ _ _ => by
 kernel_rfl
theorem s_l04AddZ_l3_ok : LoopOK s_l04AddZ_V s_l04AddZ_A (loopAt s_l04AddZ_b 0) s_l04AddZ_l3_L := loopOK_of fun s e s' h => by
 generalize hs : restrict s_l04AddZ_l3_L.kp s = s1 at h
 have h : (s_l04AddZ_l3_D s1).run some = some (e, s') := h
 obtain ⟨z3, d2, e1, h_0⟩ := asImm_spec h
 obtain ⟨z6, d5, e4, h_1⟩ := asImm_spec h_0
 obtain ⟨d8, e7, h_2⟩ := asImmZ_spec h_1
 obtain ⟨e9, h_3⟩ := asPtr_spec h_2
 obtain ⟨e10, h_4⟩ := asRef_spec h_3
 obtain ⟨d12, e11, h_5⟩ := asImmZ_spec h_4
 obtain ⟨m14, d15, e13, h_6⟩ := asRoot_spec h_5
 obtain ⟨rfl, h_7⟩ := asM_spec h_6
 obtain ⟨m17, d18, e16, h_8⟩ := asRoot_spec h_7
 obtain ⟨rfl, h_9⟩ := asM_spec h_8
 obtain ⟨y, hy, hz⟩ := mat_ret h_9
 refine ⟨_, _, s_l04AddZ_l3_mk z3 z6 d2 d5 d8 d15, s_l04AddZ_l3_out z3 z6 d2 d5 d8 d15, s_l04AddZ_l3 d2 d5 d8 d15, (d12, d18), y, ?_, hy, ?_, s_l04AddZ_l3_step z3 z6 d2 d5 d8 d15⟩
 ·subst hs; exact restrict_eq (T := [(1, (.imm z3 (.sl (.int .i64)) d2)), (2, (.imm z6 (.sl (.int .i64)) d5)), (3, (.imm true (.int .i64) d8)), (4, (.ptr (6, 0) [])), (9, (.ref (11, 0) [])), (10, (.imm true (.int .i64) d12))]) (U := [((6, 0), some ⟨true, kField, .own, d15⟩), ((11, 0), some ⟨false, (.sl (.int .i64)), .own, d18⟩)]) rfl rfl ⟨e1, e4, e7, e9, e10, e11, trivial⟩ ⟨e13, e16, trivial⟩
 ·exact Option.some.inj hz
noncomputable def s_l04AddZ_I : FnI := ⟨s_l04AddZ_b, Try.f112.results.toList, Try.f112.resultTypes.toList, s_l04AddZ_A⟩
noncomputable def s_l04AddZ_out (_zp0 : Bool) (_zp1 : Bool) (_p0 : (Int × (Int × Unit))) (_p1 : (List Int)) (_p2 : (List Int)) (_p3 : Int) : (List Int) → CallOut := fun r => ⟨(.imm true (.sl (.int .i64)) r), [], []⟩
set_option maxRecDepth 100000 in
theorem s_l04AddZ_eq : ∀ (zp0 : Bool) (zp1 : Bool) (p0 : (Int × (Int × Unit))) (p1 : (List Int)) (p2 : (List Int)) (p3 : Int), denFn s_l04AddZ_V s_l04AddZ_I ⟨[(.imm true kField p0), (.imm zp0 (.sl (.int .i64)) p1), (.imm zp1 (.sl (.int .i64)) p2), (.imm true (.int .i64) p3)], []⟩ = (s_l04AddZ p0 p1 p2 p3).run fun r => some (s_l04AddZ_out zp0 zp1 p0 p1 p2 p3 r) := fun _ _ _ _ _ _ => by kernel_rfl
noncomputable def s_l04AddZ_G (av : List AV) (rs : List Root) : Tre CallOut :=
 asCons av fun a0_ av0 =>
 asCons av0 fun a1_ av1 =>
 asCons av1 fun a2_ av2 =>
 asCons av2 fun a3_ av3 =>
 asEnd av3 <|
 asEnd rs <|
 asImmZ true kField a0_ fun d1 =>
 asImm (.sl (.int .i64)) a1_ fun z3 d2 =>
 asImm (.sl (.int .i64)) a2_ fun z5 d4 =>
 asImmZ true (.int .i64) a3_ fun d6 =>
 .mat (s_l04AddZ_F d1 d2 d4 d6) fun r => .ret (s_l04AddZ_out z3 z5 d1 d2 d4 d6 r)
noncomputable def s_l04AddZ_c : Ctr := ⟨[], fun ci => s_l04AddZ_G ci.args ci.roots, false⟩
theorem s_l04AddZ_env : EnvOK Try.prog .none s_l04AddZ_V := (envOK_cons s_l01Mul_ok ent101 envOK_nil)
set_option maxRecDepth 100000 in
theorem s_l04AddZ_ok : Contract Try.prog .none 112 s_l04AddZ_c := by
 have hl : LoopsOK s_l04AddZ_V s_l04AddZ_A s_l04AddZ_b := (loopsOK_all (n := 1) (by kernel_rfl) fun k hk => by
   match k, hk with
   | 0, _ => exact loopOK_at (id := 3) (L := s_l04AddZ_l3_L) (by kernel_rfl) (by kernel_rfl) s_l04AddZ_l3_ok)
 refine (contract_of (F := s_l04AddZ_I) tau_tys s_l04AddZ_env Try.func112 (by kernel_rfl) (by kernel_rfl) (by kernel_rfl) hl []).weaken ?_
 rintro ⟨av, rs⟩ co h
 have h : (s_l04AddZ_G av rs).run some = some co := h
 obtain ⟨a0_, av0, rfl, h_0⟩ := asCons_spec h
 obtain ⟨a1_, av1, rfl, h_1⟩ := asCons_spec h_0
 obtain ⟨a2_, av2, rfl, h_2⟩ := asCons_spec h_1
 obtain ⟨a3_, av3, rfl, h_3⟩ := asCons_spec h_2
 obtain ⟨rfl, h_4⟩ := asEnd_spec h_3
 obtain ⟨rfl, h_5⟩ := asEnd_spec h_4
 obtain ⟨d1, rfl, h_6⟩ := asImmZ_spec h_5
 obtain ⟨z3, d2, rfl, h_7⟩ := asImm_spec h_6
 obtain ⟨z5, d4, rfl, h_8⟩ := asImm_spec h_7
 obtain ⟨d6, rfl, h_9⟩ := asImmZ_spec h_8
 exact fin_mat (s_l04AddZ_eq z3 z5 d1 d2 d4 d6) h_9
end Go.Proofs.Ytkgekgfmnhccmaa

namespace Go.Proofs.Ytkgekgfmnhccmaa
open Go Go.Abs Go.Proofs
noncomputable def s_l04Echelon_l3 (h3_0_1 : (List (List Int))) : (Int × (List (List Int))) → Tre ((Int × (List (List Int))) ⊕ (List (List Int))) := fun s3 =>
 .cond (decide (s3.1 < (h3_0_1.length : Int)))
  (.ite (0 ≤ s3.1 ∧ s3.1 < (h3_0_1.length : Int)) <|
  .mat (h3_0_1[s3.1.toNat]?) fun x1 =>
  .mat (s_l00OwnZ_F x1) fun r2 =>
  .ite ((s3.2.length + 1) * 24 ≤ appendMax ∧ 1 ≤ 24) <|
  .ret (.inl (iwrap .i64 (s3.1 + 1), s3.2 ++ ([r2]))))
  (.ret (.inr s3.2))
noncomputable def s_l04Echelon_l11 (h11_0_2 : Int) (h11_0_5 : (List (List Int))) : Int → Tre (Int ⊕ Int) := fun s11 =>
 .cond (decide (s11 < (h11_0_5.length : Int)))
  (.ite (0 ≤ s11 ∧ s11 < (h11_0_5.length : Int)) <|
  .mat (h11_0_5[s11.toNat]?) fun x4 =>
  .ite (0 ≤ h11_0_2 ∧ h11_0_2 < (x4.length : Int)) <|
  .mat (x4[h11_0_2.toNat]?) fun x5 =>
  .cond (decide (x5 = 0))
   (.ret (.inl (iwrap .i64 (s11 + 1))))
   (.ret (.inr s11)))
  (.ret (.inr s11))
noncomputable def s_l04Echelon_l18 (h18_0_1 : Int) (h18_0_2 : Int) (h18_0_4 : (Int × (Int × Unit))) : (Int × (List (List Int))) → Tre ((Int × (List (List Int))) ⊕ (List (List Int))) := fun s18 =>
 .cond (decide (s18.1 < (s18.2.length : Int)))
  (.cond (!decide (s18.1 = h18_0_1))
   (.ite (0 ≤ s18.1 ∧ s18.1 < (s18.2.length : Int)) <|
   .mat (s18.2[s18.1.toNat]?) fun x15 =>
   .ite (0 ≤ h18_0_2 ∧ h18_0_2 < (x15.length : Int)) <|
   .mat (x15[h18_0_2.toNat]?) fun x16 =>
   .cond (!decide (x16 = 0))
    (.ite (0 ≤ s18.1 ∧ s18.1 < (s18.2.length : Int)) <|
    .mat (s18.2[s18.1.toNat]?) fun x17 =>
    .ite (0 ≤ h18_0_1 ∧ h18_0_1 < (s18.2.length : Int)) <|
    .mat (s18.2[h18_0_1.toNat]?) fun x18 =>
    .ite (0 ≤ s18.1 ∧ s18.1 < (s18.2.length : Int)) <|
    .mat (s18.2[s18.1.toNat]?) fun x19 =>
    .ite (0 ≤ h18_0_2 ∧ h18_0_2 < (x19.length : Int)) <|
    .mat (x19[h18_0_2.toNat]?) fun x20 =>
    .mat (s_l04AddZ_F h18_0_4 x17 x18 x20) fun r21 =>
    .ite (0 ≤ s18.1 ∧ s18.1 < (s18.2.length : Int)) <|
    .mat (s18.2[s18.1.toNat]?) fun _ =>
    let v23 := s18.2.set s18.1.toNat r21
    .ret (.inl (iwrap .i64 (s18.1 + 1), v23)))
    (.ret (.inl (iwrap .i64 (s18.1 + 1), s18.2))))
   (.ret (.inl (iwrap .i64 (s18.1 + 1), s18.2))))
  (.ret (.inr s18.2))
noncomputable def s_l04Echelon_l8 (h8_0_0 : Int) (h8_0_3 : (Int × (Int × Unit))) : (Int × Int × (List (List Int))) → Tre ((Int × Int × (List (List Int))) ⊕ (Int × (List (List Int)))) := fun s8 =>
 .cond (decide (s8.2.1 < h8_0_0))
  (.mat (loopF (s_l04Echelon_l11 s8.2.1 s8.2.2) s8.1) fun l6 =>
  .cond (decide (l6 = (s8.2.2.length : Int)))
   (.ret (.inl (s8.1, iwrap .i64 (s8.2.1 + 1), s8.2.2)))
   (.ite (0 ≤ l6 ∧ l6 < (s8.2.2.length : Int)) <|
   .mat (s8.2.2[l6.toNat]?) fun x7 =>
   .ite (0 ≤ s8.1 ∧ s8.1 < (s8.2.2.length : Int)) <|
   .mat (s8.2.2[s8.1.toNat]?) fun x8 =>
   .ite (0 ≤ l6 ∧ l6 < (s8.2.2.length : Int)) <|
   .mat (s8.2.2[l6.toNat]?) fun _ =>
   .ite (((.int .i64) : K) = (.int .i64) ∧ 0 ≤ h8_0_0 ∧ h8_0_0 = h8_0_0 ∧ h8_0_0 * (8 : Nat) ≤ 140737488355328 ∧ 1 ≤ 8) <|
   .ite (0 ≤ s8.2.1 ∧ s8.2.1 < (x7.length : Int)) <|
   .mat (x7[s8.2.1.toNat]?) fun x10 =>
   .mat (s_l01Inverse_F h8_0_3 x10) fun r11 =>
   .mat (s_l04AddZ_F h8_0_3 (List.replicate h8_0_0.toNat (0 : Int)) x7 r11) fun r12 =>
   .ite (0 ≤ s8.1 ∧ s8.1 < ((s8.2.2.set l6.toNat x8).length : Int)) <|
   .mat ((s8.2.2.set l6.toNat x8)[s8.1.toNat]?) fun _ =>
   let v14 := (s8.2.2.set l6.toNat x8).set s8.1.toNat r12
   .mat (loopF (s_l04Echelon_l18 s8.1 s8.2.1 h8_0_3) (0, v14)) fun l24 =>
   .ret (.inl (iwrap .i64 (s8.1 + 1), iwrap .i64 (s8.2.1 + 1), l24))))
  (.ret (.inr (s8.1, s8.2.2)))
noncomputable def s_l04Echelon (p0 : (Int × (Int × Unit))) (p1 : Int) (p2 : (List (List Int))) : Tre (List (List Int)) :=
 .mat (loopF (s_l04Echelon_l3 p2) (0, [])) fun l3 =>
 .mat (loopF (s_l04Echelon_l8 p1 p0) (0, 0, l3)) fun l25 =>
 .ite (0 ≤ (0 : Int) ∧ (0 : Int) ≤ l25.1 ∧ l25.1 ≤ (l25.2.length : Int)) <|
 .ret ((l25.2.drop 0).take ((l25.1 - 0).toNat))
noncomputable def s_l04Echelon_F (p0 : (Int × (Int × Unit))) (p1 : Int) (p2 : (List (List Int))) : Option (List (List Int)) := (s_l04Echelon p0 p1 p2).run some
-- more
theorem sech_copy {rows : List (List Int)} (hl : rows.length ≤ 1000000) (hr : ∀ r ∈ rows, r.length ≤ 1000000) : loopF (s_l04Echelon_l3 rows) (0, []) = some rows := by
 have key := fold_loop (xs := rows) (step := s_l04Echelon_l3 rows) (fun (i : Nat) (acc : List (List Int)) => ((i : Int), acc)) (fun _ acc r => .inl (acc ++ [id r])) id (fun i acc => acc.length = i) (by
  intro i acc r h hi
  have hlt := (List.getElem?_eq_some_iff.1 h).1
  refine ⟨?_, fun a ha => ?_⟩
  ·unfold s_l04Echelon_l3
   dsimp only
   rw [Tre.run_cond, decide_eq_true (by omega), cond_true, Tre.run_ite, if_pos (by omega), Int.toNat_natCast, run_some_mat h, run_some_mat (ownZ_is (by have := hr r (List.mem_of_getElem? h); omega)), Tre.run_ite, if_pos (by unfold appendMax; omega), Tre.run_ret, iwrap_succ (by omega)]
   rfl
  ·cases ha; simp [hi]) (by
  intro acc _
  unfold s_l04Echelon_l3
  dsimp only
  rw [Tre.run_cond, decide_eq_false (by omega), cond_false]
  rfl) rows 0 [] rfl (Nat.zero_le _) rfl
 rw [foldE_app, List.map_id] at key
 exact key
theorem sech_find {c : Nat} {L : List (List Int)} (hc : ∀ r ∈ L, c < r.length) (hL : L.length ≤ 1000000) : ∀ (l : List (List Int)) (i : Nat), L.drop i = l → i ≤ L.length →
  loopF (s_l04Echelon_l11 (c : Int) L) (i : Int) = some (if idxI (nzAt c) i l < 0 then (L.length : Int) else idxI (nzAt c) i l) := by
 intro l
 induction l with
 | nil =>
  intro i hl hi
  have : i = L.length := by have := List.drop_eq_nil_iff.1 hl; omega
  subst this
  refine loopF_done ?_
  unfold s_l04Echelon_l11
  exact run_out
 | cons x l ih =>
  intro i hl hi
  have hx : L[i]? = some x := by
   have := congrArg (·[0]?) hl
   simpa using this
  have hlt := (List.getElem?_eq_some_iff.1 hx).1
  have hcx := hc x (List.mem_of_getElem? hx)
  obtain ⟨y, hy⟩ : ∃ y, x[c]? = some y := ⟨_, List.getElem?_eq_getElem hcx⟩
  have hn : nzAt c x = !decide (y = 0) := by unfold nzAt; rw [hy]
  by_cases h0 : y = 0
  ·have e : idxI (nzAt c) i (x :: l) = idxI (nzAt c) (i + 1) l := by simp [idxI, hn, h0]
   rw [e, ← ih (i + 1) (by rw [← List.drop_drop, hl]; rfl) (by omega)]
   refine loopF_step ?_
   unfold s_l04Echelon_l11
   rw [run_inb hx, Tre.run_ite, if_pos (by omega), Int.toNat_natCast, run_some_mat hy, Tre.run_cond, decide_eq_true h0, cond_true, Tre.run_ret, iwrap_succ (by omega)]
  ·have e : idxI (nzAt c) i (x :: l) = (i : Int) := by simp [idxI, hn, h0]
   rw [e, if_neg (by omega)]
   refine loopF_done ?_
   unfold s_l04Echelon_l11
   rw [run_inb hx, Tre.run_ite, if_pos (by omega), Int.toNat_natCast, run_some_mat hy, Tre.run_cond, decide_eq_false h0, cond_false, Tre.run_ret]
theorem sech_clear {f : TF3} (hf : fieldOk f = true) {n c a : Nat} {own : List Int} {L : List (List Int)} (hc : c < n) (hn : n ≤ 1000000) (h : GR f n L) (hk : L[a]? = some own) (hL : L.length ≤ 1000000) :
  loopF (s_l04Echelon_l18 (a : Int) (c : Int) f) (0, L) = some (L.mapIdx (clearV f c a own)) := by
 obtain ⟨hol, hof⟩ := GR_at h hk
 have hak := (List.getElem?_eq_some_iff.1 hk).1
 have key := fold_loop (xs := L) (step := s_l04Echelon_l18 (a : Int) (c : Int) f) (fun (i : Nat) (acc : List (List Int)) => ((i : Int), acc)) (fun i acc r => .inl (acc.set i (clearV f c a own i r))) id (fun i acc => acc.length = L.length ∧ acc.drop i = L.drop i ∧ acc[a]? = some own) (by
  intro i acc r hr hi
  have hlt := (List.getElem?_eq_some_iff.1 hr).1
  obtain ⟨hr1, hr2⟩ := GR_at h hr
  have hai : acc[i]? = some r := by
   have := congrArg (·[0]?) hi.2.1
   simpa [hr] using this
  obtain ⟨x, hx⟩ : ∃ x, r[c]? = some x := ⟨_, List.getElem?_eq_getElem (by omega)⟩
  have hxf := hr2 x (List.mem_of_getElem? hx)
  have hset : acc.set i r = acc := by
   apply List.ext_getElem?
   intro j
   rw [List.getElem?_set]
   split
   ·rename_i h; subst h; simp [show i < acc.length by omega, ← hai]
   ·rfl
  refine ⟨?_, fun b hb => ?_⟩
  ·unfold s_l04Echelon_l18
   dsimp only
   rw [Tre.run_cond, decide_eq_true (by omega), cond_true, Tre.run_cond]
   by_cases h1 : i = a
   ·rw [decide_eq_true (show (i : Int) = (a : Int) by omega), Bool.not_true, cond_false, Tre.run_ret, iwrap_succ (by omega)]
    simp only [clearV, hx, h1, decide_true, Bool.true_or, cond_true]
    rw [← h1, hset]
   ·rw [decide_eq_false (show ¬ (i : Int) = (a : Int) by omega), Bool.not_false, cond_true, Tre.run_ite, if_pos (by omega), Int.toNat_natCast, run_some_mat hai, Tre.run_ite, if_pos (by omega), Int.toNat_natCast, run_some_mat hx, Tre.run_cond]
    by_cases h2 : x = 0
    ·rw [decide_eq_true h2, Bool.not_true, cond_false, Tre.run_ret, iwrap_succ (by omega)]
     simp only [clearV, hx, h2, decide_true, Bool.or_true, cond_true]
     rw [hset]
    ·rw [decide_eq_false h2, Bool.not_false, cond_true, Tre.run_ite, if_pos (by omega), run_some_mat hai, Tre.run_ite, if_pos (by omega), Int.toNat_natCast, run_some_mat hi.2.2, Tre.run_ite, if_pos (by omega), run_some_mat hai, Tre.run_ite, if_pos (by omega), run_some_mat hx, run_some_mat (s_l04AddZ_is hf (by omega) (by omega) hof hxf), Tre.run_ite, if_pos (by omega), run_some_mat hai, Tre.run_ret, iwrap_succ (by omega)]
     simp only [clearV, hx, h1, h2, decide_false, Bool.or_self, cond_false]
     have : addV f r own x = (r.zip own).map fun p => ixor .i64 p.1 (mulI f x p.2) := by
      unfold addV
      refine List.map_congr_left fun p hp => ?_
      have h1 := List.of_mem_zip (a := p.1) (b := p.2) hp
      rw [(mulI_facts hf (hof _ h1.2) hxf).2]
     rw [this]
  ·cases hb
   refine ⟨by simp [hi.1], ?_, ?_⟩
   ·rw [List.drop_set_of_lt (by omega), ← List.drop_drop, ← List.drop_drop, hi.2.1]
   ·by_cases h1 : i = a
    ·subst h1
     rw [List.getElem?_set_self (by omega)]
     rw [hr] at hk; cases hk
     simp only [clearV, hx, decide_true, Bool.true_or, cond_true]
    ·rw [List.getElem?_set_ne h1]; exact hi.2.2) (by
  rintro acc ⟨hl, _⟩
  unfold s_l04Echelon_l18
  dsimp only
  rw [Tre.run_cond, decide_eq_false (by omega), cond_false]
  rfl) L 0 L rfl (Nat.zero_le _) ⟨rfl, rfl, hk⟩
 rw [foldE_seti _ _ _ _ _ (by simp)] at key
 simpa using key
theorem addV_zero {f : TF3} (hf : fieldOk f = true) {x : Int} (hx : inF f x) : ∀ {w : List Int}, (∀ y ∈ w, inF f y) → addV f (List.replicate w.length 0) w x = w.map fun y => mulI f y x := by
 intro w
 induction w with
 | nil => intro _; rfl
 | cons y w ih =>
  intro h
  have := ih (fun z hz => h z (List.mem_cons_of_mem _ hz))
  unfold addV at this ⊢
  simp only [List.length_cons, List.replicate_succ, List.zip_cons_cons, List.map_cons]
  rw [this, zero_xorF hf (mulI_facts hf (h y (List.mem_cons_self ..)) hx).1]
theorem sech_step {f : TF3} (hf : fieldOk f = true) {n c : Nat} (hc : c < n) (hn : n ≤ 1000000) (s : Nat × List (List Int)) (h : GR f n s.2) (hL : s.2.length ≤ 1000000) (ha : s.1 ≤ s.2.length) :
  (s_l04Echelon_l8 (n : Int) f ((s.1 : Int), (c : Int), s.2)).run some = some (.inl (((echStep f c s).1 : Int), ((c + 1 : Nat) : Int), (echStep f c s).2)) := by
 obtain ⟨a, L⟩ := s
 dsimp only at h hL ha
 have hfd := sech_find (c := c) (fun r hr => by rw [(h r hr).1]; exact hc) hL (L.drop a) a rfl ha
 unfold s_l04Echelon_l8
 dsimp only
 rw [Tre.run_cond, decide_eq_true (by omega), cond_true, run_some_mat hfd, Tre.run_cond]
 unfold echStep
 dsimp only
 rcases idxI_cases (nzAt c) (L.drop a) a with ⟨h1, _⟩ | ⟨k, row, h1, h2, h3⟩
 ·rw [h1, if_pos (by decide), decide_eq_true rfl, show decide ((-1 : Int) < 0) = true from rfl, cond_true, cond_true, Tre.run_ret, iwrap_succ (by omega)]
 ·have hak : L[a + k]? = some row := by rw [← h1, List.getElem?_drop]
  have hlt := (List.getElem?_eq_some_iff.1 hak).1
  obtain ⟨r0, hr0⟩ : ∃ r0, L[a]? = some r0 := ⟨_, List.getElem?_eq_getElem (by omega)⟩
  obtain ⟨hrl, hrf⟩ := GR_at h hak
  obtain ⟨x, hx, hx0⟩ := nzAt_of h2
  have hxf := hrf x (List.mem_of_getElem? hx)
  have hxi := (invI_facts hf hxf).1
  rw [h3, if_neg (by omega), decide_eq_false (by omega), decide_eq_false (by omega), cond_false, cond_false]
  rw [Tre.run_ite, if_pos (by omega), Int.toNat_natCast, run_some_mat hak, Tre.run_ite, if_pos (by omega), Int.toNat_natCast, run_some_mat hr0, Tre.run_ite, if_pos (by omega), run_some_mat hak, Tre.run_ite, if_pos ⟨rfl, by omega, rfl, by omega, by decide⟩, Tre.run_ite, if_pos (by omega), Int.toNat_natCast, run_some_mat hx, run_some_mat (sinv_is hf hxf), Int.toNat_natCast]
  rw [run_some_mat (s_l04AddZ_is hf (by simp [hrl]) (by simp; omega) hrf hxi), ← hrl, addV_zero hf hxi hrf]
  have hg : (L.set (a + k) r0)[a]? = some r0 := by
   rw [List.getElem?_set]
   split
   ·first | rfl | rw [if_pos (by omega)]
   ·exact hr0
  simp only [List.length_set]
  rw [Tre.run_ite, if_pos (by omega), run_some_mat hg]
  have hp : pivL f c (a + k) a L = (L.set (a + k) r0).set a (row.map fun y => mulI f y (invI f x)) := by
   unfold pivL scaleV
   rw [hak, hr0]
   simp only [hx]
  have hpg := pivL_ok (c := c) (k := a + k) (a := a) hf h
  rw [hp] at hpg ⊢
  have hpa : ((L.set (a + k) r0).set a (row.map fun y => mulI f y (invI f x)))[a]? = some (row.map fun y => mulI f y (invI f x)) := List.getElem?_set_self (by simp; omega)
  generalize hG : (L.set (a + k) r0).set a (row.map fun y => mulI f y (invI f x)) = G at hpg hpa
  rw [run_some_mat (sech_clear hf hc hn hpg.1 hpa (by omega)), Tre.run_ret, iwrap_succ (by omega), iwrap_succ (by omega)]
  unfold clearL
  rw [hpa]
theorem sech_loop {f : TF3} (hf : fieldOk f = true) {n : Nat} (hn : n ≤ 1000000) : ∀ (m c : Nat) (s : Nat × List (List Int)), c + m = n → GR f n s.2 → s.2.length ≤ 1000000 → s.1 ≤ s.2.length → loopF (s_l04Echelon_l8 (n : Int) f) ((s.1 : Int), (c : Int), s.2) = some (((echFrom f c m s).1 : Int), (echFrom f c m s).2) := by
 intro m
 induction m with
 | zero =>
  intro c s hc h hL ha
  have hc : c = n := hc
  subst hc
  refine loopF_done ?_
  unfold s_l04Echelon_l8
  exact run_out
 | succ m ih =>
  intro c s hc h hL ha
  rw [loopF_step (sech_step hf (by omega) hn s h hL ha)]
  have h1 := echStep_ok (c := c) hf h ha
  exact ih (c + 1) _ (by omega) h1.1 (by omega) (by omega)
theorem sech_is {f : TF3} (hf : fieldOk f = true) {n : Nat} (hn : n ≤ 1000000) {L : List (List Int)} (h : GR f n L) (hL : L.length ≤ 1000000) : s_l04Echelon_F f (n : Int) L = some (echV f n L) := by
 have hl := sech_loop hf hn n 0 (0, L) (by omega) h hL (Nat.zero_le _)
 have hk := echFrom_ok hf n 0 (0, L) h (Nat.zero_le _)
 have hl : loopF (s_l04Echelon_l8 (n : Int) f) (0, 0, L) = _ := hl
 unfold s_l04Echelon_F s_l04Echelon
 rw [run_some_mat (sech_copy hL (fun r hr => by rw [(h r hr).1]; exact hn)), run_some_mat hl, Tre.run_ite, if_pos (by have := hk.2.1; have := hk.2.2; dsimp only at *; omega), Tre.run_ret]
 unfold echV
 simp
noncomputable def s_l04Echelon_V : Env := ⟨tau, [(64, s_l00OwnZ_c), (113, s_l01Inverse_c), (112, s_l04AddZ_c)], [(2, [((9, 0), [], true)])]⟩
noncomputable def s_l04Echelon_b : Code := (Try.f65.body).getD .skip
noncomputable def s_l04Echelon_l3_mk (z3_0 : Bool) (h3_0_0 : Int) (h3_0_1 : (List (List Int))) (h3_0_3 : (Int × (Int × Unit))) : (Int × (List (List Int))) → St := fun x => stOf [(1, (.imm true (.int .i64) h3_0_0)), (2, (.imm z3_0 (.sl (.sl (.int .i64))) h3_0_1)), (3, (.ptr (5, 0) [])), (7, (.ref (9, 0) [])), (8, (.imm true (.int .i64) x.1))] [((5, 0), some ⟨true, kField, .own, h3_0_3⟩), ((9, 0), some ⟨false, (.sl (.sl (.int .i64))), (.sl (.imm true)), x.2⟩)]
noncomputable def s_l04Echelon_l3_out (_z3_0 : Bool) (h3_0_0 : Int) (_h3_0_1 : (List (List Int))) (h3_0_3 : (Int × (Int × Unit))) : (List (List Int)) → Ex × St := fun x => (.exit 0, stOf [(1, (.imm true (.int .i64) h3_0_0)), (3, (.ptr (5, 0) [])), (7, (.ref (9, 0) []))] [((5, 0), some ⟨true, kField, .own, h3_0_3⟩), ((9, 0), some ⟨false, (.sl (.sl (.int .i64))), (.sl (.imm true)), x⟩)])
noncomputable def s_l04Echelon_l3_D (s : St) : Tre (Ex × St) :=
 asImmZ true (.int .i64) (s.tmps 1) fun d2 =>
 asImm (.sl (.sl (.int .i64))) (s.tmps 2) fun z5 d4 =>
 asPtr (5, 0) [] (s.tmps 3) <|
 asRef (9, 0) [] (s.tmps 7) <|
 asImmZ true (.int .i64) (s.tmps 8) fun d9 =>
 asRoot true kField (s.roots (5, 0)) fun m11 d12 =>
 asM .own m11 <|
 asRoot false (.sl (.sl (.int .i64))) (s.roots (9, 0)) fun m14 d15 =>
 asM (.sl (.imm true)) m14 <|
 .mat (loopF (s_l04Echelon_l3 d4) (d9, d15)) fun x => .ret (s_l04Echelon_l3_out z5 d2 d4 d12 x)
noncomputable def s_l04Echelon_l3_L : LoopI := ⟨([1, 2, 3, 7, 8], [(5, 0), (9, 0)]), ([1, 3, 7], [(5, 0), (9, 0)]), s_l04Echelon_l3_D⟩
noncomputable def s_l04Echelon_l11_mk (h11_0_0 : Int) (h11_0_1 : Int) (h11_0_2 : Int) (h11_0_4 : (Int × (Int × Unit))) (h11_0_5 : (List (List Int))) : Int → St := fun x => stOf [(1, (.imm true (.int .i64) h11_0_0)), (3, (.ptr (5, 0) [])), (7, (.ref (9, 0) [])), (9, (.imm true (.int .i64) h11_0_1)), (10, (.imm true (.int .i64) h11_0_2)), (11, (.imm true (.int .i64) x))] [((5, 0), some ⟨true, kField, .own, h11_0_4⟩), ((9, 0), some ⟨false, (.sl (.sl (.int .i64))), (.sl (.imm true)), h11_0_5⟩)]
noncomputable def s_l04Echelon_l11_out (h11_0_0 : Int) (h11_0_1 : Int) (h11_0_2 : Int) (h11_0_4 : (Int × (Int × Unit))) (h11_0_5 : (List (List Int))) : Int → Ex × St := fun x => (.exit 4, stOf [(1, (.imm true (.int .i64) h11_0_0)), (3, (.ptr (5, 0) [])), (7, (.ref (9, 0) [])), (9, (.imm true (.int .i64) h11_0_1)), (10, (.imm true (.int .i64) h11_0_2)), (11, (.imm true (.int .i64) x))] [((5, 0), some ⟨true, kField, .own, h11_0_4⟩), ((9, 0), some ⟨false, (.sl (.sl (.int .i64))), (.sl (.imm true)), h11_0_5⟩)])
noncomputable def s_l04Echelon_l11_D (s : St) : Tre (Ex × St) :=
 asImmZ true (.int .i64) (s.tmps 1) fun d2 =>
 asPtr (5, 0) [] (s.tmps 3) <|
 asRef (9, 0) [] (s.tmps 7) <|
 asImmZ true (.int .i64) (s.tmps 9) fun d6 =>
 asImmZ true (.int .i64) (s.tmps 10) fun d8 =>
 asImmZ true (.int .i64) (s.tmps 11) fun d10 =>
 asRoot true kField (s.roots (5, 0)) fun m12 d13 =>
 asM .own m12 <|
 asRoot false (.sl (.sl (.int .i64))) (s.roots (9, 0)) fun m15 d16 =>
 asM (.sl (.imm true)) m15 <|
 .mat (loopF (s_l04Echelon_l11 d8 d16) d10) fun x => .ret (s_l04Echelon_l11_out d2 d6 d8 d13 d16 x)
noncomputable def s_l04Echelon_l11_L : LoopI := ⟨([1, 3, 7, 9, 10, 11], [(5, 0), (9, 0)]), ([1, 3, 7, 9, 10, 11], [(5, 0), (9, 0)]), s_l04Echelon_l11_D⟩
noncomputable def s_l04Echelon_l18_mk (h18_0_0 : Int) (h18_0_1 : Int) (h18_0_2 : Int) (h18_0_4 : (Int × (Int × Unit))) : (Int × (List (List Int))) → St := fun x => stOf [(1, (.imm true (.int .i64) h18_0_0)), (3, (.ptr (5, 0) [])), (7, (.ref (9, 0) [])), (9, (.imm true (.int .i64) h18_0_1)), (10, (.imm true (.int .i64) h18_0_2)), (13, (.imm true (.int .i64) x.1))] [((5, 0), some ⟨true, kField, .own, h18_0_4⟩), ((9, 0), some ⟨false, (.sl (.sl (.int .i64))), (.sl (.imm true)), x.2⟩)]
noncomputable def s_l04Echelon_l18_out (h18_0_0 : Int) (h18_0_1 : Int) (h18_0_2 : Int) (h18_0_4 : (Int × (Int × Unit))) : (List (List Int)) → Ex × St := fun x => (.exit 6, stOf [(1, (.imm true (.int .i64) h18_0_0)), (3, (.ptr (5, 0) [])), (7, (.ref (9, 0) [])), (9, (.imm true (.int .i64) h18_0_1)), (10, (.imm true (.int .i64) h18_0_2))] [((5, 0), some ⟨true, kField, .own, h18_0_4⟩), ((9, 0), some ⟨false, (.sl (.sl (.int .i64))), (.sl (.imm true)), x⟩)])
noncomputable def s_l04Echelon_l18_D (s : St) : Tre (Ex × St) :=
 asImmZ true (.int .i64) (s.tmps 1) fun d2 =>
 asPtr (5, 0) [] (s.tmps 3) <|
 asRef (9, 0) [] (s.tmps 7) <|
 asImmZ true (.int .i64) (s.tmps 9) fun d6 =>
 asImmZ true (.int .i64) (s.tmps 10) fun d8 =>
 asImmZ true (.int .i64) (s.tmps 13) fun d10 =>
 asRoot true kField (s.roots (5, 0)) fun m12 d13 =>
 asM .own m12 <|
 asRoot false (.sl (.sl (.int .i64))) (s.roots (9, 0)) fun m15 d16 =>
 asM (.sl (.imm true)) m15 <|
 .mat (loopF (s_l04Echelon_l18 d6 d8 d13) (d10, d16)) fun x => .ret (s_l04Echelon_l18_out d2 d6 d8 d13 x)
noncomputable def s_l04Echelon_l18_L : LoopI := ⟨([1, 3, 7, 9, 10, 13], [(5, 0), (9, 0)]), ([1, 3, 7, 9, 10], [(5, 0), (9, 0)]), s_l04Echelon_l18_D⟩
noncomputable def s_l04Echelon_l8_mk (h8_0_0 : Int) (h8_0_3 : (Int × (Int × Unit))) : (Int × Int × (List (List Int))) → St := fun x => stOf [(1, (.imm true (.int .i64) h8_0_0)), (3, (.ptr (5, 0) [])), (7, (.ref (9, 0) [])), (9, (.imm true (.int .i64) x.1)), (10, (.imm true (.int .i64) x.2.1))] [((5, 0), some ⟨true, kField, .own, h8_0_3⟩), ((9, 0), some ⟨false, (.sl (.sl (.int .i64))), (.sl (.imm true)), x.2.2⟩)]
noncomputable def s_l04Echelon_l8_out (_h8_0_0 : Int) (_h8_0_3 : (Int × (Int × Unit))) : (Int × (List (List Int))) → Ex × St := fun x => (.exit 2, stOf [(7, (.ref (9, 0) [])), (9, (.imm true (.int .i64) x.1))] [((9, 0), some ⟨false, (.sl (.sl (.int .i64))), (.sl (.imm true)), x.2⟩)])
noncomputable def s_l04Echelon_l8_D (s : St) : Tre (Ex × St) :=
 asImmZ true (.int .i64) (s.tmps 1) fun d2 =>
 asPtr (5, 0) [] (s.tmps 3) <|
 asRef (9, 0) [] (s.tmps 7) <|
 asImmZ true (.int .i64) (s.tmps 9) fun d6 =>
 asImmZ true (.int .i64) (s.tmps 10) fun d8 =>
 asRoot true kField (s.roots (5, 0)) fun m10 d11 =>
 asM .own m10 <|
 asRoot false (.sl (.sl (.int .i64))) (s.roots (9, 0)) fun m13 d14 =>
 asM (.sl (.imm true)) m13 <|
 .mat (loopF (s_l04Echelon_l8 d2 d11) (d6, d8, d14)) fun x => .ret (s_l04Echelon_l8_out d2 d11 x)
noncomputable def s_l04Echelon_l8_L : LoopI := ⟨([1, 3, 7, 9, 10], [(5, 0), (9, 0)]), ([7, 9], [(9, 0)]), s_l04Echelon_l8_D⟩
noncomputable def s_l04Echelon_A : List (Nat × LoopI) := [(3, s_l04Echelon_l3_L), (11, s_l04Echelon_l11_L), (18, s_l04Echelon_l18_L), (8, s_l04Echelon_l8_L)]
set_option maxRecDepth 100000 in
theorem s_l04Echelon_l3_step : ∀ (z3_0 : Bool) (h3_0_0 : Int) (h3_0_1 : (List (List Int))) (h3_0_3 : (Int × (Int × Unit))) (x : (Int × (List (List Int)))) (c : St → Option (Ex × St)), den s_l04Echelon_V s_l04Echelon_A (loopAt s_l04Echelon_b 0) (s_l04Echelon_l3_mk z3_0 h3_0_0 h3_0_1 h3_0_3 x) (roundK s_l04Echelon_l3_L.kp s_l04Echelon_l3_L.kx c) = (s_l04Echelon_l3 h3_0_1 x).run (roundR (s_l04Echelon_l3_mk z3_0 h3_0_0 h3_0_1 h3_0_3) (s_l04Echelon_l3_out z3_0 h3_0_0 h3_0_1 h3_0_3) c) := fun _ _ _ _ _ _ => by
 kernel_rfl
theorem s_l04Echelon_l3_ok : LoopOK s_l04Echelon_V s_l04Echelon_A (loopAt s_l04Echelon_b 0) s_l04Echelon_l3_L := loopOK_of fun s e s' h => by
 generalize hs : restrict s_l04Echelon_l3_L.kp s = s1 at h
 have h : (s_l04Echelon_l3_D s1).run some = some (e, s') := h
 obtain ⟨d2, e1, h_0⟩ := asImmZ_spec h
 obtain ⟨z5, d4, e3, h_1⟩ := asImm_spec h_0
 obtain ⟨e6, h_2⟩ := asPtr_spec h_1
 obtain ⟨e7, h_3⟩ := asRef_spec h_2
 obtain ⟨d9, e8, h_4⟩ := asImmZ_spec h_3
 obtain ⟨m11, d12, e10, h_5⟩ := asRoot_spec h_4
 obtain ⟨rfl, h_6⟩ := asM_spec h_5
 obtain ⟨m14, d15, e13, h_7⟩ := asRoot_spec h_6
 obtain ⟨rfl, h_8⟩ := asM_spec h_7
 obtain ⟨y, hy, hz⟩ := mat_ret h_8
 refine ⟨_, _, s_l04Echelon_l3_mk z5 d2 d4 d12, s_l04Echelon_l3_out z5 d2 d4 d12, s_l04Echelon_l3 d4, (d9, d15), y, ?_, hy, ?_, s_l04Echelon_l3_step z5 d2 d4 d12⟩
 ·subst hs; exact restrict_eq (T := [(1, (.imm true (.int .i64) d2)), (2, (.imm z5 (.sl (.sl (.int .i64))) d4)), (3, (.ptr (5, 0) [])), (7, (.ref (9, 0) [])), (8, (.imm true (.int .i64) d9))]) (U := [((5, 0), some ⟨true, kField, .own, d12⟩), ((9, 0), some ⟨false, (.sl (.sl (.int .i64))), (.sl (.imm true)), d15⟩)]) rfl rfl ⟨e1, e3, e6, e7, e8, trivial⟩ ⟨e10, e13, trivial⟩
 ·exact Option.some.inj hz
set_option maxRecDepth 100000 in
theorem s_l04Echelon_l11_step : ∀ (h11_0_0 : Int) (h11_0_1 : Int) (h11_0_2 : Int) (h11_0_4 : (Int × (Int × Unit))) (h11_0_5 : (List (List Int))) (x : Int) (c : St → Option (Ex × St)), den s_l04Echelon_V s_l04Echelon_A (loopAt s_l04Echelon_b 2) (s_l04Echelon_l11_mk h11_0_0 h11_0_1 h11_0_2 h11_0_4 h11_0_5 x) (roundK s_l04Echelon_l11_L.kp s_l04Echelon_l11_L.kx c) = (s_l04Echelon_l11 h11_0_2 h11_0_5 x).run (roundR (s_l04Echelon_l11_mk h11_0_0 h11_0_1 h11_0_2 h11_0_4 h11_0_5) (s_l04Echelon_l11_out h11_0_0 h11_0_1 h11_0_2 h11_0_4 h11_0_5) c) := fun _ _ _ _ _ _ _ => by
 kernel_rfl
theorem s_l04Echelon_l11_ok : LoopOK s_l04Echelon_V s_l04Echelon_A (loopAt s_l04Echelon_b 2) s_l04Echelon_l11_L := loopOK_of fun s e s' h => by
 generalize hs : restrict s_l04Echelon_l11_L.kp s = s1 at h
 have h : (s_l04Echelon_l11_D s1).run some = some (e, s') := h
 obtain ⟨d2, e1, h_0⟩ := asImmZ_spec h
 obtain ⟨e3, h_1⟩ := asPtr_spec h_0
 obtain ⟨e4, h_2⟩ := asRef_spec h_1
 obtain ⟨d6, e5, h_3⟩ := asImmZ_spec h_2
 obtain ⟨d8, e7, h_4⟩ := asImmZ_spec h_3
 obtain ⟨d10, e9, h_5⟩ := asImmZ_spec h_4
 obtain ⟨m12, d13, e11, h_6⟩ := asRoot_spec h_5
 obtain ⟨rfl, h_7⟩ := asM_spec h_6
 obtain ⟨m15, d16, e14, h_8⟩ := asRoot_spec h_7
 obtain ⟨rfl, h_9⟩ := asM_spec h_8
 obtain ⟨y, hy, hz⟩ := mat_ret h_9
 refine ⟨_, _, s_l04Echelon_l11_mk d2 d6 d8 d13 d16, s_l04Echelon_l11_out d2 d6 d8 d13 d16, s_l04Echelon_l11 d8 d16, d10, y, ?_, hy, ?_, s_l04Echelon_l11_step d2 d6 d8 d13 d16⟩
 ·subst hs; exact restrict_eq (T := [(1, (.imm true (.int .i64) d2)), (3, (.ptr (5, 0) [])), (7, (.ref (9, 0) [])), (9, (.imm true (.int .i64) d6)), (10, (.imm true (.int .i64) d8)), (11, (.imm true (.int .i64) d10))]) (U := [((5, 0), some ⟨true, kField, .own, d13⟩), ((9, 0), some ⟨false, (.sl (.sl (.int .i64))), (.sl (.imm true)), d16⟩)]) rfl rfl ⟨e1, e3, e4, e5, e7, e9, trivial⟩ ⟨e11, e14, trivial⟩
 ·exact Option.some.inj hz
set_option maxRecDepth 100000 in
theorem s_l04Echelon_l18_step : ∀ (h18_0_0 : Int) (h18_0_1 : Int) (h18_0_2 : Int) (h18_0_4 : (Int × (Int × Unit))) (x : (Int × (List (List Int)))) (c : St → Option (Ex × St)), den s_l04Echelon_V s_l04Echelon_A (loopAt s_l04Echelon_b 3) (s_l04Echelon_l18_mk h18_0_0 h18_0_1 h18_0_2 h18_0_4 x) (roundK s_l04Echelon_l18_L.kp s_l04Echelon_l18_L.kx c) = (s_l04Echelon_l18 h18_0_1 h18_0_2 h18_0_4 x).run (roundR (s_l04Echelon_l18_mk h18_0_0 h18_0_1 h18_0_2 h18_0_4) (s_l04Echelon_l18_out h18_0_0 h18_0_1 h18_0_2 h18_0_4) c) := fun _ _ _ _ _ _ => by
 kernel_rfl
theorem s_l04Echelon_l18_ok : LoopOK s_l04Echelon_V s_l04Echelon_A (loopAt s_l04Echelon_b 3) s_l04Echelon_l18_L := loopOK_of fun s e s' h => by
 generalize hs : restrict s_l04Echelon_l18_L.kp s = s1 at h
 have h : (s_l04Echelon_l18_D s1).run some = some (e, s') := h
 obtain ⟨d2, e1, h_0⟩ := asImmZ_spec h
 obtain ⟨e3, h_1⟩ := asPtr_spec h_0
 obtain ⟨e4, h_2⟩ := asRef_spec h_1
 obtain ⟨d6, e5, h_3⟩ := asImmZ_spec h_2
 obtain ⟨d8, e7, h_4⟩ := asImmZ_spec h_3
 obtain ⟨d10, e9, h_5⟩ := asImmZ_spec h_4
 obtain ⟨m12, d13, e11, h_6⟩ := asRoot_spec h_5
 obtain ⟨rfl, h_7⟩ := asM_spec h_6
 obtain ⟨m15, d16, e14, h_8⟩ := asRoot_spec h_7
 obtain ⟨rfl, h_9⟩ := asM_spec h_8
 obtain ⟨y, hy, hz⟩ := mat_ret h_9
 refine ⟨_, _, s_l04Echelon_l18_mk d2 d6 d8 d13, s_l04Echelon_l18_out d2 d6 d8 d13, s_l04Echelon_l18 d6 d8 d13, (d10, d16), y, ?_, hy, ?_, s_l04Echelon_l18_step d2 d6 d8 d13⟩
 ·subst hs; exact restrict_eq (T := [(1, (.imm true (.int .i64) d2)), (3, (.ptr (5, 0) [])), (7, (.ref (9, 0) [])), (9, (.imm true (.int .i64) d6)), (10, (.imm true (.int .i64) d8)), (13, (.imm true (.int .i64) d10))]) (U := [((5, 0), some ⟨true, kField, .own, d13⟩), ((9, 0), some ⟨false, (.sl (.sl (.int .i64))), (.sl (.imm true)), d16⟩)]) rfl rfl ⟨e1, e3, e4, e5, e7, e9, trivial⟩ ⟨e11, e14, trivial⟩
 ·exact Option.some.inj hz
set_option maxRecDepth 100000 in
theorem s_l04Echelon_l8_step : ∀ (h8_0_0 : Int) (h8_0_3 : (Int × (Int × Unit))) (x : (Int × Int × (List (List Int)))) (c : St → Option (Ex × St)), den s_l04Echelon_V s_l04Echelon_A (loopAt s_l04Echelon_b 1) (s_l04Echelon_l8_mk h8_0_0 h8_0_3 x) (roundK s_l04Echelon_l8_L.kp s_l04Echelon_l8_L.kx c) = (s_l04Echelon_l8 h8_0_0 h8_0_3 x).run (roundR (s_l04Echelon_l8_mk h8_0_0 h8_0_3) (s_l04Echelon_l8_out h8_0_0 h8_0_3) c) := fun _ _ _ _ => by
 kernel_rfl
theorem s_l04Echelon_l8_ok : LoopOK s_l04Echelon_V s_l04Echelon_A (loopAt s_l04Echelon_b 1) s_l04Echelon_l8_L := loopOK_of fun s e s' h => by
 generalize hs : restrict s_l04Echelon_l8_L.kp s = s1 at h
 have h : (s_l04Echelon_l8_D s1).run some = some (e, s') := h
 obtain ⟨d2, e1, h_0⟩ := asImmZ_spec h
 obtain ⟨e3, h_1⟩ := asPtr_spec h_0
 obtain ⟨e4, h_2⟩ := asRef_spec h_1
 obtain ⟨d6, e5, h_3⟩ := asImmZ_spec h_2
 obtain ⟨d8, e7, h_4⟩ := asImmZ_spec h_3
 obtain ⟨m10, d11, e9, h_5⟩ := asRoot_spec h_4
 obtain ⟨rfl, h_6⟩ := asM_spec h_5
 obtain ⟨m13, d14, e12, h_7⟩ := asRoot_spec h_6
 obtain ⟨rfl, h_8⟩ := asM_spec h_7
 obtain ⟨y, hy, hz⟩ := mat_ret h_8
 refine ⟨_, _, s_l04Echelon_l8_mk d2 d11, s_l04Echelon_l8_out d2 d11, s_l04Echelon_l8 d2 d11, (d6, d8, d14), y, ?_, hy, ?_, s_l04Echelon_l8_step d2 d11⟩
 ·subst hs; exact restrict_eq (T := [(1, (.imm true (.int .i64) d2)), (3, (.ptr (5, 0) [])), (7, (.ref (9, 0) [])), (9, (.imm true (.int .i64) d6)), (10, (.imm true (.int .i64) d8))]) (U := [((5, 0), some ⟨true, kField, .own, d11⟩), ((9, 0), some ⟨false, (.sl (.sl (.int .i64))), (.sl (.imm true)), d14⟩)]) rfl rfl ⟨e1, e3, e4, e5, e7, trivial⟩ ⟨e9, e12, trivial⟩
 ·exact Option.some.inj hz
noncomputable def s_l04Echelon_I : FnI := ⟨s_l04Echelon_b, Try.f65.results.toList, Try.f65.resultTypes.toList, s_l04Echelon_A⟩
noncomputable def s_l04Echelon_out (_zp0 : Bool) (_p0 : (Int × (Int × Unit))) (_p1 : Int) (_p2 : (List (List Int))) : (List (List Int)) → CallOut := fun r => ⟨(.ref (1, 0) []), [], [⟨false, (.sl (.sl (.int .i64))), (.sl (.imm true)), r⟩]⟩
set_option maxRecDepth 100000 in
theorem s_l04Echelon_eq : ∀ (zp0 : Bool) (p0 : (Int × (Int × Unit))) (p1 : Int) (p2 : (List (List Int))), denFn s_l04Echelon_V s_l04Echelon_I ⟨[(.imm true kField p0), (.imm true (.int .i64) p1), (.imm zp0 (.sl (.sl (.int .i64))) p2)], []⟩ = (s_l04Echelon p0 p1 p2).run fun r => some (s_l04Echelon_out zp0 p0 p1 p2 r) := fun _ _ _ _ => by kernel_rfl
noncomputable def s_l04Echelon_G (av : List AV) (rs : List Root) : Tre CallOut :=
 asCons av fun a0_ av0 =>
 asCons av0 fun a1_ av1 =>
 asCons av1 fun a2_ av2 =>
 asEnd av2 <|
 asEnd rs <|
 asImmZ true kField a0_ fun d1 =>
 asImmZ true (.int .i64) a1_ fun d2 =>
 asImm (.sl (.sl (.int .i64))) a2_ fun z4 d3 =>
 .mat (s_l04Echelon_F d1 d2 d3) fun r => .ret (s_l04Echelon_out z4 d1 d2 d3 r)
noncomputable def s_l04Echelon_c : Ctr := ⟨[], fun ci => s_l04Echelon_G ci.args ci.roots, false⟩
theorem s_l04Echelon_env : EnvOK Try.prog .none s_l04Echelon_V := (envOK_cons s_l00OwnZ_ok ent64 (envOK_cons s_l01Inverse_ok ent113 (envOK_cons s_l04AddZ_ok ent112 envOK_nil)))
set_option maxRecDepth 100000 in
theorem s_l04Echelon_ok : Contract Try.prog .none 65 s_l04Echelon_c := by
 have hl : LoopsOK s_l04Echelon_V s_l04Echelon_A s_l04Echelon_b := (loopsOK_all (n := 4) (by kernel_rfl) fun k hk => by
   match k, hk with
   | 0, _ => exact loopOK_at (id := 3) (L := s_l04Echelon_l3_L) (by kernel_rfl) (by kernel_rfl) s_l04Echelon_l3_ok
   | 1, _ => exact loopOK_at (id := 8) (L := s_l04Echelon_l8_L) (by kernel_rfl) (by kernel_rfl) s_l04Echelon_l8_ok
   | 2, _ => exact loopOK_at (id := 11) (L := s_l04Echelon_l11_L) (by kernel_rfl) (by kernel_rfl) s_l04Echelon_l11_ok
   | 3, _ => exact loopOK_at (id := 18) (L := s_l04Echelon_l18_L) (by kernel_rfl) (by kernel_rfl) s_l04Echelon_l18_ok)
 refine (contract_of (F := s_l04Echelon_I) tau_tys s_l04Echelon_env Try.func65 (by kernel_rfl) (by kernel_rfl) (by kernel_rfl) hl []).weaken ?_
 rintro ⟨av, rs⟩ co h
 have h : (s_l04Echelon_G av rs).run some = some co := h
 obtain ⟨a0_, av0, rfl, h_0⟩ := asCons_spec h
 obtain ⟨a1_, av1, rfl, h_1⟩ := asCons_spec h_0
 obtain ⟨a2_, av2, rfl, h_2⟩ := asCons_spec h_1
 obtain ⟨rfl, h_3⟩ := asEnd_spec h_2
 obtain ⟨rfl, h_4⟩ := asEnd_spec h_3
 obtain ⟨d1, rfl, h_5⟩ := asImmZ_spec h_4
 obtain ⟨d2, rfl, h_6⟩ := asImmZ_spec h_5
 obtain ⟨z4, d3, rfl, h_7⟩ := asImm_spec h_6
 exact fin_mat (s_l04Echelon_eq z4 d1 d2 d3) h_7
end Go.Proofs.Ytkgekgfmnhccmaa

namespace Go.Proofs.Ytkgekgfmnhccmaa
open Go Go.Abs Go.Proofs
noncomputable def s_l07Rank_4275 (p0 : TNet) (p1 : (List (List Int))) : Tre Int :=
 .mat (s_l04Echelon_F p0.1 p0.2.2.1 p1) fun r1 =>
 .ret (r1.length : Int)
noncomputable def s_l07Rank_4275_F (p0 : TNet) (p1 : (List (List Int))) : Option Int := (s_l07Rank_4275 p0 p1).run some
-- more
theorem srank_is {n : TN6} (h : NetP n) {L : List (List Int)} (hL : GR n.1 (messN n) L) (hl : L.length ≤ 1000000) : s_l07Rank_4275_F n L = some ((echV n.1 (messN n) L).length : Int) := by
 obtain ⟨hm1, hm2, hm3⟩ := mess_ok h
 have hr := sech_is h.field (n := messN n) (by omega) hL hl
 rw [← hm1] at hr
 unfold s_l07Rank_4275_F s_l07Rank_4275
 rw [run_some_mat hr]
 rfl
noncomputable def s_l07Rank_4275_V : Env := ⟨tau, [(65, s_l04Echelon_c)], []⟩
noncomputable def s_l07Rank_4275_b : Code := (Try.f63.body).getD .skip
noncomputable def s_l07Rank_4275_I : FnI := ⟨s_l07Rank_4275_b, Try.f63.results.toList, Try.f63.resultTypes.toList, []⟩
noncomputable def s_l07Rank_4275_out (_zp0 : Bool) (_zp1 : Bool) (_p0 : TNet) (_p1 : (List (List Int))) : Int → CallOut := fun r => ⟨(.imm true (.int .i64) r), [], []⟩
set_option maxRecDepth 100000 in
theorem s_l07Rank_4275_eq : ∀ (zp0 : Bool) (zp1 : Bool) (p0 : TNet) (p1 : (List (List Int))), denFn s_l07Rank_4275_V s_l07Rank_4275_I ⟨[(.iptr zp0 (.sl kNet) ([p0]) [.idx 0]), (.imm zp1 (.sl (.sl (.int .i64))) p1)], []⟩ = (s_l07Rank_4275 p0 p1).run fun r => some (s_l07Rank_4275_out zp0 zp1 p0 p1 r) := fun _ _ _ _ => by kernel_rfl
noncomputable def s_l07Rank_4275_G (av : List AV) (rs : List Root) : Tre CallOut :=
 asCons av fun a0_ av0 =>
 asCons av0 fun a1_ av1 =>
 asEnd av1 <|
 asEnd rs <|
 asIptr kNet a0_ fun z1 d2 =>
 asImm (.sl (.sl (.int .i64))) a1_ fun z4 d3 =>
 .mat (s_l07Rank_4275_F d2 d3) fun r => .ret (s_l07Rank_4275_out z1 z4 d2 d3 r)
noncomputable def s_l07Rank_4275_c : Ctr := ⟨[0], fun ci => s_l07Rank_4275_G ci.args ci.roots, false⟩
theorem s_l07Rank_4275_env : EnvOK Try.prog .none s_l07Rank_4275_V := (envOK_cons s_l04Echelon_ok ent65 envOK_nil)
set_option maxRecDepth 100000 in
theorem s_l07Rank_4275_ok : Contract Try.prog .none 63 s_l07Rank_4275_c := by
 have hl : LoopsOK s_l07Rank_4275_V [] s_l07Rank_4275_b := loopsOK_nil (by kernel_rfl)
 refine (contract_of (F := s_l07Rank_4275_I) tau_tys s_l07Rank_4275_env Try.func63 (by kernel_rfl) (by kernel_rfl) (by kernel_rfl) hl [0]).weaken ?_
 rintro ⟨av, rs⟩ co h
 have h : (s_l07Rank_4275_G av rs).run some = some co := h
 obtain ⟨a0_, av0, rfl, h_0⟩ := asCons_spec h
 obtain ⟨a1_, av1, rfl, h_1⟩ := asCons_spec h_0
 obtain ⟨rfl, h_2⟩ := asEnd_spec h_1
 obtain ⟨rfl, h_3⟩ := asEnd_spec h_2
 obtain ⟨z1, d2, rfl, h_4⟩ := asIptr_spec h_3
 obtain ⟨z4, d3, rfl, h_5⟩ := asImm_spec h_4
 exact fin_mat (s_l07Rank_4275_eq z1 z4 d2 d3) h_5
end Go.Proofs.Ytkgekgfmnhccmaa

namespace Go.Proofs.Ytkgekgfmnhccmaa
open Go Go.Abs Go.Proofs
noncomputable def s_l00Own (p0 : (List Int)) : Tre (List Int) :=
 .ite ((0 + p0.length) * 8 ≤ appendMax ∧ 1 ≤ 8) <|
 .ret ([] ++ p0)
noncomputable def s_l00Own_F (p0 : (List Int)) : Option (List Int) := (s_l00Own p0).run some
theorem s_l00Own_spec (p0 : List Int) (y : List Int) (h : cloneR p0 = some y) : s_l00Own_F p0 = some y := by
 obtain ⟨hl, rfl⟩ := lim_some h
 have hb : (0 + p0.length) * 8 ≤ appendMax ∧ 1 ≤ 8 := by unfold appendMax; omega
 unfold s_l00Own_F s_l00Own
 rw [Tre.run_ite, if_pos hb]
 rfl
noncomputable def s_l00Own_V : Env := ⟨tau, [], []⟩
noncomputable def s_l00Own_b : Code := (Try.f64.body).getD .skip
noncomputable def s_l00Own_I : FnI := ⟨s_l00Own_b, Try.f64.results.toList, Try.f64.resultTypes.toList, []⟩
noncomputable def s_l00Own_out (_zp0 : Bool) (_p0 : (List Int)) : (List Int) → CallOut := fun r => ⟨(.ref (1, 0) []), [], [⟨false, (.sl (.int .i64)), .own, r⟩]⟩
set_option maxRecDepth 100000 in
theorem s_l00Own_eq : ∀ (zp0 : Bool) (p0 : (List Int)), denFn s_l00Own_V s_l00Own_I ⟨[(.imm zp0 (.sl (.int .i64)) p0)], []⟩ = (s_l00Own p0).run fun r => some (s_l00Own_out zp0 p0 r) := fun _ _ => by kernel_rfl
noncomputable def s_l00Own_G (av : List AV) (rs : List Root) : Tre CallOut :=
 asCons av fun a0_ av0 =>
 asEnd av0 <|
 asEnd rs <|
 asImm (.sl (.int .i64)) a0_ fun z2 d1 =>
 .mat (cloneR d1) fun r => .ret (s_l00Own_out z2 d1 r)
noncomputable def s_l00Own_c : Ctr := ⟨[], fun ci => s_l00Own_G ci.args ci.roots, false⟩
theorem s_l00Own_env : EnvOK Try.prog .none s_l00Own_V := envOK_nil
set_option maxRecDepth 100000 in
theorem s_l00Own_ok : Contract Try.prog .none 64 s_l00Own_c := by
 have hl : LoopsOK s_l00Own_V [] s_l00Own_b := loopsOK_nil (by kernel_rfl)
 refine (contract_of (F := s_l00Own_I) tau_tys s_l00Own_env Try.func64 (by kernel_rfl) (by kernel_rfl) (by kernel_rfl) hl []).weaken ?_
 rintro ⟨av, rs⟩ co h
 have h : (s_l00Own_G av rs).run some = some co := h
 obtain ⟨a0_, av0, rfl, h_0⟩ := asCons_spec h
 obtain ⟨rfl, h_1⟩ := asEnd_spec h_0
 obtain ⟨rfl, h_2⟩ := asEnd_spec h_1
 obtain ⟨z2, d1, rfl, h_3⟩ := asImm_spec h_2
 exact fin_opt (s_l00Own_eq z2 d1) (s_l00Own_spec d1) h_3
end Go.Proofs.Ytkgekgfmnhccmaa

namespace Go.Proofs.Ytkgekgfmnhccmaa
open Go Go.Abs Go.Proofs
-- shared
def wideV (L : List (List Int)) (vs : List Int) : List (List Int) := (L.zip vs).map fun p => p.1 ++ [p.2]
theorem rowsV_has {n : TN6} (h : NetP n) (node : Int) : ((rowsV n node).length : Int) = hasV n node := by
 unfold rowsV hasV
 split
 ·rw [List.length_map, List.length_range, (mess_ok h).1]
 ·rw [List.length_map]
theorem wideV_GR {f : TF3} {M : Nat} {L : List (List Int)} {vs : List Int} (h : GR f M L) (hv : ∀ x ∈ vs, inF f x) : GR f (M + 1) (wideV L vs) := by
 intro r hr
 unfold wideV at hr
 obtain ⟨p, hp, rfl⟩ := List.mem_map.1 hr
 have h1 := List.of_mem_zip (a := p.1) (b := p.2) hp
 have h2 := h p.1 h1.1
 refine ⟨by simp [h2.1], fun y hy => ?_⟩
 rcases List.mem_append.1 hy with hy | hy
 ·exact h2.2 y hy
 ·simp only [List.mem_singleton] at hy; subst hy; exact hv _ h1.2
theorem wideV_len {L : List (List Int)} {vs : List Int} (h : L.length = vs.length) : (wideV L vs).length = L.length := by unfold wideV; simp [h]
def solveC (n : TN6) (node : Int) (vs : List Int) : Int := if nodeC n node 0 = 0 then (if (vs.length : Int) = hasV n node ∧ elsOk n.1 vs = true then 0 else 2) else nodeC n node 0
def solveV (n : TN6) (node : Int) (vs : List Int) : Int × List Int :=
 if solveC n node vs = 0 then
  (if (echV n.1 (messN n) (rowsV n node)).length < messN n then (4, []) else
   if messN n < (echV n.1 (messN n + 1) (wideV (rowsV n node) vs)).length then (6, []) else (0, (echV n.1 (messN n + 1) (wideV (rowsV n node) vs)).map fun r => r.getD (messN n) 0))
 else (solveC n node vs, [])
end Go.Proofs.Ytkgekgfmnhccmaa

namespace Go.Proofs.Ytkgekgfmnhccmaa
open Go Go.Abs Go.Proofs
noncomputable def s_SolveAt_l11 (h11_0_0 : (List Int)) (h11_0_1 : (List (List Int))) : (Int × (List (List Int))) → Tre ((Int × (List (List Int))) ⊕ (List (List Int))) := fun s11 =>
 .cond (decide (s11.1 < (h11_0_1.length : Int)))
  (.ite (0 ≤ s11.1 ∧ s11.1 < (h11_0_1.length : Int)) <|
  .mat (h11_0_1[s11.1.toNat]?) fun x6 =>
  .mat (cloneR x6) fun r7 =>
  .ite (0 ≤ s11.1 ∧ s11.1 < (h11_0_0.length : Int)) <|
  .mat (h11_0_0[s11.1.toNat]?) fun x8 =>
  .ite ((r7.length + 1) * 8 ≤ appendMax ∧ 1 ≤ 8) <|
  .ite ((s11.2.length + 1) * 24 ≤ appendMax ∧ 1 ≤ 24) <|
  let v9 := s11.2 ++ ([r7 ++ ([x8])])
  .ret (.inl (iwrap .i64 (s11.1 + 1), v9)))
  (.ret (.inr s11.2))
noncomputable def s_SolveAt_l19 (h19_0_1 : TNet) (h19_0_2 : (List (List Int))) : (Int × (List Int)) → Tre ((Int × (List Int)) ⊕ (List Int)) := fun s19 =>
 .cond (decide (s19.1 < (h19_0_2.length : Int)))
  (.ite (0 ≤ s19.1 ∧ s19.1 < (h19_0_2.length : Int)) <|
  .mat (h19_0_2[s19.1.toNat]?) fun x13 =>
  .ite (0 ≤ h19_0_1.2.2.1 ∧ h19_0_1.2.2.1 < (x13.length : Int)) <|
  .mat (x13[h19_0_1.2.2.1.toNat]?) fun x14 =>
  .ite ((s19.2.length + 1) * 8 ≤ appendMax ∧ 1 ≤ 8) <|
  .ret (.inl (iwrap .i64 (s19.1 + 1), s19.2 ++ ([x14]))))
  (.ret (.inr s19.2))
noncomputable def s_SolveAt (p0 : TNet) (p1 : Int) (p2 : (List Int)) : Tre (Int × (List Int)) :=
 .mat (s_l07Node_4c46_F p1 0 p0) fun r1 =>
 .cond (!decide (r1 = 0))
  (.ret (r1, []))
  (.mat (s_l07Has_e270_F p0 p1) fun r2 =>
  .cond (!decide ((p2.length : Int) = r2))
   (.ret (2, []))
   (.mat (s_l04Elements_F p0.1 p2) fun r3 =>
   .cond (!r3)
    (.ret (2, []))
    (.mat (s_l07Rows_8c37Z_F p1 p0) fun r4 =>
    .mat (s_l07Rank_4275_F p0 r4) fun r5 =>
    .cond (decide (r5 < p0.2.2.1))
     (.ret (4, []))
     (.mat (loopF (s_SolveAt_l11 p2 r4) (0, [])) fun l10 =>
     let v11 := iwrap .i64 (p0.2.2.1 + 1)
     .mat (s_l04Echelon_F p0.1 v11 l10) fun r12 =>
     .cond (decide ((r12.length : Int) > p0.2.2.1))
      (.ret (6, []))
      (.mat (loopF (s_SolveAt_l19 p0 r12) (0, [])) fun l15 =>
      .ret (0, l15))))))
noncomputable def s_SolveAt_F (p0 : TNet) (p1 : Int) (p2 : (List Int)) : Option (Int × (List Int)) := (s_SolveAt p0 p1 p2).run some
-- more
theorem ssolve_wide {L : List (List Int)} {vs : List Int} (hl : L.length = vs.length) (hn : L.length ≤ 1000) (hr : ∀ r ∈ L, r.length ≤ 1000) : loopF (s_SolveAt_l11 vs L) (0, []) = some (wideV L vs) := by
 have key := fold_loop (xs := L.zip vs) (step := s_SolveAt_l11 vs L) (γ := List (List Int)) (fun (i : Nat) acc => ((i : Int), acc)) (fun _ acc p => .inl (acc ++ [p.1 ++ [p.2]])) id (fun i acc => acc.length = i) (by
  intro i acc p hp hi
  have hlt := (List.getElem?_eq_some_iff.1 hp).1
  rw [List.length_zip] at hlt
  obtain ⟨p1, p2⟩ := p
  rw [List.getElem?_zip_eq_some] at hp
  obtain ⟨h1, h2⟩ := hp
  have hrl := hr p1 (List.mem_of_getElem? h1)
  refine ⟨?_, fun a ha => ?_⟩
  ·unfold s_SolveAt_l11
   dsimp only
   rw [Tre.run_cond, decide_eq_true (by omega), cond_true, Tre.run_ite, if_pos (by omega), Int.toNat_natCast, run_some_mat h1, run_some_mat (show cloneR p1 = some p1 from lim_of (by omega)), Tre.run_ite, if_pos (by omega), run_some_mat h2, Tre.run_ite, if_pos (by unfold appendMax; omega), Tre.run_ite, if_pos (by unfold appendMax; omega), Tre.run_ret, iwrap_succ (by omega)]
  ·cases ha; simp [hi]) (by
  intro acc _
  unfold s_SolveAt_l11
  dsimp only
  rw [Tre.run_cond, decide_eq_false (by rw [List.length_zip]; omega), cond_false]
  rfl) (L.zip vs) 0 [] rfl (Nat.zero_le _) rfl
 rw [foldE_app] at key
 exact key
theorem ssolve_take {n : TN6} (h : NetP n) {E : List (List Int)} (hE : ∀ r ∈ E, r.length = messN n + 1) (hl : E.length ≤ 1000) :
  loopF (s_SolveAt_l19 n E) (0, []) = some (E.map fun r => r.getD (messN n) 0) := by
 obtain ⟨hm1, hm2, hm3⟩ := mess_ok h
 have key := fold_loop (xs := E) (step := s_SolveAt_l19 n E) (γ := List Int) (fun (i : Nat) acc => ((i : Int), acc)) (fun _ acc r => .inl (acc ++ [r.getD (messN n) 0])) id (fun i acc => acc.length = i) (by
  intro i acc x hx hi
  have hlt := (List.getElem?_eq_some_iff.1 hx).1
  have hxl := hE x (List.mem_of_getElem? hx)
  have hy := List.getElem?_eq_getElem (show messN n < x.length by omega)
  refine ⟨?_, fun a ha => ?_⟩
  ·unfold s_SolveAt_l19
   dsimp only
   rw [Tre.run_cond, decide_eq_true (by omega), cond_true, Tre.run_ite, if_pos (by omega), Int.toNat_natCast, run_some_mat hx, Tre.run_ite, if_pos (by omega), hm1, Int.toNat_natCast, run_some_mat hy, Tre.run_ite, if_pos (by unfold appendMax; omega), Tre.run_ret, iwrap_succ (by omega), getD_of hy]
  ·cases ha; simp [hi]) (by
  intro acc _
  unfold s_SolveAt_l19
  dsimp only
  rw [Tre.run_cond, decide_eq_false (by omega), cond_false]
  rfl) E 0 [] rfl (Nat.zero_le _) rfl
 rw [foldE_app] at key
 exact key
theorem s_SolveAt_is (n : TN6) (node : Int) {vs : List Int} (hv : vs.length ≤ 1048576) : s_SolveAt_F n node vs = some (solveV n node vs) := by
 unfold s_SolveAt_F s_SolveAt solveV
 rw [run_some_mat (snode_is n node 0), Tre.run_cond]
 by_cases hc : nodeC n node 0 = 0
 case neg =>
  have hsc : solveC n node vs = nodeC n node 0 := by unfold solveC; rw [if_neg hc]
  rw [decide_eq_false hc, hsc, if_neg hc]
  rfl
 obtain ⟨h, _⟩ := nodeC_net hc
 have h2 : ∀ e ∈ n.2.2.2.1, e.length = 2 := by
  intro e he
  obtain ⟨i, hi⟩ := List.mem_iff_getElem?.1 he
  exact edgeOk_len (h.edges i e hi)
 rw [decide_eq_true hc, Bool.not_true, cond_false, run_some_mat (s_l07Has_is n h.len h2 node), Tre.run_cond]
 by_cases hl : (vs.length : Int) = hasV n node
 case neg =>
  have hsc : solveC n node vs = 2 := by unfold solveC; rw [if_pos hc, if_neg (fun hh => hl hh.1)]
  rw [decide_eq_false hl, hsc, if_neg (by decide)]
  rfl
 rw [decide_eq_true hl, Bool.not_true, cond_false, run_some_mat (s_l04Elements_is h.field vs (by omega)), Tre.run_cond]
 rcases Bool.eq_false_or_eq_true (elsOk n.1 vs) with he | he
 case inr =>
  have hsc : solveC n node vs = 2 := by unfold solveC; rw [if_pos hc, if_neg (fun hh => by rw [he] at hh; cases hh.2)]
  rw [he, hsc, if_neg (by decide)]
  rfl
 have hsc : solveC n node vs = 0 := by unfold solveC; rw [if_pos hc, if_pos ⟨hl, he⟩]
 rw [he, Bool.not_true, cond_false, if_pos hsc]
 have hvf := elsOk_in h.field he
 obtain ⟨hm1, hm2, hm3⟩ := mess_ok h
 have hrl := rowsV_len h node
 have hrg := rowsV_GR h node
 have hrh := rowsV_has h node
 have hwg := wideV_GR (vs := vs) hrg hvf
 have hwl := wideV_len (L := rowsV n node) (vs := vs) (by omega)
 rw [run_some_mat (srowsZ_is h node), run_some_mat (srank_is h hrg (by omega)), Tre.run_cond]
 by_cases h1 : (echV n.1 (messN n) (rowsV n node)).length < messN n
 ·rw [decide_eq_true (by omega), if_pos h1]; rfl
 ·rw [decide_eq_false (by omega), if_neg h1, cond_false]
  have hw := ssolve_wide (L := rowsV n node) (vs := vs) (by omega) (by omega) (fun r hr => by rw [(hrg r hr).1]; omega)
  have hr := sech_is h.field (n := messN n + 1) (by omega) hwg (by omega)
  have hEl := echV_len h.field (m := messN n + 1) hwg
  have hEk := (echFrom_ok h.field (messN n + 1) 0 (0, wideV (rowsV n node) vs) hwg (Nat.zero_le _)).2.2
  have ht := ssolve_take h (E := echV n.1 (messN n + 1) (wideV (rowsV n node) vs)) (fun r hr => (echV_GR h.field hwg r hr).1) (by dsimp only at hEk; omega)
  have hcast : iwrap .i64 (n.2.2.1 + 1) = ((messN n + 1 : Nat) : Int) := by rw [hm1, iwrap_i64 (by omega) (by omega)]; rfl
  rw [run_some_mat hw]
  dsimp only
  rw [hcast, run_some_mat hr, Tre.run_cond]
  by_cases h2 : messN n < (echV n.1 (messN n + 1) (wideV (rowsV n node) vs)).length
  ·rw [decide_eq_true (by omega), if_pos h2]; rfl
  ·rw [decide_eq_false (by omega), if_neg h2, cond_false, run_some_mat ht]; rfl
noncomputable def s_SolveAt_V : Env := ⟨tau, [(46, s_l07Node_4c46_c), (60, s_l07Has_e270_c), (61, s_l04Elements_c), (62, s_l07Rows_8c37Z_c), (63, s_l07Rank_4275_c), (64, s_l00Own_c), (65, s_l04Echelon_c)], []⟩
noncomputable def s_SolveAt_b : Code := (Try.f21.body).getD .skip
noncomputable def s_SolveAt_l11_mk (z11_0 : Bool) (z11_1 : Bool) (h11_0_0 : (List Int)) (h11_0_1 : (List (List Int))) (h11_0_3 : TNet) : (Int × (List (List Int))) → St := fun x => stOf [(2, (.imm z11_0 (.sl (.int .i64)) h11_0_0)), (3, (.ptr (5, 0) [])), (9, (.imm true (.sl (.sl (.int .i64))) h11_0_1)), (10, (.ref (12, 0) [])), (11, (.imm true (.int .i64) x.1))] [((5, 0), some ⟨true, kNet, (.imm z11_1), h11_0_3⟩), ((12, 0), some ⟨false, (.sl (.sl (.int .i64))), .own, x.2⟩)]
noncomputable def s_SolveAt_l11_out (_z11_0 : Bool) (z11_1 : Bool) (_h11_0_0 : (List Int)) (_h11_0_1 : (List (List Int))) (h11_0_3 : TNet) : (List (List Int)) → Ex × St := fun x => (.exit 0, stOf [(3, (.ptr (5, 0) [])), (10, (.ref (12, 0) []))] [((5, 0), some ⟨true, kNet, (.imm z11_1), h11_0_3⟩), ((12, 0), some ⟨false, (.sl (.sl (.int .i64))), .own, x⟩)])
noncomputable def s_SolveAt_l11_D (s : St) : Tre (Ex × St) :=
 asImm (.sl (.int .i64)) (s.tmps 2) fun z3 d2 =>
 asPtr (5, 0) [] (s.tmps 3) <|
 asImmZ true (.sl (.sl (.int .i64))) (s.tmps 9) fun d6 =>
 asRef (12, 0) [] (s.tmps 10) <|
 asImmZ true (.int .i64) (s.tmps 11) fun d9 =>
 asRoot true kNet (s.roots (5, 0)) fun m11 d12 =>
 asMImm m11 fun z13 =>
 asRoot false (.sl (.sl (.int .i64))) (s.roots (12, 0)) fun m15 d16 =>
 asM .own m15 <|
 .mat (loopF (s_SolveAt_l11 d2 d6) (d9, d16)) fun x => .ret (s_SolveAt_l11_out z3 z13 d2 d6 d12 x)
noncomputable def s_SolveAt_l11_L : LoopI := ⟨([2, 3, 9, 10, 11], [(5, 0), (12, 0)]), ([3, 10], [(5, 0), (12, 0)]), s_SolveAt_l11_D⟩
noncomputable def s_SolveAt_l19_mk (z19_0 : Bool) (h19_0_1 : TNet) (h19_0_2 : (List (List Int))) : (Int × (List Int)) → St := fun x => stOf [(3, (.ptr (5, 0) [])), (12, (.ref (14, 0) [])), (13, (.ref (15, 0) [])), (14, (.imm true (.int .i64) x.1))] [((5, 0), some ⟨true, kNet, (.imm z19_0), h19_0_1⟩), ((14, 0), some ⟨false, (.sl (.sl (.int .i64))), (.sl (.imm true)), h19_0_2⟩), ((15, 0), some ⟨false, (.sl (.int .i64)), .own, x.2⟩)]
noncomputable def s_SolveAt_l19_out (_z19_0 : Bool) (_h19_0_1 : TNet) (_h19_0_2 : (List (List Int))) : (List Int) → Ex × St := fun x => (.exit 2, stOf [(13, (.ref (15, 0) []))] [((15, 0), some ⟨false, (.sl (.int .i64)), .own, x⟩)])
noncomputable def s_SolveAt_l19_D (s : St) : Tre (Ex × St) :=
 asPtr (5, 0) [] (s.tmps 3) <|
 asRef (14, 0) [] (s.tmps 12) <|
 asRef (15, 0) [] (s.tmps 13) <|
 asImmZ true (.int .i64) (s.tmps 14) fun d5 =>
 asRoot true kNet (s.roots (5, 0)) fun m7 d8 =>
 asMImm m7 fun z9 =>
 asRoot false (.sl (.sl (.int .i64))) (s.roots (14, 0)) fun m11 d12 =>
 asM (.sl (.imm true)) m11 <|
 asRoot false (.sl (.int .i64)) (s.roots (15, 0)) fun m14 d15 =>
 asM .own m14 <|
 .mat (loopF (s_SolveAt_l19 d8 d12) (d5, d15)) fun x => .ret (s_SolveAt_l19_out z9 d8 d12 x)
noncomputable def s_SolveAt_l19_L : LoopI := ⟨([3, 12, 13, 14], [(5, 0), (14, 0), (15, 0)]), ([13], [(15, 0)]), s_SolveAt_l19_D⟩
noncomputable def s_SolveAt_A : List (Nat × LoopI) := [(11, s_SolveAt_l11_L), (19, s_SolveAt_l19_L)]
set_option maxRecDepth 100000 in
theorem s_SolveAt_l11_step : ∀ (z11_0 : Bool) (z11_1 : Bool) (h11_0_0 : (List Int)) (h11_0_1 : (List (List Int))) (h11_0_3 : TNet) (x : (Int × (List (List Int)))) (c : St → Option (Ex × St)), den s_SolveAt_V s_SolveAt_A (loopAt s_SolveAt_b 0) (s_SolveAt_l11_mk z11_0 z11_1 h11_0_0 h11_0_1 h11_0_3 x) (roundK s_SolveAt_l11_L.kp s_SolveAt_l11_L.kx c) = (s_SolveAt_l11 h11_0_0 h11_0_1 x).run (roundR (s_SolveAt_l11_mk z11_0 z11_1 h11_0_0 h11_0_1 h11_0_3) (s_SolveAt_l11_out z11_0 z11_1 h11_0_0 h11_0_1 h11_0_3) c) := fun _ _ _ _ _ _ _ => by
 kernel_rfl
theorem s_SolveAt_l11_ok : LoopOK s_SolveAt_V s_SolveAt_A (loopAt s_SolveAt_b 0) s_SolveAt_l11_L := loopOK_of fun s e s' h => by
 generalize hs : restrict s_SolveAt_l11_L.kp s = s1 at h
 have h : (s_SolveAt_l11_D s1).run some = some (e, s') := h
 obtain ⟨z3, d2, e1, h_0⟩ := asImm_spec h
 obtain ⟨e4, h_1⟩ := asPtr_spec h_0
 obtain ⟨d6, e5, h_2⟩ := asImmZ_spec h_1
 obtain ⟨e7, h_3⟩ := asRef_spec h_2
 obtain ⟨d9, e8, h_4⟩ := asImmZ_spec h_3
 obtain ⟨m11, d12, e10, h_5⟩ := asRoot_spec h_4
 obtain ⟨z13, rfl, h_6⟩ := asMImm_spec h_5
 obtain ⟨m15, d16, e14, h_7⟩ := asRoot_spec h_6
 obtain ⟨rfl, h_8⟩ := asM_spec h_7
 obtain ⟨y, hy, hz⟩ := mat_ret h_8
 refine ⟨_, _, s_SolveAt_l11_mk z3 z13 d2 d6 d12, s_SolveAt_l11_out z3 z13 d2 d6 d12, s_SolveAt_l11 d2 d6, (d9, d16), y, ?_, hy, ?_, s_SolveAt_l11_step z3 z13 d2 d6 d12⟩
 ·subst hs; exact restrict_eq (T := [(2, (.imm z3 (.sl (.int .i64)) d2)), (3, (.ptr (5, 0) [])), (9, (.imm true (.sl (.sl (.int .i64))) d6)), (10, (.ref (12, 0) [])), (11, (.imm true (.int .i64) d9))]) (U := [((5, 0), some ⟨true, kNet, (.imm z13), d12⟩), ((12, 0), some ⟨false, (.sl (.sl (.int .i64))), .own, d16⟩)]) rfl rfl ⟨e1, e4, e5, e7, e8, trivial⟩ ⟨e10, e14, trivial⟩
 ·exact Option.some.inj hz
set_option maxRecDepth 100000 in
theorem s_SolveAt_l19_step : ∀ (z19_0 : Bool) (h19_0_1 : TNet) (h19_0_2 : (List (List Int))) (x : (Int × (List Int))) (c : St → Option (Ex × St)), den s_SolveAt_V s_SolveAt_A (loopAt s_SolveAt_b 1) (s_SolveAt_l19_mk z19_0 h19_0_1 h19_0_2 x) (roundK s_SolveAt_l19_L.kp s_SolveAt_l19_L.kx c) = (s_SolveAt_l19 h19_0_1 h19_0_2 x).run (roundR (s_SolveAt_l19_mk z19_0 h19_0_1 h19_0_2) (s_SolveAt_l19_out z19_0 h19_0_1 h19_0_2) c) := fun _ _ _ _ _ => by
 kernel_rfl
theorem s_SolveAt_l19_ok : LoopOK s_SolveAt_V s_SolveAt_A (loopAt s_SolveAt_b 1) s_SolveAt_l19_L := loopOK_of fun s e s' h => by
 generalize hs : restrict s_SolveAt_l19_L.kp s = s1 at h
 have h : (s_SolveAt_l19_D s1).run some = some (e, s') := h
 obtain ⟨e1, h_0⟩ := asPtr_spec h
 obtain ⟨e2, h_1⟩ := asRef_spec h_0
 obtain ⟨e3, h_2⟩ := asRef_spec h_1
 obtain ⟨d5, e4, h_3⟩ := asImmZ_spec h_2
 obtain ⟨m7, d8, e6, h_4⟩ := asRoot_spec h_3
 obtain ⟨z9, rfl, h_5⟩ := asMImm_spec h_4
 obtain ⟨m11, d12, e10, h_6⟩ := asRoot_spec h_5
 obtain ⟨rfl, h_7⟩ := asM_spec h_6
 obtain ⟨m14, d15, e13, h_8⟩ := asRoot_spec h_7
 obtain ⟨rfl, h_9⟩ := asM_spec h_8
 obtain ⟨y, hy, hz⟩ := mat_ret h_9
 refine ⟨_, _, s_SolveAt_l19_mk z9 d8 d12, s_SolveAt_l19_out z9 d8 d12, s_SolveAt_l19 d8 d12, (d5, d15), y, ?_, hy, ?_, s_SolveAt_l19_step z9 d8 d12⟩
 ·subst hs; exact restrict_eq (T := [(3, (.ptr (5, 0) [])), (12, (.ref (14, 0) [])), (13, (.ref (15, 0) [])), (14, (.imm true (.int .i64) d5))]) (U := [((5, 0), some ⟨true, kNet, (.imm z9), d8⟩), ((14, 0), some ⟨false, (.sl (.sl (.int .i64))), (.sl (.imm true)), d12⟩), ((15, 0), some ⟨false, (.sl (.int .i64)), .own, d15⟩)]) rfl rfl ⟨e1, e2, e3, e4, trivial⟩ ⟨e6, e10, e13, trivial⟩
 ·exact Option.some.inj hz
noncomputable def s_SolveAt_I : FnI := ⟨s_SolveAt_b, Try.f21.results.toList, Try.f21.resultTypes.toList, s_SolveAt_A⟩
noncomputable def s_SolveAt_out (_zp0 : Bool) (_zp1 : Bool) (_p0 : TNet) (_p1 : Int) (_p2 : (List Int)) : (Int × (List Int)) → CallOut := fun r => ⟨(.tcons (.ref (1, 0) []) (.tcons (.imm true (.int .i64) r.1) .tnil)), [], [⟨false, (.sl (.int .i64)), .own, r.2⟩]⟩
set_option maxRecDepth 100000 in
theorem s_SolveAt_eq : ∀ (zp0 : Bool) (zp1 : Bool) (p0 : TNet) (p1 : Int) (p2 : (List Int)), denFn s_SolveAt_V s_SolveAt_I ⟨[(.imm zp0 kNet p0), (.imm true (.int .i64) p1), (.imm zp1 (.sl (.int .i64)) p2)], []⟩ = (s_SolveAt p0 p1 p2).run fun r => some (s_SolveAt_out zp0 zp1 p0 p1 p2 r) := fun _ _ _ _ _ => by kernel_rfl
noncomputable def s_SolveAt_G (av : List AV) (rs : List Root) : Tre CallOut :=
 asCons av fun a0_ av0 =>
 asCons av0 fun a1_ av1 =>
 asCons av1 fun a2_ av2 =>
 asEnd av2 <|
 asEnd rs <|
 asImm kNet a0_ fun z2 d1 =>
 asImmZ true (.int .i64) a1_ fun d3 =>
 asImm (.sl (.int .i64)) a2_ fun z5 d4 =>
 .mat (s_SolveAt_F d1 d3 d4) fun r => .ret (s_SolveAt_out z2 z5 d1 d3 d4 r)
noncomputable def s_SolveAt_c : Ctr := ⟨[], fun ci => s_SolveAt_G ci.args ci.roots, false⟩
theorem s_SolveAt_env : EnvOK Try.prog .none s_SolveAt_V := (envOK_cons s_l07Node_4c46_ok ent46 (envOK_cons s_l07Has_e270_ok ent60 (envOK_cons s_l04Elements_ok ent61 (envOK_cons s_l07Rows_8c37Z_ok ent62 (envOK_cons s_l07Rank_4275_ok ent63 (envOK_cons s_l00Own_ok ent64 (envOK_cons s_l04Echelon_ok ent65 envOK_nil)))))))
set_option maxRecDepth 100000 in
theorem s_SolveAt_ok : Contract Try.prog .none 21 s_SolveAt_c := by
 have hl : LoopsOK s_SolveAt_V s_SolveAt_A s_SolveAt_b := (loopsOK_all (n := 2) (by kernel_rfl) fun k hk => by
   match k, hk with
   | 0, _ => exact loopOK_at (id := 11) (L := s_SolveAt_l11_L) (by kernel_rfl) (by kernel_rfl) s_SolveAt_l11_ok
   | 1, _ => exact loopOK_at (id := 19) (L := s_SolveAt_l19_L) (by kernel_rfl) (by kernel_rfl) s_SolveAt_l19_ok)
 refine (contract_of (F := s_SolveAt_I) tau_tys s_SolveAt_env Try.func21 (by kernel_rfl) (by kernel_rfl) (by kernel_rfl) hl []).weaken ?_
 rintro ⟨av, rs⟩ co h
 have h : (s_SolveAt_G av rs).run some = some co := h
 obtain ⟨a0_, av0, rfl, h_0⟩ := asCons_spec h
 obtain ⟨a1_, av1, rfl, h_1⟩ := asCons_spec h_0
 obtain ⟨a2_, av2, rfl, h_2⟩ := asCons_spec h_1
 obtain ⟨rfl, h_3⟩ := asEnd_spec h_2
 obtain ⟨rfl, h_4⟩ := asEnd_spec h_3
 obtain ⟨z2, d1, rfl, h_5⟩ := asImm_spec h_4
 obtain ⟨d3, rfl, h_6⟩ := asImmZ_spec h_5
 obtain ⟨z5, d4, rfl, h_7⟩ := asImm_spec h_6
 exact fin_mat (s_SolveAt_eq z2 z5 d1 d3 d4) h_7
end Go.Proofs.Ytkgekgfmnhccmaa

namespace Go.Proofs.Ytkgekgfmnhccmaa
open Go Go.Abs Go.Proofs
noncomputable def i_within (p0 : Int) (p1 : Int) (p2 : Int) : Tre Bool :=
 .cond (decide (p0 ≥ p1))
  (.ret (decide (p0 ≤ p2)))
  (.ret false)
noncomputable def i_within_F (p0 : Int) (p1 : Int) (p2 : Int) : Option Bool := (i_within p0 p1 p2).run some
theorem i_within_spec (n a b : Int) : i_within_F n a b = some (inR n a b) := by
 unfold i_within_F i_within inR
 by_cases h : a ≤ n
 ·simp [Tre.run_cond, Tre.run_ret, h]
 ·simp [Tre.run_cond, Tre.run_ret, h]
noncomputable def i_within_V : Env := ⟨tau, [], []⟩
noncomputable def i_within_b : Code := (Try.f92.body).getD .skip
noncomputable def i_within_I : FnI := ⟨i_within_b, Try.f92.results.toList, Try.f92.resultTypes.toList, []⟩
noncomputable def i_within_out (_p0 : Int) (_p1 : Int) (_p2 : Int) : Bool → CallOut := fun r => ⟨(.imm true .bool r), [], []⟩
set_option maxRecDepth 100000 in
theorem i_within_eq : ∀ (p0 : Int) (p1 : Int) (p2 : Int), denFn i_within_V i_within_I ⟨[(.imm true (.int .i64) p0), (.imm true (.int .i64) p1), (.imm true (.int .i64) p2)], []⟩ = (i_within p0 p1 p2).run fun r => some (i_within_out p0 p1 p2 r) := fun _ _ _ => by kernel_rfl
noncomputable def i_within_G (av : List AV) (rs : List Root) : Tre CallOut :=
 asCons av fun a0_ av0 =>
 asCons av0 fun a1_ av1 =>
 asCons av1 fun a2_ av2 =>
 asEnd av2 <|
 asEnd rs <|
 asImmZ true (.int .i64) a0_ fun d1 =>
 asImmZ true (.int .i64) a1_ fun d2 =>
 asImmZ true (.int .i64) a2_ fun d3 =>
 .ret (i_within_out d1 d2 d3 (inR d1 d2 d3))
noncomputable def i_within_c : Ctr := ⟨[], fun ci => i_within_G ci.args ci.roots, false⟩
theorem i_within_env : EnvOK Try.prog .none i_within_V := envOK_nil
set_option maxRecDepth 100000 in
theorem i_within_ok : Contract Try.prog .none 92 i_within_c := by
 have hl : LoopsOK i_within_V [] i_within_b := loopsOK_nil (by kernel_rfl)
 refine (contract_of (F := i_within_I) tau_tys i_within_env Try.func92 (by kernel_rfl) (by kernel_rfl) (by kernel_rfl) hl []).weaken ?_
 rintro ⟨av, rs⟩ co h
 have h : (i_within_G av rs).run some = some co := h
 obtain ⟨a0_, av0, rfl, h_0⟩ := asCons_spec h
 obtain ⟨a1_, av1, rfl, h_1⟩ := asCons_spec h_0
 obtain ⟨a2_, av2, rfl, h_2⟩ := asCons_spec h_1
 obtain ⟨rfl, h_3⟩ := asEnd_spec h_2
 obtain ⟨rfl, h_4⟩ := asEnd_spec h_3
 obtain ⟨d1, rfl, h_5⟩ := asImmZ_spec h_4
 obtain ⟨d2, rfl, h_6⟩ := asImmZ_spec h_5
 obtain ⟨d3, rfl, h_7⟩ := asImmZ_spec h_6
 exact fin_ret (i_within_eq d1 d2 d3) (i_within_spec d1 d2 d3) h_7
end Go.Proofs.Ytkgekgfmnhccmaa

namespace Go.Proofs.Ytkgekgfmnhccmaa
open Go Go.Abs Go.Proofs
noncomputable def i_degreeOf_l2 : (Int × Int) → Tre ((Int × Int) ⊕ Int) := fun s2 =>
 .cond (decide (s2.1 > 0))
  (.ret (.inl (ishr .i64 s2.1 1, iwrap .i64 (s2.2 + 1))))
  (.ret (.inr s2.2))
noncomputable def i_degreeOf (p0 : Int) : Tre Int :=
 .mat (loopF i_degreeOf_l2 (p0, -1)) fun l1 =>
 .ret l1
noncomputable def i_degreeOf_F (p0 : Int) : Option Int := (i_degreeOf p0).run some
noncomputable def i_degreeOf_V : Env := ⟨tau, [], []⟩
noncomputable def i_degreeOf_b : Code := (Try.f136.body).getD .skip
noncomputable def i_degreeOf_l2_mk : (Int × Int) → St := fun x => stOf [(0, (.imm true (.int .i64) x.1)), (3, (.imm true (.int .i64) x.2))] []
noncomputable def i_degreeOf_l2_out : Int → Ex × St := fun x => (.exit 0, stOf [(3, (.imm true (.int .i64) x))] [])
noncomputable def i_degreeOf_l2_D (s : St) : Tre (Ex × St) :=
 asImmZ true (.int .i64) (s.tmps 0) fun d2 =>
 asImmZ true (.int .i64) (s.tmps 3) fun d4 =>
 .mat (loopF i_degreeOf_l2 (d2, d4)) fun x => .ret (i_degreeOf_l2_out x)
noncomputable def i_degreeOf_l2_L : LoopI := ⟨([0, 3], []), ([3], []), i_degreeOf_l2_D⟩
noncomputable def i_degreeOf_A : List (Nat × LoopI) := [(2, i_degreeOf_l2_L)]
set_option maxRecDepth 100000 in
theorem i_degreeOf_l2_step : ∀ (x : (Int × Int)) (c : St → Option (Ex × St)), den i_degreeOf_V i_degreeOf_A (loopAt i_degreeOf_b 0) (i_degreeOf_l2_mk x) (roundK i_degreeOf_l2_L.kp i_degreeOf_l2_L.kx c) = (i_degreeOf_l2 x).run (roundR (i_degreeOf_l2_mk) (i_degreeOf_l2_out) c) := fun _ _ => by
 kernel_rfl
theorem i_degreeOf_l2_ok : LoopOK i_degreeOf_V i_degreeOf_A (loopAt i_degreeOf_b 0) i_degreeOf_l2_L := loopOK_of fun s e s' h => by
 generalize hs : restrict i_degreeOf_l2_L.kp s = s1 at h
 have h : (i_degreeOf_l2_D s1).run some = some (e, s') := h
 obtain ⟨d2, e1, h_0⟩ := asImmZ_spec h
 obtain ⟨d4, e3, h_1⟩ := asImmZ_spec h_0
 obtain ⟨y, hy, hz⟩ := mat_ret h_1
 refine ⟨_, _, i_degreeOf_l2_mk, i_degreeOf_l2_out, i_degreeOf_l2, (d2, d4), y, ?_, hy, ?_, i_degreeOf_l2_step⟩
 ·subst hs; exact restrict_eq (T := [(0, (.imm true (.int .i64) d2)), (3, (.imm true (.int .i64) d4))]) (U := []) rfl rfl ⟨e1, e3, trivial⟩ trivial
 ·exact Option.some.inj hz
noncomputable def i_degreeOf_I : FnI := ⟨i_degreeOf_b, Try.f136.results.toList, Try.f136.resultTypes.toList, i_degreeOf_A⟩
noncomputable def i_degreeOf_out (_p0 : Int) : Int → CallOut := fun r => ⟨(.imm true (.int .i64) r), [], []⟩
set_option maxRecDepth 100000 in
theorem i_degreeOf_eq : ∀ (p0 : Int), denFn i_degreeOf_V i_degreeOf_I ⟨[(.imm true (.int .i64) p0)], []⟩ = (i_degreeOf p0).run fun r => some (i_degreeOf_out p0 r) := fun _ => by kernel_rfl
noncomputable def i_degreeOf_G (av : List AV) (rs : List Root) : Tre CallOut :=
 asCons av fun a0_ av0 =>
 asEnd av0 <|
 asEnd rs <|
 asImmZ true (.int .i64) a0_ fun d1 =>
 .mat (i_degreeOf_F d1) fun r => .ret (i_degreeOf_out d1 r)
noncomputable def i_degreeOf_c : Ctr := ⟨[], fun ci => i_degreeOf_G ci.args ci.roots, false⟩
theorem i_degreeOf_env : EnvOK Try.prog .none i_degreeOf_V := envOK_nil
set_option maxRecDepth 100000 in
theorem i_degreeOf_ok : Contract Try.prog .none 136 i_degreeOf_c := by
 have hl : LoopsOK i_degreeOf_V i_degreeOf_A i_degreeOf_b := (loopsOK_all (n := 1) (by kernel_rfl) fun k hk => by
   match k, hk with
   | 0, _ => exact loopOK_at (id := 2) (L := i_degreeOf_l2_L) (by kernel_rfl) (by kernel_rfl) i_degreeOf_l2_ok)
 refine (contract_of (F := i_degreeOf_I) tau_tys i_degreeOf_env Try.func136 (by kernel_rfl) (by kernel_rfl) (by kernel_rfl) hl []).weaken ?_
 rintro ⟨av, rs⟩ co h
 have h : (i_degreeOf_G av rs).run some = some co := h
 obtain ⟨a0_, av0, rfl, h_0⟩ := asCons_spec h
 obtain ⟨rfl, h_1⟩ := asEnd_spec h_0
 obtain ⟨rfl, h_2⟩ := asEnd_spec h_1
 obtain ⟨d1, rfl, h_3⟩ := asImmZ_spec h_2
 exact fin_mat (i_degreeOf_eq d1) h_3
end Go.Proofs.Ytkgekgfmnhccmaa

namespace Go.Proofs.Ytkgekgfmnhccmaa
open Go Go.Abs Go.Proofs
noncomputable def i_restOf_l2 (h2_0_1 : Int) (h2_0_2 : Int) : Int → Tre (Int ⊕ Int) := fun s2 =>
 .mat (i_degreeOf_F s2) fun r2 =>
 .cond (decide (r2 ≥ h2_0_2))
  (.mat (i_degreeOf_F s2) fun r3 =>
  .ite (0 ≤ iwrap .i64 (r3 - h2_0_2)) <|
  let v4 := ishl .i64 h2_0_1 (iwrap .i64 (r3 - h2_0_2))
  .ret (.inl (ixor .i64 s2 v4)))
  (.ret (.inr s2))
noncomputable def i_restOf (p0 : Int) (p1 : Int) : Tre Int :=
 .mat (i_degreeOf_F p1) fun r1 =>
 .mat (loopF (i_restOf_l2 p1 r1) p0) fun l5 =>
 .ret l5
noncomputable def i_restOf_F (p0 : Int) (p1 : Int) : Option Int := (i_restOf p0 p1).run some
noncomputable def i_restOf_V : Env := ⟨tau, [(136, i_degreeOf_c)], []⟩
noncomputable def i_restOf_b : Code := (Try.f142.body).getD .skip
noncomputable def i_restOf_l2_mk (h2_0_1 : Int) (h2_0_2 : Int) : Int → St := fun x => stOf [(0, (.imm true (.int .i64) x)), (1, (.imm true (.int .i64) h2_0_1)), (5, (.imm true (.int .i64) h2_0_2))] []
noncomputable def i_restOf_l2_out (_h2_0_1 : Int) (_h2_0_2 : Int) : Int → Ex × St := fun x => (.exit 0, stOf [(0, (.imm true (.int .i64) x))] [])
noncomputable def i_restOf_l2_D (s : St) : Tre (Ex × St) :=
 asImmZ true (.int .i64) (s.tmps 0) fun d2 =>
 asImmZ true (.int .i64) (s.tmps 1) fun d4 =>
 asImmZ true (.int .i64) (s.tmps 5) fun d6 =>
 .mat (loopF (i_restOf_l2 d4 d6) d2) fun x => .ret (i_restOf_l2_out d4 d6 x)
noncomputable def i_restOf_l2_L : LoopI := ⟨([0, 1, 5], []), ([0], []), i_restOf_l2_D⟩
noncomputable def i_restOf_A : List (Nat × LoopI) := [(2, i_restOf_l2_L)]
set_option maxRecDepth 100000 in
theorem i_restOf_l2_step : ∀ (h2_0_1 : Int) (h2_0_2 : Int) (x : Int) (c : St → Option (Ex × St)), den i_restOf_V i_restOf_A (loopAt i_restOf_b 0) (i_restOf_l2_mk h2_0_1 h2_0_2 x) (roundK i_restOf_l2_L.kp i_restOf_l2_L.kx c) = (i_restOf_l2 h2_0_1 h2_0_2 x).run (roundR (i_restOf_l2_mk h2_0_1 h2_0_2) (i_restOf_l2_out h2_0_1 h2_0_2) c) := fun _ _ _ _ => by
 kernel_rfl
theorem i_restOf_l2_ok : LoopOK i_restOf_V i_restOf_A (loopAt i_restOf_b 0) i_restOf_l2_L := loopOK_of fun s e s' h => by
 generalize hs : restrict i_restOf_l2_L.kp s = s1 at h
 have h : (i_restOf_l2_D s1).run some = some (e, s') := h
 obtain ⟨d2, e1, h_0⟩ := asImmZ_spec h
 obtain ⟨d4, e3, h_1⟩ := asImmZ_spec h_0
 obtain ⟨d6, e5, h_2⟩ := asImmZ_spec h_1
 obtain ⟨y, hy, hz⟩ := mat_ret h_2
 refine ⟨_, _, i_restOf_l2_mk d4 d6, i_restOf_l2_out d4 d6, i_restOf_l2 d4 d6, d2, y, ?_, hy, ?_, i_restOf_l2_step d4 d6⟩
 ·subst hs; exact restrict_eq (T := [(0, (.imm true (.int .i64) d2)), (1, (.imm true (.int .i64) d4)), (5, (.imm true (.int .i64) d6))]) (U := []) rfl rfl ⟨e1, e3, e5, trivial⟩ trivial
 ·exact Option.some.inj hz
noncomputable def i_restOf_I : FnI := ⟨i_restOf_b, Try.f142.results.toList, Try.f142.resultTypes.toList, i_restOf_A⟩
noncomputable def i_restOf_out (_p0 : Int) (_p1 : Int) : Int → CallOut := fun r => ⟨(.imm true (.int .i64) r), [], []⟩
set_option maxRecDepth 100000 in
theorem i_restOf_eq : ∀ (p0 : Int) (p1 : Int), denFn i_restOf_V i_restOf_I ⟨[(.imm true (.int .i64) p0), (.imm true (.int .i64) p1)], []⟩ = (i_restOf p0 p1).run fun r => some (i_restOf_out p0 p1 r) := fun _ _ => by kernel_rfl
noncomputable def i_restOf_G (av : List AV) (rs : List Root) : Tre CallOut :=
 asCons av fun a0_ av0 =>
 asCons av0 fun a1_ av1 =>
 asEnd av1 <|
 asEnd rs <|
 asImmZ true (.int .i64) a0_ fun d1 =>
 asImmZ true (.int .i64) a1_ fun d2 =>
 .mat (i_restOf_F d1 d2) fun r => .ret (i_restOf_out d1 d2 r)
noncomputable def i_restOf_c : Ctr := ⟨[], fun ci => i_restOf_G ci.args ci.roots, false⟩
theorem i_restOf_env : EnvOK Try.prog .none i_restOf_V := (envOK_cons i_degreeOf_ok ent136 envOK_nil)
set_option maxRecDepth 100000 in
theorem i_restOf_ok : Contract Try.prog .none 142 i_restOf_c := by
 have hl : LoopsOK i_restOf_V i_restOf_A i_restOf_b := (loopsOK_all (n := 1) (by kernel_rfl) fun k hk => by
   match k, hk with
   | 0, _ => exact loopOK_at (id := 2) (L := i_restOf_l2_L) (by kernel_rfl) (by kernel_rfl) i_restOf_l2_ok)
 refine (contract_of (F := i_restOf_I) tau_tys i_restOf_env Try.func142 (by kernel_rfl) (by kernel_rfl) (by kernel_rfl) hl []).weaken ?_
 rintro ⟨av, rs⟩ co h
 have h : (i_restOf_G av rs).run some = some co := h
 obtain ⟨a0_, av0, rfl, h_0⟩ := asCons_spec h
 obtain ⟨a1_, av1, rfl, h_1⟩ := asCons_spec h_0
 obtain ⟨rfl, h_2⟩ := asEnd_spec h_1
 obtain ⟨rfl, h_3⟩ := asEnd_spec h_2
 obtain ⟨d1, rfl, h_4⟩ := asImmZ_spec h_3
 obtain ⟨d2, rfl, h_5⟩ := asImmZ_spec h_4
 exact fin_mat (i_restOf_eq d1 d2) h_5
end Go.Proofs.Ytkgekgfmnhccmaa

namespace Go.Proofs.Ytkgekgfmnhccmaa
open Go Go.Abs Go.Proofs
noncomputable def i_IsIrreducible_l4 (h4_0_0 : Int) : Int → Tre (Int ⊕ (Bool ⊕ Unit)) := fun s4 =>
 .mat (i_degreeOf_F s4) fun r1 =>
 .mat (i_degreeOf_F h4_0_0) fun r2 =>
 .cond (decide (iwrap .i64 (2 * r1) ≤ r2))
  (.mat (i_restOf_F h4_0_0 s4) fun r3 =>
  .cond (decide (r3 = 0))
   (.ret (.inr (.inl false)))
   (.ret (.inl (iwrap .i64 (s4 + 1)))))
  (.ret (.inr (.inr ())))
noncomputable def i_IsIrreducible (p0 : Int) : Tre Bool :=
 .cond (decide (p0 < 2))
  (.ret false)
  (.cond (decide (p0 ≥ 64))
   (.ret false)
   (.mat (loopF (i_IsIrreducible_l4 p0) 2) fun l4 =>
   .alt l4
    (fun a5 =>
     .ret a5)
    (fun _ =>
     .ret true)))
noncomputable def i_IsIrreducible_F (p0 : Int) : Option Bool := (i_IsIrreducible p0).run some
noncomputable def i_IsIrreducible_V : Env := ⟨tau, [(136, i_degreeOf_c), (142, i_restOf_c)], []⟩
noncomputable def i_IsIrreducible_b : Code := (Try.f135.body).getD .skip
noncomputable def i_IsIrreducible_l4_mk (h4_0_0 : Int) : Int → St := fun x => stOf [(0, (.imm true (.int .i64) h4_0_0)), (3, (.imm true (.int .i64) x))] []
noncomputable def i_IsIrreducible_l4_out (_h4_0_0 : Int) : (Bool ⊕ Unit) → Ex × St
 | .inl x => (.ret, stOf [(2, (.imm true .bool x))] [])
 | .inr x => (.exit 0, stOf [(2, .dead)] [])
noncomputable def i_IsIrreducible_l4_D (s : St) : Tre (Ex × St) :=
 asImmZ true (.int .i64) (s.tmps 0) fun d2 =>
 asImmZ true (.int .i64) (s.tmps 3) fun d4 =>
 .mat (loopF (i_IsIrreducible_l4 d2) d4) fun x => .alt x (fun a0 => .ret (i_IsIrreducible_l4_out d2 (.inl a0))) (fun b0 => .ret (i_IsIrreducible_l4_out d2 (.inr b0)))
noncomputable def i_IsIrreducible_l4_L : LoopI := ⟨([0, 3], []), ([2], []), i_IsIrreducible_l4_D⟩
noncomputable def i_IsIrreducible_A : List (Nat × LoopI) := [(4, i_IsIrreducible_l4_L)]
set_option maxRecDepth 100000 in
theorem i_IsIrreducible_l4_step : ∀ (h4_0_0 : Int) (x : Int) (c : St → Option (Ex × St)), den i_IsIrreducible_V i_IsIrreducible_A (loopAt i_IsIrreducible_b 0) (i_IsIrreducible_l4_mk h4_0_0 x) (roundK i_IsIrreducible_l4_L.kp i_IsIrreducible_l4_L.kx c) = (i_IsIrreducible_l4 h4_0_0 x).run (roundR (i_IsIrreducible_l4_mk h4_0_0) (i_IsIrreducible_l4_out h4_0_0) c) := fun _ _ _ => by
 kernel_rfl
theorem i_IsIrreducible_l4_ok : LoopOK i_IsIrreducible_V i_IsIrreducible_A (loopAt i_IsIrreducible_b 0) i_IsIrreducible_l4_L := loopOK_of fun s e s' h => by
 generalize hs : restrict i_IsIrreducible_l4_L.kp s = s1 at h
 have h : (i_IsIrreducible_l4_D s1).run some = some (e, s') := h
 obtain ⟨d2, e1, h_0⟩ := asImmZ_spec h
 obtain ⟨d4, e3, h_1⟩ := asImmZ_spec h_0
 obtain ⟨y, hy, hz⟩ := mat_some h_1
 refine ⟨_, _, i_IsIrreducible_l4_mk d2, i_IsIrreducible_l4_out d2, i_IsIrreducible_l4 d2, d4, y, ?_, hy, ?_, i_IsIrreducible_l4_step d2⟩
 ·subst hs; exact restrict_eq (T := [(0, (.imm true (.int .i64) d2)), (3, (.imm true (.int .i64) d4))]) (U := []) rfl rfl ⟨e1, e3, trivial⟩ trivial
 ·rcases y with x | x <;> exact Option.some.inj hz
noncomputable def i_IsIrreducible_I : FnI := ⟨i_IsIrreducible_b, Try.f135.results.toList, Try.f135.resultTypes.toList, i_IsIrreducible_A⟩
noncomputable def i_IsIrreducible_out (_p0 : Int) : Bool → CallOut := fun r => ⟨(.imm true .bool r), [], []⟩
set_option maxRecDepth 100000 in
theorem i_IsIrreducible_eq : ∀ (p0 : Int), denFn i_IsIrreducible_V i_IsIrreducible_I ⟨[(.imm true (.int .i64) p0)], []⟩ = (i_IsIrreducible p0).run fun r => some (i_IsIrreducible_out p0 r) := fun _ => by kernel_rfl
noncomputable def i_IsIrreducible_G (av : List AV) (rs : List Root) : Tre CallOut :=
 asCons av fun a0_ av0 =>
 asEnd av0 <|
 asEnd rs <|
 asImmZ true (.int .i64) a0_ fun d1 =>
 .mat (i_IsIrreducible_F d1) fun r => .ret (i_IsIrreducible_out d1 r)
noncomputable def i_IsIrreducible_c : Ctr := ⟨[], fun ci => i_IsIrreducible_G ci.args ci.roots, false⟩
theorem i_IsIrreducible_env : EnvOK Try.prog .none i_IsIrreducible_V := (envOK_cons i_degreeOf_ok ent136 (envOK_cons i_restOf_ok ent142 envOK_nil))
set_option maxRecDepth 100000 in
theorem i_IsIrreducible_ok : Contract Try.prog .none 135 i_IsIrreducible_c := by
 have hl : LoopsOK i_IsIrreducible_V i_IsIrreducible_A i_IsIrreducible_b := (loopsOK_all (n := 1) (by kernel_rfl) fun k hk => by
   match k, hk with
   | 0, _ => exact loopOK_at (id := 4) (L := i_IsIrreducible_l4_L) (by kernel_rfl) (by kernel_rfl) i_IsIrreducible_l4_ok)
 refine (contract_of (F := i_IsIrreducible_I) tau_tys i_IsIrreducible_env Try.func135 (by kernel_rfl) (by kernel_rfl) (by kernel_rfl) hl []).weaken ?_
 rintro ⟨av, rs⟩ co h
 have h : (i_IsIrreducible_G av rs).run some = some co := h
 obtain ⟨a0_, av0, rfl, h_0⟩ := asCons_spec h
 obtain ⟨rfl, h_1⟩ := asEnd_spec h_0
 obtain ⟨rfl, h_2⟩ := asEnd_spec h_1
 obtain ⟨d1, rfl, h_3⟩ := asImmZ_spec h_2
 exact fin_mat (i_IsIrreducible_eq d1) h_3
end Go.Proofs.Ytkgekgfmnhccmaa

namespace Go.Proofs.Ytkgekgfmnhccmaa
open Go Go.Abs Go.Proofs
noncomputable def i_ValidField (p0 : (Int × (Int × Unit))) : Tre Bool :=
 .cond (inR p0.1 1 5)
  (.mat (i_IsIrreducible_F p0.2.1) fun r1 =>
  .cond r1
   (.mat (i_degreeOf_F p0.2.1) fun r2 =>
   .ret (decide (r2 = p0.1)))
   (.ret false))
  (.ret false)
noncomputable def i_ValidField_F (p0 : (Int × (Int × Unit))) : Option Bool := (i_ValidField p0).run some
-- more
set_option maxRecDepth 100000 in
theorem i_ValidField_is (f : Int × Int × Unit) : i_ValidField_F f = some (fieldOk f) := by
 refine field_of (I := fun _ => none) (D := fun _ => none) ?_ ?_ (by kernel_rfl) f
 ·intro f h
  unfold i_ValidField_F i_ValidField
  rw [Tre.run_cond, h]; rfl
 ·intro f h
  unfold i_ValidField_F i_ValidField
  rw [Tre.run_cond]
  have : i_IsIrreducible_F f.2.1 = some false := by
   unfold i_IsIrreducible_F i_IsIrreducible
   rw [Tre.run_cond]
   by_cases h1 : f.2.1 < 2
   ·rw [decide_eq_true h1]; rfl
   ·rw [decide_eq_false h1, cond_false, Tre.run_cond, decide_eq_true (by omega)]; rfl
  rw [run_some_mat this]
  cases inR f.1 1 5 <;> rfl
noncomputable def i_ValidField_V : Env := ⟨tau, [(92, i_within_c), (135, i_IsIrreducible_c), (136, i_degreeOf_c)], []⟩
noncomputable def i_ValidField_b : Code := (Try.f91.body).getD .skip
noncomputable def i_ValidField_I : FnI := ⟨i_ValidField_b, Try.f91.results.toList, Try.f91.resultTypes.toList, []⟩
noncomputable def i_ValidField_out (_p0 : (Int × (Int × Unit))) : Bool → CallOut := fun r => ⟨(.imm true .bool r), [], []⟩
set_option maxRecDepth 100000 in
theorem i_ValidField_eq : ∀ (p0 : (Int × (Int × Unit))), denFn i_ValidField_V i_ValidField_I ⟨[(.imm true kField p0)], []⟩ = (i_ValidField p0).run fun r => some (i_ValidField_out p0 r) := fun _ => by kernel_rfl
noncomputable def i_ValidField_G (av : List AV) (rs : List Root) : Tre CallOut :=
 asCons av fun a0_ av0 =>
 asEnd av0 <|
 asEnd rs <|
 asImmZ true kField a0_ fun d1 =>
 .mat (i_ValidField_F d1) fun r => .ret (i_ValidField_out d1 r)
noncomputable def i_ValidField_c : Ctr := ⟨[], fun ci => i_ValidField_G ci.args ci.roots, false⟩
theorem i_ValidField_env : EnvOK Try.prog .none i_ValidField_V := (envOK_cons i_within_ok ent92 (envOK_cons i_IsIrreducible_ok ent135 (envOK_cons i_degreeOf_ok ent136 envOK_nil)))
set_option maxRecDepth 100000 in
theorem i_ValidField_ok : Contract Try.prog .none 91 i_ValidField_c := by
 have hl : LoopsOK i_ValidField_V [] i_ValidField_b := loopsOK_nil (by kernel_rfl)
 refine (contract_of (F := i_ValidField_I) tau_tys i_ValidField_env Try.func91 (by kernel_rfl) (by kernel_rfl) (by kernel_rfl) hl []).weaken ?_
 rintro ⟨av, rs⟩ co h
 have h : (i_ValidField_G av rs).run some = some co := h
 obtain ⟨a0_, av0, rfl, h_0⟩ := asCons_spec h
 obtain ⟨rfl, h_1⟩ := asEnd_spec h_0
 obtain ⟨rfl, h_2⟩ := asEnd_spec h_1
 obtain ⟨d1, rfl, h_3⟩ := asImmZ_spec h_2
 exact fin_mat (i_ValidField_eq d1) h_3
end Go.Proofs.Ytkgekgfmnhccmaa

namespace Go.Proofs.Ytkgekgfmnhccmaa
open Go Go.Abs Go.Proofs
noncomputable def i_Net_isNode (p0 : TNet) (p1 : Int) : Tre Bool :=
 let v1 := inR p1 0 (iwrap .i64 (p0.2.1 - 1))
 .ret v1
noncomputable def i_Net_isNode_F (p0 : TNet) (p1 : Int) : Option Bool := (i_Net_isNode p0 p1).run some
def i_Net_isNode_S (p0 : TNet) (p1 : Int) : Bool :=
 let v1 := inR p1 0 (iwrap .i64 (p0.2.1 - 1))
 v1
theorem i_Net_isNode_spec (p0 : TNet) (p1 : Int) : i_Net_isNode_F p0 p1 = some (i_Net_isNode_S p0 p1) := rfl
noncomputable def i_Net_isNode_V : Env := ⟨tau, [(92, i_within_c)], []⟩
noncomputable def i_Net_isNode_b : Code := (Try.f93.body).getD .skip
noncomputable def i_Net_isNode_I : FnI := ⟨i_Net_isNode_b, Try.f93.results.toList, Try.f93.resultTypes.toList, []⟩
noncomputable def i_Net_isNode_out (_zp0 : Bool) (_p0 : TNet) (_p1 : Int) : Bool → CallOut := fun r => ⟨(.imm true .bool r), [], []⟩
set_option maxRecDepth 100000 in
theorem i_Net_isNode_eq : ∀ (zp0 : Bool) (p0 : TNet) (p1 : Int), denFn i_Net_isNode_V i_Net_isNode_I ⟨[(.imm zp0 kNet p0), (.imm true (.int .i64) p1)], []⟩ = (i_Net_isNode p0 p1).run fun r => some (i_Net_isNode_out zp0 p0 p1 r) := fun _ _ _ => by kernel_rfl
noncomputable def i_Net_isNode_G (av : List AV) (rs : List Root) : Tre CallOut :=
 asCons av fun a0_ av0 =>
 asCons av0 fun a1_ av1 =>
 asEnd av1 <|
 asEnd rs <|
 asImm kNet a0_ fun z2 d1 =>
 asImmZ true (.int .i64) a1_ fun d3 =>
 .ret (i_Net_isNode_out z2 d1 d3 (i_Net_isNode_S d1 d3))
noncomputable def i_Net_isNode_c : Ctr := ⟨[], fun ci => i_Net_isNode_G ci.args ci.roots, false⟩
theorem i_Net_isNode_env : EnvOK Try.prog .none i_Net_isNode_V := (envOK_cons i_within_ok ent92 envOK_nil)
set_option maxRecDepth 100000 in
theorem i_Net_isNode_ok : Contract Try.prog .none 93 i_Net_isNode_c := by
 have hl : LoopsOK i_Net_isNode_V [] i_Net_isNode_b := loopsOK_nil (by kernel_rfl)
 refine (contract_of (F := i_Net_isNode_I) tau_tys i_Net_isNode_env Try.func93 (by kernel_rfl) (by kernel_rfl) (by kernel_rfl) hl []).weaken ?_
 rintro ⟨av, rs⟩ co h
 have h : (i_Net_isNode_G av rs).run some = some co := h
 obtain ⟨a0_, av0, rfl, h_0⟩ := asCons_spec h
 obtain ⟨a1_, av1, rfl, h_1⟩ := asCons_spec h_0
 obtain ⟨rfl, h_2⟩ := asEnd_spec h_1
 obtain ⟨rfl, h_3⟩ := asEnd_spec h_2
 obtain ⟨z2, d1, rfl, h_4⟩ := asImm_spec h_3
 obtain ⟨d3, rfl, h_5⟩ := asImmZ_spec h_4
 exact fin_ret (i_Net_isNode_eq z2 d1 d3) (i_Net_isNode_spec d1 d3) h_5
end Go.Proofs.Ytkgekgfmnhccmaa

namespace Go.Proofs.Ytkgekgfmnhccmaa
open Go Go.Abs Go.Proofs
noncomputable def i_size_int64 (p0 : (List Int)) : Tre Int :=
 .ret (p0.length : Int)
noncomputable def i_size_int64_F (p0 : (List Int)) : Option Int := (i_size_int64 p0).run some
theorem i_size_int64_spec (p0 : (List Int)) : i_size_int64_F p0 = some (p0.length : Int) := rfl
noncomputable def i_size_int64_V : Env := ⟨tau, [], []⟩
noncomputable def i_size_int64_b : Code := (Try.f53.body).getD .skip
noncomputable def i_size_int64_I : FnI := ⟨i_size_int64_b, Try.f53.results.toList, Try.f53.resultTypes.toList, []⟩
noncomputable def i_size_int64_out (_zp0 : Bool) (_p0 : (List Int)) : Int → CallOut := fun r => ⟨(.imm true (.int .i64) r), [], []⟩
set_option maxRecDepth 100000 in
theorem i_size_int64_eq : ∀ (zp0 : Bool) (p0 : (List Int)), denFn i_size_int64_V i_size_int64_I ⟨[(.imm zp0 (.sl (.int .i64)) p0)], []⟩ = (i_size_int64 p0).run fun r => some (i_size_int64_out zp0 p0 r) := fun _ _ => by kernel_rfl
noncomputable def i_size_int64_G (av : List AV) (rs : List Root) : Tre CallOut :=
 asCons av fun a0_ av0 =>
 asEnd av0 <|
 asEnd rs <|
 asImm (.sl (.int .i64)) a0_ fun z2 d1 =>
 .ret (i_size_int64_out z2 d1 (d1.length : Int))
noncomputable def i_size_int64_c : Ctr := ⟨[], fun ci => i_size_int64_G ci.args ci.roots, false⟩
theorem i_size_int64_env : EnvOK Try.prog .none i_size_int64_V := envOK_nil
set_option maxRecDepth 100000 in
theorem i_size_int64_ok : Contract Try.prog .none 53 i_size_int64_c := by
 have hl : LoopsOK i_size_int64_V [] i_size_int64_b := loopsOK_nil (by kernel_rfl)
 refine (contract_of (F := i_size_int64_I) tau_tys i_size_int64_env Try.func53 (by kernel_rfl) (by kernel_rfl) (by kernel_rfl) hl []).weaken ?_
 rintro ⟨av, rs⟩ co h
 have h : (i_size_int64_G av rs).run some = some co := h
 obtain ⟨a0_, av0, rfl, h_0⟩ := asCons_spec h
 obtain ⟨rfl, h_1⟩ := asEnd_spec h_0
 obtain ⟨rfl, h_2⟩ := asEnd_spec h_1
 obtain ⟨z2, d1, rfl, h_3⟩ := asImm_spec h_2
 exact fin_ret (i_size_int64_eq z2 d1) (i_size_int64_spec d1) h_3
end Go.Proofs.Ytkgekgfmnhccmaa

namespace Go.Proofs.Ytkgekgfmnhccmaa
open Go Go.Abs Go.Proofs
noncomputable def i_Net_into_l3 (h3_0_0 : Int) (h3_0_1 : (List (List Int))) (h3_0_2 : Int) : (Int × (List Int)) → Tre ((Int × (List Int)) ⊕ (List Int)) := fun s3 =>
 .cond (decide (s3.1 < h3_0_2))
  (.ite (0 ≤ s3.1 ∧ s3.1 < (h3_0_1.length : Int)) <|
  .mat (h3_0_1[s3.1.toNat]?) fun x1 =>
  .ite ((0 : Int) ≤ 1 ∧ (1 : Int) < (x1.length : Int)) <|
  .mat (x1[1]?) fun x2 =>
  .cond (decide (x2 = h3_0_0))
   (.ite ((s3.2.length + 1) * 8 ≤ appendMax ∧ 1 ≤ 8) <|
   .ret (.inl (iwrap .i64 (s3.1 + 1), s3.2 ++ ([s3.1]))))
   (.ret (.inl (iwrap .i64 (s3.1 + 1), s3.2))))
  (.ret (.inr s3.2))
noncomputable def i_Net_into (p0 : TNet) (p1 : Int) : Tre (List Int) :=
 .mat (loopF (i_Net_into_l3 p1 p0.2.2.2.1 (p0.2.2.2.1.length : Int)) (0, [])) fun l3 =>
 .ret l3
noncomputable def i_Net_into_F (p0 : TNet) (p1 : Int) : Option (List Int) := (i_Net_into p0 p1).run some
-- more
theorem i_Net_into_is (n : TN6) (hl : n.2.2.2.1.length ≤ 14) (h2 : ∀ e ∈ n.2.2.2.1, e.length = 2) (node : Int) : i_Net_into_F n node = some (intoV n.2.2.2.1 node) := by
 unfold i_Net_into_F i_Net_into
 rw [run_some_mat (pick_loop (xs := n.2.2.2.1) (fun i e => if e1 e = node then some (i : Int) else none) ?_ ?_)]
 ·rfl
 ·intro i acc e he hacc
  have hi : i < n.2.2.2.1.length := (List.getElem?_eq_some_iff.1 he).1
  obtain ⟨a, b, rfl⟩ := len2 (h2 e (List.mem_of_getElem? he))
  unfold i_Net_into_l3
  rw [run_inb he, Tre.run_ite, if_pos ⟨by decide, by simp⟩, Tre.run_mat]
  dsimp only
  simp only [List.getElem?_cons_succ, List.getElem?_cons_zero, Option.bind_some]
  rw [Tre.run_cond, show e1 [a, b] = b from rfl, iwrap_succ (by omega)]
  by_cases h : b = node
  ·rw [decide_eq_true h, cond_true, Tre.run_ite, if_pos ⟨by unfold appendMax; omega, by decide⟩, if_pos h]; rfl
  ·rw [decide_eq_false h, cond_false, if_neg h]; simp [Tre.run_ret]
 ·intro acc
  unfold i_Net_into_l3
  exact run_out
noncomputable def i_Net_into_V : Env := ⟨tau, [], []⟩
noncomputable def i_Net_into_b : Code := (Try.f102.body).getD .skip
noncomputable def i_Net_into_l3_mk (z3_0 : Bool) (h3_0_0 : Int) (h3_0_1 : (List (List Int))) (h3_0_2 : Int) : (Int × (List Int)) → St := fun x => stOf [(1, (.imm true (.int .i64) h3_0_0)), (5, (.ref (7, 0) [])), (10, (.imm z3_0 (.sl (.sl (.int .i64))) h3_0_1)), (11, (.imm true (.int .i64) h3_0_2)), (12, (.imm true (.int .i64) x.1))] [((7, 0), some ⟨false, (.sl (.int .i64)), .own, x.2⟩)]
noncomputable def i_Net_into_l3_out (_z3_0 : Bool) (_h3_0_0 : Int) (_h3_0_1 : (List (List Int))) (_h3_0_2 : Int) : (List Int) → Ex × St := fun x => (.exit 0, stOf [(5, (.ref (7, 0) []))] [((7, 0), some ⟨false, (.sl (.int .i64)), .own, x⟩)])
noncomputable def i_Net_into_l3_D (s : St) : Tre (Ex × St) :=
 asImmZ true (.int .i64) (s.tmps 1) fun d2 =>
 asRef (7, 0) [] (s.tmps 5) <|
 asImm (.sl (.sl (.int .i64))) (s.tmps 10) fun z6 d5 =>
 asImmZ true (.int .i64) (s.tmps 11) fun d8 =>
 asImmZ true (.int .i64) (s.tmps 12) fun d10 =>
 asRoot false (.sl (.int .i64)) (s.roots (7, 0)) fun m12 d13 =>
 asM .own m12 <|
 .mat (loopF (i_Net_into_l3 d2 d5 d8) (d10, d13)) fun x => .ret (i_Net_into_l3_out z6 d2 d5 d8 x)
noncomputable def i_Net_into_l3_L : LoopI := ⟨([1, 5, 10, 11, 12], [(7, 0)]), ([5], [(7, 0)]), i_Net_into_l3_D⟩
noncomputable def i_Net_into_A : List (Nat × LoopI) := [(3, i_Net_into_l3_L)]
set_option maxRecDepth 100000 in
theorem i_Net_into_l3_step : ∀ (z3_0 : Bool) (h3_0_0 : Int) (h3_0_1 : (List (List Int))) (h3_0_2 : Int) (x : (Int × (List Int))) (c : St → Option (Ex × St)), den i_Net_into_V i_Net_into_A (loopAt i_Net_into_b 0) (i_Net_into_l3_mk z3_0 h3_0_0 h3_0_1 h3_0_2 x) (roundK i_Net_into_l3_L.kp i_Net_into_l3_L.kx c) = (i_Net_into_l3 h3_0_0 h3_0_1 h3_0_2 x).run (roundR (i_Net_into_l3_mk z3_0 h3_0_0 h3_0_1 h3_0_2) (i_Net_into_l3_out z3_0 h3_0_0 h3_0_1 h3_0_2) c) := fun _ _ _ _ _ _ => by
 kernel_rfl
theorem i_Net_into_l3_ok : LoopOK i_Net_into_V i_Net_into_A (loopAt i_Net_into_b 0) i_Net_into_l3_L := loopOK_of fun s e s' h => by
 generalize hs : restrict i_Net_into_l3_L.kp s = s1 at h
 have h : (i_Net_into_l3_D s1).run some = some (e, s') := h
 obtain ⟨d2, e1, h_0⟩ := asImmZ_spec h
 obtain ⟨e3, h_1⟩ := asRef_spec h_0
 obtain ⟨z6, d5, e4, h_2⟩ := asImm_spec h_1
 obtain ⟨d8, e7, h_3⟩ := asImmZ_spec h_2
 obtain ⟨d10, e9, h_4⟩ := asImmZ_spec h_3
 obtain ⟨m12, d13, e11, h_5⟩ := asRoot_spec h_4
 obtain ⟨rfl, h_6⟩ := asM_spec h_5
 obtain ⟨y, hy, hz⟩ := mat_ret h_6
 refine ⟨_, _, i_Net_into_l3_mk z6 d2 d5 d8, i_Net_into_l3_out z6 d2 d5 d8, i_Net_into_l3 d2 d5 d8, (d10, d13), y, ?_, hy, ?_, i_Net_into_l3_step z6 d2 d5 d8⟩
 ·subst hs; exact restrict_eq (T := [(1, (.imm true (.int .i64) d2)), (5, (.ref (7, 0) [])), (10, (.imm z6 (.sl (.sl (.int .i64))) d5)), (11, (.imm true (.int .i64) d8)), (12, (.imm true (.int .i64) d10))]) (U := [((7, 0), some ⟨false, (.sl (.int .i64)), .own, d13⟩)]) rfl rfl ⟨e1, e3, e4, e7, e9, trivial⟩ ⟨e11, trivial⟩
 ·exact Option.some.inj hz
noncomputable def i_Net_into_I : FnI := ⟨i_Net_into_b, Try.f102.results.toList, Try.f102.resultTypes.toList, i_Net_into_A⟩
noncomputable def i_Net_into_out (_zp0 : Bool) (_p0 : TNet) (_p1 : Int) : (List Int) → CallOut := fun r => ⟨(.ref (1, 0) []), [], [⟨false, (.sl (.int .i64)), .own, r⟩]⟩
set_option maxRecDepth 100000 in
theorem i_Net_into_eq : ∀ (zp0 : Bool) (p0 : TNet) (p1 : Int), denFn i_Net_into_V i_Net_into_I ⟨[(.imm zp0 kNet p0), (.imm true (.int .i64) p1)], []⟩ = (i_Net_into p0 p1).run fun r => some (i_Net_into_out zp0 p0 p1 r) := fun _ _ _ => by kernel_rfl
noncomputable def i_Net_into_G (av : List AV) (rs : List Root) : Tre CallOut :=
 asCons av fun a0_ av0 =>
 asCons av0 fun a1_ av1 =>
 asEnd av1 <|
 asEnd rs <|
 asImm kNet a0_ fun z2 d1 =>
 asImmZ true (.int .i64) a1_ fun d3 =>
 .mat (i_Net_into_F d1 d3) fun r => .ret (i_Net_into_out z2 d1 d3 r)
noncomputable def i_Net_into_c : Ctr := ⟨[], fun ci => i_Net_into_G ci.args ci.roots, false⟩
theorem i_Net_into_env : EnvOK Try.prog .none i_Net_into_V := envOK_nil
set_option maxRecDepth 100000 in
theorem i_Net_into_ok : Contract Try.prog .none 102 i_Net_into_c := by
 have hl : LoopsOK i_Net_into_V i_Net_into_A i_Net_into_b := (loopsOK_all (n := 1) (by kernel_rfl) fun k hk => by
   match k, hk with
   | 0, _ => exact loopOK_at (id := 3) (L := i_Net_into_l3_L) (by kernel_rfl) (by kernel_rfl) i_Net_into_l3_ok)
 refine (contract_of (F := i_Net_into_I) tau_tys i_Net_into_env Try.func102 (by kernel_rfl) (by kernel_rfl) (by kernel_rfl) hl []).weaken ?_
 rintro ⟨av, rs⟩ co h
 have h : (i_Net_into_G av rs).run some = some co := h
 obtain ⟨a0_, av0, rfl, h_0⟩ := asCons_spec h
 obtain ⟨a1_, av1, rfl, h_1⟩ := asCons_spec h_0
 obtain ⟨rfl, h_2⟩ := asEnd_spec h_1
 obtain ⟨rfl, h_3⟩ := asEnd_spec h_2
 obtain ⟨z2, d1, rfl, h_4⟩ := asImm_spec h_3
 obtain ⟨d3, rfl, h_5⟩ := asImmZ_spec h_4
 exact fin_mat (i_Net_into_eq z2 d1 d3) h_5
end Go.Proofs.Ytkgekgfmnhccmaa

namespace Go.Proofs.Ytkgekgfmnhccmaa
open Go Go.Abs Go.Proofs
noncomputable def i_Net_has (p0 : TNet) (p1 : Int) : Tre Int :=
 .cond (decide (p1 = 0))
  (.ret p0.2.2.1)
  (.mat (i_Net_into_F p0 p1) fun r1 =>
  .ret (r1.length : Int))
noncomputable def i_Net_has_F (p0 : TNet) (p1 : Int) : Option Int := (i_Net_has p0 p1).run some
-- more
theorem i_Net_has_is (n : TN6) (hl : n.2.2.2.1.length ≤ 14) (h2 : ∀ e ∈ n.2.2.2.1, e.length = 2) (node : Int) : i_Net_has_F n node = some (hasV n node) := by
 unfold i_Net_has_F i_Net_has hasV
 rw [Tre.run_cond, run_some_mat (i_Net_into_is n hl h2 node)]
 by_cases h : node = 0
 ·rw [decide_eq_true h, if_pos h]; rfl
 ·rw [decide_eq_false h, if_neg h]; rfl
noncomputable def i_Net_has_V : Env := ⟨tau, [(102, i_Net_into_c), (53, i_size_int64_c)], []⟩
noncomputable def i_Net_has_b : Code := (Try.f54.body).getD .skip
noncomputable def i_Net_has_I : FnI := ⟨i_Net_has_b, Try.f54.results.toList, Try.f54.resultTypes.toList, []⟩
noncomputable def i_Net_has_out (_zp0 : Bool) (_p0 : TNet) (_p1 : Int) : Int → CallOut := fun r => ⟨(.imm true (.int .i64) r), [], []⟩
set_option maxRecDepth 100000 in
theorem i_Net_has_eq : ∀ (zp0 : Bool) (p0 : TNet) (p1 : Int), denFn i_Net_has_V i_Net_has_I ⟨[(.imm zp0 kNet p0), (.imm true (.int .i64) p1)], []⟩ = (i_Net_has p0 p1).run fun r => some (i_Net_has_out zp0 p0 p1 r) := fun _ _ _ => by kernel_rfl
noncomputable def i_Net_has_G (av : List AV) (rs : List Root) : Tre CallOut :=
 asCons av fun a0_ av0 =>
 asCons av0 fun a1_ av1 =>
 asEnd av1 <|
 asEnd rs <|
 asImm kNet a0_ fun z2 d1 =>
 asImmZ true (.int .i64) a1_ fun d3 =>
 .mat (i_Net_has_F d1 d3) fun r => .ret (i_Net_has_out z2 d1 d3 r)
noncomputable def i_Net_has_c : Ctr := ⟨[], fun ci => i_Net_has_G ci.args ci.roots, false⟩
theorem i_Net_has_env : EnvOK Try.prog .none i_Net_has_V := (envOK_cons i_Net_into_ok ent102 (envOK_cons i_size_int64_ok ent53 envOK_nil))
set_option maxRecDepth 100000 in
theorem i_Net_has_ok : Contract Try.prog .none 54 i_Net_has_c := by
 have hl : LoopsOK i_Net_has_V [] i_Net_has_b := loopsOK_nil (by kernel_rfl)
 refine (contract_of (F := i_Net_has_I) tau_tys i_Net_has_env Try.func54 (by kernel_rfl) (by kernel_rfl) (by kernel_rfl) hl []).weaken ?_
 rintro ⟨av, rs⟩ co h
 have h : (i_Net_has_G av rs).run some = some co := h
 obtain ⟨a0_, av0, rfl, h_0⟩ := asCons_spec h
 obtain ⟨a1_, av1, rfl, h_1⟩ := asCons_spec h_0
 obtain ⟨rfl, h_2⟩ := asEnd_spec h_1
 obtain ⟨rfl, h_3⟩ := asEnd_spec h_2
 obtain ⟨z2, d1, rfl, h_4⟩ := asImm_spec h_3
 obtain ⟨d3, rfl, h_5⟩ := asImmZ_spec h_4
 exact fin_mat (i_Net_has_eq z2 d1 d3) h_5
end Go.Proofs.Ytkgekgfmnhccmaa

namespace Go.Proofs.Ytkgekgfmnhccmaa
open Go Go.Abs Go.Proofs
noncomputable def i_Field_count (p0 : (Int × (Int × Unit))) : Tre Int :=
 .ite (0 ≤ p0.1) <|
 .ret (ishl .i64 1 p0.1)
noncomputable def i_Field_count_F (p0 : (Int × (Int × Unit))) : Option Int := (i_Field_count p0).run some
noncomputable def i_Field_count_V : Env := ⟨tau, [], []⟩
noncomputable def i_Field_count_b : Code := (Try.f105.body).getD .skip
noncomputable def i_Field_count_I : FnI := ⟨i_Field_count_b, Try.f105.results.toList, Try.f105.resultTypes.toList, []⟩
noncomputable def i_Field_count_out (_p0 : (Int × (Int × Unit))) : Int → CallOut := fun r => ⟨(.imm true (.int .i64) r), [], []⟩
set_option maxRecDepth 100000 in
theorem i_Field_count_eq : ∀ (p0 : (Int × (Int × Unit))), denFn i_Field_count_V i_Field_count_I ⟨[(.imm true kField p0)], []⟩ = (i_Field_count p0).run fun r => some (i_Field_count_out p0 r) := fun _ => by kernel_rfl
noncomputable def i_Field_count_G (av : List AV) (rs : List Root) : Tre CallOut :=
 asCons av fun a0_ av0 =>
 asEnd av0 <|
 asEnd rs <|
 asImmZ true kField a0_ fun d1 =>
 .mat (i_Field_count_F d1) fun r => .ret (i_Field_count_out d1 r)
noncomputable def i_Field_count_c : Ctr := ⟨[], fun ci => i_Field_count_G ci.args ci.roots, false⟩
theorem i_Field_count_env : EnvOK Try.prog .none i_Field_count_V := envOK_nil
set_option maxRecDepth 100000 in
theorem i_Field_count_ok : Contract Try.prog .none 105 i_Field_count_c := by
 have hl : LoopsOK i_Field_count_V [] i_Field_count_b := loopsOK_nil (by kernel_rfl)
 refine (contract_of (F := i_Field_count_I) tau_tys i_Field_count_env Try.func105 (by kernel_rfl) (by kernel_rfl) (by kernel_rfl) hl []).weaken ?_
 rintro ⟨av, rs⟩ co h
 have h : (i_Field_count_G av rs).run some = some co := h
 obtain ⟨a0_, av0, rfl, h_0⟩ := asCons_spec h
 obtain ⟨rfl, h_1⟩ := asEnd_spec h_0
 obtain ⟨rfl, h_2⟩ := asEnd_spec h_1
 obtain ⟨d1, rfl, h_3⟩ := asImmZ_spec h_2
 exact fin_mat (i_Field_count_eq d1) h_3
end Go.Proofs.Ytkgekgfmnhccmaa

namespace Go.Proofs.Ytkgekgfmnhccmaa
open Go Go.Abs Go.Proofs
noncomputable def i_Field_hasc1_9fd3 (p0 : Int) (p1 : (Int × (Int × Unit))) : Tre Bool :=
 .mat (i_Field_count_F p1) fun r1 =>
 let v2 := inR p0 0 (iwrap .i64 (r1 - 1))
 .ret (!v2)
noncomputable def i_Field_hasc1_9fd3_F (p0 : Int) (p1 : (Int × (Int × Unit))) : Option Bool := (i_Field_hasc1_9fd3 p0 p1).run some
noncomputable def i_Field_hasc1_9fd3_V : Env := ⟨tau, [(105, i_Field_count_c), (92, i_within_c)], []⟩
noncomputable def i_Field_hasc1_9fd3_b : Code := (Try.f104.body).getD .skip
noncomputable def i_Field_hasc1_9fd3_I : FnI := ⟨i_Field_hasc1_9fd3_b, Try.f104.results.toList, Try.f104.resultTypes.toList, []⟩
noncomputable def i_Field_hasc1_9fd3_out (_p0 : Int) (p1 : (Int × (Int × Unit))) : Bool → CallOut := fun r => ⟨(.imm true .bool r), [⟨true, kField, .own, p1⟩], []⟩
set_option maxRecDepth 100000 in
theorem i_Field_hasc1_9fd3_eq : ∀ (p0 : Int) (p1 : (Int × (Int × Unit))), denFn i_Field_hasc1_9fd3_V i_Field_hasc1_9fd3_I ⟨[(.imm true (.int .i64) p0), (.ptr (0, 0) [])], [⟨true, kField, .own, p1⟩]⟩ = (i_Field_hasc1_9fd3 p0 p1).run fun r => some (i_Field_hasc1_9fd3_out p0 p1 r) := fun _ _ => by kernel_rfl
noncomputable def i_Field_hasc1_9fd3_G (av : List AV) (rs : List Root) : Tre CallOut :=
 asCons av fun a0_ av0 =>
 asCons av0 fun a1_ av1 =>
 asEnd av1 <|
 asCons rs fun r0_ rs0 =>
 asEnd rs0 <|
 asImmZ true (.int .i64) a0_ fun d1 =>
 asPtr (0, 0) [] a1_ <|
 asRt true kField r0_ fun m2 d3 =>
 asM .own m2 <|
 .mat (i_Field_hasc1_9fd3_F d1 d3) fun r => .ret (i_Field_hasc1_9fd3_out d1 d3 r)
noncomputable def i_Field_hasc1_9fd3_c : Ctr := ⟨[], fun ci => i_Field_hasc1_9fd3_G ci.args ci.roots, false⟩
theorem i_Field_hasc1_9fd3_env : EnvOK Try.prog .none i_Field_hasc1_9fd3_V := (envOK_cons i_Field_count_ok ent105 (envOK_cons i_within_ok ent92 envOK_nil))
set_option maxRecDepth 100000 in
theorem i_Field_hasc1_9fd3_ok : Contract Try.prog .none 104 i_Field_hasc1_9fd3_c := by
 have hl : LoopsOK i_Field_hasc1_9fd3_V [] i_Field_hasc1_9fd3_b := loopsOK_nil (by kernel_rfl)
 refine (contract_of (F := i_Field_hasc1_9fd3_I) tau_tys i_Field_hasc1_9fd3_env Try.func104 (by kernel_rfl) (by kernel_rfl) (by kernel_rfl) hl []).weaken ?_
 rintro ⟨av, rs⟩ co h
 have h : (i_Field_hasc1_9fd3_G av rs).run some = some co := h
 obtain ⟨a0_, av0, rfl, h_0⟩ := asCons_spec h
 obtain ⟨a1_, av1, rfl, h_1⟩ := asCons_spec h_0
 obtain ⟨rfl, h_2⟩ := asEnd_spec h_1
 obtain ⟨r0_, rs0, rfl, h_3⟩ := asCons_spec h_2
 obtain ⟨rfl, h_4⟩ := asEnd_spec h_3
 obtain ⟨d1, rfl, h_5⟩ := asImmZ_spec h_4
 obtain ⟨rfl, h_6⟩ := asPtr_spec h_5
 obtain ⟨m2, d3, rfl, h_7⟩ := asRt_spec h_6
 obtain ⟨rfl, h_8⟩ := asM_spec h_7
 exact fin_mat (i_Field_hasc1_9fd3_eq d1 d3) h_8
end Go.Proofs.Ytkgekgfmnhccmaa

namespace Go.Proofs.Ytkgekgfmnhccmaa
open Go Go.Abs Go.Proofs
noncomputable def nm2_l2 (h2_0_0 : (List Int)) (h2_0_1 : Int) (h2_0_3 : (Int × (Int × Unit))) : Int → Tre (Int ⊕ (Int ⊕ Unit)) := fun s2 =>
 .cond (decide (s2 < h2_0_1))
  (.ite (0 ≤ s2 ∧ s2 < (h2_0_0.length : Int)) <|
  .mat (h2_0_0[s2.toNat]?) fun x1 =>
  .mat (i_Field_hasc1_9fd3_F x1 h2_0_3) fun r2 =>
  .cond r2
   (.ret (.inr (.inl s2)))
   (.ret (.inl (iwrap .i64 (s2 + 1)))))
  (.ret (.inr (.inr ())))
noncomputable def nm2 (p0 : (List Int)) (p1 : (Int × (Int × Unit))) : Tre Int :=
 .mat (loopF (nm2_l2 p0 (p0.length : Int) p1) 0) fun l3 =>
 .alt l3
  (fun a4 =>
   .ret a4)
  (fun _ =>
   .ret (-1))
noncomputable def nm2_F (p0 : (List Int)) (p1 : (Int × (Int × Unit))) : Option Int := (nm2 p0 p1).run some
noncomputable def nm2_V : Env := ⟨tau, [(104, i_Field_hasc1_9fd3_c)], []⟩
noncomputable def nm2_b : Code := (Try.f140.body).getD .skip
noncomputable def nm2_l2_mk (z2_0 : Bool) (h2_0_0 : (List Int)) (h2_0_1 : Int) (h2_0_3 : (Int × (Int × Unit))) : Int → St := fun x => stOf [(0, (.imm z2_0 (.sl (.int .i64)) h2_0_0)), (1, (.fn 104 [(0, 0)])), (7, (.imm true (.int .i64) h2_0_1)), (8, (.imm true (.int .i64) x))] [((0, 0), some ⟨true, kField, .own, h2_0_3⟩)]
noncomputable def nm2_l2_out (_z2_0 : Bool) (_h2_0_0 : (List Int)) (_h2_0_1 : Int) (h2_0_3 : (Int × (Int × Unit))) : (Int ⊕ Unit) → Ex × St
 | .inl x => (.ret, stOf [(4, (.imm true (.int .i64) x))] [((0, 0), some ⟨true, kField, .own, h2_0_3⟩)])
 | .inr x => (.exit 0, stOf [(4, .dead)] [((0, 0), some ⟨true, kField, .own, h2_0_3⟩)])
noncomputable def nm2_l2_D (s : St) : Tre (Ex × St) :=
 asImm (.sl (.int .i64)) (s.tmps 0) fun z3 d2 =>
 asFn 104 [(0, 0)] (s.tmps 1) <|
 asImmZ true (.int .i64) (s.tmps 7) fun d6 =>
 asImmZ true (.int .i64) (s.tmps 8) fun d8 =>
 asRoot true kField (s.roots (0, 0)) fun m10 d11 =>
 asM .own m10 <|
 .mat (loopF (nm2_l2 d2 d6 d11) d8) fun x => .alt x (fun a0 => .ret (nm2_l2_out z3 d2 d6 d11 (.inl a0))) (fun b0 => .ret (nm2_l2_out z3 d2 d6 d11 (.inr b0)))
noncomputable def nm2_l2_L : LoopI := ⟨([0, 1, 7, 8], [(0, 0)]), ([4], [(0, 0)]), nm2_l2_D⟩
noncomputable def nm2_A : List (Nat × LoopI) := [(2, nm2_l2_L)]
set_option maxRecDepth 100000 in
theorem nm2_l2_step : ∀ (z2_0 : Bool) (h2_0_0 : (List Int)) (h2_0_1 : Int) (h2_0_3 : (Int × (Int × Unit))) (x : Int) (c : St → Option (Ex × St)), den nm2_V nm2_A (loopAt nm2_b 0) (nm2_l2_mk z2_0 h2_0_0 h2_0_1 h2_0_3 x) (roundK nm2_l2_L.kp nm2_l2_L.kx c) = (nm2_l2 h2_0_0 h2_0_1 h2_0_3 x).run (roundR (nm2_l2_mk z2_0 h2_0_0 h2_0_1 h2_0_3) (nm2_l2_out z2_0 h2_0_0 h2_0_1 h2_0_3) c) := fun _ _ _ _ _ _ => by
 kernel_rfl
theorem nm2_l2_ok : LoopOK nm2_V nm2_A (loopAt nm2_b 0) nm2_l2_L := loopOK_of fun s e s' h => by
 generalize hs : restrict nm2_l2_L.kp s = s1 at h
 have h : (nm2_l2_D s1).run some = some (e, s') := h
 obtain ⟨z3, d2, e1, h_0⟩ := asImm_spec h
 obtain ⟨e4, h_1⟩ := asFn_spec h_0
 obtain ⟨d6, e5, h_2⟩ := asImmZ_spec h_1
 obtain ⟨d8, e7, h_3⟩ := asImmZ_spec h_2
 obtain ⟨m10, d11, e9, h_4⟩ := asRoot_spec h_3
 obtain ⟨rfl, h_5⟩ := asM_spec h_4
 obtain ⟨y, hy, hz⟩ := mat_some h_5
 refine ⟨_, _, nm2_l2_mk z3 d2 d6 d11, nm2_l2_out z3 d2 d6 d11, nm2_l2 d2 d6 d11, d8, y, ?_, hy, ?_, nm2_l2_step z3 d2 d6 d11⟩
 ·subst hs; exact restrict_eq (T := [(0, (.imm z3 (.sl (.int .i64)) d2)), (1, (.fn 104 [(0, 0)])), (7, (.imm true (.int .i64) d6)), (8, (.imm true (.int .i64) d8))]) (U := [((0, 0), some ⟨true, kField, .own, d11⟩)]) rfl rfl ⟨e1, e4, e5, e7, trivial⟩ ⟨e9, trivial⟩
 ·rcases y with x | x <;> exact Option.some.inj hz
noncomputable def nm2_I : FnI := ⟨nm2_b, Try.f140.results.toList, Try.f140.resultTypes.toList, nm2_A⟩
noncomputable def nm2_out (_zp0 : Bool) (_p0 : (List Int)) (p1 : (Int × (Int × Unit))) : Int → CallOut := fun r => ⟨(.imm true (.int .i64) r), [⟨true, kField, .own, p1⟩], []⟩
set_option maxRecDepth 100000 in
theorem nm2_eq : ∀ (zp0 : Bool) (p0 : (List Int)) (p1 : (Int × (Int × Unit))), denFn nm2_V nm2_I ⟨[(.imm zp0 (.sl (.int .i64)) p0), (.fn 104 [(0, 0)])], [⟨true, kField, .own, p1⟩]⟩ = (nm2 p0 p1).run fun r => some (nm2_out zp0 p0 p1 r) := fun _ _ _ => by kernel_rfl
noncomputable def nm2_G (av : List AV) (rs : List Root) : Tre CallOut :=
 asCons av fun a0_ av0 =>
 asCons av0 fun a1_ av1 =>
 asEnd av1 <|
 asCons rs fun r0_ rs0 =>
 asEnd rs0 <|
 asImm (.sl (.int .i64)) a0_ fun z2 d1 =>
 asFn 104 [(0, 0)] a1_ <|
 asRt true kField r0_ fun m3 d4 =>
 asM .own m3 <|
 .mat (nm2_F d1 d4) fun r => .ret (nm2_out z2 d1 d4 r)
noncomputable def nm2_c : Ctr := ⟨[], fun ci => nm2_G ci.args ci.roots, false⟩
theorem nm2_env : EnvOK Try.prog .none nm2_V := (envOK_cons i_Field_hasc1_9fd3_ok ent104 envOK_nil)
set_option maxRecDepth 100000 in
theorem nm2_ok : Contract Try.prog .none 140 nm2_c := by
 have hl : LoopsOK nm2_V nm2_A nm2_b := (loopsOK_all (n := 1) (by kernel_rfl) fun k hk => by
   match k, hk with
   | 0, _ => exact loopOK_at (id := 2) (L := nm2_l2_L) (by kernel_rfl) (by kernel_rfl) nm2_l2_ok)
 refine (contract_of (F := nm2_I) tau_tys nm2_env Try.func140 (by kernel_rfl) (by kernel_rfl) (by kernel_rfl) hl []).weaken ?_
 rintro ⟨av, rs⟩ co h
 have h : (nm2_G av rs).run some = some co := h
 obtain ⟨a0_, av0, rfl, h_0⟩ := asCons_spec h
 obtain ⟨a1_, av1, rfl, h_1⟩ := asCons_spec h_0
 obtain ⟨rfl, h_2⟩ := asEnd_spec h_1
 obtain ⟨r0_, rs0, rfl, h_3⟩ := asCons_spec h_2
 obtain ⟨rfl, h_4⟩ := asEnd_spec h_3
 obtain ⟨z2, d1, rfl, h_5⟩ := asImm_spec h_4
 obtain ⟨rfl, h_6⟩ := asFn_spec h_5
 obtain ⟨m3, d4, rfl, h_7⟩ := asRt_spec h_6
 obtain ⟨rfl, h_8⟩ := asM_spec h_7
 exact fin_mat (nm2_eq z2 d1 d4) h_8
end Go.Proofs.Ytkgekgfmnhccmaa

namespace Go.Proofs.Ytkgekgfmnhccmaa
open Go Go.Abs Go.Proofs
noncomputable def nm0 (p0 : (List Int)) (p1 : (Int × (Int × Unit))) : Tre Bool :=
 .mat (nm2_F p0 p1) fun r1 =>
 .ret (decide (r1 ≥ 0))
noncomputable def nm0_F (p0 : (List Int)) (p1 : (Int × (Int × Unit))) : Option Bool := (nm0 p0 p1).run some
noncomputable def nm0_V : Env := ⟨tau, [(140, nm2_c)], []⟩
noncomputable def nm0_b : Code := (Try.f103.body).getD .skip
noncomputable def nm0_I : FnI := ⟨nm0_b, Try.f103.results.toList, Try.f103.resultTypes.toList, []⟩
noncomputable def nm0_out (_zp0 : Bool) (_p0 : (List Int)) (p1 : (Int × (Int × Unit))) : Bool → CallOut := fun r => ⟨(.imm true .bool r), [⟨true, kField, .own, p1⟩], []⟩
set_option maxRecDepth 100000 in
theorem nm0_eq : ∀ (zp0 : Bool) (p0 : (List Int)) (p1 : (Int × (Int × Unit))), denFn nm0_V nm0_I ⟨[(.imm zp0 (.sl (.int .i64)) p0), (.fn 104 [(0, 0)])], [⟨true, kField, .own, p1⟩]⟩ = (nm0 p0 p1).run fun r => some (nm0_out zp0 p0 p1 r) := fun _ _ _ => by kernel_rfl
noncomputable def nm0_G (av : List AV) (rs : List Root) : Tre CallOut :=
 asCons av fun a0_ av0 =>
 asCons av0 fun a1_ av1 =>
 asEnd av1 <|
 asCons rs fun r0_ rs0 =>
 asEnd rs0 <|
 asImm (.sl (.int .i64)) a0_ fun z2 d1 =>
 asFn 104 [(0, 0)] a1_ <|
 asRt true kField r0_ fun m3 d4 =>
 asM .own m3 <|
 .mat (nm0_F d1 d4) fun r => .ret (nm0_out z2 d1 d4 r)
noncomputable def nm0_c : Ctr := ⟨[], fun ci => nm0_G ci.args ci.roots, false⟩
theorem nm0_env : EnvOK Try.prog .none nm0_V := (envOK_cons nm2_ok ent140 envOK_nil)
set_option maxRecDepth 100000 in
theorem nm0_ok : Contract Try.prog .none 103 nm0_c := by
 have hl : LoopsOK nm0_V [] nm0_b := loopsOK_nil (by kernel_rfl)
 refine (contract_of (F := nm0_I) tau_tys nm0_env Try.func103 (by kernel_rfl) (by kernel_rfl) (by kernel_rfl) hl []).weaken ?_
 rintro ⟨av, rs⟩ co h
 have h : (nm0_G av rs).run some = some co := h
 obtain ⟨a0_, av0, rfl, h_0⟩ := asCons_spec h
 obtain ⟨a1_, av1, rfl, h_1⟩ := asCons_spec h_0
 obtain ⟨rfl, h_2⟩ := asEnd_spec h_1
 obtain ⟨r0_, rs0, rfl, h_3⟩ := asCons_spec h_2
 obtain ⟨rfl, h_4⟩ := asEnd_spec h_3
 obtain ⟨z2, d1, rfl, h_5⟩ := asImm_spec h_4
 obtain ⟨rfl, h_6⟩ := asFn_spec h_5
 obtain ⟨m3, d4, rfl, h_7⟩ := asRt_spec h_6
 obtain ⟨rfl, h_8⟩ := asM_spec h_7
 exact fin_mat (nm0_eq z2 d1 d4) h_8
end Go.Proofs.Ytkgekgfmnhccmaa

namespace Go.Proofs.Ytkgekgfmnhccmaa
open Go Go.Abs Go.Proofs
noncomputable def i_Field_has (p0 : (Int × (Int × Unit))) (p1 : (List Int)) : Tre Bool :=
 .mat (nm0_F p1 p0) fun r1 =>
 .ret (!r1)
noncomputable def i_Field_has_F (p0 : (Int × (Int × Unit))) (p1 : (List Int)) : Option Bool := (i_Field_has p0 p1).run some
-- more
theorem i_Field_hasc1_is {f : TF3} (hf : fieldOk f = true) (x : Int) : i_Field_hasc1_9fd3_F x f = some (!inR x 0 (topF f)) := by
 have := fieldOk_deg hf
 have h1 : i_Field_count_F f = some (ishl .i64 1 f.1) := by
  unfold i_Field_count_F i_Field_count
  rw [Tre.run_ite, if_pos (by omega)]
  rfl
 unfold i_Field_hasc1_9fd3_F i_Field_hasc1_9fd3
 rw [run_some_mat h1, topF_is' hf]
 rfl
theorem i_Field_has_is {f : TF3} (hf : fieldOk f = true) (c : List Int) (hc : c.length < 4611686018427387904) : i_Field_has_F f c = some (elsOk f c) := by
 have h1 : nm2_F c f = some (idxI (fun x => !inR x 0 (topF f)) 0 c) := by
  unfold nm2_F nm2
  rw [Tre.run_mat, find_loop (xs := c) (fun i x => cond (!inR x 0 (topF f)) (some (.inl (i : Int))) none) (.inr ())]
  ·rw [Option.bind_some, ← findE_idx (p := fun x => !inR x 0 (topF f))]
   generalize findE _ _ _ _ = r
   cases r <;> rfl
  ·intro i x hx
   have hi : i < c.length := (List.getElem?_eq_some_iff.1 hx).1
   unfold nm2_l2
   rw [run_inb hx, run_some_mat (i_Field_hasc1_is hf x), Tre.run_cond]
   cases inR x 0 (topF f)
   ·rfl
   ·simp only [Bool.not_true, cond_false, Tre.run_ret, iwrap_succ (show i < 4611686018427387904 by omega)]
  ·unfold nm2_l2
   exact run_out
 have h2 : nm0_F c f = some (decide (idxI (fun x => !inR x 0 (topF f)) 0 c ≥ 0)) := by
  unfold nm0_F nm0
  rw [run_some_mat h1]
  rfl
 unfold i_Field_has_F i_Field_has elsOk
 rw [run_some_mat h2, ← idxI_all (p := fun x => inR x 0 (topF f))]
 rfl
noncomputable def i_Field_has_V : Env := ⟨tau, [(103, nm0_c)], []⟩
noncomputable def i_Field_has_b : Code := (Try.f55.body).getD .skip
noncomputable def i_Field_has_I : FnI := ⟨i_Field_has_b, Try.f55.results.toList, Try.f55.resultTypes.toList, []⟩
noncomputable def i_Field_has_out (_zp0 : Bool) (_p0 : (Int × (Int × Unit))) (_p1 : (List Int)) : Bool → CallOut := fun r => ⟨(.imm true .bool r), [], []⟩
set_option maxRecDepth 100000 in
theorem i_Field_has_eq : ∀ (zp0 : Bool) (p0 : (Int × (Int × Unit))) (p1 : (List Int)), denFn i_Field_has_V i_Field_has_I ⟨[(.imm true kField p0), (.imm zp0 (.sl (.int .i64)) p1)], []⟩ = (i_Field_has p0 p1).run fun r => some (i_Field_has_out zp0 p0 p1 r) := fun _ _ _ => by kernel_rfl
noncomputable def i_Field_has_G (av : List AV) (rs : List Root) : Tre CallOut :=
 asCons av fun a0_ av0 =>
 asCons av0 fun a1_ av1 =>
 asEnd av1 <|
 asEnd rs <|
 asImmZ true kField a0_ fun d1 =>
 asImm (.sl (.int .i64)) a1_ fun z3 d2 =>
 .mat (i_Field_has_F d1 d2) fun r => .ret (i_Field_has_out z3 d1 d2 r)
noncomputable def i_Field_has_c : Ctr := ⟨[], fun ci => i_Field_has_G ci.args ci.roots, false⟩
theorem i_Field_has_env : EnvOK Try.prog .none i_Field_has_V := (envOK_cons nm0_ok ent103 envOK_nil)
set_option maxRecDepth 100000 in
theorem i_Field_has_ok : Contract Try.prog .none 55 i_Field_has_c := by
 have hl : LoopsOK i_Field_has_V [] i_Field_has_b := loopsOK_nil (by kernel_rfl)
 refine (contract_of (F := i_Field_has_I) tau_tys i_Field_has_env Try.func55 (by kernel_rfl) (by kernel_rfl) (by kernel_rfl) hl []).weaken ?_
 rintro ⟨av, rs⟩ co h
 have h : (i_Field_has_G av rs).run some = some co := h
 obtain ⟨a0_, av0, rfl, h_0⟩ := asCons_spec h
 obtain ⟨a1_, av1, rfl, h_1⟩ := asCons_spec h_0
 obtain ⟨rfl, h_2⟩ := asEnd_spec h_1
 obtain ⟨rfl, h_3⟩ := asEnd_spec h_2
 obtain ⟨d1, rfl, h_4⟩ := asImmZ_spec h_3
 obtain ⟨z3, d2, rfl, h_5⟩ := asImm_spec h_4
 exact fin_mat (i_Field_has_eq z3 d1 d2) h_5
end Go.Proofs.Ytkgekgfmnhccmaa

namespace Go.Proofs.Ytkgekgfmnhccmaa
open Go Go.Abs Go.Proofs
noncomputable def i_ValidNet_l4 (h4_0_0 : (List (List Int))) (h4_0_1 : Int) (h4_0_3 : TNet) : Int → Tre (Int ⊕ (Bool ⊕ Unit)) := fun s4 =>
 .cond (decide (s4 < h4_0_1))
  (.ite (0 ≤ s4 ∧ s4 < (h4_0_0.length : Int)) <|
  .mat (h4_0_0[s4.toNat]?) fun x2 =>
  .cond (!decide ((x2.length : Int) = 2))
   (.ret (.inr (.inl false)))
   (.ite ((0 : Int) ≤ 0 ∧ (0 : Int) < (x2.length : Int)) <|
   .mat (x2[0]?) fun x3 =>
   .cond (!(i_Net_isNode_S h4_0_3 x3))
    (.ret (.inr (.inl false)))
    (.ite ((0 : Int) ≤ 1 ∧ (1 : Int) < (x2.length : Int)) <|
    .mat (x2[1]?) fun x4 =>
    .cond (!(i_Net_isNode_S h4_0_3 x4))
     (.ret (.inr (.inl false)))
     (.ite ((0 : Int) ≤ 0 ∧ (0 : Int) < (x2.length : Int)) <|
     .mat (x2[0]?) fun x5 =>
     .ite ((0 : Int) ≤ 1 ∧ (1 : Int) < (x2.length : Int)) <|
     .mat (x2[1]?) fun x6 =>
     .cond (decide (x5 ≥ x6))
      (.ret (.inr (.inl false)))
      (.cond (decide (s4 > 0))
       (.ite ((0 : Int) ≤ 0 ∧ (0 : Int) < (x2.length : Int)) <|
       .mat (x2[0]?) fun x7 =>
       .ite (0 ≤ iwrap .i64 (s4 - 1) ∧ iwrap .i64 (s4 - 1) < (h4_0_3.2.2.2.1.length : Int)) <|
       .mat (h4_0_3.2.2.2.1[(iwrap .i64 (s4 - 1)).toNat]?) fun x8 =>
       .ite ((0 : Int) ≤ 0 ∧ (0 : Int) < (x8.length : Int)) <|
       .mat (x8[0]?) fun x9 =>
       .cond (decide (x7 < x9))
        (.ret (.inr (.inl false)))
        (.ret (.inl (iwrap .i64 (s4 + 1)))))
       (.ret (.inl (iwrap .i64 (s4 + 1)))))))))
  (.ret (.inr (.inr ())))
noncomputable def i_ValidNet_l10 (h10_0_0 : (List (List Int))) (h10_0_1 : Int) (h10_0_3 : TNet) : Int → Tre (Int ⊕ (Bool ⊕ Unit)) := fun s10 =>
 .cond (decide (s10 < h10_0_1))
  (.ite (0 ≤ s10 ∧ s10 < (h10_0_0.length : Int)) <|
  .mat (h10_0_0[s10.toNat]?) fun x13 =>
  .ite (0 ≤ s10 ∧ s10 < (h10_0_3.2.2.2.1.length : Int)) <|
  .mat (h10_0_3.2.2.2.1[s10.toNat]?) fun x14 =>
  .ite ((0 : Int) ≤ 0 ∧ (0 : Int) < (x14.length : Int)) <|
  .mat (x14[0]?) fun x15 =>
  .mat (i_Net_has_F h10_0_3 x15) fun r16 =>
  .cond (!decide ((x13.length : Int) = r16))
   (.ret (.inr (.inl false)))
   (.mat (i_Field_has_F h10_0_3.1 x13) fun r17 =>
   .cond (!r17)
    (.ret (.inr (.inl false)))
    (.ret (.inl (iwrap .i64 (s10 + 1))))))
  (.ret (.inr (.inr ())))
noncomputable def i_ValidNet (p0 : TNet) : Tre Bool :=
 .mat (i_ValidField_F p0.1) fun r1 =>
 .cond (!r1)
  (.ret false)
  (.cond (!(inR p0.2.1 2 8))
   (.ret false)
   (.cond (!(inR p0.2.2.1 1 3))
    (.ret false)
    (.cond (decide ((p0.2.2.2.1.length : Int) > 14))
     (.ret false)
     (.cond (!decide ((p0.2.2.2.2.1.length : Int) = (p0.2.2.2.1.length : Int)))
      (.ret false)
      (.mat (loopF (i_ValidNet_l4 p0.2.2.2.1 (p0.2.2.2.1.length : Int) p0) 0) fun l10 =>
      .alt l10
       (fun a11 =>
        .ret a11)
       (fun _ =>
        .mat (loopF (i_ValidNet_l10 p0.2.2.2.2.1 (p0.2.2.2.2.1.length : Int) p0) 0) fun l18 =>
        .alt l18
         (fun a19 =>
          .ret a19)
         (fun _ =>
          .ret true)))))))
noncomputable def i_ValidNet_F (p0 : TNet) : Option Bool := (i_ValidNet p0).run some
-- more
theorem i_ValidNet_edges (n : TN6) (hN : 2 ≤ n.2.1 ∧ n.2.1 ≤ 8) (hl : n.2.2.2.1.length ≤ 14) : loopF (i_ValidNet_l4 n.2.2.2.1 (n.2.2.2.1.length : Int) n) 0 = some (cond (allI (edgeOk n.2.1 n.2.2.2.1) 0 n.2.2.2.1) (.inr ()) (.inl false)) := by
 refine all_loop (β := Bool ⊕ Unit) (edgeOk n.2.1 n.2.2.2.1) (.inl false) (.inr ()) ?_ ?_
 ·intro i e he hp
  have hi : i < n.2.2.2.1.length := (List.getElem?_eq_some_iff.1 he).1
  unfold i_ValidNet_l4
  rw [run_inb he, Tre.run_cond]
  by_cases h2 : e.length = 2
  case neg =>
   rw [decide_eq_false (by omega), show edgeOk n.2.1 n.2.2.2.1 i e = false from by unfold edgeOk; rw [decide_eq_false h2]; rfl]
   rfl
  obtain ⟨a, b, rfl⟩ := len2 h2
  rw [show (!decide ((([a, b] : List Int).length : Int) = 2)) = false from rfl, cond_false]
  have k0 : ∀ (k : Int → Tre (Int ⊕ (Bool ⊕ Unit))), (Tre.ite ((0 : Int) ≤ 0 ∧ (0 : Int) < (([a, b] : List Int).length : Int)) (.mat ([a, b] : List Int)[0]? k)).run some = (k a).run some := fun k => by rw [Tre.run_ite, if_pos ⟨by decide, by simp⟩]; rfl
  have k1 : ∀ (k : Int → Tre (Int ⊕ (Bool ⊕ Unit))), (Tre.ite ((0 : Int) ≤ 1 ∧ (1 : Int) < (([a, b] : List Int).length : Int)) (.mat ([a, b] : List Int)[1]? k)).run some = (k b).run some := fun k => by rw [Tre.run_ite, if_pos ⟨by decide, by simp⟩]; rfl
  rw [show edgeOk n.2.1 n.2.2.2.1 i [a, b] = (inR a 0 (n.2.1 - 1) && (inR b 0 (n.2.1 - 1) && (decide (a < b) && (decide (i = 0) || decide (e0 (n.2.2.2.1.getD (i - 1) []) ≤ a))))) from by
   show (true && ((inR a 0 (n.2.1 - 1) && (inR b 0 (n.2.1 - 1) && decide (a < b))) && (decide (i = 0) || decide (e0 (n.2.2.2.1.getD (i - 1) []) ≤ a)))) = _
   rw [Bool.true_and, Bool.and_assoc, Bool.and_assoc]]
  have hS : ∀ x, i_Net_isNode_S n x = inR x 0 (n.2.1 - 1) := fun x => by unfold i_Net_isNode_S; dsimp only; rw [iwrap_i64 (by omega) (by omega)]
  rw [k0, Tre.run_cond, hS]
  cases inR a 0 (n.2.1 - 1)
  ·rfl
  rw [Bool.not_true, cond_false, k1, Tre.run_cond, hS, Bool.true_and]
  cases inR b 0 (n.2.1 - 1)
  ·rfl
  rw [Bool.not_true, cond_false, k0, k1, Tre.run_cond, Bool.true_and]
  by_cases hab : a < b
  case neg => rw [decide_eq_true (by omega), decide_eq_false hab]; rfl
  rw [decide_eq_false (by omega), decide_eq_true hab, cond_false, Tre.run_cond, Bool.true_and]
  by_cases h0 : i = 0
  ·subst h0; rfl
  obtain ⟨q, hq⟩ : ∃ q, n.2.2.2.1[i - 1]? = some q := ⟨_, List.getElem?_eq_getElem (by omega)⟩
  obtain ⟨c, d, rfl⟩ := len2 (edgeOk_len (hp (i - 1) q (by omega) hq))
  rw [decide_eq_true (by omega), cond_true, k0, iwrap_pred (by omega) (by omega), run_at hq, Tre.run_ite, if_pos ⟨by decide, by simp⟩, Tre.run_mat]
  simp only [List.getElem?_cons_zero, Option.bind_some]
  rw [Tre.run_cond, getD_of hq, decide_eq_false h0, Bool.false_or, show e0 [c, d] = c from rfl]
  by_cases h3 : c ≤ a
  ·rw [decide_eq_false (by omega), decide_eq_true h3, cond_false, cond_true, Tre.run_ret, iwrap_succ (by omega)]
  ·rw [decide_eq_true (by omega), decide_eq_false h3]; rfl
 ·unfold i_ValidNet_l4
  exact run_out
theorem i_ValidNet_coefs (n : TN6) (hf : fieldOk n.1 = true) (hM : n.2.2.1 ≤ 3) (hl : n.2.2.2.1.length ≤ 14) (hc : n.2.2.2.2.1.length = n.2.2.2.1.length) (h2 : ∀ e ∈ n.2.2.2.1, e.length = 2) : loopF (i_ValidNet_l10 n.2.2.2.2.1 (n.2.2.2.2.1.length : Int) n) 0 = some (cond (allI (coefOk n) 0 n.2.2.2.2.1) (.inr ()) (.inl false)) := by
 refine all_loop (β := Bool ⊕ Unit) (coefOk n) (.inl false) (.inr ()) ?_ ?_
 ·intro i x hx _
  have hi : i < n.2.2.2.2.1.length := (List.getElem?_eq_some_iff.1 hx).1
  obtain ⟨e, he⟩ : ∃ e, n.2.2.2.1[i]? = some e := ⟨_, List.getElem?_eq_getElem (by omega)⟩
  obtain ⟨a, b, rfl⟩ := len2 (h2 e (List.mem_of_getElem? he))
  unfold i_ValidNet_l10 coefOk
  rw [getD_of he, show e0 [a, b] = a from rfl, run_inb hx, run_at he, Tre.run_ite, if_pos ⟨by decide, by simp⟩, Tre.run_mat]
  simp only [List.getElem?_cons_zero, Option.bind_some]
  rw [run_some_mat (i_Net_has_is n hl h2 a), Tre.run_cond]
  by_cases h : (x.length : Int) = hasV n a
  ·rw [decide_eq_true h, Bool.not_true, cond_false, run_some_mat (i_Field_has_is hf x ?_), Tre.run_cond]
   ·cases elsOk n.1 x
    ·rfl
    ·simp only [Bool.not_true, Bool.true_and, cond_false, cond_true, Tre.run_ret, iwrap_succ (show i < 4611686018427387904 by omega)]
   ·have := hasV_le n hM hl a; omega
  ·rw [decide_eq_false h]; rfl
 ·unfold i_ValidNet_l10
  exact run_out
theorem i_ValidNet_is (n : TN6) : i_ValidNet_F n = some (netOk n) := by
 unfold i_ValidNet_F i_ValidNet netOk
 rw [run_some_mat (i_ValidField_is n.1), Tre.run_cond]
 cases hf : fieldOk n.1
 ·rfl
 rw [Bool.not_true, cond_false, Tre.run_cond, Bool.true_and]
 cases hN : inR n.2.1 2 8
 ·rfl
 rw [Bool.not_true, cond_false, Tre.run_cond, Bool.true_and]
 cases hM : inR n.2.2.1 1 3
 ·rfl
 rw [Bool.not_true, cond_false, Tre.run_cond, Bool.true_and]
 by_cases hl : n.2.2.2.1.length ≤ 14
 case neg => rw [decide_eq_true (by omega), decide_eq_false hl]; rfl
 rw [decide_eq_false (by omega), decide_eq_true hl, cond_false, Tre.run_cond, Bool.true_and]
 by_cases hc : n.2.2.2.2.1.length = n.2.2.2.1.length
 case neg => rw [decide_eq_false (by omega), decide_eq_false hc]; rfl
 rw [decide_eq_true (by omega), decide_eq_true hc, Bool.not_true, cond_false, run_some_mat (i_ValidNet_edges n (inR_iff.1 hN) hl), Bool.true_and]
 cases he : allI (edgeOk n.2.1 n.2.2.2.1) 0 n.2.2.2.1
 ·rfl
 rw [cond_true, Tre.run_inr, run_some_mat (i_ValidNet_coefs n hf (inR_iff.1 hM).2 hl hc ?_)]
 ·cases allI (coefOk n) 0 n.2.2.2.2.1 <;> rfl
 ·intro e hm
  obtain ⟨i, hi⟩ := List.mem_iff_getElem?.1 hm
  have := (allI_iff _ 0).1 he i e hi
  rw [Nat.zero_add] at this
  exact edgeOk_len this
noncomputable def i_ValidNet_V : Env := ⟨tau, [(91, i_ValidField_c), (92, i_within_c), (93, i_Net_isNode_c), (53, i_size_int64_c), (54, i_Net_has_c), (55, i_Field_has_c)], []⟩
noncomputable def i_ValidNet_b : Code := (Try.f42.body).getD .skip
noncomputable def i_ValidNet_l4_mk (z4_0 : Bool) (z4_1 : Bool) (h4_0_0 : (List (List Int))) (h4_0_1 : Int) (h4_0_3 : TNet) : Int → St := fun x => stOf [(1, (.ptr (3, 0) [])), (39, (.imm z4_0 (.sl (.sl (.int .i64))) h4_0_0)), (40, (.imm true (.int .i64) h4_0_1)), (41, (.imm true (.int .i64) x))] [((3, 0), some ⟨true, kNet, (.imm z4_1), h4_0_3⟩)]
noncomputable def i_ValidNet_l4_out (_z4_0 : Bool) (z4_1 : Bool) (_h4_0_0 : (List (List Int))) (_h4_0_1 : Int) (h4_0_3 : TNet) : (Bool ⊕ Unit) → Ex × St
 | .inl x => (.ret, stOf [(1, (.ptr (3, 0) [])), (2, (.imm true .bool x))] [((3, 0), some ⟨true, kNet, (.imm z4_1), h4_0_3⟩)])
 | .inr x => (.exit 0, stOf [(1, (.ptr (3, 0) [])), (2, .dead)] [((3, 0), some ⟨true, kNet, (.imm z4_1), h4_0_3⟩)])
noncomputable def i_ValidNet_l4_D (s : St) : Tre (Ex × St) :=
 asPtr (3, 0) [] (s.tmps 1) <|
 asImm (.sl (.sl (.int .i64))) (s.tmps 39) fun z4 d3 =>
 asImmZ true (.int .i64) (s.tmps 40) fun d6 =>
 asImmZ true (.int .i64) (s.tmps 41) fun d8 =>
 asRoot true kNet (s.roots (3, 0)) fun m10 d11 =>
 asMImm m10 fun z12 =>
 .mat (loopF (i_ValidNet_l4 d3 d6 d11) d8) fun x => .alt x (fun a0 => .ret (i_ValidNet_l4_out z4 z12 d3 d6 d11 (.inl a0))) (fun b0 => .ret (i_ValidNet_l4_out z4 z12 d3 d6 d11 (.inr b0)))
noncomputable def i_ValidNet_l4_L : LoopI := ⟨([1, 39, 40, 41], [(3, 0)]), ([1, 2], [(3, 0)]), i_ValidNet_l4_D⟩
noncomputable def i_ValidNet_l10_mk (z10_0 : Bool) (z10_1 : Bool) (h10_0_0 : (List (List Int))) (h10_0_1 : Int) (h10_0_3 : TNet) : Int → St := fun x => stOf [(1, (.ptr (3, 0) [])), (94, (.imm z10_0 (.sl (.sl (.int .i64))) h10_0_0)), (95, (.imm true (.int .i64) h10_0_1)), (96, (.imm true (.int .i64) x))] [((3, 0), some ⟨true, kNet, (.imm z10_1), h10_0_3⟩)]
noncomputable def i_ValidNet_l10_out (_z10_0 : Bool) (_z10_1 : Bool) (_h10_0_0 : (List (List Int))) (_h10_0_1 : Int) (_h10_0_3 : TNet) : (Bool ⊕ Unit) → Ex × St
 | .inl x => (.ret, stOf [(2, (.imm true .bool x))] [])
 | .inr x => (.exit 2, stOf [(2, .dead)] [])
noncomputable def i_ValidNet_l10_D (s : St) : Tre (Ex × St) :=
 asPtr (3, 0) [] (s.tmps 1) <|
 asImm (.sl (.sl (.int .i64))) (s.tmps 94) fun z4 d3 =>
 asImmZ true (.int .i64) (s.tmps 95) fun d6 =>
 asImmZ true (.int .i64) (s.tmps 96) fun d8 =>
 asRoot true kNet (s.roots (3, 0)) fun m10 d11 =>
 asMImm m10 fun z12 =>
 .mat (loopF (i_ValidNet_l10 d3 d6 d11) d8) fun x => .alt x (fun a0 => .ret (i_ValidNet_l10_out z4 z12 d3 d6 d11 (.inl a0))) (fun b0 => .ret (i_ValidNet_l10_out z4 z12 d3 d6 d11 (.inr b0)))
noncomputable def i_ValidNet_l10_L : LoopI := ⟨([1, 94, 95, 96], [(3, 0)]), ([2], []), i_ValidNet_l10_D⟩
noncomputable def i_ValidNet_A : List (Nat × LoopI) := [(4, i_ValidNet_l4_L), (10, i_ValidNet_l10_L)]
set_option maxRecDepth 100000 in
theorem i_ValidNet_l4_step : ∀ (z4_0 : Bool) (z4_1 : Bool) (h4_0_0 : (List (List Int))) (h4_0_1 : Int) (h4_0_3 : TNet) (x : Int) (c : St → Option (Ex × St)), den i_ValidNet_V i_ValidNet_A (loopAt i_ValidNet_b 0) (i_ValidNet_l4_mk z4_0 z4_1 h4_0_0 h4_0_1 h4_0_3 x) (roundK i_ValidNet_l4_L.kp i_ValidNet_l4_L.kx c) = (i_ValidNet_l4 h4_0_0 h4_0_1 h4_0_3 x).run (roundR (i_ValidNet_l4_mk z4_0 z4_1 h4_0_0 h4_0_1 h4_0_3) (i_ValidNet_l4_out z4_0 z4_1 h4_0_0 h4_0_1 h4_0_3) c) := fun _ _ _ _ _ _ _ => by
 kernel_rfl
theorem i_ValidNet_l4_ok : LoopOK i_ValidNet_V i_ValidNet_A (loopAt i_ValidNet_b 0) i_ValidNet_l4_L := loopOK_of fun s e s' h => by
 generalize hs : restrict i_ValidNet_l4_L.kp s = s1 at h
 have h : (i_ValidNet_l4_D s1).run some = some (e, s') := h
 obtain ⟨e1, h_0⟩ := asPtr_spec h
 obtain ⟨z4, d3, e2, h_1⟩ := asImm_spec h_0
 obtain ⟨d6, e5, h_2⟩ := asImmZ_spec h_1
 obtain ⟨d8, e7, h_3⟩ := asImmZ_spec h_2
 obtain ⟨m10, d11, e9, h_4⟩ := asRoot_spec h_3
 obtain ⟨z12, rfl, h_5⟩ := asMImm_spec h_4
 obtain ⟨y, hy, hz⟩ := mat_some h_5
 refine ⟨_, _, i_ValidNet_l4_mk z4 z12 d3 d6 d11, i_ValidNet_l4_out z4 z12 d3 d6 d11, i_ValidNet_l4 d3 d6 d11, d8, y, ?_, hy, ?_, i_ValidNet_l4_step z4 z12 d3 d6 d11⟩
 ·subst hs; exact restrict_eq (T := [(1, (.ptr (3, 0) [])), (39, (.imm z4 (.sl (.sl (.int .i64))) d3)), (40, (.imm true (.int .i64) d6)), (41, (.imm true (.int .i64) d8))]) (U := [((3, 0), some ⟨true, kNet, (.imm z12), d11⟩)]) rfl rfl ⟨e1, e2, e5, e7, trivial⟩ ⟨e9, trivial⟩
 ·rcases y with x | x <;> exact Option.some.inj hz
set_option maxRecDepth 100000 in
theorem i_ValidNet_l10_step : ∀ (z10_0 : Bool) (z10_1 : Bool) (h10_0_0 : (List (List Int))) (h10_0_1 : Int) (h10_0_3 : TNet) (x : Int) (c : St → Option (Ex × St)), den i_ValidNet_V i_ValidNet_A (loopAt i_ValidNet_b 1) (i_ValidNet_l10_mk z10_0 z10_1 h10_0_0 h10_0_1 h10_0_3 x) (roundK i_ValidNet_l10_L.kp i_ValidNet_l10_L.kx c) = (i_ValidNet_l10 h10_0_0 h10_0_1 h10_0_3 x).run (roundR (i_ValidNet_l10_mk z10_0 z10_1 h10_0_0 h10_0_1 h10_0_3) (i_ValidNet_l10_out z10_0 z10_1 h10_0_0 h10_0_1 h10_0_3) c) := fun _ _ _ _ _ _ _ => by
 kernel_rfl
theorem i_ValidNet_l10_ok : LoopOK i_ValidNet_V i_ValidNet_A (loopAt i_ValidNet_b 1) i_ValidNet_l10_L := loopOK_of fun s e s' h => by
 generalize hs : restrict i_ValidNet_l10_L.kp s = s1 at h
 have h : (i_ValidNet_l10_D s1).run some = some (e, s') := h
 obtain ⟨e1, h_0⟩ := asPtr_spec h
 obtain ⟨z4, d3, e2, h_1⟩ := asImm_spec h_0
 obtain ⟨d6, e5, h_2⟩ := asImmZ_spec h_1
 obtain ⟨d8, e7, h_3⟩ := asImmZ_spec h_2
 obtain ⟨m10, d11, e9, h_4⟩ := asRoot_spec h_3
 obtain ⟨z12, rfl, h_5⟩ := asMImm_spec h_4
 obtain ⟨y, hy, hz⟩ := mat_some h_5
 refine ⟨_, _, i_ValidNet_l10_mk z4 z12 d3 d6 d11, i_ValidNet_l10_out z4 z12 d3 d6 d11, i_ValidNet_l10 d3 d6 d11, d8, y, ?_, hy, ?_, i_ValidNet_l10_step z4 z12 d3 d6 d11⟩
 ·subst hs; exact restrict_eq (T := [(1, (.ptr (3, 0) [])), (94, (.imm z4 (.sl (.sl (.int .i64))) d3)), (95, (.imm true (.int .i64) d6)), (96, (.imm true (.int .i64) d8))]) (U := [((3, 0), some ⟨true, kNet, (.imm z12), d11⟩)]) rfl rfl ⟨e1, e2, e5, e7, trivial⟩ ⟨e9, trivial⟩
 ·rcases y with x | x <;> exact Option.some.inj hz
noncomputable def i_ValidNet_I : FnI := ⟨i_ValidNet_b, Try.f42.results.toList, Try.f42.resultTypes.toList, i_ValidNet_A⟩
noncomputable def i_ValidNet_out (_zp0 : Bool) (_p0 : TNet) : Bool → CallOut := fun r => ⟨(.imm true .bool r), [], []⟩
set_option maxRecDepth 100000 in
theorem i_ValidNet_eq : ∀ (zp0 : Bool) (p0 : TNet), denFn i_ValidNet_V i_ValidNet_I ⟨[(.imm zp0 kNet p0)], []⟩ = (i_ValidNet p0).run fun r => some (i_ValidNet_out zp0 p0 r) := fun _ _ => by kernel_rfl
noncomputable def i_ValidNet_G (av : List AV) (rs : List Root) : Tre CallOut :=
 asCons av fun a0_ av0 =>
 asEnd av0 <|
 asEnd rs <|
 asImm kNet a0_ fun z2 d1 =>
 .mat (i_ValidNet_F d1) fun r => .ret (i_ValidNet_out z2 d1 r)
noncomputable def i_ValidNet_c : Ctr := ⟨[], fun ci => i_ValidNet_G ci.args ci.roots, false⟩
theorem i_ValidNet_env : EnvOK Try.prog .none i_ValidNet_V := (envOK_cons i_ValidField_ok ent91 (envOK_cons i_within_ok ent92 (envOK_cons i_Net_isNode_ok ent93 (envOK_cons i_size_int64_ok ent53 (envOK_cons i_Net_has_ok ent54 (envOK_cons i_Field_has_ok ent55 envOK_nil))))))
set_option maxRecDepth 100000 in
theorem i_ValidNet_ok : Contract Try.prog .none 42 i_ValidNet_c := by
 have hl : LoopsOK i_ValidNet_V i_ValidNet_A i_ValidNet_b := (loopsOK_all (n := 2) (by kernel_rfl) fun k hk => by
   match k, hk with
   | 0, _ => exact loopOK_at (id := 4) (L := i_ValidNet_l4_L) (by kernel_rfl) (by kernel_rfl) i_ValidNet_l4_ok
   | 1, _ => exact loopOK_at (id := 10) (L := i_ValidNet_l10_L) (by kernel_rfl) (by kernel_rfl) i_ValidNet_l10_ok)
 refine (contract_of (F := i_ValidNet_I) tau_tys i_ValidNet_env Try.func42 (by kernel_rfl) (by kernel_rfl) (by kernel_rfl) hl []).weaken ?_
 rintro ⟨av, rs⟩ co h
 have h : (i_ValidNet_G av rs).run some = some co := h
 obtain ⟨a0_, av0, rfl, h_0⟩ := asCons_spec h
 obtain ⟨rfl, h_1⟩ := asEnd_spec h_0
 obtain ⟨rfl, h_2⟩ := asEnd_spec h_1
 obtain ⟨z2, d1, rfl, h_3⟩ := asImm_spec h_2
 exact fin_mat (i_ValidNet_eq z2 d1) h_3
end Go.Proofs.Ytkgekgfmnhccmaa

namespace Go.Proofs.Ytkgekgfmnhccmaa
open Go Go.Abs Go.Proofs
noncomputable def i_SolveAtc1_85e2 (p0 : (List Int)) (p1 : TNet) (p2 : Int) : Tre Bool :=
 .mat (i_Net_has_F p1 p2) fun r1 =>
 .cond (decide ((p0.length : Int) = r1))
  (.mat (i_Field_has_F p1.1 p0) fun r2 =>
  .ret r2)
  (.ret false)
noncomputable def i_SolveAtc1_85e2_F (p0 : (List Int)) (p1 : TNet) (p2 : Int) : Option Bool := (i_SolveAtc1_85e2 p0 p1 p2).run some
noncomputable def i_SolveAtc1_85e2_V : Env := ⟨tau, [(53, i_size_int64_c), (54, i_Net_has_c), (55, i_Field_has_c)], []⟩
noncomputable def i_SolveAtc1_85e2_b : Code := (Try.f52.body).getD .skip
noncomputable def i_SolveAtc1_85e2_I : FnI := ⟨i_SolveAtc1_85e2_b, Try.f52.results.toList, Try.f52.resultTypes.toList, []⟩
noncomputable def i_SolveAtc1_85e2_out (zp0 : Bool) (zp1 : Bool) (p0 : (List Int)) (p1 : TNet) (p2 : Int) : Bool → CallOut := fun r => ⟨(.imm true .bool r), [⟨true, (.sl (.int .i64)), (.imm zp0), p0⟩, ⟨true, kNet, (.imm zp1), p1⟩, ⟨true, (.int .i64), .own, p2⟩], []⟩
set_option maxRecDepth 100000 in
theorem i_SolveAtc1_85e2_eq : ∀ (zp0 : Bool) (zp1 : Bool) (p0 : (List Int)) (p1 : TNet) (p2 : Int), denFn i_SolveAtc1_85e2_V i_SolveAtc1_85e2_I ⟨[(.ptr (0, 0) []), (.ptr (0, 1) []), (.ptr (0, 2) [])], [⟨true, (.sl (.int .i64)), (.imm zp0), p0⟩, ⟨true, kNet, (.imm zp1), p1⟩, ⟨true, (.int .i64), .own, p2⟩]⟩ = (i_SolveAtc1_85e2 p0 p1 p2).run fun r => some (i_SolveAtc1_85e2_out zp0 zp1 p0 p1 p2 r) := fun _ _ _ _ _ => by kernel_rfl
noncomputable def i_SolveAtc1_85e2_G (av : List AV) (rs : List Root) : Tre CallOut :=
 asCons av fun a0_ av0 =>
 asCons av0 fun a1_ av1 =>
 asCons av1 fun a2_ av2 =>
 asEnd av2 <|
 asCons rs fun r0_ rs0 =>
 asCons rs0 fun r1_ rs1 =>
 asCons rs1 fun r2_ rs2 =>
 asEnd rs2 <|
 asPtr (0, 0) [] a0_ <|
 asPtr (0, 1) [] a1_ <|
 asPtr (0, 2) [] a2_ <|
 asRt true (.sl (.int .i64)) r0_ fun m1 d2 =>
 asMImm m1 fun z3 =>
 asRt true kNet r1_ fun m4 d5 =>
 asMImm m4 fun z6 =>
 asRt true (.int .i64) r2_ fun m7 d8 =>
 asM .own m7 <|
 .mat (i_SolveAtc1_85e2_F d2 d5 d8) fun r => .ret (i_SolveAtc1_85e2_out z3 z6 d2 d5 d8 r)
noncomputable def i_SolveAtc1_85e2_c : Ctr := ⟨[], fun ci => i_SolveAtc1_85e2_G ci.args ci.roots, false⟩
theorem i_SolveAtc1_85e2_env : EnvOK Try.prog .none i_SolveAtc1_85e2_V := (envOK_cons i_size_int64_ok ent53 (envOK_cons i_Net_has_ok ent54 (envOK_cons i_Field_has_ok ent55 envOK_nil)))
set_option maxRecDepth 100000 in
theorem i_SolveAtc1_85e2_ok : Contract Try.prog .none 52 i_SolveAtc1_85e2_c := by
 have hl : LoopsOK i_SolveAtc1_85e2_V [] i_SolveAtc1_85e2_b := loopsOK_nil (by kernel_rfl)
 refine (contract_of (F := i_SolveAtc1_85e2_I) tau_tys i_SolveAtc1_85e2_env Try.func52 (by kernel_rfl) (by kernel_rfl) (by kernel_rfl) hl []).weaken ?_
 rintro ⟨av, rs⟩ co h
 have h : (i_SolveAtc1_85e2_G av rs).run some = some co := h
 obtain ⟨a0_, av0, rfl, h_0⟩ := asCons_spec h
 obtain ⟨a1_, av1, rfl, h_1⟩ := asCons_spec h_0
 obtain ⟨a2_, av2, rfl, h_2⟩ := asCons_spec h_1
 obtain ⟨rfl, h_3⟩ := asEnd_spec h_2
 obtain ⟨r0_, rs0, rfl, h_4⟩ := asCons_spec h_3
 obtain ⟨r1_, rs1, rfl, h_5⟩ := asCons_spec h_4
 obtain ⟨r2_, rs2, rfl, h_6⟩ := asCons_spec h_5
 obtain ⟨rfl, h_7⟩ := asEnd_spec h_6
 obtain ⟨rfl, h_8⟩ := asPtr_spec h_7
 obtain ⟨rfl, h_9⟩ := asPtr_spec h_8
 obtain ⟨rfl, h_10⟩ := asPtr_spec h_9
 obtain ⟨m1, d2, rfl, h_11⟩ := asRt_spec h_10
 obtain ⟨z3, rfl, h_12⟩ := asMImm_spec h_11
 obtain ⟨m4, d5, rfl, h_13⟩ := asRt_spec h_12
 obtain ⟨z6, rfl, h_14⟩ := asMImm_spec h_13
 obtain ⟨m7, d8, rfl, h_15⟩ := asRt_spec h_14
 obtain ⟨rfl, h_16⟩ := asM_spec h_15
 exact fin_mat (i_SolveAtc1_85e2_eq z3 z6 d2 d5 d8) h_16
end Go.Proofs.Ytkgekgfmnhccmaa

namespace Go.Proofs.Ytkgekgfmnhccmaa
open Go Go.Abs Go.Proofs
noncomputable def i_nodeCode_i_SolveAtc1 (p0 : TNet) (p1 : Int) (p2 : (List Int)) (p3 : TNet) (p4 : Int) : Tre Int :=
 .mat (i_ValidNet_F p0) fun r1 =>
 .cond (!r1)
  (.ret 1)
  (.cond (!(i_Net_isNode_S p0 p1))
   (.ret 2)
   (.mat (i_SolveAtc1_85e2_F p2 p3 p4) fun r2 =>
   .cond (!r2)
    (.ret 2)
    (.ret 0)))
noncomputable def i_nodeCode_i_SolveAtc1_F (p0 : TNet) (p1 : Int) (p2 : (List Int)) (p3 : TNet) (p4 : Int) : Option Int := (i_nodeCode_i_SolveAtc1 p0 p1 p2 p3 p4).run some
-- more
theorem isolvec_is {n : TN6} (h : NetP n) (node : Int) {vs : List Int} (hv : vs.length ≤ 1048576) : i_SolveAtc1_85e2_F vs n node = some (decide ((vs.length : Int) = hasV n node) && elsOk n.1 vs) := by
 have h2 : ∀ e ∈ n.2.2.2.1, e.length = 2 := by
  intro e he
  obtain ⟨i, hi⟩ := List.mem_iff_getElem?.1 he
  exact edgeOk_len (h.edges i e hi)
 unfold i_SolveAtc1_85e2_F i_SolveAtc1_85e2
 rw [run_some_mat (i_Net_has_is n h.len h2 node), Tre.run_cond]
 cases decide ((vs.length : Int) = hasV n node)
 ·rfl
 ·rw [cond_true, run_some_mat (i_Field_has_is h.field vs (by omega)), Bool.true_and]
  rfl
theorem isolven_is (n : TN6) (node : Int) {vs : List Int} (hv : vs.length ≤ 1048576) : i_nodeCode_i_SolveAtc1_F n node vs n node = some (solveC n node vs) := by
 unfold i_nodeCode_i_SolveAtc1_F i_nodeCode_i_SolveAtc1 solveC nodeC
 rw [run_some_mat (i_ValidNet_is n), Tre.run_cond]
 rcases Bool.eq_false_or_eq_true (netOk n) with h | h
 ·have hp := netOk_iff.1 h
  have hn := hp.nodes
  rw [h, Bool.not_true, cond_false, if_pos rfl, Tre.run_cond]
  unfold i_Net_isNode_S
  dsimp only
  rw [iwrap_i64 (by omega) (by omega)]
  cases inR node 0 (n.2.1 - 1)
  ·rfl
  ·rw [Bool.not_true, cond_false, run_some_mat (isolvec_is hp node hv), Tre.run_cond, if_pos rfl, if_pos rfl]
   by_cases h1 : (vs.length : Int) = hasV n node
   ·rw [decide_eq_true h1, Bool.true_and]
    cases h3 : elsOk n.1 vs
    ·rw [if_neg (fun hh => by cases hh.2)]; rfl
    ·rw [if_pos ⟨h1, rfl⟩]; rfl
   ·rw [decide_eq_false h1, if_neg (fun hh => h1 hh.1)]; rfl
 ·rw [h]; rfl
noncomputable def i_nodeCode_i_SolveAtc1_V : Env := ⟨tau, [(42, i_ValidNet_c), (93, i_Net_isNode_c), (52, i_SolveAtc1_85e2_c)], []⟩
noncomputable def i_nodeCode_i_SolveAtc1_b : Code := (Try.f48.body).getD .skip
noncomputable def i_nodeCode_i_SolveAtc1_I : FnI := ⟨i_nodeCode_i_SolveAtc1_b, Try.f48.results.toList, Try.f48.resultTypes.toList, []⟩
noncomputable def i_nodeCode_i_SolveAtc1_out (_zp0 : Bool) (zp1 : Bool) (zp2 : Bool) (_p0 : TNet) (_p1 : Int) (p2 : (List Int)) (p3 : TNet) (p4 : Int) : Int → CallOut := fun r => ⟨(.imm true (.int .i64) r), [⟨true, (.sl (.int .i64)), (.imm zp1), p2⟩, ⟨true, kNet, (.imm zp2), p3⟩, ⟨true, (.int .i64), .own, p4⟩], []⟩
set_option maxRecDepth 100000 in
theorem i_nodeCode_i_SolveAtc1_eq : ∀ (zp0 : Bool) (zp1 : Bool) (zp2 : Bool) (p0 : TNet) (p1 : Int) (p2 : (List Int)) (p3 : TNet) (p4 : Int), denFn i_nodeCode_i_SolveAtc1_V i_nodeCode_i_SolveAtc1_I ⟨[(.imm zp0 kNet p0), (.imm true (.int .i64) p1), (.fn 52 [(0, 0), (0, 1), (0, 2)])], [⟨true, (.sl (.int .i64)), (.imm zp1), p2⟩, ⟨true, kNet, (.imm zp2), p3⟩, ⟨true, (.int .i64), .own, p4⟩]⟩ = (i_nodeCode_i_SolveAtc1 p0 p1 p2 p3 p4).run fun r => some (i_nodeCode_i_SolveAtc1_out zp0 zp1 zp2 p0 p1 p2 p3 p4 r) := fun _ _ _ _ _ _ _ _ => by kernel_rfl
noncomputable def i_nodeCode_i_SolveAtc1_G (av : List AV) (rs : List Root) : Tre CallOut :=
 asCons av fun a0_ av0 =>
 asCons av0 fun a1_ av1 =>
 asCons av1 fun a2_ av2 =>
 asEnd av2 <|
 asCons rs fun r0_ rs0 =>
 asCons rs0 fun r1_ rs1 =>
 asCons rs1 fun r2_ rs2 =>
 asEnd rs2 <|
 asImm kNet a0_ fun z2 d1 =>
 asImmZ true (.int .i64) a1_ fun d3 =>
 asFn 52 [(0, 0), (0, 1), (0, 2)] a2_ <|
 asRt true (.sl (.int .i64)) r0_ fun m4 d5 =>
 asMImm m4 fun z6 =>
 asRt true kNet r1_ fun m7 d8 =>
 asMImm m7 fun z9 =>
 asRt true (.int .i64) r2_ fun m10 d11 =>
 asM .own m10 <|
 .mat (i_nodeCode_i_SolveAtc1_F d1 d3 d5 d8 d11) fun r => .ret (i_nodeCode_i_SolveAtc1_out z2 z6 z9 d1 d3 d5 d8 d11 r)
noncomputable def i_nodeCode_i_SolveAtc1_c : Ctr := ⟨[], fun ci => i_nodeCode_i_SolveAtc1_G ci.args ci.roots, false⟩
theorem i_nodeCode_i_SolveAtc1_env : EnvOK Try.prog .none i_nodeCode_i_SolveAtc1_V := (envOK_cons i_ValidNet_ok ent42 (envOK_cons i_Net_isNode_ok ent93 (envOK_cons i_SolveAtc1_85e2_ok ent52 envOK_nil)))
set_option maxRecDepth 100000 in
theorem i_nodeCode_i_SolveAtc1_ok : Contract Try.prog .none 48 i_nodeCode_i_SolveAtc1_c := by
 have hl : LoopsOK i_nodeCode_i_SolveAtc1_V [] i_nodeCode_i_SolveAtc1_b := loopsOK_nil (by kernel_rfl)
 refine (contract_of (F := i_nodeCode_i_SolveAtc1_I) tau_tys i_nodeCode_i_SolveAtc1_env Try.func48 (by kernel_rfl) (by kernel_rfl) (by kernel_rfl) hl []).weaken ?_
 rintro ⟨av, rs⟩ co h
 have h : (i_nodeCode_i_SolveAtc1_G av rs).run some = some co := h
 obtain ⟨a0_, av0, rfl, h_0⟩ := asCons_spec h
 obtain ⟨a1_, av1, rfl, h_1⟩ := asCons_spec h_0
 obtain ⟨a2_, av2, rfl, h_2⟩ := asCons_spec h_1
 obtain ⟨rfl, h_3⟩ := asEnd_spec h_2
 obtain ⟨r0_, rs0, rfl, h_4⟩ := asCons_spec h_3
 obtain ⟨r1_, rs1, rfl, h_5⟩ := asCons_spec h_4
 obtain ⟨r2_, rs2, rfl, h_6⟩ := asCons_spec h_5
 obtain ⟨rfl, h_7⟩ := asEnd_spec h_6
 obtain ⟨z2, d1, rfl, h_8⟩ := asImm_spec h_7
 obtain ⟨d3, rfl, h_9⟩ := asImmZ_spec h_8
 obtain ⟨rfl, h_10⟩ := asFn_spec h_9
 obtain ⟨m4, d5, rfl, h_11⟩ := asRt_spec h_10
 obtain ⟨z6, rfl, h_12⟩ := asMImm_spec h_11
 obtain ⟨m7, d8, rfl, h_13⟩ := asRt_spec h_12
 obtain ⟨z9, rfl, h_14⟩ := asMImm_spec h_13
 obtain ⟨m10, d11, rfl, h_15⟩ := asRt_spec h_14
 obtain ⟨rfl, h_16⟩ := asM_spec h_15
 exact fin_mat (i_nodeCode_i_SolveAtc1_eq z2 z6 z9 d1 d3 d5 d8 d11) h_16
end Go.Proofs.Ytkgekgfmnhccmaa

namespace Go.Proofs.Ytkgekgfmnhccmaa
open Go Go.Abs Go.Proofs
noncomputable def i_unit (p0 : Int) (p1 : Int) : Tre (List Int) :=
 .ite (((.int .i64) : K) = (.int .i64) ∧ 0 ≤ p0 ∧ p0 = p0 ∧ p0 * (8 : Nat) ≤ 140737488355328 ∧ 1 ≤ 8) <|
 .ite (0 ≤ p1 ∧ p1 < ((List.replicate p0.toNat (0 : Int)).length : Int)) <|
 .mat ((List.replicate p0.toNat (0 : Int))[p1.toNat]?) fun _ =>
 let v2 := (List.replicate p0.toNat (0 : Int)).set p1.toNat 1
 .ret v2
noncomputable def i_unit_F (p0 : Int) (p1 : Int) : Option (List Int) := (i_unit p0 p1).run some
-- more
theorem iunit_is {M k : Nat} (hk : k < M) (hM : M ≤ 1000000) : i_unit_F (M : Int) (k : Int) = some (unitV M k) := by
 have hg : (List.replicate M (0 : Int))[k]? = some 0 := by rw [List.getElem?_replicate, if_pos hk]
 unfold i_unit_F i_unit
 rw [Tre.run_ite, if_pos ⟨rfl, by omega, rfl, by omega, by decide⟩, Int.toNat_natCast, Int.toNat_natCast, Tre.run_ite, if_pos (by rw [List.length_replicate]; omega), run_some_mat hg]
 rfl
noncomputable def i_unit_V : Env := ⟨tau, [], []⟩
noncomputable def i_unit_b : Code := (Try.f94.body).getD .skip
noncomputable def i_unit_I : FnI := ⟨i_unit_b, Try.f94.results.toList, Try.f94.resultTypes.toList, []⟩
noncomputable def i_unit_out (_p0 : Int) (_p1 : Int) : (List Int) → CallOut := fun r => ⟨(.ref (1, 0) []), [], [⟨false, (.sl (.int .i64)), .own, r⟩]⟩
set_option maxRecDepth 100000 in
theorem i_unit_eq : ∀ (p0 : Int) (p1 : Int), denFn i_unit_V i_unit_I ⟨[(.imm true (.int .i64) p0), (.imm true (.int .i64) p1)], []⟩ = (i_unit p0 p1).run fun r => some (i_unit_out p0 p1 r) := fun _ _ => by kernel_rfl
noncomputable def i_unit_G (av : List AV) (rs : List Root) : Tre CallOut :=
 asCons av fun a0_ av0 =>
 asCons av0 fun a1_ av1 =>
 asEnd av1 <|
 asEnd rs <|
 asImmZ true (.int .i64) a0_ fun d1 =>
 asImmZ true (.int .i64) a1_ fun d2 =>
 .mat (i_unit_F d1 d2) fun r => .ret (i_unit_out d1 d2 r)
noncomputable def i_unit_c : Ctr := ⟨[], fun ci => i_unit_G ci.args ci.roots, false⟩
theorem i_unit_env : EnvOK Try.prog .none i_unit_V := envOK_nil
set_option maxRecDepth 100000 in
theorem i_unit_ok : Contract Try.prog .none 94 i_unit_c := by
 have hl : LoopsOK i_unit_V [] i_unit_b := loopsOK_nil (by kernel_rfl)
 refine (contract_of (F := i_unit_I) tau_tys i_unit_env Try.func94 (by kernel_rfl) (by kernel_rfl) (by kernel_rfl) hl []).weaken ?_
 rintro ⟨av, rs⟩ co h
 have h : (i_unit_G av rs).run some = some co := h
 obtain ⟨a0_, av0, rfl, h_0⟩ := asCons_spec h
 obtain ⟨a1_, av1, rfl, h_1⟩ := asCons_spec h_0
 obtain ⟨rfl, h_2⟩ := asEnd_spec h_1
 obtain ⟨rfl, h_3⟩ := asEnd_spec h_2
 obtain ⟨d1, rfl, h_4⟩ := asImmZ_spec h_3
 obtain ⟨d2, rfl, h_5⟩ := asImmZ_spec h_4
 exact fin_mat (i_unit_eq d1 d2) h_5
end Go.Proofs.Ytkgekgfmnhccmaa

namespace Go.Proofs.Ytkgekgfmnhccmaa
open Go Go.Abs Go.Proofs
noncomputable def slices_Clone_int64_b930 : Tre (List Int) :=
 .ret []
noncomputable def slices_Clone_int64_b930_F : Option (List Int) := (slices_Clone_int64_b930).run some
theorem slices_Clone_int64_b930_spec : slices_Clone_int64_b930_F = some [] := rfl
noncomputable def slices_Clone_int64_b930_V : Env := ⟨tau, [], []⟩
noncomputable def slices_Clone_int64_b930_b : Code := (Try.f57.body).getD .skip
noncomputable def slices_Clone_int64_b930_I : FnI := ⟨slices_Clone_int64_b930_b, Try.f57.results.toList, Try.f57.resultTypes.toList, []⟩
noncomputable def slices_Clone_int64_b930_out : (List Int) → CallOut := fun r => ⟨(.ref (1, 0) []), [], [⟨false, (.sl (.int .i64)), .own, r⟩]⟩
set_option maxRecDepth 100000 in
theorem slices_Clone_int64_b930_eq : denFn slices_Clone_int64_b930_V slices_Clone_int64_b930_I ⟨[.nil], []⟩ = (slices_Clone_int64_b930).run fun r => some (slices_Clone_int64_b930_out r) := by kernel_rfl
noncomputable def slices_Clone_int64_b930_G (av : List AV) (rs : List Root) : Tre CallOut :=
 asCons av fun a0_ av0 =>
 asEnd av0 <|
 asEnd rs <|
 asNil a0_ <|
 .ret (slices_Clone_int64_b930_out [])
noncomputable def slices_Clone_int64_b930_c : Ctr := ⟨[], fun ci => slices_Clone_int64_b930_G ci.args ci.roots, false⟩
theorem slices_Clone_int64_b930_env : EnvOK Try.prog .none slices_Clone_int64_b930_V := envOK_nil
set_option maxRecDepth 100000 in
theorem slices_Clone_int64_b930_ok : Contract Try.prog .none 57 slices_Clone_int64_b930_c := by
 have hl : LoopsOK slices_Clone_int64_b930_V [] slices_Clone_int64_b930_b := loopsOK_nil (by kernel_rfl)
 refine (contract_of (F := slices_Clone_int64_b930_I) tau_tys slices_Clone_int64_b930_env Try.func57 (by kernel_rfl) (by kernel_rfl) (by kernel_rfl) hl []).weaken ?_
 rintro ⟨av, rs⟩ co h
 have h : (slices_Clone_int64_b930_G av rs).run some = some co := h
 obtain ⟨a0_, av0, rfl, h_0⟩ := asCons_spec h
 obtain ⟨rfl, h_1⟩ := asEnd_spec h_0
 obtain ⟨rfl, h_2⟩ := asEnd_spec h_1
 obtain ⟨rfl, h_3⟩ := asNil_spec h_2
 exact fin_ret (slices_Clone_int64_b930_eq) (slices_Clone_int64_b930_spec) h_3
end Go.Proofs.Ytkgekgfmnhccmaa

namespace Go.Proofs.Ytkgekgfmnhccmaa
open Go Go.Abs Go.Proofs
noncomputable def slices_Clone_int64_6661 (p0 : (List Int)) : Tre (List Int) :=
 .ite ((0 + p0.length) * 8 ≤ appendMax ∧ 1 ≤ 8) <|
 .ret ([] ++ p0)
noncomputable def slices_Clone_int64_6661_F (p0 : (List Int)) : Option (List Int) := (slices_Clone_int64_6661 p0).run some
theorem slices_Clone_int64_6661_spec (p0 : List Int) (y : List Int) (h : cloneR p0 = some y) : slices_Clone_int64_6661_F p0 = some y := by
 obtain ⟨hl, rfl⟩ := lim_some h
 have hb : (0 + p0.length) * 8 ≤ appendMax ∧ 1 ≤ 8 := by unfold appendMax; omega
 unfold slices_Clone_int64_6661_F slices_Clone_int64_6661
 rw [Tre.run_ite, if_pos hb]
 rfl
noncomputable def slices_Clone_int64_6661_V : Env := ⟨tau, [], []⟩
noncomputable def slices_Clone_int64_6661_b : Code := (Try.f57.body).getD .skip
noncomputable def slices_Clone_int64_6661_I : FnI := ⟨slices_Clone_int64_6661_b, Try.f57.results.toList, Try.f57.resultTypes.toList, []⟩
noncomputable def slices_Clone_int64_6661_out (_zp0 : Bool) (_p0 : (List Int)) : (List Int) → CallOut := fun r => ⟨(.ref (1, 0) []), [], [⟨false, (.sl (.int .i64)), .own, r⟩]⟩
set_option maxRecDepth 100000 in
theorem slices_Clone_int64_6661_eq : ∀ (zp0 : Bool) (p0 : (List Int)), denFn slices_Clone_int64_6661_V slices_Clone_int64_6661_I ⟨[(.nn zp0 (.int .i64) p0)], []⟩ = (slices_Clone_int64_6661 p0).run fun r => some (slices_Clone_int64_6661_out zp0 p0 r) := fun _ _ => by kernel_rfl
noncomputable def slices_Clone_int64_6661_G (av : List AV) (rs : List Root) : Tre CallOut :=
 asCons av fun a0_ av0 =>
 asEnd av0 <|
 asEnd rs <|
 asNn (.int .i64) a0_ fun z1 d2 =>
 .mat (cloneR d2) fun r => .ret (slices_Clone_int64_6661_out z1 d2 r)
noncomputable def slices_Clone_int64_6661_c : Ctr := ⟨[], fun ci => slices_Clone_int64_6661_G ci.args ci.roots, false⟩
theorem slices_Clone_int64_6661_env : EnvOK Try.prog .none slices_Clone_int64_6661_V := envOK_nil
set_option maxRecDepth 100000 in
theorem slices_Clone_int64_6661_ok : Contract Try.prog .none 57 slices_Clone_int64_6661_c := by
 have hl : LoopsOK slices_Clone_int64_6661_V [] slices_Clone_int64_6661_b := loopsOK_nil (by kernel_rfl)
 refine (contract_of (F := slices_Clone_int64_6661_I) tau_tys slices_Clone_int64_6661_env Try.func57 (by kernel_rfl) (by kernel_rfl) (by kernel_rfl) hl []).weaken ?_
 rintro ⟨av, rs⟩ co h
 have h : (slices_Clone_int64_6661_G av rs).run some = some co := h
 obtain ⟨a0_, av0, rfl, h_0⟩ := asCons_spec h
 obtain ⟨rfl, h_1⟩ := asEnd_spec h_0
 obtain ⟨rfl, h_2⟩ := asEnd_spec h_1
 obtain ⟨z1, d2, rfl, h_3⟩ := asNn_spec h_2
 exact fin_opt (slices_Clone_int64_6661_eq z1 d2) (slices_Clone_int64_6661_spec d2) h_3
end Go.Proofs.Ytkgekgfmnhccmaa

namespace Go.Proofs.Ytkgekgfmnhccmaa
open Go Go.Abs Go.Proofs
theorem slices_Clone_int64_nil (y : List Int) (h : cloneR ([] : List Int) = some y) : y = [] := (lim_some h).2.symm
noncomputable def slices_Clone_int64_G (av : List AV) (rs : List Root) : Tre CallOut :=
 asCons av fun a0_ av0 =>
 asEnd av0 <|
 asEnd rs <|
 asImm (.sl (.int .i64)) a0_ fun z2 d1 =>
 .mat (cloneR d1) fun r => .ret ⟨(.ref (1, 0) []), [], [⟨false, (.sl (.int .i64)), .own, r⟩]⟩
noncomputable def slices_Clone_int64_c : Ctr := ⟨[], fun ci => slices_Clone_int64_G ci.args ci.roots, false⟩
theorem slices_Clone_int64_ok : Contract Try.prog .none 57 slices_Clone_int64_c := by
 refine contract_nil (e := (.int .i64)) slices_Clone_int64_b930_ok slices_Clone_int64_6661_ok ?_
 rintro ⟨av, rs⟩ co h
 have h : (slices_Clone_int64_G av rs).run some = some co := h
 obtain ⟨a0_, av0, rfl, h_0⟩ := asCons_spec h
 obtain ⟨rfl, h_1⟩ := asEnd_spec h_0
 obtain ⟨rfl, h_2⟩ := asEnd_spec h_1
 obtain ⟨z2, d1, rfl, h_3⟩ := asImm_spec h_2
 refine ⟨z2, d1, rfl, ?_, ?_⟩
 ·exact h_3
 ·rintro rfl
  obtain ⟨y, h1, h2⟩ := mat_ret h_3
  have hy : y = [] := by
   have := slices_Clone_int64_nil y h1
   exact this
  subst hy
  rw [← h2]; rfl
end Go.Proofs.Ytkgekgfmnhccmaa

namespace Go.Proofs.Ytkgekgfmnhccmaa
open Go Go.Abs Go.Proofs
noncomputable def i_Net_at_l5 (h5_0_0 : (List Int)) (h5_0_1 : Int) (h5_0_4 : (List Int)) : (Int × (List Int)) → Tre ((Int × (List Int)) ⊕ (List Int)) := fun s5 =>
 .cond (decide (s5.1 < h5_0_1))
  (.ite (0 ≤ s5.1 ∧ s5.1 < (h5_0_4.length : Int)) <|
  .mat (h5_0_4[s5.1.toNat]?) fun x3 =>
  .ite (0 ≤ x3 ∧ x3 < (h5_0_0.length : Int)) <|
  .mat (h5_0_0[x3.toNat]?) fun x4 =>
  .ite ((s5.2.length + 1) * 8 ≤ appendMax ∧ 1 ≤ 8) <|
  .ret (.inl (iwrap .i64 (s5.1 + 1), s5.2 ++ ([x4]))))
  (.ret (.inr s5.2))
noncomputable def i_Net_at (p0 : TNet) (p1 : Int) (p2 : (List Int)) (p3 : (List Int)) : Tre (List Int) :=
 .cond (decide (p1 = 0))
  (.mat (cloneR p2) fun r1 =>
  .ret r1)
  (.mat (i_Net_into_F p0 p1) fun r2 =>
  .mat (loopF (i_Net_at_l5 p3 (r2.length : Int) r2) (0, [])) fun l5 =>
  .ret l5)
noncomputable def i_Net_at_F (p0 : TNet) (p1 : Int) (p2 : (List Int)) (p3 : (List Int)) : Option (List Int) := (i_Net_at p0 p1 p2 p3).run some
-- more
theorem NetP.two2 {n : TN6} (h : NetP n) : ∀ e ∈ n.2.2.2.1, e.length = 2 := by
 intro e he
 obtain ⟨i, hi⟩ := List.mem_iff_getElem?.1 he
 exact edgeOk_len (h.edges i e hi)
theorem intoV_len (es : List (List Int)) (a : Int) : (intoV es a).length ≤ es.length := by
 have := pickI_len (f := fun i e => if e1 e = a then some (i : Int) else none) es 0
 unfold intoV
 exact this
theorem inat_is {n : TN6} (h : NetP n) {node : Int} {ms car : List Int} (hm : ms.length ≤ 1000000) (hc : car.length = n.2.2.2.1.length) : i_Net_at_F n node ms car = some (atV n node ms car) := by
 have hil := intoV_len n.2.2.2.1 node
 have hE := h.len
 unfold i_Net_at_F i_Net_at atV
 rw [Tre.run_cond]
 by_cases h0 : node = 0
 ·rw [decide_eq_true h0, cond_true, if_pos h0, run_some_mat (show cloneR ms = some ms from lim_of (by omega))]
  rfl
 ·rw [decide_eq_false h0, cond_false, if_neg h0, run_some_mat (i_Net_into_is n h.len h.two2 node)]
  have key := fold_loop (xs := intoV n.2.2.2.1 node) (step := i_Net_at_l5 car ((intoV n.2.2.2.1 node).length : Int) (intoV n.2.2.2.1 node)) (γ := List Int) (fun (i : Nat) acc => ((i : Int), acc)) (fun _ acc x => .inl (acc ++ [car.getD x.toNat 0])) id (fun i acc => acc.length = i) (by
   intro i acc x hx hi
   have hlt := (List.getElem?_eq_some_iff.1 hx).1
   obtain ⟨j, rfl, hj⟩ := into_all h (List.mem_of_getElem? hx)
   have hcj := List.getElem?_eq_getElem (show j < car.length by omega)
   refine ⟨?_, fun a ha => ?_⟩
   ·unfold i_Net_at_l5
    dsimp only
    rw [Tre.run_cond, decide_eq_true (by omega), cond_true, Tre.run_ite, if_pos (by omega), Int.toNat_natCast, run_some_mat hx, Tre.run_ite, if_pos (by omega), Int.toNat_natCast, run_some_mat hcj, Tre.run_ite, if_pos (by unfold appendMax; omega), Tre.run_ret, iwrap_succ (by omega), getD_of hcj]
   ·cases ha; simp [hi]) (by
   intro acc _
   unfold i_Net_at_l5
   dsimp only
   rw [Tre.run_cond, decide_eq_false (by omega), cond_false]
   rfl) _ 0 [] rfl (Nat.zero_le _) rfl
  rw [foldE_app] at key
  have key : loopF (i_Net_at_l5 car ((intoV n.2.2.2.1 node).length : Int) (intoV n.2.2.2.1 node)) (0, []) = some ((intoV n.2.2.2.1 node).map fun x => car.getD x.toNat 0) := key
  rw [run_some_mat key]
  rfl
noncomputable def i_Net_at_V : Env := ⟨tau, [(57, slices_Clone_int64_c), (102, i_Net_into_c)], []⟩
noncomputable def i_Net_at_b : Code := (Try.f89.body).getD .skip
noncomputable def i_Net_at_l5_mk (z5_0 : Bool) (h5_0_0 : (List Int)) (h5_0_1 : Int) (h5_0_4 : (List Int)) : (Int × (List Int)) → St := fun x => stOf [(3, (.imm z5_0 (.sl (.int .i64)) h5_0_0)), (9, (.ref (11, 0) [])), (19, (.ref (21, 0) [])), (20, (.imm true (.int .i64) h5_0_1)), (21, (.imm true (.int .i64) x.1))] [((11, 0), some ⟨false, (.sl (.int .i64)), .own, x.2⟩), ((21, 0), some ⟨false, (.sl (.int .i64)), .own, h5_0_4⟩)]
noncomputable def i_Net_at_l5_out (_z5_0 : Bool) (_h5_0_0 : (List Int)) (_h5_0_1 : Int) (_h5_0_4 : (List Int)) : (List Int) → Ex × St := fun x => (.exit 0, stOf [(9, (.ref (11, 0) []))] [((11, 0), some ⟨false, (.sl (.int .i64)), .own, x⟩)])
noncomputable def i_Net_at_l5_D (s : St) : Tre (Ex × St) :=
 asImm (.sl (.int .i64)) (s.tmps 3) fun z3 d2 =>
 asRef (11, 0) [] (s.tmps 9) <|
 asRef (21, 0) [] (s.tmps 19) <|
 asImmZ true (.int .i64) (s.tmps 20) fun d7 =>
 asImmZ true (.int .i64) (s.tmps 21) fun d9 =>
 asRoot false (.sl (.int .i64)) (s.roots (11, 0)) fun m11 d12 =>
 asM .own m11 <|
 asRoot false (.sl (.int .i64)) (s.roots (21, 0)) fun m14 d15 =>
 asM .own m14 <|
 .mat (loopF (i_Net_at_l5 d2 d7 d15) (d9, d12)) fun x => .ret (i_Net_at_l5_out z3 d2 d7 d15 x)
noncomputable def i_Net_at_l5_L : LoopI := ⟨([3, 9, 19, 20, 21], [(11, 0), (21, 0)]), ([9], [(11, 0)]), i_Net_at_l5_D⟩
noncomputable def i_Net_at_A : List (Nat × LoopI) := [(5, i_Net_at_l5_L)]
set_option maxRecDepth 100000 in
theorem i_Net_at_l5_step : ∀ (z5_0 : Bool) (h5_0_0 : (List Int)) (h5_0_1 : Int) (h5_0_4 : (List Int)) (x : (Int × (List Int))) (c : St → Option (Ex × St)), den i_Net_at_V i_Net_at_A (loopAt i_Net_at_b 0) (i_Net_at_l5_mk z5_0 h5_0_0 h5_0_1 h5_0_4 x) (roundK i_Net_at_l5_L.kp i_Net_at_l5_L.kx c) = (i_Net_at_l5 h5_0_0 h5_0_1 h5_0_4 x).run (roundR (i_Net_at_l5_mk z5_0 h5_0_0 h5_0_1 h5_0_4) (i_Net_at_l5_out z5_0 h5_0_0 h5_0_1 h5_0_4) c) := fun _ _ _ _ _ _ => by
 kernel_rfl
theorem i_Net_at_l5_ok : LoopOK i_Net_at_V i_Net_at_A (loopAt i_Net_at_b 0) i_Net_at_l5_L := loopOK_of fun s e s' h => by
 generalize hs : restrict i_Net_at_l5_L.kp s = s1 at h
 have h : (i_Net_at_l5_D s1).run some = some (e, s') := h
 obtain ⟨z3, d2, e1, h_0⟩ := asImm_spec h
 obtain ⟨e4, h_1⟩ := asRef_spec h_0
 obtain ⟨e5, h_2⟩ := asRef_spec h_1
 obtain ⟨d7, e6, h_3⟩ := asImmZ_spec h_2
 obtain ⟨d9, e8, h_4⟩ := asImmZ_spec h_3
 obtain ⟨m11, d12, e10, h_5⟩ := asRoot_spec h_4
 obtain ⟨rfl, h_6⟩ := asM_spec h_5
 obtain ⟨m14, d15, e13, h_7⟩ := asRoot_spec h_6
 obtain ⟨rfl, h_8⟩ := asM_spec h_7
 obtain ⟨y, hy, hz⟩ := mat_ret h_8
 refine ⟨_, _, i_Net_at_l5_mk z3 d2 d7 d15, i_Net_at_l5_out z3 d2 d7 d15, i_Net_at_l5 d2 d7 d15, (d9, d12), y, ?_, hy, ?_, i_Net_at_l5_step z3 d2 d7 d15⟩
 ·subst hs; exact restrict_eq (T := [(3, (.imm z3 (.sl (.int .i64)) d2)), (9, (.ref (11, 0) [])), (19, (.ref (21, 0) [])), (20, (.imm true (.int .i64) d7)), (21, (.imm true (.int .i64) d9))]) (U := [((11, 0), some ⟨false, (.sl (.int .i64)), .own, d12⟩), ((21, 0), some ⟨false, (.sl (.int .i64)), .own, d15⟩)]) rfl rfl ⟨e1, e4, e5, e6, e8, trivial⟩ ⟨e10, e13, trivial⟩
 ·exact Option.some.inj hz
noncomputable def i_Net_at_I : FnI := ⟨i_Net_at_b, Try.f89.results.toList, Try.f89.resultTypes.toList, i_Net_at_A⟩
noncomputable def i_Net_at_out (_zp0 : Bool) (_zp1 : Bool) (_zp2 : Bool) (_p0 : TNet) (_p1 : Int) (_p2 : (List Int)) (_p3 : (List Int)) : (List Int) → CallOut := fun r => ⟨(.ref (1, 0) []), [], [⟨false, (.sl (.int .i64)), .own, r⟩]⟩
set_option maxRecDepth 100000 in
theorem i_Net_at_eq : ∀ (zp0 : Bool) (zp1 : Bool) (zp2 : Bool) (p0 : TNet) (p1 : Int) (p2 : (List Int)) (p3 : (List Int)), denFn i_Net_at_V i_Net_at_I ⟨[(.imm zp0 kNet p0), (.imm true (.int .i64) p1), (.imm zp1 (.sl (.int .i64)) p2), (.imm zp2 (.sl (.int .i64)) p3)], []⟩ = (i_Net_at p0 p1 p2 p3).run fun r => some (i_Net_at_out zp0 zp1 zp2 p0 p1 p2 p3 r) := fun _ _ _ _ _ _ _ => by kernel_rfl
noncomputable def i_Net_at_G (av : List AV) (rs : List Root) : Tre CallOut :=
 asCons av fun a0_ av0 =>
 asCons av0 fun a1_ av1 =>
 asCons av1 fun a2_ av2 =>
 asCons av2 fun a3_ av3 =>
 asEnd av3 <|
 asEnd rs <|
 asImm kNet a0_ fun z2 d1 =>
 asImmZ true (.int .i64) a1_ fun d3 =>
 asImm (.sl (.int .i64)) a2_ fun z5 d4 =>
 asImm (.sl (.int .i64)) a3_ fun z7 d6 =>
 .mat (i_Net_at_F d1 d3 d4 d6) fun r => .ret (i_Net_at_out z2 z5 z7 d1 d3 d4 d6 r)
noncomputable def i_Net_at_c : Ctr := ⟨[], fun ci => i_Net_at_G ci.args ci.roots, false⟩
theorem i_Net_at_env : EnvOK Try.prog .none i_Net_at_V := (envOK_cons slices_Clone_int64_ok ent57 (envOK_cons i_Net_into_ok ent102 envOK_nil))
set_option maxRecDepth 100000 in
theorem i_Net_at_ok : Contract Try.prog .none 89 i_Net_at_c := by
 have hl : LoopsOK i_Net_at_V i_Net_at_A i_Net_at_b := (loopsOK_all (n := 1) (by kernel_rfl) fun k hk => by
   match k, hk with
   | 0, _ => exact loopOK_at (id := 5) (L := i_Net_at_l5_L) (by kernel_rfl) (by kernel_rfl) i_Net_at_l5_ok)
 refine (contract_of (F := i_Net_at_I) tau_tys i_Net_at_env Try.func89 (by kernel_rfl) (by kernel_rfl) (by kernel_rfl) hl []).weaken ?_
 rintro ⟨av, rs⟩ co h
 have h : (i_Net_at_G av rs).run some = some co := h
 obtain ⟨a0_, av0, rfl, h_0⟩ := asCons_spec h
 obtain ⟨a1_, av1, rfl, h_1⟩ := asCons_spec h_0
 obtain ⟨a2_, av2, rfl, h_2⟩ := asCons_spec h_1
 obtain ⟨a3_, av3, rfl, h_3⟩ := asCons_spec h_2
 obtain ⟨rfl, h_4⟩ := asEnd_spec h_3
 obtain ⟨rfl, h_5⟩ := asEnd_spec h_4
 obtain ⟨z2, d1, rfl, h_6⟩ := asImm_spec h_5
 obtain ⟨d3, rfl, h_7⟩ := asImmZ_spec h_6
 obtain ⟨z5, d4, rfl, h_8⟩ := asImm_spec h_7
 obtain ⟨z7, d6, rfl, h_9⟩ := asImm_spec h_8
 exact fin_mat (i_Net_at_eq z2 z5 z7 d1 d3 d4 d6) h_9
end Go.Proofs.Ytkgekgfmnhccmaa

namespace Go.Proofs.Ytkgekgfmnhccmaa
open Go Go.Abs Go.Proofs
noncomputable def i_product_l2 : (Int × Int × Int) → Tre ((Int × Int × Int) ⊕ Int) := fun s2 =>
 .cond (decide (s2.2.1 > 0))
  (.cond (decide (iand .i64 s2.2.1 1 = 1))
   (.ret (.inl (ishl .i64 s2.1 1, ishr .i64 s2.2.1 1, ixor .i64 s2.2.2 s2.1)))
   (.ret (.inl (ishl .i64 s2.1 1, ishr .i64 s2.2.1 1, s2.2.2))))
  (.ret (.inr s2.2.2))
noncomputable def i_product (p0 : Int) (p1 : Int) : Tre Int :=
 .mat (loopF i_product_l2 (p0, p1, 0)) fun l1 =>
 .ret l1
noncomputable def i_product_F (p0 : Int) (p1 : Int) : Option Int := (i_product p0 p1).run some
noncomputable def i_product_V : Env := ⟨tau, [], []⟩
noncomputable def i_product_b : Code := (Try.f143.body).getD .skip
noncomputable def i_product_l2_mk : (Int × Int × Int) → St := fun x => stOf [(0, (.imm true (.int .i64) x.1)), (1, (.imm true (.int .i64) x.2.1)), (5, (.imm true (.int .i64) x.2.2))] []
noncomputable def i_product_l2_out : Int → Ex × St := fun x => (.exit 0, stOf [(5, (.imm true (.int .i64) x))] [])
noncomputable def i_product_l2_D (s : St) : Tre (Ex × St) :=
 asImmZ true (.int .i64) (s.tmps 0) fun d2 =>
 asImmZ true (.int .i64) (s.tmps 1) fun d4 =>
 asImmZ true (.int .i64) (s.tmps 5) fun d6 =>
 .mat (loopF i_product_l2 (d2, d4, d6)) fun x => .ret (i_product_l2_out x)
noncomputable def i_product_l2_L : LoopI := ⟨([0, 1, 5], []), ([5], []), i_product_l2_D⟩
noncomputable def i_product_A : List (Nat × LoopI) := [(2, i_product_l2_L)]
set_option maxRecDepth 100000 in
theorem i_product_l2_step : ∀ (x : (Int × Int × Int)) (c : St → Option (Ex × St)), den i_product_V i_product_A (loopAt i_product_b 0) (i_product_l2_mk x) (roundK i_product_l2_L.kp i_product_l2_L.kx c) = (i_product_l2 x).run (roundR (i_product_l2_mk) (i_product_l2_out) c) := fun _ _ => by
 kernel_rfl
theorem i_product_l2_ok : LoopOK i_product_V i_product_A (loopAt i_product_b 0) i_product_l2_L := loopOK_of fun s e s' h => by
 generalize hs : restrict i_product_l2_L.kp s = s1 at h
 have h : (i_product_l2_D s1).run some = some (e, s') := h
 obtain ⟨d2, e1, h_0⟩ := asImmZ_spec h
 obtain ⟨d4, e3, h_1⟩ := asImmZ_spec h_0
 obtain ⟨d6, e5, h_2⟩ := asImmZ_spec h_1
 obtain ⟨y, hy, hz⟩ := mat_ret h_2
 refine ⟨_, _, i_product_l2_mk, i_product_l2_out, i_product_l2, (d2, d4, d6), y, ?_, hy, ?_, i_product_l2_step⟩
 ·subst hs; exact restrict_eq (T := [(0, (.imm true (.int .i64) d2)), (1, (.imm true (.int .i64) d4)), (5, (.imm true (.int .i64) d6))]) (U := []) rfl rfl ⟨e1, e3, e5, trivial⟩ trivial
 ·exact Option.some.inj hz
noncomputable def i_product_I : FnI := ⟨i_product_b, Try.f143.results.toList, Try.f143.resultTypes.toList, i_product_A⟩
noncomputable def i_product_out (_p0 : Int) (_p1 : Int) : Int → CallOut := fun r => ⟨(.imm true (.int .i64) r), [], []⟩
set_option maxRecDepth 100000 in
theorem i_product_eq : ∀ (p0 : Int) (p1 : Int), denFn i_product_V i_product_I ⟨[(.imm true (.int .i64) p0), (.imm true (.int .i64) p1)], []⟩ = (i_product p0 p1).run fun r => some (i_product_out p0 p1 r) := fun _ _ => by kernel_rfl
noncomputable def i_product_G (av : List AV) (rs : List Root) : Tre CallOut :=
 asCons av fun a0_ av0 =>
 asCons av0 fun a1_ av1 =>
 asEnd av1 <|
 asEnd rs <|
 asImmZ true (.int .i64) a0_ fun d1 =>
 asImmZ true (.int .i64) a1_ fun d2 =>
 .mat (i_product_F d1 d2) fun r => .ret (i_product_out d1 d2 r)
noncomputable def i_product_c : Ctr := ⟨[], fun ci => i_product_G ci.args ci.roots, false⟩
theorem i_product_env : EnvOK Try.prog .none i_product_V := envOK_nil
set_option maxRecDepth 100000 in
theorem i_product_ok : Contract Try.prog .none 143 i_product_c := by
 have hl : LoopsOK i_product_V i_product_A i_product_b := (loopsOK_all (n := 1) (by kernel_rfl) fun k hk => by
   match k, hk with
   | 0, _ => exact loopOK_at (id := 2) (L := i_product_l2_L) (by kernel_rfl) (by kernel_rfl) i_product_l2_ok)
 refine (contract_of (F := i_product_I) tau_tys i_product_env Try.func143 (by kernel_rfl) (by kernel_rfl) (by kernel_rfl) hl []).weaken ?_
 rintro ⟨av, rs⟩ co h
 have h : (i_product_G av rs).run some = some co := h
 obtain ⟨a0_, av0, rfl, h_0⟩ := asCons_spec h
 obtain ⟨a1_, av1, rfl, h_1⟩ := asCons_spec h_0
 obtain ⟨rfl, h_2⟩ := asEnd_spec h_1
 obtain ⟨rfl, h_3⟩ := asEnd_spec h_2
 obtain ⟨d1, rfl, h_4⟩ := asImmZ_spec h_3
 obtain ⟨d2, rfl, h_5⟩ := asImmZ_spec h_4
 exact fin_mat (i_product_eq d1 d2) h_5
end Go.Proofs.Ytkgekgfmnhccmaa

namespace Go.Proofs.Ytkgekgfmnhccmaa
open Go Go.Abs Go.Proofs
noncomputable def i_Field_mul (p0 : (Int × (Int × Unit))) (p1 : Int) (p2 : Int) : Tre Int :=
 .mat (i_product_F p1 p2) fun r1 =>
 .mat (i_restOf_F r1 p0.2.1) fun r2 =>
 .ret r2
noncomputable def i_Field_mul_F (p0 : (Int × (Int × Unit))) (p1 : Int) (p2 : Int) : Option Int := (i_Field_mul p0 p1 p2).run some
-- more
set_option maxRecDepth 100000
theorem imul_2 : chk2 i_Field_mul_F mulN 1 2 = true := by kernel_rfl
theorem imul_3 : chk2 i_Field_mul_F mulN 1 3 = true := by kernel_rfl
theorem imul_7 : chk2 i_Field_mul_F mulN 2 7 = true := by kernel_rfl
theorem imul_11 : chk2 i_Field_mul_F mulN 3 11 = true := by kernel_rfl
theorem imul_13 : chk2 i_Field_mul_F mulN 3 13 = true := by kernel_rfl
theorem imul_19 : chk2 i_Field_mul_F mulN 4 19 = true := by kernel_rfl
theorem imul_25 : chk2 i_Field_mul_F mulN 4 25 = true := by kernel_rfl
theorem imul_31 : chk2 i_Field_mul_F mulN 4 31 = true := by kernel_rfl
theorem imul_37 : chk2 i_Field_mul_F mulN 5 37 = true := by kernel_rfl
theorem imul_41 : chk2 i_Field_mul_F mulN 5 41 = true := by kernel_rfl
theorem imul_47 : chk2 i_Field_mul_F mulN 5 47 = true := by kernel_rfl
theorem imul_55 : chk2 i_Field_mul_F mulN 5 55 = true := by kernel_rfl
theorem imul_59 : chk2 i_Field_mul_F mulN 5 59 = true := by kernel_rfl
theorem imul_61 : chk2 i_Field_mul_F mulN 5 61 = true := by kernel_rfl
theorem imul_is {f : TF3} (hf : fieldOk f = true) {a b : Int} (ha : inF f a) (hb : inF f b) : i_Field_mul_F f a b = some (mulI f a b) := by
 refine two_of (fun q hq => ?_) hf ha hb
 simp only [fieldN, List.mem_cons, List.not_mem_nil, or_false] at hq
 rcases hq with rfl | rfl | rfl | rfl | rfl | rfl | rfl | rfl | rfl | rfl | rfl | rfl | rfl | rfl
 ·exact imul_2
 ·exact imul_3
 ·exact imul_7
 ·exact imul_11
 ·exact imul_13
 ·exact imul_19
 ·exact imul_25
 ·exact imul_31
 ·exact imul_37
 ·exact imul_41
 ·exact imul_47
 ·exact imul_55
 ·exact imul_59
 ·exact imul_61
noncomputable def i_Field_mul_V : Env := ⟨tau, [(143, i_product_c), (142, i_restOf_c)], []⟩
noncomputable def i_Field_mul_b : Code := (Try.f109.body).getD .skip
noncomputable def i_Field_mul_I : FnI := ⟨i_Field_mul_b, Try.f109.results.toList, Try.f109.resultTypes.toList, []⟩
noncomputable def i_Field_mul_out (_p0 : (Int × (Int × Unit))) (_p1 : Int) (_p2 : Int) : Int → CallOut := fun r => ⟨(.imm true (.int .i64) r), [], []⟩
set_option maxRecDepth 100000 in
theorem i_Field_mul_eq : ∀ (p0 : (Int × (Int × Unit))) (p1 : Int) (p2 : Int), denFn i_Field_mul_V i_Field_mul_I ⟨[(.imm true kField p0), (.imm true (.int .i64) p1), (.imm true (.int .i64) p2)], []⟩ = (i_Field_mul p0 p1 p2).run fun r => some (i_Field_mul_out p0 p1 p2 r) := fun _ _ _ => by kernel_rfl
noncomputable def i_Field_mul_G (av : List AV) (rs : List Root) : Tre CallOut :=
 asCons av fun a0_ av0 =>
 asCons av0 fun a1_ av1 =>
 asCons av1 fun a2_ av2 =>
 asEnd av2 <|
 asEnd rs <|
 asImmZ true kField a0_ fun d1 =>
 asImmZ true (.int .i64) a1_ fun d2 =>
 asImmZ true (.int .i64) a2_ fun d3 =>
 .mat (i_Field_mul_F d1 d2 d3) fun r => .ret (i_Field_mul_out d1 d2 d3 r)
noncomputable def i_Field_mul_c : Ctr := ⟨[], fun ci => i_Field_mul_G ci.args ci.roots, false⟩
theorem i_Field_mul_env : EnvOK Try.prog .none i_Field_mul_V := (envOK_cons i_product_ok ent143 (envOK_cons i_restOf_ok ent142 envOK_nil))
set_option maxRecDepth 100000 in
theorem i_Field_mul_ok : Contract Try.prog .none 109 i_Field_mul_c := by
 have hl : LoopsOK i_Field_mul_V [] i_Field_mul_b := loopsOK_nil (by kernel_rfl)
 refine (contract_of (F := i_Field_mul_I) tau_tys i_Field_mul_env Try.func109 (by kernel_rfl) (by kernel_rfl) (by kernel_rfl) hl []).weaken ?_
 rintro ⟨av, rs⟩ co h
 have h : (i_Field_mul_G av rs).run some = some co := h
 obtain ⟨a0_, av0, rfl, h_0⟩ := asCons_spec h
 obtain ⟨a1_, av1, rfl, h_1⟩ := asCons_spec h_0
 obtain ⟨a2_, av2, rfl, h_2⟩ := asCons_spec h_1
 obtain ⟨rfl, h_3⟩ := asEnd_spec h_2
 obtain ⟨rfl, h_4⟩ := asEnd_spec h_3
 obtain ⟨d1, rfl, h_5⟩ := asImmZ_spec h_4
 obtain ⟨d2, rfl, h_6⟩ := asImmZ_spec h_5
 obtain ⟨d3, rfl, h_7⟩ := asImmZ_spec h_6
 exact fin_mat (i_Field_mul_eq d1 d2 d3) h_7
end Go.Proofs.Ytkgekgfmnhccmaa

namespace Go.Proofs.Ytkgekgfmnhccmaa
open Go Go.Abs Go.Proofs
noncomputable def i_Field_inner_l3 (h3_0_0 : (List Int)) (h3_0_2 : (List Int)) (h3_0_3 : Int) (h3_0_5 : (Int × (Int × Unit))) : (Int × Int) → Tre ((Int × Int) ⊕ Int) := fun s3 =>
 .cond (decide (s3.2 < h3_0_3))
  (.ite (0 ≤ s3.2 ∧ s3.2 < (h3_0_2.length : Int)) <|
  .mat (h3_0_2[s3.2.toNat]?) fun x1 =>
  .ite (0 ≤ s3.2 ∧ s3.2 < (h3_0_0.length : Int)) <|
  .mat (h3_0_0[s3.2.toNat]?) fun x2 =>
  .mat (i_Field_mul_F h3_0_5 x1 x2) fun r3 =>
  .ret (.inl (ixor .i64 s3.1 r3, iwrap .i64 (s3.2 + 1))))
  (.ret (.inr s3.1))
noncomputable def i_Field_inner (p0 : (Int × (Int × Unit))) (p1 : (List Int)) (p2 : (List Int)) : Tre Int :=
 .mat (loopF (i_Field_inner_l3 p2 p1 (p1.length : Int) p0) (0, 0)) fun l4 =>
 .ret l4
noncomputable def i_Field_inner_F (p0 : (Int × (Int × Unit))) (p1 : (List Int)) (p2 : (List Int)) : Option Int := (i_Field_inner p0 p1 p2).run some
-- more
theorem foldE_dot {f : TF3} (hf : fieldOk f = true) : ∀ (u w : List Int) (i : Nat) (acc : Int), inF f acc → (∀ x ∈ u, inF f x) → (∀ x ∈ w, inF f x) → foldE (γ := Int) (β := Int) (fun _ acc (p : Int × Int) => .inl (ixor .i64 acc (mulI f p.1 p.2))) id i acc (u.zip w) = ixor .i64 acc (dotV f u w) := by
 intro u
 induction u with
 | nil => intro w i acc h _ _; simp only [List.zip_nil_left, foldE, dotV, id]; rw [xorF_zero hf h]
 | cons x u ih =>
  intro w i acc h hu hw
  cases w with
  | nil => simp only [List.zip_nil_right, foldE, dotV, id]; rw [xorF_zero hf h]
  | cons y w =>
   have hu2 : ∀ x ∈ u, inF f x := fun z hz => hu z (List.mem_cons_of_mem _ hz)
   have hw2 : ∀ x ∈ w, inF f x := fun z hz => hw z (List.mem_cons_of_mem _ hz)
   have hm := mulI_in hf (hu x (List.mem_cons_self ..)) (hw y (List.mem_cons_self ..))
   simp only [List.zip_cons_cons, foldE, dotV]
   rw [ih w (i + 1) _ (inF_xor hf h hm) hu2 hw2, xorF_assoc hf h hm (dotV_in hf hu2 hw2)]
theorem inner_is {f : TF3} (hf : fieldOk f = true) {u w : List Int} (hl : u.length = w.length) (hn : u.length ≤ 1000000) (hu : ∀ x ∈ u, inF f x) (hw : ∀ x ∈ w, inF f x) : i_Field_inner_F f u w = some (dotV f u w) := by
 have key := fold_loop (xs := u.zip w) (step := i_Field_inner_l3 w u (u.length : Int) f) (γ := Int) (fun (i : Nat) (acc : Int) => (acc, (i : Int))) (fun _ acc p => .inl (ixor .i64 acc (mulI f p.1 p.2))) id (fun _ _ => True) (by
  intro i acc p hp _
  have hlt := (List.getElem?_eq_some_iff.1 hp).1
  rw [List.length_zip] at hlt
  obtain ⟨p1, p2⟩ := p
  rw [List.getElem?_zip_eq_some] at hp
  obtain ⟨h1, h2⟩ := hp
  refine ⟨?_, fun _ _ => trivial⟩
  unfold i_Field_inner_l3
  dsimp only
  rw [Tre.run_cond, decide_eq_true (by omega), cond_true, Tre.run_ite, if_pos (by omega), Int.toNat_natCast, run_some_mat h1, Tre.run_ite, if_pos (by omega), run_some_mat h2, run_some_mat (imul_is hf (hu _ (List.mem_of_getElem? h1)) (hw _ (List.mem_of_getElem? h2))), Tre.run_ret, iwrap_succ (by omega)]) (by
  intro acc _
  unfold i_Field_inner_l3
  dsimp only
  rw [Tre.run_cond, decide_eq_false (by rw [List.length_zip]; omega), cond_false]
  rfl) (u.zip w) 0 0 rfl (Nat.zero_le _) trivial
 rw [foldE_dot hf u w 0 0 inF_zero hu hw, zero_xorF hf (dotV_in hf hu hw)] at key
 have key : loopF (i_Field_inner_l3 w u (u.length : Int) f) (0, 0) = some (dotV f u w) := key
 unfold i_Field_inner_F i_Field_inner
 rw [run_some_mat key]
 rfl
noncomputable def i_Field_inner_V : Env := ⟨tau, [(109, i_Field_mul_c)], []⟩
noncomputable def i_Field_inner_b : Code := (Try.f134.body).getD .skip
noncomputable def i_Field_inner_l3_mk (z3_0 : Bool) (z3_1 : Bool) (h3_0_0 : (List Int)) (h3_0_2 : (List Int)) (h3_0_3 : Int) (h3_0_5 : (Int × (Int × Unit))) : (Int × Int) → St := fun x => stOf [(2, (.imm z3_0 (.sl (.int .i64)) h3_0_0)), (3, (.ptr (5, 0) [])), (7, (.imm true (.int .i64) x.1)), (10, (.imm z3_1 (.sl (.int .i64)) h3_0_2)), (11, (.imm true (.int .i64) h3_0_3)), (12, (.imm true (.int .i64) x.2))] [((5, 0), some ⟨true, kField, .own, h3_0_5⟩)]
noncomputable def i_Field_inner_l3_out (_z3_0 : Bool) (_z3_1 : Bool) (_h3_0_0 : (List Int)) (_h3_0_2 : (List Int)) (_h3_0_3 : Int) (_h3_0_5 : (Int × (Int × Unit))) : Int → Ex × St := fun x => (.exit 0, stOf [(7, (.imm true (.int .i64) x))] [])
noncomputable def i_Field_inner_l3_D (s : St) : Tre (Ex × St) :=
 asImm (.sl (.int .i64)) (s.tmps 2) fun z3 d2 =>
 asPtr (5, 0) [] (s.tmps 3) <|
 asImmZ true (.int .i64) (s.tmps 7) fun d6 =>
 asImm (.sl (.int .i64)) (s.tmps 10) fun z9 d8 =>
 asImmZ true (.int .i64) (s.tmps 11) fun d11 =>
 asImmZ true (.int .i64) (s.tmps 12) fun d13 =>
 asRoot true kField (s.roots (5, 0)) fun m15 d16 =>
 asM .own m15 <|
 .mat (loopF (i_Field_inner_l3 d2 d8 d11 d16) (d6, d13)) fun x => .ret (i_Field_inner_l3_out z3 z9 d2 d8 d11 d16 x)
noncomputable def i_Field_inner_l3_L : LoopI := ⟨([2, 3, 7, 10, 11, 12], [(5, 0)]), ([7], []), i_Field_inner_l3_D⟩
noncomputable def i_Field_inner_A : List (Nat × LoopI) := [(3, i_Field_inner_l3_L)]
set_option maxRecDepth 100000 in
theorem i_Field_inner_l3_step : ∀ (z3_0 : Bool) (z3_1 : Bool) (h3_0_0 : (List Int)) (h3_0_2 : (List Int)) (h3_0_3 : Int) (h3_0_5 : (Int × (Int × Unit))) (x : (Int × Int)) (c : St → Option (Ex × St)), den i_Field_inner_V i_Field_inner_A (loopAt i_Field_inner_b 0) (i_Field_inner_l3_mk z3_0 z3_1 h3_0_0 h3_0_2 h3_0_3 h3_0_5 x) (roundK i_Field_inner_l3_L.kp i_Field_inner_l3_L.kx c) = (i_Field_inner_l3 h3_0_0 h3_0_2 h3_0_3 h3_0_5 x).run (roundR (i_Field_inner_l3_mk z3_0 z3_1 h3_0_0 h3_0_2 h3_0_3 h3_0_5) (i_Field_inner_l3_out z3_0 z3_1 h3_0_0 h3_0_2 h3_0_3 h3_0_5) c) := fun _ _ _ _ _ _ _ _ => by
 kernel_rfl
theorem i_Field_inner_l3_ok : LoopOK i_Field_inner_V i_Field_inner_A (loopAt i_Field_inner_b 0) i_Field_inner_l3_L := loopOK_of fun s e s' h => by
 generalize hs : restrict i_Field_inner_l3_L.kp s = s1 at h
 have h : (i_Field_inner_l3_D s1).run some = some (e, s') := h
 obtain ⟨z3, d2, e1, h_0⟩ := asImm_spec h
 obtain ⟨e4, h_1⟩ := asPtr_spec h_0
 obtain ⟨d6, e5, h_2⟩ := asImmZ_spec h_1
 obtain ⟨z9, d8, e7, h_3⟩ := asImm_spec h_2
 obtain ⟨d11, e10, h_4⟩ := asImmZ_spec h_3
 obtain ⟨d13, e12, h_5⟩ := asImmZ_spec h_4
 obtain ⟨m15, d16, e14, h_6⟩ := asRoot_spec h_5
 obtain ⟨rfl, h_7⟩ := asM_spec h_6
 obtain ⟨y, hy, hz⟩ := mat_ret h_7
 refine ⟨_, _, i_Field_inner_l3_mk z3 z9 d2 d8 d11 d16, i_Field_inner_l3_out z3 z9 d2 d8 d11 d16, i_Field_inner_l3 d2 d8 d11 d16, (d6, d13), y, ?_, hy, ?_, i_Field_inner_l3_step z3 z9 d2 d8 d11 d16⟩
 ·subst hs; exact restrict_eq (T := [(2, (.imm z3 (.sl (.int .i64)) d2)), (3, (.ptr (5, 0) [])), (7, (.imm true (.int .i64) d6)), (10, (.imm z9 (.sl (.int .i64)) d8)), (11, (.imm true (.int .i64) d11)), (12, (.imm true (.int .i64) d13))]) (U := [((5, 0), some ⟨true, kField, .own, d16⟩)]) rfl rfl ⟨e1, e4, e5, e7, e10, e12, trivial⟩ ⟨e14, trivial⟩
 ·exact Option.some.inj hz
noncomputable def i_Field_inner_I : FnI := ⟨i_Field_inner_b, Try.f134.results.toList, Try.f134.resultTypes.toList, i_Field_inner_A⟩
noncomputable def i_Field_inner_out (_zp0 : Bool) (_zp1 : Bool) (_p0 : (Int × (Int × Unit))) (_p1 : (List Int)) (_p2 : (List Int)) : Int → CallOut := fun r => ⟨(.imm true (.int .i64) r), [], []⟩
set_option maxRecDepth 100000 in
theorem i_Field_inner_eq : ∀ (zp0 : Bool) (zp1 : Bool) (p0 : (Int × (Int × Unit))) (p1 : (List Int)) (p2 : (List Int)), denFn i_Field_inner_V i_Field_inner_I ⟨[(.imm true kField p0), (.imm zp0 (.sl (.int .i64)) p1), (.imm zp1 (.sl (.int .i64)) p2)], []⟩ = (i_Field_inner p0 p1 p2).run fun r => some (i_Field_inner_out zp0 zp1 p0 p1 p2 r) := fun _ _ _ _ _ => by kernel_rfl
noncomputable def i_Field_inner_G (av : List AV) (rs : List Root) : Tre CallOut :=
 asCons av fun a0_ av0 =>
 asCons av0 fun a1_ av1 =>
 asCons av1 fun a2_ av2 =>
 asEnd av2 <|
 asEnd rs <|
 asImmZ true kField a0_ fun d1 =>
 asImm (.sl (.int .i64)) a1_ fun z3 d2 =>
 asImm (.sl (.int .i64)) a2_ fun z5 d4 =>
 .mat (i_Field_inner_F d1 d2 d4) fun r => .ret (i_Field_inner_out z3 z5 d1 d2 d4 r)
noncomputable def i_Field_inner_c : Ctr := ⟨[], fun ci => i_Field_inner_G ci.args ci.roots, false⟩
theorem i_Field_inner_env : EnvOK Try.prog .none i_Field_inner_V := (envOK_cons i_Field_mul_ok ent109 envOK_nil)
set_option maxRecDepth 100000 in
theorem i_Field_inner_ok : Contract Try.prog .none 134 i_Field_inner_c := by
 have hl : LoopsOK i_Field_inner_V i_Field_inner_A i_Field_inner_b := (loopsOK_all (n := 1) (by kernel_rfl) fun k hk => by
   match k, hk with
   | 0, _ => exact loopOK_at (id := 3) (L := i_Field_inner_l3_L) (by kernel_rfl) (by kernel_rfl) i_Field_inner_l3_ok)
 refine (contract_of (F := i_Field_inner_I) tau_tys i_Field_inner_env Try.func134 (by kernel_rfl) (by kernel_rfl) (by kernel_rfl) hl []).weaken ?_
 rintro ⟨av, rs⟩ co h
 have h : (i_Field_inner_G av rs).run some = some co := h
 obtain ⟨a0_, av0, rfl, h_0⟩ := asCons_spec h
 obtain ⟨a1_, av1, rfl, h_1⟩ := asCons_spec h_0
 obtain ⟨a2_, av2, rfl, h_2⟩ := asCons_spec h_1
 obtain ⟨rfl, h_3⟩ := asEnd_spec h_2
 obtain ⟨rfl, h_4⟩ := asEnd_spec h_3
 obtain ⟨d1, rfl, h_5⟩ := asImmZ_spec h_4
 obtain ⟨z3, d2, rfl, h_6⟩ := asImm_spec h_5
 obtain ⟨z5, d4, rfl, h_7⟩ := asImm_spec h_6
 exact fin_mat (i_Field_inner_eq z3 z5 d1 d2 d4) h_7
end Go.Proofs.Ytkgekgfmnhccmaa

namespace Go.Proofs.Ytkgekgfmnhccmaa
open Go Go.Abs Go.Proofs
noncomputable def i_Net_carried_l3 (h3_0_0 : (List Int)) (h3_0_1 : (List Int)) (h3_0_2 : (List (List Int))) (h3_0_3 : Int) (h3_0_5 : TNet) : (Int × (List Int)) → Tre ((Int × (List Int)) ⊕ (List Int)) := fun s3 =>
 .cond (decide (s3.1 < h3_0_3))
  (.ite (0 ≤ s3.1 ∧ s3.1 < (h3_0_2.length : Int)) <|
  .mat (h3_0_2[s3.1.toNat]?) fun x1 =>
  .ite (0 ≤ s3.1 ∧ s3.1 < (h3_0_5.2.2.2.2.1.length : Int)) <|
  .mat (h3_0_5.2.2.2.2.1[s3.1.toNat]?) fun x2 =>
  .ite ((0 : Int) ≤ 0 ∧ (0 : Int) < (x1.length : Int)) <|
  .mat (x1[0]?) fun x3 =>
  .mat (i_Net_at_F h3_0_5 x3 h3_0_0 s3.2) fun r4 =>
  .mat (i_Field_inner_F h3_0_5.1 x2 r4) fun r5 =>
  .ite (0 ≤ s3.1 ∧ s3.1 < (h3_0_1.length : Int)) <|
  .mat (h3_0_1[s3.1.toNat]?) fun x6 =>
  .ite (0 ≤ s3.1 ∧ s3.1 < (s3.2.length : Int)) <|
  .mat (s3.2[s3.1.toNat]?) fun _ =>
  let v8 := s3.2.set s3.1.toNat (ixor .i64 r5 x6)
  .ret (.inl (iwrap .i64 (s3.1 + 1), v8)))
  (.ret (.inr s3.2))
noncomputable def i_Net_carried (p0 : TNet) (p1 : (List Int)) (p2 : (List Int)) : Tre (List Int) :=
 .ite (((.int .i64) : K) = (.int .i64) ∧ 0 ≤ (p0.2.2.2.1.length : Int) ∧ (p0.2.2.2.1.length : Int) = (p0.2.2.2.1.length : Int) ∧ (p0.2.2.2.1.length : Int) * (8 : Nat) ≤ 140737488355328 ∧ 1 ≤ 8) <|
 .mat (loopF (i_Net_carried_l3 p1 p2 p0.2.2.2.1 (p0.2.2.2.1.length : Int) p0) (0, List.replicate (p0.2.2.2.1.length : Int).toNat (0 : Int))) fun l9 =>
 .ret l9
noncomputable def i_Net_carried_F (p0 : TNet) (p1 : (List Int)) (p2 : (List Int)) : Option (List Int) := (i_Net_carried p0 p1 p2).run some
-- more
theorem atV_len {n : TN6} (h : NetP n) {i : Nat} (hi : i < n.2.2.2.1.length) {ms car : List Int} (hm : ms.length = messN n) : (atV n (edgeA n i) ms car).length = (edgeC n i).length := by
 have h1 := (edgeC_ok h hi).2.1
 have h2 := (mess_ok h).1
 unfold hasV at h1
 unfold atV
 split
 ·rename_i h0; rw [if_pos h0] at h1; omega
 ·rename_i h0; rw [if_neg h0] at h1; rw [List.length_map]; omega
theorem atV_in {n : TN6} {node : Int} {ms car : List Int} (hm : ∀ x ∈ ms, inF n.1 x) (hc : ∀ x ∈ car, inF n.1 x) : ∀ x ∈ atV n node ms car, inF n.1 x := by
 intro x hx
 unfold atV at hx
 split at hx
 ·exact hm x hx
 ·obtain ⟨y, _, rfl⟩ := List.mem_map.1 hx
  rw [List.getD_eq_getElem?_getD]
  cases hg : car[y.toNat]? with
  | none => exact inF_zero
  | some z => exact hc z (List.mem_of_getElem? hg)
theorem atV_pre {n : TN6} (h : NetP n) {i : Nat} (hi : i < n.2.2.2.1.length) {ms car : List Int} (hc : car.length = i) (l : List Int) : atV n (edgeA n i) ms (car ++ l) = atV n (edgeA n i) ms car := by
 obtain ⟨e, he, ha, _⟩ := edgeA_ok h hi
 unfold atV
 split
 ·rfl
 ·refine List.map_congr_left fun x hx => ?_
  rw [ha] at hx
  obtain ⟨j, rfl, hj⟩ := into_lt h he hx
  rw [Int.toNat_natCast, List.getD_eq_getElem?_getD, List.getD_eq_getElem?_getD, List.getElem?_append_left (by omega)]
theorem carV_in {n : TN6} (h : NetP n) {ms es : List Int} (hm : okV n.1 (messN n) ms) (he : ∀ x ∈ es, inF n.1 x) : ∀ i, i ≤ n.2.2.2.1.length → ∀ x ∈ carV n ms es i, inF n.1 x := by
 intro i
 induction i with
 | zero => intro _ x hx; cases hx
 | succ i ih =>
  intro hi x hx
  have ih := ih (by omega)
  rcases List.mem_append.1 hx with hx | hx
  ·exact ih x hx
  ·simp only [List.mem_singleton] at hx
   subst hx
   refine inF_xor h.field (dotV_in h.field (edgeC_ok h (by omega)).2.2 (atV_in hm.2 ih)) ?_
   rw [List.getD_eq_getElem?_getD]
   cases hg : es[i]? with
   | none => exact inF_zero
   | some z => exact he z (List.mem_of_getElem? hg)
theorem carried_loop {n : TN6} (h : NetP n) {ms es : List Int} (hm : okV n.1 (messN n) ms) (he : ∀ x ∈ es, inF n.1 x) (hel : es.length = n.2.2.2.1.length) : ∀ m i, i + m = n.2.2.2.1.length →
  loopF (i_Net_carried_l3 ms es n.2.2.2.1 (n.2.2.2.1.length : Int) n) ((i : Int), carV n ms es i ++ List.replicate m 0) = some (carV n ms es n.2.2.2.1.length) := by
 intro m
 have hE := h.len
 induction m with
 | zero =>
  intro i hi
  have hi : i = n.2.2.2.1.length := hi
  rw [← hi]
  refine loopF_done ?_
  unfold i_Net_carried_l3
  rw [hi]
  rw [run_out]
  simp
  rfl
 | succ m ih =>
  intro i hi
  obtain ⟨e, he1, ha, he0, hel2⟩ := edgeA_ok h (i := i) (by omega)
  obtain ⟨hc1, hc2, hc3⟩ := edgeC_ok h (i := i) (by omega)
  have hci := carV_in h hm he i (by omega)
  have hlen := carV_len n ms es i
  have hmm := (mess_ok h).2.2
  rw [← ih (i + 1) (by omega)]
  refine loopF_step ?_
  have hee := List.getElem?_eq_getElem (show i < es.length by omega)
  have hin : ∀ x ∈ carV n ms es i ++ List.replicate (m + 1) (0 : Int), inF n.1 x := by
   intro x hx
   rcases List.mem_append.1 hx with hx | hx
   ·exact hci x hx
   ·rw [(List.mem_replicate.1 hx).2]; exact inF_zero
  have hat := inat_is h (node := e0 e) (ms := ms) (car := carV n ms es i ++ List.replicate (m + 1) 0) (by rw [hm.1]; omega) (by simp [hlen]; omega)
  rw [← ha] at hat
  have hlr := atV_len h (i := i) (by omega) (ms := ms) (car := carV n ms es i ++ List.replicate (m + 1) 0) hm.1
  have hcl : (edgeC n i).length ≤ 14 := by have := hasV_le n h.mess.2 h.len (edgeA n i); omega
  have hout : (carV n ms es i ++ List.replicate (m + 1) (0 : Int))[i]? = some 0 := by
   rw [List.getElem?_append_right (by omega), hlen, Nat.sub_self]; rfl
  unfold i_Net_carried_l3
  dsimp only
  rw [Tre.run_cond, decide_eq_true (by omega), cond_true, Tre.run_ite, if_pos (by omega), Int.toNat_natCast, run_some_mat he1, Tre.run_ite, if_pos (by rw [h.clen]; omega), run_some_mat hc1, Tre.run_ite, if_pos (by omega), run_some_mat he0, ← ha, run_some_mat hat]
  rw [run_some_mat (inner_is h.field (by rw [hlr]) (by omega) hc3 (atV_in hm.2 hin)), Tre.run_ite, if_pos (by omega), run_some_mat hee, Tre.run_ite, if_pos (by simp [hlen]; omega), run_some_mat hout, Tre.run_ret, iwrap_succ (by omega), atV_pre h (by omega) hlen]
  have : (carV n ms es i ++ List.replicate (m + 1) 0).set i (ixor .i64 (dotV n.1 (edgeC n i) (atV n (edgeA n i) ms (carV n ms es i))) es[i]) = carV n ms es (i + 1) ++ List.replicate m 0 := by
   rw [List.set_append_right _ _ (by omega), hlen, Nat.sub_self, show carV n ms es (i + 1) = carV n ms es i ++ [ixor .i64 (dotV n.1 (edgeC n i) (atV n (edgeA n i) ms (carV n ms es i))) (es.getD i 0)] from rfl, getD_of hee, List.append_assoc]
   rfl
  rw [this]
theorem carried_is {n : TN6} (h : NetP n) {ms es : List Int} (hm : okV n.1 (messN n) ms) (he : ∀ x ∈ es, inF n.1 x) (hel : es.length = n.2.2.2.1.length) : i_Net_carried_F n ms es = some (carriedV n ms es) := by
 have hE := h.len
 have hl := carried_loop h hm he hel n.2.2.2.1.length 0 (by omega)
 have hl : loopF (i_Net_carried_l3 ms es n.2.2.2.1 (n.2.2.2.1.length : Int) n) (0, List.replicate n.2.2.2.1.length 0) = some (carriedV n ms es) := by
  rw [show carV n ms es 0 = [] from rfl, List.nil_append] at hl
  exact hl
 unfold i_Net_carried_F i_Net_carried
 rw [Tre.run_ite, if_pos ⟨rfl, by omega, rfl, by omega, by decide⟩, Int.toNat_natCast, run_some_mat hl]
 rfl
noncomputable def i_Net_carried_V : Env := ⟨tau, [(89, i_Net_at_c), (134, i_Field_inner_c)], []⟩
noncomputable def i_Net_carried_b : Code := (Try.f90.body).getD .skip
noncomputable def i_Net_carried_l3_mk (z3_0 : Bool) (z3_1 : Bool) (z3_2 : Bool) (z3_3 : Bool) (h3_0_0 : (List Int)) (h3_0_1 : (List Int)) (h3_0_2 : (List (List Int))) (h3_0_3 : Int) (h3_0_5 : TNet) : (Int × (List Int)) → St := fun x => stOf [(1, (.imm z3_0 (.sl (.int .i64)) h3_0_0)), (2, (.imm z3_1 (.sl (.int .i64)) h3_0_1)), (3, (.ptr (5, 0) [])), (7, (.ref (9, 0) [])), (15, (.imm z3_2 (.sl (.sl (.int .i64))) h3_0_2)), (16, (.imm true (.int .i64) h3_0_3)), (17, (.imm true (.int .i64) x.1))] [((5, 0), some ⟨true, kNet, (.imm z3_3), h3_0_5⟩), ((9, 0), some ⟨false, (.sl (.int .i64)), .own, x.2⟩)]
noncomputable def i_Net_carried_l3_out (_z3_0 : Bool) (_z3_1 : Bool) (_z3_2 : Bool) (_z3_3 : Bool) (_h3_0_0 : (List Int)) (_h3_0_1 : (List Int)) (_h3_0_2 : (List (List Int))) (_h3_0_3 : Int) (_h3_0_5 : TNet) : (List Int) → Ex × St := fun x => (.exit 0, stOf [(7, (.ref (9, 0) []))] [((9, 0), some ⟨false, (.sl (.int .i64)), .own, x⟩)])
noncomputable def i_Net_carried_l3_D (s : St) : Tre (Ex × St) :=
 asImm (.sl (.int .i64)) (s.tmps 1) fun z3 d2 =>
 asImm (.sl (.int .i64)) (s.tmps 2) fun z6 d5 =>
 asPtr (5, 0) [] (s.tmps 3) <|
 asRef (9, 0) [] (s.tmps 7) <|
 asImm (.sl (.sl (.int .i64))) (s.tmps 15) fun z11 d10 =>
 asImmZ true (.int .i64) (s.tmps 16) fun d13 =>
 asImmZ true (.int .i64) (s.tmps 17) fun d15 =>
 asRoot true kNet (s.roots (5, 0)) fun m17 d18 =>
 asMImm m17 fun z19 =>
 asRoot false (.sl (.int .i64)) (s.roots (9, 0)) fun m21 d22 =>
 asM .own m21 <|
 .mat (loopF (i_Net_carried_l3 d2 d5 d10 d13 d18) (d15, d22)) fun x => .ret (i_Net_carried_l3_out z3 z6 z11 z19 d2 d5 d10 d13 d18 x)
noncomputable def i_Net_carried_l3_L : LoopI := ⟨([1, 2, 3, 7, 15, 16, 17], [(5, 0), (9, 0)]), ([7], [(9, 0)]), i_Net_carried_l3_D⟩
noncomputable def i_Net_carried_A : List (Nat × LoopI) := [(3, i_Net_carried_l3_L)]
set_option maxRecDepth 100000 in
theorem i_Net_carried_l3_step : ∀ (z3_0 : Bool) (z3_1 : Bool) (z3_2 : Bool) (z3_3 : Bool) (h3_0_0 : (List Int)) (h3_0_1 : (List Int)) (h3_0_2 : (List (List Int))) (h3_0_3 : Int) (h3_0_5 : TNet) (x : (Int × (List Int))) (c : St → Option (Ex × St)), den i_Net_carried_V i_Net_carried_A (loopAt i_Net_carried_b 0) (i_Net_carried_l3_mk z3_0 z3_1 z3_2 z3_3 h3_0_0 h3_0_1 h3_0_2 h3_0_3 h3_0_5 x) (roundK i_Net_carried_l3_L.kp i_Net_carried_l3_L.kx c) = (i_Net_carried_l3 h3_0_0 h3_0_1 h3_0_2 h3_0_3 h3_0_5 x).run (roundR (i_Net_carried_l3_mk z3_0 z3_1 z3_2 z3_3 h3_0_0 h3_0_1 h3_0_2 h3_0_3 h3_0_5) (i_Net_carried_l3_out z3_0 z3_1 z3_2 z3_3 h3_0_0 h3_0_1 h3_0_2 h3_0_3 h3_0_5) c) := fun _ _ _ _ _ _ _ _ _ _ _ => by
 kernel_rfl
theorem i_Net_carried_l3_ok : LoopOK i_Net_carried_V i_Net_carried_A (loopAt i_Net_carried_b 0) i_Net_carried_l3_L := loopOK_of fun s e s' h => by
 generalize hs : restrict i_Net_carried_l3_L.kp s = s1 at h
 have h : (i_Net_carried_l3_D s1).run some = some (e, s') := h
 obtain ⟨z3, d2, e1, h_0⟩ := asImm_spec h
 obtain ⟨z6, d5, e4, h_1⟩ := asImm_spec h_0
 obtain ⟨e7, h_2⟩ := asPtr_spec h_1
 obtain ⟨e8, h_3⟩ := asRef_spec h_2
 obtain ⟨z11, d10, e9, h_4⟩ := asImm_spec h_3
 obtain ⟨d13, e12, h_5⟩ := asImmZ_spec h_4
 obtain ⟨d15, e14, h_6⟩ := asImmZ_spec h_5
 obtain ⟨m17, d18, e16, h_7⟩ := asRoot_spec h_6
 obtain ⟨z19, rfl, h_8⟩ := asMImm_spec h_7
 obtain ⟨m21, d22, e20, h_9⟩ := asRoot_spec h_8
 obtain ⟨rfl, h_10⟩ := asM_spec h_9
 obtain ⟨y, hy, hz⟩ := mat_ret h_10
 refine ⟨_, _, i_Net_carried_l3_mk z3 z6 z11 z19 d2 d5 d10 d13 d18, i_Net_carried_l3_out z3 z6 z11 z19 d2 d5 d10 d13 d18, i_Net_carried_l3 d2 d5 d10 d13 d18, (d15, d22), y, ?_, hy, ?_, i_Net_carried_l3_step z3 z6 z11 z19 d2 d5 d10 d13 d18⟩
 ·subst hs; exact restrict_eq (T := [(1, (.imm z3 (.sl (.int .i64)) d2)), (2, (.imm z6 (.sl (.int .i64)) d5)), (3, (.ptr (5, 0) [])), (7, (.ref (9, 0) [])), (15, (.imm z11 (.sl (.sl (.int .i64))) d10)), (16, (.imm true (.int .i64) d13)), (17, (.imm true (.int .i64) d15))]) (U := [((5, 0), some ⟨true, kNet, (.imm z19), d18⟩), ((9, 0), some ⟨false, (.sl (.int .i64)), .own, d22⟩)]) rfl rfl ⟨e1, e4, e7, e8, e9, e12, e14, trivial⟩ ⟨e16, e20, trivial⟩
 ·exact Option.some.inj hz
noncomputable def i_Net_carried_I : FnI := ⟨i_Net_carried_b, Try.f90.results.toList, Try.f90.resultTypes.toList, i_Net_carried_A⟩
noncomputable def i_Net_carried_out (_zp0 : Bool) (_zp1 : Bool) (_zp2 : Bool) (_p0 : TNet) (_p1 : (List Int)) (_p2 : (List Int)) : (List Int) → CallOut := fun r => ⟨(.ref (1, 0) []), [], [⟨false, (.sl (.int .i64)), .own, r⟩]⟩
set_option maxRecDepth 100000 in
theorem i_Net_carried_eq : ∀ (zp0 : Bool) (zp1 : Bool) (zp2 : Bool) (p0 : TNet) (p1 : (List Int)) (p2 : (List Int)), denFn i_Net_carried_V i_Net_carried_I ⟨[(.imm zp0 kNet p0), (.imm zp1 (.sl (.int .i64)) p1), (.imm zp2 (.sl (.int .i64)) p2)], []⟩ = (i_Net_carried p0 p1 p2).run fun r => some (i_Net_carried_out zp0 zp1 zp2 p0 p1 p2 r) := fun _ _ _ _ _ _ => by kernel_rfl
noncomputable def i_Net_carried_G (av : List AV) (rs : List Root) : Tre CallOut :=
 asCons av fun a0_ av0 =>
 asCons av0 fun a1_ av1 =>
 asCons av1 fun a2_ av2 =>
 asEnd av2 <|
 asEnd rs <|
 asImm kNet a0_ fun z2 d1 =>
 asImm (.sl (.int .i64)) a1_ fun z4 d3 =>
 asImm (.sl (.int .i64)) a2_ fun z6 d5 =>
 .mat (i_Net_carried_F d1 d3 d5) fun r => .ret (i_Net_carried_out z2 z4 z6 d1 d3 d5 r)
noncomputable def i_Net_carried_c : Ctr := ⟨[], fun ci => i_Net_carried_G ci.args ci.roots, false⟩
theorem i_Net_carried_env : EnvOK Try.prog .none i_Net_carried_V := (envOK_cons i_Net_at_ok ent89 (envOK_cons i_Field_inner_ok ent134 envOK_nil))
set_option maxRecDepth 100000 in
theorem i_Net_carried_ok : Contract Try.prog .none 90 i_Net_carried_c := by
 have hl : LoopsOK i_Net_carried_V i_Net_carried_A i_Net_carried_b := (loopsOK_all (n := 1) (by kernel_rfl) fun k hk => by
   match k, hk with
   | 0, _ => exact loopOK_at (id := 3) (L := i_Net_carried_l3_L) (by kernel_rfl) (by kernel_rfl) i_Net_carried_l3_ok)
 refine (contract_of (F := i_Net_carried_I) tau_tys i_Net_carried_env Try.func90 (by kernel_rfl) (by kernel_rfl) (by kernel_rfl) hl []).weaken ?_
 rintro ⟨av, rs⟩ co h
 have h : (i_Net_carried_G av rs).run some = some co := h
 obtain ⟨a0_, av0, rfl, h_0⟩ := asCons_spec h
 obtain ⟨a1_, av1, rfl, h_1⟩ := asCons_spec h_0
 obtain ⟨a2_, av2, rfl, h_2⟩ := asCons_spec h_1
 obtain ⟨rfl, h_3⟩ := asEnd_spec h_2
 obtain ⟨rfl, h_4⟩ := asEnd_spec h_3
 obtain ⟨z2, d1, rfl, h_5⟩ := asImm_spec h_4
 obtain ⟨z4, d3, rfl, h_6⟩ := asImm_spec h_5
 obtain ⟨z6, d5, rfl, h_7⟩ := asImm_spec h_6
 exact fin_mat (i_Net_carried_eq z2 z4 z6 d1 d3 d5) h_7
end Go.Proofs.Ytkgekgfmnhccmaa

namespace Go.Proofs.Ytkgekgfmnhccmaa
open Go Go.Abs Go.Proofs
-- shared
def matV (E M : Nat) (g : Nat → Nat → Int) : List (List Int) := (List.range E).map fun i => (List.range M).map (g i)
theorem matV_get {E M : Nat} {g : Nat → Nat → Int} {i : Nat} (hi : i < E) : (matV E M g)[i]? = some ((List.range M).map (g i)) := by
 unfold matV
 rw [List.getElem?_map, List.getElem?_range hi]; rfl
theorem matV_none {E M : Nat} {g : Nat → Nat → Int} {i : Nat} (hi : ¬ i < E) : (matV E M g)[i]? = none := List.getElem?_eq_none (by unfold matV; simp; omega)
theorem matV_len {E M : Nat} {g : Nat → Nat → Int} : (matV E M g).length = E := by unfold matV; simp
theorem matV_congr {E M : Nat} {g h : Nat → Nat → Int} (H : ∀ i j, i < E → j < M → g i j = h i j) : matV E M g = matV E M h := by
 unfold matV
 refine List.map_congr_left fun i hi => List.map_congr_left fun j hj => H i j (List.mem_range.1 hi) (List.mem_range.1 hj)
theorem matV_set {E M : Nat} {g : Nat → Nat → Int} {i m : Nat} {x : Int} : (matV E M g).set i (((List.range M).map (g i)).set m x) = matV E M fun i' j => if i' = i ∧ j = m then x else g i' j := by
 apply List.ext_getElem?
 intro k
 rw [List.getElem?_set, matV_len]
 by_cases hk : k < E
 ·rw [matV_get hk, matV_get hk]
  split
  ·rename_i h; subst h
   rw [if_pos hk]
   congr 1
   apply List.ext_getElem?
   intro j
   rw [List.getElem?_set, List.getElem?_map, List.getElem?_map]
   by_cases hj : j < M
   ·rw [List.getElem?_range hj]
    split
    ·rename_i h; subst h; simp [hj]
    ·rename_i h; simp [Ne.symm h]
   ·rw [List.getElem?_eq_none (by simp; omega)]
    split
    ·rename_i h; subst h; simp [hj]
    ·rfl
  ·rename_i h
   congr 1
   refine List.map_congr_left fun j _ => ?_
   rw [if_neg (fun hh => h hh.1.symm)]
 ·rw [matV_none hk, matV_none hk]
  split
  ·rename_i h; subst h; rw [if_neg hk]
  ·rfl
theorem matV_zero {E M : Nat} : List.replicate E (List.replicate M (0 : Int)) = matV E M fun _ _ => 0 := by
 unfold matV
 apply List.ext_getElem?
 intro k
 rw [List.getElem?_map, List.getElem?_replicate]
 by_cases hk : k < E
 ·rw [if_pos hk, List.getElem?_range hk]
  simp only [Option.map_some]
  congr 1
  apply List.ext_getElem?
  intro j
  rw [List.getElem?_map, List.getElem?_replicate]
  by_cases hj : j < M
  ·rw [if_pos hj, List.getElem?_range hj]; rfl
  ·rw [if_neg hj, List.getElem?_eq_none (by simp; omega)]; rfl
 ·rw [if_neg hk, List.getElem?_eq_none (by simp; omega)]; rfl
theorem mat_vectors {n : TN6} (h : NetP n) : (matV n.2.2.2.1.length (messN n) fun i j => (carriedV n (unitV (messN n) j) (List.replicate n.2.2.2.1.length 0)).getD i 0) = vectorsV n := by
 apply List.ext_getElem?
 intro i
 by_cases hi : i < n.2.2.2.1.length
 ·rw [matV_get hi]
  obtain ⟨v, hv, hvl, hvf⟩ := vectorsV_ok h hi
  have hv2 := vecsV_get n n.2.2.2.1.length i hi
  rw [show vecsV n n.2.2.2.1.length = vectorsV n from rfl, hv] at hv2
  rw [hv]
  congr 1
  apply List.ext_getElem?
  intro j
  rw [List.getElem?_map]
  by_cases hj : j < messN n
  ·rw [List.getElem?_range hj]
   simp only [Option.map_some]
   have hl := car_lin h (unitV_ok h.field (messN n) j) i hi n.2.2.2.1.length hi
   rw [show carV n (unitV (messN n) j) (List.replicate n.2.2.2.1.length 0) n.2.2.2.1.length = carriedV n (unitV (messN n) j) (List.replicate n.2.2.2.1.length 0) from rfl] at hl
   rw [getD_of hl, ← Option.some.inj hv2, dotV_comm h.field hvf (unitV_ok h.field _ _).2, dotV_unit h.field (messN n) j hvf hvl.symm hj]
   rw [List.getD_eq_getElem?_getD, List.getElem?_eq_getElem (by omega)]
   rfl
  ·rw [List.getElem?_eq_none (by simp; omega), List.getElem?_eq_none (by omega)]; rfl
 ·rw [matV_none hi, List.getElem?_eq_none (by rw [vectorsV_len]; omega)]
end Go.Proofs.Ytkgekgfmnhccmaa

namespace Go.Proofs.Ytkgekgfmnhccmaa
open Go Go.Abs Go.Proofs
noncomputable def i_Net_vectors_l3 (h3_0_0 : Int) (h3_0_2 : TNet) : (Int × (List (List Int))) → Tre ((Int × (List (List Int))) ⊕ (List (List Int))) := fun s3 =>
 .cond (decide (s3.1 < h3_0_0))
  (.ite (((.int .i64) : K) = (.int .i64) ∧ 0 ≤ h3_0_2.2.2.1 ∧ h3_0_2.2.2.1 = h3_0_2.2.2.1 ∧ h3_0_2.2.2.1 * (8 : Nat) ≤ 140737488355328 ∧ 1 ≤ 8) <|
  .ite (0 ≤ s3.1 ∧ s3.1 < (s3.2.length : Int)) <|
  .mat (s3.2[s3.1.toNat]?) fun _ =>
  let v2 := s3.2.set s3.1.toNat (List.replicate h3_0_2.2.2.1.toNat (0 : Int))
  .ret (.inl (iwrap .i64 (s3.1 + 1), v2)))
  (.ret (.inr s3.2))
noncomputable def i_Net_vectors_l11 (h11_0_0 : Int) (h11_0_3 : Int) (h11_0_7 : (List Int)) : (Int × (List (List Int))) → Tre ((Int × (List (List Int))) ⊕ (List (List Int))) := fun s11 =>
 .cond (decide (s11.1 < h11_0_3))
  (.ite (0 ≤ s11.1 ∧ s11.1 < (h11_0_7.length : Int)) <|
  .mat (h11_0_7[s11.1.toNat]?) fun x6 =>
  .ite (0 ≤ s11.1 ∧ s11.1 < (s11.2.length : Int)) <|
  .mat (s11.2[s11.1.toNat]?) fun _ =>
  .mat (s11.2[s11.1.toNat]?) fun x8 =>
  .ite (0 ≤ h11_0_0 ∧ h11_0_0 < (x8.length : Int)) <|
  .mat (s11.2[s11.1.toNat]?) fun x9 =>
  .mat (x9[h11_0_0.toNat]?) fun _ =>
  let v11 := s11.2.set s11.1.toNat (x9.set h11_0_0.toNat x6)
  .ret (.inl (iwrap .i64 (s11.1 + 1), v11)))
  (.ret (.inr s11.2))
noncomputable def i_Net_vectors_l8 (h8_0_0 : Int) (h8_0_2 : TNet) : (Int × (List (List Int))) → Tre ((Int × (List (List Int))) ⊕ (List (List Int))) := fun s8 =>
 .cond (decide (s8.1 < h8_0_0))
  (.mat (i_unit_F h8_0_2.2.2.1 s8.1) fun r4 =>
  .ite (((.int .i64) : K) = (.int .i64) ∧ 0 ≤ (h8_0_2.2.2.2.1.length : Int) ∧ (h8_0_2.2.2.2.1.length : Int) = (h8_0_2.2.2.2.1.length : Int) ∧ (h8_0_2.2.2.2.1.length : Int) * (8 : Nat) ≤ 140737488355328 ∧ 1 ≤ 8) <|
  .mat (i_Net_carried_F h8_0_2 r4 (List.replicate (h8_0_2.2.2.2.1.length : Int).toNat (0 : Int))) fun r5 =>
  .mat (loopF (i_Net_vectors_l11 s8.1 (r5.length : Int) r5) (0, s8.2)) fun l12 =>
  .ret (.inl (iwrap .i64 (s8.1 + 1), l12)))
  (.ret (.inr s8.2))
noncomputable def i_Net_vectors (p0 : TNet) : Tre (List (List Int)) :=
 .ite (((.sl (.int .i64)) : K) = (.sl (.int .i64)) ∧ 0 ≤ (p0.2.2.2.1.length : Int) ∧ (p0.2.2.2.1.length : Int) = (p0.2.2.2.1.length : Int) ∧ (p0.2.2.2.1.length : Int) * (24 : Nat) ≤ 140737488355328 ∧ 1 ≤ 24) <|
 .mat (loopF (i_Net_vectors_l3 ((List.replicate (p0.2.2.2.1.length : Int).toNat ([] : (List Int))).length : Int) p0) (0, List.replicate (p0.2.2.2.1.length : Int).toNat ([] : (List Int)))) fun l3 =>
 .mat (loopF (i_Net_vectors_l8 p0.2.2.1 p0) (0, l3)) fun l13 =>
 .ret l13
noncomputable def i_Net_vectors_F (p0 : TNet) : Option (List (List Int)) := (i_Net_vectors p0).run some
-- more
theorem vectors_rows {n : TN6} (h : NetP n) : ∀ m i, i + m = n.2.2.2.1.length →
  loopF (i_Net_vectors_l3 (n.2.2.2.1.length : Int) n) ((i : Int), List.replicate i (List.replicate (messN n) 0) ++ List.replicate m []) = some (matV n.2.2.2.1.length (messN n) fun _ _ => 0) := by
 have hE := h.len
 obtain ⟨hm1, hm2, hm3⟩ := mess_ok h
 intro m
 induction m with
 | zero =>
  intro i hi
  have hi : i = n.2.2.2.1.length := hi
  rw [← hi]
  refine loopF_done ?_
  unfold i_Net_vectors_l3
  rw [run_out]
  simp [matV_zero]
  rfl
 | succ m ih =>
  intro i hi
  rw [← ih (i + 1) (by omega)]
  refine loopF_step ?_
  have hg : (List.replicate i (List.replicate (messN n) (0 : Int)) ++ List.replicate (m + 1) [])[i]? = some [] := by
   rw [List.getElem?_append_right (by simp), List.length_replicate, Nat.sub_self]; rfl
  unfold i_Net_vectors_l3
  dsimp only
  rw [Tre.run_cond, decide_eq_true (by omega), cond_true, Tre.run_ite, if_pos ⟨rfl, by omega, rfl, by omega, by decide⟩, Tre.run_ite, if_pos (by simp; omega), Int.toNat_natCast, run_some_mat hg, Tre.run_ret, iwrap_succ (by omega)]
  have : (List.replicate i (List.replicate (messN n) (0 : Int)) ++ List.replicate (m + 1) []).set i (List.replicate n.2.2.1.toNat 0) = List.replicate (i + 1) (List.replicate (messN n) 0) ++ List.replicate m [] := by
   rw [List.set_append_right _ _ (by simp), List.length_replicate, Nat.sub_self, List.replicate_succ' (n := i), List.append_assoc]
   rfl
  rw [this]
theorem vectors_col {E M m : Nat} (hE : E ≤ 14) (hm : m < M) {car : List Int} (hc : car.length = E) {g : Nat → Nat → Int} : ∀ k i, i + k = E →
  loopF (i_Net_vectors_l11 (m : Int) (car.length : Int) car) ((i : Int), matV E M fun i' j => if i' < i ∧ j = m then car.getD i' 0 else g i' j) = some (matV E M fun i' j => if j = m then car.getD i' 0 else g i' j) := by
 intro k
 induction k with
 | zero =>
  intro i hi
  have hi : i = E := hi
  subst hi
  refine loopF_done ?_
  unfold i_Net_vectors_l11
  rw [hc, run_out, Tre.run_ret]
  have : matV i M (fun i' j => if i' < i ∧ j = m then car.getD i' 0 else g i' j) = matV i M fun i' j => if j = m then car.getD i' 0 else g i' j := matV_congr fun i' j h1 _ => by simp [h1]
  rw [this]
 | succ k ih =>
  intro i hi
  rw [← ih (i + 1) (by omega)]
  refine loopF_step ?_
  have hx := List.getElem?_eq_getElem (show i < car.length by omega)
  have hr := matV_get (E := E) (M := M) (g := fun i' j => if i' < i ∧ j = m then car.getD i' 0 else g i' j) (i := i) (by omega)
  obtain ⟨y, hy⟩ : ∃ y, ((List.range M).map fun j => if i < i ∧ j = m then car.getD i 0 else g i j)[m]? = some y := ⟨_, List.getElem?_eq_getElem (by simpa using hm)⟩
  unfold i_Net_vectors_l11
  dsimp only
  rw [Tre.run_cond, decide_eq_true (by omega), cond_true, Tre.run_ite, if_pos (by omega), Int.toNat_natCast, run_some_mat hx, Tre.run_ite, if_pos (by rw [matV_len]; omega), run_some_mat hr, run_some_mat hr, Tre.run_ite, if_pos (by simp; omega), run_some_mat hr, Int.toNat_natCast, run_some_mat hy, Tre.run_ret, iwrap_succ (by omega)]
  rw [matV_set (g := fun i' j => if i' < i ∧ j = m then car.getD i' 0 else g i' j)]
  refine congrArg (fun z => some (Sum.inl (((i + 1 : Nat) : Int), z))) (matV_congr fun i' j h1 h2 => ?_)
  by_cases hj : j = m
  ·by_cases hi' : i' = i
   ·subst hi'; rw [if_pos ⟨rfl, hj⟩, if_pos ⟨by omega, hj⟩, getD_of hx]
   ·rw [if_neg (fun hh => hi' hh.1)]
    by_cases hlt : i' < i
    ·rw [if_pos ⟨hlt, hj⟩, if_pos ⟨by omega, hj⟩]
    ·rw [if_neg (fun hh => hlt hh.1), if_neg (fun hh => by omega)]
  ·rw [if_neg (fun hh => hj hh.2), if_neg (fun hh => hj hh.2), if_neg (fun hh => hj hh.2)]
theorem vectors_loop {n : TN6} (h : NetP n) : ∀ k m, m + k = messN n →
  loopF (i_Net_vectors_l8 n.2.2.1 n) ((m : Int), matV n.2.2.2.1.length (messN n) fun i j => if j < m then (carriedV n (unitV (messN n) j) (List.replicate n.2.2.2.1.length 0)).getD i 0 else 0) = some (vectorsV n) := by
 have hE := h.len
 obtain ⟨hm1, hm2, hm3⟩ := mess_ok h
 intro k
 induction k with
 | zero =>
  intro m hm
  have hm : m = messN n := hm
  rw [← mat_vectors h]
  refine loopF_done ?_
  unfold i_Net_vectors_l8
  rw [hm, hm1, run_out, Tre.run_ret]
  refine congrArg (fun z => some (Sum.inr z)) (matV_congr fun i j h1 h2 => ?_)
  rw [if_pos h2]
 | succ k ih =>
  intro m hm
  rw [← ih (m + 1) (by omega)]
  refine loopF_step ?_
  have hcar := carried_is h (unitV_ok h.field (messN n) m) (es := List.replicate n.2.2.2.1.length 0) (fun x hx => by rw [(List.mem_replicate.1 hx).2]; exact inF_zero) (by simp)
  have hcl : (carriedV n (unitV (messN n) m) (List.replicate n.2.2.2.1.length 0)).length = n.2.2.2.1.length := carV_len ..
  have hcol := vectors_col (E := n.2.2.2.1.length) (M := messN n) (m := m) h.len (by omega) hcl (g := fun i j => if j < m then (carriedV n (unitV (messN n) j) (List.replicate n.2.2.2.1.length 0)).getD i 0 else 0) n.2.2.2.1.length 0 (by omega)
  have hcol2 : matV n.2.2.2.1.length (messN n) (fun i' j => if i' < 0 ∧ j = m then (carriedV n (unitV (messN n) m) (List.replicate n.2.2.2.1.length 0)).getD i' 0 else if j < m then (carriedV n (unitV (messN n) j) (List.replicate n.2.2.2.1.length 0)).getD i' 0 else 0) = matV n.2.2.2.1.length (messN n) fun i j => if j < m then (carriedV n (unitV (messN n) j) (List.replicate n.2.2.2.1.length 0)).getD i 0 else 0 := matV_congr fun i j _ _ => by rw [if_neg (fun hh => by omega)]
  rw [hcol2] at hcol
  have hcol : loopF (i_Net_vectors_l11 (m : Int) _ _) (0, _) = _ := hcol
  unfold i_Net_vectors_l8
  dsimp only
  rw [Tre.run_cond, decide_eq_true (by omega), cond_true, hm1, run_some_mat (iunit_is (by omega) (by omega)), Tre.run_ite, if_pos ⟨rfl, by omega, rfl, by omega, by decide⟩, Int.toNat_natCast, run_some_mat hcar, run_some_mat hcol, Tre.run_ret, iwrap_succ (by omega)]
  refine congrArg (fun z => some (Sum.inl (((m + 1 : Nat) : Int), z))) (matV_congr fun i j h1 h2 => ?_)
  by_cases hj : j = m
  ·subst hj; rw [if_pos rfl, if_pos (by omega)]
  ·rw [if_neg hj]
   by_cases hlt : j < m
   ·rw [if_pos hlt, if_pos (by omega)]
   ·rw [if_neg hlt, if_neg (by omega)]
theorem vectors_is {n : TN6} (h : NetP n) : i_Net_vectors_F n = some (vectorsV n) := by
 have hE := h.len
 have h1 := vectors_rows h n.2.2.2.1.length 0 (by omega)
 have h1 : loopF (i_Net_vectors_l3 (n.2.2.2.1.length : Int) n) (0, List.replicate n.2.2.2.1.length []) = some (matV n.2.2.2.1.length (messN n) fun _ _ => 0) := h1
 have h2 := vectors_loop h (messN n) 0 (by omega)
 have h3 : matV n.2.2.2.1.length (messN n) (fun i j => if j < 0 then (carriedV n (unitV (messN n) j) (List.replicate n.2.2.2.1.length 0)).getD i 0 else 0) = matV n.2.2.2.1.length (messN n) fun _ _ => 0 := matV_congr fun i j _ _ => by rw [if_neg (by omega)]
 rw [h3] at h2
 have h2 : loopF (i_Net_vectors_l8 n.2.2.1 n) (0, _) = _ := h2
 unfold i_Net_vectors_F i_Net_vectors
 rw [Tre.run_ite, if_pos ⟨rfl, by omega, rfl, by omega, by decide⟩]
 simp only [Int.toNat_natCast, List.length_replicate]
 rw [run_some_mat h1, run_some_mat h2]
 rfl
noncomputable def i_Net_vectors_V : Env := ⟨tau, [(94, i_unit_c), (90, i_Net_carried_c)], []⟩
noncomputable def i_Net_vectors_b : Code := (Try.f43.body).getD .skip
noncomputable def i_Net_vectors_l3_mk (z3_0 : Bool) (h3_0_0 : Int) (h3_0_2 : TNet) : (Int × (List (List Int))) → St := fun x => stOf [(1, (.ptr (3, 0) [])), (3, (.ref (5, 0) [])), (13, (.imm true (.int .i64) h3_0_0)), (14, (.imm true (.int .i64) x.1))] [((3, 0), some ⟨true, kNet, (.imm z3_0), h3_0_2⟩), ((5, 0), some ⟨false, (.sl (.sl (.int .i64))), .own, x.2⟩)]
noncomputable def i_Net_vectors_l3_out (z3_0 : Bool) (_h3_0_0 : Int) (h3_0_2 : TNet) : (List (List Int)) → Ex × St := fun x => (.exit 0, stOf [(1, (.ptr (3, 0) [])), (3, (.ref (5, 0) []))] [((3, 0), some ⟨true, kNet, (.imm z3_0), h3_0_2⟩), ((5, 0), some ⟨false, (.sl (.sl (.int .i64))), .own, x⟩)])
noncomputable def i_Net_vectors_l3_D (s : St) : Tre (Ex × St) :=
 asPtr (3, 0) [] (s.tmps 1) <|
 asRef (5, 0) [] (s.tmps 3) <|
 asImmZ true (.int .i64) (s.tmps 13) fun d4 =>
 asImmZ true (.int .i64) (s.tmps 14) fun d6 =>
 asRoot true kNet (s.roots (3, 0)) fun m8 d9 =>
 asMImm m8 fun z10 =>
 asRoot false (.sl (.sl (.int .i64))) (s.roots (5, 0)) fun m12 d13 =>
 asM .own m12 <|
 .mat (loopF (i_Net_vectors_l3 d4 d9) (d6, d13)) fun x => .ret (i_Net_vectors_l3_out z10 d4 d9 x)
noncomputable def i_Net_vectors_l3_L : LoopI := ⟨([1, 3, 13, 14], [(3, 0), (5, 0)]), ([1, 3], [(3, 0), (5, 0)]), i_Net_vectors_l3_D⟩
noncomputable def i_Net_vectors_l11_mk (z11_0 : Bool) (h11_0_0 : Int) (h11_0_1 : Int) (h11_0_2 : Int) (h11_0_3 : Int) (h11_0_5 : TNet) (h11_0_7 : (List Int)) : (Int × (List (List Int))) → St := fun x => stOf [(1, (.ptr (3, 0) [])), (3, (.ref (5, 0) [])), (5, (.imm true (.int .i64) h11_0_0)), (25, (.imm true (.int .i64) h11_0_1)), (26, (.imm true (.int .i64) h11_0_2)), (38, (.ref (40, 0) [])), (39, (.imm true (.int .i64) h11_0_3)), (40, (.imm true (.int .i64) x.1))] [((3, 0), some ⟨true, kNet, (.imm z11_0), h11_0_5⟩), ((5, 0), some ⟨false, (.sl (.sl (.int .i64))), .own, x.2⟩), ((40, 0), some ⟨false, (.sl (.int .i64)), .own, h11_0_7⟩)]
noncomputable def i_Net_vectors_l11_out (z11_0 : Bool) (_h11_0_0 : Int) (h11_0_1 : Int) (h11_0_2 : Int) (_h11_0_3 : Int) (h11_0_5 : TNet) (_h11_0_7 : (List Int)) : (List (List Int)) → Ex × St := fun x => (.exit 4, stOf [(1, (.ptr (3, 0) [])), (3, (.ref (5, 0) [])), (25, (.imm true (.int .i64) h11_0_1)), (26, (.imm true (.int .i64) h11_0_2))] [((3, 0), some ⟨true, kNet, (.imm z11_0), h11_0_5⟩), ((5, 0), some ⟨false, (.sl (.sl (.int .i64))), .own, x⟩)])
noncomputable def i_Net_vectors_l11_D (s : St) : Tre (Ex × St) :=
 asPtr (3, 0) [] (s.tmps 1) <|
 asRef (5, 0) [] (s.tmps 3) <|
 asImmZ true (.int .i64) (s.tmps 5) fun d4 =>
 asImmZ true (.int .i64) (s.tmps 25) fun d6 =>
 asImmZ true (.int .i64) (s.tmps 26) fun d8 =>
 asRef (40, 0) [] (s.tmps 38) <|
 asImmZ true (.int .i64) (s.tmps 39) fun d11 =>
 asImmZ true (.int .i64) (s.tmps 40) fun d13 =>
 asRoot true kNet (s.roots (3, 0)) fun m15 d16 =>
 asMImm m15 fun z17 =>
 asRoot false (.sl (.sl (.int .i64))) (s.roots (5, 0)) fun m19 d20 =>
 asM .own m19 <|
 asRoot false (.sl (.int .i64)) (s.roots (40, 0)) fun m22 d23 =>
 asM .own m22 <|
 .mat (loopF (i_Net_vectors_l11 d4 d11 d23) (d13, d20)) fun x => .ret (i_Net_vectors_l11_out z17 d4 d6 d8 d11 d16 d23 x)
noncomputable def i_Net_vectors_l11_L : LoopI := ⟨([1, 3, 5, 25, 26, 38, 39, 40], [(3, 0), (5, 0), (40, 0)]), ([1, 3, 25, 26], [(3, 0), (5, 0)]), i_Net_vectors_l11_D⟩
noncomputable def i_Net_vectors_l8_mk (z8_0 : Bool) (h8_0_0 : Int) (h8_0_2 : TNet) : (Int × (List (List Int))) → St := fun x => stOf [(1, (.ptr (3, 0) [])), (3, (.ref (5, 0) [])), (25, (.imm true (.int .i64) h8_0_0)), (26, (.imm true (.int .i64) x.1))] [((3, 0), some ⟨true, kNet, (.imm z8_0), h8_0_2⟩), ((5, 0), some ⟨false, (.sl (.sl (.int .i64))), .own, x.2⟩)]
noncomputable def i_Net_vectors_l8_out (_z8_0 : Bool) (_h8_0_0 : Int) (_h8_0_2 : TNet) : (List (List Int)) → Ex × St := fun x => (.exit 2, stOf [(3, (.ref (5, 0) []))] [((5, 0), some ⟨false, (.sl (.sl (.int .i64))), .own, x⟩)])
noncomputable def i_Net_vectors_l8_D (s : St) : Tre (Ex × St) :=
 asPtr (3, 0) [] (s.tmps 1) <|
 asRef (5, 0) [] (s.tmps 3) <|
 asImmZ true (.int .i64) (s.tmps 25) fun d4 =>
 asImmZ true (.int .i64) (s.tmps 26) fun d6 =>
 asRoot true kNet (s.roots (3, 0)) fun m8 d9 =>
 asMImm m8 fun z10 =>
 asRoot false (.sl (.sl (.int .i64))) (s.roots (5, 0)) fun m12 d13 =>
 asM .own m12 <|
 .mat (loopF (i_Net_vectors_l8 d4 d9) (d6, d13)) fun x => .ret (i_Net_vectors_l8_out z10 d4 d9 x)
noncomputable def i_Net_vectors_l8_L : LoopI := ⟨([1, 3, 25, 26], [(3, 0), (5, 0)]), ([3], [(5, 0)]), i_Net_vectors_l8_D⟩
noncomputable def i_Net_vectors_A : List (Nat × LoopI) := [(3, i_Net_vectors_l3_L), (11, i_Net_vectors_l11_L), (8, i_Net_vectors_l8_L)]
set_option maxRecDepth 100000 in
theorem i_Net_vectors_l3_step : ∀ (z3_0 : Bool) (h3_0_0 : Int) (h3_0_2 : TNet) (x : (Int × (List (List Int)))) (c : St → Option (Ex × St)), den i_Net_vectors_V i_Net_vectors_A (loopAt i_Net_vectors_b 0) (i_Net_vectors_l3_mk z3_0 h3_0_0 h3_0_2 x) (roundK i_Net_vectors_l3_L.kp i_Net_vectors_l3_L.kx c) = (i_Net_vectors_l3 h3_0_0 h3_0_2 x).run (roundR (i_Net_vectors_l3_mk z3_0 h3_0_0 h3_0_2) (i_Net_vectors_l3_out z3_0 h3_0_0 h3_0_2) c) := fun _ _ _ _ _ => by
 kernel_rfl
theorem i_Net_vectors_l3_ok : LoopOK i_Net_vectors_V i_Net_vectors_A (loopAt i_Net_vectors_b 0) i_Net_vectors_l3_L := loopOK_of fun s e s' h => by
 generalize hs : restrict i_Net_vectors_l3_L.kp s = s1 at h
 have h : (i_Net_vectors_l3_D s1).run some = some (e, s') := h
 obtain ⟨e1, h_0⟩ := asPtr_spec h
 obtain ⟨e2, h_1⟩ := asRef_spec h_0
 obtain ⟨d4, e3, h_2⟩ := asImmZ_spec h_1
 obtain ⟨d6, e5, h_3⟩ := asImmZ_spec h_2
 obtain ⟨m8, d9, e7, h_4⟩ := asRoot_spec h_3
 obtain ⟨z10, rfl, h_5⟩ := asMImm_spec h_4
 obtain ⟨m12, d13, e11, h_6⟩ := asRoot_spec h_5
 obtain ⟨rfl, h_7⟩ := asM_spec h_6
 obtain ⟨y, hy, hz⟩ := mat_ret h_7
 refine ⟨_, _, i_Net_vectors_l3_mk z10 d4 d9, i_Net_vectors_l3_out z10 d4 d9, i_Net_vectors_l3 d4 d9, (d6, d13), y, ?_, hy, ?_, i_Net_vectors_l3_step z10 d4 d9⟩
 ·subst hs; exact restrict_eq (T := [(1, (.ptr (3, 0) [])), (3, (.ref (5, 0) [])), (13, (.imm true (.int .i64) d4)), (14, (.imm true (.int .i64) d6))]) (U := [((3, 0), some ⟨true, kNet, (.imm z10), d9⟩), ((5, 0), some ⟨false, (.sl (.sl (.int .i64))), .own, d13⟩)]) rfl rfl ⟨e1, e2, e3, e5, trivial⟩ ⟨e7, e11, trivial⟩
 ·exact Option.some.inj hz
set_option maxRecDepth 100000 in
theorem i_Net_vectors_l11_step : ∀ (z11_0 : Bool) (h11_0_0 : Int) (h11_0_1 : Int) (h11_0_2 : Int) (h11_0_3 : Int) (h11_0_5 : TNet) (h11_0_7 : (List Int)) (x : (Int × (List (List Int)))) (c : St → Option (Ex × St)), den i_Net_vectors_V i_Net_vectors_A (loopAt i_Net_vectors_b 2) (i_Net_vectors_l11_mk z11_0 h11_0_0 h11_0_1 h11_0_2 h11_0_3 h11_0_5 h11_0_7 x) (roundK i_Net_vectors_l11_L.kp i_Net_vectors_l11_L.kx c) = (i_Net_vectors_l11 h11_0_0 h11_0_3 h11_0_7 x).run (roundR (i_Net_vectors_l11_mk z11_0 h11_0_0 h11_0_1 h11_0_2 h11_0_3 h11_0_5 h11_0_7) (i_Net_vectors_l11_out z11_0 h11_0_0 h11_0_1 h11_0_2 h11_0_3 h11_0_5 h11_0_7) c) := fun _ _ _ _ _ _ _ _ _ => by
 kernel_rfl
theorem i_Net_vectors_l11_ok : LoopOK i_Net_vectors_V i_Net_vectors_A (loopAt i_Net_vectors_b 2) i_Net_vectors_l11_L := loopOK_of fun s e s' h => by
 generalize hs : restrict i_Net_vectors_l11_L.kp s = s1 at h
 have h : (i_Net_vectors_l11_D s1).run some = some (e, s') := h
 obtain ⟨e1, h_0⟩ := asPtr_spec h
 obtain ⟨e2, h_1⟩ := asRef_spec h_0
 obtain ⟨d4, e3, h_2⟩ := asImmZ_spec h_1
 obtain ⟨d6, e5, h_3⟩ := asImmZ_spec h_2
 obtain ⟨d8, e7, h_4⟩ := asImmZ_spec h_3
 obtain ⟨e9, h_5⟩ := asRef_spec h_4
 obtain ⟨d11, e10, h_6⟩ := asImmZ_spec h_5
 obtain ⟨d13, e12, h_7⟩ := asImmZ_spec h_6
 obtain ⟨m15, d16, e14, h_8⟩ := asRoot_spec h_7
 obtain ⟨z17, rfl, h_9⟩ := asMImm_spec h_8
 obtain ⟨m19, d20, e18, h_10⟩ := asRoot_spec h_9
 obtain ⟨rfl, h_11⟩ := asM_spec h_10
 obtain ⟨m22, d23, e21, h_12⟩ := asRoot_spec h_11
 obtain ⟨rfl, h_13⟩ := asM_spec h_12
 obtain ⟨y, hy, hz⟩ := mat_ret h_13
 refine ⟨_, _, i_Net_vectors_l11_mk z17 d4 d6 d8 d11 d16 d23, i_Net_vectors_l11_out z17 d4 d6 d8 d11 d16 d23, i_Net_vectors_l11 d4 d11 d23, (d13, d20), y, ?_, hy, ?_, i_Net_vectors_l11_step z17 d4 d6 d8 d11 d16 d23⟩
 ·subst hs; exact restrict_eq (T := [(1, (.ptr (3, 0) [])), (3, (.ref (5, 0) [])), (5, (.imm true (.int .i64) d4)), (25, (.imm true (.int .i64) d6)), (26, (.imm true (.int .i64) d8)), (38, (.ref (40, 0) [])), (39, (.imm true (.int .i64) d11)), (40, (.imm true (.int .i64) d13))]) (U := [((3, 0), some ⟨true, kNet, (.imm z17), d16⟩), ((5, 0), some ⟨false, (.sl (.sl (.int .i64))), .own, d20⟩), ((40, 0), some ⟨false, (.sl (.int .i64)), .own, d23⟩)]) rfl rfl ⟨e1, e2, e3, e5, e7, e9, e10, e12, trivial⟩ ⟨e14, e18, e21, trivial⟩
 ·exact Option.some.inj hz
set_option maxRecDepth 100000 in
theorem i_Net_vectors_l8_step : ∀ (z8_0 : Bool) (h8_0_0 : Int) (h8_0_2 : TNet) (x : (Int × (List (List Int)))) (c : St → Option (Ex × St)), den i_Net_vectors_V i_Net_vectors_A (loopAt i_Net_vectors_b 1) (i_Net_vectors_l8_mk z8_0 h8_0_0 h8_0_2 x) (roundK i_Net_vectors_l8_L.kp i_Net_vectors_l8_L.kx c) = (i_Net_vectors_l8 h8_0_0 h8_0_2 x).run (roundR (i_Net_vectors_l8_mk z8_0 h8_0_0 h8_0_2) (i_Net_vectors_l8_out z8_0 h8_0_0 h8_0_2) c) := fun _ _ _ _ _ => by
 kernel_rfl
theorem i_Net_vectors_l8_ok : LoopOK i_Net_vectors_V i_Net_vectors_A (loopAt i_Net_vectors_b 1) i_Net_vectors_l8_L := loopOK_of fun s e s' h => by
 generalize hs : restrict i_Net_vectors_l8_L.kp s = s1 at h
 have h : (i_Net_vectors_l8_D s1).run some = some (e, s') := h
 obtain ⟨e1, h_0⟩ := asPtr_spec h
 obtain ⟨e2, h_1⟩ := asRef_spec h_0
 obtain ⟨d4, e3, h_2⟩ := asImmZ_spec h_1
 obtain ⟨d6, e5, h_3⟩ := asImmZ_spec h_2
 obtain ⟨m8, d9, e7, h_4⟩ := asRoot_spec h_3
 obtain ⟨z10, rfl, h_5⟩ := asMImm_spec h_4
 obtain ⟨m12, d13, e11, h_6⟩ := asRoot_spec h_5
 obtain ⟨rfl, h_7⟩ := asM_spec h_6
 obtain ⟨y, hy, hz⟩ := mat_ret h_7
 refine ⟨_, _, i_Net_vectors_l8_mk z10 d4 d9, i_Net_vectors_l8_out z10 d4 d9, i_Net_vectors_l8 d4 d9, (d6, d13), y, ?_, hy, ?_, i_Net_vectors_l8_step z10 d4 d9⟩
 ·subst hs; exact restrict_eq (T := [(1, (.ptr (3, 0) [])), (3, (.ref (5, 0) [])), (25, (.imm true (.int .i64) d4)), (26, (.imm true (.int .i64) d6))]) (U := [((3, 0), some ⟨true, kNet, (.imm z10), d9⟩), ((5, 0), some ⟨false, (.sl (.sl (.int .i64))), .own, d13⟩)]) rfl rfl ⟨e1, e2, e3, e5, trivial⟩ ⟨e7, e11, trivial⟩
 ·exact Option.some.inj hz
noncomputable def i_Net_vectors_I : FnI := ⟨i_Net_vectors_b, Try.f43.results.toList, Try.f43.resultTypes.toList, i_Net_vectors_A⟩
noncomputable def i_Net_vectors_out (_zp0 : Bool) (_p0 : TNet) : (List (List Int)) → CallOut := fun r => ⟨(.ref (1, 0) []), [], [⟨false, (.sl (.sl (.int .i64))), .own, r⟩]⟩
set_option maxRecDepth 100000 in
theorem i_Net_vectors_eq : ∀ (zp0 : Bool) (p0 : TNet), denFn i_Net_vectors_V i_Net_vectors_I ⟨[(.imm zp0 kNet p0)], []⟩ = (i_Net_vectors p0).run fun r => some (i_Net_vectors_out zp0 p0 r) := fun _ _ => by kernel_rfl
noncomputable def i_Net_vectors_G (av : List AV) (rs : List Root) : Tre CallOut :=
 asCons av fun a0_ av0 =>
 asEnd av0 <|
 asEnd rs <|
 asImm kNet a0_ fun z2 d1 =>
 .mat (i_Net_vectors_F d1) fun r => .ret (i_Net_vectors_out z2 d1 r)
noncomputable def i_Net_vectors_c : Ctr := ⟨[], fun ci => i_Net_vectors_G ci.args ci.roots, false⟩
theorem i_Net_vectors_env : EnvOK Try.prog .none i_Net_vectors_V := (envOK_cons i_unit_ok ent94 (envOK_cons i_Net_carried_ok ent90 envOK_nil))
set_option maxRecDepth 100000 in
theorem i_Net_vectors_ok : Contract Try.prog .none 43 i_Net_vectors_c := by
 have hl : LoopsOK i_Net_vectors_V i_Net_vectors_A i_Net_vectors_b := (loopsOK_all (n := 3) (by kernel_rfl) fun k hk => by
   match k, hk with
   | 0, _ => exact loopOK_at (id := 3) (L := i_Net_vectors_l3_L) (by kernel_rfl) (by kernel_rfl) i_Net_vectors_l3_ok
   | 1, _ => exact loopOK_at (id := 8) (L := i_Net_vectors_l8_L) (by kernel_rfl) (by kernel_rfl) i_Net_vectors_l8_ok
   | 2, _ => exact loopOK_at (id := 11) (L := i_Net_vectors_l11_L) (by kernel_rfl) (by kernel_rfl) i_Net_vectors_l11_ok)
 refine (contract_of (F := i_Net_vectors_I) tau_tys i_Net_vectors_env Try.func43 (by kernel_rfl) (by kernel_rfl) (by kernel_rfl) hl []).weaken ?_
 rintro ⟨av, rs⟩ co h
 have h : (i_Net_vectors_G av rs).run some = some co := h
 obtain ⟨a0_, av0, rfl, h_0⟩ := asCons_spec h
 obtain ⟨rfl, h_1⟩ := asEnd_spec h_0
 obtain ⟨rfl, h_2⟩ := asEnd_spec h_1
 obtain ⟨z2, d1, rfl, h_3⟩ := asImm_spec h_2
 exact fin_mat (i_Net_vectors_eq z2 d1) h_3
end Go.Proofs.Ytkgekgfmnhccmaa

namespace Go.Proofs.Ytkgekgfmnhccmaa
open Go Go.Abs Go.Proofs
noncomputable def i_Net_rows_l4 (h4_0_0 : Int) (h4_0_2 : TNet) : (Int × (List (List Int))) → Tre ((Int × (List (List Int))) ⊕ (List (List Int))) := fun s4 =>
 .cond (decide (s4.1 < h4_0_0))
  (.mat (i_unit_F h4_0_2.2.2.1 s4.1) fun r1 =>
  .ite ((s4.2.length + 1) * 24 ≤ appendMax ∧ 1 ≤ 24) <|
  .ret (.inl (iwrap .i64 (s4.1 + 1), s4.2 ++ ([r1]))))
  (.ret (.inr s4.2))
noncomputable def i_Net_rows_l11 (h11_0_0 : Int) (h11_0_3 : (List (List Int))) (h11_0_4 : (List Int)) : (Int × (List (List Int))) → Tre ((Int × (List (List Int))) ⊕ (List (List Int))) := fun s11 =>
 .cond (decide (s11.1 < h11_0_0))
  (.ite (0 ≤ s11.1 ∧ s11.1 < (h11_0_4.length : Int)) <|
  .mat (h11_0_4[s11.1.toNat]?) fun x5 =>
  .ite (0 ≤ x5 ∧ x5 < (h11_0_3.length : Int)) <|
  .mat (h11_0_3[x5.toNat]?) fun x6 =>
  .ite ((s11.2.length + 1) * 24 ≤ appendMax ∧ 1 ≤ 24) <|
  .ret (.inl (iwrap .i64 (s11.1 + 1), s11.2 ++ ([x6]))))
  (.ret (.inr s11.2))
noncomputable def i_Net_rows (p0 : TNet) (p1 : Int) : Tre ((List (List Int)) ⊕ (List (List Int))) :=
 .cond (decide (p1 = 0))
  (.mat (loopF (i_Net_rows_l4 p0.2.2.1 p0) (0, [])) fun l2 =>
  .ret (.inl l2))
  (.mat (i_Net_vectors_F p0) fun r3 =>
  .mat (i_Net_into_F p0 p1) fun r4 =>
  .mat (loopF (i_Net_rows_l11 (r4.length : Int) r3 r4) (0, [])) fun l7 =>
  .ret (.inr l7))
noncomputable def i_Net_rows_F (p0 : TNet) (p1 : Int) : Option ((List (List Int)) ⊕ (List (List Int))) := (i_Net_rows p0 p1).run some
-- more
theorem irows_is {n : TN6} (h : NetP n) (node : Int) : i_Net_rows_F n node = some (if node = 0 then .inl (rowsV n node) else .inr (rowsV n node)) := by
 have hE := h.len
 have hil := intoV_len n.2.2.2.1 node
 obtain ⟨hm1, hm2, hm3⟩ := mess_ok h
 unfold i_Net_rows_F i_Net_rows rowsV
 rw [Tre.run_cond]
 by_cases h0 : node = 0
 ·rw [decide_eq_true h0, cond_true, if_pos h0, if_pos h0]
  have key := fold_loop (xs := List.range (messN n)) (step := i_Net_rows_l4 n.2.2.1 n) (γ := List (List Int)) (fun (i : Nat) acc => ((i : Int), acc)) (fun _ acc k => .inl (acc ++ [unitV (messN n) k])) id (fun i acc => acc.length = i) (by
   intro i acc x hx hi
   have hlt := (List.getElem?_eq_some_iff.1 hx).1
   rw [List.length_range] at hlt
   rw [List.getElem?_range hlt] at hx
   cases hx
   refine ⟨?_, fun a ha => ?_⟩
   ·unfold i_Net_rows_l4
    dsimp only
    rw [Tre.run_cond, decide_eq_true (by omega), cond_true, hm1, run_some_mat (iunit_is hlt (by omega)), Tre.run_ite, if_pos (by unfold appendMax; omega), Tre.run_ret, iwrap_succ (by omega)]
   ·cases ha; simp [hi]) (by
   intro acc _
   unfold i_Net_rows_l4
   dsimp only
   rw [Tre.run_cond, decide_eq_false (by rw [List.length_range]; omega), cond_false]
   rfl) _ 0 [] rfl (Nat.zero_le _) rfl
  rw [foldE_app] at key
  have key : loopF (i_Net_rows_l4 n.2.2.1 n) (0, []) = some ((List.range (messN n)).map (unitV (messN n))) := key
  rw [run_some_mat key]
  rfl
 ·rw [decide_eq_false h0, cond_false, if_neg h0, if_neg h0, run_some_mat (vectors_is h), run_some_mat (i_Net_into_is n h.len h.two2 node)]
  have key := fold_loop (xs := intoV n.2.2.2.1 node) (step := i_Net_rows_l11 ((intoV n.2.2.2.1 node).length : Int) (vectorsV n) (intoV n.2.2.2.1 node)) (γ := List (List Int)) (fun (i : Nat) acc => ((i : Int), acc)) (fun _ acc x => .inl (acc ++ [(vectorsV n).getD x.toNat []])) id (fun i acc => acc.length = i) (by
   intro i acc x hx hi
   have hlt := (List.getElem?_eq_some_iff.1 hx).1
   obtain ⟨j, rfl, hj⟩ := into_all h (List.mem_of_getElem? hx)
   obtain ⟨v, hv, _⟩ := vectorsV_ok h hj
   have hvl := vectorsV_len n
   refine ⟨?_, fun a ha => ?_⟩
   ·unfold i_Net_rows_l11
    dsimp only
    rw [Tre.run_cond, decide_eq_true (by omega), cond_true, Tre.run_ite, if_pos (by omega), Int.toNat_natCast, run_some_mat hx, Tre.run_ite, if_pos (by omega), Int.toNat_natCast, run_some_mat hv, Tre.run_ite, if_pos (by unfold appendMax; omega), Tre.run_ret, iwrap_succ (by omega), getD_of hv]
   ·cases ha; simp [hi]) (by
   intro acc _
   unfold i_Net_rows_l11
   dsimp only
   rw [Tre.run_cond, decide_eq_false (by omega), cond_false]
   rfl) _ 0 [] rfl (Nat.zero_le _) rfl
  rw [foldE_app] at key
  have key : loopF (i_Net_rows_l11 ((intoV n.2.2.2.1 node).length : Int) (vectorsV n) (intoV n.2.2.2.1 node)) (0, []) = some ((intoV n.2.2.2.1 node).map fun x => (vectorsV n).getD x.toNat []) := key
  rw [run_some_mat key]
  rfl
noncomputable def i_Net_rows_V : Env := ⟨tau, [(94, i_unit_c), (43, i_Net_vectors_c), (102, i_Net_into_c)], [(10, [((9, 0), [], true), ((7, 0), [], true)])]⟩
noncomputable def i_Net_rows_b : Code := (Try.f56.body).getD .skip
noncomputable def i_Net_rows_l4_mk (z4_0 : Bool) (h4_0_0 : Int) (h4_0_2 : TNet) : (Int × (List (List Int))) → St := fun x => stOf [(2, (.ptr (4, 0) [])), (5, (.ref (7, 0) [])), (14, (.imm true (.int .i64) h4_0_0)), (15, (.imm true (.int .i64) x.1))] [((4, 0), some ⟨true, kNet, (.imm z4_0), h4_0_2⟩), ((7, 0), some ⟨false, (.sl (.sl (.int .i64))), .own, x.2⟩)]
noncomputable def i_Net_rows_l4_out (_z4_0 : Bool) (_h4_0_0 : Int) (_h4_0_2 : TNet) : (List (List Int)) → Ex × St := fun x => (.exit 0, stOf [(5, (.ref (7, 0) []))] [((7, 0), some ⟨false, (.sl (.sl (.int .i64))), .own, x⟩)])
noncomputable def i_Net_rows_l4_D (s : St) : Tre (Ex × St) :=
 asPtr (4, 0) [] (s.tmps 2) <|
 asRef (7, 0) [] (s.tmps 5) <|
 asImmZ true (.int .i64) (s.tmps 14) fun d4 =>
 asImmZ true (.int .i64) (s.tmps 15) fun d6 =>
 asRoot true kNet (s.roots (4, 0)) fun m8 d9 =>
 asMImm m8 fun z10 =>
 asRoot false (.sl (.sl (.int .i64))) (s.roots (7, 0)) fun m12 d13 =>
 asM .own m12 <|
 .mat (loopF (i_Net_rows_l4 d4 d9) (d6, d13)) fun x => .ret (i_Net_rows_l4_out z10 d4 d9 x)
noncomputable def i_Net_rows_l4_L : LoopI := ⟨([2, 5, 14, 15], [(4, 0), (7, 0)]), ([5], [(7, 0)]), i_Net_rows_l4_D⟩
noncomputable def i_Net_rows_l11_mk (h11_0_0 : Int) (h11_0_3 : (List (List Int))) (h11_0_4 : (List Int)) : (Int × (List (List Int))) → St := fun x => stOf [(5, (.ref (7, 0) [])), (7, (.ref (9, 0) [])), (31, (.ref (33, 0) [])), (32, (.imm true (.int .i64) h11_0_0)), (33, (.imm true (.int .i64) x.1))] [((7, 0), some ⟨false, (.sl (.sl (.int .i64))), (.sl (.imm true)), x.2⟩), ((9, 0), some ⟨false, (.sl (.sl (.int .i64))), (.sl (.imm true)), h11_0_3⟩), ((33, 0), some ⟨false, (.sl (.int .i64)), .own, h11_0_4⟩)]
noncomputable def i_Net_rows_l11_out (_h11_0_0 : Int) (_h11_0_3 : (List (List Int))) (_h11_0_4 : (List Int)) : (List (List Int)) → Ex × St := fun x => (.exit 2, stOf [(5, (.ref (7, 0) []))] [((7, 0), some ⟨false, (.sl (.sl (.int .i64))), (.sl (.imm true)), x⟩)])
noncomputable def i_Net_rows_l11_D (s : St) : Tre (Ex × St) :=
 asRef (7, 0) [] (s.tmps 5) <|
 asRef (9, 0) [] (s.tmps 7) <|
 asRef (33, 0) [] (s.tmps 31) <|
 asImmZ true (.int .i64) (s.tmps 32) fun d5 =>
 asImmZ true (.int .i64) (s.tmps 33) fun d7 =>
 asRoot false (.sl (.sl (.int .i64))) (s.roots (7, 0)) fun m9 d10 =>
 asM (.sl (.imm true)) m9 <|
 asRoot false (.sl (.sl (.int .i64))) (s.roots (9, 0)) fun m12 d13 =>
 asM (.sl (.imm true)) m12 <|
 asRoot false (.sl (.int .i64)) (s.roots (33, 0)) fun m15 d16 =>
 asM .own m15 <|
 .mat (loopF (i_Net_rows_l11 d5 d13 d16) (d7, d10)) fun x => .ret (i_Net_rows_l11_out d5 d13 d16 x)
noncomputable def i_Net_rows_l11_L : LoopI := ⟨([5, 7, 31, 32, 33], [(7, 0), (9, 0), (33, 0)]), ([5], [(7, 0)]), i_Net_rows_l11_D⟩
noncomputable def i_Net_rows_A : List (Nat × LoopI) := [(4, i_Net_rows_l4_L), (11, i_Net_rows_l11_L)]
set_option maxRecDepth 100000 in
theorem i_Net_rows_l4_step : ∀ (z4_0 : Bool) (h4_0_0 : Int) (h4_0_2 : TNet) (x : (Int × (List (List Int)))) (c : St → Option (Ex × St)), den i_Net_rows_V i_Net_rows_A (loopAt i_Net_rows_b 0) (i_Net_rows_l4_mk z4_0 h4_0_0 h4_0_2 x) (roundK i_Net_rows_l4_L.kp i_Net_rows_l4_L.kx c) = (i_Net_rows_l4 h4_0_0 h4_0_2 x).run (roundR (i_Net_rows_l4_mk z4_0 h4_0_0 h4_0_2) (i_Net_rows_l4_out z4_0 h4_0_0 h4_0_2) c) := fun _ _ _ _ _ => by
 kernel_rfl
theorem i_Net_rows_l4_ok : LoopOK i_Net_rows_V i_Net_rows_A (loopAt i_Net_rows_b 0) i_Net_rows_l4_L := loopOK_of fun s e s' h => by
 generalize hs : restrict i_Net_rows_l4_L.kp s = s1 at h
 have h : (i_Net_rows_l4_D s1).run some = some (e, s') := h
 obtain ⟨e1, h_0⟩ := asPtr_spec h
 obtain ⟨e2, h_1⟩ := asRef_spec h_0
 obtain ⟨d4, e3, h_2⟩ := asImmZ_spec h_1
 obtain ⟨d6, e5, h_3⟩ := asImmZ_spec h_2
 obtain ⟨m8, d9, e7, h_4⟩ := asRoot_spec h_3
 obtain ⟨z10, rfl, h_5⟩ := asMImm_spec h_4
 obtain ⟨m12, d13, e11, h_6⟩ := asRoot_spec h_5
 obtain ⟨rfl, h_7⟩ := asM_spec h_6
 obtain ⟨y, hy, hz⟩ := mat_ret h_7
 refine ⟨_, _, i_Net_rows_l4_mk z10 d4 d9, i_Net_rows_l4_out z10 d4 d9, i_Net_rows_l4 d4 d9, (d6, d13), y, ?_, hy, ?_, i_Net_rows_l4_step z10 d4 d9⟩
 ·subst hs; exact restrict_eq (T := [(2, (.ptr (4, 0) [])), (5, (.ref (7, 0) [])), (14, (.imm true (.int .i64) d4)), (15, (.imm true (.int .i64) d6))]) (U := [((4, 0), some ⟨true, kNet, (.imm z10), d9⟩), ((7, 0), some ⟨false, (.sl (.sl (.int .i64))), .own, d13⟩)]) rfl rfl ⟨e1, e2, e3, e5, trivial⟩ ⟨e7, e11, trivial⟩
 ·exact Option.some.inj hz
set_option maxRecDepth 100000 in
theorem i_Net_rows_l11_step : ∀ (h11_0_0 : Int) (h11_0_3 : (List (List Int))) (h11_0_4 : (List Int)) (x : (Int × (List (List Int)))) (c : St → Option (Ex × St)), den i_Net_rows_V i_Net_rows_A (loopAt i_Net_rows_b 1) (i_Net_rows_l11_mk h11_0_0 h11_0_3 h11_0_4 x) (roundK i_Net_rows_l11_L.kp i_Net_rows_l11_L.kx c) = (i_Net_rows_l11 h11_0_0 h11_0_3 h11_0_4 x).run (roundR (i_Net_rows_l11_mk h11_0_0 h11_0_3 h11_0_4) (i_Net_rows_l11_out h11_0_0 h11_0_3 h11_0_4) c) := fun _ _ _ _ _ => by
 kernel_rfl
theorem i_Net_rows_l11_ok : LoopOK i_Net_rows_V i_Net_rows_A (loopAt i_Net_rows_b 1) i_Net_rows_l11_L := loopOK_of fun s e s' h => by
 generalize hs : restrict i_Net_rows_l11_L.kp s = s1 at h
 have h : (i_Net_rows_l11_D s1).run some = some (e, s') := h
 obtain ⟨e1, h_0⟩ := asRef_spec h
 obtain ⟨e2, h_1⟩ := asRef_spec h_0
 obtain ⟨e3, h_2⟩ := asRef_spec h_1
 obtain ⟨d5, e4, h_3⟩ := asImmZ_spec h_2
 obtain ⟨d7, e6, h_4⟩ := asImmZ_spec h_3
 obtain ⟨m9, d10, e8, h_5⟩ := asRoot_spec h_4
 obtain ⟨rfl, h_6⟩ := asM_spec h_5
 obtain ⟨m12, d13, e11, h_7⟩ := asRoot_spec h_6
 obtain ⟨rfl, h_8⟩ := asM_spec h_7
 obtain ⟨m15, d16, e14, h_9⟩ := asRoot_spec h_8
 obtain ⟨rfl, h_10⟩ := asM_spec h_9
 obtain ⟨y, hy, hz⟩ := mat_ret h_10
 refine ⟨_, _, i_Net_rows_l11_mk d5 d13 d16, i_Net_rows_l11_out d5 d13 d16, i_Net_rows_l11 d5 d13 d16, (d7, d10), y, ?_, hy, ?_, i_Net_rows_l11_step d5 d13 d16⟩
 ·subst hs; exact restrict_eq (T := [(5, (.ref (7, 0) [])), (7, (.ref (9, 0) [])), (31, (.ref (33, 0) [])), (32, (.imm true (.int .i64) d5)), (33, (.imm true (.int .i64) d7))]) (U := [((7, 0), some ⟨false, (.sl (.sl (.int .i64))), (.sl (.imm true)), d10⟩), ((9, 0), some ⟨false, (.sl (.sl (.int .i64))), (.sl (.imm true)), d13⟩), ((33, 0), some ⟨false, (.sl (.int .i64)), .own, d16⟩)]) rfl rfl ⟨e1, e2, e3, e4, e6, trivial⟩ ⟨e8, e11, e14, trivial⟩
 ·exact Option.some.inj hz
noncomputable def i_Net_rows_I : FnI := ⟨i_Net_rows_b, Try.f56.results.toList, Try.f56.resultTypes.toList, i_Net_rows_A⟩
noncomputable def i_Net_rows_out (_zp0 : Bool) (_p0 : TNet) (_p1 : Int) : ((List (List Int)) ⊕ (List (List Int))) → CallOut
 | .inl r => ⟨(.ref (1, 0) []), [], [⟨false, (.sl (.sl (.int .i64))), .own, r⟩]⟩
 | .inr r => ⟨(.ref (1, 0) []), [], [⟨false, (.sl (.sl (.int .i64))), (.sl (.imm true)), r⟩]⟩
set_option maxRecDepth 100000 in
theorem i_Net_rows_eq : ∀ (zp0 : Bool) (p0 : TNet) (p1 : Int), denFn i_Net_rows_V i_Net_rows_I ⟨[(.imm zp0 kNet p0), (.imm true (.int .i64) p1)], []⟩ = (i_Net_rows p0 p1).run fun r => some (i_Net_rows_out zp0 p0 p1 r) := fun _ _ _ => by kernel_rfl
noncomputable def i_Net_rows_G (av : List AV) (rs : List Root) : Tre CallOut :=
 asCons av fun a0_ av0 =>
 asCons av0 fun a1_ av1 =>
 asEnd av1 <|
 asEnd rs <|
 asImm kNet a0_ fun z2 d1 =>
 asImmZ true (.int .i64) a1_ fun d3 =>
 .mat (i_Net_rows_F d1 d3) fun r => .alt r (fun a0 => .ret (i_Net_rows_out z2 d1 d3 (.inl a0))) (fun b0 => .ret (i_Net_rows_out z2 d1 d3 (.inr b0)))
noncomputable def i_Net_rows_c : Ctr := ⟨[], fun ci => i_Net_rows_G ci.args ci.roots, false⟩
theorem i_Net_rows_env : EnvOK Try.prog .none i_Net_rows_V := (envOK_cons i_unit_ok ent94 (envOK_cons i_Net_vectors_ok ent43 (envOK_cons i_Net_into_ok ent102 envOK_nil)))
set_option maxRecDepth 100000 in
theorem i_Net_rows_ok : Contract Try.prog .none 56 i_Net_rows_c := by
 have hl : LoopsOK i_Net_rows_V i_Net_rows_A i_Net_rows_b := (loopsOK_all (n := 2) (by kernel_rfl) fun k hk => by
   match k, hk with
   | 0, _ => exact loopOK_at (id := 4) (L := i_Net_rows_l4_L) (by kernel_rfl) (by kernel_rfl) i_Net_rows_l4_ok
   | 1, _ => exact loopOK_at (id := 11) (L := i_Net_rows_l11_L) (by kernel_rfl) (by kernel_rfl) i_Net_rows_l11_ok)
 refine (contract_of (F := i_Net_rows_I) tau_tys i_Net_rows_env Try.func56 (by kernel_rfl) (by kernel_rfl) (by kernel_rfl) hl []).weaken ?_
 rintro ⟨av, rs⟩ co h
 have h : (i_Net_rows_G av rs).run some = some co := h
 obtain ⟨a0_, av0, rfl, h_0⟩ := asCons_spec h
 obtain ⟨a1_, av1, rfl, h_1⟩ := asCons_spec h_0
 obtain ⟨rfl, h_2⟩ := asEnd_spec h_1
 obtain ⟨rfl, h_3⟩ := asEnd_spec h_2
 obtain ⟨z2, d1, rfl, h_4⟩ := asImm_spec h_3
 obtain ⟨d3, rfl, h_5⟩ := asImmZ_spec h_4
 exact fin_mats (i_Net_rows_eq z2 d1 d3) h_5 (by rintro (x | x) <;> rfl)
end Go.Proofs.Ytkgekgfmnhccmaa

namespace Go.Proofs.Ytkgekgfmnhccmaa
open Go Go.Abs Go.Proofs
noncomputable def i_Field_reducec1_a994 (p0 : (List Int)) (p1 : Int) : Tre Bool :=
 .ite (0 ≤ p1 ∧ p1 < (p0.length : Int)) <|
 .mat (p0[p1.toNat]?) fun x1 =>
 .ret (!decide (x1 = 0))
noncomputable def i_Field_reducec1_a994_F (p0 : (List Int)) (p1 : Int) : Option Bool := (i_Field_reducec1_a994 p0 p1).run some
-- more
theorem rc1_is {r : List Int} {c : Nat} (h : c < r.length) : i_Field_reducec1_a994_F r (c : Int) = some (nzAt c r) := by
 unfold i_Field_reducec1_a994_F i_Field_reducec1_a994
 have hx := List.getElem?_eq_getElem h
 rw [Tre.run_ite, if_pos ⟨by omega, by omega⟩, Int.toNat_natCast, run_some_mat hx, Tre.run_ret]
 unfold nzAt
 rw [hx]
noncomputable def i_Field_reducec1_a994_V : Env := ⟨tau, [], []⟩
noncomputable def i_Field_reducec1_a994_b : Code := (Try.f107.body).getD .skip
noncomputable def i_Field_reducec1_a994_I : FnI := ⟨i_Field_reducec1_a994_b, Try.f107.results.toList, Try.f107.resultTypes.toList, []⟩
noncomputable def i_Field_reducec1_a994_out (_zp0 : Bool) (_p0 : (List Int)) (p1 : Int) : Bool → CallOut := fun r => ⟨(.imm true .bool r), [⟨true, (.int .i64), .own, p1⟩], []⟩
set_option maxRecDepth 100000 in
theorem i_Field_reducec1_a994_eq : ∀ (zp0 : Bool) (p0 : (List Int)) (p1 : Int), denFn i_Field_reducec1_a994_V i_Field_reducec1_a994_I ⟨[(.imm zp0 (.sl (.int .i64)) p0), (.ptr (0, 0) [])], [⟨true, (.int .i64), .own, p1⟩]⟩ = (i_Field_reducec1_a994 p0 p1).run fun r => some (i_Field_reducec1_a994_out zp0 p0 p1 r) := fun _ _ _ => by kernel_rfl
noncomputable def i_Field_reducec1_a994_G (av : List AV) (rs : List Root) : Tre CallOut :=
 asCons av fun a0_ av0 =>
 asCons av0 fun a1_ av1 =>
 asEnd av1 <|
 asCons rs fun r0_ rs0 =>
 asEnd rs0 <|
 asImm (.sl (.int .i64)) a0_ fun z2 d1 =>
 asPtr (0, 0) [] a1_ <|
 asRt true (.int .i64) r0_ fun m3 d4 =>
 asM .own m3 <|
 .mat (i_Field_reducec1_a994_F d1 d4) fun r => .ret (i_Field_reducec1_a994_out z2 d1 d4 r)
noncomputable def i_Field_reducec1_a994_c : Ctr := ⟨[], fun ci => i_Field_reducec1_a994_G ci.args ci.roots, false⟩
theorem i_Field_reducec1_a994_env : EnvOK Try.prog .none i_Field_reducec1_a994_V := envOK_nil
set_option maxRecDepth 100000 in
theorem i_Field_reducec1_a994_ok : Contract Try.prog .none 107 i_Field_reducec1_a994_c := by
 have hl : LoopsOK i_Field_reducec1_a994_V [] i_Field_reducec1_a994_b := loopsOK_nil (by kernel_rfl)
 refine (contract_of (F := i_Field_reducec1_a994_I) tau_tys i_Field_reducec1_a994_env Try.func107 (by kernel_rfl) (by kernel_rfl) (by kernel_rfl) hl []).weaken ?_
 rintro ⟨av, rs⟩ co h
 have h : (i_Field_reducec1_a994_G av rs).run some = some co := h
 obtain ⟨a0_, av0, rfl, h_0⟩ := asCons_spec h
 obtain ⟨a1_, av1, rfl, h_1⟩ := asCons_spec h_0
 obtain ⟨rfl, h_2⟩ := asEnd_spec h_1
 obtain ⟨r0_, rs0, rfl, h_3⟩ := asCons_spec h_2
 obtain ⟨rfl, h_4⟩ := asEnd_spec h_3
 obtain ⟨z2, d1, rfl, h_5⟩ := asImm_spec h_4
 obtain ⟨rfl, h_6⟩ := asPtr_spec h_5
 obtain ⟨m3, d4, rfl, h_7⟩ := asRt_spec h_6
 obtain ⟨rfl, h_8⟩ := asM_spec h_7
 exact fin_mat (i_Field_reducec1_a994_eq z2 d1 d4) h_8
end Go.Proofs.Ytkgekgfmnhccmaa

namespace Go.Proofs.Ytkgekgfmnhccmaa
open Go Go.Abs Go.Proofs
noncomputable def nm1_l2 (h2_0_0 : (List (List Int))) (h2_0_1 : Int) (h2_0_3 : Int) : Int → Tre (Int ⊕ (Int ⊕ Unit)) := fun s2 =>
 .cond (decide (s2 < h2_0_1))
  (.ite (0 ≤ s2 ∧ s2 < (h2_0_0.length : Int)) <|
  .mat (h2_0_0[s2.toNat]?) fun x1 =>
  .mat (i_Field_reducec1_a994_F x1 h2_0_3) fun r2 =>
  .cond r2
   (.ret (.inr (.inl s2)))
   (.ret (.inl (iwrap .i64 (s2 + 1)))))
  (.ret (.inr (.inr ())))
noncomputable def nm1 (p0 : (List (List Int))) (p1 : Int) : Tre Int :=
 .mat (loopF (nm1_l2 p0 (p0.length : Int) p1) 0) fun l3 =>
 .alt l3
  (fun a4 =>
   .ret a4)
  (fun _ =>
   .ret (-1))
noncomputable def nm1_F (p0 : (List (List Int))) (p1 : Int) : Option Int := (nm1 p0 p1).run some
-- more
theorem ridx_is {xs : List (List Int)} {c : Nat} (hc : ∀ r ∈ xs, c < r.length) (hl : xs.length ≤ 1048576) : nm1_F xs (c : Int) = some (idxI (nzAt c) 0 xs) := by
 unfold nm1_F nm1
 rw [Tre.run_mat, find_loop (xs := xs) (fun i x => cond (nzAt c x) (some (.inl (i : Int))) none) (.inr ())]
 ·rw [Option.bind_some, ← findE_idx (p := fun x => nzAt c x)]
  generalize findE _ _ _ _ = r
  cases r <;> rfl
 ·intro i x hx
  have hi : i < xs.length := (List.getElem?_eq_some_iff.1 hx).1
  unfold nm1_l2
  rw [run_inb hx, run_some_mat (rc1_is (hc x (List.mem_of_getElem? hx))), Tre.run_cond]
  cases nzAt c x
  ·simp only [cond_false, Tre.run_ret, iwrap_succ (show i < 4611686018427387904 by omega)]
  ·rfl
 ·unfold nm1_l2
  exact run_out
noncomputable def nm1_V : Env := ⟨tau, [(107, i_Field_reducec1_a994_c)], []⟩
noncomputable def nm1_b : Code := (Try.f106.body).getD .skip
noncomputable def nm1_l2_mk (z2_0 : Bool) (h2_0_0 : (List (List Int))) (h2_0_1 : Int) (h2_0_3 : Int) : Int → St := fun x => stOf [(0, (.imm z2_0 (.sl (.sl (.int .i64))) h2_0_0)), (1, (.fn 107 [(0, 0)])), (7, (.imm true (.int .i64) h2_0_1)), (8, (.imm true (.int .i64) x))] [((0, 0), some ⟨true, (.int .i64), .own, h2_0_3⟩)]
noncomputable def nm1_l2_out (_z2_0 : Bool) (_h2_0_0 : (List (List Int))) (_h2_0_1 : Int) (h2_0_3 : Int) : (Int ⊕ Unit) → Ex × St
 | .inl x => (.ret, stOf [(4, (.imm true (.int .i64) x))] [((0, 0), some ⟨true, (.int .i64), .own, h2_0_3⟩)])
 | .inr x => (.exit 0, stOf [(4, .dead)] [((0, 0), some ⟨true, (.int .i64), .own, h2_0_3⟩)])
noncomputable def nm1_l2_D (s : St) : Tre (Ex × St) :=
 asImm (.sl (.sl (.int .i64))) (s.tmps 0) fun z3 d2 =>
 asFn 107 [(0, 0)] (s.tmps 1) <|
 asImmZ true (.int .i64) (s.tmps 7) fun d6 =>
 asImmZ true (.int .i64) (s.tmps 8) fun d8 =>
 asRoot true (.int .i64) (s.roots (0, 0)) fun m10 d11 =>
 asM .own m10 <|
 .mat (loopF (nm1_l2 d2 d6 d11) d8) fun x => .alt x (fun a0 => .ret (nm1_l2_out z3 d2 d6 d11 (.inl a0))) (fun b0 => .ret (nm1_l2_out z3 d2 d6 d11 (.inr b0)))
noncomputable def nm1_l2_L : LoopI := ⟨([0, 1, 7, 8], [(0, 0)]), ([4], [(0, 0)]), nm1_l2_D⟩
noncomputable def nm1_A : List (Nat × LoopI) := [(2, nm1_l2_L)]
set_option maxRecDepth 100000 in
theorem nm1_l2_step : ∀ (z2_0 : Bool) (h2_0_0 : (List (List Int))) (h2_0_1 : Int) (h2_0_3 : Int) (x : Int) (c : St → Option (Ex × St)), den nm1_V nm1_A (loopAt nm1_b 0) (nm1_l2_mk z2_0 h2_0_0 h2_0_1 h2_0_3 x) (roundK nm1_l2_L.kp nm1_l2_L.kx c) = (nm1_l2 h2_0_0 h2_0_1 h2_0_3 x).run (roundR (nm1_l2_mk z2_0 h2_0_0 h2_0_1 h2_0_3) (nm1_l2_out z2_0 h2_0_0 h2_0_1 h2_0_3) c) := fun _ _ _ _ _ _ => by
 kernel_rfl
theorem nm1_l2_ok : LoopOK nm1_V nm1_A (loopAt nm1_b 0) nm1_l2_L := loopOK_of fun s e s' h => by
 generalize hs : restrict nm1_l2_L.kp s = s1 at h
 have h : (nm1_l2_D s1).run some = some (e, s') := h
 obtain ⟨z3, d2, e1, h_0⟩ := asImm_spec h
 obtain ⟨e4, h_1⟩ := asFn_spec h_0
 obtain ⟨d6, e5, h_2⟩ := asImmZ_spec h_1
 obtain ⟨d8, e7, h_3⟩ := asImmZ_spec h_2
 obtain ⟨m10, d11, e9, h_4⟩ := asRoot_spec h_3
 obtain ⟨rfl, h_5⟩ := asM_spec h_4
 obtain ⟨y, hy, hz⟩ := mat_some h_5
 refine ⟨_, _, nm1_l2_mk z3 d2 d6 d11, nm1_l2_out z3 d2 d6 d11, nm1_l2 d2 d6 d11, d8, y, ?_, hy, ?_, nm1_l2_step z3 d2 d6 d11⟩
 ·subst hs; exact restrict_eq (T := [(0, (.imm z3 (.sl (.sl (.int .i64))) d2)), (1, (.fn 107 [(0, 0)])), (7, (.imm true (.int .i64) d6)), (8, (.imm true (.int .i64) d8))]) (U := [((0, 0), some ⟨true, (.int .i64), .own, d11⟩)]) rfl rfl ⟨e1, e4, e5, e7, trivial⟩ ⟨e9, trivial⟩
 ·rcases y with x | x <;> exact Option.some.inj hz
noncomputable def nm1_I : FnI := ⟨nm1_b, Try.f106.results.toList, Try.f106.resultTypes.toList, nm1_A⟩
noncomputable def nm1_out (_zp0 : Bool) (_p0 : (List (List Int))) (p1 : Int) : Int → CallOut := fun r => ⟨(.imm true (.int .i64) r), [⟨true, (.int .i64), .own, p1⟩], []⟩
set_option maxRecDepth 100000 in
theorem nm1_eq : ∀ (zp0 : Bool) (p0 : (List (List Int))) (p1 : Int), denFn nm1_V nm1_I ⟨[(.imm zp0 (.sl (.sl (.int .i64))) p0), (.fn 107 [(0, 0)])], [⟨true, (.int .i64), .own, p1⟩]⟩ = (nm1 p0 p1).run fun r => some (nm1_out zp0 p0 p1 r) := fun _ _ _ => by kernel_rfl
noncomputable def nm1_G (av : List AV) (rs : List Root) : Tre CallOut :=
 asCons av fun a0_ av0 =>
 asCons av0 fun a1_ av1 =>
 asEnd av1 <|
 asCons rs fun r0_ rs0 =>
 asEnd rs0 <|
 asImm (.sl (.sl (.int .i64))) a0_ fun z2 d1 =>
 asFn 107 [(0, 0)] a1_ <|
 asRt true (.int .i64) r0_ fun m3 d4 =>
 asM .own m3 <|
 .mat (nm1_F d1 d4) fun r => .ret (nm1_out z2 d1 d4 r)
noncomputable def nm1_c : Ctr := ⟨[], fun ci => nm1_G ci.args ci.roots, false⟩
theorem nm1_env : EnvOK Try.prog .none nm1_V := (envOK_cons i_Field_reducec1_a994_ok ent107 envOK_nil)
set_option maxRecDepth 100000 in
theorem nm1_ok : Contract Try.prog .none 106 nm1_c := by
 have hl : LoopsOK nm1_V nm1_A nm1_b := (loopsOK_all (n := 1) (by kernel_rfl) fun k hk => by
   match k, hk with
   | 0, _ => exact loopOK_at (id := 2) (L := nm1_l2_L) (by kernel_rfl) (by kernel_rfl) nm1_l2_ok)
 refine (contract_of (F := nm1_I) tau_tys nm1_env Try.func106 (by kernel_rfl) (by kernel_rfl) (by kernel_rfl) hl []).weaken ?_
 rintro ⟨av, rs⟩ co h
 have h : (nm1_G av rs).run some = some co := h
 obtain ⟨a0_, av0, rfl, h_0⟩ := asCons_spec h
 obtain ⟨a1_, av1, rfl, h_1⟩ := asCons_spec h_0
 obtain ⟨rfl, h_2⟩ := asEnd_spec h_1
 obtain ⟨r0_, rs0, rfl, h_3⟩ := asCons_spec h_2
 obtain ⟨rfl, h_4⟩ := asEnd_spec h_3
 obtain ⟨z2, d1, rfl, h_5⟩ := asImm_spec h_4
 obtain ⟨rfl, h_6⟩ := asFn_spec h_5
 obtain ⟨m3, d4, rfl, h_7⟩ := asRt_spec h_6
 obtain ⟨rfl, h_8⟩ := asM_spec h_7
 exact fin_mat (nm1_eq z2 d1 d4) h_8
end Go.Proofs.Ytkgekgfmnhccmaa
