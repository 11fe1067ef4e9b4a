/- Part 4 of the proof of FnNearSpaces. -/
import Derived.Test.YthnkanacjhlhhaaNn3
namespace Go.Proofs.Ythnkanacjhlhhaa
open Go Go.Abs Go.Proofs
noncomputable def nm8_l1 (h1_0_0 : Int) (h1_0_1 : Int) : (Int × (List TMatrix)) → Tre ((Int × (List TMatrix)) ⊕ ((List TMatrix) ⊕ (List TMatrix))) := fun s1 =>
 let v1 := iwrap .i64 ((iwrap .i64 (2 * s1.1)) + 1)
 .cond (decide (v1 ≥ h1_0_0))
  (.ret (.inr (.inl s1.2)))
  (.cond (decide (iwrap .i64 (v1 + 1) < h1_0_0))
   (.ite (0 ≤ iwrap .i64 (h1_0_1 + v1) ∧ iwrap .i64 (h1_0_1 + v1) < (s1.2.length : Int)) <|
   .mat (s1.2[(iwrap .i64 (h1_0_1 + v1)).toNat]?) fun x2 =>
   let v3 := iwrap .i64 ((iwrap .i64 (h1_0_1 + v1)) + 1)
   .ite (0 ≤ v3 ∧ v3 < (s1.2.length : Int)) <|
   .mat (s1.2[v3.toNat]?) fun x4 =>
   .mat (i_spacesc1c1_F x2 x4) fun r5 =>
   .cond (decide (r5 < 0))
    (let v6 := iwrap .i64 (h1_0_1 + s1.1)
    .ite (0 ≤ v6 ∧ v6 < (s1.2.length : Int)) <|
    .mat (s1.2[v6.toNat]?) fun x7 =>
    let v8 := iwrap .i64 (h1_0_1 + (iwrap .i64 (v1 + 1)))
    .ite (0 ≤ v8 ∧ v8 < (s1.2.length : Int)) <|
    .mat (s1.2[v8.toNat]?) fun x9 =>
    .mat (i_spacesc1c1_F x7 x9) fun r10 =>
    .cond (!(decide (r10 < 0)))
     (.ret (.inr (.inr s1.2)))
     (.ite (0 ≤ v8 ∧ v8 < (s1.2.length : Int)) <|
     .mat (s1.2[v8.toNat]?) fun x11 =>
     .ite (0 ≤ v6 ∧ v6 < (s1.2.length : Int)) <|
     .mat (s1.2[v6.toNat]?) fun x12 =>
     .ite (0 ≤ v6 ∧ v6 < (s1.2.length : Int)) <|
     .mat (s1.2[v6.toNat]?) fun _ =>
     .ite (0 ≤ v8 ∧ v8 < ((s1.2.set v6.toNat x11).length : Int)) <|
     .mat ((s1.2.set v6.toNat x11)[v8.toNat]?) fun _ =>
     let v15 := (s1.2.set v6.toNat x11).set v8.toNat x12
     .ret (.inl (iwrap .i64 (v1 + 1), v15))))
    (let v16 := iwrap .i64 (h1_0_1 + s1.1)
    .ite (0 ≤ v16 ∧ v16 < (s1.2.length : Int)) <|
    .mat (s1.2[v16.toNat]?) fun x17 =>
    .ite (0 ≤ iwrap .i64 (h1_0_1 + v1) ∧ iwrap .i64 (h1_0_1 + v1) < (s1.2.length : Int)) <|
    .mat (s1.2[(iwrap .i64 (h1_0_1 + v1)).toNat]?) fun x18 =>
    .mat (i_spacesc1c1_F x17 x18) fun r19 =>
    .cond (!(decide (r19 < 0)))
     (.ret (.inr (.inr s1.2)))
     (.ite (0 ≤ iwrap .i64 (h1_0_1 + v1) ∧ iwrap .i64 (h1_0_1 + v1) < (s1.2.length : Int)) <|
     .mat (s1.2[(iwrap .i64 (h1_0_1 + v1)).toNat]?) fun x20 =>
     .ite (0 ≤ v16 ∧ v16 < (s1.2.length : Int)) <|
     .mat (s1.2[v16.toNat]?) fun x21 =>
     .ite (0 ≤ v16 ∧ v16 < (s1.2.length : Int)) <|
     .mat (s1.2[v16.toNat]?) fun _ =>
     .ite (0 ≤ iwrap .i64 (h1_0_1 + v1) ∧ iwrap .i64 (h1_0_1 + v1) < ((s1.2.set v16.toNat x20).length : Int)) <|
     .mat ((s1.2.set v16.toNat x20)[(iwrap .i64 (h1_0_1 + v1)).toNat]?) fun _ =>
     let v24 := (s1.2.set v16.toNat x20).set ((iwrap .i64 (h1_0_1 + v1)).toNat) x21
     .ret (.inl (v1, v24)))))
   (let v25 := iwrap .i64 (h1_0_1 + s1.1)
   .ite (0 ≤ v25 ∧ v25 < (s1.2.length : Int)) <|
   .mat (s1.2[v25.toNat]?) fun x26 =>
   .ite (0 ≤ iwrap .i64 (h1_0_1 + v1) ∧ iwrap .i64 (h1_0_1 + v1) < (s1.2.length : Int)) <|
   .mat (s1.2[(iwrap .i64 (h1_0_1 + v1)).toNat]?) fun x27 =>
   .mat (i_spacesc1c1_F x26 x27) fun r28 =>
   .cond (!(decide (r28 < 0)))
    (.ret (.inr (.inr s1.2)))
    (.ite (0 ≤ iwrap .i64 (h1_0_1 + v1) ∧ iwrap .i64 (h1_0_1 + v1) < (s1.2.length : Int)) <|
    .mat (s1.2[(iwrap .i64 (h1_0_1 + v1)).toNat]?) fun x29 =>
    .ite (0 ≤ v25 ∧ v25 < (s1.2.length : Int)) <|
    .mat (s1.2[v25.toNat]?) fun x30 =>
    .ite (0 ≤ v25 ∧ v25 < (s1.2.length : Int)) <|
    .mat (s1.2[v25.toNat]?) fun _ =>
    .ite (0 ≤ iwrap .i64 (h1_0_1 + v1) ∧ iwrap .i64 (h1_0_1 + v1) < ((s1.2.set v25.toNat x29).length : Int)) <|
    .mat ((s1.2.set v25.toNat x29)[(iwrap .i64 (h1_0_1 + v1)).toNat]?) fun _ =>
    let v33 := (s1.2.set v25.toNat x29).set ((iwrap .i64 (h1_0_1 + v1)).toNat) x30
    .ret (.inl (v1, v33)))))
noncomputable def nm8 (p0 : Int) (p1 : Int) (p2 : Int) (p3 : (List TMatrix)) : Tre (List TMatrix) :=
 .mat (loopF (nm8_l1 p1 p2) (p0, p3)) fun l34 =>
 .alt l34
  (fun a35 =>
   .ret a35)
  (fun b36 =>
   .ret b36)
noncomputable def nm8_F (p0 : Int) (p1 : Int) (p2 : Int) (p3 : (List TMatrix)) : Option (List TMatrix) := (nm8 p0 p1 p2 p3).run some
noncomputable def nm8_V : Env := ⟨tau, [(123, i_spacesc1c1_c)], []⟩
noncomputable def nm8_b : Code := (Try.f166.body).getD .skip
noncomputable def nm8_l1_mk (h1_0_0 : Int) (h1_0_1 : Int) : (Int × (List TMatrix)) → St := fun x => stOf [(0, (.ref (0, 0) [])), (2, (.imm true (.int .i64) h1_0_0)), (3, (.imm true (.int .i64) h1_0_1)), (4, (.fn 123 [])), (10, (.imm true (.int .i64) x.1))] [((0, 0), some ⟨false, (.sl kMatrix), (.sl (.imm true)), x.2⟩)]
noncomputable def nm8_l1_out (_h1_0_0 : Int) (_h1_0_1 : Int) : ((List TMatrix) ⊕ (List TMatrix)) → Ex × St
 | .inl x => (.exit 0, stOf [] [((0, 0), some ⟨false, (.sl kMatrix), (.sl (.imm true)), x⟩)])
 | .inr x => (.ret, stOf [] [((0, 0), some ⟨false, (.sl kMatrix), (.sl (.imm true)), x⟩)])
noncomputable def nm8_l1_D (s : St) : Tre (Ex × St) :=
 asRef (0, 0) [] (s.tmps 0) <|
 asImmZ true (.int .i64) (s.tmps 2) fun d3 =>
 asImmZ true (.int .i64) (s.tmps 3) fun d5 =>
 asFn 123 [] (s.tmps 4) <|
 asImmZ true (.int .i64) (s.tmps 10) fun d8 =>
 asRoot false (.sl kMatrix) (s.roots (0, 0)) fun m10 d11 =>
 asM (.sl (.imm true)) m10 <|
 .mat (loopF (nm8_l1 d3 d5) (d8, d11)) fun x => .alt x (fun a0 => .ret (nm8_l1_out d3 d5 (.inl a0))) (fun b0 => .ret (nm8_l1_out d3 d5 (.inr b0)))
noncomputable def nm8_l1_L : LoopI := ⟨([0, 2, 3, 4, 10], [(0, 0)]), ([], [(0, 0)]), nm8_l1_D⟩
noncomputable def nm8_A : List (Nat × LoopI) := [(1, nm8_l1_L)]
set_option maxRecDepth 100000 in
theorem nm8_l1_step : ∀ (h1_0_0 : Int) (h1_0_1 : Int) (x : (Int × (List TMatrix))) (c : St → Option (Ex × St)), den nm8_V nm8_A (loopAt nm8_b 0) (nm8_l1_mk h1_0_0 h1_0_1 x) (roundK nm8_l1_L.kp nm8_l1_L.kx c) = (nm8_l1 h1_0_0 h1_0_1 x).run (roundR (nm8_l1_mk h1_0_0 h1_0_1) (nm8_l1_out h1_0_0 h1_0_1) c) := fun _ _ _ _ => by
 kernel_rfl
theorem nm8_l1_ok : LoopOK nm8_V nm8_A (loopAt nm8_b 0) nm8_l1_L := loopOK_of fun s e s' h => by
 generalize hs : restrict nm8_l1_L.kp s = s1 at h
 have h : (nm8_l1_D s1).run some = some (e, s') := h
 obtain ⟨e1, h_0⟩ := asRef_spec h
 obtain ⟨d3, e2, h_1⟩ := asImmZ_spec h_0
 obtain ⟨d5, e4, h_2⟩ := asImmZ_spec h_1
 obtain ⟨e6, h_3⟩ := asFn_spec h_2
 obtain ⟨d8, e7, h_4⟩ := asImmZ_spec h_3
 obtain ⟨m10, d11, e9, h_5⟩ := asRoot_spec h_4
 obtain ⟨rfl, h_6⟩ := asM_spec h_5
 obtain ⟨y, hy, hz⟩ := mat_some h_6
 refine ⟨_, _, nm8_l1_mk d3 d5, nm8_l1_out d3 d5, nm8_l1 d3 d5, (d8, d11), y, ?_, hy, ?_, nm8_l1_step d3 d5⟩
 ·subst hs; exact restrict_eq (T := [(0, (.ref (0, 0) [])), (2, (.imm true (.int .i64) d3)), (3, (.imm true (.int .i64) d5)), (4, (.fn 123 [])), (10, (.imm true (.int .i64) d8))]) (U := [((0, 0), some ⟨false, (.sl kMatrix), (.sl (.imm true)), d11⟩)]) rfl rfl ⟨e1, e2, e4, e6, e7, trivial⟩ ⟨e9, trivial⟩
 ·rcases y with x | x <;> exact Option.some.inj hz
noncomputable def nm8_I : FnI := ⟨nm8_b, Try.f166.results.toList, Try.f166.resultTypes.toList, nm8_A⟩
noncomputable def nm8_out (_p0 : Int) (_p1 : Int) (_p2 : Int) (_p3 : (List TMatrix)) : (List TMatrix) → CallOut := fun r => ⟨.tnil, [⟨false, (.sl kMatrix), (.sl (.imm true)), r⟩], []⟩
set_option maxRecDepth 100000 in
theorem nm8_eq : ∀ (p0 : Int) (p1 : Int) (p2 : Int) (p3 : (List TMatrix)), denFn nm8_V nm8_I ⟨[(.ref (0, 0) []), (.imm true (.int .i64) p0), (.imm true (.int .i64) p1), (.imm true (.int .i64) p2), (.fn 123 [])], [⟨false, (.sl kMatrix), (.sl (.imm true)), p3⟩]⟩ = (nm8 p0 p1 p2 p3).run fun r => some (nm8_out p0 p1 p2 p3 r) := fun _ _ _ _ => by kernel_rfl
noncomputable def nm8_G (av : List AV) (rs : List Root) : Tre CallOut :=
 asCons av fun a0_ av0 =>
 asCons av0 fun a1_ av1 =>
 asCons av1 fun a2_ av2 =>
 asCons av2 fun a3_ av3 =>
 asCons av3 fun a4_ av4 =>
 asEnd av4 <|
 asCons rs fun r0_ rs0 =>
 asEnd rs0 <|
 asRef (0, 0) [] a0_ <|
 asImmZ true (.int .i64) a1_ fun d1 =>
 asImmZ true (.int .i64) a2_ fun d2 =>
 asImmZ true (.int .i64) a3_ fun d3 =>
 asFn 123 [] a4_ <|
 asRt false (.sl kMatrix) r0_ fun m4 d5 =>
 asM (.sl (.imm true)) m4 <|
 .mat (nm8_F d1 d2 d3 d5) fun r => .ret (nm8_out d1 d2 d3 d5 r)
noncomputable def nm8_c : Ctr := ⟨[0], fun ci => nm8_G ci.args ci.roots, false⟩
theorem nm8_env : EnvOK Try.prog .none nm8_V := (envOK_cons i_spacesc1c1_ok ent123 envOK_nil)
set_option maxRecDepth 100000 in
theorem nm8_ok : Contract Try.prog .none 166 nm8_c := by
 have hl : LoopsOK nm8_V nm8_A nm8_b := (loopsOK_all (n := 1) (by kernel_rfl) fun k hk => by
   match k, hk with
   | 0, _ => exact loopOK_at (id := 1) (L := nm8_l1_L) (by kernel_rfl) (by kernel_rfl) nm8_l1_ok)
 refine (contract_of (F := nm8_I) tau_tys nm8_env Try.func166 (by kernel_rfl) (by kernel_rfl) (by kernel_rfl) hl [0]).weaken ?_
 rintro ⟨av, rs⟩ co h
 have h : (nm8_G av rs).run some = some co := h
 obtain ⟨a0_, av0, rfl, h_0⟩ := asCons_spec h
 obtain ⟨a1_, av1, rfl, h_1⟩ := asCons_spec h_0
 obtain ⟨a2_, av2, rfl, h_2⟩ := asCons_spec h_1
 obtain ⟨a3_, av3, rfl, h_3⟩ := asCons_spec h_2
 obtain ⟨a4_, av4, rfl, h_4⟩ := asCons_spec h_3
 obtain ⟨rfl, h_5⟩ := asEnd_spec h_4
 obtain ⟨r0_, rs0, rfl, h_6⟩ := asCons_spec h_5
 obtain ⟨rfl, h_7⟩ := asEnd_spec h_6
 obtain ⟨rfl, h_8⟩ := asRef_spec h_7
 obtain ⟨d1, rfl, h_9⟩ := asImmZ_spec h_8
 obtain ⟨d2, rfl, h_10⟩ := asImmZ_spec h_9
 obtain ⟨d3, rfl, h_11⟩ := asImmZ_spec h_10
 obtain ⟨rfl, h_12⟩ := asFn_spec h_11
 obtain ⟨m4, d5, rfl, h_13⟩ := asRt_spec h_12
 obtain ⟨rfl, h_14⟩ := asM_spec h_13
 exact fin_mat (nm8_eq d1 d2 d3 d5) h_14
end Go.Proofs.Ythnkanacjhlhhaa

namespace Go.Proofs.Ythnkanacjhlhhaa
open Go Go.Abs Go.Proofs
noncomputable def nm9_l4 (h4_0_0 : Int) (h4_0_2 : Int) : (Int × (List TMatrix)) → Tre ((Int × (List TMatrix)) ⊕ (List TMatrix)) := fun s4 =>
 .cond (decide (s4.1 ≥ 0))
  (.mat (nm8_F s4.1 h4_0_2 h4_0_0 s4.2) fun r3 =>
  .ret (.inl (iwrap .i64 (s4.1 - 1), r3)))
  (.ret (.inr s4.2))
noncomputable def nm9_l8 (h8_0_0 : Int) (h8_0_1 : Int) : (Int × (List TMatrix)) → Tre ((Int × (List TMatrix)) ⊕ (List TMatrix)) := fun s8 =>
 .cond (decide (s8.1 ≥ 0))
  (let v5 := iwrap .i64 (h8_0_0 + s8.1)
  .ite (0 ≤ v5 ∧ v5 < (s8.2.length : Int)) <|
  .mat (s8.2[v5.toNat]?) fun x6 =>
  .ite (0 ≤ h8_0_0 ∧ h8_0_0 < (s8.2.length : Int)) <|
  .mat (s8.2[h8_0_0.toNat]?) fun x7 =>
  .ite (0 ≤ h8_0_0 ∧ h8_0_0 < (s8.2.length : Int)) <|
  .mat (s8.2[h8_0_0.toNat]?) fun _ =>
  let v9 := s8.2.set h8_0_0.toNat x6
  .ite (0 ≤ v5 ∧ v5 < (v9.length : Int)) <|
  .mat (v9[v5.toNat]?) fun _ =>
  .mat (nm8_F h8_0_1 s8.1 h8_0_0 (v9.set v5.toNat x7)) fun r11 =>
  .ret (.inl (iwrap .i64 (s8.1 - 1), r11)))
  (.ret (.inr s8.2))
noncomputable def nm9 (p0 : Int) (p1 : Int) (p2 : (List TMatrix)) : Tre (List TMatrix) :=
 let v1 := iwrap .i64 ((iwrap .i64 (p1 - p0)) - 1)
 let v2 := iwrap .i64 (Int.tdiv v1 2)
 .mat (loopF (nm9_l4 p0 (iwrap .i64 (p1 - p0))) (v2, p2)) fun l4 =>
 .mat (loopF (nm9_l8 p0 0) (v1, l4)) fun l12 =>
 .ret l12
noncomputable def nm9_F (p0 : Int) (p1 : Int) (p2 : (List TMatrix)) : Option (List TMatrix) := (nm9 p0 p1 p2).run some
noncomputable def nm9_V : Env := ⟨tau, [(166, nm8_c)], []⟩
noncomputable def nm9_b : Code := (Try.f149.body).getD .skip
noncomputable def nm9_l4_mk (h4_0_0 : Int) (h4_0_1 : Int) (h4_0_2 : Int) : (Int × (List TMatrix)) → St := fun x => stOf [(0, (.ref (0, 0) [])), (3, (.fn 123 [])), (8, (.imm true (.int .i64) h4_0_0)), (9, (.imm true (.int .i64) h4_0_1)), (10, (.imm true (.int .i64) h4_0_2)), (11, (.imm true (.int .i64) x.1))] [((0, 0), some ⟨false, (.sl kMatrix), (.sl (.imm true)), x.2⟩)]
noncomputable def nm9_l4_out (h4_0_0 : Int) (h4_0_1 : Int) (h4_0_2 : Int) : (List TMatrix) → Ex × St := fun x => (.exit 0, stOf [(0, (.ref (0, 0) [])), (3, (.fn 123 [])), (8, (.imm true (.int .i64) h4_0_0)), (9, (.imm true (.int .i64) h4_0_1)), (10, (.imm true (.int .i64) h4_0_2))] [((0, 0), some ⟨false, (.sl kMatrix), (.sl (.imm true)), x⟩)])
noncomputable def nm9_l4_D (s : St) : Tre (Ex × St) :=
 asRef (0, 0) [] (s.tmps 0) <|
 asFn 123 [] (s.tmps 3) <|
 asImmZ true (.int .i64) (s.tmps 8) fun d4 =>
 asImmZ true (.int .i64) (s.tmps 9) fun d6 =>
 asImmZ true (.int .i64) (s.tmps 10) fun d8 =>
 asImmZ true (.int .i64) (s.tmps 11) fun d10 =>
 asRoot false (.sl kMatrix) (s.roots (0, 0)) fun m12 d13 =>
 asM (.sl (.imm true)) m12 <|
 .mat (loopF (nm9_l4 d4 d8) (d10, d13)) fun x => .ret (nm9_l4_out d4 d6 d8 x)
noncomputable def nm9_l4_L : LoopI := ⟨([0, 3, 8, 9, 10, 11], [(0, 0)]), ([0, 3, 8, 9, 10], [(0, 0)]), nm9_l4_D⟩
noncomputable def nm9_l8_mk (h8_0_0 : Int) (h8_0_1 : Int) : (Int × (List TMatrix)) → St := fun x => stOf [(0, (.ref (0, 0) [])), (3, (.fn 123 [])), (8, (.imm true (.int .i64) h8_0_0)), (9, (.imm true (.int .i64) h8_0_1)), (12, (.imm true (.int .i64) x.1))] [((0, 0), some ⟨false, (.sl kMatrix), (.sl (.imm true)), x.2⟩)]
noncomputable def nm9_l8_out (_h8_0_0 : Int) (_h8_0_1 : Int) : (List TMatrix) → Ex × St := fun x => (.exit 2, stOf [] [((0, 0), some ⟨false, (.sl kMatrix), (.sl (.imm true)), x⟩)])
noncomputable def nm9_l8_D (s : St) : Tre (Ex × St) :=
 asRef (0, 0) [] (s.tmps 0) <|
 asFn 123 [] (s.tmps 3) <|
 asImmZ true (.int .i64) (s.tmps 8) fun d4 =>
 asImmZ true (.int .i64) (s.tmps 9) fun d6 =>
 asImmZ true (.int .i64) (s.tmps 12) fun d8 =>
 asRoot false (.sl kMatrix) (s.roots (0, 0)) fun m10 d11 =>
 asM (.sl (.imm true)) m10 <|
 .mat (loopF (nm9_l8 d4 d6) (d8, d11)) fun x => .ret (nm9_l8_out d4 d6 x)
noncomputable def nm9_l8_L : LoopI := ⟨([0, 3, 8, 9, 12], [(0, 0)]), ([], [(0, 0)]), nm9_l8_D⟩
noncomputable def nm9_A : List (Nat × LoopI) := [(4, nm9_l4_L), (8, nm9_l8_L)]
set_option maxRecDepth 100000 in
theorem nm9_l4_step : ∀ (h4_0_0 : Int) (h4_0_1 : Int) (h4_0_2 : Int) (x : (Int × (List TMatrix))) (c : St → Option (Ex × St)), den nm9_V nm9_A (loopAt nm9_b 0) (nm9_l4_mk h4_0_0 h4_0_1 h4_0_2 x) (roundK nm9_l4_L.kp nm9_l4_L.kx c) = (nm9_l4 h4_0_0 h4_0_2 x).run (roundR (nm9_l4_mk h4_0_0 h4_0_1 h4_0_2) (nm9_l4_out h4_0_0 h4_0_1 h4_0_2) c) := fun _ _ _ _ _ => by
 kernel_rfl
theorem nm9_l4_ok : LoopOK nm9_V nm9_A (loopAt nm9_b 0) nm9_l4_L := loopOK_of fun s e s' h => by
 generalize hs : restrict nm9_l4_L.kp s = s1 at h
 have h : (nm9_l4_D s1).run some = some (e, s') := h
 obtain ⟨e1, h_0⟩ := asRef_spec h
 obtain ⟨e2, h_1⟩ := asFn_spec h_0
 obtain ⟨d4, e3, h_2⟩ := asImmZ_spec h_1
 obtain ⟨d6, e5, h_3⟩ := asImmZ_spec h_2
 obtain ⟨d8, e7, h_4⟩ := asImmZ_spec h_3
 obtain ⟨d10, e9, h_5⟩ := asImmZ_spec h_4
 obtain ⟨m12, d13, e11, h_6⟩ := asRoot_spec h_5
 obtain ⟨rfl, h_7⟩ := asM_spec h_6
 obtain ⟨y, hy, hz⟩ := mat_ret h_7
 refine ⟨_, _, nm9_l4_mk d4 d6 d8, nm9_l4_out d4 d6 d8, nm9_l4 d4 d8, (d10, d13), y, ?_, hy, ?_, nm9_l4_step d4 d6 d8⟩
 ·subst hs; exact restrict_eq (T := [(0, (.ref (0, 0) [])), (3, (.fn 123 [])), (8, (.imm true (.int .i64) d4)), (9, (.imm true (.int .i64) d6)), (10, (.imm true (.int .i64) d8)), (11, (.imm true (.int .i64) d10))]) (U := [((0, 0), some ⟨false, (.sl kMatrix), (.sl (.imm true)), d13⟩)]) rfl rfl ⟨e1, e2, e3, e5, e7, e9, trivial⟩ ⟨e11, trivial⟩
 ·exact Option.some.inj hz
set_option maxRecDepth 100000 in
theorem nm9_l8_step : ∀ (h8_0_0 : Int) (h8_0_1 : Int) (x : (Int × (List TMatrix))) (c : St → Option (Ex × St)), den nm9_V nm9_A (loopAt nm9_b 1) (nm9_l8_mk h8_0_0 h8_0_1 x) (roundK nm9_l8_L.kp nm9_l8_L.kx c) = (nm9_l8 h8_0_0 h8_0_1 x).run (roundR (nm9_l8_mk h8_0_0 h8_0_1) (nm9_l8_out h8_0_0 h8_0_1) c) := fun _ _ _ _ => by
 kernel_rfl
theorem nm9_l8_ok : LoopOK nm9_V nm9_A (loopAt nm9_b 1) nm9_l8_L := loopOK_of fun s e s' h => by
 generalize hs : restrict nm9_l8_L.kp s = s1 at h
 have h : (nm9_l8_D s1).run some = some (e, s') := h
 obtain ⟨e1, h_0⟩ := asRef_spec h
 obtain ⟨e2, h_1⟩ := asFn_spec h_0
 obtain ⟨d4, e3, h_2⟩ := asImmZ_spec h_1
 obtain ⟨d6, e5, h_3⟩ := asImmZ_spec h_2
 obtain ⟨d8, e7, h_4⟩ := asImmZ_spec h_3
 obtain ⟨m10, d11, e9, h_5⟩ := asRoot_spec h_4
 obtain ⟨rfl, h_6⟩ := asM_spec h_5
 obtain ⟨y, hy, hz⟩ := mat_ret h_6
 refine ⟨_, _, nm9_l8_mk d4 d6, nm9_l8_out d4 d6, nm9_l8 d4 d6, (d8, d11), y, ?_, hy, ?_, nm9_l8_step d4 d6⟩
 ·subst hs; exact restrict_eq (T := [(0, (.ref (0, 0) [])), (3, (.fn 123 [])), (8, (.imm true (.int .i64) d4)), (9, (.imm true (.int .i64) d6)), (12, (.imm true (.int .i64) d8))]) (U := [((0, 0), some ⟨false, (.sl kMatrix), (.sl (.imm true)), d11⟩)]) rfl rfl ⟨e1, e2, e3, e5, e7, trivial⟩ ⟨e9, trivial⟩
 ·exact Option.some.inj hz
noncomputable def nm9_I : FnI := ⟨nm9_b, Try.f149.results.toList, Try.f149.resultTypes.toList, nm9_A⟩
noncomputable def nm9_out (_p0 : Int) (_p1 : Int) (_p2 : (List TMatrix)) : (List TMatrix) → CallOut := fun r => ⟨.tnil, [⟨false, (.sl kMatrix), (.sl (.imm true)), r⟩], []⟩
set_option maxRecDepth 100000 in
theorem nm9_eq : ∀ (p0 : Int) (p1 : Int) (p2 : (List TMatrix)), denFn nm9_V nm9_I ⟨[(.ref (0, 0) []), (.imm true (.int .i64) p0), (.imm true (.int .i64) p1), (.fn 123 [])], [⟨false, (.sl kMatrix), (.sl (.imm true)), p2⟩]⟩ = (nm9 p0 p1 p2).run fun r => some (nm9_out p0 p1 p2 r) := fun _ _ _ => by kernel_rfl
noncomputable def nm9_G (av : List AV) (rs : List Root) : Tre CallOut :=
 asCons av fun a0_ av0 =>
 asCons av0 fun a1_ av1 =>
 asCons av1 fun a2_ av2 =>
 asCons av2 fun a3_ av3 =>
 asEnd av3 <|
 asCons rs fun r0_ rs0 =>
 asEnd rs0 <|
 asRef (0, 0) [] a0_ <|
 asImmZ true (.int .i64) a1_ fun d1 =>
 asImmZ true (.int .i64) a2_ fun d2 =>
 asFn 123 [] a3_ <|
 asRt false (.sl kMatrix) r0_ fun m3 d4 =>
 asM (.sl (.imm true)) m3 <|
 .mat (nm9_F d1 d2 d4) fun r => .ret (nm9_out d1 d2 d4 r)
noncomputable def nm9_c : Ctr := ⟨[0], fun ci => nm9_G ci.args ci.roots, false⟩
theorem nm9_env : EnvOK Try.prog .none nm9_V := (envOK_cons nm8_ok ent166 envOK_nil)
set_option maxRecDepth 100000 in
theorem nm9_ok : Contract Try.prog .none 149 nm9_c := by
 have hl : LoopsOK nm9_V nm9_A nm9_b := (loopsOK_all (n := 2) (by kernel_rfl) fun k hk => by
   match k, hk with
   | 0, _ => exact loopOK_at (id := 4) (L := nm9_l4_L) (by kernel_rfl) (by kernel_rfl) nm9_l4_ok
   | 1, _ => exact loopOK_at (id := 8) (L := nm9_l8_L) (by kernel_rfl) (by kernel_rfl) nm9_l8_ok)
 refine (contract_of (F := nm9_I) tau_tys nm9_env Try.func149 (by kernel_rfl) (by kernel_rfl) (by kernel_rfl) hl [0]).weaken ?_
 rintro ⟨av, rs⟩ co h
 have h : (nm9_G av rs).run some = some co := h
 obtain ⟨a0_, av0, rfl, h_0⟩ := asCons_spec h
 obtain ⟨a1_, av1, rfl, h_1⟩ := asCons_spec h_0
 obtain ⟨a2_, av2, rfl, h_2⟩ := asCons_spec h_1
 obtain ⟨a3_, av3, rfl, h_3⟩ := asCons_spec h_2
 obtain ⟨rfl, h_4⟩ := asEnd_spec h_3
 obtain ⟨r0_, rs0, rfl, h_5⟩ := asCons_spec h_4
 obtain ⟨rfl, h_6⟩ := asEnd_spec h_5
 obtain ⟨rfl, h_7⟩ := asRef_spec h_6
 obtain ⟨d1, rfl, h_8⟩ := asImmZ_spec h_7
 obtain ⟨d2, rfl, h_9⟩ := asImmZ_spec h_8
 obtain ⟨rfl, h_10⟩ := asFn_spec h_9
 obtain ⟨m3, d4, rfl, h_11⟩ := asRt_spec h_10
 obtain ⟨rfl, h_12⟩ := asM_spec h_11
 exact fin_mat (nm9_eq d1 d2 d4) h_12
end Go.Proofs.Ythnkanacjhlhhaa

namespace Go.Proofs.Ythnkanacjhlhhaa
open Go Go.Abs Go.Proofs
noncomputable def slices_nextPowerOfTwo (p0 : Int) : Tre Int :=
 .mat (bits_Len_F (iwrap .u64 p0)) fun r1 =>
 .ite (0 ≤ r1) <|
 .ret (ishl .u64 1 r1)
noncomputable def slices_nextPowerOfTwo_F (p0 : Int) : Option Int := (slices_nextPowerOfTwo p0).run some
noncomputable def slices_nextPowerOfTwo_V : Env := ⟨tau, [(119, bits_Len_c)], []⟩
noncomputable def slices_nextPowerOfTwo_b : Code := (Try.f167.body).getD .skip
noncomputable def slices_nextPowerOfTwo_I : FnI := ⟨slices_nextPowerOfTwo_b, Try.f167.results.toList, Try.f167.resultTypes.toList, []⟩
noncomputable def slices_nextPowerOfTwo_out (_p0 : Int) : Int → CallOut := fun r => ⟨(.imm true (.int .u64) r), [], []⟩
set_option maxRecDepth 100000 in
theorem slices_nextPowerOfTwo_eq : ∀ (p0 : Int), denFn slices_nextPowerOfTwo_V slices_nextPowerOfTwo_I ⟨[(.imm true (.int .i64) p0)], []⟩ = (slices_nextPowerOfTwo p0).run fun r => some (slices_nextPowerOfTwo_out p0 r) := fun _ => by kernel_rfl
noncomputable def slices_nextPowerOfTwo_G (av : List AV) (rs : List Root) : Tre CallOut :=
 asCons av fun a0_ av0 =>
 asEnd av0 <|
 asEnd rs <|
 asImmZ true (.int .i64) a0_ fun d1 =>
 .mat (slices_nextPowerOfTwo_F d1) fun r => .ret (slices_nextPowerOfTwo_out d1 r)
noncomputable def slices_nextPowerOfTwo_c : Ctr := ⟨[], fun ci => slices_nextPowerOfTwo_G ci.args ci.roots, false⟩
theorem slices_nextPowerOfTwo_env : EnvOK Try.prog .none slices_nextPowerOfTwo_V := (envOK_cons bits_Len_ok ent119 envOK_nil)
set_option maxRecDepth 100000 in
theorem slices_nextPowerOfTwo_ok : Contract Try.prog .none 167 slices_nextPowerOfTwo_c := by
 have hl : LoopsOK slices_nextPowerOfTwo_V [] slices_nextPowerOfTwo_b := loopsOK_nil (by kernel_rfl)
 refine (contract_of (F := slices_nextPowerOfTwo_I) tau_tys slices_nextPowerOfTwo_env Try.func167 (by kernel_rfl) (by kernel_rfl) (by kernel_rfl) hl []).weaken ?_
 rintro ⟨av, rs⟩ co h
 have h : (slices_nextPowerOfTwo_G av rs).run some = some co := h
 obtain ⟨a0_, av0, rfl, h_0⟩ := asCons_spec h
 obtain ⟨rfl, h_1⟩ := asEnd_spec h_0
 obtain ⟨rfl, h_2⟩ := asEnd_spec h_1
 obtain ⟨d1, rfl, h_3⟩ := asImmZ_spec h_2
 exact fin_mat (slices_nextPowerOfTwo_eq d1) h_3
end Go.Proofs.Ythnkanacjhlhhaa

namespace Go.Proofs.Ythnkanacjhlhhaa
open Go Go.Abs Go.Proofs
noncomputable def slices_xorshift_Next_7633 (p0 : Int) : Tre (Int × Int) :=
 let v1 := ixor .u64 p0 (ishl .u64 p0 13)
 let v2 := ixor .u64 v1 (ishr .u64 v1 7)
 let v3 := ixor .u64 v2 (ishl .u64 v2 17)
 .ret (v3, v3)
noncomputable def slices_xorshift_Next_7633_F (p0 : Int) : Option (Int × Int) := (slices_xorshift_Next_7633 p0).run some
def slices_xorshift_Next_7633_S (p0 : Int) : (Int × Int) :=
 let v1 := ixor .u64 p0 (ishl .u64 p0 13)
 let v2 := ixor .u64 v1 (ishr .u64 v1 7)
 let v3 := ixor .u64 v2 (ishl .u64 v2 17)
 (v3, v3)
theorem slices_xorshift_Next_7633_spec (p0 : Int) : slices_xorshift_Next_7633_F p0 = some (slices_xorshift_Next_7633_S p0) := rfl
noncomputable def slices_xorshift_Next_7633_V : Env := ⟨tau, [], []⟩
noncomputable def slices_xorshift_Next_7633_b : Code := (Try.f168.body).getD .skip
noncomputable def slices_xorshift_Next_7633_I : FnI := ⟨slices_xorshift_Next_7633_b, Try.f168.results.toList, Try.f168.resultTypes.toList, []⟩
noncomputable def slices_xorshift_Next_7633_out (_p0 : Int) : (Int × Int) → CallOut := fun r => ⟨(.imm true (.int .u64) r.1), [⟨true, (.int .u64), .own, r.2⟩], []⟩
set_option maxRecDepth 100000 in
theorem slices_xorshift_Next_7633_eq : ∀ (p0 : Int), denFn slices_xorshift_Next_7633_V slices_xorshift_Next_7633_I ⟨[(.ptr (0, 0) [])], [⟨true, (.int .u64), .own, p0⟩]⟩ = (slices_xorshift_Next_7633 p0).run fun r => some (slices_xorshift_Next_7633_out p0 r) := fun _ => by kernel_rfl
noncomputable def slices_xorshift_Next_7633_G (av : List AV) (rs : List Root) : Tre CallOut :=
 asCons av fun a0_ av0 =>
 asEnd av0 <|
 asCons rs fun r0_ rs0 =>
 asEnd rs0 <|
 asPtr (0, 0) [] a0_ <|
 asRt true (.int .u64) r0_ fun m1 d2 =>
 asM .own m1 <|
 .ret (slices_xorshift_Next_7633_out d2 (slices_xorshift_Next_7633_S d2))
noncomputable def slices_xorshift_Next_7633_c : Ctr := ⟨[], fun ci => slices_xorshift_Next_7633_G ci.args ci.roots, false⟩
theorem slices_xorshift_Next_7633_env : EnvOK Try.prog .none slices_xorshift_Next_7633_V := envOK_nil
set_option maxRecDepth 100000 in
theorem slices_xorshift_Next_7633_ok : Contract Try.prog .none 168 slices_xorshift_Next_7633_c := by
 have hl : LoopsOK slices_xorshift_Next_7633_V [] slices_xorshift_Next_7633_b := loopsOK_nil (by kernel_rfl)
 refine (contract_of (F := slices_xorshift_Next_7633_I) tau_tys slices_xorshift_Next_7633_env Try.func168 (by kernel_rfl) (by kernel_rfl) (by kernel_rfl) hl []).weaken ?_
 rintro ⟨av, rs⟩ co h
 have h : (slices_xorshift_Next_7633_G av rs).run some = some co := h
 obtain ⟨a0_, av0, rfl, h_0⟩ := asCons_spec h
 obtain ⟨rfl, h_1⟩ := asEnd_spec h_0
 obtain ⟨r0_, rs0, rfl, h_2⟩ := asCons_spec h_1
 obtain ⟨rfl, h_3⟩ := asEnd_spec h_2
 obtain ⟨rfl, h_4⟩ := asPtr_spec h_3
 obtain ⟨m1, d2, rfl, h_5⟩ := asRt_spec h_4
 obtain ⟨rfl, h_6⟩ := asM_spec h_5
 exact fin_ret (slices_xorshift_Next_7633_eq d2) (slices_xorshift_Next_7633_spec d2) h_6
end Go.Proofs.Ythnkanacjhlhhaa

namespace Go.Proofs.Ythnkanacjhlhhaa
open Go Go.Abs Go.Proofs
noncomputable def nm4_l5 (h5_0_0 : Int) (h5_0_1 : Int) (h5_0_2 : Int) : (Int × (List TMatrix) × Int) → Tre ((Int × (List TMatrix) × Int) ⊕ (List TMatrix)) := fun s5 =>
 let v5 := iwrap .i64 (Int.tdiv h5_0_1 4)
 let v6 := iwrap .i64 (h5_0_0 + (iwrap .i64 (v5 * 2)))
 .cond (decide (s5.1 ≤ iwrap .i64 (v6 + 1)))
  (let v7 := slices_xorshift_Next_7633_S s5.2.2
  let v8 := iand .u64 v7.1 (iwrap .u64 (h5_0_2 - 1))
  .cond (decide (iwrap .i64 v8 ≥ h5_0_1))
   (let v9 := iwrap .i64 ((iwrap .i64 v8) - h5_0_1)
   .ite (0 ≤ iwrap .i64 (h5_0_0 + v9) ∧ iwrap .i64 (h5_0_0 + v9) < (s5.2.1.length : Int)) <|
   .mat (s5.2.1[(iwrap .i64 (h5_0_0 + v9)).toNat]?) fun x10 =>
   .ite (0 ≤ s5.1 ∧ s5.1 < (s5.2.1.length : Int)) <|
   .mat (s5.2.1[s5.1.toNat]?) fun x11 =>
   .ite (0 ≤ s5.1 ∧ s5.1 < (s5.2.1.length : Int)) <|
   .mat (s5.2.1[s5.1.toNat]?) fun _ =>
   let v13 := s5.2.1.set s5.1.toNat x10
   .ite (0 ≤ iwrap .i64 (h5_0_0 + v9) ∧ iwrap .i64 (h5_0_0 + v9) < (v13.length : Int)) <|
   .mat (v13[(iwrap .i64 (h5_0_0 + v9)).toNat]?) fun _ =>
   let v15 := v13.set ((iwrap .i64 (h5_0_0 + v9)).toNat) x11
   .ret (.inl (iwrap .i64 (s5.1 + 1), v15, v7.2)))
   (let v16 := iwrap .i64 (h5_0_0 + (iwrap .i64 v8))
   .ite (0 ≤ v16 ∧ v16 < (s5.2.1.length : Int)) <|
   .mat (s5.2.1[v16.toNat]?) fun x17 =>
   .ite (0 ≤ s5.1 ∧ s5.1 < (s5.2.1.length : Int)) <|
   .mat (s5.2.1[s5.1.toNat]?) fun x18 =>
   .ite (0 ≤ s5.1 ∧ s5.1 < (s5.2.1.length : Int)) <|
   .mat (s5.2.1[s5.1.toNat]?) fun _ =>
   let v20 := s5.2.1.set s5.1.toNat x17
   .ite (0 ≤ v16 ∧ v16 < (v20.length : Int)) <|
   .mat (v20[v16.toNat]?) fun _ =>
   .ret (.inl (iwrap .i64 (s5.1 + 1), v20.set v16.toNat x18, v7.2))))
  (.ret (.inr s5.2.1))
noncomputable def nm4 (p0 : Int) (p1 : Int) (p2 : (List TMatrix)) : Tre (List TMatrix) :=
 .cond (decide (iwrap .i64 (p1 - p0) ≥ 8))
  (let v1 := iwrap .u64 (iwrap .i64 (p1 - p0))
  .mat (slices_nextPowerOfTwo_F (iwrap .i64 (p1 - p0))) fun r2 =>
  let v3 := iwrap .i64 (Int.tdiv (iwrap .i64 (p1 - p0)) 4)
  let v4 := iwrap .i64 (p0 + (iwrap .i64 (v3 * 2)))
  .mat (loopF (nm4_l5 p0 (iwrap .i64 (p1 - p0)) r2) (iwrap .i64 (v4 - 1), p2, v1)) fun l22 =>
  .ret l22)
  (.ret p2)
noncomputable def nm4_F (p0 : Int) (p1 : Int) (p2 : (List TMatrix)) : Option (List TMatrix) := (nm4 p0 p1 p2).run some
noncomputable def nm4_V : Env := ⟨tau, [(167, slices_nextPowerOfTwo_c), (168, slices_xorshift_Next_7633_c)], []⟩
noncomputable def nm4_b : Code := (Try.f150.body).getD .skip
noncomputable def nm4_l5_mk (h5_0_0 : Int) (h5_0_1 : Int) (h5_0_2 : Int) : (Int × (List TMatrix) × Int) → St := fun x => stOf [(0, (.ref (0, 0) [])), (1, (.imm true (.int .i64) h5_0_0)), (8, (.imm true (.int .i64) h5_0_1)), (9, (.ptr (11, 0) [])), (10, (.imm true (.int .u64) h5_0_2)), (11, (.imm true (.int .i64) x.1))] [((0, 0), some ⟨false, (.sl kMatrix), (.sl (.imm true)), x.2.1⟩), ((11, 0), some ⟨true, (.int .u64), .own, x.2.2⟩)]
noncomputable def nm4_l5_out (_h5_0_0 : Int) (_h5_0_1 : Int) (_h5_0_2 : Int) : (List TMatrix) → Ex × St := fun x => (.exit 0, stOf [] [((0, 0), some ⟨false, (.sl kMatrix), (.sl (.imm true)), x⟩)])
noncomputable def nm4_l5_D (s : St) : Tre (Ex × St) :=
 asRef (0, 0) [] (s.tmps 0) <|
 asImmZ true (.int .i64) (s.tmps 1) fun d3 =>
 asImmZ true (.int .i64) (s.tmps 8) fun d5 =>
 asPtr (11, 0) [] (s.tmps 9) <|
 asImmZ true (.int .u64) (s.tmps 10) fun d8 =>
 asImmZ true (.int .i64) (s.tmps 11) fun d10 =>
 asRoot false (.sl kMatrix) (s.roots (0, 0)) fun m12 d13 =>
 asM (.sl (.imm true)) m12 <|
 asRoot true (.int .u64) (s.roots (11, 0)) fun m15 d16 =>
 asM .own m15 <|
 .mat (loopF (nm4_l5 d3 d5 d8) (d10, d13, d16)) fun x => .ret (nm4_l5_out d3 d5 d8 x)
noncomputable def nm4_l5_L : LoopI := ⟨([0, 1, 8, 9, 10, 11], [(0, 0), (11, 0)]), ([], [(0, 0)]), nm4_l5_D⟩
noncomputable def nm4_A : List (Nat × LoopI) := [(5, nm4_l5_L)]
set_option maxRecDepth 100000 in
theorem nm4_l5_step : ∀ (h5_0_0 : Int) (h5_0_1 : Int) (h5_0_2 : Int) (x : (Int × (List TMatrix) × Int)) (c : St → Option (Ex × St)), den nm4_V nm4_A (loopAt nm4_b 0) (nm4_l5_mk h5_0_0 h5_0_1 h5_0_2 x) (roundK nm4_l5_L.kp nm4_l5_L.kx c) = (nm4_l5 h5_0_0 h5_0_1 h5_0_2 x).run (roundR (nm4_l5_mk h5_0_0 h5_0_1 h5_0_2) (nm4_l5_out h5_0_0 h5_0_1 h5_0_2) c) := fun _ _ _ _ _ => by
 kernel_rfl
theorem nm4_l5_ok : LoopOK nm4_V nm4_A (loopAt nm4_b 0) nm4_l5_L := loopOK_of fun s e s' h => by
 generalize hs : restrict nm4_l5_L.kp s = s1 at h
 have h : (nm4_l5_D s1).run some = some (e, s') := h
 obtain ⟨e1, h_0⟩ := asRef_spec h
 obtain ⟨d3, e2, h_1⟩ := asImmZ_spec h_0
 obtain ⟨d5, e4, h_2⟩ := asImmZ_spec h_1
 obtain ⟨e6, h_3⟩ := asPtr_spec h_2
 obtain ⟨d8, e7, h_4⟩ := asImmZ_spec h_3
 obtain ⟨d10, e9, h_5⟩ := asImmZ_spec h_4
 obtain ⟨m12, d13, e11, h_6⟩ := asRoot_spec h_5
 obtain ⟨rfl, h_7⟩ := asM_spec h_6
 obtain ⟨m15, d16, e14, h_8⟩ := asRoot_spec h_7
 obtain ⟨rfl, h_9⟩ := asM_spec h_8
 obtain ⟨y, hy, hz⟩ := mat_ret h_9
 refine ⟨_, _, nm4_l5_mk d3 d5 d8, nm4_l5_out d3 d5 d8, nm4_l5 d3 d5 d8, (d10, d13, d16), y, ?_, hy, ?_, nm4_l5_step d3 d5 d8⟩
 ·subst hs; exact restrict_eq (T := [(0, (.ref (0, 0) [])), (1, (.imm true (.int .i64) d3)), (8, (.imm true (.int .i64) d5)), (9, (.ptr (11, 0) [])), (10, (.imm true (.int .u64) d8)), (11, (.imm true (.int .i64) d10))]) (U := [((0, 0), some ⟨false, (.sl kMatrix), (.sl (.imm true)), d13⟩), ((11, 0), some ⟨true, (.int .u64), .own, d16⟩)]) rfl rfl ⟨e1, e2, e4, e6, e7, e9, trivial⟩ ⟨e11, e14, trivial⟩
 ·exact Option.some.inj hz
noncomputable def nm4_I : FnI := ⟨nm4_b, Try.f150.results.toList, Try.f150.resultTypes.toList, nm4_A⟩
noncomputable def nm4_out (_p0 : Int) (_p1 : Int) (_p2 : (List TMatrix)) : (List TMatrix) → CallOut := fun r => ⟨.tnil, [⟨false, (.sl kMatrix), (.sl (.imm true)), r⟩], []⟩
set_option maxRecDepth 100000 in
theorem nm4_eq : ∀ (p0 : Int) (p1 : Int) (p2 : (List TMatrix)), denFn nm4_V nm4_I ⟨[(.ref (0, 0) []), (.imm true (.int .i64) p0), (.imm true (.int .i64) p1), (.fn 123 [])], [⟨false, (.sl kMatrix), (.sl (.imm true)), p2⟩]⟩ = (nm4 p0 p1 p2).run fun r => some (nm4_out p0 p1 p2 r) := fun _ _ _ => by kernel_rfl
noncomputable def nm4_G (av : List AV) (rs : List Root) : Tre CallOut :=
 asCons av fun a0_ av0 =>
 asCons av0 fun a1_ av1 =>
 asCons av1 fun a2_ av2 =>
 asCons av2 fun a3_ av3 =>
 asEnd av3 <|
 asCons rs fun r0_ rs0 =>
 asEnd rs0 <|
 asRef (0, 0) [] a0_ <|
 asImmZ true (.int .i64) a1_ fun d1 =>
 asImmZ true (.int .i64) a2_ fun d2 =>
 asFn 123 [] a3_ <|
 asRt false (.sl kMatrix) r0_ fun m3 d4 =>
 asM (.sl (.imm true)) m3 <|
 .mat (nm4_F d1 d2 d4) fun r => .ret (nm4_out d1 d2 d4 r)
noncomputable def nm4_c : Ctr := ⟨[0], fun ci => nm4_G ci.args ci.roots, false⟩
theorem nm4_env : EnvOK Try.prog .none nm4_V := (envOK_cons slices_nextPowerOfTwo_ok ent167 (envOK_cons slices_xorshift_Next_7633_ok ent168 envOK_nil))
set_option maxRecDepth 100000 in
theorem nm4_ok : Contract Try.prog .none 150 nm4_c := by
 have hl : LoopsOK nm4_V nm4_A nm4_b := (loopsOK_all (n := 1) (by kernel_rfl) fun k hk => by
   match k, hk with
   | 0, _ => exact loopOK_at (id := 5) (L := nm4_l5_L) (by kernel_rfl) (by kernel_rfl) nm4_l5_ok)
 refine (contract_of (F := nm4_I) tau_tys nm4_env Try.func150 (by kernel_rfl) (by kernel_rfl) (by kernel_rfl) hl [0]).weaken ?_
 rintro ⟨av, rs⟩ co h
 have h : (nm4_G av rs).run some = some co := h
 obtain ⟨a0_, av0, rfl, h_0⟩ := asCons_spec h
 obtain ⟨a1_, av1, rfl, h_1⟩ := asCons_spec h_0
 obtain ⟨a2_, av2, rfl, h_2⟩ := asCons_spec h_1
 obtain ⟨a3_, av3, rfl, h_3⟩ := asCons_spec h_2
 obtain ⟨rfl, h_4⟩ := asEnd_spec h_3
 obtain ⟨r0_, rs0, rfl, h_5⟩ := asCons_spec h_4
 obtain ⟨rfl, h_6⟩ := asEnd_spec h_5
 obtain ⟨rfl, h_7⟩ := asRef_spec h_6
 obtain ⟨d1, rfl, h_8⟩ := asImmZ_spec h_7
 obtain ⟨d2, rfl, h_9⟩ := asImmZ_spec h_8
 obtain ⟨rfl, h_10⟩ := asFn_spec h_9
 obtain ⟨m3, d4, rfl, h_11⟩ := asRt_spec h_10
 obtain ⟨rfl, h_12⟩ := asM_spec h_11
 exact fin_mat (nm4_eq d1 d2 d4) h_12
end Go.Proofs.Ythnkanacjhlhhaa

namespace Go.Proofs.Ythnkanacjhlhhaa
open Go Go.Abs Go.Proofs
noncomputable def nm11 (p0 : Int) (p1 : Int) (p2 : (List TMatrix)) (p3 : Int) : Tre (Int × Int × Int) :=
 .ite (0 ≤ p1 ∧ p1 < (p2.length : Int)) <|
 .mat (p2[p1.toNat]?) fun x1 =>
 .ite (0 ≤ p0 ∧ p0 < (p2.length : Int)) <|
 .mat (p2[p0.toNat]?) fun x2 =>
 .mat (i_spacesc1c1_F x1 x2) fun r3 =>
 .cond (decide (r3 < 0))
  (.ret (p1, p0, iwrap .i64 (p3 + 1)))
  (.ret (p0, p1, p3))
noncomputable def nm11_F (p0 : Int) (p1 : Int) (p2 : (List TMatrix)) (p3 : Int) : Option (Int × Int × Int) := (nm11 p0 p1 p2 p3).run some
noncomputable def nm11_V : Env := ⟨tau, [(123, i_spacesc1c1_c)], []⟩
noncomputable def nm11_b : Code := (Try.f180.body).getD .skip
noncomputable def nm11_I : FnI := ⟨nm11_b, Try.f180.results.toList, Try.f180.resultTypes.toList, []⟩
noncomputable def nm11_out (_p0 : Int) (_p1 : Int) (p2 : (List TMatrix)) (_p3 : Int) : (Int × Int × Int) → CallOut := fun r => ⟨(.tcons (.imm true (.int .i64) r.1) (.tcons (.imm true (.int .i64) r.2.1) .tnil)), [⟨false, (.sl kMatrix), (.sl (.imm true)), p2⟩, ⟨true, (.int .i64), .own, r.2.2⟩], []⟩
set_option maxRecDepth 100000 in
theorem nm11_eq : ∀ (p0 : Int) (p1 : Int) (p2 : (List TMatrix)) (p3 : Int), denFn nm11_V nm11_I ⟨[(.ref (0, 0) []), (.imm true (.int .i64) p0), (.imm true (.int .i64) p1), (.ptr (0, 1) []), (.fn 123 [])], [⟨false, (.sl kMatrix), (.sl (.imm true)), p2⟩, ⟨true, (.int .i64), .own, p3⟩]⟩ = (nm11 p0 p1 p2 p3).run fun r => some (nm11_out p0 p1 p2 p3 r) := fun _ _ _ _ => by kernel_rfl
noncomputable def nm11_G (av : List AV) (rs : List Root) : Tre CallOut :=
 asCons av fun a0_ av0 =>
 asCons av0 fun a1_ av1 =>
 asCons av1 fun a2_ av2 =>
 asCons av2 fun a3_ av3 =>
 asCons av3 fun a4_ av4 =>
 asEnd av4 <|
 asCons rs fun r0_ rs0 =>
 asCons rs0 fun r1_ rs1 =>
 asEnd rs1 <|
 asRef (0, 0) [] a0_ <|
 asImmZ true (.int .i64) a1_ fun d1 =>
 asImmZ true (.int .i64) a2_ fun d2 =>
 asPtr (0, 1) [] a3_ <|
 asFn 123 [] a4_ <|
 asRt false (.sl kMatrix) r0_ fun m3 d4 =>
 asM (.sl (.imm true)) m3 <|
 asRt true (.int .i64) r1_ fun m5 d6 =>
 asM .own m5 <|
 .mat (nm11_F d1 d2 d4 d6) fun r => .ret (nm11_out d1 d2 d4 d6 r)
noncomputable def nm11_c : Ctr := ⟨[0], fun ci => nm11_G ci.args ci.roots, false⟩
theorem nm11_env : EnvOK Try.prog .none nm11_V := (envOK_cons i_spacesc1c1_ok ent123 envOK_nil)
set_option maxRecDepth 100000 in
theorem nm11_ok : Contract Try.prog .none 180 nm11_c := by
 have hl : LoopsOK nm11_V [] nm11_b := loopsOK_nil (by kernel_rfl)
 refine (contract_of (F := nm11_I) tau_tys nm11_env Try.func180 (by kernel_rfl) (by kernel_rfl) (by kernel_rfl) hl [0]).weaken ?_
 rintro ⟨av, rs⟩ co h
 have h : (nm11_G av rs).run some = some co := h
 obtain ⟨a0_, av0, rfl, h_0⟩ := asCons_spec h
 obtain ⟨a1_, av1, rfl, h_1⟩ := asCons_spec h_0
 obtain ⟨a2_, av2, rfl, h_2⟩ := asCons_spec h_1
 obtain ⟨a3_, av3, rfl, h_3⟩ := asCons_spec h_2
 obtain ⟨a4_, av4, rfl, h_4⟩ := asCons_spec h_3
 obtain ⟨rfl, h_5⟩ := asEnd_spec h_4
 obtain ⟨r0_, rs0, rfl, h_6⟩ := asCons_spec h_5
 obtain ⟨r1_, rs1, rfl, h_7⟩ := asCons_spec h_6
 obtain ⟨rfl, h_8⟩ := asEnd_spec h_7
 obtain ⟨rfl, h_9⟩ := asRef_spec h_8
 obtain ⟨d1, rfl, h_10⟩ := asImmZ_spec h_9
 obtain ⟨d2, rfl, h_11⟩ := asImmZ_spec h_10
 obtain ⟨rfl, h_12⟩ := asPtr_spec h_11
 obtain ⟨rfl, h_13⟩ := asFn_spec h_12
 obtain ⟨m3, d4, rfl, h_14⟩ := asRt_spec h_13
 obtain ⟨rfl, h_15⟩ := asM_spec h_14
 obtain ⟨m5, d6, rfl, h_16⟩ := asRt_spec h_15
 obtain ⟨rfl, h_17⟩ := asM_spec h_16
 exact fin_mat (nm11_eq d1 d2 d4 d6) h_17
end Go.Proofs.Ythnkanacjhlhhaa

namespace Go.Proofs.Ythnkanacjhlhhaa
open Go Go.Abs Go.Proofs
noncomputable def nm12 (p0 : Int) (p1 : Int) (p2 : Int) (p3 : (List TMatrix)) (p4 : Int) : Tre (Int × Int) :=
 .mat (nm11_F p0 p1 p3 p4) fun r1 =>
 .mat (nm11_F r1.2.1 p2 p3 r1.2.2) fun r2 =>
 .mat (nm11_F r1.1 r2.1 p3 r2.2.2) fun r3 =>
 .ret (r3.2.1, r3.2.2)
noncomputable def nm12_F (p0 : Int) (p1 : Int) (p2 : Int) (p3 : (List TMatrix)) (p4 : Int) : Option (Int × Int) := (nm12 p0 p1 p2 p3 p4).run some
noncomputable def nm12_V : Env := ⟨tau, [(180, nm11_c)], []⟩
noncomputable def nm12_b : Code := (Try.f170.body).getD .skip
noncomputable def nm12_I : FnI := ⟨nm12_b, Try.f170.results.toList, Try.f170.resultTypes.toList, []⟩
noncomputable def nm12_out (_p0 : Int) (_p1 : Int) (_p2 : Int) (p3 : (List TMatrix)) (_p4 : Int) : (Int × Int) → CallOut := fun r => ⟨(.imm true (.int .i64) r.1), [⟨false, (.sl kMatrix), (.sl (.imm true)), p3⟩, ⟨true, (.int .i64), .own, r.2⟩], []⟩
set_option maxRecDepth 100000 in
theorem nm12_eq : ∀ (p0 : Int) (p1 : Int) (p2 : Int) (p3 : (List TMatrix)) (p4 : Int), denFn nm12_V nm12_I ⟨[(.ref (0, 0) []), (.imm true (.int .i64) p0), (.imm true (.int .i64) p1), (.imm true (.int .i64) p2), (.ptr (0, 1) []), (.fn 123 [])], [⟨false, (.sl kMatrix), (.sl (.imm true)), p3⟩, ⟨true, (.int .i64), .own, p4⟩]⟩ = (nm12 p0 p1 p2 p3 p4).run fun r => some (nm12_out p0 p1 p2 p3 p4 r) := fun _ _ _ _ _ => by kernel_rfl
noncomputable def nm12_G (av : List AV) (rs : List Root) : Tre CallOut :=
 asCons av fun a0_ av0 =>
 asCons av0 fun a1_ av1 =>
 asCons av1 fun a2_ av2 =>
 asCons av2 fun a3_ av3 =>
 asCons av3 fun a4_ av4 =>
 asCons av4 fun a5_ av5 =>
 asEnd av5 <|
 asCons rs fun r0_ rs0 =>
 asCons rs0 fun r1_ rs1 =>
 asEnd rs1 <|
 asRef (0, 0) [] a0_ <|
 asImmZ true (.int .i64) a1_ fun d1 =>
 asImmZ true (.int .i64) a2_ fun d2 =>
 asImmZ true (.int .i64) a3_ fun d3 =>
 asPtr (0, 1) [] a4_ <|
 asFn 123 [] a5_ <|
 asRt false (.sl kMatrix) r0_ fun m4 d5 =>
 asM (.sl (.imm true)) m4 <|
 asRt true (.int .i64) r1_ fun m6 d7 =>
 asM .own m6 <|
 .mat (nm12_F d1 d2 d3 d5 d7) fun r => .ret (nm12_out d1 d2 d3 d5 d7 r)
noncomputable def nm12_c : Ctr := ⟨[0], fun ci => nm12_G ci.args ci.roots, false⟩
theorem nm12_env : EnvOK Try.prog .none nm12_V := (envOK_cons nm11_ok ent180 envOK_nil)
set_option maxRecDepth 100000 in
theorem nm12_ok : Contract Try.prog .none 170 nm12_c := by
 have hl : LoopsOK nm12_V [] nm12_b := loopsOK_nil (by kernel_rfl)
 refine (contract_of (F := nm12_I) tau_tys nm12_env Try.func170 (by kernel_rfl) (by kernel_rfl) (by kernel_rfl) hl [0]).weaken ?_
 rintro ⟨av, rs⟩ co h
 have h : (nm12_G av rs).run some = some co := h
 obtain ⟨a0_, av0, rfl, h_0⟩ := asCons_spec h
 obtain ⟨a1_, av1, rfl, h_1⟩ := asCons_spec h_0
 obtain ⟨a2_, av2, rfl, h_2⟩ := asCons_spec h_1
 obtain ⟨a3_, av3, rfl, h_3⟩ := asCons_spec h_2
 obtain ⟨a4_, av4, rfl, h_4⟩ := asCons_spec h_3
 obtain ⟨a5_, av5, rfl, h_5⟩ := asCons_spec h_4
 obtain ⟨rfl, h_6⟩ := asEnd_spec h_5
 obtain ⟨r0_, rs0, rfl, h_7⟩ := asCons_spec h_6
 obtain ⟨r1_, rs1, rfl, h_8⟩ := asCons_spec h_7
 obtain ⟨rfl, h_9⟩ := asEnd_spec h_8
 obtain ⟨rfl, h_10⟩ := asRef_spec h_9
 obtain ⟨d1, rfl, h_11⟩ := asImmZ_spec h_10
 obtain ⟨d2, rfl, h_12⟩ := asImmZ_spec h_11
 obtain ⟨d3, rfl, h_13⟩ := asImmZ_spec h_12
 obtain ⟨rfl, h_14⟩ := asPtr_spec h_13
 obtain ⟨rfl, h_15⟩ := asFn_spec h_14
 obtain ⟨m4, d5, rfl, h_16⟩ := asRt_spec h_15
 obtain ⟨rfl, h_17⟩ := asM_spec h_16
 obtain ⟨m6, d7, rfl, h_18⟩ := asRt_spec h_17
 obtain ⟨rfl, h_19⟩ := asM_spec h_18
 exact fin_mat (nm12_eq d1 d2 d3 d5 d7) h_19
end Go.Proofs.Ythnkanacjhlhhaa

namespace Go.Proofs.Ythnkanacjhlhhaa
open Go Go.Abs Go.Proofs
noncomputable def nm1 (p0 : Int) (p1 : (List TMatrix)) (p2 : Int) : Tre (Int × Int) :=
 .mat (nm12_F (iwrap .i64 (p0 - 1)) p0 (iwrap .i64 (p0 + 1)) p1 p2) fun r1 =>
 .ret (r1.1, r1.2)
noncomputable def nm1_F (p0 : Int) (p1 : (List TMatrix)) (p2 : Int) : Option (Int × Int) := (nm1 p0 p1 p2).run some
noncomputable def nm1_V : Env := ⟨tau, [(170, nm12_c)], []⟩
noncomputable def nm1_b : Code := (Try.f169.body).getD .skip
noncomputable def nm1_I : FnI := ⟨nm1_b, Try.f169.results.toList, Try.f169.resultTypes.toList, []⟩
noncomputable def nm1_out (_p0 : Int) (p1 : (List TMatrix)) (_p2 : Int) : (Int × Int) → CallOut := fun r => ⟨(.imm true (.int .i64) r.1), [⟨false, (.sl kMatrix), (.sl (.imm true)), p1⟩, ⟨true, (.int .i64), .own, r.2⟩], []⟩
set_option maxRecDepth 100000 in
theorem nm1_eq : ∀ (p0 : Int) (p1 : (List TMatrix)) (p2 : Int), denFn nm1_V nm1_I ⟨[(.ref (0, 0) []), (.imm true (.int .i64) p0), (.ptr (0, 1) []), (.fn 123 [])], [⟨false, (.sl kMatrix), (.sl (.imm true)), p1⟩, ⟨true, (.int .i64), .own, p2⟩]⟩ = (nm1 p0 p1 p2).run fun r => some (nm1_out p0 p1 p2 r) := fun _ _ _ => by kernel_rfl
noncomputable def nm1_G (av : List AV) (rs : List Root) : Tre CallOut :=
 asCons av fun a0_ av0 =>
 asCons av0 fun a1_ av1 =>
 asCons av1 fun a2_ av2 =>
 asCons av2 fun a3_ av3 =>
 asEnd av3 <|
 asCons rs fun r0_ rs0 =>
 asCons rs0 fun r1_ rs1 =>
 asEnd rs1 <|
 asRef (0, 0) [] a0_ <|
 asImmZ true (.int .i64) a1_ fun d1 =>
 asPtr (0, 1) [] a2_ <|
 asFn 123 [] a3_ <|
 asRt false (.sl kMatrix) r0_ fun m2 d3 =>
 asM (.sl (.imm true)) m2 <|
 asRt true (.int .i64) r1_ fun m4 d5 =>
 asM .own m4 <|
 .mat (nm1_F d1 d3 d5) fun r => .ret (nm1_out d1 d3 d5 r)
noncomputable def nm1_c : Ctr := ⟨[0], fun ci => nm1_G ci.args ci.roots, false⟩
theorem nm1_env : EnvOK Try.prog .none nm1_V := (envOK_cons nm12_ok ent170 envOK_nil)
set_option maxRecDepth 100000 in
theorem nm1_ok : Contract Try.prog .none 169 nm1_c := by
 have hl : LoopsOK nm1_V [] nm1_b := loopsOK_nil (by kernel_rfl)
 refine (contract_of (F := nm1_I) tau_tys nm1_env Try.func169 (by kernel_rfl) (by kernel_rfl) (by kernel_rfl) hl [0]).weaken ?_
 rintro ⟨av, rs⟩ co h
 have h : (nm1_G av rs).run some = some co := h
 obtain ⟨a0_, av0, rfl, h_0⟩ := asCons_spec h
 obtain ⟨a1_, av1, rfl, h_1⟩ := asCons_spec h_0
 obtain ⟨a2_, av2, rfl, h_2⟩ := asCons_spec h_1
 obtain ⟨a3_, av3, rfl, h_3⟩ := asCons_spec h_2
 obtain ⟨rfl, h_4⟩ := asEnd_spec h_3
 obtain ⟨r0_, rs0, rfl, h_5⟩ := asCons_spec h_4
 obtain ⟨r1_, rs1, rfl, h_6⟩ := asCons_spec h_5
 obtain ⟨rfl, h_7⟩ := asEnd_spec h_6
 obtain ⟨rfl, h_8⟩ := asRef_spec h_7
 obtain ⟨d1, rfl, h_9⟩ := asImmZ_spec h_8
 obtain ⟨rfl, h_10⟩ := asPtr_spec h_9
 obtain ⟨rfl, h_11⟩ := asFn_spec h_10
 obtain ⟨m2, d3, rfl, h_12⟩ := asRt_spec h_11
 obtain ⟨rfl, h_13⟩ := asM_spec h_12
 obtain ⟨m4, d5, rfl, h_14⟩ := asRt_spec h_13
 obtain ⟨rfl, h_15⟩ := asM_spec h_14
 exact fin_mat (nm1_eq d1 d3 d5) h_15
end Go.Proofs.Ythnkanacjhlhhaa

namespace Go.Proofs.Ythnkanacjhlhhaa
open Go Go.Abs Go.Proofs
noncomputable def nm6 (p0 : Int) (p1 : Int) (p2 : (List TMatrix)) : Tre (Int × Int) :=
 let v1 := iwrap .i64 (Int.tdiv (iwrap .i64 (p1 - p0)) 4)
 let v2 := iwrap .i64 (p0 + (iwrap .i64 (v1 * 1)))
 let v3 := iwrap .i64 (p0 + (iwrap .i64 (v1 * 2)))
 let v4 := iwrap .i64 (p0 + (iwrap .i64 (v1 * 3)))
 .cond (decide (iwrap .i64 (p1 - p0) ≥ 8))
  (.cond (decide (iwrap .i64 (p1 - p0) ≥ 50))
   (.mat (nm1_F v2 p2 0) fun r5 =>
   .mat (nm1_F v3 p2 r5.2) fun r6 =>
   .mat (nm1_F v4 p2 r6.2) fun r7 =>
   .mat (nm12_F r5.1 r6.1 r7.1 p2 r7.2) fun r8 =>
   .cond (decide (r8.2 = 0))
    (.ret (r8.1, 1))
    (.cond (decide (r8.2 = 12))
     (.ret (r8.1, 2))
     (.ret (r8.1, 0))))
   (.mat (nm12_F v2 v3 v4 p2 0) fun r9 =>
   .cond (decide (r9.2 = 0))
    (.ret (r9.1, 1))
    (.cond (decide (r9.2 = 12))
     (.ret (r9.1, 2))
     (.ret (r9.1, 0)))))
  (.ret (v3, 1))
noncomputable def nm6_F (p0 : Int) (p1 : Int) (p2 : (List TMatrix)) : Option (Int × Int) := (nm6 p0 p1 p2).run some
noncomputable def nm6_V : Env := ⟨tau, [(169, nm1_c), (170, nm12_c)], []⟩
noncomputable def nm6_b : Code := (Try.f151.body).getD .skip
noncomputable def nm6_I : FnI := ⟨nm6_b, Try.f151.results.toList, Try.f151.resultTypes.toList, []⟩
noncomputable def nm6_out (_p0 : Int) (_p1 : Int) (p2 : (List TMatrix)) : (Int × Int) → CallOut := fun r => ⟨(.tcons (.imm true (.int .i64) r.1) (.tcons (.imm true (.int .i64) r.2) .tnil)), [⟨false, (.sl kMatrix), (.sl (.imm true)), p2⟩], []⟩
set_option maxRecDepth 100000 in
theorem nm6_eq : ∀ (p0 : Int) (p1 : Int) (p2 : (List TMatrix)), denFn nm6_V nm6_I ⟨[(.ref (0, 0) []), (.imm true (.int .i64) p0), (.imm true (.int .i64) p1), (.fn 123 [])], [⟨false, (.sl kMatrix), (.sl (.imm true)), p2⟩]⟩ = (nm6 p0 p1 p2).run fun r => some (nm6_out p0 p1 p2 r) := fun _ _ _ => by kernel_rfl
noncomputable def nm6_G (av : List AV) (rs : List Root) : Tre CallOut :=
 asCons av fun a0_ av0 =>
 asCons av0 fun a1_ av1 =>
 asCons av1 fun a2_ av2 =>
 asCons av2 fun a3_ av3 =>
 asEnd av3 <|
 asCons rs fun r0_ rs0 =>
 asEnd rs0 <|
 asRef (0, 0) [] a0_ <|
 asImmZ true (.int .i64) a1_ fun d1 =>
 asImmZ true (.int .i64) a2_ fun d2 =>
 asFn 123 [] a3_ <|
 asRt false (.sl kMatrix) r0_ fun m3 d4 =>
 asM (.sl (.imm true)) m3 <|
 .mat (nm6_F d1 d2 d4) fun r => .ret (nm6_out d1 d2 d4 r)
noncomputable def nm6_c : Ctr := ⟨[0], fun ci => nm6_G ci.args ci.roots, false⟩
theorem nm6_env : EnvOK Try.prog .none nm6_V := (envOK_cons nm1_ok ent169 (envOK_cons nm12_ok ent170 envOK_nil))
set_option maxRecDepth 100000 in
theorem nm6_ok : Contract Try.prog .none 151 nm6_c := by
 have hl : LoopsOK nm6_V [] nm6_b := loopsOK_nil (by kernel_rfl)
 refine (contract_of (F := nm6_I) tau_tys nm6_env Try.func151 (by kernel_rfl) (by kernel_rfl) (by kernel_rfl) hl [0]).weaken ?_
 rintro ⟨av, rs⟩ co h
 have h : (nm6_G av rs).run some = some co := h
 obtain ⟨a0_, av0, rfl, h_0⟩ := asCons_spec h
 obtain ⟨a1_, av1, rfl, h_1⟩ := asCons_spec h_0
 obtain ⟨a2_, av2, rfl, h_2⟩ := asCons_spec h_1
 obtain ⟨a3_, av3, rfl, h_3⟩ := asCons_spec h_2
 obtain ⟨rfl, h_4⟩ := asEnd_spec h_3
 obtain ⟨r0_, rs0, rfl, h_5⟩ := asCons_spec h_4
 obtain ⟨rfl, h_6⟩ := asEnd_spec h_5
 obtain ⟨rfl, h_7⟩ := asRef_spec h_6
 obtain ⟨d1, rfl, h_8⟩ := asImmZ_spec h_7
 obtain ⟨d2, rfl, h_9⟩ := asImmZ_spec h_8
 obtain ⟨rfl, h_10⟩ := asFn_spec h_9
 obtain ⟨m3, d4, rfl, h_11⟩ := asRt_spec h_10
 obtain ⟨rfl, h_12⟩ := asM_spec h_11
 exact fin_mat (nm6_eq d1 d2 d4) h_12
end Go.Proofs.Ythnkanacjhlhhaa

namespace Go.Proofs.Ythnkanacjhlhhaa
open Go Go.Abs Go.Proofs
noncomputable def nm5_l2 : (Int × Int × (List TMatrix)) → Tre ((Int × Int × (List TMatrix)) ⊕ (List TMatrix)) := fun s2 =>
 .cond (decide (s2.1 < s2.2.1))
  (.ite (0 ≤ s2.2.1 ∧ s2.2.1 < (s2.2.2.length : Int)) <|
  .mat (s2.2.2[s2.2.1.toNat]?) fun x1 =>
  .ite (0 ≤ s2.1 ∧ s2.1 < (s2.2.2.length : Int)) <|
  .mat (s2.2.2[s2.1.toNat]?) fun x2 =>
  .ite (0 ≤ s2.1 ∧ s2.1 < (s2.2.2.length : Int)) <|
  .mat (s2.2.2[s2.1.toNat]?) fun _ =>
  let v4 := s2.2.2.set s2.1.toNat x1
  .ite (0 ≤ s2.2.1 ∧ s2.2.1 < (v4.length : Int)) <|
  .mat (v4[s2.2.1.toNat]?) fun _ =>
  .ret (.inl (iwrap .i64 (s2.1 + 1), iwrap .i64 (s2.2.1 - 1), v4.set s2.2.1.toNat x2)))
  (.ret (.inr s2.2.2))
noncomputable def nm5 (p0 : Int) (p1 : Int) (p2 : (List TMatrix)) : Tre (List TMatrix) :=
 .mat (loopF nm5_l2 (p0, iwrap .i64 (p1 - 1), p2)) fun l6 =>
 .ret l6
noncomputable def nm5_F (p0 : Int) (p1 : Int) (p2 : (List TMatrix)) : Option (List TMatrix) := (nm5 p0 p1 p2).run some
noncomputable def nm5_V : Env := ⟨tau, [], []⟩
noncomputable def nm5_b : Code := (Try.f152.body).getD .skip
noncomputable def nm5_l2_mk : (Int × Int × (List TMatrix)) → St := fun x => stOf [(0, (.ref (0, 0) [])), (8, (.imm true (.int .i64) x.1)), (9, (.imm true (.int .i64) x.2.1))] [((0, 0), some ⟨false, (.sl kMatrix), (.sl (.imm true)), x.2.2⟩)]
noncomputable def nm5_l2_out : (List TMatrix) → Ex × St := fun x => (.exit 0, stOf [] [((0, 0), some ⟨false, (.sl kMatrix), (.sl (.imm true)), x⟩)])
noncomputable def nm5_l2_D (s : St) : Tre (Ex × St) :=
 asRef (0, 0) [] (s.tmps 0) <|
 asImmZ true (.int .i64) (s.tmps 8) fun d3 =>
 asImmZ true (.int .i64) (s.tmps 9) fun d5 =>
 asRoot false (.sl kMatrix) (s.roots (0, 0)) fun m7 d8 =>
 asM (.sl (.imm true)) m7 <|
 .mat (loopF nm5_l2 (d3, d5, d8)) fun x => .ret (nm5_l2_out x)
noncomputable def nm5_l2_L : LoopI := ⟨([0, 8, 9], [(0, 0)]), ([], [(0, 0)]), nm5_l2_D⟩
noncomputable def nm5_A : List (Nat × LoopI) := [(2, nm5_l2_L)]
set_option maxRecDepth 100000 in
theorem nm5_l2_step : ∀ (x : (Int × Int × (List TMatrix))) (c : St → Option (Ex × St)), den nm5_V nm5_A (loopAt nm5_b 0) (nm5_l2_mk x) (roundK nm5_l2_L.kp nm5_l2_L.kx c) = (nm5_l2 x).run (roundR (nm5_l2_mk) (nm5_l2_out) c) := fun _ _ => by
 kernel_rfl
theorem nm5_l2_ok : LoopOK nm5_V nm5_A (loopAt nm5_b 0) nm5_l2_L := loopOK_of fun s e s' h => by
 generalize hs : restrict nm5_l2_L.kp s = s1 at h
 have h : (nm5_l2_D s1).run some = some (e, s') := h
 obtain ⟨e1, h_0⟩ := asRef_spec h
 obtain ⟨d3, e2, h_1⟩ := asImmZ_spec h_0
 obtain ⟨d5, e4, h_2⟩ := asImmZ_spec h_1
 obtain ⟨m7, d8, e6, h_3⟩ := asRoot_spec h_2
 obtain ⟨rfl, h_4⟩ := asM_spec h_3
 obtain ⟨y, hy, hz⟩ := mat_ret h_4
 refine ⟨_, _, nm5_l2_mk, nm5_l2_out, nm5_l2, (d3, d5, d8), y, ?_, hy, ?_, nm5_l2_step⟩
 ·subst hs; exact restrict_eq (T := [(0, (.ref (0, 0) [])), (8, (.imm true (.int .i64) d3)), (9, (.imm true (.int .i64) d5))]) (U := [((0, 0), some ⟨false, (.sl kMatrix), (.sl (.imm true)), d8⟩)]) rfl rfl ⟨e1, e2, e4, trivial⟩ ⟨e6, trivial⟩
 ·exact Option.some.inj hz
noncomputable def nm5_I : FnI := ⟨nm5_b, Try.f152.results.toList, Try.f152.resultTypes.toList, nm5_A⟩
noncomputable def nm5_out (_p0 : Int) (_p1 : Int) (_p2 : (List TMatrix)) : (List TMatrix) → CallOut := fun r => ⟨.tnil, [⟨false, (.sl kMatrix), (.sl (.imm true)), r⟩], []⟩
set_option maxRecDepth 100000 in
theorem nm5_eq : ∀ (p0 : Int) (p1 : Int) (p2 : (List TMatrix)), denFn nm5_V nm5_I ⟨[(.ref (0, 0) []), (.imm true (.int .i64) p0), (.imm true (.int .i64) p1), (.fn 123 [])], [⟨false, (.sl kMatrix), (.sl (.imm true)), p2⟩]⟩ = (nm5 p0 p1 p2).run fun r => some (nm5_out p0 p1 p2 r) := fun _ _ _ => by kernel_rfl
noncomputable def nm5_G (av : List AV) (rs : List Root) : Tre CallOut :=
 asCons av fun a0_ av0 =>
 asCons av0 fun a1_ av1 =>
 asCons av1 fun a2_ av2 =>
 asCons av2 fun a3_ av3 =>
 asEnd av3 <|
 asCons rs fun r0_ rs0 =>
 asEnd rs0 <|
 asRef (0, 0) [] a0_ <|
 asImmZ true (.int .i64) a1_ fun d1 =>
 asImmZ true (.int .i64) a2_ fun d2 =>
 asFn 123 [] a3_ <|
 asRt false (.sl kMatrix) r0_ fun m3 d4 =>
 asM (.sl (.imm true)) m3 <|
 .mat (nm5_F d1 d2 d4) fun r => .ret (nm5_out d1 d2 d4 r)
noncomputable def nm5_c : Ctr := ⟨[0], fun ci => nm5_G ci.args ci.roots, false⟩
theorem nm5_env : EnvOK Try.prog .none nm5_V := envOK_nil
set_option maxRecDepth 100000 in
theorem nm5_ok : Contract Try.prog .none 152 nm5_c := by
 have hl : LoopsOK nm5_V nm5_A nm5_b := (loopsOK_all (n := 1) (by kernel_rfl) fun k hk => by
   match k, hk with
   | 0, _ => exact loopOK_at (id := 2) (L := nm5_l2_L) (by kernel_rfl) (by kernel_rfl) nm5_l2_ok)
 refine (contract_of (F := nm5_I) tau_tys nm5_env Try.func152 (by kernel_rfl) (by kernel_rfl) (by kernel_rfl) hl [0]).weaken ?_
 rintro ⟨av, rs⟩ co h
 have h : (nm5_G av rs).run some = some co := h
 obtain ⟨a0_, av0, rfl, h_0⟩ := asCons_spec h
 obtain ⟨a1_, av1, rfl, h_1⟩ := asCons_spec h_0
 obtain ⟨a2_, av2, rfl, h_2⟩ := asCons_spec h_1
 obtain ⟨a3_, av3, rfl, h_3⟩ := asCons_spec h_2
 obtain ⟨rfl, h_4⟩ := asEnd_spec h_3
 obtain ⟨r0_, rs0, rfl, h_5⟩ := asCons_spec h_4
 obtain ⟨rfl, h_6⟩ := asEnd_spec h_5
 obtain ⟨rfl, h_7⟩ := asRef_spec h_6
 obtain ⟨d1, rfl, h_8⟩ := asImmZ_spec h_7
 obtain ⟨d2, rfl, h_9⟩ := asImmZ_spec h_8
 obtain ⟨rfl, h_10⟩ := asFn_spec h_9
 obtain ⟨m3, d4, rfl, h_11⟩ := asRt_spec h_10
 obtain ⟨rfl, h_12⟩ := asM_spec h_11
 exact fin_mat (nm5_eq d1 d2 d4) h_12
end Go.Proofs.Ythnkanacjhlhhaa

namespace Go.Proofs.Ythnkanacjhlhhaa
open Go Go.Abs Go.Proofs
noncomputable def nm0_l5 (h5_0_1 : Int) (h5_0_4 : (List TMatrix)) : Int → Tre (Int ⊕ Int) := fun s5 =>
 .cond (decide (s5 < h5_0_1))
  (.ite (0 ≤ s5 ∧ s5 < (h5_0_4.length : Int)) <|
  .mat (h5_0_4[s5.toNat]?) fun x1 =>
  .ite (0 ≤ iwrap .i64 (s5 - 1) ∧ iwrap .i64 (s5 - 1) < (h5_0_4.length : Int)) <|
  .mat (h5_0_4[(iwrap .i64 (s5 - 1)).toNat]?) fun x2 =>
  .mat (i_spacesc1c1_F x1 x2) fun r3 =>
  .cond (!(decide (r3 < 0)))
   (.ret (.inl (iwrap .i64 (s5 + 1))))
   (.ret (.inr s5)))
  (.ret (.inr s5))
noncomputable def nm0_l14 : (Int × (List TMatrix)) → Tre ((Int × (List TMatrix)) ⊕ (List TMatrix)) := fun s14 =>
 .cond (decide (s14.1 ≥ 1))
  (.ite (0 ≤ s14.1 ∧ s14.1 < (s14.2.length : Int)) <|
  .mat (s14.2[s14.1.toNat]?) fun x11 =>
  .ite (0 ≤ iwrap .i64 (s14.1 - 1) ∧ iwrap .i64 (s14.1 - 1) < (s14.2.length : Int)) <|
  .mat (s14.2[(iwrap .i64 (s14.1 - 1)).toNat]?) fun x12 =>
  .mat (i_spacesc1c1_F x11 x12) fun r13 =>
  .cond (!(decide (r13 < 0)))
   (.ret (.inr s14.2))
   (.ite (0 ≤ iwrap .i64 (s14.1 - 1) ∧ iwrap .i64 (s14.1 - 1) < (s14.2.length : Int)) <|
   .mat (s14.2[(iwrap .i64 (s14.1 - 1)).toNat]?) fun x14 =>
   .ite (0 ≤ s14.1 ∧ s14.1 < (s14.2.length : Int)) <|
   .mat (s14.2[s14.1.toNat]?) fun x15 =>
   .ite (0 ≤ s14.1 ∧ s14.1 < (s14.2.length : Int)) <|
   .mat (s14.2[s14.1.toNat]?) fun _ =>
   let v17 := s14.2.set s14.1.toNat x14
   .ite (0 ≤ iwrap .i64 (s14.1 - 1) ∧ iwrap .i64 (s14.1 - 1) < (v17.length : Int)) <|
   .mat (v17[(iwrap .i64 (s14.1 - 1)).toNat]?) fun _ =>
   let v19 := v17.set ((iwrap .i64 (s14.1 - 1)).toNat) x15
   .ret (.inl (iwrap .i64 (s14.1 - 1), v19))))
  (.ret (.inr s14.2))
noncomputable def nm0_l20 (h20_0_1 : Int) : (Int × (List TMatrix)) → Tre ((Int × (List TMatrix)) ⊕ (List TMatrix)) := fun s20 =>
 .cond (decide (s20.1 < h20_0_1))
  (.ite (0 ≤ s20.1 ∧ s20.1 < (s20.2.length : Int)) <|
  .mat (s20.2[s20.1.toNat]?) fun x21 =>
  .ite (0 ≤ iwrap .i64 (s20.1 - 1) ∧ iwrap .i64 (s20.1 - 1) < (s20.2.length : Int)) <|
  .mat (s20.2[(iwrap .i64 (s20.1 - 1)).toNat]?) fun x22 =>
  .mat (i_spacesc1c1_F x21 x22) fun r23 =>
  .cond (!(decide (r23 < 0)))
   (.ret (.inr s20.2))
   (.ite (0 ≤ iwrap .i64 (s20.1 - 1) ∧ iwrap .i64 (s20.1 - 1) < (s20.2.length : Int)) <|
   .mat (s20.2[(iwrap .i64 (s20.1 - 1)).toNat]?) fun x24 =>
   .ite (0 ≤ s20.1 ∧ s20.1 < (s20.2.length : Int)) <|
   .mat (s20.2[s20.1.toNat]?) fun x25 =>
   .ite (0 ≤ s20.1 ∧ s20.1 < (s20.2.length : Int)) <|
   .mat (s20.2[s20.1.toNat]?) fun _ =>
   let v27 := s20.2.set s20.1.toNat x24
   .ite (0 ≤ iwrap .i64 (s20.1 - 1) ∧ iwrap .i64 (s20.1 - 1) < (v27.length : Int)) <|
   .mat (v27[(iwrap .i64 (s20.1 - 1)).toNat]?) fun _ =>
   let v29 := v27.set ((iwrap .i64 (s20.1 - 1)).toNat) x25
   .ret (.inl (iwrap .i64 (s20.1 + 1), v29))))
  (.ret (.inr s20.2))
noncomputable def nm0_l3 (h3_0_0 : Int) (h3_0_1 : Int) : (Int × Int × (List TMatrix)) → Tre ((Int × Int × (List TMatrix)) ⊕ ((Bool × (List TMatrix)) ⊕ (List TMatrix))) := fun s3 =>
 .cond (decide (s3.2.1 < 5))
  (.mat (loopF (nm0_l5 h3_0_1 s3.2.2) s3.1) fun l4 =>
  .cond (decide (l4 = h3_0_1))
   (.ret (.inr (.inl (true, s3.2.2))))
   (let v5 := iwrap .i64 (h3_0_1 - h3_0_0)
   .cond (decide (v5 < 50))
    (.ret (.inr (.inl (false, s3.2.2))))
    (.ite (0 ≤ iwrap .i64 (l4 - 1) ∧ iwrap .i64 (l4 - 1) < (s3.2.2.length : Int)) <|
    .mat (s3.2.2[(iwrap .i64 (l4 - 1)).toNat]?) fun x6 =>
    .ite (0 ≤ l4 ∧ l4 < (s3.2.2.length : Int)) <|
    .mat (s3.2.2[l4.toNat]?) fun x7 =>
    .ite (0 ≤ l4 ∧ l4 < (s3.2.2.length : Int)) <|
    .mat (s3.2.2[l4.toNat]?) fun _ =>
    .ite (0 ≤ iwrap .i64 (l4 - 1) ∧ iwrap .i64 (l4 - 1) < ((s3.2.2.set l4.toNat x6).length : Int)) <|
    .mat ((s3.2.2.set l4.toNat x6)[(iwrap .i64 (l4 - 1)).toNat]?) fun _ =>
    let v10 := (s3.2.2.set l4.toNat x6).set ((iwrap .i64 (l4 - 1)).toNat) x7
    .cond (decide (iwrap .i64 (l4 - h3_0_0) ≥ 2))
     (.mat (loopF nm0_l14 (iwrap .i64 (l4 - 1), v10)) fun l20 =>
     .cond (decide (iwrap .i64 (h3_0_1 - l4) ≥ 2))
      (.mat (loopF (nm0_l20 h3_0_1) (iwrap .i64 (l4 + 1), l20)) fun l30 =>
      .ret (.inl (l4, iwrap .i64 (s3.2.1 + 1), l30)))
      (.ret (.inl (l4, iwrap .i64 (s3.2.1 + 1), l20))))
     (.cond (decide (iwrap .i64 (h3_0_1 - l4) ≥ 2))
      (.mat (loopF (nm0_l20 h3_0_1) (iwrap .i64 (l4 + 1), v10)) fun l31 =>
      .ret (.inl (l4, iwrap .i64 (s3.2.1 + 1), l31)))
      (.ret (.inl (l4, iwrap .i64 (s3.2.1 + 1), v10)))))))
  (.ret (.inr (.inr s3.2.2)))
noncomputable def nm0 (p0 : Int) (p1 : Int) (p2 : (List TMatrix)) : Tre (Bool × (List TMatrix)) :=
 .mat (loopF (nm0_l3 p0 p1) (iwrap .i64 (p0 + 1), 0, p2)) fun l32 =>
 .alt l32
  (fun a33 =>
   .ret (a33.1, a33.2))
  (fun b34 =>
   .ret (false, b34))
noncomputable def nm0_F (p0 : Int) (p1 : Int) (p2 : (List TMatrix)) : Option (Bool × (List TMatrix)) := (nm0 p0 p1 p2).run some
noncomputable def nm0_V : Env := ⟨tau, [(123, i_spacesc1c1_c)], []⟩
noncomputable def nm0_b : Code := (Try.f153.body).getD .skip
noncomputable def nm0_l5_mk (h5_0_0 : Int) (h5_0_1 : Int) (h5_0_3 : Int) (h5_0_4 : (List TMatrix)) : Int → St := fun x => stOf [(0, (.ref (0, 0) [])), (1, (.imm true (.int .i64) h5_0_0)), (2, (.imm true (.int .i64) h5_0_1)), (3, (.fn 123 [])), (9, (.imm true (.int .i64) x)), (10, (.imm true (.int .i64) h5_0_3))] [((0, 0), some ⟨false, (.sl kMatrix), (.sl (.imm true)), h5_0_4⟩)]
noncomputable def nm0_l5_out (h5_0_0 : Int) (h5_0_1 : Int) (h5_0_3 : Int) (h5_0_4 : (List TMatrix)) : Int → Ex × St := fun x => (.exit 2, stOf [(0, (.ref (0, 0) [])), (1, (.imm true (.int .i64) h5_0_0)), (2, (.imm true (.int .i64) h5_0_1)), (3, (.fn 123 [])), (9, (.imm true (.int .i64) x)), (10, (.imm true (.int .i64) h5_0_3))] [((0, 0), some ⟨false, (.sl kMatrix), (.sl (.imm true)), h5_0_4⟩)])
noncomputable def nm0_l5_D (s : St) : Tre (Ex × St) :=
 asRef (0, 0) [] (s.tmps 0) <|
 asImmZ true (.int .i64) (s.tmps 1) fun d3 =>
 asImmZ true (.int .i64) (s.tmps 2) fun d5 =>
 asFn 123 [] (s.tmps 3) <|
 asImmZ true (.int .i64) (s.tmps 9) fun d8 =>
 asImmZ true (.int .i64) (s.tmps 10) fun d10 =>
 asRoot false (.sl kMatrix) (s.roots (0, 0)) fun m12 d13 =>
 asM (.sl (.imm true)) m12 <|
 .mat (loopF (nm0_l5 d5 d13) d8) fun x => .ret (nm0_l5_out d3 d5 d10 d13 x)
noncomputable def nm0_l5_L : LoopI := ⟨([0, 1, 2, 3, 9, 10], [(0, 0)]), ([0, 1, 2, 3, 9, 10], [(0, 0)]), nm0_l5_D⟩
noncomputable def nm0_l14_mk (h14_0_0 : Int) (h14_0_1 : Int) (h14_0_2 : Int) (h14_0_3 : Int) : (Int × (List TMatrix)) → St := fun x => stOf [(0, (.ref (0, 0) [])), (1, (.imm true (.int .i64) h14_0_0)), (2, (.imm true (.int .i64) h14_0_1)), (3, (.fn 123 [])), (9, (.imm true (.int .i64) h14_0_2)), (10, (.imm true (.int .i64) h14_0_3)), (11, (.imm true (.int .i64) x.1))] [((0, 0), some ⟨false, (.sl kMatrix), (.sl (.imm true)), x.2⟩)]
noncomputable def nm0_l14_out (h14_0_0 : Int) (h14_0_1 : Int) (h14_0_2 : Int) (h14_0_3 : Int) : (List TMatrix) → Ex × St := fun x => (.exit 4, stOf [(0, (.ref (0, 0) [])), (1, (.imm true (.int .i64) h14_0_0)), (2, (.imm true (.int .i64) h14_0_1)), (3, (.fn 123 [])), (9, (.imm true (.int .i64) h14_0_2)), (10, (.imm true (.int .i64) h14_0_3))] [((0, 0), some ⟨false, (.sl kMatrix), (.sl (.imm true)), x⟩)])
noncomputable def nm0_l14_D (s : St) : Tre (Ex × St) :=
 asRef (0, 0) [] (s.tmps 0) <|
 asImmZ true (.int .i64) (s.tmps 1) fun d3 =>
 asImmZ true (.int .i64) (s.tmps 2) fun d5 =>
 asFn 123 [] (s.tmps 3) <|
 asImmZ true (.int .i64) (s.tmps 9) fun d8 =>
 asImmZ true (.int .i64) (s.tmps 10) fun d10 =>
 asImmZ true (.int .i64) (s.tmps 11) fun d12 =>
 asRoot false (.sl kMatrix) (s.roots (0, 0)) fun m14 d15 =>
 asM (.sl (.imm true)) m14 <|
 .mat (loopF nm0_l14 (d12, d15)) fun x => .ret (nm0_l14_out d3 d5 d8 d10 x)
noncomputable def nm0_l14_L : LoopI := ⟨([0, 1, 2, 3, 9, 10, 11], [(0, 0)]), ([0, 1, 2, 3, 9, 10], [(0, 0)]), nm0_l14_D⟩
noncomputable def nm0_l20_mk (h20_0_0 : Int) (h20_0_1 : Int) (h20_0_2 : Int) (h20_0_3 : Int) : (Int × (List TMatrix)) → St := fun x => stOf [(0, (.ref (0, 0) [])), (1, (.imm true (.int .i64) h20_0_0)), (2, (.imm true (.int .i64) h20_0_1)), (3, (.fn 123 [])), (9, (.imm true (.int .i64) h20_0_2)), (10, (.imm true (.int .i64) h20_0_3)), (12, (.imm true (.int .i64) x.1))] [((0, 0), some ⟨false, (.sl kMatrix), (.sl (.imm true)), x.2⟩)]
noncomputable def nm0_l20_out (h20_0_0 : Int) (h20_0_1 : Int) (h20_0_2 : Int) (h20_0_3 : Int) : (List TMatrix) → Ex × St := fun x => (.exit 6, stOf [(0, (.ref (0, 0) [])), (1, (.imm true (.int .i64) h20_0_0)), (2, (.imm true (.int .i64) h20_0_1)), (3, (.fn 123 [])), (9, (.imm true (.int .i64) h20_0_2)), (10, (.imm true (.int .i64) h20_0_3))] [((0, 0), some ⟨false, (.sl kMatrix), (.sl (.imm true)), x⟩)])
noncomputable def nm0_l20_D (s : St) : Tre (Ex × St) :=
 asRef (0, 0) [] (s.tmps 0) <|
 asImmZ true (.int .i64) (s.tmps 1) fun d3 =>
 asImmZ true (.int .i64) (s.tmps 2) fun d5 =>
 asFn 123 [] (s.tmps 3) <|
 asImmZ true (.int .i64) (s.tmps 9) fun d8 =>
 asImmZ true (.int .i64) (s.tmps 10) fun d10 =>
 asImmZ true (.int .i64) (s.tmps 12) fun d12 =>
 asRoot false (.sl kMatrix) (s.roots (0, 0)) fun m14 d15 =>
 asM (.sl (.imm true)) m14 <|
 .mat (loopF (nm0_l20 d5) (d12, d15)) fun x => .ret (nm0_l20_out d3 d5 d8 d10 x)
noncomputable def nm0_l20_L : LoopI := ⟨([0, 1, 2, 3, 9, 10, 12], [(0, 0)]), ([0, 1, 2, 3, 9, 10], [(0, 0)]), nm0_l20_D⟩
noncomputable def nm0_l3_mk (h3_0_0 : Int) (h3_0_1 : Int) : (Int × Int × (List TMatrix)) → St := fun x => stOf [(0, (.ref (0, 0) [])), (1, (.imm true (.int .i64) h3_0_0)), (2, (.imm true (.int .i64) h3_0_1)), (3, (.fn 123 [])), (9, (.imm true (.int .i64) x.1)), (10, (.imm true (.int .i64) x.2.1))] [((0, 0), some ⟨false, (.sl kMatrix), (.sl (.imm true)), x.2.2⟩)]
noncomputable def nm0_l3_out (_h3_0_0 : Int) (_h3_0_1 : Int) : ((Bool × (List TMatrix)) ⊕ (List TMatrix)) → Ex × St
 | .inl x => (.ret, stOf [(8, (.imm true .bool x.1))] [((0, 0), some ⟨false, (.sl kMatrix), (.sl (.imm true)), x.2⟩)])
 | .inr x => (.exit 0, stOf [(8, .dead)] [((0, 0), some ⟨false, (.sl kMatrix), (.sl (.imm true)), x⟩)])
noncomputable def nm0_l3_D (s : St) : Tre (Ex × St) :=
 asRef (0, 0) [] (s.tmps 0) <|
 asImmZ true (.int .i64) (s.tmps 1) fun d3 =>
 asImmZ true (.int .i64) (s.tmps 2) fun d5 =>
 asFn 123 [] (s.tmps 3) <|
 asImmZ true (.int .i64) (s.tmps 9) fun d8 =>
 asImmZ true (.int .i64) (s.tmps 10) fun d10 =>
 asRoot false (.sl kMatrix) (s.roots (0, 0)) fun m12 d13 =>
 asM (.sl (.imm true)) m12 <|
 .mat (loopF (nm0_l3 d3 d5) (d8, d10, d13)) fun x => .alt x (fun a0 => .ret (nm0_l3_out d3 d5 (.inl a0))) (fun b0 => .ret (nm0_l3_out d3 d5 (.inr b0)))
noncomputable def nm0_l3_L : LoopI := ⟨([0, 1, 2, 3, 9, 10], [(0, 0)]), ([8], [(0, 0)]), nm0_l3_D⟩
noncomputable def nm0_A : List (Nat × LoopI) := [(5, nm0_l5_L), (14, nm0_l14_L), (20, nm0_l20_L), (3, nm0_l3_L)]
set_option maxRecDepth 100000 in
theorem nm0_l5_step : ∀ (h5_0_0 : Int) (h5_0_1 : Int) (h5_0_3 : Int) (h5_0_4 : (List TMatrix)) (x : Int) (c : St → Option (Ex × St)), den nm0_V nm0_A (loopAt nm0_b 1) (nm0_l5_mk h5_0_0 h5_0_1 h5_0_3 h5_0_4 x) (roundK nm0_l5_L.kp nm0_l5_L.kx c) = (nm0_l5 h5_0_1 h5_0_4 x).run (roundR (nm0_l5_mk h5_0_0 h5_0_1 h5_0_3 h5_0_4) (nm0_l5_out h5_0_0 h5_0_1 h5_0_3 h5_0_4) c) := fun _ _ _ _ _ _ => by
 kernel_rfl
theorem nm0_l5_ok : LoopOK nm0_V nm0_A (loopAt nm0_b 1) nm0_l5_L := loopOK_of fun s e s' h => by
 generalize hs : restrict nm0_l5_L.kp s = s1 at h
 have h : (nm0_l5_D s1).run some = some (e, s') := h
 obtain ⟨e1, h_0⟩ := asRef_spec h
 obtain ⟨d3, e2, h_1⟩ := asImmZ_spec h_0
 obtain ⟨d5, e4, h_2⟩ := asImmZ_spec h_1
 obtain ⟨e6, h_3⟩ := asFn_spec h_2
 obtain ⟨d8, e7, h_4⟩ := asImmZ_spec h_3
 obtain ⟨d10, e9, h_5⟩ := asImmZ_spec h_4
 obtain ⟨m12, d13, e11, h_6⟩ := asRoot_spec h_5
 obtain ⟨rfl, h_7⟩ := asM_spec h_6
 obtain ⟨y, hy, hz⟩ := mat_ret h_7
 refine ⟨_, _, nm0_l5_mk d3 d5 d10 d13, nm0_l5_out d3 d5 d10 d13, nm0_l5 d5 d13, d8, y, ?_, hy, ?_, nm0_l5_step d3 d5 d10 d13⟩
 ·subst hs; exact restrict_eq (T := [(0, (.ref (0, 0) [])), (1, (.imm true (.int .i64) d3)), (2, (.imm true (.int .i64) d5)), (3, (.fn 123 [])), (9, (.imm true (.int .i64) d8)), (10, (.imm true (.int .i64) d10))]) (U := [((0, 0), some ⟨false, (.sl kMatrix), (.sl (.imm true)), d13⟩)]) rfl rfl ⟨e1, e2, e4, e6, e7, e9, trivial⟩ ⟨e11, trivial⟩
 ·exact Option.some.inj hz
set_option maxRecDepth 100000 in
theorem nm0_l14_step : ∀ (h14_0_0 : Int) (h14_0_1 : Int) (h14_0_2 : Int) (h14_0_3 : Int) (x : (Int × (List TMatrix))) (c : St → Option (Ex × St)), den nm0_V nm0_A (loopAt nm0_b 2) (nm0_l14_mk h14_0_0 h14_0_1 h14_0_2 h14_0_3 x) (roundK nm0_l14_L.kp nm0_l14_L.kx c) = (nm0_l14 x).run (roundR (nm0_l14_mk h14_0_0 h14_0_1 h14_0_2 h14_0_3) (nm0_l14_out h14_0_0 h14_0_1 h14_0_2 h14_0_3) c) := fun _ _ _ _ _ _ => by
 kernel_rfl
theorem nm0_l14_ok : LoopOK nm0_V nm0_A (loopAt nm0_b 2) nm0_l14_L := loopOK_of fun s e s' h => by
 generalize hs : restrict nm0_l14_L.kp s = s1 at h
 have h : (nm0_l14_D s1).run some = some (e, s') := h
 obtain ⟨e1, h_0⟩ := asRef_spec h
 obtain ⟨d3, e2, h_1⟩ := asImmZ_spec h_0
 obtain ⟨d5, e4, h_2⟩ := asImmZ_spec h_1
 obtain ⟨e6, h_3⟩ := asFn_spec h_2
 obtain ⟨d8, e7, h_4⟩ := asImmZ_spec h_3
 obtain ⟨d10, e9, h_5⟩ := asImmZ_spec h_4
 obtain ⟨d12, e11, h_6⟩ := asImmZ_spec h_5
 obtain ⟨m14, d15, e13, h_7⟩ := asRoot_spec h_6
 obtain ⟨rfl, h_8⟩ := asM_spec h_7
 obtain ⟨y, hy, hz⟩ := mat_ret h_8
 refine ⟨_, _, nm0_l14_mk d3 d5 d8 d10, nm0_l14_out d3 d5 d8 d10, nm0_l14, (d12, d15), y, ?_, hy, ?_, nm0_l14_step d3 d5 d8 d10⟩
 ·subst hs; exact restrict_eq (T := [(0, (.ref (0, 0) [])), (1, (.imm true (.int .i64) d3)), (2, (.imm true (.int .i64) d5)), (3, (.fn 123 [])), (9, (.imm true (.int .i64) d8)), (10, (.imm true (.int .i64) d10)), (11, (.imm true (.int .i64) d12))]) (U := [((0, 0), some ⟨false, (.sl kMatrix), (.sl (.imm true)), d15⟩)]) rfl rfl ⟨e1, e2, e4, e6, e7, e9, e11, trivial⟩ ⟨e13, trivial⟩
 ·exact Option.some.inj hz
set_option maxRecDepth 100000 in
theorem nm0_l20_step : ∀ (h20_0_0 : Int) (h20_0_1 : Int) (h20_0_2 : Int) (h20_0_3 : Int) (x : (Int × (List TMatrix))) (c : St → Option (Ex × St)), den nm0_V nm0_A (loopAt nm0_b 3) (nm0_l20_mk h20_0_0 h20_0_1 h20_0_2 h20_0_3 x) (roundK nm0_l20_L.kp nm0_l20_L.kx c) = (nm0_l20 h20_0_1 x).run (roundR (nm0_l20_mk h20_0_0 h20_0_1 h20_0_2 h20_0_3) (nm0_l20_out h20_0_0 h20_0_1 h20_0_2 h20_0_3) c) := fun _ _ _ _ _ _ => by
 kernel_rfl
theorem nm0_l20_ok : LoopOK nm0_V nm0_A (loopAt nm0_b 3) nm0_l20_L := loopOK_of fun s e s' h => by
 generalize hs : restrict nm0_l20_L.kp s = s1 at h
 have h : (nm0_l20_D s1).run some = some (e, s') := h
 obtain ⟨e1, h_0⟩ := asRef_spec h
 obtain ⟨d3, e2, h_1⟩ := asImmZ_spec h_0
 obtain ⟨d5, e4, h_2⟩ := asImmZ_spec h_1
 obtain ⟨e6, h_3⟩ := asFn_spec h_2
 obtain ⟨d8, e7, h_4⟩ := asImmZ_spec h_3
 obtain ⟨d10, e9, h_5⟩ := asImmZ_spec h_4
 obtain ⟨d12, e11, h_6⟩ := asImmZ_spec h_5
 obtain ⟨m14, d15, e13, h_7⟩ := asRoot_spec h_6
 obtain ⟨rfl, h_8⟩ := asM_spec h_7
 obtain ⟨y, hy, hz⟩ := mat_ret h_8
 refine ⟨_, _, nm0_l20_mk d3 d5 d8 d10, nm0_l20_out d3 d5 d8 d10, nm0_l20 d5, (d12, d15), y, ?_, hy, ?_, nm0_l20_step d3 d5 d8 d10⟩
 ·subst hs; exact restrict_eq (T := [(0, (.ref (0, 0) [])), (1, (.imm true (.int .i64) d3)), (2, (.imm true (.int .i64) d5)), (3, (.fn 123 [])), (9, (.imm true (.int .i64) d8)), (10, (.imm true (.int .i64) d10)), (12, (.imm true (.int .i64) d12))]) (U := [((0, 0), some ⟨false, (.sl kMatrix), (.sl (.imm true)), d15⟩)]) rfl rfl ⟨e1, e2, e4, e6, e7, e9, e11, trivial⟩ ⟨e13, trivial⟩
 ·exact Option.some.inj hz
set_option maxRecDepth 100000 in
theorem nm0_l3_step : ∀ (h3_0_0 : Int) (h3_0_1 : Int) (x : (Int × Int × (List TMatrix))) (c : St → Option (Ex × St)), den nm0_V nm0_A (loopAt nm0_b 0) (nm0_l3_mk h3_0_0 h3_0_1 x) (roundK nm0_l3_L.kp nm0_l3_L.kx c) = (nm0_l3 h3_0_0 h3_0_1 x).run (roundR (nm0_l3_mk h3_0_0 h3_0_1) (nm0_l3_out h3_0_0 h3_0_1) c) := fun _ _ _ _ => by
 kernel_rfl
theorem nm0_l3_ok : LoopOK nm0_V nm0_A (loopAt nm0_b 0) nm0_l3_L := loopOK_of fun s e s' h => by
 generalize hs : restrict nm0_l3_L.kp s = s1 at h
 have h : (nm0_l3_D s1).run some = some (e, s') := h
 obtain ⟨e1, h_0⟩ := asRef_spec h
 obtain ⟨d3, e2, h_1⟩ := asImmZ_spec h_0
 obtain ⟨d5, e4, h_2⟩ := asImmZ_spec h_1
 obtain ⟨e6, h_3⟩ := asFn_spec h_2
 obtain ⟨d8, e7, h_4⟩ := asImmZ_spec h_3
 obtain ⟨d10, e9, h_5⟩ := asImmZ_spec h_4
 obtain ⟨m12, d13, e11, h_6⟩ := asRoot_spec h_5
 obtain ⟨rfl, h_7⟩ := asM_spec h_6
 obtain ⟨y, hy, hz⟩ := mat_some h_7
 refine ⟨_, _, nm0_l3_mk d3 d5, nm0_l3_out d3 d5, nm0_l3 d3 d5, (d8, d10, d13), y, ?_, hy, ?_, nm0_l3_step d3 d5⟩
 ·subst hs; exact restrict_eq (T := [(0, (.ref (0, 0) [])), (1, (.imm true (.int .i64) d3)), (2, (.imm true (.int .i64) d5)), (3, (.fn 123 [])), (9, (.imm true (.int .i64) d8)), (10, (.imm true (.int .i64) d10))]) (U := [((0, 0), some ⟨false, (.sl kMatrix), (.sl (.imm true)), d13⟩)]) rfl rfl ⟨e1, e2, e4, e6, e7, e9, trivial⟩ ⟨e11, trivial⟩
 ·rcases y with x | x <;> exact Option.some.inj hz
noncomputable def nm0_I : FnI := ⟨nm0_b, Try.f153.results.toList, Try.f153.resultTypes.toList, nm0_A⟩
noncomputable def nm0_out (_p0 : Int) (_p1 : Int) (_p2 : (List TMatrix)) : (Bool × (List TMatrix)) → CallOut := fun r => ⟨(.imm true .bool r.1), [⟨false, (.sl kMatrix), (.sl (.imm true)), r.2⟩], []⟩
set_option maxRecDepth 100000 in
theorem nm0_eq : ∀ (p0 : Int) (p1 : Int) (p2 : (List TMatrix)), denFn nm0_V nm0_I ⟨[(.ref (0, 0) []), (.imm true (.int .i64) p0), (.imm true (.int .i64) p1), (.fn 123 [])], [⟨false, (.sl kMatrix), (.sl (.imm true)), p2⟩]⟩ = (nm0 p0 p1 p2).run fun r => some (nm0_out p0 p1 p2 r) := fun _ _ _ => by kernel_rfl
noncomputable def nm0_G (av : List AV) (rs : List Root) : Tre CallOut :=
 asCons av fun a0_ av0 =>
 asCons av0 fun a1_ av1 =>
 asCons av1 fun a2_ av2 =>
 asCons av2 fun a3_ av3 =>
 asEnd av3 <|
 asCons rs fun r0_ rs0 =>
 asEnd rs0 <|
 asRef (0, 0) [] a0_ <|
 asImmZ true (.int .i64) a1_ fun d1 =>
 asImmZ true (.int .i64) a2_ fun d2 =>
 asFn 123 [] a3_ <|
 asRt false (.sl kMatrix) r0_ fun m3 d4 =>
 asM (.sl (.imm true)) m3 <|
 .mat (nm0_F d1 d2 d4) fun r => .ret (nm0_out d1 d2 d4 r)
noncomputable def nm0_c : Ctr := ⟨[0], fun ci => nm0_G ci.args ci.roots, false⟩
theorem nm0_env : EnvOK Try.prog .none nm0_V := (envOK_cons i_spacesc1c1_ok ent123 envOK_nil)
set_option maxRecDepth 100000 in
theorem nm0_ok : Contract Try.prog .none 153 nm0_c := by
 have hl : LoopsOK nm0_V nm0_A nm0_b := (loopsOK_all (n := 4) (by kernel_rfl) fun k hk => by
   match k, hk with
   | 0, _ => exact loopOK_at (id := 3) (L := nm0_l3_L) (by kernel_rfl) (by kernel_rfl) nm0_l3_ok
   | 1, _ => exact loopOK_at (id := 5) (L := nm0_l5_L) (by kernel_rfl) (by kernel_rfl) nm0_l5_ok
   | 2, _ => exact loopOK_at (id := 14) (L := nm0_l14_L) (by kernel_rfl) (by kernel_rfl) nm0_l14_ok
   | 3, _ => exact loopOK_at (id := 20) (L := nm0_l20_L) (by kernel_rfl) (by kernel_rfl) nm0_l20_ok)
 refine (contract_of (F := nm0_I) tau_tys nm0_env Try.func153 (by kernel_rfl) (by kernel_rfl) (by kernel_rfl) hl [0]).weaken ?_
 rintro ⟨av, rs⟩ co h
 have h : (nm0_G av rs).run some = some co := h
 obtain ⟨a0_, av0, rfl, h_0⟩ := asCons_spec h
 obtain ⟨a1_, av1, rfl, h_1⟩ := asCons_spec h_0
 obtain ⟨a2_, av2, rfl, h_2⟩ := asCons_spec h_1
 obtain ⟨a3_, av3, rfl, h_3⟩ := asCons_spec h_2
 obtain ⟨rfl, h_4⟩ := asEnd_spec h_3
 obtain ⟨r0_, rs0, rfl, h_5⟩ := asCons_spec h_4
 obtain ⟨rfl, h_6⟩ := asEnd_spec h_5
 obtain ⟨rfl, h_7⟩ := asRef_spec h_6
 obtain ⟨d1, rfl, h_8⟩ := asImmZ_spec h_7
 obtain ⟨d2, rfl, h_9⟩ := asImmZ_spec h_8
 obtain ⟨rfl, h_10⟩ := asFn_spec h_9
 obtain ⟨m3, d4, rfl, h_11⟩ := asRt_spec h_10
 obtain ⟨rfl, h_12⟩ := asM_spec h_11
 exact fin_mat (nm0_eq d1 d2 d4) h_12
end Go.Proofs.Ythnkanacjhlhhaa

namespace Go.Proofs.Ythnkanacjhlhhaa
open Go Go.Abs Go.Proofs
noncomputable def nm2_l3 (h3_0_0 : Int) (h3_0_2 : Int) (h3_0_3 : (List TMatrix)) : Int → Tre (Int ⊕ Int) := fun s3 =>
 .cond (decide (s3 ≤ h3_0_2))
  (.ite (0 ≤ h3_0_0 ∧ h3_0_0 < (h3_0_3.length : Int)) <|
  .mat (h3_0_3[h3_0_0.toNat]?) fun x6 =>
  .ite (0 ≤ s3 ∧ s3 < (h3_0_3.length : Int)) <|
  .mat (h3_0_3[s3.toNat]?) fun x7 =>
  .mat (i_spacesc1c1_F x6 x7) fun r8 =>
  .cond (!(decide (r8 < 0)))
   (.ret (.inl (iwrap .i64 (s3 + 1))))
   (.ret (.inr s3)))
  (.ret (.inr s3))
noncomputable def nm2_l5 (h5_0_0 : Int) (h5_0_1 : Int) (h5_0_3 : (List TMatrix)) : Int → Tre (Int ⊕ Int) := fun s5 =>
 .cond (decide (h5_0_1 ≤ s5))
  (.ite (0 ≤ h5_0_0 ∧ h5_0_0 < (h5_0_3.length : Int)) <|
  .mat (h5_0_3[h5_0_0.toNat]?) fun x10 =>
  .ite (0 ≤ s5 ∧ s5 < (h5_0_3.length : Int)) <|
  .mat (h5_0_3[s5.toNat]?) fun x11 =>
  .mat (i_spacesc1c1_F x10 x11) fun r12 =>
  .cond (decide (r12 < 0))
   (.ret (.inl (iwrap .i64 (s5 - 1))))
   (.ret (.inr s5)))
  (.ret (.inr s5))
noncomputable def nm2_l1000003 (h1000003_0_0 : Int) : (Int × Int × (List TMatrix)) → Tre ((Int × Int × (List TMatrix)) ⊕ (Int × (List TMatrix))) := fun s1000003 =>
 .mat (loopF (nm2_l3 h1000003_0_0 s1000003.2.1 s1000003.2.2) s1000003.1) fun l9 =>
 .mat (loopF (nm2_l5 h1000003_0_0 l9 s1000003.2.2) s1000003.2.1) fun l13 =>
 .cond (decide (l9 > l13))
  (.ret (.inr (l9, s1000003.2.2)))
  (.ite (0 ≤ l13 ∧ l13 < (s1000003.2.2.length : Int)) <|
  .mat (s1000003.2.2[l13.toNat]?) fun x14 =>
  .ite (0 ≤ l9 ∧ l9 < (s1000003.2.2.length : Int)) <|
  .mat (s1000003.2.2[l9.toNat]?) fun x15 =>
  .ite (0 ≤ l9 ∧ l9 < (s1000003.2.2.length : Int)) <|
  .mat (s1000003.2.2[l9.toNat]?) fun _ =>
  let v17 := s1000003.2.2.set l9.toNat x14
  .ite (0 ≤ l13 ∧ l13 < (v17.length : Int)) <|
  .mat (v17[l13.toNat]?) fun _ =>
  .ret (.inl (iwrap .i64 (l9 + 1), iwrap .i64 (l13 - 1), v17.set l13.toNat x15)))
noncomputable def nm2 (p0 : Int) (p1 : Int) (p2 : Int) (p3 : (List TMatrix)) : Tre (Int × (List TMatrix)) :=
 .ite (0 ≤ p2 ∧ p2 < (p3.length : Int)) <|
 .mat (p3[p2.toNat]?) fun x1 =>
 .ite (0 ≤ p0 ∧ p0 < (p3.length : Int)) <|
 .mat (p3[p0.toNat]?) fun x2 =>
 .ite (0 ≤ p0 ∧ p0 < (p3.length : Int)) <|
 .mat (p3[p0.toNat]?) fun _ =>
 .ite (0 ≤ p2 ∧ p2 < ((p3.set p0.toNat x1).length : Int)) <|
 .mat ((p3.set p0.toNat x1)[p2.toNat]?) fun _ =>
 let v5 := (p3.set p0.toNat x1).set p2.toNat x2
 .mat (loopF (nm2_l1000003 p0) (iwrap .i64 (p0 + 1), iwrap .i64 (p1 - 1), v5)) fun l19 =>
 .ret (l19.1, l19.2)
noncomputable def nm2_F (p0 : Int) (p1 : Int) (p2 : Int) (p3 : (List TMatrix)) : Option (Int × (List TMatrix)) := (nm2 p0 p1 p2 p3).run some
noncomputable def nm2_V : Env := ⟨tau, [(123, i_spacesc1c1_c)], []⟩
noncomputable def nm2_b : Code := (Try.f154.body).getD .skip
noncomputable def nm2_l3_mk (h3_0_0 : Int) (h3_0_2 : Int) (h3_0_3 : (List TMatrix)) : Int → St := fun x => stOf [(0, (.ref (0, 0) [])), (1, (.imm true (.int .i64) h3_0_0)), (4, (.fn 123 [])), (11, (.imm true (.int .i64) x)), (12, (.imm true (.int .i64) h3_0_2))] [((0, 0), some ⟨false, (.sl kMatrix), (.sl (.imm true)), h3_0_3⟩)]
noncomputable def nm2_l3_out (h3_0_0 : Int) (h3_0_2 : Int) (h3_0_3 : (List TMatrix)) : Int → Ex × St := fun x => (.exit 2, stOf [(0, (.ref (0, 0) [])), (1, (.imm true (.int .i64) h3_0_0)), (4, (.fn 123 [])), (11, (.imm true (.int .i64) x)), (12, (.imm true (.int .i64) h3_0_2))] [((0, 0), some ⟨false, (.sl kMatrix), (.sl (.imm true)), h3_0_3⟩)])
noncomputable def nm2_l3_D (s : St) : Tre (Ex × St) :=
 asRef (0, 0) [] (s.tmps 0) <|
 asImmZ true (.int .i64) (s.tmps 1) fun d3 =>
 asFn 123 [] (s.tmps 4) <|
 asImmZ true (.int .i64) (s.tmps 11) fun d6 =>
 asImmZ true (.int .i64) (s.tmps 12) fun d8 =>
 asRoot false (.sl kMatrix) (s.roots (0, 0)) fun m10 d11 =>
 asM (.sl (.imm true)) m10 <|
 .mat (loopF (nm2_l3 d3 d8 d11) d6) fun x => .ret (nm2_l3_out d3 d8 d11 x)
noncomputable def nm2_l3_L : LoopI := ⟨([0, 1, 4, 11, 12], [(0, 0)]), ([0, 1, 4, 11, 12], [(0, 0)]), nm2_l3_D⟩
noncomputable def nm2_l5_mk (h5_0_0 : Int) (h5_0_1 : Int) (h5_0_3 : (List TMatrix)) : Int → St := fun x => stOf [(0, (.ref (0, 0) [])), (1, (.imm true (.int .i64) h5_0_0)), (4, (.fn 123 [])), (11, (.imm true (.int .i64) h5_0_1)), (12, (.imm true (.int .i64) x))] [((0, 0), some ⟨false, (.sl kMatrix), (.sl (.imm true)), h5_0_3⟩)]
noncomputable def nm2_l5_out (h5_0_0 : Int) (h5_0_1 : Int) (h5_0_3 : (List TMatrix)) : Int → Ex × St := fun x => (.exit 4, stOf [(0, (.ref (0, 0) [])), (1, (.imm true (.int .i64) h5_0_0)), (4, (.fn 123 [])), (11, (.imm true (.int .i64) h5_0_1)), (12, (.imm true (.int .i64) x))] [((0, 0), some ⟨false, (.sl kMatrix), (.sl (.imm true)), h5_0_3⟩)])
noncomputable def nm2_l5_D (s : St) : Tre (Ex × St) :=
 asRef (0, 0) [] (s.tmps 0) <|
 asImmZ true (.int .i64) (s.tmps 1) fun d3 =>
 asFn 123 [] (s.tmps 4) <|
 asImmZ true (.int .i64) (s.tmps 11) fun d6 =>
 asImmZ true (.int .i64) (s.tmps 12) fun d8 =>
 asRoot false (.sl kMatrix) (s.roots (0, 0)) fun m10 d11 =>
 asM (.sl (.imm true)) m10 <|
 .mat (loopF (nm2_l5 d3 d6 d11) d8) fun x => .ret (nm2_l5_out d3 d6 d11 x)
noncomputable def nm2_l5_L : LoopI := ⟨([0, 1, 4, 11, 12], [(0, 0)]), ([0, 1, 4, 11, 12], [(0, 0)]), nm2_l5_D⟩
noncomputable def nm2_l1000003_mk (h1000003_0_0 : Int) : (Int × Int × (List TMatrix)) → St := fun x => stOf [(0, (.ref (0, 0) [])), (1, (.imm true (.int .i64) h1000003_0_0)), (4, (.fn 123 [])), (11, (.imm true (.int .i64) x.1)), (12, (.imm true (.int .i64) x.2.1))] [((0, 0), some ⟨false, (.sl kMatrix), (.sl (.imm true)), x.2.2⟩)]
noncomputable def nm2_l1000003_out (_h1000003_0_0 : Int) : (Int × (List TMatrix)) → Ex × St := fun x => (.exit 0, stOf [(11, (.imm true (.int .i64) x.1))] [((0, 0), some ⟨false, (.sl kMatrix), (.sl (.imm true)), x.2⟩)])
noncomputable def nm2_l1000003_D (s : St) : Tre (Ex × St) :=
 asRef (0, 0) [] (s.tmps 0) <|
 asImmZ true (.int .i64) (s.tmps 1) fun d3 =>
 asFn 123 [] (s.tmps 4) <|
 asImmZ true (.int .i64) (s.tmps 11) fun d6 =>
 asImmZ true (.int .i64) (s.tmps 12) fun d8 =>
 asRoot false (.sl kMatrix) (s.roots (0, 0)) fun m10 d11 =>
 asM (.sl (.imm true)) m10 <|
 .mat (loopF (nm2_l1000003 d3) (d6, d8, d11)) fun x => .ret (nm2_l1000003_out d3 x)
noncomputable def nm2_l1000003_L : LoopI := ⟨([0, 1, 4, 11, 12], [(0, 0)]), ([11], [(0, 0)]), nm2_l1000003_D⟩
noncomputable def nm2_A : List (Nat × LoopI) := [(3, nm2_l3_L), (5, nm2_l5_L), (1000003, nm2_l1000003_L)]
set_option maxRecDepth 100000 in
theorem nm2_l3_step : ∀ (h3_0_0 : Int) (h3_0_2 : Int) (h3_0_3 : (List TMatrix)) (x : Int) (c : St → Option (Ex × St)), den nm2_V nm2_A (loopAt nm2_b 1) (nm2_l3_mk h3_0_0 h3_0_2 h3_0_3 x) (roundK nm2_l3_L.kp nm2_l3_L.kx c) = (nm2_l3 h3_0_0 h3_0_2 h3_0_3 x).run (roundR (nm2_l3_mk h3_0_0 h3_0_2 h3_0_3) (nm2_l3_out h3_0_0 h3_0_2 h3_0_3) c) := fun _ _ _ _ _ => by
 kernel_rfl
theorem nm2_l3_ok : LoopOK nm2_V nm2_A (loopAt nm2_b 1) nm2_l3_L := loopOK_of fun s e s' h => by
 generalize hs : restrict nm2_l3_L.kp s = s1 at h
 have h : (nm2_l3_D s1).run some = some (e, s') := h
 obtain ⟨e1, h_0⟩ := asRef_spec h
 obtain ⟨d3, e2, h_1⟩ := asImmZ_spec h_0
 obtain ⟨e4, h_2⟩ := asFn_spec h_1
 obtain ⟨d6, e5, h_3⟩ := asImmZ_spec h_2
 obtain ⟨d8, e7, h_4⟩ := asImmZ_spec h_3
 obtain ⟨m10, d11, e9, h_5⟩ := asRoot_spec h_4
 obtain ⟨rfl, h_6⟩ := asM_spec h_5
 obtain ⟨y, hy, hz⟩ := mat_ret h_6
 refine ⟨_, _, nm2_l3_mk d3 d8 d11, nm2_l3_out d3 d8 d11, nm2_l3 d3 d8 d11, d6, y, ?_, hy, ?_, nm2_l3_step d3 d8 d11⟩
 ·subst hs; exact restrict_eq (T := [(0, (.ref (0, 0) [])), (1, (.imm true (.int .i64) d3)), (4, (.fn 123 [])), (11, (.imm true (.int .i64) d6)), (12, (.imm true (.int .i64) d8))]) (U := [((0, 0), some ⟨false, (.sl kMatrix), (.sl (.imm true)), d11⟩)]) rfl rfl ⟨e1, e2, e4, e5, e7, trivial⟩ ⟨e9, trivial⟩
 ·exact Option.some.inj hz
set_option maxRecDepth 100000 in
theorem nm2_l5_step : ∀ (h5_0_0 : Int) (h5_0_1 : Int) (h5_0_3 : (List TMatrix)) (x : Int) (c : St → Option (Ex × St)), den nm2_V nm2_A (loopAt nm2_b 2) (nm2_l5_mk h5_0_0 h5_0_1 h5_0_3 x) (roundK nm2_l5_L.kp nm2_l5_L.kx c) = (nm2_l5 h5_0_0 h5_0_1 h5_0_3 x).run (roundR (nm2_l5_mk h5_0_0 h5_0_1 h5_0_3) (nm2_l5_out h5_0_0 h5_0_1 h5_0_3) c) := fun _ _ _ _ _ => by
 kernel_rfl
theorem nm2_l5_ok : LoopOK nm2_V nm2_A (loopAt nm2_b 2) nm2_l5_L := loopOK_of fun s e s' h => by
 generalize hs : restrict nm2_l5_L.kp s = s1 at h
 have h : (nm2_l5_D s1).run some = some (e, s') := h
 obtain ⟨e1, h_0⟩ := asRef_spec h
 obtain ⟨d3, e2, h_1⟩ := asImmZ_spec h_0
 obtain ⟨e4, h_2⟩ := asFn_spec h_1
 obtain ⟨d6, e5, h_3⟩ := asImmZ_spec h_2
 obtain ⟨d8, e7, h_4⟩ := asImmZ_spec h_3
 obtain ⟨m10, d11, e9, h_5⟩ := asRoot_spec h_4
 obtain ⟨rfl, h_6⟩ := asM_spec h_5
 obtain ⟨y, hy, hz⟩ := mat_ret h_6
 refine ⟨_, _, nm2_l5_mk d3 d6 d11, nm2_l5_out d3 d6 d11, nm2_l5 d3 d6 d11, d8, y, ?_, hy, ?_, nm2_l5_step d3 d6 d11⟩
 ·subst hs; exact restrict_eq (T := [(0, (.ref (0, 0) [])), (1, (.imm true (.int .i64) d3)), (4, (.fn 123 [])), (11, (.imm true (.int .i64) d6)), (12, (.imm true (.int .i64) d8))]) (U := [((0, 0), some ⟨false, (.sl kMatrix), (.sl (.imm true)), d11⟩)]) rfl rfl ⟨e1, e2, e4, e5, e7, trivial⟩ ⟨e9, trivial⟩
 ·exact Option.some.inj hz
set_option maxRecDepth 100000 in
theorem nm2_l1000003_step : ∀ (h1000003_0_0 : Int) (x : (Int × Int × (List TMatrix))) (c : St → Option (Ex × St)), den nm2_V nm2_A (loopAt nm2_b 0) (nm2_l1000003_mk h1000003_0_0 x) (roundK nm2_l1000003_L.kp nm2_l1000003_L.kx c) = (nm2_l1000003 h1000003_0_0 x).run (roundR (nm2_l1000003_mk h1000003_0_0) (nm2_l1000003_out h1000003_0_0) c) := fun _ _ _ => by
 kernel_rfl
theorem nm2_l1000003_ok : LoopOK nm2_V nm2_A (loopAt nm2_b 0) nm2_l1000003_L := loopOK_of fun s e s' h => by
 generalize hs : restrict nm2_l1000003_L.kp s = s1 at h
 have h : (nm2_l1000003_D s1).run some = some (e, s') := h
 obtain ⟨e1, h_0⟩ := asRef_spec h
 obtain ⟨d3, e2, h_1⟩ := asImmZ_spec h_0
 obtain ⟨e4, h_2⟩ := asFn_spec h_1
 obtain ⟨d6, e5, h_3⟩ := asImmZ_spec h_2
 obtain ⟨d8, e7, h_4⟩ := asImmZ_spec h_3
 obtain ⟨m10, d11, e9, h_5⟩ := asRoot_spec h_4
 obtain ⟨rfl, h_6⟩ := asM_spec h_5
 obtain ⟨y, hy, hz⟩ := mat_ret h_6
 refine ⟨_, _, nm2_l1000003_mk d3, nm2_l1000003_out d3, nm2_l1000003 d3, (d6, d8, d11), y, ?_, hy, ?_, nm2_l1000003_step d3⟩
 ·subst hs; exact restrict_eq (T := [(0, (.ref (0, 0) [])), (1, (.imm true (.int .i64) d3)), (4, (.fn 123 [])), (11, (.imm true (.int .i64) d6)), (12, (.imm true (.int .i64) d8))]) (U := [((0, 0), some ⟨false, (.sl kMatrix), (.sl (.imm true)), d11⟩)]) rfl rfl ⟨e1, e2, e4, e5, e7, trivial⟩ ⟨e9, trivial⟩
 ·exact Option.some.inj hz
noncomputable def nm2_I : FnI := ⟨nm2_b, Try.f154.results.toList, Try.f154.resultTypes.toList, nm2_A⟩
noncomputable def nm2_out (_p0 : Int) (_p1 : Int) (_p2 : Int) (_p3 : (List TMatrix)) : (Int × (List TMatrix)) → CallOut := fun r => ⟨(.imm true (.int .i64) r.1), [⟨false, (.sl kMatrix), (.sl (.imm true)), r.2⟩], []⟩
set_option maxRecDepth 100000 in
theorem nm2_eq : ∀ (p0 : Int) (p1 : Int) (p2 : Int) (p3 : (List TMatrix)), denFn nm2_V nm2_I ⟨[(.ref (0, 0) []), (.imm true (.int .i64) p0), (.imm true (.int .i64) p1), (.imm true (.int .i64) p2), (.fn 123 [])], [⟨false, (.sl kMatrix), (.sl (.imm true)), p3⟩]⟩ = (nm2 p0 p1 p2 p3).run fun r => some (nm2_out p0 p1 p2 p3 r) := fun _ _ _ _ => by kernel_rfl
noncomputable def nm2_G (av : List AV) (rs : List Root) : Tre CallOut :=
 asCons av fun a0_ av0 =>
 asCons av0 fun a1_ av1 =>
 asCons av1 fun a2_ av2 =>
 asCons av2 fun a3_ av3 =>
 asCons av3 fun a4_ av4 =>
 asEnd av4 <|
 asCons rs fun r0_ rs0 =>
 asEnd rs0 <|
 asRef (0, 0) [] a0_ <|
 asImmZ true (.int .i64) a1_ fun d1 =>
 asImmZ true (.int .i64) a2_ fun d2 =>
 asImmZ true (.int .i64) a3_ fun d3 =>
 asFn 123 [] a4_ <|
 asRt false (.sl kMatrix) r0_ fun m4 d5 =>
 asM (.sl (.imm true)) m4 <|
 .mat (nm2_F d1 d2 d3 d5) fun r => .ret (nm2_out d1 d2 d3 d5 r)
noncomputable def nm2_c : Ctr := ⟨[0], fun ci => nm2_G ci.args ci.roots, false⟩
theorem nm2_env : EnvOK Try.prog .none nm2_V := (envOK_cons i_spacesc1c1_ok ent123 envOK_nil)
set_option maxRecDepth 100000 in
theorem nm2_ok : Contract Try.prog .none 154 nm2_c := by
 have hl : LoopsOK nm2_V nm2_A nm2_b := (loopsOK_all (n := 3) (by kernel_rfl) fun k hk => by
   match k, hk with
   | 0, _ => exact loopOK_at (id := 1000003) (L := nm2_l1000003_L) (by kernel_rfl) (by kernel_rfl) nm2_l1000003_ok
   | 1, _ => exact loopOK_at (id := 3) (L := nm2_l3_L) (by kernel_rfl) (by kernel_rfl) nm2_l3_ok
   | 2, _ => exact loopOK_at (id := 5) (L := nm2_l5_L) (by kernel_rfl) (by kernel_rfl) nm2_l5_ok)
 refine (contract_of (F := nm2_I) tau_tys nm2_env Try.func154 (by kernel_rfl) (by kernel_rfl) (by kernel_rfl) hl [0]).weaken ?_
 rintro ⟨av, rs⟩ co h
 have h : (nm2_G av rs).run some = some co := h
 obtain ⟨a0_, av0, rfl, h_0⟩ := asCons_spec h
 obtain ⟨a1_, av1, rfl, h_1⟩ := asCons_spec h_0
 obtain ⟨a2_, av2, rfl, h_2⟩ := asCons_spec h_1
 obtain ⟨a3_, av3, rfl, h_3⟩ := asCons_spec h_2
 obtain ⟨a4_, av4, rfl, h_4⟩ := asCons_spec h_3
 obtain ⟨rfl, h_5⟩ := asEnd_spec h_4
 obtain ⟨r0_, rs0, rfl, h_6⟩ := asCons_spec h_5
 obtain ⟨rfl, h_7⟩ := asEnd_spec h_6
 obtain ⟨rfl, h_8⟩ := asRef_spec h_7
 obtain ⟨d1, rfl, h_9⟩ := asImmZ_spec h_8
 obtain ⟨d2, rfl, h_10⟩ := asImmZ_spec h_9
 obtain ⟨d3, rfl, h_11⟩ := asImmZ_spec h_10
 obtain ⟨rfl, h_12⟩ := asFn_spec h_11
 obtain ⟨m4, d5, rfl, h_13⟩ := asRt_spec h_12
 obtain ⟨rfl, h_14⟩ := asM_spec h_13
 exact fin_mat (nm2_eq d1 d2 d3 d5) h_14
end Go.Proofs.Ythnkanacjhlhhaa

namespace Go.Proofs.Ythnkanacjhlhhaa
open Go Go.Abs Go.Proofs
noncomputable def nm7_l3 (h3_0_0 : Int) (h3_0_2 : Int) (h3_0_3 : (List TMatrix)) : Int → Tre (Int ⊕ Int) := fun s3 =>
 .cond (decide (s3 ≤ h3_0_2))
  (.ite (0 ≤ s3 ∧ s3 < (h3_0_3.length : Int)) <|
  .mat (h3_0_3[s3.toNat]?) fun x6 =>
  .ite (0 ≤ h3_0_0 ∧ h3_0_0 < (h3_0_3.length : Int)) <|
  .mat (h3_0_3[h3_0_0.toNat]?) fun x7 =>
  .mat (i_spacesc1c1_F x6 x7) fun r8 =>
  .cond (decide (r8 < 0))
   (.ret (.inl (iwrap .i64 (s3 + 1))))
   (.ret (.inr s3)))
  (.ret (.inr s3))
noncomputable def nm7_l5 (h5_0_0 : Int) (h5_0_1 : Int) (h5_0_3 : (List TMatrix)) : Int → Tre (Int ⊕ Int) := fun s5 =>
 .cond (decide (h5_0_1 ≤ s5))
  (.ite (0 ≤ s5 ∧ s5 < (h5_0_3.length : Int)) <|
  .mat (h5_0_3[s5.toNat]?) fun x10 =>
  .ite (0 ≤ h5_0_0 ∧ h5_0_0 < (h5_0_3.length : Int)) <|
  .mat (h5_0_3[h5_0_0.toNat]?) fun x11 =>
  .mat (i_spacesc1c1_F x10 x11) fun r12 =>
  .cond (!(decide (r12 < 0)))
   (.ret (.inl (iwrap .i64 (s5 - 1))))
   (.ret (.inr s5)))
  (.ret (.inr s5))
noncomputable def nm7_l13 (h13_0_0 : Int) (h13_0_2 : Int) (h13_0_3 : (List TMatrix)) : Int → Tre (Int ⊕ Int) := fun s13 =>
 .cond (decide (s13 ≤ h13_0_2))
  (.ite (0 ≤ s13 ∧ s13 < (h13_0_3.length : Int)) <|
  .mat (h13_0_3[s13.toNat]?) fun x24 =>
  .ite (0 ≤ h13_0_0 ∧ h13_0_0 < (h13_0_3.length : Int)) <|
  .mat (h13_0_3[h13_0_0.toNat]?) fun x25 =>
  .mat (i_spacesc1c1_F x24 x25) fun r26 =>
  .cond (decide (r26 < 0))
   (.ret (.inl (iwrap .i64 (s13 + 1))))
   (.ret (.inr s13)))
  (.ret (.inr s13))
noncomputable def nm7_l15 (h15_0_0 : Int) (h15_0_1 : Int) (h15_0_3 : (List TMatrix)) : Int → Tre (Int ⊕ Int) := fun s15 =>
 .cond (decide (h15_0_1 ≤ s15))
  (.ite (0 ≤ s15 ∧ s15 < (h15_0_3.length : Int)) <|
  .mat (h15_0_3[s15.toNat]?) fun x28 =>
  .ite (0 ≤ h15_0_0 ∧ h15_0_0 < (h15_0_3.length : Int)) <|
  .mat (h15_0_3[h15_0_0.toNat]?) fun x29 =>
  .mat (i_spacesc1c1_F x28 x29) fun r30 =>
  .cond (!(decide (r30 < 0)))
   (.ret (.inl (iwrap .i64 (s15 - 1))))
   (.ret (.inr s15)))
  (.ret (.inr s15))
noncomputable def nm7_l1000013 (h1000013_0_0 : Int) : (Int × Int × (List TMatrix)) → Tre ((Int × Int × (List TMatrix)) ⊕ (Int × (List TMatrix))) := fun s1000013 =>
 .mat (loopF (nm7_l13 h1000013_0_0 s1000013.2.1 s1000013.2.2) s1000013.1) fun l27 =>
 .mat (loopF (nm7_l15 h1000013_0_0 l27 s1000013.2.2) s1000013.2.1) fun l31 =>
 .cond (decide (l27 > l31))
  (.ret (.inr (l31, s1000013.2.2)))
  (.ite (0 ≤ l31 ∧ l31 < (s1000013.2.2.length : Int)) <|
  .mat (s1000013.2.2[l31.toNat]?) fun x32 =>
  .ite (0 ≤ l27 ∧ l27 < (s1000013.2.2.length : Int)) <|
  .mat (s1000013.2.2[l27.toNat]?) fun x33 =>
  .ite (0 ≤ l27 ∧ l27 < (s1000013.2.2.length : Int)) <|
  .mat (s1000013.2.2[l27.toNat]?) fun _ =>
  let v35 := s1000013.2.2.set l27.toNat x32
  .ite (0 ≤ l31 ∧ l31 < (v35.length : Int)) <|
  .mat (v35[l31.toNat]?) fun _ =>
  .ret (.inl (iwrap .i64 (l27 + 1), iwrap .i64 (l31 - 1), v35.set l31.toNat x33)))
noncomputable def nm7 (p0 : Int) (p1 : Int) (p2 : Int) (p3 : (List TMatrix)) : Tre (Int × Bool × (List TMatrix)) :=
 .ite (0 ≤ p2 ∧ p2 < (p3.length : Int)) <|
 .mat (p3[p2.toNat]?) fun x1 =>
 .ite (0 ≤ p0 ∧ p0 < (p3.length : Int)) <|
 .mat (p3[p0.toNat]?) fun x2 =>
 .ite (0 ≤ p0 ∧ p0 < (p3.length : Int)) <|
 .mat (p3[p0.toNat]?) fun _ =>
 .ite (0 ≤ p2 ∧ p2 < ((p3.set p0.toNat x1).length : Int)) <|
 .mat ((p3.set p0.toNat x1)[p2.toNat]?) fun _ =>
 let v5 := (p3.set p0.toNat x1).set p2.toNat x2
 .mat (loopF (nm7_l3 p0 (iwrap .i64 (p1 - 1)) v5) (iwrap .i64 (p0 + 1))) fun l9 =>
 .mat (loopF (nm7_l5 p0 l9 v5) (iwrap .i64 (p1 - 1))) fun l13 =>
 .cond (decide (l9 > l13))
  (.ite (0 ≤ p0 ∧ p0 < (v5.length : Int)) <|
  .mat (v5[p0.toNat]?) fun x14 =>
  .ite (0 ≤ l13 ∧ l13 < (v5.length : Int)) <|
  .mat (v5[l13.toNat]?) fun x15 =>
  .ite (0 ≤ l13 ∧ l13 < (v5.length : Int)) <|
  .mat (v5[l13.toNat]?) fun _ =>
  .ite (0 ≤ p0 ∧ p0 < ((v5.set l13.toNat x14).length : Int)) <|
  .mat ((v5.set l13.toNat x14)[p0.toNat]?) fun _ =>
  let v18 := (v5.set l13.toNat x14).set p0.toNat x15
  .ret (l13, true, v18))
  (.ite (0 ≤ l13 ∧ l13 < (v5.length : Int)) <|
  .mat (v5[l13.toNat]?) fun x19 =>
  .ite (0 ≤ l9 ∧ l9 < (v5.length : Int)) <|
  .mat (v5[l9.toNat]?) fun x20 =>
  .ite (0 ≤ l9 ∧ l9 < (v5.length : Int)) <|
  .mat (v5[l9.toNat]?) fun _ =>
  .ite (0 ≤ l13 ∧ l13 < ((v5.set l9.toNat x19).length : Int)) <|
  .mat ((v5.set l9.toNat x19)[l13.toNat]?) fun _ =>
  let v23 := (v5.set l9.toNat x19).set l13.toNat x20
  .mat (loopF (nm7_l1000013 p0) (iwrap .i64 (l9 + 1), iwrap .i64 (l13 - 1), v23)) fun l37 =>
  .ite (0 ≤ p0 ∧ p0 < (l37.2.length : Int)) <|
  .mat (l37.2[p0.toNat]?) fun x38 =>
  .ite (0 ≤ l37.1 ∧ l37.1 < (l37.2.length : Int)) <|
  .mat (l37.2[l37.1.toNat]?) fun x39 =>
  .ite (0 ≤ l37.1 ∧ l37.1 < (l37.2.length : Int)) <|
  .mat (l37.2[l37.1.toNat]?) fun _ =>
  let v41 := l37.2.set l37.1.toNat x38
  .ite (0 ≤ p0 ∧ p0 < (v41.length : Int)) <|
  .mat (v41[p0.toNat]?) fun _ =>
  .ret (l37.1, false, v41.set p0.toNat x39))
noncomputable def nm7_F (p0 : Int) (p1 : Int) (p2 : Int) (p3 : (List TMatrix)) : Option (Int × Bool × (List TMatrix)) := (nm7 p0 p1 p2 p3).run some
noncomputable def nm7_V : Env := ⟨tau, [(123, i_spacesc1c1_c)], []⟩
noncomputable def nm7_b : Code := (Try.f155.body).getD .skip
noncomputable def nm7_l3_mk (h3_0_0 : Int) (h3_0_2 : Int) (h3_0_3 : (List TMatrix)) : Int → St := fun x => stOf [(0, (.ref (0, 0) [])), (1, (.imm true (.int .i64) h3_0_0)), (4, (.fn 123 [])), (12, (.imm true (.int .i64) x)), (13, (.imm true (.int .i64) h3_0_2))] [((0, 0), some ⟨false, (.sl kMatrix), (.sl (.imm true)), h3_0_3⟩)]
noncomputable def nm7_l3_out (h3_0_0 : Int) (h3_0_2 : Int) (h3_0_3 : (List TMatrix)) : Int → Ex × St := fun x => (.exit 0, stOf [(0, (.ref (0, 0) [])), (1, (.imm true (.int .i64) h3_0_0)), (4, (.fn 123 [])), (12, (.imm true (.int .i64) x)), (13, (.imm true (.int .i64) h3_0_2))] [((0, 0), some ⟨false, (.sl kMatrix), (.sl (.imm true)), h3_0_3⟩)])
noncomputable def nm7_l3_D (s : St) : Tre (Ex × St) :=
 asRef (0, 0) [] (s.tmps 0) <|
 asImmZ true (.int .i64) (s.tmps 1) fun d3 =>
 asFn 123 [] (s.tmps 4) <|
 asImmZ true (.int .i64) (s.tmps 12) fun d6 =>
 asImmZ true (.int .i64) (s.tmps 13) fun d8 =>
 asRoot false (.sl kMatrix) (s.roots (0, 0)) fun m10 d11 =>
 asM (.sl (.imm true)) m10 <|
 .mat (loopF (nm7_l3 d3 d8 d11) d6) fun x => .ret (nm7_l3_out d3 d8 d11 x)
noncomputable def nm7_l3_L : LoopI := ⟨([0, 1, 4, 12, 13], [(0, 0)]), ([0, 1, 4, 12, 13], [(0, 0)]), nm7_l3_D⟩
noncomputable def nm7_l5_mk (h5_0_0 : Int) (h5_0_1 : Int) (h5_0_3 : (List TMatrix)) : Int → St := fun x => stOf [(0, (.ref (0, 0) [])), (1, (.imm true (.int .i64) h5_0_0)), (4, (.fn 123 [])), (12, (.imm true (.int .i64) h5_0_1)), (13, (.imm true (.int .i64) x))] [((0, 0), some ⟨false, (.sl kMatrix), (.sl (.imm true)), h5_0_3⟩)]
noncomputable def nm7_l5_out (h5_0_0 : Int) (h5_0_1 : Int) (h5_0_3 : (List TMatrix)) : Int → Ex × St := fun x => (.exit 2, stOf [(0, (.ref (0, 0) [])), (1, (.imm true (.int .i64) h5_0_0)), (4, (.fn 123 [])), (12, (.imm true (.int .i64) h5_0_1)), (13, (.imm true (.int .i64) x))] [((0, 0), some ⟨false, (.sl kMatrix), (.sl (.imm true)), h5_0_3⟩)])
noncomputable def nm7_l5_D (s : St) : Tre (Ex × St) :=
 asRef (0, 0) [] (s.tmps 0) <|
 asImmZ true (.int .i64) (s.tmps 1) fun d3 =>
 asFn 123 [] (s.tmps 4) <|
 asImmZ true (.int .i64) (s.tmps 12) fun d6 =>
 asImmZ true (.int .i64) (s.tmps 13) fun d8 =>
 asRoot false (.sl kMatrix) (s.roots (0, 0)) fun m10 d11 =>
 asM (.sl (.imm true)) m10 <|
 .mat (loopF (nm7_l5 d3 d6 d11) d8) fun x => .ret (nm7_l5_out d3 d6 d11 x)
noncomputable def nm7_l5_L : LoopI := ⟨([0, 1, 4, 12, 13], [(0, 0)]), ([0, 1, 4, 12, 13], [(0, 0)]), nm7_l5_D⟩
noncomputable def nm7_l13_mk (h13_0_0 : Int) (h13_0_2 : Int) (h13_0_3 : (List TMatrix)) : Int → St := fun x => stOf [(0, (.ref (0, 0) [])), (1, (.imm true (.int .i64) h13_0_0)), (4, (.fn 123 [])), (12, (.imm true (.int .i64) x)), (13, (.imm true (.int .i64) h13_0_2))] [((0, 0), some ⟨false, (.sl kMatrix), (.sl (.imm true)), h13_0_3⟩)]
noncomputable def nm7_l13_out (h13_0_0 : Int) (h13_0_2 : Int) (h13_0_3 : (List TMatrix)) : Int → Ex × St := fun x => (.exit 6, stOf [(0, (.ref (0, 0) [])), (1, (.imm true (.int .i64) h13_0_0)), (4, (.fn 123 [])), (12, (.imm true (.int .i64) x)), (13, (.imm true (.int .i64) h13_0_2))] [((0, 0), some ⟨false, (.sl kMatrix), (.sl (.imm true)), h13_0_3⟩)])
noncomputable def nm7_l13_D (s : St) : Tre (Ex × St) :=
 asRef (0, 0) [] (s.tmps 0) <|
 asImmZ true (.int .i64) (s.tmps 1) fun d3 =>
 asFn 123 [] (s.tmps 4) <|
 asImmZ true (.int .i64) (s.tmps 12) fun d6 =>
 asImmZ true (.int .i64) (s.tmps 13) fun d8 =>
 asRoot false (.sl kMatrix) (s.roots (0, 0)) fun m10 d11 =>
 asM (.sl (.imm true)) m10 <|
 .mat (loopF (nm7_l13 d3 d8 d11) d6) fun x => .ret (nm7_l13_out d3 d8 d11 x)
noncomputable def nm7_l13_L : LoopI := ⟨([0, 1, 4, 12, 13], [(0, 0)]), ([0, 1, 4, 12, 13], [(0, 0)]), nm7_l13_D⟩
noncomputable def nm7_l15_mk (h15_0_0 : Int) (h15_0_1 : Int) (h15_0_3 : (List TMatrix)) : Int → St := fun x => stOf [(0, (.ref (0, 0) [])), (1, (.imm true (.int .i64) h15_0_0)), (4, (.fn 123 [])), (12, (.imm true (.int .i64) h15_0_1)), (13, (.imm true (.int .i64) x))] [((0, 0), some ⟨false, (.sl kMatrix), (.sl (.imm true)), h15_0_3⟩)]
noncomputable def nm7_l15_out (h15_0_0 : Int) (h15_0_1 : Int) (h15_0_3 : (List TMatrix)) : Int → Ex × St := fun x => (.exit 8, stOf [(0, (.ref (0, 0) [])), (1, (.imm true (.int .i64) h15_0_0)), (4, (.fn 123 [])), (12, (.imm true (.int .i64) h15_0_1)), (13, (.imm true (.int .i64) x))] [((0, 0), some ⟨false, (.sl kMatrix), (.sl (.imm true)), h15_0_3⟩)])
noncomputable def nm7_l15_D (s : St) : Tre (Ex × St) :=
 asRef (0, 0) [] (s.tmps 0) <|
 asImmZ true (.int .i64) (s.tmps 1) fun d3 =>
 asFn 123 [] (s.tmps 4) <|
 asImmZ true (.int .i64) (s.tmps 12) fun d6 =>
 asImmZ true (.int .i64) (s.tmps 13) fun d8 =>
 asRoot false (.sl kMatrix) (s.roots (0, 0)) fun m10 d11 =>
 asM (.sl (.imm true)) m10 <|
 .mat (loopF (nm7_l15 d3 d6 d11) d8) fun x => .ret (nm7_l15_out d3 d6 d11 x)
noncomputable def nm7_l15_L : LoopI := ⟨([0, 1, 4, 12, 13], [(0, 0)]), ([0, 1, 4, 12, 13], [(0, 0)]), nm7_l15_D⟩
noncomputable def nm7_l1000013_mk (h1000013_0_0 : Int) : (Int × Int × (List TMatrix)) → St := fun x => stOf [(0, (.ref (0, 0) [])), (1, (.imm true (.int .i64) h1000013_0_0)), (4, (.fn 123 [])), (12, (.imm true (.int .i64) x.1)), (13, (.imm true (.int .i64) x.2.1))] [((0, 0), some ⟨false, (.sl kMatrix), (.sl (.imm true)), x.2.2⟩)]
noncomputable def nm7_l1000013_out (h1000013_0_0 : Int) : (Int × (List TMatrix)) → Ex × St := fun x => (.exit 4, stOf [(0, (.ref (0, 0) [])), (1, (.imm true (.int .i64) h1000013_0_0)), (13, (.imm true (.int .i64) x.1))] [((0, 0), some ⟨false, (.sl kMatrix), (.sl (.imm true)), x.2⟩)])
noncomputable def nm7_l1000013_D (s : St) : Tre (Ex × St) :=
 asRef (0, 0) [] (s.tmps 0) <|
 asImmZ true (.int .i64) (s.tmps 1) fun d3 =>
 asFn 123 [] (s.tmps 4) <|
 asImmZ true (.int .i64) (s.tmps 12) fun d6 =>
 asImmZ true (.int .i64) (s.tmps 13) fun d8 =>
 asRoot false (.sl kMatrix) (s.roots (0, 0)) fun m10 d11 =>
 asM (.sl (.imm true)) m10 <|
 .mat (loopF (nm7_l1000013 d3) (d6, d8, d11)) fun x => .ret (nm7_l1000013_out d3 x)
noncomputable def nm7_l1000013_L : LoopI := ⟨([0, 1, 4, 12, 13], [(0, 0)]), ([0, 1, 13], [(0, 0)]), nm7_l1000013_D⟩
noncomputable def nm7_A : List (Nat × LoopI) := [(3, nm7_l3_L), (5, nm7_l5_L), (13, nm7_l13_L), (15, nm7_l15_L), (1000013, nm7_l1000013_L)]
set_option maxRecDepth 100000 in
theorem nm7_l3_step : ∀ (h3_0_0 : Int) (h3_0_2 : Int) (h3_0_3 : (List TMatrix)) (x : Int) (c : St → Option (Ex × St)), den nm7_V nm7_A (loopAt nm7_b 0) (nm7_l3_mk h3_0_0 h3_0_2 h3_0_3 x) (roundK nm7_l3_L.kp nm7_l3_L.kx c) = (nm7_l3 h3_0_0 h3_0_2 h3_0_3 x).run (roundR (nm7_l3_mk h3_0_0 h3_0_2 h3_0_3) (nm7_l3_out h3_0_0 h3_0_2 h3_0_3) c) := fun _ _ _ _ _ => by
 kernel_rfl
theorem nm7_l3_ok : LoopOK nm7_V nm7_A (loopAt nm7_b 0) nm7_l3_L := loopOK_of fun s e s' h => by
 generalize hs : restrict nm7_l3_L.kp s = s1 at h
 have h : (nm7_l3_D s1).run some = some (e, s') := h
 obtain ⟨e1, h_0⟩ := asRef_spec h
 obtain ⟨d3, e2, h_1⟩ := asImmZ_spec h_0
 obtain ⟨e4, h_2⟩ := asFn_spec h_1
 obtain ⟨d6, e5, h_3⟩ := asImmZ_spec h_2
 obtain ⟨d8, e7, h_4⟩ := asImmZ_spec h_3
 obtain ⟨m10, d11, e9, h_5⟩ := asRoot_spec h_4
 obtain ⟨rfl, h_6⟩ := asM_spec h_5
 obtain ⟨y, hy, hz⟩ := mat_ret h_6
 refine ⟨_, _, nm7_l3_mk d3 d8 d11, nm7_l3_out d3 d8 d11, nm7_l3 d3 d8 d11, d6, y, ?_, hy, ?_, nm7_l3_step d3 d8 d11⟩
 ·subst hs; exact restrict_eq (T := [(0, (.ref (0, 0) [])), (1, (.imm true (.int .i64) d3)), (4, (.fn 123 [])), (12, (.imm true (.int .i64) d6)), (13, (.imm true (.int .i64) d8))]) (U := [((0, 0), some ⟨false, (.sl kMatrix), (.sl (.imm true)), d11⟩)]) rfl rfl ⟨e1, e2, e4, e5, e7, trivial⟩ ⟨e9, trivial⟩
 ·exact Option.some.inj hz
set_option maxRecDepth 100000 in
theorem nm7_l5_step : ∀ (h5_0_0 : Int) (h5_0_1 : Int) (h5_0_3 : (List TMatrix)) (x : Int) (c : St → Option (Ex × St)), den nm7_V nm7_A (loopAt nm7_b 1) (nm7_l5_mk h5_0_0 h5_0_1 h5_0_3 x) (roundK nm7_l5_L.kp nm7_l5_L.kx c) = (nm7_l5 h5_0_0 h5_0_1 h5_0_3 x).run (roundR (nm7_l5_mk h5_0_0 h5_0_1 h5_0_3) (nm7_l5_out h5_0_0 h5_0_1 h5_0_3) c) := fun _ _ _ _ _ => by
 kernel_rfl
theorem nm7_l5_ok : LoopOK nm7_V nm7_A (loopAt nm7_b 1) nm7_l5_L := loopOK_of fun s e s' h => by
 generalize hs : restrict nm7_l5_L.kp s = s1 at h
 have h : (nm7_l5_D s1).run some = some (e, s') := h
 obtain ⟨e1, h_0⟩ := asRef_spec h
 obtain ⟨d3, e2, h_1⟩ := asImmZ_spec h_0
 obtain ⟨e4, h_2⟩ := asFn_spec h_1
 obtain ⟨d6, e5, h_3⟩ := asImmZ_spec h_2
 obtain ⟨d8, e7, h_4⟩ := asImmZ_spec h_3
 obtain ⟨m10, d11, e9, h_5⟩ := asRoot_spec h_4
 obtain ⟨rfl, h_6⟩ := asM_spec h_5
 obtain ⟨y, hy, hz⟩ := mat_ret h_6
 refine ⟨_, _, nm7_l5_mk d3 d6 d11, nm7_l5_out d3 d6 d11, nm7_l5 d3 d6 d11, d8, y, ?_, hy, ?_, nm7_l5_step d3 d6 d11⟩
 ·subst hs; exact restrict_eq (T := [(0, (.ref (0, 0) [])), (1, (.imm true (.int .i64) d3)), (4, (.fn 123 [])), (12, (.imm true (.int .i64) d6)), (13, (.imm true (.int .i64) d8))]) (U := [((0, 0), some ⟨false, (.sl kMatrix), (.sl (.imm true)), d11⟩)]) rfl rfl ⟨e1, e2, e4, e5, e7, trivial⟩ ⟨e9, trivial⟩
 ·exact Option.some.inj hz
set_option maxRecDepth 100000 in
theorem nm7_l13_step : ∀ (h13_0_0 : Int) (h13_0_2 : Int) (h13_0_3 : (List TMatrix)) (x : Int) (c : St → Option (Ex × St)), den nm7_V nm7_A (loopAt nm7_b 3) (nm7_l13_mk h13_0_0 h13_0_2 h13_0_3 x) (roundK nm7_l13_L.kp nm7_l13_L.kx c) = (nm7_l13 h13_0_0 h13_0_2 h13_0_3 x).run (roundR (nm7_l13_mk h13_0_0 h13_0_2 h13_0_3) (nm7_l13_out h13_0_0 h13_0_2 h13_0_3) c) := fun _ _ _ _ _ => by
 kernel_rfl
theorem nm7_l13_ok : LoopOK nm7_V nm7_A (loopAt nm7_b 3) nm7_l13_L := loopOK_of fun s e s' h => by
 generalize hs : restrict nm7_l13_L.kp s = s1 at h
 have h : (nm7_l13_D s1).run some = some (e, s') := h
 obtain ⟨e1, h_0⟩ := asRef_spec h
 obtain ⟨d3, e2, h_1⟩ := asImmZ_spec h_0
 obtain ⟨e4, h_2⟩ := asFn_spec h_1
 obtain ⟨d6, e5, h_3⟩ := asImmZ_spec h_2
 obtain ⟨d8, e7, h_4⟩ := asImmZ_spec h_3
 obtain ⟨m10, d11, e9, h_5⟩ := asRoot_spec h_4
 obtain ⟨rfl, h_6⟩ := asM_spec h_5
 obtain ⟨y, hy, hz⟩ := mat_ret h_6
 refine ⟨_, _, nm7_l13_mk d3 d8 d11, nm7_l13_out d3 d8 d11, nm7_l13 d3 d8 d11, d6, y, ?_, hy, ?_, nm7_l13_step d3 d8 d11⟩
 ·subst hs; exact restrict_eq (T := [(0, (.ref (0, 0) [])), (1, (.imm true (.int .i64) d3)), (4, (.fn 123 [])), (12, (.imm true (.int .i64) d6)), (13, (.imm true (.int .i64) d8))]) (U := [((0, 0), some ⟨false, (.sl kMatrix), (.sl (.imm true)), d11⟩)]) rfl rfl ⟨e1, e2, e4, e5, e7, trivial⟩ ⟨e9, trivial⟩
 ·exact Option.some.inj hz
set_option maxRecDepth 100000 in
theorem nm7_l15_step : ∀ (h15_0_0 : Int) (h15_0_1 : Int) (h15_0_3 : (List TMatrix)) (x : Int) (c : St → Option (Ex × St)), den nm7_V nm7_A (loopAt nm7_b 4) (nm7_l15_mk h15_0_0 h15_0_1 h15_0_3 x) (roundK nm7_l15_L.kp nm7_l15_L.kx c) = (nm7_l15 h15_0_0 h15_0_1 h15_0_3 x).run (roundR (nm7_l15_mk h15_0_0 h15_0_1 h15_0_3) (nm7_l15_out h15_0_0 h15_0_1 h15_0_3) c) := fun _ _ _ _ _ => by
 kernel_rfl
theorem nm7_l15_ok : LoopOK nm7_V nm7_A (loopAt nm7_b 4) nm7_l15_L := loopOK_of fun s e s' h => by
 generalize hs : restrict nm7_l15_L.kp s = s1 at h
 have h : (nm7_l15_D s1).run some = some (e, s') := h
 obtain ⟨e1, h_0⟩ := asRef_spec h
 obtain ⟨d3, e2, h_1⟩ := asImmZ_spec h_0
 obtain ⟨e4, h_2⟩ := asFn_spec h_1
 obtain ⟨d6, e5, h_3⟩ := asImmZ_spec h_2
 obtain ⟨d8, e7, h_4⟩ := asImmZ_spec h_3
 obtain ⟨m10, d11, e9, h_5⟩ := asRoot_spec h_4
 obtain ⟨rfl, h_6⟩ := asM_spec h_5
 obtain ⟨y, hy, hz⟩ := mat_ret h_6
 refine ⟨_, _, nm7_l15_mk d3 d6 d11, nm7_l15_out d3 d6 d11, nm7_l15 d3 d6 d11, d8, y, ?_, hy, ?_, nm7_l15_step d3 d6 d11⟩
 ·subst hs; exact restrict_eq (T := [(0, (.ref (0, 0) [])), (1, (.imm true (.int .i64) d3)), (4, (.fn 123 [])), (12, (.imm true (.int .i64) d6)), (13, (.imm true (.int .i64) d8))]) (U := [((0, 0), some ⟨false, (.sl kMatrix), (.sl (.imm true)), d11⟩)]) rfl rfl ⟨e1, e2, e4, e5, e7, trivial⟩ ⟨e9, trivial⟩
 ·exact Option.some.inj hz
set_option maxRecDepth 100000 in
theorem nm7_l1000013_step : ∀ (h1000013_0_0 : Int) (x : (Int × Int × (List TMatrix))) (c : St → Option (Ex × St)), den nm7_V nm7_A (loopAt nm7_b 2) (nm7_l1000013_mk h1000013_0_0 x) (roundK nm7_l1000013_L.kp nm7_l1000013_L.kx c) = (nm7_l1000013 h1000013_0_0 x).run (roundR (nm7_l1000013_mk h1000013_0_0) (nm7_l1000013_out h1000013_0_0) c) := fun _ _ _ => by
 kernel_rfl
theorem nm7_l1000013_ok : LoopOK nm7_V nm7_A (loopAt nm7_b 2) nm7_l1000013_L := loopOK_of fun s e s' h => by
 generalize hs : restrict nm7_l1000013_L.kp s = s1 at h
 have h : (nm7_l1000013_D s1).run some = some (e, s') := h
 obtain ⟨e1, h_0⟩ := asRef_spec h
 obtain ⟨d3, e2, h_1⟩ := asImmZ_spec h_0
 obtain ⟨e4, h_2⟩ := asFn_spec h_1
 obtain ⟨d6, e5, h_3⟩ := asImmZ_spec h_2
 obtain ⟨d8, e7, h_4⟩ := asImmZ_spec h_3
 obtain ⟨m10, d11, e9, h_5⟩ := asRoot_spec h_4
 obtain ⟨rfl, h_6⟩ := asM_spec h_5
 obtain ⟨y, hy, hz⟩ := mat_ret h_6
 refine ⟨_, _, nm7_l1000013_mk d3, nm7_l1000013_out d3, nm7_l1000013 d3, (d6, d8, d11), y, ?_, hy, ?_, nm7_l1000013_step d3⟩
 ·subst hs; exact restrict_eq (T := [(0, (.ref (0, 0) [])), (1, (.imm true (.int .i64) d3)), (4, (.fn 123 [])), (12, (.imm true (.int .i64) d6)), (13, (.imm true (.int .i64) d8))]) (U := [((0, 0), some ⟨false, (.sl kMatrix), (.sl (.imm true)), d11⟩)]) rfl rfl ⟨e1, e2, e4, e5, e7, trivial⟩ ⟨e9, trivial⟩
 ·exact Option.some.inj hz
noncomputable def nm7_I : FnI := ⟨nm7_b, Try.f155.results.toList, Try.f155.resultTypes.toList, nm7_A⟩
noncomputable def nm7_out (_p0 : Int) (_p1 : Int) (_p2 : Int) (_p3 : (List TMatrix)) : (Int × Bool × (List TMatrix)) → CallOut := fun r => ⟨(.tcons (.imm true (.int .i64) r.1) (.tcons (.imm true .bool r.2.1) .tnil)), [⟨false, (.sl kMatrix), (.sl (.imm true)), r.2.2⟩], []⟩
set_option maxRecDepth 100000 in
theorem nm7_eq : ∀ (p0 : Int) (p1 : Int) (p2 : Int) (p3 : (List TMatrix)), denFn nm7_V nm7_I ⟨[(.ref (0, 0) []), (.imm true (.int .i64) p0), (.imm true (.int .i64) p1), (.imm true (.int .i64) p2), (.fn 123 [])], [⟨false, (.sl kMatrix), (.sl (.imm true)), p3⟩]⟩ = (nm7 p0 p1 p2 p3).run fun r => some (nm7_out p0 p1 p2 p3 r) := fun _ _ _ _ => by kernel_rfl
noncomputable def nm7_G (av : List AV) (rs : List Root) : Tre CallOut :=
 asCons av fun a0_ av0 =>
 asCons av0 fun a1_ av1 =>
 asCons av1 fun a2_ av2 =>
 asCons av2 fun a3_ av3 =>
 asCons av3 fun a4_ av4 =>
 asEnd av4 <|
 asCons rs fun r0_ rs0 =>
 asEnd rs0 <|
 asRef (0, 0) [] a0_ <|
 asImmZ true (.int .i64) a1_ fun d1 =>
 asImmZ true (.int .i64) a2_ fun d2 =>
 asImmZ true (.int .i64) a3_ fun d3 =>
 asFn 123 [] a4_ <|
 asRt false (.sl kMatrix) r0_ fun m4 d5 =>
 asM (.sl (.imm true)) m4 <|
 .mat (nm7_F d1 d2 d3 d5) fun r => .ret (nm7_out d1 d2 d3 d5 r)
noncomputable def nm7_c : Ctr := ⟨[0], fun ci => nm7_G ci.args ci.roots, false⟩
theorem nm7_env : EnvOK Try.prog .none nm7_V := (envOK_cons i_spacesc1c1_ok ent123 envOK_nil)
set_option maxRecDepth 100000 in
theorem nm7_ok : Contract Try.prog .none 155 nm7_c := by
 have hl : LoopsOK nm7_V nm7_A nm7_b := (loopsOK_all (n := 5) (by kernel_rfl) fun k hk => by
   match k, hk with
   | 0, _ => exact loopOK_at (id := 3) (L := nm7_l3_L) (by kernel_rfl) (by kernel_rfl) nm7_l3_ok
   | 1, _ => exact loopOK_at (id := 5) (L := nm7_l5_L) (by kernel_rfl) (by kernel_rfl) nm7_l5_ok
   | 2, _ => exact loopOK_at (id := 1000013) (L := nm7_l1000013_L) (by kernel_rfl) (by kernel_rfl) nm7_l1000013_ok
   | 3, _ => exact loopOK_at (id := 13) (L := nm7_l13_L) (by kernel_rfl) (by kernel_rfl) nm7_l13_ok
   | 4, _ => exact loopOK_at (id := 15) (L := nm7_l15_L) (by kernel_rfl) (by kernel_rfl) nm7_l15_ok)
 refine (contract_of (F := nm7_I) tau_tys nm7_env Try.func155 (by kernel_rfl) (by kernel_rfl) (by kernel_rfl) hl [0]).weaken ?_
 rintro ⟨av, rs⟩ co h
 have h : (nm7_G av rs).run some = some co := h
 obtain ⟨a0_, av0, rfl, h_0⟩ := asCons_spec h
 obtain ⟨a1_, av1, rfl, h_1⟩ := asCons_spec h_0
 obtain ⟨a2_, av2, rfl, h_2⟩ := asCons_spec h_1
 obtain ⟨a3_, av3, rfl, h_3⟩ := asCons_spec h_2
 obtain ⟨a4_, av4, rfl, h_4⟩ := asCons_spec h_3
 obtain ⟨rfl, h_5⟩ := asEnd_spec h_4
 obtain ⟨r0_, rs0, rfl, h_6⟩ := asCons_spec h_5
 obtain ⟨rfl, h_7⟩ := asEnd_spec h_6
 obtain ⟨rfl, h_8⟩ := asRef_spec h_7
 obtain ⟨d1, rfl, h_9⟩ := asImmZ_spec h_8
 obtain ⟨d2, rfl, h_10⟩ := asImmZ_spec h_9
 obtain ⟨d3, rfl, h_11⟩ := asImmZ_spec h_10
 obtain ⟨rfl, h_12⟩ := asFn_spec h_11
 obtain ⟨m4, d5, rfl, h_13⟩ := asRt_spec h_12
 obtain ⟨rfl, h_14⟩ := asM_spec h_13
 exact fin_mat (nm7_eq d1 d2 d3 d5) h_14
end Go.Proofs.Ythnkanacjhlhhaa

namespace Go.Proofs.Ythnkanacjhlhhaa
open Go Go.Abs Go.Proofs
set_option maxHeartbeats 4000000 in
noncomputable def nm10_l2 (g_ : Int → Int → Int → (List TMatrix) → Option (List TMatrix)) : (Int × Int × Int × Bool × Bool × (List TMatrix)) → Tre ((Int × Int × Int × Bool × Bool × (List TMatrix)) ⊕ (List TMatrix)) := fun s2 =>
 let v1 := iwrap .i64 (s2.2.1 - s2.1)
 .cond (decide (v1 ≤ 12))
  (.mat (nm3_F s2.1 s2.2.1 s2.2.2.2.2.2) fun r2 =>
  .ret (.inr r2))
  (.cond (decide (s2.2.2.1 = 0))
   (.mat (nm9_F s2.1 s2.2.1 s2.2.2.2.2.2) fun r3 =>
   .ret (.inr r3))
   (.cond (!s2.2.2.2.1)
    (.mat (nm4_F s2.1 s2.2.1 s2.2.2.2.2.2) fun r4 =>
    .mat (nm6_F s2.1 s2.2.1 r4) fun r5 =>
    .cond (decide (r5.2 = 2))
     (.mat (nm5_F s2.1 s2.2.1 r4) fun r6 =>
     let v7 := iwrap .i64 (r5.1 - s2.1)
     let v8 := iwrap .i64 ((iwrap .i64 (s2.2.1 - 1)) - v7)
     .cond s2.2.2.2.1
      (.cond s2.2.2.2.2.1
       (.mat (nm0_F s2.1 s2.2.1 r6) fun r9 =>
       .cond r9.1
        (.ret (.inr r9.2))
        (.cond (decide (s2.1 > 0))
         (.ite (0 ≤ iwrap .i64 (s2.1 - 1) ∧ iwrap .i64 (s2.1 - 1) < (r9.2.length : Int)) <|
         .mat (r9.2[(iwrap .i64 (s2.1 - 1)).toNat]?) fun x10 =>
         .ite (0 ≤ v8 ∧ v8 < (r9.2.length : Int)) <|
         .mat (r9.2[v8.toNat]?) fun x11 =>
         .mat (i_spacesc1c1_F x10 x11) fun r12 =>
         .cond (!(decide (r12 < 0)))
          (.mat (nm2_F s2.1 s2.2.1 v8 r9.2) fun r13 =>
          .ret (.inl (r13.1, s2.2.1, iwrap .i64 (s2.2.2.1 - 1), s2.2.2.2.1, s2.2.2.2.2.1, r13.2)))
          (.mat (nm7_F s2.1 s2.2.1 v8 r9.2) fun r14 =>
          let v15 := iwrap .i64 (r14.1 - s2.1)
          let v16 := iwrap .i64 (s2.2.1 - r14.1)
          let v17 := iwrap .i64 (Int.tdiv v1 8)
          .cond (decide (v15 < v16))
           (.mat (g_ s2.1 r14.1 (iwrap .i64 (s2.2.2.1 - 1)) r14.2.2) fun r18 =>
           .ret (.inl (iwrap .i64 (r14.1 + 1), s2.2.1, iwrap .i64 (s2.2.2.1 - 1), decide (v15 ≥ v17), r14.2.1, r18)))
           (.mat (g_ (iwrap .i64 (r14.1 + 1)) s2.2.1 (iwrap .i64 (s2.2.2.1 - 1)) r14.2.2) fun r19 =>
           .ret (.inl (s2.1, r14.1, iwrap .i64 (s2.2.2.1 - 1), decide (v16 ≥ v17), r14.2.1, r19)))))
         (.mat (nm7_F s2.1 s2.2.1 v8 r9.2) fun r20 =>
         let v21 := iwrap .i64 (r20.1 - s2.1)
         let v22 := iwrap .i64 (s2.2.1 - r20.1)
         let v23 := iwrap .i64 (Int.tdiv v1 8)
         .cond (decide (v21 < v22))
          (.mat (g_ s2.1 r20.1 (iwrap .i64 (s2.2.2.1 - 1)) r20.2.2) fun r24 =>
          .ret (.inl (iwrap .i64 (r20.1 + 1), s2.2.1, iwrap .i64 (s2.2.2.1 - 1), decide (v21 ≥ v23), r20.2.1, r24)))
          (.mat (g_ (iwrap .i64 (r20.1 + 1)) s2.2.1 (iwrap .i64 (s2.2.2.1 - 1)) r20.2.2) fun r25 =>
          .ret (.inl (s2.1, r20.1, iwrap .i64 (s2.2.2.1 - 1), decide (v22 ≥ v23), r20.2.1, r25))))))
       (.cond (decide (s2.1 > 0))
        (.ite (0 ≤ iwrap .i64 (s2.1 - 1) ∧ iwrap .i64 (s2.1 - 1) < (r6.length : Int)) <|
        .mat (r6[(iwrap .i64 (s2.1 - 1)).toNat]?) fun x26 =>
        .ite (0 ≤ v8 ∧ v8 < (r6.length : Int)) <|
        .mat (r6[v8.toNat]?) fun x27 =>
        .mat (i_spacesc1c1_F x26 x27) fun r28 =>
        .cond (!(decide (r28 < 0)))
         (.mat (nm2_F s2.1 s2.2.1 v8 r6) fun r29 =>
         .ret (.inl (r29.1, s2.2.1, iwrap .i64 (s2.2.2.1 - 1), s2.2.2.2.1, s2.2.2.2.2.1, r29.2)))
         (.mat (nm7_F s2.1 s2.2.1 v8 r6) fun r30 =>
         let v31 := iwrap .i64 (r30.1 - s2.1)
         let v32 := iwrap .i64 (s2.2.1 - r30.1)
         let v33 := iwrap .i64 (Int.tdiv v1 8)
         .cond (decide (v31 < v32))
          (.mat (g_ s2.1 r30.1 (iwrap .i64 (s2.2.2.1 - 1)) r30.2.2) fun r34 =>
          .ret (.inl (iwrap .i64 (r30.1 + 1), s2.2.1, iwrap .i64 (s2.2.2.1 - 1), decide (v31 ≥ v33), r30.2.1, r34)))
          (.mat (g_ (iwrap .i64 (r30.1 + 1)) s2.2.1 (iwrap .i64 (s2.2.2.1 - 1)) r30.2.2) fun r35 =>
          .ret (.inl (s2.1, r30.1, iwrap .i64 (s2.2.2.1 - 1), decide (v32 ≥ v33), r30.2.1, r35)))))
        (.mat (nm7_F s2.1 s2.2.1 v8 r6) fun r36 =>
        let v37 := iwrap .i64 (r36.1 - s2.1)
        let v38 := iwrap .i64 (s2.2.1 - r36.1)
        let v39 := iwrap .i64 (Int.tdiv v1 8)
        .cond (decide (v37 < v38))
         (.mat (g_ s2.1 r36.1 (iwrap .i64 (s2.2.2.1 - 1)) r36.2.2) fun r40 =>
         .ret (.inl (iwrap .i64 (r36.1 + 1), s2.2.1, iwrap .i64 (s2.2.2.1 - 1), decide (v37 ≥ v39), r36.2.1, r40)))
         (.mat (g_ (iwrap .i64 (r36.1 + 1)) s2.2.1 (iwrap .i64 (s2.2.2.1 - 1)) r36.2.2) fun r41 =>
         .ret (.inl (s2.1, r36.1, iwrap .i64 (s2.2.2.1 - 1), decide (v38 ≥ v39), r36.2.1, r41))))))
      (.cond (decide (s2.1 > 0))
       (.ite (0 ≤ iwrap .i64 (s2.1 - 1) ∧ iwrap .i64 (s2.1 - 1) < (r6.length : Int)) <|
       .mat (r6[(iwrap .i64 (s2.1 - 1)).toNat]?) fun x42 =>
       .ite (0 ≤ v8 ∧ v8 < (r6.length : Int)) <|
       .mat (r6[v8.toNat]?) fun x43 =>
       .mat (i_spacesc1c1_F x42 x43) fun r44 =>
       .cond (!(decide (r44 < 0)))
        (.mat (nm2_F s2.1 s2.2.1 v8 r6) fun r45 =>
        .ret (.inl (r45.1, s2.2.1, iwrap .i64 (s2.2.2.1 - 1), s2.2.2.2.1, s2.2.2.2.2.1, r45.2)))
        (.mat (nm7_F s2.1 s2.2.1 v8 r6) fun r46 =>
        let v47 := iwrap .i64 (r46.1 - s2.1)
        let v48 := iwrap .i64 (s2.2.1 - r46.1)
        let v49 := iwrap .i64 (Int.tdiv v1 8)
        .cond (decide (v47 < v48))
         (.mat (g_ s2.1 r46.1 (iwrap .i64 (s2.2.2.1 - 1)) r46.2.2) fun r50 =>
         .ret (.inl (iwrap .i64 (r46.1 + 1), s2.2.1, iwrap .i64 (s2.2.2.1 - 1), decide (v47 ≥ v49), r46.2.1, r50)))
         (.mat (g_ (iwrap .i64 (r46.1 + 1)) s2.2.1 (iwrap .i64 (s2.2.2.1 - 1)) r46.2.2) fun r51 =>
         .ret (.inl (s2.1, r46.1, iwrap .i64 (s2.2.2.1 - 1), decide (v48 ≥ v49), r46.2.1, r51)))))
       (.mat (nm7_F s2.1 s2.2.1 v8 r6) fun r52 =>
       let v53 := iwrap .i64 (r52.1 - s2.1)
       let v54 := iwrap .i64 (s2.2.1 - r52.1)
       let v55 := iwrap .i64 (Int.tdiv v1 8)
       .cond (decide (v53 < v54))
        (.mat (g_ s2.1 r52.1 (iwrap .i64 (s2.2.2.1 - 1)) r52.2.2) fun r56 =>
        .ret (.inl (iwrap .i64 (r52.1 + 1), s2.2.1, iwrap .i64 (s2.2.2.1 - 1), decide (v53 ≥ v55), r52.2.1, r56)))
        (.mat (g_ (iwrap .i64 (r52.1 + 1)) s2.2.1 (iwrap .i64 (s2.2.2.1 - 1)) r52.2.2) fun r57 =>
        .ret (.inl (s2.1, r52.1, iwrap .i64 (s2.2.2.1 - 1), decide (v54 ≥ v55), r52.2.1, r57))))))
     (.cond s2.2.2.2.1
      (.cond s2.2.2.2.2.1
       (.cond (decide (r5.2 = 1))
        (.mat (nm0_F s2.1 s2.2.1 r4) fun r58 =>
        .cond r58.1
         (.ret (.inr r58.2))
         (.cond (decide (s2.1 > 0))
          (.ite (0 ≤ iwrap .i64 (s2.1 - 1) ∧ iwrap .i64 (s2.1 - 1) < (r58.2.length : Int)) <|
          .mat (r58.2[(iwrap .i64 (s2.1 - 1)).toNat]?) fun x59 =>
          .ite (0 ≤ r5.1 ∧ r5.1 < (r58.2.length : Int)) <|
          .mat (r58.2[r5.1.toNat]?) fun x60 =>
          .mat (i_spacesc1c1_F x59 x60) fun r61 =>
          .cond (!(decide (r61 < 0)))
           (.mat (nm2_F s2.1 s2.2.1 r5.1 r58.2) fun r62 =>
           .ret (.inl (r62.1, s2.2.1, iwrap .i64 (s2.2.2.1 - 1), s2.2.2.2.1, s2.2.2.2.2.1, r62.2)))
           (.mat (nm7_F s2.1 s2.2.1 r5.1 r58.2) fun r63 =>
           let v64 := iwrap .i64 (r63.1 - s2.1)
           let v65 := iwrap .i64 (s2.2.1 - r63.1)
           let v66 := iwrap .i64 (Int.tdiv v1 8)
           .cond (decide (v64 < v65))
            (.mat (g_ s2.1 r63.1 (iwrap .i64 (s2.2.2.1 - 1)) r63.2.2) fun r67 =>
            .ret (.inl (iwrap .i64 (r63.1 + 1), s2.2.1, iwrap .i64 (s2.2.2.1 - 1), decide (v64 ≥ v66), r63.2.1, r67)))
            (.mat (g_ (iwrap .i64 (r63.1 + 1)) s2.2.1 (iwrap .i64 (s2.2.2.1 - 1)) r63.2.2) fun r68 =>
            .ret (.inl (s2.1, r63.1, iwrap .i64 (s2.2.2.1 - 1), decide (v65 ≥ v66), r63.2.1, r68)))))
          (.mat (nm7_F s2.1 s2.2.1 r5.1 r58.2) fun r69 =>
          let v70 := iwrap .i64 (r69.1 - s2.1)
          let v71 := iwrap .i64 (s2.2.1 - r69.1)
          let v72 := iwrap .i64 (Int.tdiv v1 8)
          .cond (decide (v70 < v71))
           (.mat (g_ s2.1 r69.1 (iwrap .i64 (s2.2.2.1 - 1)) r69.2.2) fun r73 =>
           .ret (.inl (iwrap .i64 (r69.1 + 1), s2.2.1, iwrap .i64 (s2.2.2.1 - 1), decide (v70 ≥ v72), r69.2.1, r73)))
           (.mat (g_ (iwrap .i64 (r69.1 + 1)) s2.2.1 (iwrap .i64 (s2.2.2.1 - 1)) r69.2.2) fun r74 =>
           .ret (.inl (s2.1, r69.1, iwrap .i64 (s2.2.2.1 - 1), decide (v71 ≥ v72), r69.2.1, r74))))))
        (.cond (decide (s2.1 > 0))
         (.ite (0 ≤ iwrap .i64 (s2.1 - 1) ∧ iwrap .i64 (s2.1 - 1) < (r4.length : Int)) <|
         .mat (r4[(iwrap .i64 (s2.1 - 1)).toNat]?) fun x75 =>
         .ite (0 ≤ r5.1 ∧ r5.1 < (r4.length : Int)) <|
         .mat (r4[r5.1.toNat]?) fun x76 =>
         .mat (i_spacesc1c1_F x75 x76) fun r77 =>
         .cond (!(decide (r77 < 0)))
          (.mat (nm2_F s2.1 s2.2.1 r5.1 r4) fun r78 =>
          .ret (.inl (r78.1, s2.2.1, iwrap .i64 (s2.2.2.1 - 1), s2.2.2.2.1, s2.2.2.2.2.1, r78.2)))
          (.mat (nm7_F s2.1 s2.2.1 r5.1 r4) fun r79 =>
          let v80 := iwrap .i64 (r79.1 - s2.1)
          let v81 := iwrap .i64 (s2.2.1 - r79.1)
          let v82 := iwrap .i64 (Int.tdiv v1 8)
          .cond (decide (v80 < v81))
           (.mat (g_ s2.1 r79.1 (iwrap .i64 (s2.2.2.1 - 1)) r79.2.2) fun r83 =>
           .ret (.inl (iwrap .i64 (r79.1 + 1), s2.2.1, iwrap .i64 (s2.2.2.1 - 1), decide (v80 ≥ v82), r79.2.1, r83)))
           (.mat (g_ (iwrap .i64 (r79.1 + 1)) s2.2.1 (iwrap .i64 (s2.2.2.1 - 1)) r79.2.2) fun r84 =>
           .ret (.inl (s2.1, r79.1, iwrap .i64 (s2.2.2.1 - 1), decide (v81 ≥ v82), r79.2.1, r84)))))
         (.mat (nm7_F s2.1 s2.2.1 r5.1 r4) fun r85 =>
         let v86 := iwrap .i64 (r85.1 - s2.1)
         let v87 := iwrap .i64 (s2.2.1 - r85.1)
         let v88 := iwrap .i64 (Int.tdiv v1 8)
         .cond (decide (v86 < v87))
          (.mat (g_ s2.1 r85.1 (iwrap .i64 (s2.2.2.1 - 1)) r85.2.2) fun r89 =>
          .ret (.inl (iwrap .i64 (r85.1 + 1), s2.2.1, iwrap .i64 (s2.2.2.1 - 1), decide (v86 ≥ v88), r85.2.1, r89)))
          (.mat (g_ (iwrap .i64 (r85.1 + 1)) s2.2.1 (iwrap .i64 (s2.2.2.1 - 1)) r85.2.2) fun r90 =>
          .ret (.inl (s2.1, r85.1, iwrap .i64 (s2.2.2.1 - 1), decide (v87 ≥ v88), r85.2.1, r90))))))
       (.cond (decide (s2.1 > 0))
        (.ite (0 ≤ iwrap .i64 (s2.1 - 1) ∧ iwrap .i64 (s2.1 - 1) < (r4.length : Int)) <|
        .mat (r4[(iwrap .i64 (s2.1 - 1)).toNat]?) fun x91 =>
        .ite (0 ≤ r5.1 ∧ r5.1 < (r4.length : Int)) <|
        .mat (r4[r5.1.toNat]?) fun x92 =>
        .mat (i_spacesc1c1_F x91 x92) fun r93 =>
        .cond (!(decide (r93 < 0)))
         (.mat (nm2_F s2.1 s2.2.1 r5.1 r4) fun r94 =>
         .ret (.inl (r94.1, s2.2.1, iwrap .i64 (s2.2.2.1 - 1), s2.2.2.2.1, s2.2.2.2.2.1, r94.2)))
         (.mat (nm7_F s2.1 s2.2.1 r5.1 r4) fun r95 =>
         let v96 := iwrap .i64 (r95.1 - s2.1)
         let v97 := iwrap .i64 (s2.2.1 - r95.1)
         let v98 := iwrap .i64 (Int.tdiv v1 8)
         .cond (decide (v96 < v97))
          (.mat (g_ s2.1 r95.1 (iwrap .i64 (s2.2.2.1 - 1)) r95.2.2) fun r99 =>
          .ret (.inl (iwrap .i64 (r95.1 + 1), s2.2.1, iwrap .i64 (s2.2.2.1 - 1), decide (v96 ≥ v98), r95.2.1, r99)))
          (.mat (g_ (iwrap .i64 (r95.1 + 1)) s2.2.1 (iwrap .i64 (s2.2.2.1 - 1)) r95.2.2) fun r100 =>
          .ret (.inl (s2.1, r95.1, iwrap .i64 (s2.2.2.1 - 1), decide (v97 ≥ v98), r95.2.1, r100)))))
        (.mat (nm7_F s2.1 s2.2.1 r5.1 r4) fun r101 =>
        let v102 := iwrap .i64 (r101.1 - s2.1)
        let v103 := iwrap .i64 (s2.2.1 - r101.1)
        let v104 := iwrap .i64 (Int.tdiv v1 8)
        .cond (decide (v102 < v103))
         (.mat (g_ s2.1 r101.1 (iwrap .i64 (s2.2.2.1 - 1)) r101.2.2) fun r105 =>
         .ret (.inl (iwrap .i64 (r101.1 + 1), s2.2.1, iwrap .i64 (s2.2.2.1 - 1), decide (v102 ≥ v104), r101.2.1, r105)))
         (.mat (g_ (iwrap .i64 (r101.1 + 1)) s2.2.1 (iwrap .i64 (s2.2.2.1 - 1)) r101.2.2) fun r106 =>
         .ret (.inl (s2.1, r101.1, iwrap .i64 (s2.2.2.1 - 1), decide (v103 ≥ v104), r101.2.1, r106))))))
      (.cond (decide (s2.1 > 0))
       (.ite (0 ≤ iwrap .i64 (s2.1 - 1) ∧ iwrap .i64 (s2.1 - 1) < (r4.length : Int)) <|
       .mat (r4[(iwrap .i64 (s2.1 - 1)).toNat]?) fun x107 =>
       .ite (0 ≤ r5.1 ∧ r5.1 < (r4.length : Int)) <|
       .mat (r4[r5.1.toNat]?) fun x108 =>
       .mat (i_spacesc1c1_F x107 x108) fun r109 =>
       .cond (!(decide (r109 < 0)))
        (.mat (nm2_F s2.1 s2.2.1 r5.1 r4) fun r110 =>
        .ret (.inl (r110.1, s2.2.1, iwrap .i64 (s2.2.2.1 - 1), s2.2.2.2.1, s2.2.2.2.2.1, r110.2)))
        (.mat (nm7_F s2.1 s2.2.1 r5.1 r4) fun r111 =>
        let v112 := iwrap .i64 (r111.1 - s2.1)
        let v113 := iwrap .i64 (s2.2.1 - r111.1)
        let v114 := iwrap .i64 (Int.tdiv v1 8)
        .cond (decide (v112 < v113))
         (.mat (g_ s2.1 r111.1 (iwrap .i64 (s2.2.2.1 - 1)) r111.2.2) fun r115 =>
         .ret (.inl (iwrap .i64 (r111.1 + 1), s2.2.1, iwrap .i64 (s2.2.2.1 - 1), decide (v112 ≥ v114), r111.2.1, r115)))
         (.mat (g_ (iwrap .i64 (r111.1 + 1)) s2.2.1 (iwrap .i64 (s2.2.2.1 - 1)) r111.2.2) fun r116 =>
         .ret (.inl (s2.1, r111.1, iwrap .i64 (s2.2.2.1 - 1), decide (v113 ≥ v114), r111.2.1, r116)))))
       (.mat (nm7_F s2.1 s2.2.1 r5.1 r4) fun r117 =>
       let v118 := iwrap .i64 (r117.1 - s2.1)
       let v119 := iwrap .i64 (s2.2.1 - r117.1)
       let v120 := iwrap .i64 (Int.tdiv v1 8)
       .cond (decide (v118 < v119))
        (.mat (g_ s2.1 r117.1 (iwrap .i64 (s2.2.2.1 - 1)) r117.2.2) fun r121 =>
        .ret (.inl (iwrap .i64 (r117.1 + 1), s2.2.1, iwrap .i64 (s2.2.2.1 - 1), decide (v118 ≥ v120), r117.2.1, r121)))
        (.mat (g_ (iwrap .i64 (r117.1 + 1)) s2.2.1 (iwrap .i64 (s2.2.2.1 - 1)) r117.2.2) fun r122 =>
        .ret (.inl (s2.1, r117.1, iwrap .i64 (s2.2.2.1 - 1), decide (v119 ≥ v120), r117.2.1, r122)))))))
    (.mat (nm6_F s2.1 s2.2.1 s2.2.2.2.2.2) fun r123 =>
    .cond (decide (r123.2 = 2))
     (.mat (nm5_F s2.1 s2.2.1 s2.2.2.2.2.2) fun r124 =>
     let v125 := iwrap .i64 (r123.1 - s2.1)
     let v126 := iwrap .i64 ((iwrap .i64 (s2.2.1 - 1)) - v125)
     .cond s2.2.2.2.1
      (.cond s2.2.2.2.2.1
       (.mat (nm0_F s2.1 s2.2.1 r124) fun r127 =>
       .cond r127.1
        (.ret (.inr r127.2))
        (.cond (decide (s2.1 > 0))
         (.ite (0 ≤ iwrap .i64 (s2.1 - 1) ∧ iwrap .i64 (s2.1 - 1) < (r127.2.length : Int)) <|
         .mat (r127.2[(iwrap .i64 (s2.1 - 1)).toNat]?) fun x128 =>
         .ite (0 ≤ v126 ∧ v126 < (r127.2.length : Int)) <|
         .mat (r127.2[v126.toNat]?) fun x129 =>
         .mat (i_spacesc1c1_F x128 x129) fun r130 =>
         .cond (!(decide (r130 < 0)))
          (.mat (nm2_F s2.1 s2.2.1 v126 r127.2) fun r131 =>
          .ret (.inl (r131.1, s2.2.1, s2.2.2.1, s2.2.2.2.1, s2.2.2.2.2.1, r131.2)))
          (.mat (nm7_F s2.1 s2.2.1 v126 r127.2) fun r132 =>
          let v133 := iwrap .i64 (r132.1 - s2.1)
          let v134 := iwrap .i64 (s2.2.1 - r132.1)
          let v135 := iwrap .i64 (Int.tdiv v1 8)
          .cond (decide (v133 < v134))
           (.mat (g_ s2.1 r132.1 s2.2.2.1 r132.2.2) fun r136 =>
           .ret (.inl (iwrap .i64 (r132.1 + 1), s2.2.1, s2.2.2.1, decide (v133 ≥ v135), r132.2.1, r136)))
           (.mat (g_ (iwrap .i64 (r132.1 + 1)) s2.2.1 s2.2.2.1 r132.2.2) fun r137 =>
           .ret (.inl (s2.1, r132.1, s2.2.2.1, decide (v134 ≥ v135), r132.2.1, r137)))))
         (.mat (nm7_F s2.1 s2.2.1 v126 r127.2) fun r138 =>
         let v139 := iwrap .i64 (r138.1 - s2.1)
         let v140 := iwrap .i64 (s2.2.1 - r138.1)
         let v141 := iwrap .i64 (Int.tdiv v1 8)
         .cond (decide (v139 < v140))
          (.mat (g_ s2.1 r138.1 s2.2.2.1 r138.2.2) fun r142 =>
          .ret (.inl (iwrap .i64 (r138.1 + 1), s2.2.1, s2.2.2.1, decide (v139 ≥ v141), r138.2.1, r142)))
          (.mat (g_ (iwrap .i64 (r138.1 + 1)) s2.2.1 s2.2.2.1 r138.2.2) fun r143 =>
          .ret (.inl (s2.1, r138.1, s2.2.2.1, decide (v140 ≥ v141), r138.2.1, r143))))))
       (.cond (decide (s2.1 > 0))
        (.ite (0 ≤ iwrap .i64 (s2.1 - 1) ∧ iwrap .i64 (s2.1 - 1) < (r124.length : Int)) <|
        .mat (r124[(iwrap .i64 (s2.1 - 1)).toNat]?) fun x144 =>
        .ite (0 ≤ v126 ∧ v126 < (r124.length : Int)) <|
        .mat (r124[v126.toNat]?) fun x145 =>
        .mat (i_spacesc1c1_F x144 x145) fun r146 =>
        .cond (!(decide (r146 < 0)))
         (.mat (nm2_F s2.1 s2.2.1 v126 r124) fun r147 =>
         .ret (.inl (r147.1, s2.2.1, s2.2.2.1, s2.2.2.2.1, s2.2.2.2.2.1, r147.2)))
         (.mat (nm7_F s2.1 s2.2.1 v126 r124) fun r148 =>
         let v149 := iwrap .i64 (r148.1 - s2.1)
         let v150 := iwrap .i64 (s2.2.1 - r148.1)
         let v151 := iwrap .i64 (Int.tdiv v1 8)
         .cond (decide (v149 < v150))
          (.mat (g_ s2.1 r148.1 s2.2.2.1 r148.2.2) fun r152 =>
          .ret (.inl (iwrap .i64 (r148.1 + 1), s2.2.1, s2.2.2.1, decide (v149 ≥ v151), r148.2.1, r152)))
          (.mat (g_ (iwrap .i64 (r148.1 + 1)) s2.2.1 s2.2.2.1 r148.2.2) fun r153 =>
          .ret (.inl (s2.1, r148.1, s2.2.2.1, decide (v150 ≥ v151), r148.2.1, r153)))))
        (.mat (nm7_F s2.1 s2.2.1 v126 r124) fun r154 =>
        let v155 := iwrap .i64 (r154.1 - s2.1)
        let v156 := iwrap .i64 (s2.2.1 - r154.1)
        let v157 := iwrap .i64 (Int.tdiv v1 8)
        .cond (decide (v155 < v156))
         (.mat (g_ s2.1 r154.1 s2.2.2.1 r154.2.2) fun r158 =>
         .ret (.inl (iwrap .i64 (r154.1 + 1), s2.2.1, s2.2.2.1, decide (v155 ≥ v157), r154.2.1, r158)))
         (.mat (g_ (iwrap .i64 (r154.1 + 1)) s2.2.1 s2.2.2.1 r154.2.2) fun r159 =>
         .ret (.inl (s2.1, r154.1, s2.2.2.1, decide (v156 ≥ v157), r154.2.1, r159))))))
      (.cond (decide (s2.1 > 0))
       (.ite (0 ≤ iwrap .i64 (s2.1 - 1) ∧ iwrap .i64 (s2.1 - 1) < (r124.length : Int)) <|
       .mat (r124[(iwrap .i64 (s2.1 - 1)).toNat]?) fun x160 =>
       .ite (0 ≤ v126 ∧ v126 < (r124.length : Int)) <|
       .mat (r124[v126.toNat]?) fun x161 =>
       .mat (i_spacesc1c1_F x160 x161) fun r162 =>
       .cond (!(decide (r162 < 0)))
        (.mat (nm2_F s2.1 s2.2.1 v126 r124) fun r163 =>
        .ret (.inl (r163.1, s2.2.1, s2.2.2.1, s2.2.2.2.1, s2.2.2.2.2.1, r163.2)))
        (.mat (nm7_F s2.1 s2.2.1 v126 r124) fun r164 =>
        let v165 := iwrap .i64 (r164.1 - s2.1)
        let v166 := iwrap .i64 (s2.2.1 - r164.1)
        let v167 := iwrap .i64 (Int.tdiv v1 8)
        .cond (decide (v165 < v166))
         (.mat (g_ s2.1 r164.1 s2.2.2.1 r164.2.2) fun r168 =>
         .ret (.inl (iwrap .i64 (r164.1 + 1), s2.2.1, s2.2.2.1, decide (v165 ≥ v167), r164.2.1, r168)))
         (.mat (g_ (iwrap .i64 (r164.1 + 1)) s2.2.1 s2.2.2.1 r164.2.2) fun r169 =>
         .ret (.inl (s2.1, r164.1, s2.2.2.1, decide (v166 ≥ v167), r164.2.1, r169)))))
       (.mat (nm7_F s2.1 s2.2.1 v126 r124) fun r170 =>
       let v171 := iwrap .i64 (r170.1 - s2.1)
       let v172 := iwrap .i64 (s2.2.1 - r170.1)
       let v173 := iwrap .i64 (Int.tdiv v1 8)
       .cond (decide (v171 < v172))
        (.mat (g_ s2.1 r170.1 s2.2.2.1 r170.2.2) fun r174 =>
        .ret (.inl (iwrap .i64 (r170.1 + 1), s2.2.1, s2.2.2.1, decide (v171 ≥ v173), r170.2.1, r174)))
        (.mat (g_ (iwrap .i64 (r170.1 + 1)) s2.2.1 s2.2.2.1 r170.2.2) fun r175 =>
        .ret (.inl (s2.1, r170.1, s2.2.2.1, decide (v172 ≥ v173), r170.2.1, r175))))))
     (.cond s2.2.2.2.1
      (.cond s2.2.2.2.2.1
       (.cond (decide (r123.2 = 1))
        (.mat (nm0_F s2.1 s2.2.1 s2.2.2.2.2.2) fun r176 =>
        .cond r176.1
         (.ret (.inr r176.2))
         (.cond (decide (s2.1 > 0))
          (.ite (0 ≤ iwrap .i64 (s2.1 - 1) ∧ iwrap .i64 (s2.1 - 1) < (r176.2.length : Int)) <|
          .mat (r176.2[(iwrap .i64 (s2.1 - 1)).toNat]?) fun x177 =>
          .ite (0 ≤ r123.1 ∧ r123.1 < (r176.2.length : Int)) <|
          .mat (r176.2[r123.1.toNat]?) fun x178 =>
          .mat (i_spacesc1c1_F x177 x178) fun r179 =>
          .cond (!(decide (r179 < 0)))
           (.mat (nm2_F s2.1 s2.2.1 r123.1 r176.2) fun r180 =>
           .ret (.inl (r180.1, s2.2.1, s2.2.2.1, s2.2.2.2.1, s2.2.2.2.2.1, r180.2)))
           (.mat (nm7_F s2.1 s2.2.1 r123.1 r176.2) fun r181 =>
           let v182 := iwrap .i64 (r181.1 - s2.1)
           let v183 := iwrap .i64 (s2.2.1 - r181.1)
           let v184 := iwrap .i64 (Int.tdiv v1 8)
           .cond (decide (v182 < v183))
            (.mat (g_ s2.1 r181.1 s2.2.2.1 r181.2.2) fun r185 =>
            .ret (.inl (iwrap .i64 (r181.1 + 1), s2.2.1, s2.2.2.1, decide (v182 ≥ v184), r181.2.1, r185)))
            (.mat (g_ (iwrap .i64 (r181.1 + 1)) s2.2.1 s2.2.2.1 r181.2.2) fun r186 =>
            .ret (.inl (s2.1, r181.1, s2.2.2.1, decide (v183 ≥ v184), r181.2.1, r186)))))
          (.mat (nm7_F s2.1 s2.2.1 r123.1 r176.2) fun r187 =>
          let v188 := iwrap .i64 (r187.1 - s2.1)
          let v189 := iwrap .i64 (s2.2.1 - r187.1)
          let v190 := iwrap .i64 (Int.tdiv v1 8)
          .cond (decide (v188 < v189))
           (.mat (g_ s2.1 r187.1 s2.2.2.1 r187.2.2) fun r191 =>
           .ret (.inl (iwrap .i64 (r187.1 + 1), s2.2.1, s2.2.2.1, decide (v188 ≥ v190), r187.2.1, r191)))
           (.mat (g_ (iwrap .i64 (r187.1 + 1)) s2.2.1 s2.2.2.1 r187.2.2) fun r192 =>
           .ret (.inl (s2.1, r187.1, s2.2.2.1, decide (v189 ≥ v190), r187.2.1, r192))))))
        (.cond (decide (s2.1 > 0))
         (.ite (0 ≤ iwrap .i64 (s2.1 - 1) ∧ iwrap .i64 (s2.1 - 1) < (s2.2.2.2.2.2.length : Int)) <|
         .mat (s2.2.2.2.2.2[(iwrap .i64 (s2.1 - 1)).toNat]?) fun x193 =>
         .ite (0 ≤ r123.1 ∧ r123.1 < (s2.2.2.2.2.2.length : Int)) <|
         .mat (s2.2.2.2.2.2[r123.1.toNat]?) fun x194 =>
         .mat (i_spacesc1c1_F x193 x194) fun r195 =>
         .cond (!(decide (r195 < 0)))
          (.mat (nm2_F s2.1 s2.2.1 r123.1 s2.2.2.2.2.2) fun r196 =>
          .ret (.inl (r196.1, s2.2.1, s2.2.2.1, s2.2.2.2.1, s2.2.2.2.2.1, r196.2)))
          (.mat (nm7_F s2.1 s2.2.1 r123.1 s2.2.2.2.2.2) fun r197 =>
          let v198 := iwrap .i64 (r197.1 - s2.1)
          let v199 := iwrap .i64 (s2.2.1 - r197.1)
          let v200 := iwrap .i64 (Int.tdiv v1 8)
          .cond (decide (v198 < v199))
           (.mat (g_ s2.1 r197.1 s2.2.2.1 r197.2.2) fun r201 =>
           .ret (.inl (iwrap .i64 (r197.1 + 1), s2.2.1, s2.2.2.1, decide (v198 ≥ v200), r197.2.1, r201)))
           (.mat (g_ (iwrap .i64 (r197.1 + 1)) s2.2.1 s2.2.2.1 r197.2.2) fun r202 =>
           .ret (.inl (s2.1, r197.1, s2.2.2.1, decide (v199 ≥ v200), r197.2.1, r202)))))
         (.mat (nm7_F s2.1 s2.2.1 r123.1 s2.2.2.2.2.2) fun r203 =>
         let v204 := iwrap .i64 (r203.1 - s2.1)
         let v205 := iwrap .i64 (s2.2.1 - r203.1)
         let v206 := iwrap .i64 (Int.tdiv v1 8)
         .cond (decide (v204 < v205))
          (.mat (g_ s2.1 r203.1 s2.2.2.1 r203.2.2) fun r207 =>
          .ret (.inl (iwrap .i64 (r203.1 + 1), s2.2.1, s2.2.2.1, decide (v204 ≥ v206), r203.2.1, r207)))
          (.mat (g_ (iwrap .i64 (r203.1 + 1)) s2.2.1 s2.2.2.1 r203.2.2) fun r208 =>
          .ret (.inl (s2.1, r203.1, s2.2.2.1, decide (v205 ≥ v206), r203.2.1, r208))))))
       (.cond (decide (s2.1 > 0))
        (.ite (0 ≤ iwrap .i64 (s2.1 - 1) ∧ iwrap .i64 (s2.1 - 1) < (s2.2.2.2.2.2.length : Int)) <|
        .mat (s2.2.2.2.2.2[(iwrap .i64 (s2.1 - 1)).toNat]?) fun x209 =>
        .ite (0 ≤ r123.1 ∧ r123.1 < (s2.2.2.2.2.2.length : Int)) <|
        .mat (s2.2.2.2.2.2[r123.1.toNat]?) fun x210 =>
        .mat (i_spacesc1c1_F x209 x210) fun r211 =>
        .cond (!(decide (r211 < 0)))
         (.mat (nm2_F s2.1 s2.2.1 r123.1 s2.2.2.2.2.2) fun r212 =>
         .ret (.inl (r212.1, s2.2.1, s2.2.2.1, s2.2.2.2.1, s2.2.2.2.2.1, r212.2)))
         (.mat (nm7_F s2.1 s2.2.1 r123.1 s2.2.2.2.2.2) fun r213 =>
         let v214 := iwrap .i64 (r213.1 - s2.1)
         let v215 := iwrap .i64 (s2.2.1 - r213.1)
         let v216 := iwrap .i64 (Int.tdiv v1 8)
         .cond (decide (v214 < v215))
          (.mat (g_ s2.1 r213.1 s2.2.2.1 r213.2.2) fun r217 =>
          .ret (.inl (iwrap .i64 (r213.1 + 1), s2.2.1, s2.2.2.1, decide (v214 ≥ v216), r213.2.1, r217)))
          (.mat (g_ (iwrap .i64 (r213.1 + 1)) s2.2.1 s2.2.2.1 r213.2.2) fun r218 =>
          .ret (.inl (s2.1, r213.1, s2.2.2.1, decide (v215 ≥ v216), r213.2.1, r218)))))
        (.mat (nm7_F s2.1 s2.2.1 r123.1 s2.2.2.2.2.2) fun r219 =>
        let v220 := iwrap .i64 (r219.1 - s2.1)
        let v221 := iwrap .i64 (s2.2.1 - r219.1)
        let v222 := iwrap .i64 (Int.tdiv v1 8)
        .cond (decide (v220 < v221))
         (.mat (g_ s2.1 r219.1 s2.2.2.1 r219.2.2) fun r223 =>
         .ret (.inl (iwrap .i64 (r219.1 + 1), s2.2.1, s2.2.2.1, decide (v220 ≥ v222), r219.2.1, r223)))
         (.mat (g_ (iwrap .i64 (r219.1 + 1)) s2.2.1 s2.2.2.1 r219.2.2) fun r224 =>
         .ret (.inl (s2.1, r219.1, s2.2.2.1, decide (v221 ≥ v222), r219.2.1, r224))))))
      (.cond (decide (s2.1 > 0))
       (.ite (0 ≤ iwrap .i64 (s2.1 - 1) ∧ iwrap .i64 (s2.1 - 1) < (s2.2.2.2.2.2.length : Int)) <|
       .mat (s2.2.2.2.2.2[(iwrap .i64 (s2.1 - 1)).toNat]?) fun x225 =>
       .ite (0 ≤ r123.1 ∧ r123.1 < (s2.2.2.2.2.2.length : Int)) <|
       .mat (s2.2.2.2.2.2[r123.1.toNat]?) fun x226 =>
       .mat (i_spacesc1c1_F x225 x226) fun r227 =>
       .cond (!(decide (r227 < 0)))
        (.mat (nm2_F s2.1 s2.2.1 r123.1 s2.2.2.2.2.2) fun r228 =>
        .ret (.inl (r228.1, s2.2.1, s2.2.2.1, s2.2.2.2.1, s2.2.2.2.2.1, r228.2)))
        (.mat (nm7_F s2.1 s2.2.1 r123.1 s2.2.2.2.2.2) fun r229 =>
        let v230 := iwrap .i64 (r229.1 - s2.1)
        let v231 := iwrap .i64 (s2.2.1 - r229.1)
        let v232 := iwrap .i64 (Int.tdiv v1 8)
        .cond (decide (v230 < v231))
         (.mat (g_ s2.1 r229.1 s2.2.2.1 r229.2.2) fun r233 =>
         .ret (.inl (iwrap .i64 (r229.1 + 1), s2.2.1, s2.2.2.1, decide (v230 ≥ v232), r229.2.1, r233)))
         (.mat (g_ (iwrap .i64 (r229.1 + 1)) s2.2.1 s2.2.2.1 r229.2.2) fun r234 =>
         .ret (.inl (s2.1, r229.1, s2.2.2.1, decide (v231 ≥ v232), r229.2.1, r234)))))
       (.mat (nm7_F s2.1 s2.2.1 r123.1 s2.2.2.2.2.2) fun r235 =>
       let v236 := iwrap .i64 (r235.1 - s2.1)
       let v237 := iwrap .i64 (s2.2.1 - r235.1)
       let v238 := iwrap .i64 (Int.tdiv v1 8)
       .cond (decide (v236 < v237))
        (.mat (g_ s2.1 r235.1 s2.2.2.1 r235.2.2) fun r239 =>
        .ret (.inl (iwrap .i64 (r235.1 + 1), s2.2.1, s2.2.2.1, decide (v236 ≥ v238), r235.2.1, r239)))
        (.mat (g_ (iwrap .i64 (r235.1 + 1)) s2.2.1 s2.2.2.1 r235.2.2) fun r240 =>
        .ret (.inl (s2.1, r235.1, s2.2.2.1, decide (v237 ≥ v238), r235.2.1, r240)))))))))
noncomputable def nm10 (g_ : Int → Int → Int → (List TMatrix) → Option (List TMatrix)) (p0 : Int) (p1 : Int) (p2 : Int) (p3 : (List TMatrix)) : Tre (List TMatrix) :=
 .mat (loopF (nm10_l2 g_) (p0, p1, p2, true, true, p3)) fun l241 =>
 .ret l241
noncomputable def nm10_R : Nat → Int → Int → Int → (List TMatrix) → Option (List TMatrix)
 | 0 => fun _ _ _ _ => none
 | n + 1 => fun p0 p1 p2 p3 => (nm10 (nm10_R n) p0 p1 p2 p3).run some
noncomputable def nm10_F (p0 : Int) (p1 : Int) (p2 : Int) (p3 : (List TMatrix)) : Option (List TMatrix) := nm10_R 1000000000000 p0 p1 p2 p3
noncomputable def nm10_out (_g_ : Int → Int → Int → (List TMatrix) → Option (List TMatrix)) (_p0 : Int) (_p1 : Int) (_p2 : Int) (_p3 : (List TMatrix)) : (List TMatrix) → CallOut := fun r => ⟨.tnil, [⟨false, (.sl kMatrix), (.sl (.imm true)), r⟩], []⟩
noncomputable def nm10_G (g_ : Int → Int → Int → (List TMatrix) → Option (List TMatrix)) (av : List AV) (rs : List Root) : Tre CallOut :=
 asCons av fun a0_ av0 =>
 asCons av0 fun a1_ av1 =>
 asCons av1 fun a2_ av2 =>
 asCons av2 fun a3_ av3 =>
 asCons av3 fun a4_ av4 =>
 asEnd av4 <|
 asCons rs fun r0_ rs0 =>
 asEnd rs0 <|
 asRef (0, 0) [] a0_ <|
 asImmZ true (.int .i64) a1_ fun d1 =>
 asImmZ true (.int .i64) a2_ fun d2 =>
 asImmZ true (.int .i64) a3_ fun d3 =>
 asFn 123 [] a4_ <|
 asRt false (.sl kMatrix) r0_ fun m4 d5 =>
 asM (.sl (.imm true)) m4 <|
 .mat (g_ d1 d2 d3 d5) fun r => .ret ((nm10_out g_) d1 d2 d3 d5 r)
noncomputable def nm10_c (g_ : Int → Int → Int → (List TMatrix) → Option (List TMatrix)) : Ctr := ⟨[0], fun ci => (nm10_G g_) ci.args ci.roots, false⟩
noncomputable def nm10_V (g_ : Int → Int → Int → (List TMatrix) → Option (List TMatrix)) : Env := ⟨tau, [(148, nm3_c), (149, nm9_c), (150, nm4_c), (151, nm6_c), (152, nm5_c), (153, nm0_c), (123, i_spacesc1c1_c), (154, nm2_c), (155, nm7_c), (118, (nm10_c g_))], []⟩
noncomputable def nm10_b (_g_ : Int → Int → Int → (List TMatrix) → Option (List TMatrix)) : Code := (Try.f118.body).getD .skip
noncomputable def nm10_l2_mk (_g_ : Int → Int → Int → (List TMatrix) → Option (List TMatrix)) : (Int × Int × Int × Bool × Bool × (List TMatrix)) → St := fun x => stOf [(0, (.ref (0, 0) [])), (1, (.imm true (.int .i64) x.1)), (2, (.imm true (.int .i64) x.2.1)), (3, (.imm true (.int .i64) x.2.2.1)), (4, (.fn 123 [])), (10, (.imm true .bool x.2.2.2.1)), (11, (.imm true .bool x.2.2.2.2.1))] [((0, 0), some ⟨false, (.sl kMatrix), (.sl (.imm true)), x.2.2.2.2.2⟩)]
noncomputable def nm10_l2_out (_g_ : Int → Int → Int → (List TMatrix) → Option (List TMatrix)) : (List TMatrix) → Ex × St := fun x => (.ret, stOf [] [((0, 0), some ⟨false, (.sl kMatrix), (.sl (.imm true)), x⟩)])
noncomputable def nm10_l2_D (g_ : Int → Int → Int → (List TMatrix) → Option (List TMatrix)) (s : St) : Tre (Ex × St) :=
 asRef (0, 0) [] (s.tmps 0) <|
 asImmZ true (.int .i64) (s.tmps 1) fun d3 =>
 asImmZ true (.int .i64) (s.tmps 2) fun d5 =>
 asImmZ true (.int .i64) (s.tmps 3) fun d7 =>
 asFn 123 [] (s.tmps 4) <|
 asImmZ true .bool (s.tmps 10) fun d10 =>
 asImmZ true .bool (s.tmps 11) fun d12 =>
 asRoot false (.sl kMatrix) (s.roots (0, 0)) fun m14 d15 =>
 asM (.sl (.imm true)) m14 <|
 .mat (loopF (nm10_l2 g_) (d3, d5, d7, d10, d12, d15)) fun x => .ret ((nm10_l2_out g_) x)
noncomputable def nm10_l2_L (g_ : Int → Int → Int → (List TMatrix) → Option (List TMatrix)) : LoopI := ⟨([0, 1, 2, 3, 4, 10, 11], [(0, 0)]), ([], [(0, 0)]), (nm10_l2_D g_)⟩
noncomputable def nm10_A (g_ : Int → Int → Int → (List TMatrix) → Option (List TMatrix)) : List (Nat × LoopI) := [(2, (nm10_l2_L g_))]
set_option maxRecDepth 100000 in
theorem nm10_l2_step (g_ : Int → Int → Int → (List TMatrix) → Option (List TMatrix)) : ∀ (x : (Int × Int × Int × Bool × Bool × (List TMatrix))) (c : St → Option (Ex × St)), den (nm10_V g_) (nm10_A g_) (loopAt (nm10_b g_) 0) ((nm10_l2_mk g_) x) (roundK (nm10_l2_L g_).kp (nm10_l2_L g_).kx c) = ((nm10_l2 g_) x).run (roundR ((nm10_l2_mk g_)) ((nm10_l2_out g_)) c) := fun _ _ => by
 kernel_rfl
theorem nm10_l2_ok (g_ : Int → Int → Int → (List TMatrix) → Option (List TMatrix)) : LoopOK (nm10_V g_) (nm10_A g_) (loopAt (nm10_b g_) 0) (nm10_l2_L g_) := loopOK_of fun s e s' h => by
 generalize hs : restrict (nm10_l2_L g_).kp s = s1 at h
 have h : ((nm10_l2_D g_) s1).run some = some (e, s') := h
 obtain ⟨e1, h_0⟩ := asRef_spec h
 obtain ⟨d3, e2, h_1⟩ := asImmZ_spec h_0
 obtain ⟨d5, e4, h_2⟩ := asImmZ_spec h_1
 obtain ⟨d7, e6, h_3⟩ := asImmZ_spec h_2
 obtain ⟨e8, h_4⟩ := asFn_spec h_3
 obtain ⟨d10, e9, h_5⟩ := asImmZ_spec h_4
 obtain ⟨d12, e11, h_6⟩ := asImmZ_spec h_5
 obtain ⟨m14, d15, e13, h_7⟩ := asRoot_spec h_6
 obtain ⟨rfl, h_8⟩ := asM_spec h_7
 obtain ⟨y, hy, hz⟩ := mat_ret h_8
 refine ⟨_, _, (nm10_l2_mk g_), (nm10_l2_out g_), (nm10_l2 g_), (d3, d5, d7, d10, d12, d15), y, ?_, hy, ?_, (nm10_l2_step g_)⟩
 ·subst hs; exact restrict_eq (T := [(0, (.ref (0, 0) [])), (1, (.imm true (.int .i64) d3)), (2, (.imm true (.int .i64) d5)), (3, (.imm true (.int .i64) d7)), (4, (.fn 123 [])), (10, (.imm true .bool d10)), (11, (.imm true .bool d12))]) (U := [((0, 0), some ⟨false, (.sl kMatrix), (.sl (.imm true)), d15⟩)]) rfl rfl ⟨e1, e2, e4, e6, e8, e9, e11, trivial⟩ ⟨e13, trivial⟩
 ·exact Option.some.inj hz
noncomputable def nm10_I (g_ : Int → Int → Int → (List TMatrix) → Option (List TMatrix)) : FnI := ⟨(nm10_b g_), Try.f118.results.toList, Try.f118.resultTypes.toList, (nm10_A g_)⟩
set_option maxRecDepth 100000 in
theorem nm10_eq (g_ : Int → Int → Int → (List TMatrix) → Option (List TMatrix)) : ∀ (p0 : Int) (p1 : Int) (p2 : Int) (p3 : (List TMatrix)), denFn (nm10_V g_) (nm10_I g_) ⟨[(.ref (0, 0) []), (.imm true (.int .i64) p0), (.imm true (.int .i64) p1), (.imm true (.int .i64) p2), (.fn 123 [])], [⟨false, (.sl kMatrix), (.sl (.imm true)), p3⟩]⟩ = ((nm10 g_) p0 p1 p2 p3).run fun r => some ((nm10_out g_) p0 p1 p2 p3 r) := fun _ _ _ _ => by kernel_rfl
theorem nm10_env (g_ : Int → Int → Int → (List TMatrix) → Option (List TMatrix)) (hg_ : Contract Try.prog .none 118 (nm10_c g_)) : EnvOK Try.prog .none (nm10_V g_) := (envOK_cons nm3_ok ent148 (envOK_cons nm9_ok ent149 (envOK_cons nm4_ok ent150 (envOK_cons nm6_ok ent151 (envOK_cons nm5_ok ent152 (envOK_cons nm0_ok ent153 (envOK_cons i_spacesc1c1_ok ent123 (envOK_cons nm2_ok ent154 (envOK_cons nm7_ok ent155 (envOK_cons hg_ ent118 envOK_nil))))))))))
set_option maxRecDepth 100000 in
theorem nm10_okS (g_ : Int → Int → Int → (List TMatrix) → Option (List TMatrix)) (hg_ : Contract Try.prog .none 118 (nm10_c g_)) : Contract Try.prog .none 118 (nm10_c (fun p0 p1 p2 p3 => (nm10 g_ p0 p1 p2 p3).run some)) := by
 have hl : LoopsOK (nm10_V g_) (nm10_A g_) (nm10_b g_) := (loopsOK_all (n := 1) (by kernel_rfl) fun k hk => by
   match k, hk with
   | 0, _ => exact loopOK_at (id := 2) (L := (nm10_l2_L g_)) (by kernel_rfl) (by kernel_rfl) (nm10_l2_ok g_))
 refine (contract_of (F := (nm10_I g_)) tau_tys ((nm10_env g_) hg_) Try.func118 (by kernel_rfl) (by kernel_rfl) (by kernel_rfl) hl [0]).weaken ?_
 rintro ⟨av, rs⟩ co h
 have h : (nm10_G (fun p0 p1 p2 p3 => (nm10 g_ p0 p1 p2 p3).run some) av rs).run some = some co := h
 obtain ⟨a0_, av0, rfl, h_0⟩ := asCons_spec h
 obtain ⟨a1_, av1, rfl, h_1⟩ := asCons_spec h_0
 obtain ⟨a2_, av2, rfl, h_2⟩ := asCons_spec h_1
 obtain ⟨a3_, av3, rfl, h_3⟩ := asCons_spec h_2
 obtain ⟨a4_, av4, rfl, h_4⟩ := asCons_spec h_3
 obtain ⟨rfl, h_5⟩ := asEnd_spec h_4
 obtain ⟨r0_, rs0, rfl, h_6⟩ := asCons_spec h_5
 obtain ⟨rfl, h_7⟩ := asEnd_spec h_6
 obtain ⟨rfl, h_8⟩ := asRef_spec h_7
 obtain ⟨d1, rfl, h_9⟩ := asImmZ_spec h_8
 obtain ⟨d2, rfl, h_10⟩ := asImmZ_spec h_9
 obtain ⟨d3, rfl, h_11⟩ := asImmZ_spec h_10
 obtain ⟨rfl, h_12⟩ := asFn_spec h_11
 obtain ⟨m4, d5, rfl, h_13⟩ := asRt_spec h_12
 obtain ⟨rfl, h_14⟩ := asM_spec h_13
 exact fin_mat ((nm10_eq g_) d1 d2 d3 d5) h_14
theorem nm10_ok0 : Contract Try.prog .none 118 (nm10_c (fun _ _ _ _ => none)) := Contract.vacuous (by
 rintro ⟨av, rs⟩ co h
 have h : (nm10_G (fun _ _ _ _ => none) av rs).run some = some co := h
 obtain ⟨a0_, av0, rfl, h_0⟩ := asCons_spec h
 obtain ⟨a1_, av1, rfl, h_1⟩ := asCons_spec h_0
 obtain ⟨a2_, av2, rfl, h_2⟩ := asCons_spec h_1
 obtain ⟨a3_, av3, rfl, h_3⟩ := asCons_spec h_2
 obtain ⟨a4_, av4, rfl, h_4⟩ := asCons_spec h_3
 obtain ⟨rfl, h_5⟩ := asEnd_spec h_4
 obtain ⟨r0_, rs0, rfl, h_6⟩ := asCons_spec h_5
 obtain ⟨rfl, h_7⟩ := asEnd_spec h_6
 obtain ⟨rfl, h_8⟩ := asRef_spec h_7
 obtain ⟨d1, rfl, h_9⟩ := asImmZ_spec h_8
 obtain ⟨d2, rfl, h_10⟩ := asImmZ_spec h_9
 obtain ⟨d3, rfl, h_11⟩ := asImmZ_spec h_10
 obtain ⟨rfl, h_12⟩ := asFn_spec h_11
 obtain ⟨m4, d5, rfl, h_13⟩ := asRt_spec h_12
 obtain ⟨rfl, h_14⟩ := asM_spec h_13
 exact mat_none_absurd h_14)
theorem nm10_okN : ∀ n, Contract Try.prog .none 118 (nm10_c (nm10_R n))
 | 0 => nm10_ok0
 | n + 1 => nm10_okS _ (nm10_okN n)
theorem nm10_ok : Contract Try.prog .none 118 (nm10_c nm10_F) := nm10_okN _
end Go.Proofs.Ythnkanacjhlhhaa

namespace Go.Proofs.Ythnkanacjhlhhaa
open Go Go.Abs Go.Proofs
noncomputable def nm15 (p0 : (List TMatrix)) : Tre (List TMatrix) :=
 let v1 := iwrap .u64 (p0.length : Int)
 .mat (bits_Len_F v1) fun r2 =>
 .mat (nm10_F 0 (p0.length : Int) r2 p0) fun r3 =>
 .ret r3
noncomputable def nm15_F (p0 : (List TMatrix)) : Option (List TMatrix) := (nm15 p0).run some
noncomputable def nm15_V : Env := ⟨tau, [(119, bits_Len_c), (118, (nm10_c nm10_F))], []⟩
noncomputable def nm15_b : Code := (Try.f63.body).getD .skip
noncomputable def nm15_I : FnI := ⟨nm15_b, Try.f63.results.toList, Try.f63.resultTypes.toList, []⟩
noncomputable def nm15_out (_p0 : (List TMatrix)) : (List TMatrix) → CallOut := fun r => ⟨.tnil, [⟨false, (.sl kMatrix), (.sl (.imm true)), r⟩], []⟩
set_option maxRecDepth 100000 in
theorem nm15_eq : ∀ (p0 : (List TMatrix)), denFn nm15_V nm15_I ⟨[(.ref (0, 0) []), (.fn 123 [])], [⟨false, (.sl kMatrix), (.sl (.imm true)), p0⟩]⟩ = (nm15 p0).run fun r => some (nm15_out p0 r) := fun _ => by kernel_rfl
noncomputable def nm15_G (av : List AV) (rs : List Root) : Tre CallOut :=
 asCons av fun a0_ av0 =>
 asCons av0 fun a1_ av1 =>
 asEnd av1 <|
 asCons rs fun r0_ rs0 =>
 asEnd rs0 <|
 asRef (0, 0) [] a0_ <|
 asFn 123 [] a1_ <|
 asRt false (.sl kMatrix) r0_ fun m1 d2 =>
 asM (.sl (.imm true)) m1 <|
 .mat (nm15_F d2) fun r => .ret (nm15_out d2 r)
noncomputable def nm15_c : Ctr := ⟨[0], fun ci => nm15_G ci.args ci.roots, false⟩
theorem nm15_env : EnvOK Try.prog .none nm15_V := (envOK_cons bits_Len_ok ent119 (envOK_cons nm10_ok ent118 envOK_nil))
set_option maxRecDepth 100000 in
theorem nm15_ok : Contract Try.prog .none 63 nm15_c := by
 have hl : LoopsOK nm15_V [] nm15_b := loopsOK_nil (by kernel_rfl)
 refine (contract_of (F := nm15_I) tau_tys nm15_env Try.func63 (by kernel_rfl) (by kernel_rfl) (by kernel_rfl) hl [0]).weaken ?_
 rintro ⟨av, rs⟩ co h
 have h : (nm15_G av rs).run some = some co := h
 obtain ⟨a0_, av0, rfl, h_0⟩ := asCons_spec h
 obtain ⟨a1_, av1, rfl, h_1⟩ := asCons_spec h_0
 obtain ⟨rfl, h_2⟩ := asEnd_spec h_1
 obtain ⟨r0_, rs0, rfl, h_3⟩ := asCons_spec h_2
 obtain ⟨rfl, h_4⟩ := asEnd_spec h_3
 obtain ⟨rfl, h_5⟩ := asRef_spec h_4
 obtain ⟨rfl, h_6⟩ := asFn_spec h_5
 obtain ⟨m1, d2, rfl, h_7⟩ := asRt_spec h_6
 obtain ⟨rfl, h_8⟩ := asM_spec h_7
 exact fin_mat (nm15_eq d2) h_8
end Go.Proofs.Ythnkanacjhlhhaa

namespace Go.Proofs.Ythnkanacjhlhhaa
open Go Go.Abs Go.Proofs
noncomputable def nm16_F (p0 : (List TMatrix)) : Option (List TMatrix) :=
 (nm15_F p0).map fun r => r
noncomputable def nm16_out : (List TMatrix) → CallOut := fun r => ⟨.tnil, [⟨true, (.sl kMatrix), (.sl (.imm true)), r⟩], []⟩
noncomputable def nm16_G (av : List AV) (rs : List Root) : Tre CallOut :=
 asCons av fun a0_ av0 =>
 asCons av0 fun a1_ av1 =>
 asEnd av1 <|
 asCons rs fun r0_ rs0 =>
 asEnd rs0 <|
 asRef (0, 0) [] a0_ <|
 asFn 123 [] a1_ <|
 asRt true (.sl kMatrix) r0_ fun m1 d2 =>
 asM (.sl (.imm true)) m1 <|
 .mat (nm16_F d2) fun r => .ret (nm16_out r)
noncomputable def nm16_c : Ctr := ⟨[0], fun ci => nm16_G ci.args ci.roots, true⟩
set_option maxRecDepth 100000 in
theorem nm16_ok : Contract Try.prog .none 63 nm16_c := by
 refine Contract.soften (e := kMatrix) (by kernel_rfl) nm15_ok ?_
 rintro ⟨av, rs⟩ co h
 have h : (nm16_G av rs).run some = some co := h
 obtain ⟨a0_, av0, rfl, h_0⟩ := asCons_spec h
 obtain ⟨a1_, av1, rfl, h_1⟩ := asCons_spec h_0
 obtain ⟨rfl, h_2⟩ := asEnd_spec h_1
 obtain ⟨r0_, rs0, rfl, h_3⟩ := asCons_spec h_2
 obtain ⟨rfl, h_4⟩ := asEnd_spec h_3
 obtain ⟨rfl, h_5⟩ := asRef_spec h_4
 obtain ⟨rfl, h_6⟩ := asFn_spec h_5
 obtain ⟨m1, d2, rfl, h_7⟩ := asRt_spec h_6
 obtain ⟨rfl, h_8⟩ := asM_spec h_7
 obtain ⟨y, h1, h2⟩ := mat_ret h_8
 unfold nm16_F at h1
 obtain ⟨r, hr, rfl⟩ := Option.map_eq_some_iff.1 h1
 cases h2
 refine ⟨[], [(.fn 123 [])], (.sl (.imm true)), ⟨true, (.sl kMatrix), (.sl (.imm true)), d2⟩, d2, r, r, (.sl (.imm true)), .tnil, rfl, by kernel_rfl, ?_, .inr rfl, by kernel_rfl, by kernel_rfl, ?_, rfl⟩
 ·intro a ha; simp only [List.mem_cons, List.not_mem_nil, or_false] at ha; rcases ha with rfl <;> first | exact .inl ⟨_, _, _, rfl⟩ | exact .inr ⟨_, rfl⟩
 ·exact (run_some_mat (show nm15_F d2 = _ from hr)).trans rfl
end Go.Proofs.Ythnkanacjhlhhaa

namespace Go.Proofs.Ythnkanacjhlhhaa
open Go Go.Abs Go.Proofs
noncomputable def i_spacesc1_c761 (p0 : (List TMatrix)) : Tre (List TMatrix) :=
 .mat (nm16_F p0) fun r1 =>
 .ret r1
noncomputable def i_spacesc1_c761_F (p0 : (List TMatrix)) : Option (List TMatrix) := (i_spacesc1_c761 p0).run some
noncomputable def i_spacesc1_c761_V : Env := ⟨tau, [(63, nm16_c)], [(1, [((0, 0), [], true)])]⟩
noncomputable def i_spacesc1_c761_b : Code := (Try.f122.body).getD .skip
noncomputable def i_spacesc1_c761_I : FnI := ⟨i_spacesc1_c761_b, Try.f122.results.toList, Try.f122.resultTypes.toList, []⟩
noncomputable def i_spacesc1_c761_out (_p0 : (List TMatrix)) : (List TMatrix) → CallOut := fun r => ⟨(.ref (0, 0) []), [⟨true, (.sl kMatrix), (.sl (.imm true)), r⟩], []⟩
set_option maxRecDepth 100000 in
theorem i_spacesc1_c761_eq : ∀ (p0 : (List TMatrix)), denFn i_spacesc1_c761_V i_spacesc1_c761_I ⟨[(.ptr (0, 0) [])], [⟨true, (.sl kMatrix), .own, p0⟩]⟩ = (i_spacesc1_c761 p0).run fun r => some (i_spacesc1_c761_out p0 r) := fun _ => by kernel_rfl
noncomputable def i_spacesc1_c761_G (av : List AV) (rs : List Root) : Tre CallOut :=
 asCons av fun a0_ av0 =>
 asEnd av0 <|
 asCons rs fun r0_ rs0 =>
 asEnd rs0 <|
 asPtr (0, 0) [] a0_ <|
 asRt true (.sl kMatrix) r0_ fun m1 d2 =>
 asM .own m1 <|
 .mat (i_spacesc1_c761_F d2) fun r => .ret (i_spacesc1_c761_out d2 r)
noncomputable def i_spacesc1_c761_c : Ctr := ⟨[], fun ci => i_spacesc1_c761_G ci.args ci.roots, false⟩
theorem i_spacesc1_c761_env : EnvOK Try.prog .none i_spacesc1_c761_V := (envOK_cons nm16_ok ent63 envOK_nil)
set_option maxRecDepth 100000 in
theorem i_spacesc1_c761_ok : Contract Try.prog .none 122 i_spacesc1_c761_c := by
 have hl : LoopsOK i_spacesc1_c761_V [] i_spacesc1_c761_b := loopsOK_nil (by kernel_rfl)
 refine (contract_of (F := i_spacesc1_c761_I) tau_tys i_spacesc1_c761_env Try.func122 (by kernel_rfl) (by kernel_rfl) (by kernel_rfl) hl []).weaken ?_
 rintro ⟨av, rs⟩ co h
 have h : (i_spacesc1_c761_G av rs).run some = some co := h
 obtain ⟨a0_, av0, rfl, h_0⟩ := asCons_spec h
 obtain ⟨rfl, h_1⟩ := asEnd_spec h_0
 obtain ⟨r0_, rs0, rfl, h_2⟩ := asCons_spec h_1
 obtain ⟨rfl, h_3⟩ := asEnd_spec h_2
 obtain ⟨rfl, h_4⟩ := asPtr_spec h_3
 obtain ⟨m1, d2, rfl, h_5⟩ := asRt_spec h_4
 obtain ⟨rfl, h_6⟩ := asM_spec h_5
 exact fin_mat (i_spacesc1_c761_eq d2) h_6
end Go.Proofs.Ythnkanacjhlhhaa

namespace Go.Proofs.Ythnkanacjhlhhaa
open Go Go.Abs Go.Proofs
noncomputable def i_lead_l2 (h2_0_0 : Int) : Int → Tre (Int ⊕ Int) := fun s2 =>
 .ite (0 ≤ s2) <|
 let v1 := iand .i64 (ishr .i64 h2_0_0 s2) 1
 .cond (decide (v1 = 0))
  (.ret (.inl (iwrap .i64 (s2 + 1))))
  (.ret (.inr s2))
noncomputable def i_lead (p0 : Int) : Tre Int :=
 .mat (loopF (i_lead_l2 p0) 0) fun l2 =>
 .ret l2
noncomputable def i_lead_F (p0 : Int) : Option Int := (i_lead p0).run some
noncomputable def i_lead_V : Env := ⟨tau, [], []⟩
noncomputable def i_lead_b : Code := (Try.f159.body).getD .skip
noncomputable def i_lead_l2_mk (h2_0_0 : Int) : Int → St := fun x => stOf [(0, (.imm true (.int .i64) h2_0_0)), (3, (.imm true (.int .i64) x))] []
noncomputable def i_lead_l2_out (_h2_0_0 : Int) : Int → Ex × St := fun x => (.exit 0, stOf [(3, (.imm true (.int .i64) x))] [])
noncomputable def i_lead_l2_D (s : St) : Tre (Ex × St) :=
 asImmZ true (.int .i64) (s.tmps 0) fun d2 =>
 asImmZ true (.int .i64) (s.tmps 3) fun d4 =>
 .mat (loopF (i_lead_l2 d2) d4) fun x => .ret (i_lead_l2_out d2 x)
noncomputable def i_lead_l2_L : LoopI := ⟨([0, 3], []), ([3], []), i_lead_l2_D⟩
noncomputable def i_lead_A : List (Nat × LoopI) := [(2, i_lead_l2_L)]
set_option maxRecDepth 100000 in
theorem i_lead_l2_step : ∀ (h2_0_0 : Int) (x : Int) (c : St → Option (Ex × St)), den i_lead_V i_lead_A (loopAt i_lead_b 0) (i_lead_l2_mk h2_0_0 x) (roundK i_lead_l2_L.kp i_lead_l2_L.kx c) = (i_lead_l2 h2_0_0 x).run (roundR (i_lead_l2_mk h2_0_0) (i_lead_l2_out h2_0_0) c) := fun _ _ _ => by
 kernel_rfl
theorem i_lead_l2_ok : LoopOK i_lead_V i_lead_A (loopAt i_lead_b 0) i_lead_l2_L := loopOK_of fun s e s' h => by
 generalize hs : restrict i_lead_l2_L.kp s = s1 at h
 have h : (i_lead_l2_D s1).run some = some (e, s') := h
 obtain ⟨d2, e1, h_0⟩ := asImmZ_spec h
 obtain ⟨d4, e3, h_1⟩ := asImmZ_spec h_0
 obtain ⟨y, hy, hz⟩ := mat_ret h_1
 refine ⟨_, _, i_lead_l2_mk d2, i_lead_l2_out d2, i_lead_l2 d2, d4, y, ?_, hy, ?_, i_lead_l2_step d2⟩
 ·subst hs; exact restrict_eq (T := [(0, (.imm true (.int .i64) d2)), (3, (.imm true (.int .i64) d4))]) (U := []) rfl rfl ⟨e1, e3, trivial⟩ trivial
 ·exact Option.some.inj hz
noncomputable def i_lead_I : FnI := ⟨i_lead_b, Try.f159.results.toList, Try.f159.resultTypes.toList, i_lead_A⟩
noncomputable def i_lead_out (_p0 : Int) : Int → CallOut := fun r => ⟨(.imm true (.int .i64) r), [], []⟩
set_option maxRecDepth 100000 in
theorem i_lead_eq : ∀ (p0 : Int), denFn i_lead_V i_lead_I ⟨[(.imm true (.int .i64) p0)], []⟩ = (i_lead p0).run fun r => some (i_lead_out p0 r) := fun _ => by kernel_rfl
noncomputable def i_lead_G (av : List AV) (rs : List Root) : Tre CallOut :=
 asCons av fun a0_ av0 =>
 asEnd av0 <|
 asEnd rs <|
 asImmZ true (.int .i64) a0_ fun d1 =>
 .mat (i_lead_F d1) fun r => .ret (i_lead_out d1 r)
noncomputable def i_lead_c : Ctr := ⟨[], fun ci => i_lead_G ci.args ci.roots, false⟩
theorem i_lead_env : EnvOK Try.prog .none i_lead_V := envOK_nil
set_option maxRecDepth 100000 in
theorem i_lead_ok : Contract Try.prog .none 159 i_lead_c := by
 have hl : LoopsOK i_lead_V i_lead_A i_lead_b := (loopsOK_all (n := 1) (by kernel_rfl) fun k hk => by
   match k, hk with
   | 0, _ => exact loopOK_at (id := 2) (L := i_lead_l2_L) (by kernel_rfl) (by kernel_rfl) i_lead_l2_ok)
 refine (contract_of (F := i_lead_I) tau_tys i_lead_env Try.func159 (by kernel_rfl) (by kernel_rfl) (by kernel_rfl) hl []).weaken ?_
 rintro ⟨av, rs⟩ co h
 have h : (i_lead_G av rs).run some = some co := h
 obtain ⟨a0_, av0, rfl, h_0⟩ := asCons_spec h
 obtain ⟨rfl, h_1⟩ := asEnd_spec h_0
 obtain ⟨rfl, h_2⟩ := asEnd_spec h_1
 obtain ⟨d1, rfl, h_3⟩ := asImmZ_spec h_2
 exact fin_mat (i_lead_eq d1) h_3
end Go.Proofs.Ythnkanacjhlhhaa

namespace Go.Proofs.Ythnkanacjhlhhaa
open Go Go.Abs Go.Proofs
noncomputable def i_Matrix_form (p0 : TMatrix) : Tre (Int × (List Int)) :=
 .mat (i_echelon_F p0.2.1) fun r1 =>
 .ret (p0.1, r1)
noncomputable def i_Matrix_form_F (p0 : TMatrix) : Option (Int × (List Int)) := (i_Matrix_form p0).run some
noncomputable def i_Matrix_form_V : Env := ⟨tau, [(62, i_echelon_c)], []⟩
noncomputable def i_Matrix_form_b : Code := (Try.f160.body).getD .skip
noncomputable def i_Matrix_form_I : FnI := ⟨i_Matrix_form_b, Try.f160.results.toList, Try.f160.resultTypes.toList, []⟩
noncomputable def i_Matrix_form_out (_zp0 : Bool) (_p0 : TMatrix) : (Int × (List Int)) → CallOut := fun r => ⟨(.pair (.imm true (.int .i64) r.1) (.pair (.ref (1, 0) []) (.imm true .unit ()))), [], [⟨false, (.sl (.int .i64)), .own, r.2⟩]⟩
set_option maxRecDepth 100000 in
theorem i_Matrix_form_eq : ∀ (zp0 : Bool) (p0 : TMatrix), denFn i_Matrix_form_V i_Matrix_form_I ⟨[(.imm zp0 kMatrix p0)], []⟩ = (i_Matrix_form p0).run fun r => some (i_Matrix_form_out zp0 p0 r) := fun _ _ => by kernel_rfl
noncomputable def i_Matrix_form_G (av : List AV) (rs : List Root) : Tre CallOut :=
 asCons av fun a0_ av0 =>
 asEnd av0 <|
 asEnd rs <|
 asImm kMatrix a0_ fun z2 d1 =>
 .mat (i_Matrix_form_F d1) fun r => .ret (i_Matrix_form_out z2 d1 r)
noncomputable def i_Matrix_form_c : Ctr := ⟨[], fun ci => i_Matrix_form_G ci.args ci.roots, false⟩
theorem i_Matrix_form_env : EnvOK Try.prog .none i_Matrix_form_V := (envOK_cons i_echelon_ok ent62 envOK_nil)
set_option maxRecDepth 100000 in
theorem i_Matrix_form_ok : Contract Try.prog .none 160 i_Matrix_form_c := by
 have hl : LoopsOK i_Matrix_form_V [] i_Matrix_form_b := loopsOK_nil (by kernel_rfl)
 refine (contract_of (F := i_Matrix_form_I) tau_tys i_Matrix_form_env Try.func160 (by kernel_rfl) (by kernel_rfl) (by kernel_rfl) hl []).weaken ?_
 rintro ⟨av, rs⟩ co h
 have h : (i_Matrix_form_G av rs).run some = some co := h
 obtain ⟨a0_, av0, rfl, h_0⟩ := asCons_spec h
 obtain ⟨rfl, h_1⟩ := asEnd_spec h_0
 obtain ⟨rfl, h_2⟩ := asEnd_spec h_1
 obtain ⟨z2, d1, rfl, h_3⟩ := asImm_spec h_2
 exact fin_mat (i_Matrix_form_eq z2 d1) h_3
end Go.Proofs.Ythnkanacjhlhhaa

namespace Go.Proofs.Ythnkanacjhlhhaa
open Go Go.Abs Go.Proofs
noncomputable def i_Matrix_kernel_l3 (h3_0_1 : Int) (h3_0_5 : (List Int)) : (Int × Int) → Tre ((Int × Int) ⊕ Int) := fun s3 =>
 .cond (decide (s3.2 < h3_0_1))
  (.ite (0 ≤ s3.2 ∧ s3.2 < (h3_0_5.length : Int)) <|
  .mat (h3_0_5[s3.2.toNat]?) fun x2 =>
  .mat (i_lead_F x2) fun r3 =>
  .ite (0 ≤ r3) <|
  let v4 := ior .i64 s3.1 (ishl .i64 1 r3)
  .ret (.inl (v4, iwrap .i64 (s3.2 + 1))))
  (.ret (.inr s3.1))
noncomputable def i_Matrix_kernel_l14 (h14_0_1 : Int) (h14_0_5 : Int) (h14_0_8 : (List Int)) : (Int × Int) → Tre ((Int × Int) ⊕ Int) := fun s14 =>
 .cond (decide (s14.2 < h14_0_5))
  (.ite (0 ≤ s14.2 ∧ s14.2 < (h14_0_8.length : Int)) <|
  .mat (h14_0_8[s14.2.toNat]?) fun x7 =>
  .ite (0 ≤ h14_0_1) <|
  let v8 := iand .i64 (ishr .i64 x7 h14_0_1) 1
  .cond (decide (v8 = 1))
   (.mat (i_lead_F x7) fun r9 =>
   .ite (0 ≤ r9) <|
   let v10 := ior .i64 s14.1 (ishl .i64 1 r9)
   .ret (.inl (v10, iwrap .i64 (s14.2 + 1))))
   (.ret (.inl (s14.1, iwrap .i64 (s14.2 + 1)))))
  (.ret (.inr s14.1))
noncomputable def i_Matrix_kernel_l9 (h9_0_0 : Int) (h9_0_1 : Int) (h9_0_4 : (List Int)) : (Int × TMatrix) → Tre ((Int × TMatrix) ⊕ TMatrix) := fun s9 =>
 .cond (decide (s9.1 < h9_0_1))
  (.ite (0 ≤ s9.1) <|
  let v6 := iand .i64 (ishr .i64 h9_0_0 s9.1) 1
  .cond (decide (v6 = 1))
   (.ret (.inl (iwrap .i64 (s9.1 + 1), s9.2)))
   (.ite (0 ≤ s9.1) <|
   .mat (loopF (i_Matrix_kernel_l14 s9.1 (h9_0_4.length : Int) h9_0_4) (ishl .i64 1 s9.1, 0)) fun l11 =>
   .ite ((s9.2.2.1.length + 1) * 8 ≤ appendMax ∧ 1 ≤ 8) <|
   .ret (.inl (iwrap .i64 (s9.1 + 1), (s9.2.1, (s9.2.2.1 ++ ([l11]), s9.2.2.2))))))
  (.ret (.inr s9.2))
noncomputable def i_Matrix_kernel (p0 : TMatrix) : Tre (Int × (List Int)) :=
 .mat (i_echelon_F p0.2.1) fun r1 =>
 .mat (loopF (i_Matrix_kernel_l3 (r1.length : Int) r1) (0, 0)) fun l5 =>
 .mat (loopF (i_Matrix_kernel_l9 l5 p0.1 r1) (0, (p0.1, ([], ())))) fun l12 =>
 .mat (i_Matrix_form_F l12) fun r13 =>
 .ret (r13.1, r13.2)
noncomputable def i_Matrix_kernel_F (p0 : TMatrix) : Option (Int × (List Int)) := (i_Matrix_kernel p0).run some
noncomputable def i_Matrix_kernel_V : Env := ⟨tau, [(62, i_echelon_c), (159, i_lead_c), (160, i_Matrix_form_c)], []⟩
noncomputable def i_Matrix_kernel_b : Code := (Try.f124.body).getD .skip
noncomputable def i_Matrix_kernel_l3_mk (z3_0 : Bool) (h3_0_1 : Int) (h3_0_3 : TMatrix) (h3_0_4 : TMatrix) (h3_0_5 : (List Int)) : (Int × Int) → St := fun x => stOf [(1, (.ptr (3, 0) [])), (2, (.ptr (4, 0) [])), (3, (.ref (5, 0) [])), (4, (.imm true (.int .i64) x.1)), (15, (.ref (5, 0) [])), (16, (.imm true (.int .i64) h3_0_1)), (17, (.imm true (.int .i64) x.2))] [((3, 0), some ⟨true, kMatrix, (.imm z3_0), h3_0_3⟩), ((4, 0), some ⟨true, kMatrix, .own, h3_0_4⟩), ((5, 0), some ⟨false, (.sl (.int .i64)), .own, h3_0_5⟩)]
noncomputable def i_Matrix_kernel_l3_out (z3_0 : Bool) (_h3_0_1 : Int) (h3_0_3 : TMatrix) (h3_0_4 : TMatrix) (h3_0_5 : (List Int)) : Int → Ex × St := fun x => (.exit 0, stOf [(1, (.ptr (3, 0) [])), (2, (.ptr (4, 0) [])), (3, (.ref (5, 0) [])), (4, (.imm true (.int .i64) x))] [((3, 0), some ⟨true, kMatrix, (.imm z3_0), h3_0_3⟩), ((4, 0), some ⟨true, kMatrix, .own, h3_0_4⟩), ((5, 0), some ⟨false, (.sl (.int .i64)), .own, h3_0_5⟩)])
noncomputable def i_Matrix_kernel_l3_D (s : St) : Tre (Ex × St) :=
 asPtr (3, 0) [] (s.tmps 1) <|
 asPtr (4, 0) [] (s.tmps 2) <|
 asRef (5, 0) [] (s.tmps 3) <|
 asImmZ true (.int .i64) (s.tmps 4) fun d5 =>
 asRef (5, 0) [] (s.tmps 15) <|
 asImmZ true (.int .i64) (s.tmps 16) fun d8 =>
 asImmZ true (.int .i64) (s.tmps 17) fun d10 =>
 asRoot true kMatrix (s.roots (3, 0)) fun m12 d13 =>
 asMImm m12 fun z14 =>
 asRoot true kMatrix (s.roots (4, 0)) fun m16 d17 =>
 asM .own m16 <|
 asRoot false (.sl (.int .i64)) (s.roots (5, 0)) fun m19 d20 =>
 asM .own m19 <|
 .mat (loopF (i_Matrix_kernel_l3 d8 d20) (d5, d10)) fun x => .ret (i_Matrix_kernel_l3_out z14 d8 d13 d17 d20 x)
noncomputable def i_Matrix_kernel_l3_L : LoopI := ⟨([1, 2, 3, 4, 15, 16, 17], [(3, 0), (4, 0), (5, 0)]), ([1, 2, 3, 4], [(3, 0), (4, 0), (5, 0)]), i_Matrix_kernel_l3_D⟩
noncomputable def i_Matrix_kernel_l14_mk (h14_0_0 : Int) (h14_0_1 : Int) (h14_0_3 : Int) (h14_0_4 : Int) (h14_0_5 : Int) (h14_0_7 : TMatrix) (h14_0_8 : (List Int)) (h14_0_9 : TMatrix) : (Int × Int) → St := fun x => stOf [(2, (.ptr (4, 0) [])), (3, (.ref (5, 0) [])), (4, (.imm true (.int .i64) h14_0_0)), (7, (.ptr (9, 0) [])), (8, (.imm true (.int .i64) h14_0_1)), (9, (.imm true (.int .i64) x.1)), (31, (.imm true (.int .i64) h14_0_3)), (32, (.imm true (.int .i64) h14_0_4)), (42, (.ref (5, 0) [])), (43, (.imm true (.int .i64) h14_0_5)), (44, (.imm true (.int .i64) x.2))] [((4, 0), some ⟨true, kMatrix, .own, h14_0_7⟩), ((5, 0), some ⟨false, (.sl (.int .i64)), .own, h14_0_8⟩), ((9, 0), some ⟨true, kMatrix, .own, h14_0_9⟩)]
noncomputable def i_Matrix_kernel_l14_out (h14_0_0 : Int) (_h14_0_1 : Int) (h14_0_3 : Int) (h14_0_4 : Int) (_h14_0_5 : Int) (h14_0_7 : TMatrix) (h14_0_8 : (List Int)) (h14_0_9 : TMatrix) : Int → Ex × St := fun x => (.exit 4, stOf [(2, (.ptr (4, 0) [])), (3, (.ref (5, 0) [])), (4, (.imm true (.int .i64) h14_0_0)), (7, (.ptr (9, 0) [])), (9, (.imm true (.int .i64) x)), (31, (.imm true (.int .i64) h14_0_3)), (32, (.imm true (.int .i64) h14_0_4))] [((4, 0), some ⟨true, kMatrix, .own, h14_0_7⟩), ((5, 0), some ⟨false, (.sl (.int .i64)), .own, h14_0_8⟩), ((9, 0), some ⟨true, kMatrix, .own, h14_0_9⟩)])
noncomputable def i_Matrix_kernel_l14_D (s : St) : Tre (Ex × St) :=
 asPtr (4, 0) [] (s.tmps 2) <|
 asRef (5, 0) [] (s.tmps 3) <|
 asImmZ true (.int .i64) (s.tmps 4) fun d4 =>
 asPtr (9, 0) [] (s.tmps 7) <|
 asImmZ true (.int .i64) (s.tmps 8) fun d7 =>
 asImmZ true (.int .i64) (s.tmps 9) fun d9 =>
 asImmZ true (.int .i64) (s.tmps 31) fun d11 =>
 asImmZ true (.int .i64) (s.tmps 32) fun d13 =>
 asRef (5, 0) [] (s.tmps 42) <|
 asImmZ true (.int .i64) (s.tmps 43) fun d16 =>
 asImmZ true (.int .i64) (s.tmps 44) fun d18 =>
 asRoot true kMatrix (s.roots (4, 0)) fun m20 d21 =>
 asM .own m20 <|
 asRoot false (.sl (.int .i64)) (s.roots (5, 0)) fun m23 d24 =>
 asM .own m23 <|
 asRoot true kMatrix (s.roots (9, 0)) fun m26 d27 =>
 asM .own m26 <|
 .mat (loopF (i_Matrix_kernel_l14 d7 d16 d24) (d9, d18)) fun x => .ret (i_Matrix_kernel_l14_out d4 d7 d11 d13 d16 d21 d24 d27 x)
noncomputable def i_Matrix_kernel_l14_L : LoopI := ⟨([2, 3, 4, 7, 8, 9, 31, 32, 42, 43, 44], [(4, 0), (5, 0), (9, 0)]), ([2, 3, 4, 7, 9, 31, 32], [(4, 0), (5, 0), (9, 0)]), i_Matrix_kernel_l14_D⟩
noncomputable def i_Matrix_kernel_l9_mk (h9_0_0 : Int) (h9_0_1 : Int) (h9_0_3 : TMatrix) (h9_0_4 : (List Int)) : (Int × TMatrix) → St := fun x => stOf [(2, (.ptr (4, 0) [])), (3, (.ref (5, 0) [])), (4, (.imm true (.int .i64) h9_0_0)), (7, (.ptr (9, 0) [])), (31, (.imm true (.int .i64) h9_0_1)), (32, (.imm true (.int .i64) x.1))] [((4, 0), some ⟨true, kMatrix, .own, h9_0_3⟩), ((5, 0), some ⟨false, (.sl (.int .i64)), .own, h9_0_4⟩), ((9, 0), some ⟨true, kMatrix, .own, x.2⟩)]
noncomputable def i_Matrix_kernel_l9_out (_h9_0_0 : Int) (_h9_0_1 : Int) (h9_0_3 : TMatrix) (_h9_0_4 : (List Int)) : TMatrix → Ex × St := fun x => (.exit 2, stOf [(2, (.ptr (4, 0) [])), (7, (.ptr (9, 0) []))] [((4, 0), some ⟨true, kMatrix, .own, h9_0_3⟩), ((9, 0), some ⟨true, kMatrix, .own, x⟩)])
noncomputable def i_Matrix_kernel_l9_D (s : St) : Tre (Ex × St) :=
 asPtr (4, 0) [] (s.tmps 2) <|
 asRef (5, 0) [] (s.tmps 3) <|
 asImmZ true (.int .i64) (s.tmps 4) fun d4 =>
 asPtr (9, 0) [] (s.tmps 7) <|
 asImmZ true (.int .i64) (s.tmps 31) fun d7 =>
 asImmZ true (.int .i64) (s.tmps 32) fun d9 =>
 asRoot true kMatrix (s.roots (4, 0)) fun m11 d12 =>
 asM .own m11 <|
 asRoot false (.sl (.int .i64)) (s.roots (5, 0)) fun m14 d15 =>
 asM .own m14 <|
 asRoot true kMatrix (s.roots (9, 0)) fun m17 d18 =>
 asM .own m17 <|
 .mat (loopF (i_Matrix_kernel_l9 d4 d7 d15) (d9, d18)) fun x => .ret (i_Matrix_kernel_l9_out d4 d7 d12 d15 x)
noncomputable def i_Matrix_kernel_l9_L : LoopI := ⟨([2, 3, 4, 7, 31, 32], [(4, 0), (5, 0), (9, 0)]), ([2, 7], [(4, 0), (9, 0)]), i_Matrix_kernel_l9_D⟩
noncomputable def i_Matrix_kernel_A : List (Nat × LoopI) := [(3, i_Matrix_kernel_l3_L), (14, i_Matrix_kernel_l14_L), (9, i_Matrix_kernel_l9_L)]
set_option maxRecDepth 100000 in
theorem i_Matrix_kernel_l3_step : ∀ (z3_0 : Bool) (h3_0_1 : Int) (h3_0_3 : TMatrix) (h3_0_4 : TMatrix) (h3_0_5 : (List Int)) (x : (Int × Int)) (c : St → Option (Ex × St)), den i_Matrix_kernel_V i_Matrix_kernel_A (loopAt i_Matrix_kernel_b 0) (i_Matrix_kernel_l3_mk z3_0 h3_0_1 h3_0_3 h3_0_4 h3_0_5 x) (roundK i_Matrix_kernel_l3_L.kp i_Matrix_kernel_l3_L.kx c) = (i_Matrix_kernel_l3 h3_0_1 h3_0_5 x).run (roundR (i_Matrix_kernel_l3_mk z3_0 h3_0_1 h3_0_3 h3_0_4 h3_0_5) (i_Matrix_kernel_l3_out z3_0 h3_0_1 h3_0_3 h3_0_4 h3_0_5) c) := fun _ _ _ _ _ _ _ => by
 kernel_rfl
theorem i_Matrix_kernel_l3_ok : LoopOK i_Matrix_kernel_V i_Matrix_kernel_A (loopAt i_Matrix_kernel_b 0) i_Matrix_kernel_l3_L := loopOK_of fun s e s' h => by
 generalize hs : restrict i_Matrix_kernel_l3_L.kp s = s1 at h
 have h : (i_Matrix_kernel_l3_D s1).run some = some (e, s') := h
 obtain ⟨e1, h_0⟩ := asPtr_spec h
 obtain ⟨e2, h_1⟩ := asPtr_spec h_0
 obtain ⟨e3, h_2⟩ := asRef_spec h_1
 obtain ⟨d5, e4, h_3⟩ := asImmZ_spec h_2
 obtain ⟨e6, h_4⟩ := asRef_spec h_3
 obtain ⟨d8, e7, h_5⟩ := asImmZ_spec h_4
 obtain ⟨d10, e9, h_6⟩ := asImmZ_spec h_5
 obtain ⟨m12, d13, e11, h_7⟩ := asRoot_spec h_6
 obtain ⟨z14, rfl, h_8⟩ := asMImm_spec h_7
 obtain ⟨m16, d17, e15, h_9⟩ := asRoot_spec h_8
 obtain ⟨rfl, h_10⟩ := asM_spec h_9
 obtain ⟨m19, d20, e18, h_11⟩ := asRoot_spec h_10
 obtain ⟨rfl, h_12⟩ := asM_spec h_11
 obtain ⟨y, hy, hz⟩ := mat_ret h_12
 refine ⟨_, _, i_Matrix_kernel_l3_mk z14 d8 d13 d17 d20, i_Matrix_kernel_l3_out z14 d8 d13 d17 d20, i_Matrix_kernel_l3 d8 d20, (d5, d10), y, ?_, hy, ?_, i_Matrix_kernel_l3_step z14 d8 d13 d17 d20⟩
 ·subst hs; exact restrict_eq (T := [(1, (.ptr (3, 0) [])), (2, (.ptr (4, 0) [])), (3, (.ref (5, 0) [])), (4, (.imm true (.int .i64) d5)), (15, (.ref (5, 0) [])), (16, (.imm true (.int .i64) d8)), (17, (.imm true (.int .i64) d10))]) (U := [((3, 0), some ⟨true, kMatrix, (.imm z14), d13⟩), ((4, 0), some ⟨true, kMatrix, .own, d17⟩), ((5, 0), some ⟨false, (.sl (.int .i64)), .own, d20⟩)]) rfl rfl ⟨e1, e2, e3, e4, e6, e7, e9, trivial⟩ ⟨e11, e15, e18, trivial⟩
 ·exact Option.some.inj hz
set_option maxRecDepth 100000 in
theorem i_Matrix_kernel_l14_step : ∀ (h14_0_0 : Int) (h14_0_1 : Int) (h14_0_3 : Int) (h14_0_4 : Int) (h14_0_5 : Int) (h14_0_7 : TMatrix) (h14_0_8 : (List Int)) (h14_0_9 : TMatrix) (x : (Int × Int)) (c : St → Option (Ex × St)), den i_Matrix_kernel_V i_Matrix_kernel_A (loopAt i_Matrix_kernel_b 2) (i_Matrix_kernel_l14_mk h14_0_0 h14_0_1 h14_0_3 h14_0_4 h14_0_5 h14_0_7 h14_0_8 h14_0_9 x) (roundK i_Matrix_kernel_l14_L.kp i_Matrix_kernel_l14_L.kx c) = (i_Matrix_kernel_l14 h14_0_1 h14_0_5 h14_0_8 x).run (roundR (i_Matrix_kernel_l14_mk h14_0_0 h14_0_1 h14_0_3 h14_0_4 h14_0_5 h14_0_7 h14_0_8 h14_0_9) (i_Matrix_kernel_l14_out h14_0_0 h14_0_1 h14_0_3 h14_0_4 h14_0_5 h14_0_7 h14_0_8 h14_0_9) c) := fun _ _ _ _ _ _ _ _ _ _ => by
 kernel_rfl
theorem i_Matrix_kernel_l14_ok : LoopOK i_Matrix_kernel_V i_Matrix_kernel_A (loopAt i_Matrix_kernel_b 2) i_Matrix_kernel_l14_L := loopOK_of fun s e s' h => by
 generalize hs : restrict i_Matrix_kernel_l14_L.kp s = s1 at h
 have h : (i_Matrix_kernel_l14_D s1).run some = some (e, s') := h
 obtain ⟨e1, h_0⟩ := asPtr_spec h
 obtain ⟨e2, h_1⟩ := asRef_spec h_0
 obtain ⟨d4, e3, h_2⟩ := asImmZ_spec h_1
 obtain ⟨e5, h_3⟩ := asPtr_spec h_2
 obtain ⟨d7, e6, h_4⟩ := asImmZ_spec h_3
 obtain ⟨d9, e8, h_5⟩ := asImmZ_spec h_4
 obtain ⟨d11, e10, h_6⟩ := asImmZ_spec h_5
 obtain ⟨d13, e12, h_7⟩ := asImmZ_spec h_6
 obtain ⟨e14, h_8⟩ := asRef_spec h_7
 obtain ⟨d16, e15, h_9⟩ := asImmZ_spec h_8
 obtain ⟨d18, e17, h_10⟩ := asImmZ_spec h_9
 obtain ⟨m20, d21, e19, h_11⟩ := asRoot_spec h_10
 obtain ⟨rfl, h_12⟩ := asM_spec h_11
 obtain ⟨m23, d24, e22, h_13⟩ := asRoot_spec h_12
 obtain ⟨rfl, h_14⟩ := asM_spec h_13
 obtain ⟨m26, d27, e25, h_15⟩ := asRoot_spec h_14
 obtain ⟨rfl, h_16⟩ := asM_spec h_15
 obtain ⟨y, hy, hz⟩ := mat_ret h_16
 refine ⟨_, _, i_Matrix_kernel_l14_mk d4 d7 d11 d13 d16 d21 d24 d27, i_Matrix_kernel_l14_out d4 d7 d11 d13 d16 d21 d24 d27, i_Matrix_kernel_l14 d7 d16 d24, (d9, d18), y, ?_, hy, ?_, i_Matrix_kernel_l14_step d4 d7 d11 d13 d16 d21 d24 d27⟩
 ·subst hs; exact restrict_eq (T := [(2, (.ptr (4, 0) [])), (3, (.ref (5, 0) [])), (4, (.imm true (.int .i64) d4)), (7, (.ptr (9, 0) [])), (8, (.imm true (.int .i64) d7)), (9, (.imm true (.int .i64) d9)), (31, (.imm true (.int .i64) d11)), (32, (.imm true (.int .i64) d13)), (42, (.ref (5, 0) [])), (43, (.imm true (.int .i64) d16)), (44, (.imm true (.int .i64) d18))]) (U := [((4, 0), some ⟨true, kMatrix, .own, d21⟩), ((5, 0), some ⟨false, (.sl (.int .i64)), .own, d24⟩), ((9, 0), some ⟨true, kMatrix, .own, d27⟩)]) rfl rfl ⟨e1, e2, e3, e5, e6, e8, e10, e12, e14, e15, e17, trivial⟩ ⟨e19, e22, e25, trivial⟩
 ·exact Option.some.inj hz
set_option maxRecDepth 100000 in
theorem i_Matrix_kernel_l9_step : ∀ (h9_0_0 : Int) (h9_0_1 : Int) (h9_0_3 : TMatrix) (h9_0_4 : (List Int)) (x : (Int × TMatrix)) (c : St → Option (Ex × St)), den i_Matrix_kernel_V i_Matrix_kernel_A (loopAt i_Matrix_kernel_b 1) (i_Matrix_kernel_l9_mk h9_0_0 h9_0_1 h9_0_3 h9_0_4 x) (roundK i_Matrix_kernel_l9_L.kp i_Matrix_kernel_l9_L.kx c) = (i_Matrix_kernel_l9 h9_0_0 h9_0_1 h9_0_4 x).run (roundR (i_Matrix_kernel_l9_mk h9_0_0 h9_0_1 h9_0_3 h9_0_4) (i_Matrix_kernel_l9_out h9_0_0 h9_0_1 h9_0_3 h9_0_4) c) := fun _ _ _ _ _ _ => by
 kernel_rfl
theorem i_Matrix_kernel_l9_ok : LoopOK i_Matrix_kernel_V i_Matrix_kernel_A (loopAt i_Matrix_kernel_b 1) i_Matrix_kernel_l9_L := loopOK_of fun s e s' h => by
 generalize hs : restrict i_Matrix_kernel_l9_L.kp s = s1 at h
 have h : (i_Matrix_kernel_l9_D s1).run some = some (e, s') := h
 obtain ⟨e1, h_0⟩ := asPtr_spec h
 obtain ⟨e2, h_1⟩ := asRef_spec h_0
 obtain ⟨d4, e3, h_2⟩ := asImmZ_spec h_1
 obtain ⟨e5, h_3⟩ := asPtr_spec h_2
 obtain ⟨d7, e6, h_4⟩ := asImmZ_spec h_3
 obtain ⟨d9, e8, h_5⟩ := asImmZ_spec h_4
 obtain ⟨m11, d12, e10, h_6⟩ := asRoot_spec h_5
 obtain ⟨rfl, h_7⟩ := asM_spec h_6
 obtain ⟨m14, d15, e13, h_8⟩ := asRoot_spec h_7
 obtain ⟨rfl, h_9⟩ := asM_spec h_8
 obtain ⟨m17, d18, e16, h_10⟩ := asRoot_spec h_9
 obtain ⟨rfl, h_11⟩ := asM_spec h_10
 obtain ⟨y, hy, hz⟩ := mat_ret h_11
 refine ⟨_, _, i_Matrix_kernel_l9_mk d4 d7 d12 d15, i_Matrix_kernel_l9_out d4 d7 d12 d15, i_Matrix_kernel_l9 d4 d7 d15, (d9, d18), y, ?_, hy, ?_, i_Matrix_kernel_l9_step d4 d7 d12 d15⟩
 ·subst hs; exact restrict_eq (T := [(2, (.ptr (4, 0) [])), (3, (.ref (5, 0) [])), (4, (.imm true (.int .i64) d4)), (7, (.ptr (9, 0) [])), (31, (.imm true (.int .i64) d7)), (32, (.imm true (.int .i64) d9))]) (U := [((4, 0), some ⟨true, kMatrix, .own, d12⟩), ((5, 0), some ⟨false, (.sl (.int .i64)), .own, d15⟩), ((9, 0), some ⟨true, kMatrix, .own, d18⟩)]) rfl rfl ⟨e1, e2, e3, e5, e6, e8, trivial⟩ ⟨e10, e13, e16, trivial⟩
 ·exact Option.some.inj hz
noncomputable def i_Matrix_kernel_I : FnI := ⟨i_Matrix_kernel_b, Try.f124.results.toList, Try.f124.resultTypes.toList, i_Matrix_kernel_A⟩
noncomputable def i_Matrix_kernel_out (_zp0 : Bool) (_p0 : TMatrix) : (Int × (List Int)) → CallOut := fun r => ⟨(.pair (.imm true (.int .i64) r.1) (.pair (.ref (1, 0) []) (.imm true .unit ()))), [], [⟨false, (.sl (.int .i64)), .own, r.2⟩]⟩
set_option maxRecDepth 100000 in
theorem i_Matrix_kernel_eq : ∀ (zp0 : Bool) (p0 : TMatrix), denFn i_Matrix_kernel_V i_Matrix_kernel_I ⟨[(.imm zp0 kMatrix p0)], []⟩ = (i_Matrix_kernel p0).run fun r => some (i_Matrix_kernel_out zp0 p0 r) := fun _ _ => by kernel_rfl
noncomputable def i_Matrix_kernel_G (av : List AV) (rs : List Root) : Tre CallOut :=
 asCons av fun a0_ av0 =>
 asEnd av0 <|
 asEnd rs <|
 asImm kMatrix a0_ fun z2 d1 =>
 .mat (i_Matrix_kernel_F d1) fun r => .ret (i_Matrix_kernel_out z2 d1 r)
noncomputable def i_Matrix_kernel_c : Ctr := ⟨[], fun ci => i_Matrix_kernel_G ci.args ci.roots, false⟩
theorem i_Matrix_kernel_env : EnvOK Try.prog .none i_Matrix_kernel_V := (envOK_cons i_echelon_ok ent62 (envOK_cons i_lead_ok ent159 (envOK_cons i_Matrix_form_ok ent160 envOK_nil)))
set_option maxRecDepth 100000 in
theorem i_Matrix_kernel_ok : Contract Try.prog .none 124 i_Matrix_kernel_c := by
 have hl : LoopsOK i_Matrix_kernel_V i_Matrix_kernel_A i_Matrix_kernel_b := (loopsOK_all (n := 3) (by kernel_rfl) fun k hk => by
   match k, hk with
   | 0, _ => exact loopOK_at (id := 3) (L := i_Matrix_kernel_l3_L) (by kernel_rfl) (by kernel_rfl) i_Matrix_kernel_l3_ok
   | 1, _ => exact loopOK_at (id := 9) (L := i_Matrix_kernel_l9_L) (by kernel_rfl) (by kernel_rfl) i_Matrix_kernel_l9_ok
   | 2, _ => exact loopOK_at (id := 14) (L := i_Matrix_kernel_l14_L) (by kernel_rfl) (by kernel_rfl) i_Matrix_kernel_l14_ok)
 refine (contract_of (F := i_Matrix_kernel_I) tau_tys i_Matrix_kernel_env Try.func124 (by kernel_rfl) (by kernel_rfl) (by kernel_rfl) hl []).weaken ?_
 rintro ⟨av, rs⟩ co h
 have h : (i_Matrix_kernel_G av rs).run some = some co := h
 obtain ⟨a0_, av0, rfl, h_0⟩ := asCons_spec h
 obtain ⟨rfl, h_1⟩ := asEnd_spec h_0
 obtain ⟨rfl, h_2⟩ := asEnd_spec h_1
 obtain ⟨z2, d1, rfl, h_3⟩ := asImm_spec h_2
 exact fin_mat (i_Matrix_kernel_eq z2 d1) h_3
end Go.Proofs.Ythnkanacjhlhhaa

namespace Go.Proofs.Ythnkanacjhlhhaa
open Go Go.Abs Go.Proofs
noncomputable def i_spaces_l5 (_g_ : Int → Int → Option (List TMatrix)) (h5_0_0 : Int) (h5_0_3 : (List TMatrix)) : (Int × (List TMatrix)) → Tre ((Int × (List TMatrix)) ⊕ (List TMatrix)) := fun s5 =>
 .cond (decide (s5.1 < h5_0_0))
  (.ite (0 ≤ s5.1 ∧ s5.1 < (h5_0_3.length : Int)) <|
  .mat (h5_0_3[s5.1.toNat]?) fun x2 =>
  .mat (i_Matrix_kernel_F x2) fun r3 =>
  .ite ((s5.2.length + 1) * 32 ≤ appendMax ∧ 1 ≤ 32) <|
  let v4 := s5.2 ++ ([(r3.1, (r3.2, ()))])
  .ret (.inl (iwrap .i64 (s5.1 + 1), v4)))
  (.ret (.inr s5.2))
noncomputable def i_spaces (g_ : Int → Int → Option (List TMatrix)) (p0 : Int) (p1 : Int) : Tre (List TMatrix) :=
 .cond (decide (iwrap .i64 (2 * p1) > p0))
  (.mat (g_ p0 (iwrap .i64 (p0 - p1))) fun r1 =>
  .mat (loopF ((i_spaces_l5 g_) (r1.length : Int) r1) (0, [])) fun l5 =>
  .mat (i_spacesc1_c761_F l5) fun r6 =>
  .ret r6)
  (.mat (i_spacesc2_1338_F [] p1 [] p0) fun r7 =>
  .mat (i_spacesc1_c761_F r7) fun r8 =>
  .ret r8)
noncomputable def i_spaces_R : Nat → Int → Int → Option (List TMatrix)
 | 0 => fun _ _ => none
 | n + 1 => fun p0 p1 => (i_spaces (i_spaces_R n) p0 p1).run some
noncomputable def i_spaces_F (p0 : Int) (p1 : Int) : Option (List TMatrix) := i_spaces_R 1000000000000 p0 p1
noncomputable def i_spaces_out (_g_ : Int → Int → Option (List TMatrix)) (_p0 : Int) (_p1 : Int) : (List TMatrix) → CallOut := fun r => ⟨(.ref (1, 0) []), [], [⟨false, (.sl kMatrix), (.sl (.imm true)), r⟩]⟩
noncomputable def i_spaces_G (g_ : Int → Int → Option (List TMatrix)) (av : List AV) (rs : List Root) : Tre CallOut :=
 asCons av fun a0_ av0 =>
 asCons av0 fun a1_ av1 =>
 asEnd av1 <|
 asEnd rs <|
 asImmZ true (.int .i64) a0_ fun d1 =>
 asImmZ true (.int .i64) a1_ fun d2 =>
 .mat (g_ d1 d2) fun r => .ret ((i_spaces_out g_) d1 d2 r)
noncomputable def i_spaces_c (g_ : Int → Int → Option (List TMatrix)) : Ctr := ⟨[], fun ci => (i_spaces_G g_) ci.args ci.roots, false⟩
noncomputable def i_spaces_V (g_ : Int → Int → Option (List TMatrix)) : Env := ⟨tau, [(70, (i_spaces_c g_)), (124, i_Matrix_kernel_c), (122, i_spacesc1_c761_c), (125, (i_spacesc2_1338_c i_spacesc2_1338_F))], []⟩
noncomputable def i_spaces_b (_g_ : Int → Int → Option (List TMatrix)) : Code := (Try.f70.body).getD .skip
noncomputable def i_spaces_l5_mk (_g_ : Int → Int → Option (List TMatrix)) (h5_0_0 : Int) (h5_0_3 : (List TMatrix)) : (Int × (List TMatrix)) → St := fun x => stOf [(5, (.ptr (7, 0) [])), (6, (.fn 122 [(7, 0)])), (20, (.ref (22, 0) [])), (21, (.imm true (.int .i64) h5_0_0)), (22, (.imm true (.int .i64) x.1))] [((7, 0), some ⟨true, (.sl kMatrix), .own, x.2⟩), ((22, 0), some ⟨false, (.sl kMatrix), (.sl (.imm true)), h5_0_3⟩)]
noncomputable def i_spaces_l5_out (_g_ : Int → Int → Option (List TMatrix)) (_h5_0_0 : Int) (_h5_0_3 : (List TMatrix)) : (List TMatrix) → Ex × St := fun x => (.exit 0, stOf [(6, (.fn 122 [(7, 0)]))] [((7, 0), some ⟨true, (.sl kMatrix), .own, x⟩)])
noncomputable def i_spaces_l5_D (g_ : Int → Int → Option (List TMatrix)) (s : St) : Tre (Ex × St) :=
 asPtr (7, 0) [] (s.tmps 5) <|
 asFn 122 [(7, 0)] (s.tmps 6) <|
 asRef (22, 0) [] (s.tmps 20) <|
 asImmZ true (.int .i64) (s.tmps 21) fun d5 =>
 asImmZ true (.int .i64) (s.tmps 22) fun d7 =>
 asRoot true (.sl kMatrix) (s.roots (7, 0)) fun m9 d10 =>
 asM .own m9 <|
 asRoot false (.sl kMatrix) (s.roots (22, 0)) fun m12 d13 =>
 asM (.sl (.imm true)) m12 <|
 .mat (loopF ((i_spaces_l5 g_) d5 d13) (d7, d10)) fun x => .ret ((i_spaces_l5_out g_) d5 d13 x)
noncomputable def i_spaces_l5_L (g_ : Int → Int → Option (List TMatrix)) : LoopI := ⟨([5, 6, 20, 21, 22], [(7, 0), (22, 0)]), ([6], [(7, 0)]), (i_spaces_l5_D g_)⟩
noncomputable def i_spaces_A (g_ : Int → Int → Option (List TMatrix)) : List (Nat × LoopI) := [(5, (i_spaces_l5_L g_))]
set_option maxRecDepth 100000 in
theorem i_spaces_l5_step (g_ : Int → Int → Option (List TMatrix)) : ∀ (h5_0_0 : Int) (h5_0_3 : (List TMatrix)) (x : (Int × (List TMatrix))) (c : St → Option (Ex × St)), den (i_spaces_V g_) (i_spaces_A g_) (loopAt (i_spaces_b g_) 0) ((i_spaces_l5_mk g_) h5_0_0 h5_0_3 x) (roundK (i_spaces_l5_L g_).kp (i_spaces_l5_L g_).kx c) = ((i_spaces_l5 g_) h5_0_0 h5_0_3 x).run (roundR ((i_spaces_l5_mk g_) h5_0_0 h5_0_3) ((i_spaces_l5_out g_) h5_0_0 h5_0_3) c) := fun _ _ _ _ => by
 kernel_rfl
theorem i_spaces_l5_ok (g_ : Int → Int → Option (List TMatrix)) : LoopOK (i_spaces_V g_) (i_spaces_A g_) (loopAt (i_spaces_b g_) 0) (i_spaces_l5_L g_) := loopOK_of fun s e s' h => by
 generalize hs : restrict (i_spaces_l5_L g_).kp s = s1 at h
 have h : ((i_spaces_l5_D g_) s1).run some = some (e, s') := h
 obtain ⟨e1, h_0⟩ := asPtr_spec h
 obtain ⟨e2, h_1⟩ := asFn_spec h_0
 obtain ⟨e3, h_2⟩ := asRef_spec h_1
 obtain ⟨d5, e4, h_3⟩ := asImmZ_spec h_2
 obtain ⟨d7, e6, h_4⟩ := asImmZ_spec h_3
 obtain ⟨m9, d10, e8, h_5⟩ := asRoot_spec h_4
 obtain ⟨rfl, h_6⟩ := asM_spec h_5
 obtain ⟨m12, d13, e11, h_7⟩ := asRoot_spec h_6
 obtain ⟨rfl, h_8⟩ := asM_spec h_7
 obtain ⟨y, hy, hz⟩ := mat_ret h_8
 refine ⟨_, _, (i_spaces_l5_mk g_) d5 d13, (i_spaces_l5_out g_) d5 d13, (i_spaces_l5 g_) d5 d13, (d7, d10), y, ?_, hy, ?_, (i_spaces_l5_step g_) d5 d13⟩
 ·subst hs; exact restrict_eq (T := [(5, (.ptr (7, 0) [])), (6, (.fn 122 [(7, 0)])), (20, (.ref (22, 0) [])), (21, (.imm true (.int .i64) d5)), (22, (.imm true (.int .i64) d7))]) (U := [((7, 0), some ⟨true, (.sl kMatrix), .own, d10⟩), ((22, 0), some ⟨false, (.sl kMatrix), (.sl (.imm true)), d13⟩)]) rfl rfl ⟨e1, e2, e3, e4, e6, trivial⟩ ⟨e8, e11, trivial⟩
 ·exact Option.some.inj hz
noncomputable def i_spaces_I (g_ : Int → Int → Option (List TMatrix)) : FnI := ⟨(i_spaces_b g_), Try.f70.results.toList, Try.f70.resultTypes.toList, (i_spaces_A g_)⟩
set_option maxRecDepth 100000 in
theorem i_spaces_eq (g_ : Int → Int → Option (List TMatrix)) : ∀ (p0 : Int) (p1 : Int), denFn (i_spaces_V g_) (i_spaces_I g_) ⟨[(.imm true (.int .i64) p0), (.imm true (.int .i64) p1)], []⟩ = ((i_spaces g_) p0 p1).run fun r => some ((i_spaces_out g_) p0 p1 r) := fun _ _ => by kernel_rfl
theorem i_spaces_env (g_ : Int → Int → Option (List TMatrix)) (hg_ : Contract Try.prog .none 70 (i_spaces_c g_)) : EnvOK Try.prog .none (i_spaces_V g_) := (envOK_cons hg_ ent70 (envOK_cons i_Matrix_kernel_ok ent124 (envOK_cons i_spacesc1_c761_ok ent122 (envOK_cons i_spacesc2_1338_ok ent125 envOK_nil))))
set_option maxRecDepth 100000 in
theorem i_spaces_okS (g_ : Int → Int → Option (List TMatrix)) (hg_ : Contract Try.prog .none 70 (i_spaces_c g_)) : Contract Try.prog .none 70 (i_spaces_c (fun p0 p1 => (i_spaces g_ p0 p1).run some)) := by
 have hl : LoopsOK (i_spaces_V g_) (i_spaces_A g_) (i_spaces_b g_) := (loopsOK_all (n := 1) (by kernel_rfl) fun k hk => by
   match k, hk with
   | 0, _ => exact loopOK_at (id := 5) (L := (i_spaces_l5_L g_)) (by kernel_rfl) (by kernel_rfl) (i_spaces_l5_ok g_))
 refine (contract_of (F := (i_spaces_I g_)) tau_tys ((i_spaces_env g_) hg_) Try.func70 (by kernel_rfl) (by kernel_rfl) (by kernel_rfl) hl []).weaken ?_
 rintro ⟨av, rs⟩ co h
 have h : (i_spaces_G (fun p0 p1 => (i_spaces g_ p0 p1).run some) av rs).run some = some co := h
 obtain ⟨a0_, av0, rfl, h_0⟩ := asCons_spec h
 obtain ⟨a1_, av1, rfl, h_1⟩ := asCons_spec h_0
 obtain ⟨rfl, h_2⟩ := asEnd_spec h_1
 obtain ⟨rfl, h_3⟩ := asEnd_spec h_2
 obtain ⟨d1, rfl, h_4⟩ := asImmZ_spec h_3
 obtain ⟨d2, rfl, h_5⟩ := asImmZ_spec h_4
 exact fin_mat ((i_spaces_eq g_) d1 d2) h_5
theorem i_spaces_ok0 : Contract Try.prog .none 70 (i_spaces_c (fun _ _ => none)) := Contract.vacuous (by
 rintro ⟨av, rs⟩ co h
 have h : (i_spaces_G (fun _ _ => none) av rs).run some = some co := h
 obtain ⟨a0_, av0, rfl, h_0⟩ := asCons_spec h
 obtain ⟨a1_, av1, rfl, h_1⟩ := asCons_spec h_0
 obtain ⟨rfl, h_2⟩ := asEnd_spec h_1
 obtain ⟨rfl, h_3⟩ := asEnd_spec h_2
 obtain ⟨d1, rfl, h_4⟩ := asImmZ_spec h_3
 obtain ⟨d2, rfl, h_5⟩ := asImmZ_spec h_4
 exact mat_none_absurd h_5)
theorem i_spaces_okN : ∀ n, Contract Try.prog .none 70 (i_spaces_c (i_spaces_R n))
 | 0 => i_spaces_ok0
 | n + 1 => i_spaces_okS _ (i_spaces_okN n)
theorem i_spaces_ok : Contract Try.prog .none 70 (i_spaces_c i_spaces_F) := i_spaces_okN _
end Go.Proofs.Ythnkanacjhlhhaa

namespace Go.Proofs.Ythnkanacjhlhhaa
open Go Go.Abs Go.Proofs
noncomputable def i_SpacesOf (p0 : Int) (p1 : Int) : Tre ((Int × (List TMatrix)) ⊕ (Int × (List TMatrix))) :=
 .mat (i_GaussNumber_F p0 p1) fun r1 =>
 .cond (!decide (r1.2 = 0))
  (.ret (.inl (r1.2, [])))
  (.cond (decide (r1.1 > 400))
   (.ret (.inl (3, [])))
   (.mat (i_spaces_F p0 p1) fun r2 =>
   .ret (.inr (0, r2))))
noncomputable def i_SpacesOf_F (p0 : Int) (p1 : Int) : Option ((Int × (List TMatrix)) ⊕ (Int × (List TMatrix))) := (i_SpacesOf p0 p1).run some
noncomputable def i_SpacesOf_V : Env := ⟨tau, [(19, i_GaussNumber_c), (70, (i_spaces_c i_spaces_F))], []⟩
noncomputable def i_SpacesOf_b : Code := (Try.f18.body).getD .skip
noncomputable def i_SpacesOf_I : FnI := ⟨i_SpacesOf_b, Try.f18.results.toList, Try.f18.resultTypes.toList, []⟩
noncomputable def i_SpacesOf_out (_p0 : Int) (_p1 : Int) : ((Int × (List TMatrix)) ⊕ (Int × (List TMatrix))) → CallOut
 | .inl r => ⟨(.tcons (.ref (1, 0) []) (.tcons (.imm true (.int .i64) r.1) .tnil)), [], [⟨false, (.sl kMatrix), .own, r.2⟩]⟩
 | .inr r => ⟨(.tcons (.ref (1, 0) []) (.tcons (.imm true (.int .i64) r.1) .tnil)), [], [⟨false, (.sl kMatrix), (.sl (.imm true)), r.2⟩]⟩
set_option maxRecDepth 100000 in
theorem i_SpacesOf_eq : ∀ (p0 : Int) (p1 : Int), denFn i_SpacesOf_V i_SpacesOf_I ⟨[(.imm true (.int .i64) p0), (.imm true (.int .i64) p1)], []⟩ = (i_SpacesOf p0 p1).run fun r => some (i_SpacesOf_out p0 p1 r) := fun _ _ => by kernel_rfl
noncomputable def i_SpacesOf_G (av : List AV) (rs : List Root) : Tre CallOut :=
 asCons av fun a0_ av0 =>
 asCons av0 fun a1_ av1 =>
 asEnd av1 <|
 asEnd rs <|
 asImmZ true (.int .i64) a0_ fun d1 =>
 asImmZ true (.int .i64) a1_ fun d2 =>
 .mat (i_SpacesOf_F d1 d2) fun r => .alt r (fun a0 => .ret (i_SpacesOf_out d1 d2 (.inl a0))) (fun b0 => .ret (i_SpacesOf_out d1 d2 (.inr b0)))
noncomputable def i_SpacesOf_c : Ctr := ⟨[], fun ci => i_SpacesOf_G ci.args ci.roots, false⟩
theorem i_SpacesOf_env : EnvOK Try.prog .none i_SpacesOf_V := (envOK_cons i_GaussNumber_ok ent19 (envOK_cons i_spaces_ok ent70 envOK_nil))
set_option maxRecDepth 100000 in
theorem i_SpacesOf_ok : Contract Try.prog .none 18 i_SpacesOf_c := by
 have hl : LoopsOK i_SpacesOf_V [] i_SpacesOf_b := loopsOK_nil (by kernel_rfl)
 refine (contract_of (F := i_SpacesOf_I) tau_tys i_SpacesOf_env Try.func18 (by kernel_rfl) (by kernel_rfl) (by kernel_rfl) hl []).weaken ?_
 rintro ⟨av, rs⟩ co h
 have h : (i_SpacesOf_G av rs).run some = some co := h
 obtain ⟨a0_, av0, rfl, h_0⟩ := asCons_spec h
 obtain ⟨a1_, av1, rfl, h_1⟩ := asCons_spec h_0
 obtain ⟨rfl, h_2⟩ := asEnd_spec h_1
 obtain ⟨rfl, h_3⟩ := asEnd_spec h_2
 obtain ⟨d1, rfl, h_4⟩ := asImmZ_spec h_3
 obtain ⟨d2, rfl, h_5⟩ := asImmZ_spec h_4
 exact fin_mats (i_SpacesOf_eq d1 d2) h_5 (by rintro (x | x) <;> rfl)
end Go.Proofs.Ythnkanacjhlhhaa

namespace Go.Proofs.Ythnkanacjhlhhaa
open Go Go.Abs Go.Proofs
noncomputable def slices_Grow_int64_8ac3 (p0 : Int) : Tre (List Int) :=
 .cond (decide (p0 < 0))
  (.fail)
  (.cond (decide (iwrap .i64 (p0 - 0) > 0))
   (.ite ((((.int .i64) : K) = (.int .i64) ∧ 0 ≤ (iwrap .i64 (p0 - 0)) ∧ (iwrap .i64 (p0 - 0)).toNat * 8 ≤ appendMax ∧ 1 ≤ 8)) <|
   let v1 := List.replicate (iwrap .i64 (p0 - 0)).toNat 0
   .ite (0 ≤ (0 : Int) ∧ (0 : Int) ≤ (0 : Int) ∧ (0 : Int) ≤ (v1.length : Int)) <|
   .ret ((v1.drop 0).take 0))
   (.ret []))
noncomputable def slices_Grow_int64_8ac3_F (p0 : Int) : Option (List Int) := (slices_Grow_int64_8ac3 p0).run some
noncomputable def slices_Grow_int64_8ac3_V : Env := ⟨tau, [], []⟩
noncomputable def slices_Grow_int64_8ac3_b : Code := (Try.f164.body).getD .skip
noncomputable def slices_Grow_int64_8ac3_I : FnI := ⟨slices_Grow_int64_8ac3_b, Try.f164.results.toList, Try.f164.resultTypes.toList, []⟩
noncomputable def slices_Grow_int64_8ac3_out (_p0 : Int) : (List Int) → CallOut := fun r => ⟨(.ref (1, 0) []), [], [⟨false, (.sl (.int .i64)), .own, r⟩]⟩
set_option maxRecDepth 100000 in
theorem slices_Grow_int64_8ac3_eq : ∀ (p0 : Int), denFn slices_Grow_int64_8ac3_V slices_Grow_int64_8ac3_I ⟨[.nil, (.imm true (.int .i64) p0)], []⟩ = (slices_Grow_int64_8ac3 p0).run fun r => some (slices_Grow_int64_8ac3_out p0 r) := fun _ => by kernel_rfl
noncomputable def slices_Grow_int64_8ac3_G (av : List AV) (rs : List Root) : Tre CallOut :=
 asCons av fun a0_ av0 =>
 asCons av0 fun a1_ av1 =>
 asEnd av1 <|
 asEnd rs <|
 asNil a0_ <|
 asImmZ true (.int .i64) a1_ fun d1 =>
 .mat (slices_Grow_int64_8ac3_F d1) fun r => .ret (slices_Grow_int64_8ac3_out d1 r)
noncomputable def slices_Grow_int64_8ac3_c : Ctr := ⟨[0], fun ci => slices_Grow_int64_8ac3_G ci.args ci.roots, false⟩
theorem slices_Grow_int64_8ac3_env : EnvOK Try.prog .none slices_Grow_int64_8ac3_V := envOK_nil
set_option maxRecDepth 100000 in
theorem slices_Grow_int64_8ac3_ok : Contract Try.prog .none 164 slices_Grow_int64_8ac3_c := by
 have hl : LoopsOK slices_Grow_int64_8ac3_V [] slices_Grow_int64_8ac3_b := loopsOK_nil (by kernel_rfl)
 refine (contract_of (F := slices_Grow_int64_8ac3_I) tau_tys slices_Grow_int64_8ac3_env Try.func164 (by kernel_rfl) (by kernel_rfl) (by kernel_rfl) hl [0]).weaken ?_
 rintro ⟨av, rs⟩ co h
 have h : (slices_Grow_int64_8ac3_G av rs).run some = some co := h
 obtain ⟨a0_, av0, rfl, h_0⟩ := asCons_spec h
 obtain ⟨a1_, av1, rfl, h_1⟩ := asCons_spec h_0
 obtain ⟨rfl, h_2⟩ := asEnd_spec h_1
 obtain ⟨rfl, h_3⟩ := asEnd_spec h_2
 obtain ⟨rfl, h_4⟩ := asNil_spec h_3
 obtain ⟨d1, rfl, h_5⟩ := asImmZ_spec h_4
 exact fin_mat (slices_Grow_int64_8ac3_eq d1) h_5
end Go.Proofs.Ythnkanacjhlhhaa

namespace Go.Proofs.Ythnkanacjhlhhaa
open Go Go.Abs Go.Proofs
noncomputable def slices_Concat_int64_l3 (h3_0_2 : (List (List Int))) (h3_0_3 : Int) : (Int × Int) → Tre ((Int × Int) ⊕ Int) := fun s3 =>
 .cond (decide (s3.2 < h3_0_3))
  (.ite (0 ≤ s3.2 ∧ s3.2 < (h3_0_2.length : Int)) <|
  .mat (h3_0_2[s3.2.toNat]?) fun x1 =>
  let v2 := iwrap .i64 (s3.1 + (x1.length : Int))
  .cond (decide (v2 < 0))
   (.fail)
   (.ret (.inl (v2, iwrap .i64 (s3.2 + 1)))))
  (.ret (.inr s3.1))
noncomputable def slices_Concat_int64_l11 (h11_0_0 : (List (List Int))) (h11_0_1 : Int) : (Int × (List Int)) → Tre ((Int × (List Int)) ⊕ (List Int)) := fun s11 =>
 .cond (decide (s11.1 < h11_0_1))
  (.ite (0 ≤ s11.1 ∧ s11.1 < (h11_0_0.length : Int)) <|
  .mat (h11_0_0[s11.1.toNat]?) fun x5 =>
  .ite ((s11.2.length + x5.length) * 8 ≤ appendMax ∧ 1 ≤ 8) <|
  .ret (.inl (iwrap .i64 (s11.1 + 1), s11.2 ++ x5)))
  (.ret (.inr s11.2))
noncomputable def slices_Concat_int64 (p0 : (List (List Int))) : Tre (List Int) :=
 .mat (loopF (slices_Concat_int64_l3 p0 (p0.length : Int)) (0, 0)) fun l3 =>
 .mat (slices_Grow_int64_8ac3_F l3) fun r4 =>
 .mat (loopF (slices_Concat_int64_l11 p0 (p0.length : Int)) (0, r4)) fun l6 =>
 .ret l6
noncomputable def slices_Concat_int64_F (p0 : (List (List Int))) : Option (List Int) := (slices_Concat_int64 p0).run some
noncomputable def slices_Concat_int64_V : Env := ⟨tau, [(164, slices_Grow_int64_8ac3_c)], []⟩
noncomputable def slices_Concat_int64_b : Code := (Try.f140.body).getD .skip
noncomputable def slices_Concat_int64_l3_mk (z3_0 : Bool) (z3_1 : Bool) (h3_0_0 : (List (List Int))) (h3_0_2 : (List (List Int))) (h3_0_3 : Int) : (Int × Int) → St := fun x => stOf [(0, (.imm z3_0 (.sl (.sl (.int .i64))) h3_0_0)), (3, (.imm true (.int .i64) x.1)), (9, (.imm z3_1 (.sl (.sl (.int .i64))) h3_0_2)), (10, (.imm true (.int .i64) h3_0_3)), (11, (.imm true (.int .i64) x.2))] []
noncomputable def slices_Concat_int64_l3_out (z3_0 : Bool) (_z3_1 : Bool) (h3_0_0 : (List (List Int))) (_h3_0_2 : (List (List Int))) (_h3_0_3 : Int) : Int → Ex × St := fun x => (.exit 0, stOf [(0, (.imm z3_0 (.sl (.sl (.int .i64))) h3_0_0)), (3, (.imm true (.int .i64) x))] [])
noncomputable def slices_Concat_int64_l3_D (s : St) : Tre (Ex × St) :=
 asImm (.sl (.sl (.int .i64))) (s.tmps 0) fun z3 d2 =>
 asImmZ true (.int .i64) (s.tmps 3) fun d5 =>
 asImm (.sl (.sl (.int .i64))) (s.tmps 9) fun z8 d7 =>
 asImmZ true (.int .i64) (s.tmps 10) fun d10 =>
 asImmZ true (.int .i64) (s.tmps 11) fun d12 =>
 .mat (loopF (slices_Concat_int64_l3 d7 d10) (d5, d12)) fun x => .ret (slices_Concat_int64_l3_out z3 z8 d2 d7 d10 x)
noncomputable def slices_Concat_int64_l3_L : LoopI := ⟨([0, 3, 9, 10, 11], []), ([0, 3], []), slices_Concat_int64_l3_D⟩
noncomputable def slices_Concat_int64_l11_mk (z11_0 : Bool) (h11_0_0 : (List (List Int))) (h11_0_1 : Int) : (Int × (List Int)) → St := fun x => stOf [(6, (.ref (8, 0) [])), (25, (.imm z11_0 (.sl (.sl (.int .i64))) h11_0_0)), (26, (.imm true (.int .i64) h11_0_1)), (27, (.imm true (.int .i64) x.1))] [((8, 0), some ⟨false, (.sl (.int .i64)), .own, x.2⟩)]
noncomputable def slices_Concat_int64_l11_out (_z11_0 : Bool) (_h11_0_0 : (List (List Int))) (_h11_0_1 : Int) : (List Int) → Ex × St := fun x => (.exit 2, stOf [(6, (.ref (8, 0) []))] [((8, 0), some ⟨false, (.sl (.int .i64)), .own, x⟩)])
noncomputable def slices_Concat_int64_l11_D (s : St) : Tre (Ex × St) :=
 asRef (8, 0) [] (s.tmps 6) <|
 asImm (.sl (.sl (.int .i64))) (s.tmps 25) fun z4 d3 =>
 asImmZ true (.int .i64) (s.tmps 26) fun d6 =>
 asImmZ true (.int .i64) (s.tmps 27) fun d8 =>
 asRoot false (.sl (.int .i64)) (s.roots (8, 0)) fun m10 d11 =>
 asM .own m10 <|
 .mat (loopF (slices_Concat_int64_l11 d3 d6) (d8, d11)) fun x => .ret (slices_Concat_int64_l11_out z4 d3 d6 x)
noncomputable def slices_Concat_int64_l11_L : LoopI := ⟨([6, 25, 26, 27], [(8, 0)]), ([6], [(8, 0)]), slices_Concat_int64_l11_D⟩
noncomputable def slices_Concat_int64_A : List (Nat × LoopI) := [(3, slices_Concat_int64_l3_L), (11, slices_Concat_int64_l11_L)]
set_option maxRecDepth 100000 in
theorem slices_Concat_int64_l3_step : ∀ (z3_0 : Bool) (z3_1 : Bool) (h3_0_0 : (List (List Int))) (h3_0_2 : (List (List Int))) (h3_0_3 : Int) (x : (Int × Int)) (c : St → Option (Ex × St)), den slices_Concat_int64_V slices_Concat_int64_A (loopAt slices_Concat_int64_b 0) (slices_Concat_int64_l3_mk z3_0 z3_1 h3_0_0 h3_0_2 h3_0_3 x) (roundK slices_Concat_int64_l3_L.kp slices_Concat_int64_l3_L.kx c) = (slices_Concat_int64_l3 h3_0_2 h3_0_3 x).run (roundR (slices_Concat_int64_l3_mk z3_0 z3_1 h3_0_0 h3_0_2 h3_0_3) (slices_Concat_int64_l3_out z3_0 z3_1 h3_0_0 h3_0_2 h3_0_3) c) := fun _ _ _ _ _ _ _ => by
 kernel_rfl
theorem slices_Concat_int64_l3_ok : LoopOK slices_Concat_int64_V slices_Concat_int64_A (loopAt slices_Concat_int64_b 0) slices_Concat_int64_l3_L := loopOK_of fun s e s' h => by
 generalize hs : restrict slices_Concat_int64_l3_L.kp s = s1 at h
 have h : (slices_Concat_int64_l3_D s1).run some = some (e, s') := h
 obtain ⟨z3, d2, e1, h_0⟩ := asImm_spec h
 obtain ⟨d5, e4, h_1⟩ := asImmZ_spec h_0
 obtain ⟨z8, d7, e6, h_2⟩ := asImm_spec h_1
 obtain ⟨d10, e9, h_3⟩ := asImmZ_spec h_2
 obtain ⟨d12, e11, h_4⟩ := asImmZ_spec h_3
 obtain ⟨y, hy, hz⟩ := mat_ret h_4
 refine ⟨_, _, slices_Concat_int64_l3_mk z3 z8 d2 d7 d10, slices_Concat_int64_l3_out z3 z8 d2 d7 d10, slices_Concat_int64_l3 d7 d10, (d5, d12), y, ?_, hy, ?_, slices_Concat_int64_l3_step z3 z8 d2 d7 d10⟩
 ·subst hs; exact restrict_eq (T := [(0, (.imm z3 (.sl (.sl (.int .i64))) d2)), (3, (.imm true (.int .i64) d5)), (9, (.imm z8 (.sl (.sl (.int .i64))) d7)), (10, (.imm true (.int .i64) d10)), (11, (.imm true (.int .i64) d12))]) (U := []) rfl rfl ⟨e1, e4, e6, e9, e11, trivial⟩ trivial
 ·exact Option.some.inj hz
set_option maxRecDepth 100000 in
theorem slices_Concat_int64_l11_step : ∀ (z11_0 : Bool) (h11_0_0 : (List (List Int))) (h11_0_1 : Int) (x : (Int × (List Int))) (c : St → Option (Ex × St)), den slices_Concat_int64_V slices_Concat_int64_A (loopAt slices_Concat_int64_b 1) (slices_Concat_int64_l11_mk z11_0 h11_0_0 h11_0_1 x) (roundK slices_Concat_int64_l11_L.kp slices_Concat_int64_l11_L.kx c) = (slices_Concat_int64_l11 h11_0_0 h11_0_1 x).run (roundR (slices_Concat_int64_l11_mk z11_0 h11_0_0 h11_0_1) (slices_Concat_int64_l11_out z11_0 h11_0_0 h11_0_1) c) := fun _ _ _ _ _ => by
 kernel_rfl
theorem slices_Concat_int64_l11_ok : LoopOK slices_Concat_int64_V slices_Concat_int64_A (loopAt slices_Concat_int64_b 1) slices_Concat_int64_l11_L := loopOK_of fun s e s' h => by
 generalize hs : restrict slices_Concat_int64_l11_L.kp s = s1 at h
 have h : (slices_Concat_int64_l11_D s1).run some = some (e, s') := h
 obtain ⟨e1, h_0⟩ := asRef_spec h
 obtain ⟨z4, d3, e2, h_1⟩ := asImm_spec h_0
 obtain ⟨d6, e5, h_2⟩ := asImmZ_spec h_1
 obtain ⟨d8, e7, h_3⟩ := asImmZ_spec h_2
 obtain ⟨m10, d11, e9, h_4⟩ := asRoot_spec h_3
 obtain ⟨rfl, h_5⟩ := asM_spec h_4
 obtain ⟨y, hy, hz⟩ := mat_ret h_5
 refine ⟨_, _, slices_Concat_int64_l11_mk z4 d3 d6, slices_Concat_int64_l11_out z4 d3 d6, slices_Concat_int64_l11 d3 d6, (d8, d11), y, ?_, hy, ?_, slices_Concat_int64_l11_step z4 d3 d6⟩
 ·subst hs; exact restrict_eq (T := [(6, (.ref (8, 0) [])), (25, (.imm z4 (.sl (.sl (.int .i64))) d3)), (26, (.imm true (.int .i64) d6)), (27, (.imm true (.int .i64) d8))]) (U := [((8, 0), some ⟨false, (.sl (.int .i64)), .own, d11⟩)]) rfl rfl ⟨e1, e2, e5, e7, trivial⟩ ⟨e9, trivial⟩
 ·exact Option.some.inj hz
noncomputable def slices_Concat_int64_I : FnI := ⟨slices_Concat_int64_b, Try.f140.results.toList, Try.f140.resultTypes.toList, slices_Concat_int64_A⟩
noncomputable def slices_Concat_int64_out (_zp0 : Bool) (_p0 : (List (List Int))) : (List Int) → CallOut := fun r => ⟨(.ref (1, 0) []), [], [⟨false, (.sl (.int .i64)), .own, r⟩]⟩
set_option maxRecDepth 100000 in
theorem slices_Concat_int64_eq : ∀ (zp0 : Bool) (p0 : (List (List Int))), denFn slices_Concat_int64_V slices_Concat_int64_I ⟨[(.imm zp0 (.sl (.sl (.int .i64))) p0)], []⟩ = (slices_Concat_int64 p0).run fun r => some (slices_Concat_int64_out zp0 p0 r) := fun _ _ => by kernel_rfl
noncomputable def slices_Concat_int64_G (av : List AV) (rs : List Root) : Tre CallOut :=
 asCons av fun a0_ av0 =>
 asEnd av0 <|
 asEnd rs <|
 asImm (.sl (.sl (.int .i64))) a0_ fun z2 d1 =>
 .mat (slices_Concat_int64_F d1) fun r => .ret (slices_Concat_int64_out z2 d1 r)
noncomputable def slices_Concat_int64_c : Ctr := ⟨[], fun ci => slices_Concat_int64_G ci.args ci.roots, false⟩
theorem slices_Concat_int64_env : EnvOK Try.prog .none slices_Concat_int64_V := (envOK_cons slices_Grow_int64_8ac3_ok ent164 envOK_nil)
set_option maxRecDepth 100000 in
theorem slices_Concat_int64_ok : Contract Try.prog .none 140 slices_Concat_int64_c := by
 have hl : LoopsOK slices_Concat_int64_V slices_Concat_int64_A slices_Concat_int64_b := (loopsOK_all (n := 2) (by kernel_rfl) fun k hk => by
   match k, hk with
   | 0, _ => exact loopOK_at (id := 3) (L := slices_Concat_int64_l3_L) (by kernel_rfl) (by kernel_rfl) slices_Concat_int64_l3_ok
   | 1, _ => exact loopOK_at (id := 11) (L := slices_Concat_int64_l11_L) (by kernel_rfl) (by kernel_rfl) slices_Concat_int64_l11_ok)
 refine (contract_of (F := slices_Concat_int64_I) tau_tys slices_Concat_int64_env Try.func140 (by kernel_rfl) (by kernel_rfl) (by kernel_rfl) hl []).weaken ?_
 rintro ⟨av, rs⟩ co h
 have h : (slices_Concat_int64_G av rs).run some = some co := h
 obtain ⟨a0_, av0, rfl, h_0⟩ := asCons_spec h
 obtain ⟨rfl, h_1⟩ := asEnd_spec h_0
 obtain ⟨rfl, h_2⟩ := asEnd_spec h_1
 obtain ⟨z2, d1, rfl, h_3⟩ := asImm_spec h_2
 exact fin_mat (slices_Concat_int64_eq z2 d1) h_3
end Go.Proofs.Ythnkanacjhlhhaa

namespace Go.Proofs.Ythnkanacjhlhhaa
open Go Go.Abs Go.Proofs
noncomputable def i_Matrix_sum (p0 : TMatrix) (p1 : TMatrix) : Tre (Int × (List Int)) :=
 .mat (slices_Concat_int64_F ([p0.2.1, p1.2.1])) fun r1 =>
 .mat (i_echelon_F r1) fun r2 =>
 .ret (p0.1, r2)
noncomputable def i_Matrix_sum_F (p0 : TMatrix) (p1 : TMatrix) : Option (Int × (List Int)) := (i_Matrix_sum p0 p1).run some
noncomputable def i_Matrix_sum_V : Env := ⟨tau, [(140, slices_Concat_int64_c), (62, i_echelon_c)], []⟩
noncomputable def i_Matrix_sum_b : Code := (Try.f98.body).getD .skip
noncomputable def i_Matrix_sum_I : FnI := ⟨i_Matrix_sum_b, Try.f98.results.toList, Try.f98.resultTypes.toList, []⟩
noncomputable def i_Matrix_sum_out (_zp0 : Bool) (_zp1 : Bool) (_p0 : TMatrix) (_p1 : TMatrix) : (Int × (List Int)) → CallOut := fun r => ⟨(.pair (.imm true (.int .i64) r.1) (.pair (.ref (1, 0) []) (.imm true .unit ()))), [], [⟨false, (.sl (.int .i64)), .own, r.2⟩]⟩
set_option maxRecDepth 100000 in
theorem i_Matrix_sum_eq : ∀ (zp0 : Bool) (zp1 : Bool) (p0 : TMatrix) (p1 : TMatrix), denFn i_Matrix_sum_V i_Matrix_sum_I ⟨[(.imm zp0 kMatrix p0), (.imm zp1 kMatrix p1)], []⟩ = (i_Matrix_sum p0 p1).run fun r => some (i_Matrix_sum_out zp0 zp1 p0 p1 r) := fun _ _ _ _ => by kernel_rfl
noncomputable def i_Matrix_sum_G (av : List AV) (rs : List Root) : Tre CallOut :=
 asCons av fun a0_ av0 =>
 asCons av0 fun a1_ av1 =>
 asEnd av1 <|
 asEnd rs <|
 asImm kMatrix a0_ fun z2 d1 =>
 asImm kMatrix a1_ fun z4 d3 =>
 .mat (i_Matrix_sum_F d1 d3) fun r => .ret (i_Matrix_sum_out z2 z4 d1 d3 r)
noncomputable def i_Matrix_sum_c : Ctr := ⟨[], fun ci => i_Matrix_sum_G ci.args ci.roots, false⟩
theorem i_Matrix_sum_env : EnvOK Try.prog .none i_Matrix_sum_V := (envOK_cons slices_Concat_int64_ok ent140 (envOK_cons i_echelon_ok ent62 envOK_nil))
set_option maxRecDepth 100000 in
theorem i_Matrix_sum_ok : Contract Try.prog .none 98 i_Matrix_sum_c := by
 have hl : LoopsOK i_Matrix_sum_V [] i_Matrix_sum_b := loopsOK_nil (by kernel_rfl)
 refine (contract_of (F := i_Matrix_sum_I) tau_tys i_Matrix_sum_env Try.func98 (by kernel_rfl) (by kernel_rfl) (by kernel_rfl) hl []).weaken ?_
 rintro ⟨av, rs⟩ co h
 have h : (i_Matrix_sum_G av rs).run some = some co := h
 obtain ⟨a0_, av0, rfl, h_0⟩ := asCons_spec h
 obtain ⟨a1_, av1, rfl, h_1⟩ := asCons_spec h_0
 obtain ⟨rfl, h_2⟩ := asEnd_spec h_1
 obtain ⟨rfl, h_3⟩ := asEnd_spec h_2
 obtain ⟨z2, d1, rfl, h_4⟩ := asImm_spec h_3
 obtain ⟨z4, d3, rfl, h_5⟩ := asImm_spec h_4
 exact fin_mat (i_Matrix_sum_eq z2 z4 d1 d3) h_5
end Go.Proofs.Ythnkanacjhlhhaa

namespace Go.Proofs.Ythnkanacjhlhhaa
open Go Go.Abs Go.Proofs
noncomputable def i_Matrix_distance (p0 : TMatrix) (p1 : TMatrix) : Tre Int :=
 .mat (i_Matrix_sum_F p0 p1) fun r1 =>
 let v2 := iwrap .i64 (2 * (r1.2.length : Int))
 let v3 := iwrap .i64 (v2 - (p0.2.1.length : Int))
 let v4 := iwrap .i64 (v3 - (p1.2.1.length : Int))
 .ret v4
noncomputable def i_Matrix_distance_F (p0 : TMatrix) (p1 : TMatrix) : Option Int := (i_Matrix_distance p0 p1).run some
noncomputable def i_Matrix_distance_V : Env := ⟨tau, [(98, i_Matrix_sum_c), (126, i_size_int64_c)], []⟩
noncomputable def i_Matrix_distance_b : Code := (Try.f90.body).getD .skip
noncomputable def i_Matrix_distance_I : FnI := ⟨i_Matrix_distance_b, Try.f90.results.toList, Try.f90.resultTypes.toList, []⟩
noncomputable def i_Matrix_distance_out (_zp0 : Bool) (_zp1 : Bool) (_p0 : TMatrix) (_p1 : TMatrix) : Int → CallOut := fun r => ⟨(.imm true (.int .i64) r), [], []⟩
set_option maxRecDepth 100000 in
theorem i_Matrix_distance_eq : ∀ (zp0 : Bool) (zp1 : Bool) (p0 : TMatrix) (p1 : TMatrix), denFn i_Matrix_distance_V i_Matrix_distance_I ⟨[(.imm zp0 kMatrix p0), (.imm zp1 kMatrix p1)], []⟩ = (i_Matrix_distance p0 p1).run fun r => some (i_Matrix_distance_out zp0 zp1 p0 p1 r) := fun _ _ _ _ => by kernel_rfl
noncomputable def i_Matrix_distance_G (av : List AV) (rs : List Root) : Tre CallOut :=
 asCons av fun a0_ av0 =>
 asCons av0 fun a1_ av1 =>
 asEnd av1 <|
 asEnd rs <|
 asImm kMatrix a0_ fun z2 d1 =>
 asImm kMatrix a1_ fun z4 d3 =>
 .mat (i_Matrix_distance_F d1 d3) fun r => .ret (i_Matrix_distance_out z2 z4 d1 d3 r)
noncomputable def i_Matrix_distance_c : Ctr := ⟨[], fun ci => i_Matrix_distance_G ci.args ci.roots, false⟩
theorem i_Matrix_distance_env : EnvOK Try.prog .none i_Matrix_distance_V := (envOK_cons i_Matrix_sum_ok ent98 (envOK_cons i_size_int64_ok ent126 envOK_nil))
set_option maxRecDepth 100000 in
theorem i_Matrix_distance_ok : Contract Try.prog .none 90 i_Matrix_distance_c := by
 have hl : LoopsOK i_Matrix_distance_V [] i_Matrix_distance_b := loopsOK_nil (by kernel_rfl)
 refine (contract_of (F := i_Matrix_distance_I) tau_tys i_Matrix_distance_env Try.func90 (by kernel_rfl) (by kernel_rfl) (by kernel_rfl) hl []).weaken ?_
 rintro ⟨av, rs⟩ co h
 have h : (i_Matrix_distance_G av rs).run some = some co := h
 obtain ⟨a0_, av0, rfl, h_0⟩ := asCons_spec h
 obtain ⟨a1_, av1, rfl, h_1⟩ := asCons_spec h_0
 obtain ⟨rfl, h_2⟩ := asEnd_spec h_1
 obtain ⟨rfl, h_3⟩ := asEnd_spec h_2
 obtain ⟨z2, d1, rfl, h_4⟩ := asImm_spec h_3
 obtain ⟨z4, d3, rfl, h_5⟩ := asImm_spec h_4
 exact fin_mat (i_Matrix_distance_eq z2 z4 d1 d3) h_5
end Go.Proofs.Ythnkanacjhlhhaa

namespace Go.Proofs.Ythnkanacjhlhhaa
open Go Go.Abs Go.Proofs
noncomputable def i_GreedySpacesc1_7dc5 (p0 : TMatrix) (p1 : TMatrix) (p2 : Int) : Tre Bool :=
 .mat (i_Matrix_distance_F p1 p0) fun r1 =>
 .ret (decide (r1 < p2))
noncomputable def i_GreedySpacesc1_7dc5_F (p0 : TMatrix) (p1 : TMatrix) (p2 : Int) : Option Bool := (i_GreedySpacesc1_7dc5 p0 p1 p2).run some
noncomputable def i_GreedySpacesc1_7dc5_V : Env := ⟨tau, [(90, i_Matrix_distance_c)], []⟩
noncomputable def i_GreedySpacesc1_7dc5_b : Code := (Try.f89.body).getD .skip
noncomputable def i_GreedySpacesc1_7dc5_I : FnI := ⟨i_GreedySpacesc1_7dc5_b, Try.f89.results.toList, Try.f89.resultTypes.toList, []⟩
noncomputable def i_GreedySpacesc1_7dc5_out (_zp0 : Bool) (zp1 : Bool) (_p0 : TMatrix) (p1 : TMatrix) (p2 : Int) : Bool → CallOut := fun r => ⟨(.imm true .bool r), [⟨true, kMatrix, (.imm zp1), p1⟩, ⟨true, (.int .i64), .own, p2⟩], []⟩
set_option maxRecDepth 100000 in
theorem i_GreedySpacesc1_7dc5_eq : ∀ (zp0 : Bool) (zp1 : Bool) (p0 : TMatrix) (p1 : TMatrix) (p2 : Int), denFn i_GreedySpacesc1_7dc5_V i_GreedySpacesc1_7dc5_I ⟨[(.imm zp0 kMatrix p0), (.ptr (0, 0) []), (.ptr (0, 1) [])], [⟨true, kMatrix, (.imm zp1), p1⟩, ⟨true, (.int .i64), .own, p2⟩]⟩ = (i_GreedySpacesc1_7dc5 p0 p1 p2).run fun r => some (i_GreedySpacesc1_7dc5_out zp0 zp1 p0 p1 p2 r) := fun _ _ _ _ _ => by kernel_rfl
noncomputable def i_GreedySpacesc1_7dc5_G (av : List AV) (rs : List Root) : Tre CallOut :=
 asCons av fun a0_ av0 =>
 asCons av0 fun a1_ av1 =>
 asCons av1 fun a2_ av2 =>
 asEnd av2 <|
 asCons rs fun r0_ rs0 =>
 asCons rs0 fun r1_ rs1 =>
 asEnd rs1 <|
 asImm kMatrix a0_ fun z2 d1 =>
 asPtr (0, 0) [] a1_ <|
 asPtr (0, 1) [] a2_ <|
 asRt true kMatrix r0_ fun m3 d4 =>
 asMImm m3 fun z5 =>
 asRt true (.int .i64) r1_ fun m6 d7 =>
 asM .own m6 <|
 .mat (i_GreedySpacesc1_7dc5_F d1 d4 d7) fun r => .ret (i_GreedySpacesc1_7dc5_out z2 z5 d1 d4 d7 r)
noncomputable def i_GreedySpacesc1_7dc5_c : Ctr := ⟨[], fun ci => i_GreedySpacesc1_7dc5_G ci.args ci.roots, false⟩
theorem i_GreedySpacesc1_7dc5_env : EnvOK Try.prog .none i_GreedySpacesc1_7dc5_V := (envOK_cons i_Matrix_distance_ok ent90 envOK_nil)
set_option maxRecDepth 100000 in
theorem i_GreedySpacesc1_7dc5_ok : Contract Try.prog .none 89 i_GreedySpacesc1_7dc5_c := by
 have hl : LoopsOK i_GreedySpacesc1_7dc5_V [] i_GreedySpacesc1_7dc5_b := loopsOK_nil (by kernel_rfl)
 refine (contract_of (F := i_GreedySpacesc1_7dc5_I) tau_tys i_GreedySpacesc1_7dc5_env Try.func89 (by kernel_rfl) (by kernel_rfl) (by kernel_rfl) hl []).weaken ?_
 rintro ⟨av, rs⟩ co h
 have h : (i_GreedySpacesc1_7dc5_G av rs).run some = some co := h
 obtain ⟨a0_, av0, rfl, h_0⟩ := asCons_spec h
 obtain ⟨a1_, av1, rfl, h_1⟩ := asCons_spec h_0
 obtain ⟨a2_, av2, rfl, h_2⟩ := asCons_spec h_1
 obtain ⟨rfl, h_3⟩ := asEnd_spec h_2
 obtain ⟨r0_, rs0, rfl, h_4⟩ := asCons_spec h_3
 obtain ⟨r1_, rs1, rfl, h_5⟩ := asCons_spec h_4
 obtain ⟨rfl, h_6⟩ := asEnd_spec h_5
 obtain ⟨z2, d1, rfl, h_7⟩ := asImm_spec h_6
 obtain ⟨rfl, h_8⟩ := asPtr_spec h_7
 obtain ⟨rfl, h_9⟩ := asPtr_spec h_8
 obtain ⟨m3, d4, rfl, h_10⟩ := asRt_spec h_9
 obtain ⟨z5, rfl, h_11⟩ := asMImm_spec h_10
 obtain ⟨m6, d7, rfl, h_12⟩ := asRt_spec h_11
 obtain ⟨rfl, h_13⟩ := asM_spec h_12
 exact fin_mat (i_GreedySpacesc1_7dc5_eq z2 z5 d1 d4 d7) h_13
end Go.Proofs.Ythnkanacjhlhhaa

namespace Go.Proofs.Ythnkanacjhlhhaa
open Go Go.Abs Go.Proofs
noncomputable def nm17_l2 (h2_0_0 : (List TMatrix)) (h2_0_1 : Int) (h2_0_3 : TMatrix) (h2_0_4 : Int) : Int → Tre (Int ⊕ (Int ⊕ Unit)) := fun s2 =>
 .cond (decide (s2 < h2_0_1))
  (.ite (0 ≤ s2 ∧ s2 < (h2_0_0.length : Int)) <|
  .mat (h2_0_0[s2.toNat]?) fun x1 =>
  .mat (i_GreedySpacesc1_7dc5_F x1 h2_0_3 h2_0_4) fun r2 =>
  .cond r2
   (.ret (.inr (.inl s2)))
   (.ret (.inl (iwrap .i64 (s2 + 1)))))
  (.ret (.inr (.inr ())))
noncomputable def nm17 (p0 : (List TMatrix)) (p1 : TMatrix) (p2 : Int) : Tre Int :=
 .mat (loopF (nm17_l2 p0 (p0.length : Int) p1 p2) 0) fun l3 =>
 .alt l3
  (fun a4 =>
   .ret a4)
  (fun _ =>
   .ret (-1))
noncomputable def nm17_F (p0 : (List TMatrix)) (p1 : TMatrix) (p2 : Int) : Option Int := (nm17 p0 p1 p2).run some
noncomputable def nm17_V : Env := ⟨tau, [(89, i_GreedySpacesc1_7dc5_c)], []⟩
noncomputable def nm17_b : Code := (Try.f46.body).getD .skip
noncomputable def nm17_l2_mk (z2_0 : Bool) (z2_1 : Bool) (h2_0_0 : (List TMatrix)) (h2_0_1 : Int) (h2_0_3 : TMatrix) (h2_0_4 : Int) : Int → St := fun x => stOf [(0, (.imm z2_0 (.sl kMatrix) h2_0_0)), (1, (.fn 89 [(0, 0), (0, 1)])), (7, (.imm true (.int .i64) h2_0_1)), (8, (.imm true (.int .i64) x))] [((0, 0), some ⟨true, kMatrix, (.imm z2_1), h2_0_3⟩), ((0, 1), some ⟨true, (.int .i64), .own, h2_0_4⟩)]
noncomputable def nm17_l2_out (_z2_0 : Bool) (z2_1 : Bool) (_h2_0_0 : (List TMatrix)) (_h2_0_1 : Int) (h2_0_3 : TMatrix) (h2_0_4 : Int) : (Int ⊕ Unit) → Ex × St
 | .inl x => (.ret, stOf [(4, (.imm true (.int .i64) x))] [((0, 0), some ⟨true, kMatrix, (.imm z2_1), h2_0_3⟩), ((0, 1), some ⟨true, (.int .i64), .own, h2_0_4⟩)])
 | .inr x => (.exit 0, stOf [(4, .dead)] [((0, 0), some ⟨true, kMatrix, (.imm z2_1), h2_0_3⟩), ((0, 1), some ⟨true, (.int .i64), .own, h2_0_4⟩)])
noncomputable def nm17_l2_D (s : St) : Tre (Ex × St) :=
 asImm (.sl kMatrix) (s.tmps 0) fun z3 d2 =>
 asFn 89 [(0, 0), (0, 1)] (s.tmps 1) <|
 asImmZ true (.int .i64) (s.tmps 7) fun d6 =>
 asImmZ true (.int .i64) (s.tmps 8) fun d8 =>
 asRoot true kMatrix (s.roots (0, 0)) fun m10 d11 =>
 asMImm m10 fun z12 =>
 asRoot true (.int .i64) (s.roots (0, 1)) fun m14 d15 =>
 asM .own m14 <|
 .mat (loopF (nm17_l2 d2 d6 d11 d15) d8) fun x => .alt x (fun a0 => .ret (nm17_l2_out z3 z12 d2 d6 d11 d15 (.inl a0))) (fun b0 => .ret (nm17_l2_out z3 z12 d2 d6 d11 d15 (.inr b0)))
noncomputable def nm17_l2_L : LoopI := ⟨([0, 1, 7, 8], [(0, 0), (0, 1)]), ([4], [(0, 0), (0, 1)]), nm17_l2_D⟩
noncomputable def nm17_A : List (Nat × LoopI) := [(2, nm17_l2_L)]
set_option maxRecDepth 100000 in
theorem nm17_l2_step : ∀ (z2_0 : Bool) (z2_1 : Bool) (h2_0_0 : (List TMatrix)) (h2_0_1 : Int) (h2_0_3 : TMatrix) (h2_0_4 : Int) (x : Int) (c : St → Option (Ex × St)), den nm17_V nm17_A (loopAt nm17_b 0) (nm17_l2_mk z2_0 z2_1 h2_0_0 h2_0_1 h2_0_3 h2_0_4 x) (roundK nm17_l2_L.kp nm17_l2_L.kx c) = (nm17_l2 h2_0_0 h2_0_1 h2_0_3 h2_0_4 x).run (roundR (nm17_l2_mk z2_0 z2_1 h2_0_0 h2_0_1 h2_0_3 h2_0_4) (nm17_l2_out z2_0 z2_1 h2_0_0 h2_0_1 h2_0_3 h2_0_4) c) := fun _ _ _ _ _ _ _ _ => by
 kernel_rfl
theorem nm17_l2_ok : LoopOK nm17_V nm17_A (loopAt nm17_b 0) nm17_l2_L := loopOK_of fun s e s' h => by
 generalize hs : restrict nm17_l2_L.kp s = s1 at h
 have h : (nm17_l2_D s1).run some = some (e, s') := h
 obtain ⟨z3, d2, e1, h_0⟩ := asImm_spec h
 obtain ⟨e4, h_1⟩ := asFn_spec h_0
 obtain ⟨d6, e5, h_2⟩ := asImmZ_spec h_1
 obtain ⟨d8, e7, h_3⟩ := asImmZ_spec h_2
 obtain ⟨m10, d11, e9, h_4⟩ := asRoot_spec h_3
 obtain ⟨z12, rfl, h_5⟩ := asMImm_spec h_4
 obtain ⟨m14, d15, e13, h_6⟩ := asRoot_spec h_5
 obtain ⟨rfl, h_7⟩ := asM_spec h_6
 obtain ⟨y, hy, hz⟩ := mat_some h_7
 refine ⟨_, _, nm17_l2_mk z3 z12 d2 d6 d11 d15, nm17_l2_out z3 z12 d2 d6 d11 d15, nm17_l2 d2 d6 d11 d15, d8, y, ?_, hy, ?_, nm17_l2_step z3 z12 d2 d6 d11 d15⟩
 ·subst hs; exact restrict_eq (T := [(0, (.imm z3 (.sl kMatrix) d2)), (1, (.fn 89 [(0, 0), (0, 1)])), (7, (.imm true (.int .i64) d6)), (8, (.imm true (.int .i64) d8))]) (U := [((0, 0), some ⟨true, kMatrix, (.imm z12), d11⟩), ((0, 1), some ⟨true, (.int .i64), .own, d15⟩)]) rfl rfl ⟨e1, e4, e5, e7, trivial⟩ ⟨e9, e13, trivial⟩
 ·rcases y with x | x <;> exact Option.some.inj hz
noncomputable def nm17_I : FnI := ⟨nm17_b, Try.f46.results.toList, Try.f46.resultTypes.toList, nm17_A⟩
noncomputable def nm17_out (_zp0 : Bool) (zp1 : Bool) (_p0 : (List TMatrix)) (p1 : TMatrix) (p2 : Int) : Int → CallOut := fun r => ⟨(.imm true (.int .i64) r), [⟨true, kMatrix, (.imm zp1), p1⟩, ⟨true, (.int .i64), .own, p2⟩], []⟩
set_option maxRecDepth 100000 in
theorem nm17_eq : ∀ (zp0 : Bool) (zp1 : Bool) (p0 : (List TMatrix)) (p1 : TMatrix) (p2 : Int), denFn nm17_V nm17_I ⟨[(.imm zp0 (.sl kMatrix) p0), (.fn 89 [(0, 0), (0, 1)])], [⟨true, kMatrix, (.imm zp1), p1⟩, ⟨true, (.int .i64), .own, p2⟩]⟩ = (nm17 p0 p1 p2).run fun r => some (nm17_out zp0 zp1 p0 p1 p2 r) := fun _ _ _ _ _ => by kernel_rfl
noncomputable def nm17_G (av : List AV) (rs : List Root) : Tre CallOut :=
 asCons av fun a0_ av0 =>
 asCons av0 fun a1_ av1 =>
 asEnd av1 <|
 asCons rs fun r0_ rs0 =>
 asCons rs0 fun r1_ rs1 =>
 asEnd rs1 <|
 asImm (.sl kMatrix) a0_ fun z2 d1 =>
 asFn 89 [(0, 0), (0, 1)] a1_ <|
 asRt true kMatrix r0_ fun m3 d4 =>
 asMImm m3 fun z5 =>
 asRt true (.int .i64) r1_ fun m6 d7 =>
 asM .own m6 <|
 .mat (nm17_F d1 d4 d7) fun r => .ret (nm17_out z2 z5 d1 d4 d7 r)
noncomputable def nm17_c : Ctr := ⟨[], fun ci => nm17_G ci.args ci.roots, false⟩
theorem nm17_env : EnvOK Try.prog .none nm17_V := (envOK_cons i_GreedySpacesc1_7dc5_ok ent89 envOK_nil)
set_option maxRecDepth 100000 in
theorem nm17_ok : Contract Try.prog .none 46 nm17_c := by
 have hl : LoopsOK nm17_V nm17_A nm17_b := (loopsOK_all (n := 1) (by kernel_rfl) fun k hk => by
   match k, hk with
   | 0, _ => exact loopOK_at (id := 2) (L := nm17_l2_L) (by kernel_rfl) (by kernel_rfl) nm17_l2_ok)
 refine (contract_of (F := nm17_I) tau_tys nm17_env Try.func46 (by kernel_rfl) (by kernel_rfl) (by kernel_rfl) hl []).weaken ?_
 rintro ⟨av, rs⟩ co h
 have h : (nm17_G av rs).run some = some co := h
 obtain ⟨a0_, av0, rfl, h_0⟩ := asCons_spec h
 obtain ⟨a1_, av1, rfl, h_1⟩ := asCons_spec h_0
 obtain ⟨rfl, h_2⟩ := asEnd_spec h_1
 obtain ⟨r0_, rs0, rfl, h_3⟩ := asCons_spec h_2
 obtain ⟨r1_, rs1, rfl, h_4⟩ := asCons_spec h_3
 obtain ⟨rfl, h_5⟩ := asEnd_spec h_4
 obtain ⟨z2, d1, rfl, h_6⟩ := asImm_spec h_5
 obtain ⟨rfl, h_7⟩ := asFn_spec h_6
 obtain ⟨m3, d4, rfl, h_8⟩ := asRt_spec h_7
 obtain ⟨z5, rfl, h_9⟩ := asMImm_spec h_8
 obtain ⟨m6, d7, rfl, h_10⟩ := asRt_spec h_9
 obtain ⟨rfl, h_11⟩ := asM_spec h_10
 exact fin_mat (nm17_eq z2 z5 d1 d4 d7) h_11
end Go.Proofs.Ythnkanacjhlhhaa

namespace Go.Proofs.Ythnkanacjhlhhaa
open Go Go.Abs Go.Proofs
noncomputable def nm13 (p0 : (List TMatrix)) (p1 : TMatrix) (p2 : Int) : Tre Bool :=
 .mat (nm17_F p0 p1 p2) fun r1 =>
 .ret (decide (r1 ≥ 0))
noncomputable def nm13_F (p0 : (List TMatrix)) (p1 : TMatrix) (p2 : Int) : Option Bool := (nm13 p0 p1 p2).run some
noncomputable def nm13_V : Env := ⟨tau, [(46, nm17_c)], []⟩
noncomputable def nm13_b : Code := (Try.f88.body).getD .skip
noncomputable def nm13_I : FnI := ⟨nm13_b, Try.f88.results.toList, Try.f88.resultTypes.toList, []⟩
noncomputable def nm13_out (_zp0 : Bool) (zp1 : Bool) (_p0 : (List TMatrix)) (p1 : TMatrix) (p2 : Int) : Bool → CallOut := fun r => ⟨(.imm true .bool r), [⟨true, kMatrix, (.imm zp1), p1⟩, ⟨true, (.int .i64), .own, p2⟩], []⟩
set_option maxRecDepth 100000 in
theorem nm13_eq : ∀ (zp0 : Bool) (zp1 : Bool) (p0 : (List TMatrix)) (p1 : TMatrix) (p2 : Int), denFn nm13_V nm13_I ⟨[(.imm zp0 (.sl kMatrix) p0), (.fn 89 [(0, 0), (0, 1)])], [⟨true, kMatrix, (.imm zp1), p1⟩, ⟨true, (.int .i64), .own, p2⟩]⟩ = (nm13 p0 p1 p2).run fun r => some (nm13_out zp0 zp1 p0 p1 p2 r) := fun _ _ _ _ _ => by kernel_rfl
noncomputable def nm13_G (av : List AV) (rs : List Root) : Tre CallOut :=
 asCons av fun a0_ av0 =>
 asCons av0 fun a1_ av1 =>
 asEnd av1 <|
 asCons rs fun r0_ rs0 =>
 asCons rs0 fun r1_ rs1 =>
 asEnd rs1 <|
 asImm (.sl kMatrix) a0_ fun z2 d1 =>
 asFn 89 [(0, 0), (0, 1)] a1_ <|
 asRt true kMatrix r0_ fun m3 d4 =>
 asMImm m3 fun z5 =>
 asRt true (.int .i64) r1_ fun m6 d7 =>
 asM .own m6 <|
 .mat (nm13_F d1 d4 d7) fun r => .ret (nm13_out z2 z5 d1 d4 d7 r)
noncomputable def nm13_c : Ctr := ⟨[], fun ci => nm13_G ci.args ci.roots, false⟩
theorem nm13_env : EnvOK Try.prog .none nm13_V := (envOK_cons nm17_ok ent46 envOK_nil)
set_option maxRecDepth 100000 in
theorem nm13_ok : Contract Try.prog .none 88 nm13_c := by
 have hl : LoopsOK nm13_V [] nm13_b := loopsOK_nil (by kernel_rfl)
 refine (contract_of (F := nm13_I) tau_tys nm13_env Try.func88 (by kernel_rfl) (by kernel_rfl) (by kernel_rfl) hl []).weaken ?_
 rintro ⟨av, rs⟩ co h
 have h : (nm13_G av rs).run some = some co := h
 obtain ⟨a0_, av0, rfl, h_0⟩ := asCons_spec h
 obtain ⟨a1_, av1, rfl, h_1⟩ := asCons_spec h_0
 obtain ⟨rfl, h_2⟩ := asEnd_spec h_1
 obtain ⟨r0_, rs0, rfl, h_3⟩ := asCons_spec h_2
 obtain ⟨r1_, rs1, rfl, h_4⟩ := asCons_spec h_3
 obtain ⟨rfl, h_5⟩ := asEnd_spec h_4
 obtain ⟨z2, d1, rfl, h_6⟩ := asImm_spec h_5
 obtain ⟨rfl, h_7⟩ := asFn_spec h_6
 obtain ⟨m3, d4, rfl, h_8⟩ := asRt_spec h_7
 obtain ⟨z5, rfl, h_9⟩ := asMImm_spec h_8
 obtain ⟨m6, d7, rfl, h_10⟩ := asRt_spec h_9
 obtain ⟨rfl, h_11⟩ := asM_spec h_10
 exact fin_mat (nm13_eq z2 z5 d1 d4 d7) h_11
end Go.Proofs.Ythnkanacjhlhhaa

namespace Go.Proofs.Ythnkanacjhlhhaa
open Go Go.Abs Go.Proofs
noncomputable def i_GreedySpaces_l9 (h9_0_0 : Int) (h9_0_2 : Int) (h9_0_4 : (List TMatrix)) : (Int × (List TMatrix)) → Tre ((Int × (List TMatrix)) ⊕ (List TMatrix)) := fun s9 =>
 .cond (decide (s9.1 < h9_0_0))
  (.ite (0 ≤ s9.1 ∧ s9.1 < (h9_0_4.length : Int)) <|
  .mat (h9_0_4[s9.1.toNat]?) fun x5 =>
  .mat (nm13_F s9.2 x5 h9_0_2) fun r6 =>
  .cond (!r6)
   (.ite ((s9.2.length + 1) * 32 ≤ appendMax ∧ 1 ≤ 32) <|
   .ret (.inl (iwrap .i64 (s9.1 + 1), s9.2 ++ ([x5]))))
   (.ret (.inl (iwrap .i64 (s9.1 + 1), s9.2))))
  (.ret (.inr s9.2))
noncomputable def i_GreedySpaces (p0 : Int) (p1 : Int) (p2 : Int) : Tre ((Int × (List TMatrix)) ⊕ (Int × (List TMatrix))) :=
 let v1 := i_distanceCode_S p0 p1 p2
 .cond (!decide (v1 = 0))
  (.ret (.inl (v1, [])))
  (.mat (i_SpacesOf_F p0 p1) fun r2 =>
  .alt r2
   (fun a3 =>
    .cond (!decide (a3.1 = 0))
     (.ret (.inl (a3.1, [])))
     (.mat (loopF (i_GreedySpaces_l9 (a3.2.length : Int) p2 a3.2) (0, [])) fun l7 =>
     .ret (.inr (0, l7))))
   (fun b4 =>
    .cond (!decide (b4.1 = 0))
     (.ret (.inl (b4.1, [])))
     (.mat (loopF (i_GreedySpaces_l9 (b4.2.length : Int) p2 b4.2) (0, [])) fun l8 =>
     .ret (.inr (0, l8)))))
noncomputable def i_GreedySpaces_F (p0 : Int) (p1 : Int) (p2 : Int) : Option ((Int × (List TMatrix)) ⊕ (Int × (List TMatrix))) := (i_GreedySpaces p0 p1 p2).run some
noncomputable def i_GreedySpaces_V : Env := ⟨tau, [(87, i_distanceCode_c), (18, i_SpacesOf_c), (88, nm13_c)], [(8, [((11, 0), [], true), ((13, 0), [], true)])]⟩
noncomputable def i_GreedySpaces_b : Code := (Try.f30.body).getD .skip
noncomputable def i_GreedySpaces_l9_mk (h9_0_0 : Int) (h9_0_2 : Int) (h9_0_4 : (List TMatrix)) : (Int × (List TMatrix)) → St := fun x => stOf [(5, (.ptr (7, 0) [])), (11, (.ref (13, 0) [])), (31, (.ref (11, 0) [])), (32, (.imm true (.int .i64) h9_0_0)), (33, (.imm true (.int .i64) x.1))] [((7, 0), some ⟨true, (.int .i64), .own, h9_0_2⟩), ((13, 0), some ⟨false, (.sl kMatrix), (.sl (.imm true)), x.2⟩), ((11, 0), some ⟨false, (.sl kMatrix), (.sl (.imm true)), h9_0_4⟩)]
noncomputable def i_GreedySpaces_l9_out (_h9_0_0 : Int) (_h9_0_2 : Int) (_h9_0_4 : (List TMatrix)) : (List TMatrix) → Ex × St := fun x => (.exit 0, stOf [(11, (.ref (13, 0) []))] [((13, 0), some ⟨false, (.sl kMatrix), (.sl (.imm true)), x⟩)])
noncomputable def i_GreedySpaces_l9_D (s : St) : Tre (Ex × St) :=
 asPtr (7, 0) [] (s.tmps 5) <|
 asRef (13, 0) [] (s.tmps 11) <|
 asRef (11, 0) [] (s.tmps 31) <|
 asImmZ true (.int .i64) (s.tmps 32) fun d5 =>
 asImmZ true (.int .i64) (s.tmps 33) fun d7 =>
 asRoot true (.int .i64) (s.roots (7, 0)) fun m9 d10 =>
 asM .own m9 <|
 asRoot false (.sl kMatrix) (s.roots (13, 0)) fun m12 d13 =>
 asM (.sl (.imm true)) m12 <|
 asRoot false (.sl kMatrix) (s.roots (11, 0)) fun m15 d16 =>
 asM (.sl (.imm true)) m15 <|
 .mat (loopF (i_GreedySpaces_l9 d5 d10 d16) (d7, d13)) fun x => .ret (i_GreedySpaces_l9_out d5 d10 d16 x)
noncomputable def i_GreedySpaces_l9_L : LoopI := ⟨([5, 11, 31, 32, 33], [(7, 0), (13, 0), (11, 0)]), ([11], [(13, 0)]), i_GreedySpaces_l9_D⟩
noncomputable def i_GreedySpaces_A : List (Nat × LoopI) := [(9, i_GreedySpaces_l9_L)]
set_option maxRecDepth 100000 in
theorem i_GreedySpaces_l9_step : ∀ (h9_0_0 : Int) (h9_0_2 : Int) (h9_0_4 : (List TMatrix)) (x : (Int × (List TMatrix))) (c : St → Option (Ex × St)), den i_GreedySpaces_V i_GreedySpaces_A (loopAt i_GreedySpaces_b 0) (i_GreedySpaces_l9_mk h9_0_0 h9_0_2 h9_0_4 x) (roundK i_GreedySpaces_l9_L.kp i_GreedySpaces_l9_L.kx c) = (i_GreedySpaces_l9 h9_0_0 h9_0_2 h9_0_4 x).run (roundR (i_GreedySpaces_l9_mk h9_0_0 h9_0_2 h9_0_4) (i_GreedySpaces_l9_out h9_0_0 h9_0_2 h9_0_4) c) := fun _ _ _ _ _ => by
 kernel_rfl
theorem i_GreedySpaces_l9_ok : LoopOK i_GreedySpaces_V i_GreedySpaces_A (loopAt i_GreedySpaces_b 0) i_GreedySpaces_l9_L := loopOK_of fun s e s' h => by
 generalize hs : restrict i_GreedySpaces_l9_L.kp s = s1 at h
 have h : (i_GreedySpaces_l9_D s1).run some = some (e, s') := h
 obtain ⟨e1, h_0⟩ := asPtr_spec h
 obtain ⟨e2, h_1⟩ := asRef_spec h_0
 obtain ⟨e3, h_2⟩ := asRef_spec h_1
 obtain ⟨d5, e4, h_3⟩ := asImmZ_spec h_2
 obtain ⟨d7, e6, h_4⟩ := asImmZ_spec h_3
 obtain ⟨m9, d10, e8, h_5⟩ := asRoot_spec h_4
 obtain ⟨rfl, h_6⟩ := asM_spec h_5
 obtain ⟨m12, d13, e11, h_7⟩ := asRoot_spec h_6
 obtain ⟨rfl, h_8⟩ := asM_spec h_7
 obtain ⟨m15, d16, e14, h_9⟩ := asRoot_spec h_8
 obtain ⟨rfl, h_10⟩ := asM_spec h_9
 obtain ⟨y, hy, hz⟩ := mat_ret h_10
 refine ⟨_, _, i_GreedySpaces_l9_mk d5 d10 d16, i_GreedySpaces_l9_out d5 d10 d16, i_GreedySpaces_l9 d5 d10 d16, (d7, d13), y, ?_, hy, ?_, i_GreedySpaces_l9_step d5 d10 d16⟩
 ·subst hs; exact restrict_eq (T := [(5, (.ptr (7, 0) [])), (11, (.ref (13, 0) [])), (31, (.ref (11, 0) [])), (32, (.imm true (.int .i64) d5)), (33, (.imm true (.int .i64) d7))]) (U := [((7, 0), some ⟨true, (.int .i64), .own, d10⟩), ((13, 0), some ⟨false, (.sl kMatrix), (.sl (.imm true)), d13⟩), ((11, 0), some ⟨false, (.sl kMatrix), (.sl (.imm true)), d16⟩)]) rfl rfl ⟨e1, e2, e3, e4, e6, trivial⟩ ⟨e8, e11, e14, trivial⟩
 ·exact Option.some.inj hz
noncomputable def i_GreedySpaces_I : FnI := ⟨i_GreedySpaces_b, Try.f30.results.toList, Try.f30.resultTypes.toList, i_GreedySpaces_A⟩
noncomputable def i_GreedySpaces_out (_p0 : Int) (_p1 : Int) (_p2 : Int) : ((Int × (List TMatrix)) ⊕ (Int × (List TMatrix))) → CallOut
 | .inl r => ⟨(.tcons (.ref (1, 0) []) (.tcons (.imm true (.int .i64) r.1) .tnil)), [], [⟨false, (.sl kMatrix), .own, r.2⟩]⟩
 | .inr r => ⟨(.tcons (.ref (1, 0) []) (.tcons (.imm true (.int .i64) r.1) .tnil)), [], [⟨false, (.sl kMatrix), (.sl (.imm true)), r.2⟩]⟩
set_option maxRecDepth 100000 in
theorem i_GreedySpaces_eq : ∀ (p0 : Int) (p1 : Int) (p2 : Int), denFn i_GreedySpaces_V i_GreedySpaces_I ⟨[(.imm true (.int .i64) p0), (.imm true (.int .i64) p1), (.imm true (.int .i64) p2)], []⟩ = (i_GreedySpaces p0 p1 p2).run fun r => some (i_GreedySpaces_out p0 p1 p2 r) := fun _ _ _ => by kernel_rfl
noncomputable def i_GreedySpaces_G (av : List AV) (rs : List Root) : Tre CallOut :=
 asCons av fun a0_ av0 =>
 asCons av0 fun a1_ av1 =>
 asCons av1 fun a2_ av2 =>
 asEnd av2 <|
 asEnd rs <|
 asImmZ true (.int .i64) a0_ fun d1 =>
 asImmZ true (.int .i64) a1_ fun d2 =>
 asImmZ true (.int .i64) a2_ fun d3 =>
 .mat (i_GreedySpaces_F d1 d2 d3) fun r => .alt r (fun a0 => .ret (i_GreedySpaces_out d1 d2 d3 (.inl a0))) (fun b0 => .ret (i_GreedySpaces_out d1 d2 d3 (.inr b0)))
noncomputable def i_GreedySpaces_c : Ctr := ⟨[], fun ci => i_GreedySpaces_G ci.args ci.roots, false⟩
theorem i_GreedySpaces_env : EnvOK Try.prog .none i_GreedySpaces_V := (envOK_cons i_distanceCode_ok ent87 (envOK_cons i_SpacesOf_ok ent18 (envOK_cons nm13_ok ent88 envOK_nil)))
set_option maxRecDepth 100000 in
theorem i_GreedySpaces_ok : Contract Try.prog .none 30 i_GreedySpaces_c := by
 have hl : LoopsOK i_GreedySpaces_V i_GreedySpaces_A i_GreedySpaces_b := (loopsOK_all (n := 1) (by kernel_rfl) fun k hk => by
   match k, hk with
   | 0, _ => exact loopOK_at (id := 9) (L := i_GreedySpaces_l9_L) (by kernel_rfl) (by kernel_rfl) i_GreedySpaces_l9_ok)
 refine (contract_of (F := i_GreedySpaces_I) tau_tys i_GreedySpaces_env Try.func30 (by kernel_rfl) (by kernel_rfl) (by kernel_rfl) hl []).weaken ?_
 rintro ⟨av, rs⟩ co h
 have h : (i_GreedySpaces_G av rs).run some = some co := h
 obtain ⟨a0_, av0, rfl, h_0⟩ := asCons_spec h
 obtain ⟨a1_, av1, rfl, h_1⟩ := asCons_spec h_0
 obtain ⟨a2_, av2, rfl, h_2⟩ := asCons_spec h_1
 obtain ⟨rfl, h_3⟩ := asEnd_spec h_2
 obtain ⟨rfl, h_4⟩ := asEnd_spec h_3
 obtain ⟨d1, rfl, h_5⟩ := asImmZ_spec h_4
 obtain ⟨d2, rfl, h_6⟩ := asImmZ_spec h_5
 obtain ⟨d3, rfl, h_7⟩ := asImmZ_spec h_6
 exact fin_mats (i_GreedySpaces_eq d1 d2 d3) h_7 (by rintro (x | x) <;> rfl)
end Go.Proofs.Ythnkanacjhlhhaa

namespace Go.Proofs.Ythnkanacjhlhhaa
open Go Go.Abs Go.Proofs
noncomputable def s_l06Side (p0 : Int) (p1 : Int) : Tre Bool :=
 .cond (s_l00In_S p0 1 10)
  (.ret (s_l00In_S p1 0 p0))
  (.ret false)
noncomputable def s_l06Side_F (p0 : Int) (p1 : Int) : Option Bool := (s_l06Side p0 p1).run some
def s_l06Side_S (p0 : Int) (p1 : Int) : Bool :=
 cond (s_l00In_S p0 1 10)
  ((s_l00In_S p1 0 p0))
  (false)
theorem s_l06Side_spec (p0 : Int) (p1 : Int) : s_l06Side_F p0 p1 = some (s_l06Side_S p0 p1) := (run_cond_some rfl rfl)
noncomputable def s_l06Side_V : Env := ⟨tau, [(40, s_l00In_c)], []⟩
noncomputable def s_l06Side_b : Code := (Try.f137.body).getD .skip
noncomputable def s_l06Side_I : FnI := ⟨s_l06Side_b, Try.f137.results.toList, Try.f137.resultTypes.toList, []⟩
noncomputable def s_l06Side_out (_p0 : Int) (_p1 : Int) : Bool → CallOut := fun r => ⟨(.imm true .bool r), [], []⟩
set_option maxRecDepth 100000 in
theorem s_l06Side_eq : ∀ (p0 : Int) (p1 : Int), denFn s_l06Side_V s_l06Side_I ⟨[(.imm true (.int .i64) p0), (.imm true (.int .i64) p1)], []⟩ = (s_l06Side p0 p1).run fun r => some (s_l06Side_out p0 p1 r) := fun _ _ => by kernel_rfl
noncomputable def s_l06Side_G (av : List AV) (rs : List Root) : Tre CallOut :=
 asCons av fun a0_ av0 =>
 asCons av0 fun a1_ av1 =>
 asEnd av1 <|
 asEnd rs <|
 asImmZ true (.int .i64) a0_ fun d1 =>
 asImmZ true (.int .i64) a1_ fun d2 =>
 .ret (s_l06Side_out d1 d2 (s_l06Side_S d1 d2))
noncomputable def s_l06Side_c : Ctr := ⟨[], fun ci => s_l06Side_G ci.args ci.roots, false⟩
theorem s_l06Side_env : EnvOK Try.prog .none s_l06Side_V := (envOK_cons s_l00In_ok ent40 envOK_nil)
set_option maxRecDepth 100000 in
theorem s_l06Side_ok : Contract Try.prog .none 137 s_l06Side_c := by
 have hl : LoopsOK s_l06Side_V [] s_l06Side_b := loopsOK_nil (by kernel_rfl)
 refine (contract_of (F := s_l06Side_I) tau_tys s_l06Side_env Try.func137 (by kernel_rfl) (by kernel_rfl) (by kernel_rfl) hl []).weaken ?_
 rintro ⟨av, rs⟩ co h
 have h : (s_l06Side_G av rs).run some = some co := h
 obtain ⟨a0_, av0, rfl, h_0⟩ := asCons_spec h
 obtain ⟨a1_, av1, rfl, h_1⟩ := asCons_spec h_0
 obtain ⟨rfl, h_2⟩ := asEnd_spec h_1
 obtain ⟨rfl, h_3⟩ := asEnd_spec h_2
 obtain ⟨d1, rfl, h_4⟩ := asImmZ_spec h_3
 obtain ⟨d2, rfl, h_5⟩ := asImmZ_spec h_4
 exact fin_ret (s_l06Side_eq d1 d2) (s_l06Side_spec d1 d2) h_5
end Go.Proofs.Ythnkanacjhlhhaa

namespace Go.Proofs.Ythnkanacjhlhhaa
open Go Go.Abs Go.Proofs
noncomputable def s_l06Distance (p0 : Int) (p1 : Int) (p2 : Int) : Tre Bool :=
 .cond (s_l06Side_S p0 p1)
  (let v1 := s_l00In_S p2 2 (iwrap .i64 (2 * p1))
  .cond v1
   (.ret (decide (Int.tmod p2 2 = 0)))
   (.ret false))
  (.ret false)
noncomputable def s_l06Distance_F (p0 : Int) (p1 : Int) (p2 : Int) : Option Bool := (s_l06Distance p0 p1 p2).run some
def s_l06Distance_S (p0 : Int) (p1 : Int) (p2 : Int) : Bool :=
 cond (s_l06Side_S p0 p1)
  (let v1 := s_l00In_S p2 2 (iwrap .i64 (2 * p1))
  cond v1
   (decide (Int.tmod p2 2 = 0))
   (false))
  (false)
theorem s_l06Distance_spec (p0 : Int) (p1 : Int) (p2 : Int) : s_l06Distance_F p0 p1 p2 = some (s_l06Distance_S p0 p1 p2) := (run_cond_some (run_cond_some rfl rfl) rfl)
noncomputable def s_l06Distance_V : Env := ⟨tau, [(137, s_l06Side_c), (40, s_l00In_c)], []⟩
noncomputable def s_l06Distance_b : Code := (Try.f91.body).getD .skip
noncomputable def s_l06Distance_I : FnI := ⟨s_l06Distance_b, Try.f91.results.toList, Try.f91.resultTypes.toList, []⟩
noncomputable def s_l06Distance_out (_p0 : Int) (_p1 : Int) (_p2 : Int) : Bool → CallOut := fun r => ⟨(.imm true .bool r), [], []⟩
set_option maxRecDepth 100000 in
theorem s_l06Distance_eq : ∀ (p0 : Int) (p1 : Int) (p2 : Int), denFn s_l06Distance_V s_l06Distance_I ⟨[(.imm true (.int .i64) p0), (.imm true (.int .i64) p1), (.imm true (.int .i64) p2)], []⟩ = (s_l06Distance p0 p1 p2).run fun r => some (s_l06Distance_out p0 p1 p2 r) := fun _ _ _ => by kernel_rfl
noncomputable def s_l06Distance_G (av : List AV) (rs : List Root) : Tre CallOut :=
 asCons av fun a0_ av0 =>
 asCons av0 fun a1_ av1 =>
 asCons av1 fun a2_ av2 =>
 asEnd av2 <|
 asEnd rs <|
 asImmZ true (.int .i64) a0_ fun d1 =>
 asImmZ true (.int .i64) a1_ fun d2 =>
 asImmZ true (.int .i64) a2_ fun d3 =>
 .ret (s_l06Distance_out d1 d2 d3 (s_l06Distance_S d1 d2 d3))
noncomputable def s_l06Distance_c : Ctr := ⟨[], fun ci => s_l06Distance_G ci.args ci.roots, false⟩
theorem s_l06Distance_env : EnvOK Try.prog .none s_l06Distance_V := (envOK_cons s_l06Side_ok ent137 (envOK_cons s_l00In_ok ent40 envOK_nil))
set_option maxRecDepth 100000 in
theorem s_l06Distance_ok : Contract Try.prog .none 91 s_l06Distance_c := by
 have hl : LoopsOK s_l06Distance_V [] s_l06Distance_b := loopsOK_nil (by kernel_rfl)
 refine (contract_of (F := s_l06Distance_I) tau_tys s_l06Distance_env Try.func91 (by kernel_rfl) (by kernel_rfl) (by kernel_rfl) hl []).weaken ?_
 rintro ⟨av, rs⟩ co h
 have h : (s_l06Distance_G av rs).run some = some co := h
 obtain ⟨a0_, av0, rfl, h_0⟩ := asCons_spec h
 obtain ⟨a1_, av1, rfl, h_1⟩ := asCons_spec h_0
 obtain ⟨a2_, av2, rfl, h_2⟩ := asCons_spec h_1
 obtain ⟨rfl, h_3⟩ := asEnd_spec h_2
 obtain ⟨rfl, h_4⟩ := asEnd_spec h_3
 obtain ⟨d1, rfl, h_5⟩ := asImmZ_spec h_4
 obtain ⟨d2, rfl, h_6⟩ := asImmZ_spec h_5
 obtain ⟨d3, rfl, h_7⟩ := asImmZ_spec h_6
 exact fin_ret (s_l06Distance_eq d1 d2 d3) (s_l06Distance_spec d1 d2 d3) h_7
end Go.Proofs.Ythnkanacjhlhhaa

namespace Go.Proofs.Ythnkanacjhlhhaa
open Go Go.Abs Go.Proofs
noncomputable def s_GreedySpaces_l12 (h12_0_0 : Int) (h12_0_1 : Int) (h12_0_4 : (List TMatrix)) (h12_0_5 : (List TMatrix)) : (Bool × Int) → Tre ((Bool × Int) ⊕ Bool) := fun s12 =>
 .cond (decide (s12.2 < (h12_0_5.length : Int)))
  (.cond s12.1
   (.ite (0 ≤ h12_0_1 ∧ h12_0_1 < (h12_0_4.length : Int)) <|
   .ite (0 ≤ s12.2 ∧ s12.2 < (h12_0_5.length : Int)) <|
   .mat (h12_0_4[h12_0_1.toNat]?) fun x4 =>
   .mat (h12_0_5[s12.2.toNat]?) fun x5 =>
   .mat (s_l02Distance_2e37_F x4 x5) fun r6 =>
   .ret (.inl (decide (r6 ≥ h12_0_0), iwrap .i64 (s12.2 + 1))))
   (.ret (.inr s12.1)))
  (.ret (.inr s12.1))
noncomputable def s_GreedySpaces_l8 (h8_0_0 : Int) (h8_0_2 : (List TMatrix)) : (Int × (List TMatrix)) → Tre ((Int × (List TMatrix)) ⊕ (List TMatrix)) := fun s8 =>
 .cond (decide (s8.1 < (h8_0_2.length : Int)))
  (.mat (loopF (s_GreedySpaces_l12 h8_0_0 s8.1 h8_0_2 s8.2) (true, 0)) fun l7 =>
  .cond l7
   (.ite (0 ≤ s8.1 ∧ s8.1 < (h8_0_2.length : Int)) <|
   .mat (h8_0_2[s8.1.toNat]?) fun x8 =>
   .ite ((s8.2.length + 1) * 32 ≤ appendMax ∧ 1 ≤ 32) <|
   .ret (.inl (iwrap .i64 (s8.1 + 1), s8.2 ++ ([x8]))))
   (.ret (.inl (iwrap .i64 (s8.1 + 1), s8.2))))
  (.ret (.inr s8.2))
noncomputable def s_GreedySpaces (p0 : Int) (p1 : Int) (p2 : Int) : Tre ((Int × (List TMatrix)) ⊕ (Int × (List TMatrix))) :=
 .cond (!(s_l06Distance_S p0 p1 p2))
  (.ret (.inl (2, [])))
  (.mat (s_SpacesOf_F p0 p1) fun r1 =>
  .alt r1
   (fun a2 =>
    .cond (!decide (a2.1 = 0))
     (.ret (.inl (a2.1, [])))
     (.mat (loopF (s_GreedySpaces_l8 p2 a2.2) (0, [])) fun l9 =>
     .ret (.inr (0, l9))))
   (fun b3 =>
    .cond (!decide (b3.1 = 0))
     (.ret (.inl (b3.1, [])))
     (.mat (loopF (s_GreedySpaces_l8 p2 b3.2) (0, [])) fun l10 =>
     .ret (.inr (0, l10)))))
noncomputable def s_GreedySpaces_F (p0 : Int) (p1 : Int) (p2 : Int) : Option ((Int × (List TMatrix)) ⊕ (Int × (List TMatrix))) := (s_GreedySpaces p0 p1 p2).run some
noncomputable def s_GreedySpaces_V : Env := ⟨tau, [(91, s_l06Distance_c), (27, s_SpacesOf_c), (86, s_l02Distance_2e37_c)], [(7, [((10, 0), [], true), ((12, 0), [], true)])]⟩
noncomputable def s_GreedySpaces_b : Code := (Try.f31.body).getD .skip
noncomputable def s_GreedySpaces_l12_mk (h12_0_0 : Int) (h12_0_1 : Int) (h12_0_4 : (List TMatrix)) (h12_0_5 : (List TMatrix)) : (Bool × Int) → St := fun x => stOf [(2, (.imm true (.int .i64) h12_0_0)), (8, (.ref (10, 0) [])), (10, (.ref (12, 0) [])), (11, (.imm true (.int .i64) h12_0_1)), (12, (.imm true .bool x.1)), (13, (.imm true (.int .i64) x.2))] [((10, 0), some ⟨false, (.sl kMatrix), (.sl (.imm true)), h12_0_4⟩), ((12, 0), some ⟨false, (.sl kMatrix), (.sl (.imm true)), h12_0_5⟩)]
noncomputable def s_GreedySpaces_l12_out (h12_0_0 : Int) (h12_0_1 : Int) (h12_0_4 : (List TMatrix)) (h12_0_5 : (List TMatrix)) : Bool → Ex × St := fun x => (.exit 2, stOf [(2, (.imm true (.int .i64) h12_0_0)), (8, (.ref (10, 0) [])), (10, (.ref (12, 0) [])), (11, (.imm true (.int .i64) h12_0_1)), (12, (.imm true .bool x))] [((10, 0), some ⟨false, (.sl kMatrix), (.sl (.imm true)), h12_0_4⟩), ((12, 0), some ⟨false, (.sl kMatrix), (.sl (.imm true)), h12_0_5⟩)])
noncomputable def s_GreedySpaces_l12_D (s : St) : Tre (Ex × St) :=
 asImmZ true (.int .i64) (s.tmps 2) fun d2 =>
 asRef (10, 0) [] (s.tmps 8) <|
 asRef (12, 0) [] (s.tmps 10) <|
 asImmZ true (.int .i64) (s.tmps 11) fun d6 =>
 asImmZ true .bool (s.tmps 12) fun d8 =>
 asImmZ true (.int .i64) (s.tmps 13) fun d10 =>
 asRoot false (.sl kMatrix) (s.roots (10, 0)) fun m12 d13 =>
 asM (.sl (.imm true)) m12 <|
 asRoot false (.sl kMatrix) (s.roots (12, 0)) fun m15 d16 =>
 asM (.sl (.imm true)) m15 <|
 .mat (loopF (s_GreedySpaces_l12 d2 d6 d13 d16) (d8, d10)) fun x => .ret (s_GreedySpaces_l12_out d2 d6 d13 d16 x)
noncomputable def s_GreedySpaces_l12_L : LoopI := ⟨([2, 8, 10, 11, 12, 13], [(10, 0), (12, 0)]), ([2, 8, 10, 11, 12], [(10, 0), (12, 0)]), s_GreedySpaces_l12_D⟩
noncomputable def s_GreedySpaces_l8_mk (h8_0_0 : Int) (h8_0_2 : (List TMatrix)) : (Int × (List TMatrix)) → St := fun x => stOf [(2, (.imm true (.int .i64) h8_0_0)), (8, (.ref (10, 0) [])), (10, (.ref (12, 0) [])), (11, (.imm true (.int .i64) x.1))] [((10, 0), some ⟨false, (.sl kMatrix), (.sl (.imm true)), h8_0_2⟩), ((12, 0), some ⟨false, (.sl kMatrix), (.sl (.imm true)), x.2⟩)]
noncomputable def s_GreedySpaces_l8_out (_h8_0_0 : Int) (_h8_0_2 : (List TMatrix)) : (List TMatrix) → Ex × St := fun x => (.exit 0, stOf [(10, (.ref (12, 0) []))] [((12, 0), some ⟨false, (.sl kMatrix), (.sl (.imm true)), x⟩)])
noncomputable def s_GreedySpaces_l8_D (s : St) : Tre (Ex × St) :=
 asImmZ true (.int .i64) (s.tmps 2) fun d2 =>
 asRef (10, 0) [] (s.tmps 8) <|
 asRef (12, 0) [] (s.tmps 10) <|
 asImmZ true (.int .i64) (s.tmps 11) fun d6 =>
 asRoot false (.sl kMatrix) (s.roots (10, 0)) fun m8 d9 =>
 asM (.sl (.imm true)) m8 <|
 asRoot false (.sl kMatrix) (s.roots (12, 0)) fun m11 d12 =>
 asM (.sl (.imm true)) m11 <|
 .mat (loopF (s_GreedySpaces_l8 d2 d9) (d6, d12)) fun x => .ret (s_GreedySpaces_l8_out d2 d9 x)
noncomputable def s_GreedySpaces_l8_L : LoopI := ⟨([2, 8, 10, 11], [(10, 0), (12, 0)]), ([10], [(12, 0)]), s_GreedySpaces_l8_D⟩
noncomputable def s_GreedySpaces_A : List (Nat × LoopI) := [(12, s_GreedySpaces_l12_L), (8, s_GreedySpaces_l8_L)]
set_option maxRecDepth 100000 in
theorem s_GreedySpaces_l12_step : ∀ (h12_0_0 : Int) (h12_0_1 : Int) (h12_0_4 : (List TMatrix)) (h12_0_5 : (List TMatrix)) (x : (Bool × Int)) (c : St → Option (Ex × St)), den s_GreedySpaces_V s_GreedySpaces_A (loopAt s_GreedySpaces_b 1) (s_GreedySpaces_l12_mk h12_0_0 h12_0_1 h12_0_4 h12_0_5 x) (roundK s_GreedySpaces_l12_L.kp s_GreedySpaces_l12_L.kx c) = (s_GreedySpaces_l12 h12_0_0 h12_0_1 h12_0_4 h12_0_5 x).run (roundR (s_GreedySpaces_l12_mk h12_0_0 h12_0_1 h12_0_4 h12_0_5) (s_GreedySpaces_l12_out h12_0_0 h12_0_1 h12_0_4 h12_0_5) c) := fun _ _ _ _ _ _ => by
 kernel_rfl
theorem s_GreedySpaces_l12_ok : LoopOK s_GreedySpaces_V s_GreedySpaces_A (loopAt s_GreedySpaces_b 1) s_GreedySpaces_l12_L := loopOK_of fun s e s' h => by
 generalize hs : restrict s_GreedySpaces_l12_L.kp s = s1 at h
 have h : (s_GreedySpaces_l12_D s1).run some = some (e, s') := h
 obtain ⟨d2, e1, h_0⟩ := asImmZ_spec h
 obtain ⟨e3, h_1⟩ := asRef_spec h_0
 obtain ⟨e4, h_2⟩ := asRef_spec h_1
 obtain ⟨d6, e5, h_3⟩ := asImmZ_spec h_2
 obtain ⟨d8, e7, h_4⟩ := asImmZ_spec h_3
 obtain ⟨d10, e9, h_5⟩ := asImmZ_spec h_4
 obtain ⟨m12, d13, e11, h_6⟩ := asRoot_spec h_5
 obtain ⟨rfl, h_7⟩ := asM_spec h_6
 obtain ⟨m15, d16, e14, h_8⟩ := asRoot_spec h_7
 obtain ⟨rfl, h_9⟩ := asM_spec h_8
 obtain ⟨y, hy, hz⟩ := mat_ret h_9
 refine ⟨_, _, s_GreedySpaces_l12_mk d2 d6 d13 d16, s_GreedySpaces_l12_out d2 d6 d13 d16, s_GreedySpaces_l12 d2 d6 d13 d16, (d8, d10), y, ?_, hy, ?_, s_GreedySpaces_l12_step d2 d6 d13 d16⟩
 ·subst hs; exact restrict_eq (T := [(2, (.imm true (.int .i64) d2)), (8, (.ref (10, 0) [])), (10, (.ref (12, 0) [])), (11, (.imm true (.int .i64) d6)), (12, (.imm true .bool d8)), (13, (.imm true (.int .i64) d10))]) (U := [((10, 0), some ⟨false, (.sl kMatrix), (.sl (.imm true)), d13⟩), ((12, 0), some ⟨false, (.sl kMatrix), (.sl (.imm true)), d16⟩)]) rfl rfl ⟨e1, e3, e4, e5, e7, e9, trivial⟩ ⟨e11, e14, trivial⟩
 ·exact Option.some.inj hz
set_option maxRecDepth 100000 in
theorem s_GreedySpaces_l8_step : ∀ (h8_0_0 : Int) (h8_0_2 : (List TMatrix)) (x : (Int × (List TMatrix))) (c : St → Option (Ex × St)), den s_GreedySpaces_V s_GreedySpaces_A (loopAt s_GreedySpaces_b 0) (s_GreedySpaces_l8_mk h8_0_0 h8_0_2 x) (roundK s_GreedySpaces_l8_L.kp s_GreedySpaces_l8_L.kx c) = (s_GreedySpaces_l8 h8_0_0 h8_0_2 x).run (roundR (s_GreedySpaces_l8_mk h8_0_0 h8_0_2) (s_GreedySpaces_l8_out h8_0_0 h8_0_2) c) := fun _ _ _ _ => by
 kernel_rfl
theorem s_GreedySpaces_l8_ok : LoopOK s_GreedySpaces_V s_GreedySpaces_A (loopAt s_GreedySpaces_b 0) s_GreedySpaces_l8_L := loopOK_of fun s e s' h => by
 generalize hs : restrict s_GreedySpaces_l8_L.kp s = s1 at h
 have h : (s_GreedySpaces_l8_D s1).run some = some (e, s') := h
 obtain ⟨d2, e1, h_0⟩ := asImmZ_spec h
 obtain ⟨e3, h_1⟩ := asRef_spec h_0
 obtain ⟨e4, h_2⟩ := asRef_spec h_1
 obtain ⟨d6, e5, h_3⟩ := asImmZ_spec h_2
 obtain ⟨m8, d9, e7, h_4⟩ := asRoot_spec h_3
 obtain ⟨rfl, h_5⟩ := asM_spec h_4
 obtain ⟨m11, d12, e10, h_6⟩ := asRoot_spec h_5
 obtain ⟨rfl, h_7⟩ := asM_spec h_6
 obtain ⟨y, hy, hz⟩ := mat_ret h_7
 refine ⟨_, _, s_GreedySpaces_l8_mk d2 d9, s_GreedySpaces_l8_out d2 d9, s_GreedySpaces_l8 d2 d9, (d6, d12), y, ?_, hy, ?_, s_GreedySpaces_l8_step d2 d9⟩
 ·subst hs; exact restrict_eq (T := [(2, (.imm true (.int .i64) d2)), (8, (.ref (10, 0) [])), (10, (.ref (12, 0) [])), (11, (.imm true (.int .i64) d6))]) (U := [((10, 0), some ⟨false, (.sl kMatrix), (.sl (.imm true)), d9⟩), ((12, 0), some ⟨false, (.sl kMatrix), (.sl (.imm true)), d12⟩)]) rfl rfl ⟨e1, e3, e4, e5, trivial⟩ ⟨e7, e10, trivial⟩
 ·exact Option.some.inj hz
noncomputable def s_GreedySpaces_I : FnI := ⟨s_GreedySpaces_b, Try.f31.results.toList, Try.f31.resultTypes.toList, s_GreedySpaces_A⟩
noncomputable def s_GreedySpaces_out (_p0 : Int) (_p1 : Int) (_p2 : Int) : ((Int × (List TMatrix)) ⊕ (Int × (List TMatrix))) → CallOut
 | .inl r => ⟨(.tcons (.ref (1, 0) []) (.tcons (.imm true (.int .i64) r.1) .tnil)), [], [⟨false, (.sl kMatrix), .own, r.2⟩]⟩
 | .inr r => ⟨(.tcons (.ref (1, 0) []) (.tcons (.imm true (.int .i64) r.1) .tnil)), [], [⟨false, (.sl kMatrix), (.sl (.imm true)), r.2⟩]⟩
set_option maxRecDepth 100000 in
theorem s_GreedySpaces_eq : ∀ (p0 : Int) (p1 : Int) (p2 : Int), denFn s_GreedySpaces_V s_GreedySpaces_I ⟨[(.imm true (.int .i64) p0), (.imm true (.int .i64) p1), (.imm true (.int .i64) p2)], []⟩ = (s_GreedySpaces p0 p1 p2).run fun r => some (s_GreedySpaces_out p0 p1 p2 r) := fun _ _ _ => by kernel_rfl
noncomputable def s_GreedySpaces_G (av : List AV) (rs : List Root) : Tre CallOut :=
 asCons av fun a0_ av0 =>
 asCons av0 fun a1_ av1 =>
 asCons av1 fun a2_ av2 =>
 asEnd av2 <|
 asEnd rs <|
 asImmZ true (.int .i64) a0_ fun d1 =>
 asImmZ true (.int .i64) a1_ fun d2 =>
 asImmZ true (.int .i64) a2_ fun d3 =>
 .mat (s_GreedySpaces_F d1 d2 d3) fun r => .alt r (fun a0 => .ret (s_GreedySpaces_out d1 d2 d3 (.inl a0))) (fun b0 => .ret (s_GreedySpaces_out d1 d2 d3 (.inr b0)))
noncomputable def s_GreedySpaces_c : Ctr := ⟨[], fun ci => s_GreedySpaces_G ci.args ci.roots, false⟩
theorem s_GreedySpaces_env : EnvOK Try.prog .none s_GreedySpaces_V := (envOK_cons s_l06Distance_ok ent91 (envOK_cons s_SpacesOf_ok ent27 (envOK_cons s_l02Distance_2e37_ok ent86 envOK_nil)))
set_option maxRecDepth 100000 in
theorem s_GreedySpaces_ok : Contract Try.prog .none 31 s_GreedySpaces_c := by
 have hl : LoopsOK s_GreedySpaces_V s_GreedySpaces_A s_GreedySpaces_b := (loopsOK_all (n := 2) (by kernel_rfl) fun k hk => by
   match k, hk with
   | 0, _ => exact loopOK_at (id := 8) (L := s_GreedySpaces_l8_L) (by kernel_rfl) (by kernel_rfl) s_GreedySpaces_l8_ok
   | 1, _ => exact loopOK_at (id := 12) (L := s_GreedySpaces_l12_L) (by kernel_rfl) (by kernel_rfl) s_GreedySpaces_l12_ok)
 refine (contract_of (F := s_GreedySpaces_I) tau_tys s_GreedySpaces_env Try.func31 (by kernel_rfl) (by kernel_rfl) (by kernel_rfl) hl []).weaken ?_
 rintro ⟨av, rs⟩ co h
 have h : (s_GreedySpaces_G av rs).run some = some co := h
 obtain ⟨a0_, av0, rfl, h_0⟩ := asCons_spec h
 obtain ⟨a1_, av1, rfl, h_1⟩ := asCons_spec h_0
 obtain ⟨a2_, av2, rfl, h_2⟩ := asCons_spec h_1
 obtain ⟨rfl, h_3⟩ := asEnd_spec h_2
 obtain ⟨rfl, h_4⟩ := asEnd_spec h_3
 obtain ⟨d1, rfl, h_5⟩ := asImmZ_spec h_4
 obtain ⟨d2, rfl, h_6⟩ := asImmZ_spec h_5
 obtain ⟨d3, rfl, h_7⟩ := asImmZ_spec h_6
 exact fin_mats (s_GreedySpaces_eq d1 d2 d3) h_7 (by rintro (x | x) <;> rfl)
end Go.Proofs.Ythnkanacjhlhhaa

namespace Go.Proofs.Ythnkanacjhlhhaa
open Go Go.Abs Go.Proofs
noncomputable def s_SameMatrix (p0 : TMatrix) (p1 : TMatrix) : Tre Bool :=
 .cond (decide (p0.1 = p1.1))
  (.mat (sameL p0.2.1 p1.2.1) fun r1 =>
  .ret r1)
  (.ret false)
noncomputable def s_SameMatrix_F (p0 : TMatrix) (p1 : TMatrix) : Option Bool := (s_SameMatrix p0 p1).run some
-- more
noncomputable def s_SameMatrix_V : Env := ⟨tau, [(75, s_l00Same_c)], []⟩
noncomputable def s_SameMatrix_b : Code := (Try.f22.body).getD .skip
noncomputable def s_SameMatrix_I : FnI := ⟨s_SameMatrix_b, Try.f22.results.toList, Try.f22.resultTypes.toList, []⟩
noncomputable def s_SameMatrix_out (_zp0 : Bool) (_zp1 : Bool) (_p0 : TMatrix) (_p1 : TMatrix) : Bool → CallOut := fun r => ⟨(.imm true .bool r), [], []⟩
set_option maxRecDepth 100000 in
theorem s_SameMatrix_eq : ∀ (zp0 : Bool) (zp1 : Bool) (p0 : TMatrix) (p1 : TMatrix), denFn s_SameMatrix_V s_SameMatrix_I ⟨[(.imm zp0 kMatrix p0), (.imm zp1 kMatrix p1)], []⟩ = (s_SameMatrix p0 p1).run fun r => some (s_SameMatrix_out zp0 zp1 p0 p1 r) := fun _ _ _ _ => by kernel_rfl
noncomputable def s_SameMatrix_G (av : List AV) (rs : List Root) : Tre CallOut :=
 asCons av fun a0_ av0 =>
 asCons av0 fun a1_ av1 =>
 asEnd av1 <|
 asEnd rs <|
 asImm kMatrix a0_ fun z2 d1 =>
 asImm kMatrix a1_ fun z4 d3 =>
 .mat (s_SameMatrix_F d1 d3) fun r => .ret (s_SameMatrix_out z2 z4 d1 d3 r)
noncomputable def s_SameMatrix_c : Ctr := ⟨[], fun ci => s_SameMatrix_G ci.args ci.roots, false⟩
theorem s_SameMatrix_env : EnvOK Try.prog .none s_SameMatrix_V := (envOK_cons s_l00Same_ok ent75 envOK_nil)
set_option maxRecDepth 100000 in
theorem s_SameMatrix_ok : Contract Try.prog .none 22 s_SameMatrix_c := by
 have hl : LoopsOK s_SameMatrix_V [] s_SameMatrix_b := loopsOK_nil (by kernel_rfl)
 refine (contract_of (F := s_SameMatrix_I) tau_tys s_SameMatrix_env Try.func22 (by kernel_rfl) (by kernel_rfl) (by kernel_rfl) hl []).weaken ?_
 rintro ⟨av, rs⟩ co h
 have h : (s_SameMatrix_G av rs).run some = some co := h
 obtain ⟨a0_, av0, rfl, h_0⟩ := asCons_spec h
 obtain ⟨a1_, av1, rfl, h_1⟩ := asCons_spec h_0
 obtain ⟨rfl, h_2⟩ := asEnd_spec h_1
 obtain ⟨rfl, h_3⟩ := asEnd_spec h_2
 obtain ⟨z2, d1, rfl, h_4⟩ := asImm_spec h_3
 obtain ⟨z4, d3, rfl, h_5⟩ := asImm_spec h_4
 exact fin_mat (s_SameMatrix_eq z2 z4 d1 d3) h_5
end Go.Proofs.Ythnkanacjhlhhaa

namespace Go.Proofs.Ythnkanacjhlhhaa
open Go Go.Abs Go.Proofs
noncomputable def l_f6spaces_l4 (h4_0_0 : (List TMatrix)) (h4_0_1 : (List TMatrix)) : Int → Tre (Int ⊕ (Bool ⊕ Unit)) := fun s4 =>
 .cond (decide (s4 < (h4_0_0.length : Int)))
  (.ite (0 ≤ s4 ∧ s4 < (h4_0_0.length : Int)) <|
  .mat (h4_0_0[s4.toNat]?) fun x1 =>
  .ite (0 ≤ s4 ∧ s4 < (h4_0_1.length : Int)) <|
  .mat (h4_0_1[s4.toNat]?) fun x2 =>
  .mat (s_SameMatrix_F x1 x2) fun r3 =>
  .cond (!r3)
   (.ret (.inr (.inl false)))
   (.ret (.inl (iwrap .i64 (s4 + 1)))))
  (.ret (.inr (.inr ())))
noncomputable def l_f6spaces (p0 : (List TMatrix)) (p1 : (List TMatrix)) : Tre Bool :=
 .cond (!decide ((p0.length : Int) = (p1.length : Int)))
  (.ret false)
  (.mat (loopF (l_f6spaces_l4 p0 p1) 0) fun l4 =>
  .alt l4
   (fun a5 =>
    .ret a5)
   (fun _ =>
    .ret true))
noncomputable def l_f6spaces_F (p0 : (List TMatrix)) (p1 : (List TMatrix)) : Option Bool := (l_f6spaces p0 p1).run some
noncomputable def l_f6spaces_V : Env := ⟨tau, [(22, s_SameMatrix_c)], []⟩
noncomputable def l_f6spaces_b : Code := (Try.f32.body).getD .skip
noncomputable def l_f6spaces_l4_mk (z4_0 : Bool) (z4_1 : Bool) (h4_0_0 : (List TMatrix)) (h4_0_1 : (List TMatrix)) : Int → St := fun x => stOf [(0, (.imm z4_0 (.sl kMatrix) h4_0_0)), (1, (.imm z4_1 (.sl kMatrix) h4_0_1)), (5, (.imm true (.int .i64) x))] []
noncomputable def l_f6spaces_l4_out (_z4_0 : Bool) (_z4_1 : Bool) (_h4_0_0 : (List TMatrix)) (_h4_0_1 : (List TMatrix)) : (Bool ⊕ Unit) → Ex × St
 | .inl x => (.ret, stOf [(4, (.imm true .bool x))] [])
 | .inr x => (.exit 0, stOf [(4, .dead)] [])
noncomputable def l_f6spaces_l4_D (s : St) : Tre (Ex × St) :=
 asImm (.sl kMatrix) (s.tmps 0) fun z3 d2 =>
 asImm (.sl kMatrix) (s.tmps 1) fun z6 d5 =>
 asImmZ true (.int .i64) (s.tmps 5) fun d8 =>
 .mat (loopF (l_f6spaces_l4 d2 d5) d8) fun x => .alt x (fun a0 => .ret (l_f6spaces_l4_out z3 z6 d2 d5 (.inl a0))) (fun b0 => .ret (l_f6spaces_l4_out z3 z6 d2 d5 (.inr b0)))
noncomputable def l_f6spaces_l4_L : LoopI := ⟨([0, 1, 5], []), ([4], []), l_f6spaces_l4_D⟩
noncomputable def l_f6spaces_A : List (Nat × LoopI) := [(4, l_f6spaces_l4_L)]
set_option maxRecDepth 100000 in
theorem l_f6spaces_l4_step : ∀ (z4_0 : Bool) (z4_1 : Bool) (h4_0_0 : (List TMatrix)) (h4_0_1 : (List TMatrix)) (x : Int) (c : St → Option (Ex × St)), den l_f6spaces_V l_f6spaces_A (loopAt l_f6spaces_b 0) (l_f6spaces_l4_mk z4_0 z4_1 h4_0_0 h4_0_1 x) (roundK l_f6spaces_l4_L.kp l_f6spaces_l4_L.kx c) = (l_f6spaces_l4 h4_0_0 h4_0_1 x).run (roundR (l_f6spaces_l4_mk z4_0 z4_1 h4_0_0 h4_0_1) (l_f6spaces_l4_out z4_0 z4_1 h4_0_0 h4_0_1) c) := fun _ _ _ _ _ _ => by
 kernel_rfl
theorem l_f6spaces_l4_ok : LoopOK l_f6spaces_V l_f6spaces_A (loopAt l_f6spaces_b 0) l_f6spaces_l4_L := loopOK_of fun s e s' h => by
 generalize hs : restrict l_f6spaces_l4_L.kp s = s1 at h
 have h : (l_f6spaces_l4_D s1).run some = some (e, s') := h
 obtain ⟨z3, d2, e1, h_0⟩ := asImm_spec h
 obtain ⟨z6, d5, e4, h_1⟩ := asImm_spec h_0
 obtain ⟨d8, e7, h_2⟩ := asImmZ_spec h_1
 obtain ⟨y, hy, hz⟩ := mat_some h_2
 refine ⟨_, _, l_f6spaces_l4_mk z3 z6 d2 d5, l_f6spaces_l4_out z3 z6 d2 d5, l_f6spaces_l4 d2 d5, d8, y, ?_, hy, ?_, l_f6spaces_l4_step z3 z6 d2 d5⟩
 ·subst hs; exact restrict_eq (T := [(0, (.imm z3 (.sl kMatrix) d2)), (1, (.imm z6 (.sl kMatrix) d5)), (5, (.imm true (.int .i64) d8))]) (U := []) rfl rfl ⟨e1, e4, e7, trivial⟩ trivial
 ·rcases y with x | x <;> exact Option.some.inj hz
noncomputable def l_f6spaces_I : FnI := ⟨l_f6spaces_b, Try.f32.results.toList, Try.f32.resultTypes.toList, l_f6spaces_A⟩
noncomputable def l_f6spaces_out (_zp0 : Bool) (_zp1 : Bool) (_p0 : (List TMatrix)) (_p1 : (List TMatrix)) : Bool → CallOut := fun r => ⟨(.imm true .bool r), [], []⟩
set_option maxRecDepth 100000 in
theorem l_f6spaces_eq : ∀ (zp0 : Bool) (zp1 : Bool) (p0 : (List TMatrix)) (p1 : (List TMatrix)), denFn l_f6spaces_V l_f6spaces_I ⟨[(.imm zp0 (.sl kMatrix) p0), (.imm zp1 (.sl kMatrix) p1)], []⟩ = (l_f6spaces p0 p1).run fun r => some (l_f6spaces_out zp0 zp1 p0 p1 r) := fun _ _ _ _ => by kernel_rfl
noncomputable def l_f6spaces_G (av : List AV) (rs : List Root) : Tre CallOut :=
 asCons av fun a0_ av0 =>
 asCons av0 fun a1_ av1 =>
 asEnd av1 <|
 asEnd rs <|
 asImm (.sl kMatrix) a0_ fun z2 d1 =>
 asImm (.sl kMatrix) a1_ fun z4 d3 =>
 .mat (l_f6spaces_F d1 d3) fun r => .ret (l_f6spaces_out z2 z4 d1 d3 r)
noncomputable def l_f6spaces_c : Ctr := ⟨[], fun ci => l_f6spaces_G ci.args ci.roots, false⟩
theorem l_f6spaces_env : EnvOK Try.prog .none l_f6spaces_V := (envOK_cons s_SameMatrix_ok ent22 envOK_nil)
set_option maxRecDepth 100000 in
theorem l_f6spaces_ok : Contract Try.prog .none 32 l_f6spaces_c := by
 have hl : LoopsOK l_f6spaces_V l_f6spaces_A l_f6spaces_b := (loopsOK_all (n := 1) (by kernel_rfl) fun k hk => by
   match k, hk with
   | 0, _ => exact loopOK_at (id := 4) (L := l_f6spaces_l4_L) (by kernel_rfl) (by kernel_rfl) l_f6spaces_l4_ok)
 refine (contract_of (F := l_f6spaces_I) tau_tys l_f6spaces_env Try.func32 (by kernel_rfl) (by kernel_rfl) (by kernel_rfl) hl []).weaken ?_
 rintro ⟨av, rs⟩ co h
 have h : (l_f6spaces_G av rs).run some = some co := h
 obtain ⟨a0_, av0, rfl, h_0⟩ := asCons_spec h
 obtain ⟨a1_, av1, rfl, h_1⟩ := asCons_spec h_0
 obtain ⟨rfl, h_2⟩ := asEnd_spec h_1
 obtain ⟨rfl, h_3⟩ := asEnd_spec h_2
 obtain ⟨z2, d1, rfl, h_4⟩ := asImm_spec h_3
 obtain ⟨z4, d3, rfl, h_5⟩ := asImm_spec h_4
 exact fin_mat (l_f6spaces_eq z2 z4 d1 d3) h_5
end Go.Proofs.Ythnkanacjhlhhaa

namespace Go.Proofs.Ythnkanacjhlhhaa
open Go Go.Abs Go.Proofs
noncomputable def i_PackingBound_l6 (h6_0_0 : Int) (h6_0_1 : Int) (h6_0_2 : Int) : (Int × Int) → Tre ((Int × Int) ⊕ Int) := fun s6 =>
 let v2 := iwrap .i64 (Int.tdiv h6_0_2 2)
 let v3 := iwrap .i64 (Int.tdiv (iwrap .i64 (v2 - 1)) 2)
 .cond (decide (s6.2 ≤ v3))
  (.mat (i_near_F h6_0_0 h6_0_1 s6.2) fun r4 =>
  .ret (.inl (iwrap .i64 (s6.1 + r4), iwrap .i64 (s6.2 + 1))))
  (.ret (.inr s6.1))
noncomputable def i_PackingBound (p0 : Int) (p1 : Int) (p2 : Int) : Tre (Int × Int) :=
 let v1 := i_distanceCode_S p0 p1 p2
 .cond (!decide (v1 = 0))
  (.ret (0, v1))
  (.mat (loopF (i_PackingBound_l6 p0 p1 p2) (0, 0)) fun l5 =>
  .mat (i_gauss_F 2 p0 p1) fun r6 =>
  .ifn (l5 = 0) <|
  let v7 := iwrap .i64 (Int.tdiv r6 l5)
  .ret (v7, 0))
noncomputable def i_PackingBound_F (p0 : Int) (p1 : Int) (p2 : Int) : Option (Int × Int) := (i_PackingBound p0 p1 p2).run some
noncomputable def i_PackingBound_V : Env := ⟨tau, [(87, i_distanceCode_c), (84, i_near_c), (71, (i_gauss_c i_gauss_F))], []⟩
noncomputable def i_PackingBound_b : Code := (Try.f33.body).getD .skip
noncomputable def i_PackingBound_l6_mk (h6_0_0 : Int) (h6_0_1 : Int) (h6_0_2 : Int) : (Int × Int) → St := fun x => stOf [(0, (.imm true (.int .i64) h6_0_0)), (1, (.imm true (.int .i64) h6_0_1)), (2, (.imm true (.int .i64) h6_0_2)), (9, (.imm true (.int .i64) x.1)), (10, (.imm true (.int .i64) x.2))] []
noncomputable def i_PackingBound_l6_out (h6_0_0 : Int) (h6_0_1 : Int) (_h6_0_2 : Int) : Int → Ex × St := fun x => (.exit 0, stOf [(0, (.imm true (.int .i64) h6_0_0)), (1, (.imm true (.int .i64) h6_0_1)), (9, (.imm true (.int .i64) x))] [])
noncomputable def i_PackingBound_l6_D (s : St) : Tre (Ex × St) :=
 asImmZ true (.int .i64) (s.tmps 0) fun d2 =>
 asImmZ true (.int .i64) (s.tmps 1) fun d4 =>
 asImmZ true (.int .i64) (s.tmps 2) fun d6 =>
 asImmZ true (.int .i64) (s.tmps 9) fun d8 =>
 asImmZ true (.int .i64) (s.tmps 10) fun d10 =>
 .mat (loopF (i_PackingBound_l6 d2 d4 d6) (d8, d10)) fun x => .ret (i_PackingBound_l6_out d2 d4 d6 x)
noncomputable def i_PackingBound_l6_L : LoopI := ⟨([0, 1, 2, 9, 10], []), ([0, 1, 9], []), i_PackingBound_l6_D⟩
noncomputable def i_PackingBound_A : List (Nat × LoopI) := [(6, i_PackingBound_l6_L)]
set_option maxRecDepth 100000 in
theorem i_PackingBound_l6_step : ∀ (h6_0_0 : Int) (h6_0_1 : Int) (h6_0_2 : Int) (x : (Int × Int)) (c : St → Option (Ex × St)), den i_PackingBound_V i_PackingBound_A (loopAt i_PackingBound_b 0) (i_PackingBound_l6_mk h6_0_0 h6_0_1 h6_0_2 x) (roundK i_PackingBound_l6_L.kp i_PackingBound_l6_L.kx c) = (i_PackingBound_l6 h6_0_0 h6_0_1 h6_0_2 x).run (roundR (i_PackingBound_l6_mk h6_0_0 h6_0_1 h6_0_2) (i_PackingBound_l6_out h6_0_0 h6_0_1 h6_0_2) c) := fun _ _ _ _ _ => by
 kernel_rfl
theorem i_PackingBound_l6_ok : LoopOK i_PackingBound_V i_PackingBound_A (loopAt i_PackingBound_b 0) i_PackingBound_l6_L := loopOK_of fun s e s' h => by
 generalize hs : restrict i_PackingBound_l6_L.kp s = s1 at h
 have h : (i_PackingBound_l6_D s1).run some = some (e, s') := h
 obtain ⟨d2, e1, h_0⟩ := asImmZ_spec h
 obtain ⟨d4, e3, h_1⟩ := asImmZ_spec h_0
 obtain ⟨d6, e5, h_2⟩ := asImmZ_spec h_1
 obtain ⟨d8, e7, h_3⟩ := asImmZ_spec h_2
 obtain ⟨d10, e9, h_4⟩ := asImmZ_spec h_3
 obtain ⟨y, hy, hz⟩ := mat_ret h_4
 refine ⟨_, _, i_PackingBound_l6_mk d2 d4 d6, i_PackingBound_l6_out d2 d4 d6, i_PackingBound_l6 d2 d4 d6, (d8, d10), y, ?_, hy, ?_, i_PackingBound_l6_step d2 d4 d6⟩
 ·subst hs; exact restrict_eq (T := [(0, (.imm true (.int .i64) d2)), (1, (.imm true (.int .i64) d4)), (2, (.imm true (.int .i64) d6)), (9, (.imm true (.int .i64) d8)), (10, (.imm true (.int .i64) d10))]) (U := []) rfl rfl ⟨e1, e3, e5, e7, e9, trivial⟩ trivial
 ·exact Option.some.inj hz
noncomputable def i_PackingBound_I : FnI := ⟨i_PackingBound_b, Try.f33.results.toList, Try.f33.resultTypes.toList, i_PackingBound_A⟩
noncomputable def i_PackingBound_out (_p0 : Int) (_p1 : Int) (_p2 : Int) : (Int × Int) → CallOut := fun r => ⟨(.tcons (.imm true (.int .i64) r.1) (.tcons (.imm true (.int .i64) r.2) .tnil)), [], []⟩
set_option maxRecDepth 100000 in
theorem i_PackingBound_eq : ∀ (p0 : Int) (p1 : Int) (p2 : Int), denFn i_PackingBound_V i_PackingBound_I ⟨[(.imm true (.int .i64) p0), (.imm true (.int .i64) p1), (.imm true (.int .i64) p2)], []⟩ = (i_PackingBound p0 p1 p2).run fun r => some (i_PackingBound_out p0 p1 p2 r) := fun _ _ _ => by kernel_rfl
noncomputable def i_PackingBound_G (av : List AV) (rs : List Root) : Tre CallOut :=
 asCons av fun a0_ av0 =>
 asCons av0 fun a1_ av1 =>
 asCons av1 fun a2_ av2 =>
 asEnd av2 <|
 asEnd rs <|
 asImmZ true (.int .i64) a0_ fun d1 =>
 asImmZ true (.int .i64) a1_ fun d2 =>
 asImmZ true (.int .i64) a2_ fun d3 =>
 .mat (i_PackingBound_F d1 d2 d3) fun r => .ret (i_PackingBound_out d1 d2 d3 r)
noncomputable def i_PackingBound_c : Ctr := ⟨[], fun ci => i_PackingBound_G ci.args ci.roots, false⟩
theorem i_PackingBound_env : EnvOK Try.prog .none i_PackingBound_V := (envOK_cons i_distanceCode_ok ent87 (envOK_cons i_near_ok ent84 (envOK_cons i_gauss_ok ent71 envOK_nil)))
set_option maxRecDepth 100000 in
theorem i_PackingBound_ok : Contract Try.prog .none 33 i_PackingBound_c := by
 have hl : LoopsOK i_PackingBound_V i_PackingBound_A i_PackingBound_b := (loopsOK_all (n := 1) (by kernel_rfl) fun k hk => by
   match k, hk with
   | 0, _ => exact loopOK_at (id := 6) (L := i_PackingBound_l6_L) (by kernel_rfl) (by kernel_rfl) i_PackingBound_l6_ok)
 refine (contract_of (F := i_PackingBound_I) tau_tys i_PackingBound_env Try.func33 (by kernel_rfl) (by kernel_rfl) (by kernel_rfl) hl []).weaken ?_
 rintro ⟨av, rs⟩ co h
 have h : (i_PackingBound_G av rs).run some = some co := h
 obtain ⟨a0_, av0, rfl, h_0⟩ := asCons_spec h
 obtain ⟨a1_, av1, rfl, h_1⟩ := asCons_spec h_0
 obtain ⟨a2_, av2, rfl, h_2⟩ := asCons_spec h_1
 obtain ⟨rfl, h_3⟩ := asEnd_spec h_2
 obtain ⟨rfl, h_4⟩ := asEnd_spec h_3
 obtain ⟨d1, rfl, h_5⟩ := asImmZ_spec h_4
 obtain ⟨d2, rfl, h_6⟩ := asImmZ_spec h_5
 obtain ⟨d3, rfl, h_7⟩ := asImmZ_spec h_6
 exact fin_mat (i_PackingBound_eq d1 d2 d3) h_7
end Go.Proofs.Ythnkanacjhlhhaa

namespace Go.Proofs.Ythnkanacjhlhhaa
open Go Go.Abs Go.Proofs
noncomputable def i_DesignBound (p0 : Int) (p1 : Int) (p2 : Int) : Tre (Int × Int) :=
 let v1 := i_distanceCode_S p0 p1 p2
 .cond (!decide (v1 = 0))
  (.ret (0, v1))
  (let v2 := iwrap .i64 (Int.tdiv p2 2)
  let v3 := iwrap .i64 ((iwrap .i64 (p1 - v2)) + 1)
  .mat (i_gauss_F 2 p0 v3) fun r4 =>
  .mat (i_gauss_F 2 p1 v3) fun r5 =>
  .ifn (r5 = 0) <|
  let v6 := iwrap .i64 (Int.tdiv r4 r5)
  .ret (v6, 0))
noncomputable def i_DesignBound_F (p0 : Int) (p1 : Int) (p2 : Int) : Option (Int × Int) := (i_DesignBound p0 p1 p2).run some
noncomputable def i_DesignBound_V : Env := ⟨tau, [(87, i_distanceCode_c), (71, (i_gauss_c i_gauss_F))], []⟩
noncomputable def i_DesignBound_b : Code := (Try.f34.body).getD .skip
noncomputable def i_DesignBound_I : FnI := ⟨i_DesignBound_b, Try.f34.results.toList, Try.f34.resultTypes.toList, []⟩
noncomputable def i_DesignBound_out (_p0 : Int) (_p1 : Int) (_p2 : Int) : (Int × Int) → CallOut := fun r => ⟨(.tcons (.imm true (.int .i64) r.1) (.tcons (.imm true (.int .i64) r.2) .tnil)), [], []⟩
set_option maxRecDepth 100000 in
theorem i_DesignBound_eq : ∀ (p0 : Int) (p1 : Int) (p2 : Int), denFn i_DesignBound_V i_DesignBound_I ⟨[(.imm true (.int .i64) p0), (.imm true (.int .i64) p1), (.imm true (.int .i64) p2)], []⟩ = (i_DesignBound p0 p1 p2).run fun r => some (i_DesignBound_out p0 p1 p2 r) := fun _ _ _ => by kernel_rfl
noncomputable def i_DesignBound_G (av : List AV) (rs : List Root) : Tre CallOut :=
 asCons av fun a0_ av0 =>
 asCons av0 fun a1_ av1 =>
 asCons av1 fun a2_ av2 =>
 asEnd av2 <|
 asEnd rs <|
 asImmZ true (.int .i64) a0_ fun d1 =>
 asImmZ true (.int .i64) a1_ fun d2 =>
 asImmZ true (.int .i64) a2_ fun d3 =>
 .mat (i_DesignBound_F d1 d2 d3) fun r => .ret (i_DesignBound_out d1 d2 d3 r)
noncomputable def i_DesignBound_c : Ctr := ⟨[], fun ci => i_DesignBound_G ci.args ci.roots, false⟩
theorem i_DesignBound_env : EnvOK Try.prog .none i_DesignBound_V := (envOK_cons i_distanceCode_ok ent87 (envOK_cons i_gauss_ok ent71 envOK_nil))
set_option maxRecDepth 100000 in
theorem i_DesignBound_ok : Contract Try.prog .none 34 i_DesignBound_c := by
 have hl : LoopsOK i_DesignBound_V [] i_DesignBound_b := loopsOK_nil (by kernel_rfl)
 refine (contract_of (F := i_DesignBound_I) tau_tys i_DesignBound_env Try.func34 (by kernel_rfl) (by kernel_rfl) (by kernel_rfl) hl []).weaken ?_
 rintro ⟨av, rs⟩ co h
 have h : (i_DesignBound_G av rs).run some = some co := h
 obtain ⟨a0_, av0, rfl, h_0⟩ := asCons_spec h
 obtain ⟨a1_, av1, rfl, h_1⟩ := asCons_spec h_0
 obtain ⟨a2_, av2, rfl, h_2⟩ := asCons_spec h_1
 obtain ⟨rfl, h_3⟩ := asEnd_spec h_2
 obtain ⟨rfl, h_4⟩ := asEnd_spec h_3
 obtain ⟨d1, rfl, h_5⟩ := asImmZ_spec h_4
 obtain ⟨d2, rfl, h_6⟩ := asImmZ_spec h_5
 obtain ⟨d3, rfl, h_7⟩ := asImmZ_spec h_6
 exact fin_mat (i_DesignBound_eq d1 d2 d3) h_7
end Go.Proofs.Ythnkanacjhlhhaa

namespace Go.Proofs.Ythnkanacjhlhhaa
open Go Go.Abs Go.Proofs
noncomputable def i_size_Matrix (p0 : (List TMatrix)) : Tre Int :=
 .ret (p0.length : Int)
noncomputable def i_size_Matrix_F (p0 : (List TMatrix)) : Option Int := (i_size_Matrix p0).run some
theorem i_size_Matrix_spec (p0 : (List TMatrix)) : i_size_Matrix_F p0 = some (p0.length : Int) := rfl
noncomputable def i_size_Matrix_V : Env := ⟨tau, [], []⟩
noncomputable def i_size_Matrix_b : Code := (Try.f95.body).getD .skip
noncomputable def i_size_Matrix_I : FnI := ⟨i_size_Matrix_b, Try.f95.results.toList, Try.f95.resultTypes.toList, []⟩
noncomputable def i_size_Matrix_out (_zp0 : Bool) (_p0 : (List TMatrix)) : Int → CallOut := fun r => ⟨(.imm true (.int .i64) r), [], []⟩
set_option maxRecDepth 100000 in
theorem i_size_Matrix_eq : ∀ (zp0 : Bool) (p0 : (List TMatrix)), denFn i_size_Matrix_V i_size_Matrix_I ⟨[(.imm zp0 (.sl kMatrix) p0)], []⟩ = (i_size_Matrix p0).run fun r => some (i_size_Matrix_out zp0 p0 r) := fun _ _ => by kernel_rfl
noncomputable def i_size_Matrix_G (av : List AV) (rs : List Root) : Tre CallOut :=
 asCons av fun a0_ av0 =>
 asEnd av0 <|
 asEnd rs <|
 asImm (.sl kMatrix) a0_ fun z2 d1 =>
 .ret (i_size_Matrix_out z2 d1 (d1.length : Int))
noncomputable def i_size_Matrix_c : Ctr := ⟨[], fun ci => i_size_Matrix_G ci.args ci.roots, false⟩
theorem i_size_Matrix_env : EnvOK Try.prog .none i_size_Matrix_V := envOK_nil
set_option maxRecDepth 100000 in
theorem i_size_Matrix_ok : Contract Try.prog .none 95 i_size_Matrix_c := by
 have hl : LoopsOK i_size_Matrix_V [] i_size_Matrix_b := loopsOK_nil (by kernel_rfl)
 refine (contract_of (F := i_size_Matrix_I) tau_tys i_size_Matrix_env Try.func95 (by kernel_rfl) (by kernel_rfl) (by kernel_rfl) hl []).weaken ?_
 rintro ⟨av, rs⟩ co h
 have h : (i_size_Matrix_G av rs).run some = some co := h
 obtain ⟨a0_, av0, rfl, h_0⟩ := asCons_spec h
 obtain ⟨rfl, h_1⟩ := asEnd_spec h_0
 obtain ⟨rfl, h_2⟩ := asEnd_spec h_1
 obtain ⟨z2, d1, rfl, h_3⟩ := asImm_spec h_2
 exact fin_ret (i_size_Matrix_eq z2 d1) (i_size_Matrix_spec d1) h_3
end Go.Proofs.Ythnkanacjhlhhaa

namespace Go.Proofs.Ythnkanacjhlhhaa
open Go Go.Abs Go.Proofs
noncomputable def i_Matrix_has (p0 : TMatrix) (p1 : Int) : Tre Bool :=
 .ite (0 ≤ p0.1) <|
 let v1 := iwrap .i64 ((ishl .i64 1 p0.1) - 1)
 .ret (i_within_S p1 0 v1)
noncomputable def i_Matrix_has_F (p0 : TMatrix) (p1 : Int) : Option Bool := (i_Matrix_has p0 p1).run some
noncomputable def i_Matrix_has_V : Env := ⟨tau, [(57, i_within_c)], []⟩
noncomputable def i_Matrix_has_b : Code := (Try.f45.body).getD .skip
noncomputable def i_Matrix_has_I : FnI := ⟨i_Matrix_has_b, Try.f45.results.toList, Try.f45.resultTypes.toList, []⟩
noncomputable def i_Matrix_has_out (_zp0 : Bool) (_p0 : TMatrix) (_p1 : Int) : Bool → CallOut := fun r => ⟨(.imm true .bool r), [], []⟩
set_option maxRecDepth 100000 in
theorem i_Matrix_has_eq : ∀ (zp0 : Bool) (p0 : TMatrix) (p1 : Int), denFn i_Matrix_has_V i_Matrix_has_I ⟨[(.imm zp0 kMatrix p0), (.imm true (.int .i64) p1)], []⟩ = (i_Matrix_has p0 p1).run fun r => some (i_Matrix_has_out zp0 p0 p1 r) := fun _ _ _ => by kernel_rfl
noncomputable def i_Matrix_has_G (av : List AV) (rs : List Root) : Tre CallOut :=
 asCons av fun a0_ av0 =>
 asCons av0 fun a1_ av1 =>
 asEnd av1 <|
 asEnd rs <|
 asImm kMatrix a0_ fun z2 d1 =>
 asImmZ true (.int .i64) a1_ fun d3 =>
 .mat (i_Matrix_has_F d1 d3) fun r => .ret (i_Matrix_has_out z2 d1 d3 r)
noncomputable def i_Matrix_has_c : Ctr := ⟨[], fun ci => i_Matrix_has_G ci.args ci.roots, false⟩
theorem i_Matrix_has_env : EnvOK Try.prog .none i_Matrix_has_V := (envOK_cons i_within_ok ent57 envOK_nil)
set_option maxRecDepth 100000 in
theorem i_Matrix_has_ok : Contract Try.prog .none 45 i_Matrix_has_c := by
 have hl : LoopsOK i_Matrix_has_V [] i_Matrix_has_b := loopsOK_nil (by kernel_rfl)
 refine (contract_of (F := i_Matrix_has_I) tau_tys i_Matrix_has_env Try.func45 (by kernel_rfl) (by kernel_rfl) (by kernel_rfl) hl []).weaken ?_
 rintro ⟨av, rs⟩ co h
 have h : (i_Matrix_has_G av rs).run some = some co := h
 obtain ⟨a0_, av0, rfl, h_0⟩ := asCons_spec h
 obtain ⟨a1_, av1, rfl, h_1⟩ := asCons_spec h_0
 obtain ⟨rfl, h_2⟩ := asEnd_spec h_1
 obtain ⟨rfl, h_3⟩ := asEnd_spec h_2
 obtain ⟨z2, d1, rfl, h_4⟩ := asImm_spec h_3
 obtain ⟨d3, rfl, h_5⟩ := asImmZ_spec h_4
 exact fin_mat (i_Matrix_has_eq z2 d1 d3) h_5
end Go.Proofs.Ythnkanacjhlhhaa

namespace Go.Proofs.Ythnkanacjhlhhaa
open Go Go.Abs Go.Proofs
noncomputable def i_ValidMatrixc1_ccae (p0 : Int) (p1 : TMatrix) : Tre Bool :=
 .mat (i_Matrix_has_F p1 p0) fun r1 =>
 .ret (!r1)
noncomputable def i_ValidMatrixc1_ccae_F (p0 : Int) (p1 : TMatrix) : Option Bool := (i_ValidMatrixc1_ccae p0 p1).run some
noncomputable def i_ValidMatrixc1_ccae_V : Env := ⟨tau, [(45, i_Matrix_has_c)], []⟩
noncomputable def i_ValidMatrixc1_ccae_b : Code := (Try.f162.body).getD .skip
noncomputable def i_ValidMatrixc1_ccae_I : FnI := ⟨i_ValidMatrixc1_ccae_b, Try.f162.results.toList, Try.f162.resultTypes.toList, []⟩
noncomputable def i_ValidMatrixc1_ccae_out (zp0 : Bool) (_p0 : Int) (p1 : TMatrix) : Bool → CallOut := fun r => ⟨(.imm true .bool r), [⟨true, kMatrix, (.imm zp0), p1⟩], []⟩
set_option maxRecDepth 100000 in
theorem i_ValidMatrixc1_ccae_eq : ∀ (zp0 : Bool) (p0 : Int) (p1 : TMatrix), denFn i_ValidMatrixc1_ccae_V i_ValidMatrixc1_ccae_I ⟨[(.imm true (.int .i64) p0), (.ptr (0, 0) [])], [⟨true, kMatrix, (.imm zp0), p1⟩]⟩ = (i_ValidMatrixc1_ccae p0 p1).run fun r => some (i_ValidMatrixc1_ccae_out zp0 p0 p1 r) := fun _ _ _ => by kernel_rfl
noncomputable def i_ValidMatrixc1_ccae_G (av : List AV) (rs : List Root) : Tre CallOut :=
 asCons av fun a0_ av0 =>
 asCons av0 fun a1_ av1 =>
 asEnd av1 <|
 asCons rs fun r0_ rs0 =>
 asEnd rs0 <|
 asImmZ true (.int .i64) a0_ fun d1 =>
 asPtr (0, 0) [] a1_ <|
 asRt true kMatrix r0_ fun m2 d3 =>
 asMImm m2 fun z4 =>
 .mat (i_ValidMatrixc1_ccae_F d1 d3) fun r => .ret (i_ValidMatrixc1_ccae_out z4 d1 d3 r)
noncomputable def i_ValidMatrixc1_ccae_c : Ctr := ⟨[], fun ci => i_ValidMatrixc1_ccae_G ci.args ci.roots, false⟩
theorem i_ValidMatrixc1_ccae_env : EnvOK Try.prog .none i_ValidMatrixc1_ccae_V := (envOK_cons i_Matrix_has_ok ent45 envOK_nil)
set_option maxRecDepth 100000 in
theorem i_ValidMatrixc1_ccae_ok : Contract Try.prog .none 162 i_ValidMatrixc1_ccae_c := by
 have hl : LoopsOK i_ValidMatrixc1_ccae_V [] i_ValidMatrixc1_ccae_b := loopsOK_nil (by kernel_rfl)
 refine (contract_of (F := i_ValidMatrixc1_ccae_I) tau_tys i_ValidMatrixc1_ccae_env Try.func162 (by kernel_rfl) (by kernel_rfl) (by kernel_rfl) hl []).weaken ?_
 rintro ⟨av, rs⟩ co h
 have h : (i_ValidMatrixc1_ccae_G av rs).run some = some co := h
 obtain ⟨a0_, av0, rfl, h_0⟩ := asCons_spec h
 obtain ⟨a1_, av1, rfl, h_1⟩ := asCons_spec h_0
 obtain ⟨rfl, h_2⟩ := asEnd_spec h_1
 obtain ⟨r0_, rs0, rfl, h_3⟩ := asCons_spec h_2
 obtain ⟨rfl, h_4⟩ := asEnd_spec h_3
 obtain ⟨d1, rfl, h_5⟩ := asImmZ_spec h_4
 obtain ⟨rfl, h_6⟩ := asPtr_spec h_5
 obtain ⟨m2, d3, rfl, h_7⟩ := asRt_spec h_6
 obtain ⟨z4, rfl, h_8⟩ := asMImm_spec h_7
 exact fin_mat (i_ValidMatrixc1_ccae_eq z4 d1 d3) h_8
end Go.Proofs.Ythnkanacjhlhhaa
