/- Part 4 of the proof of FnExactArePathsTo. -/
import Derived.Test.YtldafhnnnabipaaPt3
namespace Go.Proofs.Ytldafhnnnabipaa
open Go Go.Abs Go.Proofs
noncomputable def slices_ContainsFunc_int64_i_ArePathsToc1c1_e2dd (p0 : (List Int)) (p1 : TNet) : Tre Bool :=
 .mat (slices_IndexFunc_int64_i_ArePathsToc1c1_e2dd_F p0 p1) fun r1 =>
 .ret (decide (r1 ≥ 0))
noncomputable def slices_ContainsFunc_int64_i_ArePathsToc1c1_e2dd_F (p0 : (List Int)) (p1 : TNet) : Option Bool := (slices_ContainsFunc_int64_i_ArePathsToc1c1_e2dd p0 p1).run some
noncomputable def slices_ContainsFunc_int64_i_ArePathsToc1c1_e2dd_V : Env := ⟨tau, [(125, slices_IndexFunc_int64_i_ArePathsToc1c1_e2dd_c)], []⟩
noncomputable def slices_ContainsFunc_int64_i_ArePathsToc1c1_e2dd_b : Code := (Try.f55.body).getD .skip
noncomputable def slices_ContainsFunc_int64_i_ArePathsToc1c1_e2dd_I : FnI := ⟨slices_ContainsFunc_int64_i_ArePathsToc1c1_e2dd_b, Try.f55.results.toList, Try.f55.resultTypes.toList, []⟩
noncomputable def slices_ContainsFunc_int64_i_ArePathsToc1c1_e2dd_out (zp0 : Bool) (p0 : (List Int)) (p1 : TNet) : Bool → CallOut := fun r => ⟨(.imm true .bool r), [⟨true, (.sl (.int .i64)), .own, p0⟩, ⟨true, kNet, (.imm zp0), p1⟩], []⟩
set_option maxRecDepth 100000 in
theorem slices_ContainsFunc_int64_i_ArePathsToc1c1_e2dd_eq : ∀ (zp0 : Bool) (p0 : (List Int)) (p1 : TNet), denFn slices_ContainsFunc_int64_i_ArePathsToc1c1_e2dd_V slices_ContainsFunc_int64_i_ArePathsToc1c1_e2dd_I ⟨[(.ref (0, 0) []), (.fn 56 [(0, 1)])], [⟨true, (.sl (.int .i64)), .own, p0⟩, ⟨true, kNet, (.imm zp0), p1⟩]⟩ = (slices_ContainsFunc_int64_i_ArePathsToc1c1_e2dd p0 p1).run fun r => some (slices_ContainsFunc_int64_i_ArePathsToc1c1_e2dd_out zp0 p0 p1 r) := fun _ _ _ => by kernel_rfl
noncomputable def slices_ContainsFunc_int64_i_ArePathsToc1c1_e2dd_G (av : List AV) (rs : List Root) : Tre CallOut :=
 asCons av fun a0_ av0 =>
 asCons av0 fun a1_ av1 =>
 asEnd av1 <|
 asCons rs fun r0_ rs0 =>
 asCons rs0 fun r1_ rs1 =>
 asEnd rs1 <|
 asRef (0, 0) [] a0_ <|
 asFn 56 [(0, 1)] a1_ <|
 asRt true (.sl (.int .i64)) r0_ fun m1 d2 =>
 asM .own m1 <|
 asRt true kNet r1_ fun m3 d4 =>
 asMImm m3 fun z5 =>
 .mat (slices_ContainsFunc_int64_i_ArePathsToc1c1_e2dd_F d2 d4) fun r => .ret (slices_ContainsFunc_int64_i_ArePathsToc1c1_e2dd_out z5 d2 d4 r)
noncomputable def slices_ContainsFunc_int64_i_ArePathsToc1c1_e2dd_c : Ctr := ⟨[0], fun ci => slices_ContainsFunc_int64_i_ArePathsToc1c1_e2dd_G ci.args ci.roots, false⟩
theorem slices_ContainsFunc_int64_i_ArePathsToc1c1_e2dd_env : EnvOK Try.prog .none slices_ContainsFunc_int64_i_ArePathsToc1c1_e2dd_V := (envOK_cons slices_IndexFunc_int64_i_ArePathsToc1c1_e2dd_ok ent125 envOK_nil)
set_option maxRecDepth 100000 in
theorem slices_ContainsFunc_int64_i_ArePathsToc1c1_e2dd_ok : Contract Try.prog .none 55 slices_ContainsFunc_int64_i_ArePathsToc1c1_e2dd_c := by
 have hl : LoopsOK slices_ContainsFunc_int64_i_ArePathsToc1c1_e2dd_V [] slices_ContainsFunc_int64_i_ArePathsToc1c1_e2dd_b := loopsOK_nil (by kernel_rfl)
 refine (contract_of (F := slices_ContainsFunc_int64_i_ArePathsToc1c1_e2dd_I) tau_tys slices_ContainsFunc_int64_i_ArePathsToc1c1_e2dd_env Try.func55 (by kernel_rfl) (by kernel_rfl) (by kernel_rfl) hl [0]).weaken ?_
 rintro ⟨av, rs⟩ co h
 have h : (slices_ContainsFunc_int64_i_ArePathsToc1c1_e2dd_G av rs).run some = some co := h
 obtain ⟨a0_, av0, rfl, h_0⟩ := asCons_spec h
 obtain ⟨a1_, av1, rfl, h_1⟩ := asCons_spec h_0
 obtain ⟨rfl, h_2⟩ := asEnd_spec h_1
 obtain ⟨r0_, rs0, rfl, h_3⟩ := asCons_spec h_2
 obtain ⟨r1_, rs1, rfl, h_4⟩ := asCons_spec h_3
 obtain ⟨rfl, h_5⟩ := asEnd_spec h_4
 obtain ⟨rfl, h_6⟩ := asRef_spec h_5
 obtain ⟨rfl, h_7⟩ := asFn_spec h_6
 obtain ⟨m1, d2, rfl, h_8⟩ := asRt_spec h_7
 obtain ⟨rfl, h_9⟩ := asM_spec h_8
 obtain ⟨m3, d4, rfl, h_10⟩ := asRt_spec h_9
 obtain ⟨z5, rfl, h_11⟩ := asMImm_spec h_10
 exact fin_mat (slices_ContainsFunc_int64_i_ArePathsToc1c1_e2dd_eq z5 d2 d4) h_11
end Go.Proofs.Ytldafhnnnabipaa

namespace Go.Proofs.Ytldafhnnnabipaa
open Go Go.Abs Go.Proofs
noncomputable def i_ArePathsToc1_54ca (p0 : (List Int)) (p1 : TNet) : Tre Bool :=
 .mat (slices_ContainsFunc_int64_i_ArePathsToc1c1_e2dd_F p0 p1) fun r1 =>
 .ret (!r1)
noncomputable def i_ArePathsToc1_54ca_F (p0 : (List Int)) (p1 : TNet) : Option Bool := (i_ArePathsToc1_54ca p0 p1).run some
noncomputable def i_ArePathsToc1_54ca_V : Env := ⟨tau, [(55, slices_ContainsFunc_int64_i_ArePathsToc1c1_e2dd_c)], []⟩
noncomputable def i_ArePathsToc1_54ca_b : Code := (Try.f54.body).getD .skip
noncomputable def i_ArePathsToc1_54ca_I : FnI := ⟨i_ArePathsToc1_54ca_b, Try.f54.results.toList, Try.f54.resultTypes.toList, []⟩
noncomputable def i_ArePathsToc1_54ca_out (zp0 : Bool) (p0 : (List Int)) (p1 : TNet) : Bool → CallOut := fun r => ⟨(.imm true .bool r), [⟨true, (.sl (.int .i64)), .own, p0⟩, ⟨true, kNet, (.imm zp0), p1⟩], []⟩
set_option maxRecDepth 100000 in
theorem i_ArePathsToc1_54ca_eq : ∀ (zp0 : Bool) (p0 : (List Int)) (p1 : TNet), denFn i_ArePathsToc1_54ca_V i_ArePathsToc1_54ca_I ⟨[(.ptr (0, 0) []), (.ptr (0, 1) [])], [⟨true, (.sl (.int .i64)), .own, p0⟩, ⟨true, kNet, (.imm zp0), p1⟩]⟩ = (i_ArePathsToc1_54ca p0 p1).run fun r => some (i_ArePathsToc1_54ca_out zp0 p0 p1 r) := fun _ _ _ => by kernel_rfl
noncomputable def i_ArePathsToc1_54ca_G (av : List AV) (rs : List Root) : Tre CallOut :=
 asCons av fun a0_ av0 =>
 asCons av0 fun a1_ av1 =>
 asEnd av1 <|
 asCons rs fun r0_ rs0 =>
 asCons rs0 fun r1_ rs1 =>
 asEnd rs1 <|
 asPtr (0, 0) [] a0_ <|
 asPtr (0, 1) [] a1_ <|
 asRt true (.sl (.int .i64)) r0_ fun m1 d2 =>
 asM .own m1 <|
 asRt true kNet r1_ fun m3 d4 =>
 asMImm m3 fun z5 =>
 .mat (i_ArePathsToc1_54ca_F d2 d4) fun r => .ret (i_ArePathsToc1_54ca_out z5 d2 d4 r)
noncomputable def i_ArePathsToc1_54ca_c : Ctr := ⟨[], fun ci => i_ArePathsToc1_54ca_G ci.args ci.roots, false⟩
theorem i_ArePathsToc1_54ca_env : EnvOK Try.prog .none i_ArePathsToc1_54ca_V := (envOK_cons slices_ContainsFunc_int64_i_ArePathsToc1c1_e2dd_ok ent55 envOK_nil)
set_option maxRecDepth 100000 in
theorem i_ArePathsToc1_54ca_ok : Contract Try.prog .none 54 i_ArePathsToc1_54ca_c := by
 have hl : LoopsOK i_ArePathsToc1_54ca_V [] i_ArePathsToc1_54ca_b := loopsOK_nil (by kernel_rfl)
 refine (contract_of (F := i_ArePathsToc1_54ca_I) tau_tys i_ArePathsToc1_54ca_env Try.func54 (by kernel_rfl) (by kernel_rfl) (by kernel_rfl) hl []).weaken ?_
 rintro ⟨av, rs⟩ co h
 have h : (i_ArePathsToc1_54ca_G av rs).run some = some co := h
 obtain ⟨a0_, av0, rfl, h_0⟩ := asCons_spec h
 obtain ⟨a1_, av1, rfl, h_1⟩ := asCons_spec h_0
 obtain ⟨rfl, h_2⟩ := asEnd_spec h_1
 obtain ⟨r0_, rs0, rfl, h_3⟩ := asCons_spec h_2
 obtain ⟨r1_, rs1, rfl, h_4⟩ := asCons_spec h_3
 obtain ⟨rfl, h_5⟩ := asEnd_spec h_4
 obtain ⟨rfl, h_6⟩ := asPtr_spec h_5
 obtain ⟨rfl, h_7⟩ := asPtr_spec h_6
 obtain ⟨m1, d2, rfl, h_8⟩ := asRt_spec h_7
 obtain ⟨rfl, h_9⟩ := asM_spec h_8
 obtain ⟨m3, d4, rfl, h_10⟩ := asRt_spec h_9
 obtain ⟨z5, rfl, h_11⟩ := asMImm_spec h_10
 exact fin_mat (i_ArePathsToc1_54ca_eq z5 d2 d4) h_11
end Go.Proofs.Ytldafhnnnabipaa

namespace Go.Proofs.Ytldafhnnnabipaa
open Go Go.Abs Go.Proofs
noncomputable def i_targetCodec1_2009 (p0 : Int) (p1 : (List Int)) (p2 : TNet) : Tre Bool :=
 .cond (!decide (p0 = 0))
  (.mat (i_ArePathsToc1_54ca_F p1 p2) fun r1 =>
  .ret r1)
  (.ret false)
noncomputable def i_targetCodec1_2009_F (p0 : Int) (p1 : (List Int)) (p2 : TNet) : Option Bool := (i_targetCodec1_2009 p0 p1 p2).run some
noncomputable def i_targetCodec1_2009_V : Env := ⟨tau, [(54, i_ArePathsToc1_54ca_c)], []⟩
noncomputable def i_targetCodec1_2009_b : Code := (Try.f124.body).getD .skip
noncomputable def i_targetCodec1_2009_I : FnI := ⟨i_targetCodec1_2009_b, Try.f124.results.toList, Try.f124.resultTypes.toList, []⟩
noncomputable def i_targetCodec1_2009_out (zp0 : Bool) (p0 : Int) (p1 : (List Int)) (p2 : TNet) : Bool → CallOut := fun r => ⟨(.imm true .bool r), [⟨true, (.int .i64), .own, p0⟩, ⟨true, .fn, .own, (some (54, [(0, 2), (0, 3)]) : Option (Nat × List RName))⟩, ⟨true, (.sl (.int .i64)), .own, p1⟩, ⟨true, kNet, (.imm zp0), p2⟩], []⟩
set_option maxRecDepth 100000 in
theorem i_targetCodec1_2009_eq : ∀ (zp0 : Bool) (p0 : Int) (p1 : (List Int)) (p2 : TNet), denFn i_targetCodec1_2009_V i_targetCodec1_2009_I ⟨[(.ptr (0, 0) []), (.ptr (0, 1) [])], [⟨true, (.int .i64), .own, p0⟩, ⟨true, .fn, .own, (some (54, [(0, 2), (0, 3)]) : Option (Nat × List RName))⟩, ⟨true, (.sl (.int .i64)), .own, p1⟩, ⟨true, kNet, (.imm zp0), p2⟩]⟩ = (i_targetCodec1_2009 p0 p1 p2).run fun r => some (i_targetCodec1_2009_out zp0 p0 p1 p2 r) := fun _ _ _ _ => by kernel_rfl
noncomputable def i_targetCodec1_2009_G (av : List AV) (rs : List Root) : Tre CallOut :=
 asCons av fun a0_ av0 =>
 asCons av0 fun a1_ av1 =>
 asEnd av1 <|
 asCons rs fun r0_ rs0 =>
 asCons rs0 fun r1_ rs1 =>
 asCons rs1 fun r2_ rs2 =>
 asCons rs2 fun r3_ rs3 =>
 asEnd rs3 <|
 asPtr (0, 0) [] a0_ <|
 asPtr (0, 1) [] a1_ <|
 asRt true (.int .i64) r0_ fun m1 d2 =>
 asM .own m1 <|
 asRt true .fn r1_ fun m3 d4 =>
 asM .own m3 <|
 asD d4 (some (54, [(0, 2), (0, 3)]) : Option (Nat × List RName)) <|
 asRt true (.sl (.int .i64)) r2_ fun m5 d6 =>
 asM .own m5 <|
 asRt true kNet r3_ fun m7 d8 =>
 asMImm m7 fun z9 =>
 .mat (i_targetCodec1_2009_F d2 d6 d8) fun r => .ret (i_targetCodec1_2009_out z9 d2 d6 d8 r)
noncomputable def i_targetCodec1_2009_c : Ctr := ⟨[], fun ci => i_targetCodec1_2009_G ci.args ci.roots, false⟩
theorem i_targetCodec1_2009_env : EnvOK Try.prog .none i_targetCodec1_2009_V := (envOK_cons i_ArePathsToc1_54ca_ok ent54 envOK_nil)
set_option maxRecDepth 100000 in
theorem i_targetCodec1_2009_ok : Contract Try.prog .none 124 i_targetCodec1_2009_c := by
 have hl : LoopsOK i_targetCodec1_2009_V [] i_targetCodec1_2009_b := loopsOK_nil (by kernel_rfl)
 refine (contract_of (F := i_targetCodec1_2009_I) tau_tys i_targetCodec1_2009_env Try.func124 (by kernel_rfl) (by kernel_rfl) (by kernel_rfl) hl []).weaken ?_
 rintro ⟨av, rs⟩ co h
 have h : (i_targetCodec1_2009_G av rs).run some = some co := h
 obtain ⟨a0_, av0, rfl, h_0⟩ := asCons_spec h
 obtain ⟨a1_, av1, rfl, h_1⟩ := asCons_spec h_0
 obtain ⟨rfl, h_2⟩ := asEnd_spec h_1
 obtain ⟨r0_, rs0, rfl, h_3⟩ := asCons_spec h_2
 obtain ⟨r1_, rs1, rfl, h_4⟩ := asCons_spec h_3
 obtain ⟨r2_, rs2, rfl, h_5⟩ := asCons_spec h_4
 obtain ⟨r3_, rs3, rfl, h_6⟩ := asCons_spec h_5
 obtain ⟨rfl, h_7⟩ := asEnd_spec h_6
 obtain ⟨rfl, h_8⟩ := asPtr_spec h_7
 obtain ⟨rfl, h_9⟩ := asPtr_spec h_8
 obtain ⟨m1, d2, rfl, h_10⟩ := asRt_spec h_9
 obtain ⟨rfl, h_11⟩ := asM_spec h_10
 obtain ⟨m3, d4, rfl, h_12⟩ := asRt_spec h_11
 obtain ⟨rfl, h_13⟩ := asM_spec h_12
 obtain ⟨rfl, h_14⟩ := asD_spec h_13
 obtain ⟨m5, d6, rfl, h_15⟩ := asRt_spec h_14
 obtain ⟨rfl, h_16⟩ := asM_spec h_15
 obtain ⟨m7, d8, rfl, h_17⟩ := asRt_spec h_16
 obtain ⟨z9, rfl, h_18⟩ := asMImm_spec h_17
 exact fin_mat (i_targetCodec1_2009_eq z9 d2 d6 d8) h_18
end Go.Proofs.Ytldafhnnnabipaa

namespace Go.Proofs.Ytldafhnnnabipaa
open Go Go.Abs Go.Proofs
noncomputable def i_nodeCode_i_targetCodec1 (p0 : TNet) (p1 : Int) (p2 : Int) (p3 : (List Int)) (p4 : TNet) : Tre Int :=
 .mat (i_ValidNet_F p0) fun r1 =>
 .cond (!r1)
  (.ret 1)
  (.cond (!(i_Net_isNode_S p0 p1))
   (.ret 2)
   (.mat (i_targetCodec1_2009_F p2 p3 p4) fun r2 =>
   .cond (!r2)
    (.ret 2)
    (.ret 0)))
noncomputable def i_nodeCode_i_targetCodec1_F (p0 : TNet) (p1 : Int) (p2 : Int) (p3 : (List Int)) (p4 : TNet) : Option Int := (i_nodeCode_i_targetCodec1 p0 p1 p2 p3 p4).run some
noncomputable def i_nodeCode_i_targetCodec1_V : Env := ⟨tau, [(175, i_ValidNet_c), (176, i_Net_isNode_c), (124, i_targetCodec1_2009_c)], []⟩
noncomputable def i_nodeCode_i_targetCodec1_b : Code := (Try.f123.body).getD .skip
noncomputable def i_nodeCode_i_targetCodec1_I : FnI := ⟨i_nodeCode_i_targetCodec1_b, Try.f123.results.toList, Try.f123.resultTypes.toList, []⟩
noncomputable def i_nodeCode_i_targetCodec1_out (_zp0 : Bool) (zp1 : Bool) (_p0 : TNet) (_p1 : Int) (p2 : Int) (p3 : (List Int)) (p4 : TNet) : Int → CallOut := fun r => ⟨(.imm true (.int .i64) r), [⟨true, (.int .i64), .own, p2⟩, ⟨true, .fn, .own, (some (54, [(0, 2), (0, 3)]) : Option (Nat × List RName))⟩, ⟨true, (.sl (.int .i64)), .own, p3⟩, ⟨true, kNet, (.imm zp1), p4⟩], []⟩
set_option maxRecDepth 100000 in
theorem i_nodeCode_i_targetCodec1_eq : ∀ (zp0 : Bool) (zp1 : Bool) (p0 : TNet) (p1 : Int) (p2 : Int) (p3 : (List Int)) (p4 : TNet), denFn i_nodeCode_i_targetCodec1_V i_nodeCode_i_targetCodec1_I ⟨[(.imm zp0 kNet p0), (.imm true (.int .i64) p1), (.fn 124 [(0, 0), (0, 1)])], [⟨true, (.int .i64), .own, p2⟩, ⟨true, .fn, .own, (some (54, [(0, 2), (0, 3)]) : Option (Nat × List RName))⟩, ⟨true, (.sl (.int .i64)), .own, p3⟩, ⟨true, kNet, (.imm zp1), p4⟩]⟩ = (i_nodeCode_i_targetCodec1 p0 p1 p2 p3 p4).run fun r => some (i_nodeCode_i_targetCodec1_out zp0 zp1 p0 p1 p2 p3 p4 r) := fun _ _ _ _ _ _ _ => by kernel_rfl
noncomputable def i_nodeCode_i_targetCodec1_G (av : List AV) (rs : List Root) : Tre CallOut :=
 asCons av fun a0_ av0 =>
 asCons av0 fun a1_ av1 =>
 asCons av1 fun a2_ av2 =>
 asEnd av2 <|
 asCons rs fun r0_ rs0 =>
 asCons rs0 fun r1_ rs1 =>
 asCons rs1 fun r2_ rs2 =>
 asCons rs2 fun r3_ rs3 =>
 asEnd rs3 <|
 asImm kNet a0_ fun z2 d1 =>
 asImmZ true (.int .i64) a1_ fun d3 =>
 asFn 124 [(0, 0), (0, 1)] a2_ <|
 asRt true (.int .i64) r0_ fun m4 d5 =>
 asM .own m4 <|
 asRt true .fn r1_ fun m6 d7 =>
 asM .own m6 <|
 asD d7 (some (54, [(0, 2), (0, 3)]) : Option (Nat × List RName)) <|
 asRt true (.sl (.int .i64)) r2_ fun m8 d9 =>
 asM .own m8 <|
 asRt true kNet r3_ fun m10 d11 =>
 asMImm m10 fun z12 =>
 .mat (i_nodeCode_i_targetCodec1_F d1 d3 d5 d9 d11) fun r => .ret (i_nodeCode_i_targetCodec1_out z2 z12 d1 d3 d5 d9 d11 r)
noncomputable def i_nodeCode_i_targetCodec1_c : Ctr := ⟨[], fun ci => i_nodeCode_i_targetCodec1_G ci.args ci.roots, false⟩
theorem i_nodeCode_i_targetCodec1_env : EnvOK Try.prog .none i_nodeCode_i_targetCodec1_V := (envOK_cons i_ValidNet_ok ent175 (envOK_cons i_Net_isNode_ok ent176 (envOK_cons i_targetCodec1_2009_ok ent124 envOK_nil)))
set_option maxRecDepth 100000 in
theorem i_nodeCode_i_targetCodec1_ok : Contract Try.prog .none 123 i_nodeCode_i_targetCodec1_c := by
 have hl : LoopsOK i_nodeCode_i_targetCodec1_V [] i_nodeCode_i_targetCodec1_b := loopsOK_nil (by kernel_rfl)
 refine (contract_of (F := i_nodeCode_i_targetCodec1_I) tau_tys i_nodeCode_i_targetCodec1_env Try.func123 (by kernel_rfl) (by kernel_rfl) (by kernel_rfl) hl []).weaken ?_
 rintro ⟨av, rs⟩ co h
 have h : (i_nodeCode_i_targetCodec1_G av rs).run some = some co := h
 obtain ⟨a0_, av0, rfl, h_0⟩ := asCons_spec h
 obtain ⟨a1_, av1, rfl, h_1⟩ := asCons_spec h_0
 obtain ⟨a2_, av2, rfl, h_2⟩ := asCons_spec h_1
 obtain ⟨rfl, h_3⟩ := asEnd_spec h_2
 obtain ⟨r0_, rs0, rfl, h_4⟩ := asCons_spec h_3
 obtain ⟨r1_, rs1, rfl, h_5⟩ := asCons_spec h_4
 obtain ⟨r2_, rs2, rfl, h_6⟩ := asCons_spec h_5
 obtain ⟨r3_, rs3, rfl, h_7⟩ := asCons_spec h_6
 obtain ⟨rfl, h_8⟩ := asEnd_spec h_7
 obtain ⟨z2, d1, rfl, h_9⟩ := asImm_spec h_8
 obtain ⟨d3, rfl, h_10⟩ := asImmZ_spec h_9
 obtain ⟨rfl, h_11⟩ := asFn_spec h_10
 obtain ⟨m4, d5, rfl, h_12⟩ := asRt_spec h_11
 obtain ⟨rfl, h_13⟩ := asM_spec h_12
 obtain ⟨m6, d7, rfl, h_14⟩ := asRt_spec h_13
 obtain ⟨rfl, h_15⟩ := asM_spec h_14
 obtain ⟨rfl, h_16⟩ := asD_spec h_15
 obtain ⟨m8, d9, rfl, h_17⟩ := asRt_spec h_16
 obtain ⟨rfl, h_18⟩ := asM_spec h_17
 obtain ⟨m10, d11, rfl, h_19⟩ := asRt_spec h_18
 obtain ⟨z12, rfl, h_20⟩ := asMImm_spec h_19
 exact fin_mat (i_nodeCode_i_targetCodec1_eq z2 z12 d1 d3 d5 d9 d11) h_20
end Go.Proofs.Ytldafhnnnabipaa

namespace Go.Proofs.Ytldafhnnnabipaa
open Go Go.Abs Go.Proofs
noncomputable def i_targetCode_i_ArePathsToc1 (p0 : TNet) (p1 : Int) (p2 : (List Int)) (p3 : TNet) : Tre Int :=
 .mat (i_nodeCode_i_targetCodec1_F p0 p1 p1 p2 p3) fun r1 =>
 .ret r1
noncomputable def i_targetCode_i_ArePathsToc1_F (p0 : TNet) (p1 : Int) (p2 : (List Int)) (p3 : TNet) : Option Int := (i_targetCode_i_ArePathsToc1 p0 p1 p2 p3).run some
noncomputable def i_targetCode_i_ArePathsToc1_V : Env := ⟨tau, [(123, i_nodeCode_i_targetCodec1_c)], []⟩
noncomputable def i_targetCode_i_ArePathsToc1_b : Code := (Try.f53.body).getD .skip
noncomputable def i_targetCode_i_ArePathsToc1_I : FnI := ⟨i_targetCode_i_ArePathsToc1_b, Try.f53.results.toList, Try.f53.resultTypes.toList, []⟩
noncomputable def i_targetCode_i_ArePathsToc1_out (_zp0 : Bool) (zp1 : Bool) (_p0 : TNet) (_p1 : Int) (p2 : (List Int)) (p3 : TNet) : Int → CallOut := fun r => ⟨(.imm true (.int .i64) r), [⟨true, (.sl (.int .i64)), .own, p2⟩, ⟨true, kNet, (.imm zp1), p3⟩], []⟩
set_option maxRecDepth 100000 in
theorem i_targetCode_i_ArePathsToc1_eq : ∀ (zp0 : Bool) (zp1 : Bool) (p0 : TNet) (p1 : Int) (p2 : (List Int)) (p3 : TNet), denFn i_targetCode_i_ArePathsToc1_V i_targetCode_i_ArePathsToc1_I ⟨[(.imm zp0 kNet p0), (.imm true (.int .i64) p1), (.fn 54 [(0, 0), (0, 1)])], [⟨true, (.sl (.int .i64)), .own, p2⟩, ⟨true, kNet, (.imm zp1), p3⟩]⟩ = (i_targetCode_i_ArePathsToc1 p0 p1 p2 p3).run fun r => some (i_targetCode_i_ArePathsToc1_out zp0 zp1 p0 p1 p2 p3 r) := fun _ _ _ _ _ _ => by kernel_rfl
noncomputable def i_targetCode_i_ArePathsToc1_G (av : List AV) (rs : List Root) : Tre CallOut :=
 asCons av fun a0_ av0 =>
 asCons av0 fun a1_ av1 =>
 asCons av1 fun a2_ av2 =>
 asEnd av2 <|
 asCons rs fun r0_ rs0 =>
 asCons rs0 fun r1_ rs1 =>
 asEnd rs1 <|
 asImm kNet a0_ fun z2 d1 =>
 asImmZ true (.int .i64) a1_ fun d3 =>
 asFn 54 [(0, 0), (0, 1)] a2_ <|
 asRt true (.sl (.int .i64)) r0_ fun m4 d5 =>
 asM .own m4 <|
 asRt true kNet r1_ fun m6 d7 =>
 asMImm m6 fun z8 =>
 .mat (i_targetCode_i_ArePathsToc1_F d1 d3 d5 d7) fun r => .ret (i_targetCode_i_ArePathsToc1_out z2 z8 d1 d3 d5 d7 r)
noncomputable def i_targetCode_i_ArePathsToc1_c : Ctr := ⟨[], fun ci => i_targetCode_i_ArePathsToc1_G ci.args ci.roots, false⟩
theorem i_targetCode_i_ArePathsToc1_env : EnvOK Try.prog .none i_targetCode_i_ArePathsToc1_V := (envOK_cons i_nodeCode_i_targetCodec1_ok ent123 envOK_nil)
set_option maxRecDepth 100000 in
theorem i_targetCode_i_ArePathsToc1_ok : Contract Try.prog .none 53 i_targetCode_i_ArePathsToc1_c := by
 have hl : LoopsOK i_targetCode_i_ArePathsToc1_V [] i_targetCode_i_ArePathsToc1_b := loopsOK_nil (by kernel_rfl)
 refine (contract_of (F := i_targetCode_i_ArePathsToc1_I) tau_tys i_targetCode_i_ArePathsToc1_env Try.func53 (by kernel_rfl) (by kernel_rfl) (by kernel_rfl) hl []).weaken ?_
 rintro ⟨av, rs⟩ co h
 have h : (i_targetCode_i_ArePathsToc1_G av rs).run some = some co := h
 obtain ⟨a0_, av0, rfl, h_0⟩ := asCons_spec h
 obtain ⟨a1_, av1, rfl, h_1⟩ := asCons_spec h_0
 obtain ⟨a2_, av2, rfl, h_2⟩ := asCons_spec h_1
 obtain ⟨rfl, h_3⟩ := asEnd_spec h_2
 obtain ⟨r0_, rs0, rfl, h_4⟩ := asCons_spec h_3
 obtain ⟨r1_, rs1, rfl, h_5⟩ := asCons_spec h_4
 obtain ⟨rfl, h_6⟩ := asEnd_spec h_5
 obtain ⟨z2, d1, rfl, h_7⟩ := asImm_spec h_6
 obtain ⟨d3, rfl, h_8⟩ := asImmZ_spec h_7
 obtain ⟨rfl, h_9⟩ := asFn_spec h_8
 obtain ⟨m4, d5, rfl, h_10⟩ := asRt_spec h_9
 obtain ⟨rfl, h_11⟩ := asM_spec h_10
 obtain ⟨m6, d7, rfl, h_12⟩ := asRt_spec h_11
 obtain ⟨z8, rfl, h_13⟩ := asMImm_spec h_12
 exact fin_mat (i_targetCode_i_ArePathsToc1_eq z2 z8 d1 d3 d5 d7) h_13
end Go.Proofs.Ytldafhnnnabipaa

namespace Go.Proofs.Ytldafhnnnabipaa
open Go Go.Abs Go.Proofs
noncomputable abbrev slices_Sort_int64_532a_c : Ctr := sortCtr true
theorem slices_Sort_int64_532a_walk : SortWalk Try.prog 59 := fun blk off cap zs w h1 h2 h3 => AnyG.slices_Sort_int Try.sortL blk off cap zs w h1 h2 h3
theorem slices_Sort_int64_532a_none : SortNone Try.prog 59 := fun a w => AnyG.slices_Sort_int_none Try.sortL a 0 w
theorem slices_Sort_int64_532a_ok : Contract Try.prog .none 59 slices_Sort_int64_532a_c := sort_ok slices_Sort_int64_532a_walk slices_Sort_int64_532a_none
end Go.Proofs.Ytldafhnnnabipaa

namespace Go.Proofs.Ytldafhnnnabipaa
open Go Go.Abs Go.Proofs
noncomputable def slices_Clone_int64_b930 : Tre (List Int) :=
 .ret []
noncomputable def slices_Clone_int64_b930_F : Option (List Int) := (slices_Clone_int64_b930).run some
theorem slices_Clone_int64_b930_spec : slices_Clone_int64_b930_F = some [] := rfl
noncomputable def slices_Clone_int64_b930_V : Env := ⟨tau, [], []⟩
noncomputable def slices_Clone_int64_b930_b : Code := (Try.f61.body).getD .skip
noncomputable def slices_Clone_int64_b930_I : FnI := ⟨slices_Clone_int64_b930_b, Try.f61.results.toList, Try.f61.resultTypes.toList, []⟩
noncomputable def slices_Clone_int64_b930_out : (List Int) → CallOut := fun r => ⟨(.ref (1, 0) []), [], [⟨false, (.sl (.int .i64)), .own, r⟩]⟩
set_option maxRecDepth 100000 in
theorem slices_Clone_int64_b930_eq : denFn slices_Clone_int64_b930_V slices_Clone_int64_b930_I ⟨[.nil], []⟩ = (slices_Clone_int64_b930).run fun r => some (slices_Clone_int64_b930_out r) := by kernel_rfl
noncomputable def slices_Clone_int64_b930_G (av : List AV) (rs : List Root) : Tre CallOut :=
 asCons av fun a0_ av0 =>
 asEnd av0 <|
 asEnd rs <|
 asNil a0_ <|
 .ret (slices_Clone_int64_b930_out [])
noncomputable def slices_Clone_int64_b930_c : Ctr := ⟨[], fun ci => slices_Clone_int64_b930_G ci.args ci.roots, false⟩
theorem slices_Clone_int64_b930_env : EnvOK Try.prog .none slices_Clone_int64_b930_V := envOK_nil
set_option maxRecDepth 100000 in
theorem slices_Clone_int64_b930_ok : Contract Try.prog .none 61 slices_Clone_int64_b930_c := by
 have hl : LoopsOK slices_Clone_int64_b930_V [] slices_Clone_int64_b930_b := loopsOK_nil (by kernel_rfl)
 refine (contract_of (F := slices_Clone_int64_b930_I) tau_tys slices_Clone_int64_b930_env Try.func61 (by kernel_rfl) (by kernel_rfl) (by kernel_rfl) hl []).weaken ?_
 rintro ⟨av, rs⟩ co h
 have h : (slices_Clone_int64_b930_G av rs).run some = some co := h
 obtain ⟨a0_, av0, rfl, h_0⟩ := asCons_spec h
 obtain ⟨rfl, h_1⟩ := asEnd_spec h_0
 obtain ⟨rfl, h_2⟩ := asEnd_spec h_1
 obtain ⟨rfl, h_3⟩ := asNil_spec h_2
 exact fin_ret (slices_Clone_int64_b930_eq) (slices_Clone_int64_b930_spec) h_3
end Go.Proofs.Ytldafhnnnabipaa

namespace Go.Proofs.Ytldafhnnnabipaa
open Go Go.Abs Go.Proofs
noncomputable def slices_Clone_int64_6661 (p0 : (List Int)) : Tre (List Int) :=
 .ite ((0 + p0.length) * 8 ≤ appendMax ∧ 1 ≤ 8) <|
 .ret ([] ++ p0)
noncomputable def slices_Clone_int64_6661_F (p0 : (List Int)) : Option (List Int) := (slices_Clone_int64_6661 p0).run some
theorem slices_Clone_int64_6661_spec (p0 : List Int) (y : List Int) (h : cloneR p0 = some y) : slices_Clone_int64_6661_F p0 = some y := by
 obtain ⟨hl, rfl⟩ := lim_some h
 have hb : (0 + p0.length) * 8 ≤ appendMax ∧ 1 ≤ 8 := by unfold appendMax; omega
 unfold slices_Clone_int64_6661_F slices_Clone_int64_6661
 rw [Tre.run_ite, if_pos hb]
 rfl
noncomputable def slices_Clone_int64_6661_V : Env := ⟨tau, [], []⟩
noncomputable def slices_Clone_int64_6661_b : Code := (Try.f61.body).getD .skip
noncomputable def slices_Clone_int64_6661_I : FnI := ⟨slices_Clone_int64_6661_b, Try.f61.results.toList, Try.f61.resultTypes.toList, []⟩
noncomputable def slices_Clone_int64_6661_out (_zp0 : Bool) (_p0 : (List Int)) : (List Int) → CallOut := fun r => ⟨(.ref (1, 0) []), [], [⟨false, (.sl (.int .i64)), .own, r⟩]⟩
set_option maxRecDepth 100000 in
theorem slices_Clone_int64_6661_eq : ∀ (zp0 : Bool) (p0 : (List Int)), denFn slices_Clone_int64_6661_V slices_Clone_int64_6661_I ⟨[(.nn zp0 (.int .i64) p0)], []⟩ = (slices_Clone_int64_6661 p0).run fun r => some (slices_Clone_int64_6661_out zp0 p0 r) := fun _ _ => by kernel_rfl
noncomputable def slices_Clone_int64_6661_G (av : List AV) (rs : List Root) : Tre CallOut :=
 asCons av fun a0_ av0 =>
 asEnd av0 <|
 asEnd rs <|
 asNn (.int .i64) a0_ fun z1 d2 =>
 .mat (cloneR d2) fun r => .ret (slices_Clone_int64_6661_out z1 d2 r)
noncomputable def slices_Clone_int64_6661_c : Ctr := ⟨[], fun ci => slices_Clone_int64_6661_G ci.args ci.roots, false⟩
theorem slices_Clone_int64_6661_env : EnvOK Try.prog .none slices_Clone_int64_6661_V := envOK_nil
set_option maxRecDepth 100000 in
theorem slices_Clone_int64_6661_ok : Contract Try.prog .none 61 slices_Clone_int64_6661_c := by
 have hl : LoopsOK slices_Clone_int64_6661_V [] slices_Clone_int64_6661_b := loopsOK_nil (by kernel_rfl)
 refine (contract_of (F := slices_Clone_int64_6661_I) tau_tys slices_Clone_int64_6661_env Try.func61 (by kernel_rfl) (by kernel_rfl) (by kernel_rfl) hl []).weaken ?_
 rintro ⟨av, rs⟩ co h
 have h : (slices_Clone_int64_6661_G av rs).run some = some co := h
 obtain ⟨a0_, av0, rfl, h_0⟩ := asCons_spec h
 obtain ⟨rfl, h_1⟩ := asEnd_spec h_0
 obtain ⟨rfl, h_2⟩ := asEnd_spec h_1
 obtain ⟨z1, d2, rfl, h_3⟩ := asNn_spec h_2
 exact fin_opt (slices_Clone_int64_6661_eq z1 d2) (slices_Clone_int64_6661_spec d2) h_3
end Go.Proofs.Ytldafhnnnabipaa

namespace Go.Proofs.Ytldafhnnnabipaa
open Go Go.Abs Go.Proofs
theorem slices_Clone_int64_nil (y : List Int) (h : cloneR ([] : List Int) = some y) : y = [] := (lim_some h).2.symm
noncomputable def slices_Clone_int64_G (av : List AV) (rs : List Root) : Tre CallOut :=
 asCons av fun a0_ av0 =>
 asEnd av0 <|
 asEnd rs <|
 asImm (.sl (.int .i64)) a0_ fun z2 d1 =>
 .mat (cloneR d1) fun r => .ret ⟨(.ref (1, 0) []), [], [⟨false, (.sl (.int .i64)), .own, r⟩]⟩
noncomputable def slices_Clone_int64_c : Ctr := ⟨[], fun ci => slices_Clone_int64_G ci.args ci.roots, false⟩
theorem slices_Clone_int64_ok : Contract Try.prog .none 61 slices_Clone_int64_c := by
 refine contract_nil (e := (.int .i64)) slices_Clone_int64_b930_ok slices_Clone_int64_6661_ok ?_
 rintro ⟨av, rs⟩ co h
 have h : (slices_Clone_int64_G av rs).run some = some co := h
 obtain ⟨a0_, av0, rfl, h_0⟩ := asCons_spec h
 obtain ⟨rfl, h_1⟩ := asEnd_spec h_0
 obtain ⟨rfl, h_2⟩ := asEnd_spec h_1
 obtain ⟨z2, d1, rfl, h_3⟩ := asImm_spec h_2
 refine ⟨z2, d1, rfl, ?_, ?_⟩
 ·exact h_3
 ·rintro rfl
  obtain ⟨y, h1, h2⟩ := mat_ret h_3
  have hy : y = [] := by
   have := slices_Clone_int64_nil y h1
   exact this
  subst hy
  rw [← h2]; rfl
end Go.Proofs.Ytldafhnnnabipaa

namespace Go.Proofs.Ytldafhnnnabipaa
open Go Go.Abs Go.Proofs
noncomputable abbrev slices_Compact_int64_4600_c : Ctr := compCtr false
theorem slices_Compact_int64_4600_walk : CompWalk Try.prog 60 := fun blk off cap zs w h1 h2 h3 => AnyG.slices_Compact_int Try.compL blk off cap zs w h1 h2 h3
theorem slices_Compact_int64_4600_none : CompNone Try.prog 60 := fun a cap w => AnyG.slices_Compact_int_empty Try.compL a cap w
theorem slices_Compact_int64_4600_ok : Contract Try.prog .none 60 slices_Compact_int64_4600_c := comp_ok slices_Compact_int64_4600_walk slices_Compact_int64_4600_none
end Go.Proofs.Ytldafhnnnabipaa

namespace Go.Proofs.Ytldafhnnnabipaa
open Go Go.Abs Go.Proofs
noncomputable def i_ArePathsTo_l10 (h10_0_5 : (List Int)) (h10_0_6 : Int) (h10_0_8 : TNet) : (Int × Int) → Tre ((Int × Int) ⊕ ((Bool × Int × Int) ⊕ Int)) := fun s10 =>
 .cond (decide (s10.2 < h10_0_6))
  (.ite (0 ≤ s10.2 ∧ s10.2 < (h10_0_5.length : Int)) <|
  .mat (h10_0_5[s10.2.toNat]?) fun x4 =>
  .ite (0 ≤ x4 ∧ x4 < (h10_0_8.2.2.2.1.length : Int)) <|
  .mat (h10_0_8.2.2.2.1[x4.toNat]?) fun x5 =>
  .ite ((0 : Int) ≤ 0 ∧ (0 : Int) < (x5.length : Int)) <|
  .mat (x5[0]?) fun x6 =>
  .cond (!decide (x6 = s10.1))
   (.ret (.inr (.inl (false, 0, s10.1))))
   (.ite (0 ≤ x4 ∧ x4 < (h10_0_8.2.2.2.1.length : Int)) <|
   .mat (h10_0_8.2.2.2.1[x4.toNat]?) fun x7 =>
   .ite ((0 : Int) ≤ 1 ∧ (1 : Int) < (x7.length : Int)) <|
   .mat (x7[1]?) fun x8 =>
   .ret (.inl (x8, iwrap .i64 (s10.2 + 1)))))
  (.ret (.inr (.inr s10.1)))
noncomputable def i_ArePathsTo_l6 (h6_0_0 : Int) (h6_0_1 : (List (List Int))) (h6_0_2 : Int) (h6_0_4 : TNet) : Int → Tre (Int ⊕ ((Bool × Int) ⊕ Unit)) := fun s6 =>
 .cond (decide (s6 < h6_0_2))
  (.ite (0 ≤ s6 ∧ s6 < (h6_0_1.length : Int)) <|
  .mat (h6_0_1[s6.toNat]?) fun x3 =>
  .mat (loopF (i_ArePathsTo_l10 x3 (x3.length : Int) h6_0_4) (0, 0)) fun l9 =>
  .alt l9
   (fun a10 =>
    .ret (.inr (.inl (a10.1, a10.2.1))))
   (fun b11 =>
    .cond (!decide (b11 = h6_0_0))
     (.ret (.inr (.inl (false, 0))))
     (.ret (.inl (iwrap .i64 (s6 + 1))))))
  (.ret (.inr (.inr ())))
noncomputable def i_ArePathsTo (p0 : TNet) (p1 : Int) (p2 : (List (List Int))) : Tre (Bool × Int) :=
 .mat (slices_Concat_int64_F p2) fun r1 =>
 .mat (i_targetCode_i_ArePathsToc1_F p0 p1 r1 p0) fun r2 =>
 .cond (!decide (r2 = 0))
  (.ret (false, r2))
  (.mat (loopF (i_ArePathsTo_l6 p1 p2 (p2.length : Int) p0) 0) fun l12 =>
  .alt l12
   (fun a13 =>
    .ret (a13.1, a13.2))
   (fun _ =>
    .ite (r1.length < 4611686018427387904) <|
    .mat (cloneR (sortI r1)) fun r15 =>
    .ite (r15.length < 4611686018427387904) <|
    .ret (decide ((compN r15 : Int) = ((sortI r1).length : Int)), 0)))
noncomputable def i_ArePathsTo_F (p0 : TNet) (p1 : Int) (p2 : (List (List Int))) : Option (Bool × Int) := (i_ArePathsTo p0 p1 p2).run some
-- more
theorem iArePaths_c1 (n : TN6) (hE : n.2.2.2.1.length ≤ 14) (xs : List Int) (hx : xs.length ≤ 1048576) : i_ArePathsToc1_54ca_F xs n = some (xs.all (inE n)) := by
 have h1 : slices_IndexFunc_int64_i_ArePathsToc1c1_e2dd_F xs n = some (idxI (fun x => !inE n x) 0 xs) := by
  unfold slices_IndexFunc_int64_i_ArePathsToc1c1_e2dd_F slices_IndexFunc_int64_i_ArePathsToc1c1_e2dd
  rw [Tre.run_mat, find_loop (xs := xs) (fun i x => cond (!inE n x) (some (.inl (i : Int))) none) (.inr ())]
  ·rw [Option.bind_some, ← findE_idx (p := fun x => !inE n x)]
   generalize findE _ _ _ _ = r
   cases r <;> rfl
  ·intro i x hx
   have hi : i < xs.length := (List.getElem?_eq_some_iff.1 hx).1
   unfold slices_IndexFunc_int64_i_ArePathsToc1c1_e2dd_l2
   rw [run_inb hx]
   dsimp only
   rw [show i_ArePathsToc1c1_6f01_S x n = !inE n x from by unfold i_ArePathsToc1c1_6f01_S inE; dsimp only; rw [iwrap_i64 (by omega) (by omega)], Tre.run_cond]
   cases inE n x
   ·rfl
   ·simp only [Bool.not_true, cond_false, Tre.run_ret, iwrap_succ (show i < 4611686018427387904 by omega)]
  ·unfold slices_IndexFunc_int64_i_ArePathsToc1c1_e2dd_l2
   exact run_out
 have h2 : slices_ContainsFunc_int64_i_ArePathsToc1c1_e2dd_F xs n = some (decide (idxI (fun x => !inE n x) 0 xs ≥ 0)) := by
  unfold slices_ContainsFunc_int64_i_ArePathsToc1c1_e2dd_F slices_ContainsFunc_int64_i_ArePathsToc1c1_e2dd
  rw [run_some_mat h1]
  rfl
 unfold i_ArePathsToc1_54ca_F i_ArePathsToc1_54ca
 rw [run_some_mat h2, ← idxI_all (p := inE n)]
 rfl
theorem all_flatten {α : Type} (p : α → Bool) : ∀ (l : List (List α)), l.flatten.all p = l.all fun x => x.all p := by
 intro l
 induction l with
 | nil => rfl
 | cons x l ih => rw [List.flatten_cons, List.all_append, List.all_cons, ih]
theorem i_targetCode_is (n : TN6) (node : Int) (ps : List (List Int)) (hs : sizeSS ps ≤ 1048576) : i_targetCode_i_ArePathsToc1_F n node ps.flatten n = some (pathsCode n node ps) := by
 have h1 : i_nodeCode_i_targetCodec1_F n node node ps.flatten n = some (pathsCode n node ps) := by
  unfold i_nodeCode_i_targetCodec1_F i_nodeCode_i_targetCodec1 pathsCode
  rw [run_some_mat (i_ValidNet_is n), Tre.run_cond]
  cases hn : netOk n
  ·rfl
  have hP := netOk_iff.1 hn
  have := hP.nodes
  rw [Bool.not_true, cond_false, Tre.run_cond, if_pos rfl, show i_Net_isNode_S n node = inR node 0 (n.2.1 - 1) from by unfold i_Net_isNode_S; dsimp only; rw [iwrap_i64 (by omega) (by omega)]]
  have hc : ∀ (k : Bool → Tre Int), (Tre.mat (i_targetCodec1_2009_F node ps.flatten n) k).run some = (k (!decide (node = 0) && (ps.all fun p => p.all (inE n)))).run some := by
   intro k
   refine run_some_mat ?_
   unfold i_targetCodec1_2009_F i_targetCodec1_2009
   rw [Tre.run_cond, run_some_mat (iArePaths_c1 n hP.len _ (by have := sizeSS_flatten ps; omega)), all_flatten]
   cases decide (node = 0) <;> rfl
  rw [hc, Tre.run_cond]
  generalize hz : (ps.all fun p => p.all (inE n)) = z
  by_cases h0 : node = 0
  ·subst h0
   rw [show inR 0 1 (n.2.1 - 1) = false from by rw [inR_false]; omega, if_neg (by simp)]
   cases inR 0 0 (n.2.1 - 1) <;> rfl
  ·rw [decide_eq_false h0, show inR node 1 (n.2.1 - 1) = inR node 0 (n.2.1 - 1) from by rw [Bool.eq_iff_iff, inR_iff, inR_iff]; omega]
   cases inR node 0 (n.2.1 - 1) <;> cases z <;> rfl
 unfold i_targetCode_i_ArePathsToc1_F i_targetCode_i_ArePathsToc1
 rw [run_some_mat h1]
 rfl
theorem iArePaths_l10 {n : TN6} (hn : NetP n) (p : List Int) (hl : p.length < 4611686018427387904) (hr : ∀ k ∈ p, 0 ≤ k ∧ k < n.2.2.2.1.length) :
  ∃ b, loopF (i_ArePathsTo_l10 p (p.length : Int) n) (0, 0) = some b ∧ (match b with
   | .inl x => x.1 = false ∧ x.2.1 = 0 ∧ walkF n.2.2.2.1 0 p = none
   | .inr x => walkF n.2.2.2.1 0 p = some x) := by
 have key : ∀ (l : List Int) (j : Nat) (a : Int), p.drop j = l → j ≤ p.length → ∃ b, loopF (i_ArePathsTo_l10 p (p.length : Int) n) (a, (j : Int)) = some b ∧ (match b with
   | .inl x => x.1 = false ∧ x.2.1 = 0 ∧ walkF n.2.2.2.1 a l = none
   | .inr x => walkF n.2.2.2.1 a l = some x) := by
  intro l
  induction l with
  | nil =>
   intro j a hd hj
   have : j = p.length := by have := List.drop_eq_nil_iff.1 hd; omega
   subst this
   refine ⟨.inr a, loopF_done ?_, rfl⟩
   unfold i_ArePathsTo_l10
   exact run_out
  | cons k l ih =>
   intro j a hd hj
   have hk : p[j]? = some k := by have := congrArg (·[0]?) hd; simpa using this
   have hj' : j < p.length := (List.getElem?_eq_some_iff.1 hk).1
   obtain ⟨k0, k1⟩ := hr k (List.mem_of_getElem? hk)
   obtain ⟨m, rfl⟩ := Int.eq_ofNat_of_zero_le k0
   have hm : m < n.2.2.2.1.length := by omega
   obtain ⟨e, he⟩ : ∃ e, n.2.2.2.1[m]? = some e := ⟨_, List.getElem?_eq_getElem hm⟩
   obtain ⟨c, d, rfl, _⟩ := hn.two he
   simp only [walkF, Int.toNat_natCast]
   rw [getD_of he, show e0 [c, d] = c from rfl, show e1 [c, d] = d from rfl]
   rw [loopF_eq]
   unfold i_ArePathsTo_l10
   rw [run_inb hk, run_at he, Tre.run_ite, if_pos ⟨by decide, by simp⟩, Tre.run_mat]
   simp only [List.getElem?_cons_zero, Option.bind_some]
   rw [Tre.run_cond]
   by_cases hc : c = a
   ·rw [decide_eq_true hc, Bool.not_true, cond_false, run_at he, Tre.run_ite, if_pos ⟨by decide, by simp⟩, Tre.run_mat, if_pos hc]
    simp only [List.getElem?_cons_zero, List.getElem?_cons_succ, Option.bind_some]
    rw [Tre.run_ret, Option.bind_some, iwrap_succ (by omega)]
    exact ih (j + 1) d (by rw [← List.drop_drop, hd]; rfl) (by omega)
   ·rw [decide_eq_false hc, if_neg hc]
    exact ⟨_, rfl, rfl, rfl, rfl⟩
 exact key p 0 0 rfl (Nat.zero_le _)
theorem iArePaths_l6 {n : TN6} (hn : NetP n) (node : Int) (ps : List (List Int)) (hs : sizeSS ps ≤ 1048576) (hr : ∀ p ∈ ps, ∀ k ∈ p, 0 ≤ k ∧ k < n.2.2.2.1.length) :
  loopF (i_ArePathsTo_l6 node ps (ps.length : Int) n) 0 = some (cond (ps.all fun p => walkF n.2.2.2.1 0 p == some node) (.inr ()) (.inl (false, 0))) := by
 have hpl : ps.length ≤ 1048576 := by unfold sizeSS at hs; omega
 refine all_loop' (β := (Bool × Int) ⊕ Unit) (xs := ps) (fun p => walkF n.2.2.2.1 0 p == some node) (.inl (false, 0)) (.inr ()) ?_ ?_
 ·intro i p hp
  have hi : i < ps.length := (List.getElem?_eq_some_iff.1 hp).1
  obtain ⟨b, h1, h2⟩ := iArePaths_l10 hn p (by have := sizeSS_mem (List.mem_of_getElem? hp); omega) (hr p (List.mem_of_getElem? hp))
  unfold i_ArePathsTo_l6
  rw [run_inb hp, run_some_mat h1]
  cases b with
  | inl x =>
   obtain ⟨x1, x2, x3⟩ := x
   obtain ⟨h3, h4, h5⟩ := h2
   dsimp only at h3 h4
   subst h3 h4
   rw [h5]; rfl
  | inr x =>
   dsimp only at h2
   rw [h2, Tre.run_inr, Tre.run_cond]
   by_cases hb : x = node
   ·rw [decide_eq_true hb, Bool.not_true, cond_false, Tre.run_ret, iwrap_succ (by omega), hb]; simp
   ·rw [decide_eq_false hb, show (some x == some node) = false from by simp [hb]]; rfl
 ·unfold i_ArePathsTo_l6
  exact run_out
theorem i_ArePathsTo_is (n : TN6) (node : Int) (ps : List (List Int)) (hs : sizeSS ps ≤ 1048576) : i_ArePathsTo_F n node ps = some (arePaths n node ps) := by
 have hfl := sizeSS_flatten ps
 unfold i_ArePathsTo_F i_ArePathsTo arePaths
 rw [run_some_mat (slices_Concat_is ps hs), run_some_mat (i_targetCode_is n node ps hs), Tre.run_cond]
 by_cases hc : pathsCode n node ps = 0
 case neg => rw [decide_eq_false hc, if_neg hc]; rfl
 rw [decide_eq_true hc, if_pos hc, Bool.not_true, cond_false]
 have hcond : netOk n = true ∧ (ps.all fun p => p.all (inE n)) = true := by
  unfold pathsCode at hc
  split at hc
  ·split at hc
   ·exact ⟨‹_›, (‹_ ∧ _› : _ ∧ _).2⟩
   ·cases hc
  ·cases hc
 have hP := netOk_iff.1 hcond.1
 have hr : ∀ p ∈ ps, ∀ k ∈ p, 0 ≤ k ∧ k < n.2.2.2.1.length := by
  intro p hp k hk
  have := List.all_eq_true.1 (List.all_eq_true.1 hcond.2 p hp) k hk
  unfold inE at this
  rw [inR_iff] at this
  omega
 rw [run_some_mat (iArePaths_l6 hP node ps hs hr)]
 cases ps.all fun p => walkF n.2.2.2.1 0 p == some node
 ·rfl
 rw [cond_true, Tre.run_inr, Tre.run_ite, if_pos (by omega), run_some_mat (show cloneR (sortI ps.flatten) = _ from lim_of (by rw [sortI_len]; omega)), Tre.run_ite, if_pos (by rw [sortI_len]; omega), Tre.run_ret, comp_sort, Bool.true_and]
noncomputable def i_ArePathsTo_V : Env := ⟨tau, [(52, slices_Concat_int64_c), (53, i_targetCode_i_ArePathsToc1_c), (59, slices_Sort_int64_532a_c), (61, slices_Clone_int64_c), (60, slices_Compact_int64_4600_c)], []⟩
noncomputable def i_ArePathsTo_b : Code := (Try.f12.body).getD .skip
noncomputable def i_ArePathsTo_l10_mk (z10_0 : Bool) (z10_1 : Bool) (z10_2 : Bool) (h10_0_0 : Int) (h10_0_2 : (List (List Int))) (h10_0_3 : Int) (h10_0_4 : Int) (h10_0_5 : (List Int)) (h10_0_6 : Int) (h10_0_8 : TNet) (h10_0_9 : (List Int)) : (Int × Int) → St := fun x => stOf [(1, (.imm true (.int .i64) h10_0_0)), (3, (.ptr (5, 0) [])), (8, (.ptr (10, 0) [])), (12, (.imm true (.int .i64) x.1)), (24, (.imm z10_0 (.sl (.sl (.int .i64))) h10_0_2)), (25, (.imm true (.int .i64) h10_0_3)), (26, (.imm true (.int .i64) h10_0_4)), (30, (.imm z10_1 (.sl (.int .i64)) h10_0_5)), (31, (.imm true (.int .i64) h10_0_6)), (32, (.imm true (.int .i64) x.2))] [((5, 0), some ⟨true, kNet, (.imm z10_2), h10_0_8⟩), ((10, 0), some ⟨true, (.sl (.int .i64)), .own, h10_0_9⟩)]
noncomputable def i_ArePathsTo_l10_out (z10_0 : Bool) (_z10_1 : Bool) (z10_2 : Bool) (h10_0_0 : Int) (h10_0_2 : (List (List Int))) (h10_0_3 : Int) (h10_0_4 : Int) (_h10_0_5 : (List Int)) (_h10_0_6 : Int) (h10_0_8 : TNet) (h10_0_9 : (List Int)) : ((Bool × Int × Int) ⊕ Int) → Ex × St
 | .inl x => (.ret, stOf [(1, (.imm true (.int .i64) h10_0_0)), (3, (.ptr (5, 0) [])), (6, (.imm true .bool x.1)), (7, (.imm true (.int .i64) x.2.1)), (8, (.ptr (10, 0) [])), (12, (.imm true (.int .i64) x.2.2)), (24, (.imm z10_0 (.sl (.sl (.int .i64))) h10_0_2)), (25, (.imm true (.int .i64) h10_0_3)), (26, (.imm true (.int .i64) h10_0_4))] [((5, 0), some ⟨true, kNet, (.imm z10_2), h10_0_8⟩), ((10, 0), some ⟨true, (.sl (.int .i64)), .own, h10_0_9⟩)])
 | .inr x => (.exit 2, stOf [(1, (.imm true (.int .i64) h10_0_0)), (3, (.ptr (5, 0) [])), (6, .dead), (7, .dead), (8, (.ptr (10, 0) [])), (12, (.imm true (.int .i64) x)), (24, (.imm z10_0 (.sl (.sl (.int .i64))) h10_0_2)), (25, (.imm true (.int .i64) h10_0_3)), (26, (.imm true (.int .i64) h10_0_4))] [((5, 0), some ⟨true, kNet, (.imm z10_2), h10_0_8⟩), ((10, 0), some ⟨true, (.sl (.int .i64)), .own, h10_0_9⟩)])
noncomputable def i_ArePathsTo_l10_D (s : St) : Tre (Ex × St) :=
 asImmZ true (.int .i64) (s.tmps 1) fun d2 =>
 asPtr (5, 0) [] (s.tmps 3) <|
 asPtr (10, 0) [] (s.tmps 8) <|
 asImmZ true (.int .i64) (s.tmps 12) fun d6 =>
 asImm (.sl (.sl (.int .i64))) (s.tmps 24) fun z9 d8 =>
 asImmZ true (.int .i64) (s.tmps 25) fun d11 =>
 asImmZ true (.int .i64) (s.tmps 26) fun d13 =>
 asImm (.sl (.int .i64)) (s.tmps 30) fun z16 d15 =>
 asImmZ true (.int .i64) (s.tmps 31) fun d18 =>
 asImmZ true (.int .i64) (s.tmps 32) fun d20 =>
 asRoot true kNet (s.roots (5, 0)) fun m22 d23 =>
 asMImm m22 fun z24 =>
 asRoot true (.sl (.int .i64)) (s.roots (10, 0)) fun m26 d27 =>
 asM .own m26 <|
 .mat (loopF (i_ArePathsTo_l10 d15 d18 d23) (d6, d20)) fun x => .alt x (fun a0 => .ret (i_ArePathsTo_l10_out z9 z16 z24 d2 d8 d11 d13 d15 d18 d23 d27 (.inl a0))) (fun b0 => .ret (i_ArePathsTo_l10_out z9 z16 z24 d2 d8 d11 d13 d15 d18 d23 d27 (.inr b0)))
noncomputable def i_ArePathsTo_l10_L : LoopI := ⟨([1, 3, 8, 12, 24, 25, 26, 30, 31, 32], [(5, 0), (10, 0)]), ([1, 3, 6, 7, 8, 12, 24, 25, 26], [(5, 0), (10, 0)]), i_ArePathsTo_l10_D⟩
noncomputable def i_ArePathsTo_l6_mk (z6_0 : Bool) (z6_1 : Bool) (h6_0_0 : Int) (h6_0_1 : (List (List Int))) (h6_0_2 : Int) (h6_0_4 : TNet) (h6_0_5 : (List Int)) : Int → St := fun x => stOf [(1, (.imm true (.int .i64) h6_0_0)), (3, (.ptr (5, 0) [])), (8, (.ptr (10, 0) [])), (24, (.imm z6_0 (.sl (.sl (.int .i64))) h6_0_1)), (25, (.imm true (.int .i64) h6_0_2)), (26, (.imm true (.int .i64) x))] [((5, 0), some ⟨true, kNet, (.imm z6_1), h6_0_4⟩), ((10, 0), some ⟨true, (.sl (.int .i64)), .own, h6_0_5⟩)]
noncomputable def i_ArePathsTo_l6_out (_z6_0 : Bool) (_z6_1 : Bool) (_h6_0_0 : Int) (_h6_0_1 : (List (List Int))) (_h6_0_2 : Int) (_h6_0_4 : TNet) (h6_0_5 : (List Int)) : ((Bool × Int) ⊕ Unit) → Ex × St
 | .inl x => (.ret, stOf [(6, (.imm true .bool x.1)), (7, (.imm true (.int .i64) x.2)), (8, (.ptr (10, 0) []))] [((10, 0), some ⟨true, (.sl (.int .i64)), .own, h6_0_5⟩)])
 | .inr x => (.exit 0, stOf [(6, .dead), (7, .dead), (8, (.ptr (10, 0) []))] [((10, 0), some ⟨true, (.sl (.int .i64)), .own, h6_0_5⟩)])
noncomputable def i_ArePathsTo_l6_D (s : St) : Tre (Ex × St) :=
 asImmZ true (.int .i64) (s.tmps 1) fun d2 =>
 asPtr (5, 0) [] (s.tmps 3) <|
 asPtr (10, 0) [] (s.tmps 8) <|
 asImm (.sl (.sl (.int .i64))) (s.tmps 24) fun z7 d6 =>
 asImmZ true (.int .i64) (s.tmps 25) fun d9 =>
 asImmZ true (.int .i64) (s.tmps 26) fun d11 =>
 asRoot true kNet (s.roots (5, 0)) fun m13 d14 =>
 asMImm m13 fun z15 =>
 asRoot true (.sl (.int .i64)) (s.roots (10, 0)) fun m17 d18 =>
 asM .own m17 <|
 .mat (loopF (i_ArePathsTo_l6 d2 d6 d9 d14) d11) fun x => .alt x (fun a0 => .ret (i_ArePathsTo_l6_out z7 z15 d2 d6 d9 d14 d18 (.inl a0))) (fun b0 => .ret (i_ArePathsTo_l6_out z7 z15 d2 d6 d9 d14 d18 (.inr b0)))
noncomputable def i_ArePathsTo_l6_L : LoopI := ⟨([1, 3, 8, 24, 25, 26], [(5, 0), (10, 0)]), ([6, 7, 8], [(10, 0)]), i_ArePathsTo_l6_D⟩
noncomputable def i_ArePathsTo_A : List (Nat × LoopI) := [(10, i_ArePathsTo_l10_L), (6, i_ArePathsTo_l6_L)]
set_option maxRecDepth 100000 in
theorem i_ArePathsTo_l10_step : ∀ (z10_0 : Bool) (z10_1 : Bool) (z10_2 : Bool) (h10_0_0 : Int) (h10_0_2 : (List (List Int))) (h10_0_3 : Int) (h10_0_4 : Int) (h10_0_5 : (List Int)) (h10_0_6 : Int) (h10_0_8 : TNet) (h10_0_9 : (List Int)) (x : (Int × Int)) (c : St → Option (Ex × St)), den i_ArePathsTo_V i_ArePathsTo_A (loopAt i_ArePathsTo_b 1) (i_ArePathsTo_l10_mk z10_0 z10_1 z10_2 h10_0_0 h10_0_2 h10_0_3 h10_0_4 h10_0_5 h10_0_6 h10_0_8 h10_0_9 x) (roundK i_ArePathsTo_l10_L.kp i_ArePathsTo_l10_L.kx c) = (i_ArePathsTo_l10 h10_0_5 h10_0_6 h10_0_8 x).run (roundR (i_ArePathsTo_l10_mk z10_0 z10_1 z10_2 h10_0_0 h10_0_2 h10_0_3 h10_0_4 h10_0_5 h10_0_6 h10_0_8 h10_0_9) (i_ArePathsTo_l10_out z10_0 z10_1 z10_2 h10_0_0 h10_0_2 h10_0_3 h10_0_4 h10_0_5 h10_0_6 h10_0_8 h10_0_9) c) := fun _ _ _ _ _ _ _ _ _ _ _ _ _ => by
 kernel_rfl
theorem i_ArePathsTo_l10_ok : LoopOK i_ArePathsTo_V i_ArePathsTo_A (loopAt i_ArePathsTo_b 1) i_ArePathsTo_l10_L := loopOK_of fun s e s' h => by
 generalize hs : restrict i_ArePathsTo_l10_L.kp s = s1 at h
 have h : (i_ArePathsTo_l10_D s1).run some = some (e, s') := h
 obtain ⟨d2, e1, h_0⟩ := asImmZ_spec h
 obtain ⟨e3, h_1⟩ := asPtr_spec h_0
 obtain ⟨e4, h_2⟩ := asPtr_spec h_1
 obtain ⟨d6, e5, h_3⟩ := asImmZ_spec h_2
 obtain ⟨z9, d8, e7, h_4⟩ := asImm_spec h_3
 obtain ⟨d11, e10, h_5⟩ := asImmZ_spec h_4
 obtain ⟨d13, e12, h_6⟩ := asImmZ_spec h_5
 obtain ⟨z16, d15, e14, h_7⟩ := asImm_spec h_6
 obtain ⟨d18, e17, h_8⟩ := asImmZ_spec h_7
 obtain ⟨d20, e19, h_9⟩ := asImmZ_spec h_8
 obtain ⟨m22, d23, e21, h_10⟩ := asRoot_spec h_9
 obtain ⟨z24, rfl, h_11⟩ := asMImm_spec h_10
 obtain ⟨m26, d27, e25, h_12⟩ := asRoot_spec h_11
 obtain ⟨rfl, h_13⟩ := asM_spec h_12
 obtain ⟨y, hy, hz⟩ := mat_some h_13
 refine ⟨_, _, i_ArePathsTo_l10_mk z9 z16 z24 d2 d8 d11 d13 d15 d18 d23 d27, i_ArePathsTo_l10_out z9 z16 z24 d2 d8 d11 d13 d15 d18 d23 d27, i_ArePathsTo_l10 d15 d18 d23, (d6, d20), y, ?_, hy, ?_, i_ArePathsTo_l10_step z9 z16 z24 d2 d8 d11 d13 d15 d18 d23 d27⟩
 ·subst hs; exact restrict_eq (T := [(1, (.imm true (.int .i64) d2)), (3, (.ptr (5, 0) [])), (8, (.ptr (10, 0) [])), (12, (.imm true (.int .i64) d6)), (24, (.imm z9 (.sl (.sl (.int .i64))) d8)), (25, (.imm true (.int .i64) d11)), (26, (.imm true (.int .i64) d13)), (30, (.imm z16 (.sl (.int .i64)) d15)), (31, (.imm true (.int .i64) d18)), (32, (.imm true (.int .i64) d20))]) (U := [((5, 0), some ⟨true, kNet, (.imm z24), d23⟩), ((10, 0), some ⟨true, (.sl (.int .i64)), .own, d27⟩)]) rfl rfl ⟨e1, e3, e4, e5, e7, e10, e12, e14, e17, e19, trivial⟩ ⟨e21, e25, trivial⟩
 ·rcases y with x | x <;> exact Option.some.inj hz
set_option maxRecDepth 100000 in
theorem i_ArePathsTo_l6_step : ∀ (z6_0 : Bool) (z6_1 : Bool) (h6_0_0 : Int) (h6_0_1 : (List (List Int))) (h6_0_2 : Int) (h6_0_4 : TNet) (h6_0_5 : (List Int)) (x : Int) (c : St → Option (Ex × St)), den i_ArePathsTo_V i_ArePathsTo_A (loopAt i_ArePathsTo_b 0) (i_ArePathsTo_l6_mk z6_0 z6_1 h6_0_0 h6_0_1 h6_0_2 h6_0_4 h6_0_5 x) (roundK i_ArePathsTo_l6_L.kp i_ArePathsTo_l6_L.kx c) = (i_ArePathsTo_l6 h6_0_0 h6_0_1 h6_0_2 h6_0_4 x).run (roundR (i_ArePathsTo_l6_mk z6_0 z6_1 h6_0_0 h6_0_1 h6_0_2 h6_0_4 h6_0_5) (i_ArePathsTo_l6_out z6_0 z6_1 h6_0_0 h6_0_1 h6_0_2 h6_0_4 h6_0_5) c) := fun _ _ _ _ _ _ _ _ _ => by
 kernel_rfl
theorem i_ArePathsTo_l6_ok : LoopOK i_ArePathsTo_V i_ArePathsTo_A (loopAt i_ArePathsTo_b 0) i_ArePathsTo_l6_L := loopOK_of fun s e s' h => by
 generalize hs : restrict i_ArePathsTo_l6_L.kp s = s1 at h
 have h : (i_ArePathsTo_l6_D s1).run some = some (e, s') := h
 obtain ⟨d2, e1, h_0⟩ := asImmZ_spec h
 obtain ⟨e3, h_1⟩ := asPtr_spec h_0
 obtain ⟨e4, h_2⟩ := asPtr_spec h_1
 obtain ⟨z7, d6, e5, h_3⟩ := asImm_spec h_2
 obtain ⟨d9, e8, h_4⟩ := asImmZ_spec h_3
 obtain ⟨d11, e10, h_5⟩ := asImmZ_spec h_4
 obtain ⟨m13, d14, e12, h_6⟩ := asRoot_spec h_5
 obtain ⟨z15, rfl, h_7⟩ := asMImm_spec h_6
 obtain ⟨m17, d18, e16, h_8⟩ := asRoot_spec h_7
 obtain ⟨rfl, h_9⟩ := asM_spec h_8
 obtain ⟨y, hy, hz⟩ := mat_some h_9
 refine ⟨_, _, i_ArePathsTo_l6_mk z7 z15 d2 d6 d9 d14 d18, i_ArePathsTo_l6_out z7 z15 d2 d6 d9 d14 d18, i_ArePathsTo_l6 d2 d6 d9 d14, d11, y, ?_, hy, ?_, i_ArePathsTo_l6_step z7 z15 d2 d6 d9 d14 d18⟩
 ·subst hs; exact restrict_eq (T := [(1, (.imm true (.int .i64) d2)), (3, (.ptr (5, 0) [])), (8, (.ptr (10, 0) [])), (24, (.imm z7 (.sl (.sl (.int .i64))) d6)), (25, (.imm true (.int .i64) d9)), (26, (.imm true (.int .i64) d11))]) (U := [((5, 0), some ⟨true, kNet, (.imm z15), d14⟩), ((10, 0), some ⟨true, (.sl (.int .i64)), .own, d18⟩)]) rfl rfl ⟨e1, e3, e4, e5, e8, e10, trivial⟩ ⟨e12, e16, trivial⟩
 ·rcases y with x | x <;> exact Option.some.inj hz
noncomputable def i_ArePathsTo_I : FnI := ⟨i_ArePathsTo_b, Try.f12.results.toList, Try.f12.resultTypes.toList, i_ArePathsTo_A⟩
noncomputable def i_ArePathsTo_out (_zp0 : Bool) (_zp1 : Bool) (_p0 : TNet) (_p1 : Int) (_p2 : (List (List Int))) : (Bool × Int) → CallOut := fun r => ⟨(.tcons (.imm true .bool r.1) (.tcons (.imm true (.int .i64) r.2) .tnil)), [], []⟩
set_option maxRecDepth 100000 in
theorem i_ArePathsTo_eq : ∀ (zp0 : Bool) (zp1 : Bool) (p0 : TNet) (p1 : Int) (p2 : (List (List Int))), denFn i_ArePathsTo_V i_ArePathsTo_I ⟨[(.imm zp0 kNet p0), (.imm true (.int .i64) p1), (.imm zp1 (.sl (.sl (.int .i64))) p2)], []⟩ = (i_ArePathsTo p0 p1 p2).run fun r => some (i_ArePathsTo_out zp0 zp1 p0 p1 p2 r) := fun _ _ _ _ _ => by kernel_rfl
noncomputable def i_ArePathsTo_G (av : List AV) (rs : List Root) : Tre CallOut :=
 asCons av fun a0_ av0 =>
 asCons av0 fun a1_ av1 =>
 asCons av1 fun a2_ av2 =>
 asEnd av2 <|
 asEnd rs <|
 asImm kNet a0_ fun z2 d1 =>
 asImmZ true (.int .i64) a1_ fun d3 =>
 asImm (.sl (.sl (.int .i64))) a2_ fun z5 d4 =>
 .mat (i_ArePathsTo_F d1 d3 d4) fun r => .ret (i_ArePathsTo_out z2 z5 d1 d3 d4 r)
noncomputable def i_ArePathsTo_c : Ctr := ⟨[], fun ci => i_ArePathsTo_G ci.args ci.roots, false⟩
theorem i_ArePathsTo_env : EnvOK Try.prog .none i_ArePathsTo_V := (envOK_cons slices_Concat_int64_ok ent52 (envOK_cons i_targetCode_i_ArePathsToc1_ok ent53 (envOK_cons slices_Sort_int64_532a_ok ent59 (envOK_cons slices_Clone_int64_ok ent61 (envOK_cons slices_Compact_int64_4600_ok ent60 envOK_nil)))))
set_option maxRecDepth 100000 in
theorem i_ArePathsTo_ok : Contract Try.prog .none 12 i_ArePathsTo_c := by
 have hl : LoopsOK i_ArePathsTo_V i_ArePathsTo_A i_ArePathsTo_b := (loopsOK_all (n := 2) (by kernel_rfl) fun k hk => by
   match k, hk with
   | 0, _ => exact loopOK_at (id := 6) (L := i_ArePathsTo_l6_L) (by kernel_rfl) (by kernel_rfl) i_ArePathsTo_l6_ok
   | 1, _ => exact loopOK_at (id := 10) (L := i_ArePathsTo_l10_L) (by kernel_rfl) (by kernel_rfl) i_ArePathsTo_l10_ok)
 refine (contract_of (F := i_ArePathsTo_I) tau_tys i_ArePathsTo_env Try.func12 (by kernel_rfl) (by kernel_rfl) (by kernel_rfl) hl []).weaken ?_
 rintro ⟨av, rs⟩ co h
 have h : (i_ArePathsTo_G av rs).run some = some co := h
 obtain ⟨a0_, av0, rfl, h_0⟩ := asCons_spec h
 obtain ⟨a1_, av1, rfl, h_1⟩ := asCons_spec h_0
 obtain ⟨a2_, av2, rfl, h_2⟩ := asCons_spec h_1
 obtain ⟨rfl, h_3⟩ := asEnd_spec h_2
 obtain ⟨rfl, h_4⟩ := asEnd_spec h_3
 obtain ⟨z2, d1, rfl, h_5⟩ := asImm_spec h_4
 obtain ⟨d3, rfl, h_6⟩ := asImmZ_spec h_5
 obtain ⟨z5, d4, rfl, h_7⟩ := asImm_spec h_6
 exact fin_mat (i_ArePathsTo_eq z2 z5 d1 d3 d4) h_7
end Go.Proofs.Ytldafhnnnabipaa

namespace Go.Proofs.Ytldafhnnnabipaa
open Go Go.Abs Go.Proofs
noncomputable def l_eqField (p0 : (Int × (Int × Unit))) (p1 : (Int × (Int × Unit))) : Tre Bool :=
 .cond (!decide (p0.1 = p1.1))
  (.ret false)
  (.cond (!decide (p0.2.1 = p1.2.1))
   (.ret false)
   (.ret true))
noncomputable def l_eqField_F (p0 : (Int × (Int × Unit))) (p1 : (Int × (Int × Unit))) : Option Bool := (l_eqField p0 p1).run some
def l_eqField_S (p0 : (Int × (Int × Unit))) (p1 : (Int × (Int × Unit))) : Bool :=
 cond (!decide (p0.1 = p1.1))
  (false)
  (cond (!decide (p0.2.1 = p1.2.1))
   (false)
   (true))
theorem l_eqField_spec (p0 : (Int × (Int × Unit))) (p1 : (Int × (Int × Unit))) : l_eqField_F p0 p1 = some (l_eqField_S p0 p1) := (run_cond_some rfl (run_cond_some rfl rfl))
noncomputable def l_eqField_V : Env := ⟨tau, [], []⟩
noncomputable def l_eqField_b : Code := (Try.f62.body).getD .skip
noncomputable def l_eqField_I : FnI := ⟨l_eqField_b, Try.f62.results.toList, Try.f62.resultTypes.toList, []⟩
noncomputable def l_eqField_out (_p0 : (Int × (Int × Unit))) (_p1 : (Int × (Int × Unit))) : Bool → CallOut := fun r => ⟨(.imm true .bool r), [], []⟩
set_option maxRecDepth 100000 in
theorem l_eqField_eq : ∀ (p0 : (Int × (Int × Unit))) (p1 : (Int × (Int × Unit))), denFn l_eqField_V l_eqField_I ⟨[(.imm true kField p0), (.imm true kField p1)], []⟩ = (l_eqField p0 p1).run fun r => some (l_eqField_out p0 p1 r) := fun _ _ => by kernel_rfl
noncomputable def l_eqField_G (av : List AV) (rs : List Root) : Tre CallOut :=
 asCons av fun a0_ av0 =>
 asCons av0 fun a1_ av1 =>
 asEnd av1 <|
 asEnd rs <|
 asImmZ true kField a0_ fun d1 =>
 asImmZ true kField a1_ fun d2 =>
 .ret (l_eqField_out d1 d2 (l_eqField_S d1 d2))
noncomputable def l_eqField_c : Ctr := ⟨[], fun ci => l_eqField_G ci.args ci.roots, false⟩
theorem l_eqField_env : EnvOK Try.prog .none l_eqField_V := envOK_nil
set_option maxRecDepth 100000 in
theorem l_eqField_ok : Contract Try.prog .none 62 l_eqField_c := by
 have hl : LoopsOK l_eqField_V [] l_eqField_b := loopsOK_nil (by kernel_rfl)
 refine (contract_of (F := l_eqField_I) tau_tys l_eqField_env Try.func62 (by kernel_rfl) (by kernel_rfl) (by kernel_rfl) hl []).weaken ?_
 rintro ⟨av, rs⟩ co h
 have h : (l_eqField_G av rs).run some = some co := h
 obtain ⟨a0_, av0, rfl, h_0⟩ := asCons_spec h
 obtain ⟨a1_, av1, rfl, h_1⟩ := asCons_spec h_0
 obtain ⟨rfl, h_2⟩ := asEnd_spec h_1
 obtain ⟨rfl, h_3⟩ := asEnd_spec h_2
 obtain ⟨d1, rfl, h_4⟩ := asImmZ_spec h_3
 obtain ⟨d2, rfl, h_5⟩ := asImmZ_spec h_4
 exact fin_ret (l_eqField_eq d1 d2) (l_eqField_spec d1 d2) h_5
end Go.Proofs.Ytldafhnnnabipaa

namespace Go.Proofs.Ytldafhnnnabipaa
open Go Go.Abs Go.Proofs
noncomputable def l_eqInt64S_l4 (h4_0_0 : (List Int)) (h4_0_1 : (List Int)) : Int → Tre (Int ⊕ (Bool ⊕ Unit)) := fun s4 =>
 .cond (decide (s4 < (h4_0_0.length : Int)))
  (.ite (0 ≤ s4 ∧ s4 < (h4_0_0.length : Int)) <|
  .mat (h4_0_0[s4.toNat]?) fun x1 =>
  .ite (0 ≤ s4 ∧ s4 < (h4_0_1.length : Int)) <|
  .mat (h4_0_1[s4.toNat]?) fun x2 =>
  .cond (!decide (x1 = x2))
   (.ret (.inr (.inl false)))
   (.ret (.inl (iwrap .i64 (s4 + 1)))))
  (.ret (.inr (.inr ())))
noncomputable def l_eqInt64S (p0 : (List Int)) (p1 : (List Int)) : Tre Bool :=
 .cond (!decide ((p0.length : Int) = (p1.length : Int)))
  (.ret false)
  (.mat (loopF (l_eqInt64S_l4 p0 p1) 0) fun l3 =>
  .alt l3
   (fun a4 =>
    .ret a4)
   (fun _ =>
    .ret true))
noncomputable def l_eqInt64S_F (p0 : (List Int)) (p1 : (List Int)) : Option Bool := (l_eqInt64S p0 p1).run some
abbrev eqS (p0 p1 : List Int) : Option Bool := eqR p0.length p0 p1
theorem l_eqInt64S_spec (p0 p1 : List Int) (y : Bool) (h : eqR p0.length p0 p1 = some y) : l_eqInt64S_F p0 p1 = some y := by
 obtain ⟨hl, rfl, rfl⟩ := eqR_some h
 unfold l_eqInt64S_F l_eqInt64S
 rw [Tre.run_cond, show (!decide ((p0.length : Int) = (p0.length : Int))) = false from by simp, cond_false, Tre.run_mat, find_loop (xs := p0) (fun _ _ => none) (.inr ())]
 ·have : ∀ (l : List Int) (i : Nat), findE (β := Bool ⊕ Unit) (fun _ _ => none) (.inr ()) i l = .inr () := by
   intro l
   induction l with
   | nil => intro i; rfl
   | cons x l ih => intro i; exact ih _
  rw [this]
  rfl
 ·intro i x hx
  have hi : i < p0.length := (List.getElem?_eq_some_iff.1 hx).1
  unfold l_eqInt64S_l4
  rw [run_inb hx, run_at hx, Tre.run_cond]
  simp only [decide_true, Bool.not_true, cond_false, Tre.run_ret, iwrap_succ (show i < 4611686018427387904 by omega)]
 ·unfold l_eqInt64S_l4
  exact run_out
noncomputable def l_eqInt64S_V : Env := ⟨tau, [], []⟩
noncomputable def l_eqInt64S_b : Code := (Try.f63.body).getD .skip
noncomputable def l_eqInt64S_l4_mk (z4_0 : Bool) (z4_1 : Bool) (h4_0_0 : (List Int)) (h4_0_1 : (List Int)) : Int → St := fun x => stOf [(0, (.imm z4_0 (.sl (.int .i64)) h4_0_0)), (1, (.imm z4_1 (.sl (.int .i64)) h4_0_1)), (5, (.imm true (.int .i64) x))] []
noncomputable def l_eqInt64S_l4_out (_z4_0 : Bool) (_z4_1 : Bool) (_h4_0_0 : (List Int)) (_h4_0_1 : (List Int)) : (Bool ⊕ Unit) → Ex × St
 | .inl x => (.ret, stOf [(4, (.imm true .bool x))] [])
 | .inr x => (.exit 0, stOf [(4, .dead)] [])
noncomputable def l_eqInt64S_l4_D (s : St) : Tre (Ex × St) :=
 asImm (.sl (.int .i64)) (s.tmps 0) fun z3 d2 =>
 asImm (.sl (.int .i64)) (s.tmps 1) fun z6 d5 =>
 asImmZ true (.int .i64) (s.tmps 5) fun d8 =>
 .mat (loopF (l_eqInt64S_l4 d2 d5) d8) fun x => .alt x (fun a0 => .ret (l_eqInt64S_l4_out z3 z6 d2 d5 (.inl a0))) (fun b0 => .ret (l_eqInt64S_l4_out z3 z6 d2 d5 (.inr b0)))
noncomputable def l_eqInt64S_l4_L : LoopI := ⟨([0, 1, 5], []), ([4], []), l_eqInt64S_l4_D⟩
noncomputable def l_eqInt64S_A : List (Nat × LoopI) := [(4, l_eqInt64S_l4_L)]
set_option maxRecDepth 100000 in
theorem l_eqInt64S_l4_step : ∀ (z4_0 : Bool) (z4_1 : Bool) (h4_0_0 : (List Int)) (h4_0_1 : (List Int)) (x : Int) (c : St → Option (Ex × St)), den l_eqInt64S_V l_eqInt64S_A (loopAt l_eqInt64S_b 0) (l_eqInt64S_l4_mk z4_0 z4_1 h4_0_0 h4_0_1 x) (roundK l_eqInt64S_l4_L.kp l_eqInt64S_l4_L.kx c) = (l_eqInt64S_l4 h4_0_0 h4_0_1 x).run (roundR (l_eqInt64S_l4_mk z4_0 z4_1 h4_0_0 h4_0_1) (l_eqInt64S_l4_out z4_0 z4_1 h4_0_0 h4_0_1) c) := fun _ _ _ _ _ _ => by
 kernel_rfl
theorem l_eqInt64S_l4_ok : LoopOK l_eqInt64S_V l_eqInt64S_A (loopAt l_eqInt64S_b 0) l_eqInt64S_l4_L := loopOK_of fun s e s' h => by
 generalize hs : restrict l_eqInt64S_l4_L.kp s = s1 at h
 have h : (l_eqInt64S_l4_D s1).run some = some (e, s') := h
 obtain ⟨z3, d2, e1, h_0⟩ := asImm_spec h
 obtain ⟨z6, d5, e4, h_1⟩ := asImm_spec h_0
 obtain ⟨d8, e7, h_2⟩ := asImmZ_spec h_1
 obtain ⟨y, hy, hz⟩ := mat_some h_2
 refine ⟨_, _, l_eqInt64S_l4_mk z3 z6 d2 d5, l_eqInt64S_l4_out z3 z6 d2 d5, l_eqInt64S_l4 d2 d5, d8, y, ?_, hy, ?_, l_eqInt64S_l4_step z3 z6 d2 d5⟩
 ·subst hs; exact restrict_eq (T := [(0, (.imm z3 (.sl (.int .i64)) d2)), (1, (.imm z6 (.sl (.int .i64)) d5)), (5, (.imm true (.int .i64) d8))]) (U := []) rfl rfl ⟨e1, e4, e7, trivial⟩ trivial
 ·rcases y with x | x <;> exact Option.some.inj hz
noncomputable def l_eqInt64S_I : FnI := ⟨l_eqInt64S_b, Try.f63.results.toList, Try.f63.resultTypes.toList, l_eqInt64S_A⟩
noncomputable def l_eqInt64S_out (_zp0 : Bool) (_zp1 : Bool) (_p0 : (List Int)) (_p1 : (List Int)) : Bool → CallOut := fun r => ⟨(.imm true .bool r), [], []⟩
set_option maxRecDepth 100000 in
theorem l_eqInt64S_eq : ∀ (zp0 : Bool) (zp1 : Bool) (p0 : (List Int)) (p1 : (List Int)), denFn l_eqInt64S_V l_eqInt64S_I ⟨[(.imm zp0 (.sl (.int .i64)) p0), (.imm zp1 (.sl (.int .i64)) p1)], []⟩ = (l_eqInt64S p0 p1).run fun r => some (l_eqInt64S_out zp0 zp1 p0 p1 r) := fun _ _ _ _ => by kernel_rfl
noncomputable def l_eqInt64S_G (av : List AV) (rs : List Root) : Tre CallOut :=
 asCons av fun a0_ av0 =>
 asCons av0 fun a1_ av1 =>
 asEnd av1 <|
 asEnd rs <|
 asImm (.sl (.int .i64)) a0_ fun z2 d1 =>
 asImm (.sl (.int .i64)) a1_ fun z4 d3 =>
 .mat (eqS d1 d3) fun r => .ret (l_eqInt64S_out z2 z4 d1 d3 r)
noncomputable def l_eqInt64S_c : Ctr := ⟨[], fun ci => l_eqInt64S_G ci.args ci.roots, false⟩
theorem l_eqInt64S_env : EnvOK Try.prog .none l_eqInt64S_V := envOK_nil
set_option maxRecDepth 100000 in
theorem l_eqInt64S_ok : Contract Try.prog .none 63 l_eqInt64S_c := by
 have hl : LoopsOK l_eqInt64S_V l_eqInt64S_A l_eqInt64S_b := (loopsOK_all (n := 1) (by kernel_rfl) fun k hk => by
   match k, hk with
   | 0, _ => exact loopOK_at (id := 4) (L := l_eqInt64S_l4_L) (by kernel_rfl) (by kernel_rfl) l_eqInt64S_l4_ok)
 refine (contract_of (F := l_eqInt64S_I) tau_tys l_eqInt64S_env Try.func63 (by kernel_rfl) (by kernel_rfl) (by kernel_rfl) hl []).weaken ?_
 rintro ⟨av, rs⟩ co h
 have h : (l_eqInt64S_G av rs).run some = some co := h
 obtain ⟨a0_, av0, rfl, h_0⟩ := asCons_spec h
 obtain ⟨a1_, av1, rfl, h_1⟩ := asCons_spec h_0
 obtain ⟨rfl, h_2⟩ := asEnd_spec h_1
 obtain ⟨rfl, h_3⟩ := asEnd_spec h_2
 obtain ⟨z2, d1, rfl, h_4⟩ := asImm_spec h_3
 obtain ⟨z4, d3, rfl, h_5⟩ := asImm_spec h_4
 exact fin_opt (l_eqInt64S_eq z2 z4 d1 d3) (l_eqInt64S_spec d1 d3) h_5
end Go.Proofs.Ytldafhnnnabipaa

namespace Go.Proofs.Ytldafhnnnabipaa
open Go Go.Abs Go.Proofs
noncomputable def l_eqInt64SS_l4 (h4_0_0 : (List (List Int))) (h4_0_1 : (List (List Int))) : Int → Tre (Int ⊕ (Bool ⊕ Unit)) := fun s4 =>
 .cond (decide (s4 < (h4_0_0.length : Int)))
  (.ite (0 ≤ s4 ∧ s4 < (h4_0_0.length : Int)) <|
  .mat (h4_0_0[s4.toNat]?) fun x1 =>
  .ite (0 ≤ s4 ∧ s4 < (h4_0_1.length : Int)) <|
  .mat (h4_0_1[s4.toNat]?) fun x2 =>
  .mat (eqS x1 x2) fun r3 =>
  .cond (!r3)
   (.ret (.inr (.inl false)))
   (.ret (.inl (iwrap .i64 (s4 + 1)))))
  (.ret (.inr (.inr ())))
noncomputable def l_eqInt64SS (p0 : (List (List Int))) (p1 : (List (List Int))) : Tre Bool :=
 .cond (!decide ((p0.length : Int) = (p1.length : Int)))
  (.ret false)
  (.mat (loopF (l_eqInt64SS_l4 p0 p1) 0) fun l4 =>
  .alt l4
   (fun a5 =>
    .ret a5)
   (fun _ =>
    .ret true))
noncomputable def l_eqInt64SS_F (p0 : (List (List Int))) (p1 : (List (List Int))) : Option Bool := (l_eqInt64SS p0 p1).run some
-- more
theorem l_eqInt64SS_is (p0 : List (List Int)) (h : sizeSS p0 ≤ 1048576) : l_eqInt64SS_F p0 p0 = some true := by
 have hl : p0.length ≤ 1048576 := by unfold sizeSS at h; omega
 unfold l_eqInt64SS_F l_eqInt64SS
 rw [Tre.run_cond, show (!decide ((p0.length : Int) = (p0.length : Int))) = false from by simp, cond_false, Tre.run_mat, find_loop (xs := p0) (fun _ _ => none) (.inr ())]
 ·have : ∀ (l : List (List Int)) (i : Nat), findE (β := Bool ⊕ Unit) (fun _ _ => none) (.inr ()) i l = .inr () := by
   intro l
   induction l with
   | nil => intro i; rfl
   | cons x l ih => intro i; exact ih _
  rw [this]
  rfl
 ·intro i x hx
  have hi : i < p0.length := (List.getElem?_eq_some_iff.1 hx).1
  unfold l_eqInt64SS_l4
  rw [run_inb hx, run_at hx, run_some_mat (show eqS x x = some true from eqR_self (by have := sizeSS_mem (List.mem_of_getElem? hx); omega)), Tre.run_cond]
  simp only [Bool.not_true, cond_false, Tre.run_ret, iwrap_succ (show i < 4611686018427387904 by omega)]
 ·unfold l_eqInt64SS_l4
  exact run_out
noncomputable def l_eqInt64SS_V : Env := ⟨tau, [(63, l_eqInt64S_c)], []⟩
noncomputable def l_eqInt64SS_b : Code := (Try.f14.body).getD .skip
noncomputable def l_eqInt64SS_l4_mk (z4_0 : Bool) (z4_1 : Bool) (h4_0_0 : (List (List Int))) (h4_0_1 : (List (List Int))) : Int → St := fun x => stOf [(0, (.imm z4_0 (.sl (.sl (.int .i64))) h4_0_0)), (1, (.imm z4_1 (.sl (.sl (.int .i64))) h4_0_1)), (5, (.imm true (.int .i64) x))] []
noncomputable def l_eqInt64SS_l4_out (_z4_0 : Bool) (_z4_1 : Bool) (_h4_0_0 : (List (List Int))) (_h4_0_1 : (List (List Int))) : (Bool ⊕ Unit) → Ex × St
 | .inl x => (.ret, stOf [(4, (.imm true .bool x))] [])
 | .inr x => (.exit 0, stOf [(4, .dead)] [])
noncomputable def l_eqInt64SS_l4_D (s : St) : Tre (Ex × St) :=
 asImm (.sl (.sl (.int .i64))) (s.tmps 0) fun z3 d2 =>
 asImm (.sl (.sl (.int .i64))) (s.tmps 1) fun z6 d5 =>
 asImmZ true (.int .i64) (s.tmps 5) fun d8 =>
 .mat (loopF (l_eqInt64SS_l4 d2 d5) d8) fun x => .alt x (fun a0 => .ret (l_eqInt64SS_l4_out z3 z6 d2 d5 (.inl a0))) (fun b0 => .ret (l_eqInt64SS_l4_out z3 z6 d2 d5 (.inr b0)))
noncomputable def l_eqInt64SS_l4_L : LoopI := ⟨([0, 1, 5], []), ([4], []), l_eqInt64SS_l4_D⟩
noncomputable def l_eqInt64SS_A : List (Nat × LoopI) := [(4, l_eqInt64SS_l4_L)]
set_option maxRecDepth 100000 in
theorem l_eqInt64SS_l4_step : ∀ (z4_0 : Bool) (z4_1 : Bool) (h4_0_0 : (List (List Int))) (h4_0_1 : (List (List Int))) (x : Int) (c : St → Option (Ex × St)), den l_eqInt64SS_V l_eqInt64SS_A (loopAt l_eqInt64SS_b 0) (l_eqInt64SS_l4_mk z4_0 z4_1 h4_0_0 h4_0_1 x) (roundK l_eqInt64SS_l4_L.kp l_eqInt64SS_l4_L.kx c) = (l_eqInt64SS_l4 h4_0_0 h4_0_1 x).run (roundR (l_eqInt64SS_l4_mk z4_0 z4_1 h4_0_0 h4_0_1) (l_eqInt64SS_l4_out z4_0 z4_1 h4_0_0 h4_0_1) c) := fun _ _ _ _ _ _ => by
 kernel_rfl
theorem l_eqInt64SS_l4_ok : LoopOK l_eqInt64SS_V l_eqInt64SS_A (loopAt l_eqInt64SS_b 0) l_eqInt64SS_l4_L := loopOK_of fun s e s' h => by
 generalize hs : restrict l_eqInt64SS_l4_L.kp s = s1 at h
 have h : (l_eqInt64SS_l4_D s1).run some = some (e, s') := h
 obtain ⟨z3, d2, e1, h_0⟩ := asImm_spec h
 obtain ⟨z6, d5, e4, h_1⟩ := asImm_spec h_0
 obtain ⟨d8, e7, h_2⟩ := asImmZ_spec h_1
 obtain ⟨y, hy, hz⟩ := mat_some h_2
 refine ⟨_, _, l_eqInt64SS_l4_mk z3 z6 d2 d5, l_eqInt64SS_l4_out z3 z6 d2 d5, l_eqInt64SS_l4 d2 d5, d8, y, ?_, hy, ?_, l_eqInt64SS_l4_step z3 z6 d2 d5⟩
 ·subst hs; exact restrict_eq (T := [(0, (.imm z3 (.sl (.sl (.int .i64))) d2)), (1, (.imm z6 (.sl (.sl (.int .i64))) d5)), (5, (.imm true (.int .i64) d8))]) (U := []) rfl rfl ⟨e1, e4, e7, trivial⟩ trivial
 ·rcases y with x | x <;> exact Option.some.inj hz
noncomputable def l_eqInt64SS_I : FnI := ⟨l_eqInt64SS_b, Try.f14.results.toList, Try.f14.resultTypes.toList, l_eqInt64SS_A⟩
noncomputable def l_eqInt64SS_out (_zp0 : Bool) (_zp1 : Bool) (_p0 : (List (List Int))) (_p1 : (List (List Int))) : Bool → CallOut := fun r => ⟨(.imm true .bool r), [], []⟩
set_option maxRecDepth 100000 in
theorem l_eqInt64SS_eq : ∀ (zp0 : Bool) (zp1 : Bool) (p0 : (List (List Int))) (p1 : (List (List Int))), denFn l_eqInt64SS_V l_eqInt64SS_I ⟨[(.imm zp0 (.sl (.sl (.int .i64))) p0), (.imm zp1 (.sl (.sl (.int .i64))) p1)], []⟩ = (l_eqInt64SS p0 p1).run fun r => some (l_eqInt64SS_out zp0 zp1 p0 p1 r) := fun _ _ _ _ => by kernel_rfl
noncomputable def l_eqInt64SS_G (av : List AV) (rs : List Root) : Tre CallOut :=
 asCons av fun a0_ av0 =>
 asCons av0 fun a1_ av1 =>
 asEnd av1 <|
 asEnd rs <|
 asImm (.sl (.sl (.int .i64))) a0_ fun z2 d1 =>
 asImm (.sl (.sl (.int .i64))) a1_ fun z4 d3 =>
 .mat (l_eqInt64SS_F d1 d3) fun r => .ret (l_eqInt64SS_out z2 z4 d1 d3 r)
noncomputable def l_eqInt64SS_c : Ctr := ⟨[], fun ci => l_eqInt64SS_G ci.args ci.roots, false⟩
theorem l_eqInt64SS_env : EnvOK Try.prog .none l_eqInt64SS_V := (envOK_cons l_eqInt64S_ok ent63 envOK_nil)
set_option maxRecDepth 100000 in
theorem l_eqInt64SS_ok : Contract Try.prog .none 14 l_eqInt64SS_c := by
 have hl : LoopsOK l_eqInt64SS_V l_eqInt64SS_A l_eqInt64SS_b := (loopsOK_all (n := 1) (by kernel_rfl) fun k hk => by
   match k, hk with
   | 0, _ => exact loopOK_at (id := 4) (L := l_eqInt64SS_l4_L) (by kernel_rfl) (by kernel_rfl) l_eqInt64SS_l4_ok)
 refine (contract_of (F := l_eqInt64SS_I) tau_tys l_eqInt64SS_env Try.func14 (by kernel_rfl) (by kernel_rfl) (by kernel_rfl) hl []).weaken ?_
 rintro ⟨av, rs⟩ co h
 have h : (l_eqInt64SS_G av rs).run some = some co := h
 obtain ⟨a0_, av0, rfl, h_0⟩ := asCons_spec h
 obtain ⟨a1_, av1, rfl, h_1⟩ := asCons_spec h_0
 obtain ⟨rfl, h_2⟩ := asEnd_spec h_1
 obtain ⟨rfl, h_3⟩ := asEnd_spec h_2
 obtain ⟨z2, d1, rfl, h_4⟩ := asImm_spec h_3
 obtain ⟨z4, d3, rfl, h_5⟩ := asImm_spec h_4
 exact fin_mat (l_eqInt64SS_eq z2 z4 d1 d3) h_5
end Go.Proofs.Ytldafhnnnabipaa

namespace Go.Proofs.Ytldafhnnnabipaa
open Go Go.Abs Go.Proofs
noncomputable def l_eqNet (p0 : TNet) (p1 : TNet) : Tre Bool :=
 .cond (!(l_eqField_S p0.1 p1.1))
  (.ret false)
  (.cond (!decide (p0.2.1 = p1.2.1))
   (.ret false)
   (.cond (!decide (p0.2.2.1 = p1.2.2.1))
    (.ret false)
    (.mat (l_eqInt64SS_F p0.2.2.2.1 p1.2.2.2.1) fun r1 =>
    .cond (!r1)
     (.ret false)
     (.mat (l_eqInt64SS_F p0.2.2.2.2.1 p1.2.2.2.2.1) fun r2 =>
     .cond (!r2)
      (.ret false)
      (.ret true)))))
noncomputable def l_eqNet_F (p0 : TNet) (p1 : TNet) : Option Bool := (l_eqNet p0 p1).run some
-- more
theorem l_eqNet_is (n : TN6) (h : sizeSS n.2.2.2.1 ≤ 1048576) (h' : sizeSS n.2.2.2.2.1 ≤ 1048576) : l_eqNet_F n n = some true := by
 unfold l_eqNet_F l_eqNet
 rw [Tre.run_cond, show l_eqField_S n.1 n.1 = true from by unfold l_eqField_S; simp]
 rw [Bool.not_true, cond_false, Tre.run_cond, decide_eq_true rfl, Bool.not_true, cond_false, Tre.run_cond, decide_eq_true rfl, Bool.not_true, cond_false]
 rw [run_some_mat (l_eqInt64SS_is _ h), Tre.run_cond, Bool.not_true, cond_false, run_some_mat (l_eqInt64SS_is _ h')]
 rfl
noncomputable def l_eqNet_V : Env := ⟨tau, [(62, l_eqField_c), (14, l_eqInt64SS_c)], []⟩
noncomputable def l_eqNet_b : Code := (Try.f13.body).getD .skip
noncomputable def l_eqNet_I : FnI := ⟨l_eqNet_b, Try.f13.results.toList, Try.f13.resultTypes.toList, []⟩
noncomputable def l_eqNet_out (_zp0 : Bool) (_zp1 : Bool) (_p0 : TNet) (_p1 : TNet) : Bool → CallOut := fun r => ⟨(.imm true .bool r), [], []⟩
set_option maxRecDepth 100000 in
theorem l_eqNet_eq : ∀ (zp0 : Bool) (zp1 : Bool) (p0 : TNet) (p1 : TNet), denFn l_eqNet_V l_eqNet_I ⟨[(.imm zp0 kNet p0), (.imm zp1 kNet p1)], []⟩ = (l_eqNet p0 p1).run fun r => some (l_eqNet_out zp0 zp1 p0 p1 r) := fun _ _ _ _ => by kernel_rfl
noncomputable def l_eqNet_G (av : List AV) (rs : List Root) : Tre CallOut :=
 asCons av fun a0_ av0 =>
 asCons av0 fun a1_ av1 =>
 asEnd av1 <|
 asEnd rs <|
 asImm kNet a0_ fun z2 d1 =>
 asImm kNet a1_ fun z4 d3 =>
 .mat (l_eqNet_F d1 d3) fun r => .ret (l_eqNet_out z2 z4 d1 d3 r)
noncomputable def l_eqNet_c : Ctr := ⟨[], fun ci => l_eqNet_G ci.args ci.roots, false⟩
theorem l_eqNet_env : EnvOK Try.prog .none l_eqNet_V := (envOK_cons l_eqField_ok ent62 (envOK_cons l_eqInt64SS_ok ent14 envOK_nil))
set_option maxRecDepth 100000 in
theorem l_eqNet_ok : Contract Try.prog .none 13 l_eqNet_c := by
 have hl : LoopsOK l_eqNet_V [] l_eqNet_b := loopsOK_nil (by kernel_rfl)
 refine (contract_of (F := l_eqNet_I) tau_tys l_eqNet_env Try.func13 (by kernel_rfl) (by kernel_rfl) (by kernel_rfl) hl []).weaken ?_
 rintro ⟨av, rs⟩ co h
 have h : (l_eqNet_G av rs).run some = some co := h
 obtain ⟨a0_, av0, rfl, h_0⟩ := asCons_spec h
 obtain ⟨a1_, av1, rfl, h_1⟩ := asCons_spec h_0
 obtain ⟨rfl, h_2⟩ := asEnd_spec h_1
 obtain ⟨rfl, h_3⟩ := asEnd_spec h_2
 obtain ⟨z2, d1, rfl, h_4⟩ := asImm_spec h_3
 obtain ⟨z4, d3, rfl, h_5⟩ := asImm_spec h_4
 exact fin_mat (l_eqNet_eq z2 z4 d1 d3) h_5
end Go.Proofs.Ytldafhnnnabipaa

namespace Go.Proofs.Ytldafhnnnabipaa
open Go Go.Abs Go.Proofs
noncomputable def l_FnExactArePathsTo (p0 : TNet) (p1 : Int) (p2 : (List (List Int))) : Tre Bool :=
 .mat (l_szNet_F p0 1048576) fun r1 =>
 .cond (decide (r1 < 0))
  (.ret true)
  (.mat (l_szInt64SS_F p2 r1) fun r2 =>
  .cond (decide (r2 < 0))
   (.ret true)
   (.mat (l_toNet_F p0) fun r3 =>
   .mat (l_toInt64SS_F p2) fun r4 =>
   .mat (s_ArePathsTo_F (r3.1, (r3.2.1, (r3.2.2.1, (r3.2.2.2.1, (r3.2.2.2.2, ()))))) p1 r4) fun r5 =>
   .mat (l_toNet_F p0) fun r6 =>
   .mat (l_toInt64SS_F p2) fun r7 =>
   .mat (i_ArePathsTo_F (r6.1, (r6.2.1, (r6.2.2.1, (r6.2.2.2.1, (r6.2.2.2.2, ()))))) p1 r7) fun r8 =>
   .cond (!(r8.1 == r5.1))
    (.ret false)
    (.cond (!decide (r8.2 = r5.2))
     (.ret false)
     (.mat (l_toNet_F p0) fun r9 =>
     .mat (l_eqNet_F (r6.1, (r6.2.1, (r6.2.2.1, (r6.2.2.2.1, (r6.2.2.2.2, ()))))) (r9.1, (r9.2.1, (r9.2.2.1, (r9.2.2.2.1, (r9.2.2.2.2, ())))))) fun r10 =>
     .cond (!r10)
      (.ret false)
      (.mat (l_toInt64SS_F p2) fun r11 =>
      .mat (l_eqInt64SS_F r7 r11) fun r12 =>
      .cond (!r12)
       (.ret false)
       (.ret true))))))
noncomputable def l_FnExactArePathsTo_F (p0 : TNet) (p1 : Int) (p2 : (List (List Int))) : Option Bool := (l_FnExactArePathsTo p0 p1 p2).run some
-- law
theorem l_FnExactArePathsTo_law (p0 : TN6) (p1 : Int) (p2 : List (List Int)) (hw : kNet.wf p0) (_h1 : (K.int .i64).wf p1) (hw2 : (K.sl (.sl (.int .i64))).wf p2) : l_FnExactArePathsTo_F p0 p1 p2 = some true := by
 unfold l_FnExactArePathsTo_F l_FnExactArePathsTo
 have w3 := hw.2.2.2.1
 have w4 := hw.2.2.2.2.1
 obtain ⟨r, hr, hs⟩ := l_szNet_is p0 ⟨w3.1, fun x hx => (w3.2 x hx).1⟩ ⟨w4.1, fun x hx => (w4.2 x hx).1⟩
 rw [run_some_mat hr, Tre.run_cond]
 by_cases h : r < 0
 ·rw [decide_eq_true h]; rfl
 have hs := hs h
 rw [decide_eq_false h, cond_false]
 obtain ⟨r', hr', hs'⟩ := l_szInt64SS_is p2 hw2.1 (fun x hx => (hw2.2 x hx).1) r (by omega) (by omega)
 rw [run_some_mat hr', Tre.run_cond]
 by_cases h' : r' < 0
 ·rw [decide_eq_true h']; rfl
 have hs' := hs' h'
 unfold sizeNet at hs
 have k1 : sizeSS p0.2.2.2.1 ≤ 1048576 := by omega
 have k2 : sizeSS p0.2.2.2.2.1 ≤ 1048576 := by omega
 have k3 : sizeSS p2 ≤ 1048576 := by omega
 rw [decide_eq_false h', cond_false, run_some_mat (l_toNet_is p0 k1 k2), run_some_mat (l_toInt64SS_is p2 k3)]
 have hn : (p0.1, p0.2.1, p0.2.2.1, p0.2.2.2.1, p0.2.2.2.2.1, ()) = p0 := rfl
 dsimp only
 rw [hn, run_some_mat (s_ArePathsTo_is p0 p1 p2 k3), run_some_mat (l_toNet_is p0 k1 k2), run_some_mat (l_toInt64SS_is p2 k3)]
 dsimp only
 rw [hn, run_some_mat (i_ArePathsTo_is p0 p1 p2 k3)]
 rw [Tre.run_cond, beq_self_eq_true, Bool.not_true, cond_false, Tre.run_cond, decide_eq_true rfl, Bool.not_true, cond_false]
 rw [run_some_mat (l_toNet_is p0 k1 k2)]
 dsimp only
 rw [hn, run_some_mat (l_eqNet_is p0 k1 k2), Tre.run_cond, Bool.not_true, cond_false, run_some_mat (l_toInt64SS_is p2 k3), run_some_mat (l_eqInt64SS_is p2 k3)]
 rfl
noncomputable def l_FnExactArePathsTo_V : Env := ⟨tau, [(7, l_szNet_c), (8, l_szInt64SS_c), (10, l_toNet_c), (11, l_toInt64SS_c), (9, s_ArePathsTo_c), (12, i_ArePathsTo_c), (13, l_eqNet_c), (14, l_eqInt64SS_c)], []⟩
noncomputable def l_FnExactArePathsTo_b : Code := (Try.f3.body).getD .skip
noncomputable def l_FnExactArePathsTo_I : FnI := ⟨l_FnExactArePathsTo_b, Try.f3.results.toList, Try.f3.resultTypes.toList, []⟩
noncomputable def l_FnExactArePathsTo_out (_zp0 : Bool) (_zp1 : Bool) (_p0 : TNet) (_p1 : Int) (_p2 : (List (List Int))) : Bool → CallOut := fun r => ⟨(.imm true .bool r), [], []⟩
set_option maxRecDepth 100000 in
theorem l_FnExactArePathsTo_eq : ∀ (zp0 : Bool) (zp1 : Bool) (p0 : TNet) (p1 : Int) (p2 : (List (List Int))), denFn l_FnExactArePathsTo_V l_FnExactArePathsTo_I ⟨[(.imm zp0 kNet p0), (.imm true (.int .i64) p1), (.imm zp1 (.sl (.sl (.int .i64))) p2)], []⟩ = (l_FnExactArePathsTo p0 p1 p2).run fun r => some (l_FnExactArePathsTo_out zp0 zp1 p0 p1 p2 r) := fun _ _ _ _ _ => by kernel_rfl
noncomputable def l_FnExactArePathsTo_G (av : List AV) (rs : List Root) : Tre CallOut :=
 asCons av fun a0_ av0 =>
 asCons av0 fun a1_ av1 =>
 asCons av1 fun a2_ av2 =>
 asEnd av2 <|
 asEnd rs <|
 asImm kNet a0_ fun z2 d1 =>
 asImmZ true (.int .i64) a1_ fun d3 =>
 asImm (.sl (.sl (.int .i64))) a2_ fun z5 d4 =>
 .mat (l_FnExactArePathsTo_F d1 d3 d4) fun r => .ret (l_FnExactArePathsTo_out z2 z5 d1 d3 d4 r)
noncomputable def l_FnExactArePathsTo_c : Ctr := ⟨[], fun ci => l_FnExactArePathsTo_G ci.args ci.roots, false⟩
theorem l_FnExactArePathsTo_env : EnvOK Try.prog .none l_FnExactArePathsTo_V := (envOK_cons l_szNet_ok ent7 (envOK_cons l_szInt64SS_ok ent8 (envOK_cons l_toNet_ok ent10 (envOK_cons l_toInt64SS_ok ent11 (envOK_cons s_ArePathsTo_ok ent9 (envOK_cons i_ArePathsTo_ok ent12 (envOK_cons l_eqNet_ok ent13 (envOK_cons l_eqInt64SS_ok ent14 envOK_nil))))))))
set_option maxRecDepth 100000 in
theorem l_FnExactArePathsTo_ok : Contract Try.prog .none 3 l_FnExactArePathsTo_c := by
 have hl : LoopsOK l_FnExactArePathsTo_V [] l_FnExactArePathsTo_b := loopsOK_nil (by kernel_rfl)
 refine (contract_of (F := l_FnExactArePathsTo_I) tau_tys l_FnExactArePathsTo_env Try.func3 (by kernel_rfl) (by kernel_rfl) (by kernel_rfl) hl []).weaken ?_
 rintro ⟨av, rs⟩ co h
 have h : (l_FnExactArePathsTo_G av rs).run some = some co := h
 obtain ⟨a0_, av0, rfl, h_0⟩ := asCons_spec h
 obtain ⟨a1_, av1, rfl, h_1⟩ := asCons_spec h_0
 obtain ⟨a2_, av2, rfl, h_2⟩ := asCons_spec h_1
 obtain ⟨rfl, h_3⟩ := asEnd_spec h_2
 obtain ⟨rfl, h_4⟩ := asEnd_spec h_3
 obtain ⟨z2, d1, rfl, h_5⟩ := asImm_spec h_4
 obtain ⟨d3, rfl, h_6⟩ := asImmZ_spec h_5
 obtain ⟨z5, d4, rfl, h_7⟩ := asImm_spec h_6
 exact fin_mat (l_FnExactArePathsTo_eq z2 z5 d1 d3 d4) h_7
end Go.Proofs.Ytldafhnnnabipaa
