/- Part 4 of the proof of FnSpoilt. -/
import Derived.Test.YtddaclhjnkimfaaSx3
namespace Go.Proofs.Ytddaclhjnkimfaa
open Go Go.Abs Go.Proofs
noncomputable def slices_IndexFunc_Deed_i_deedsCodec1_l2 (h2_0_0 : (List TDeed)) (h2_0_1 : Int) : Int → Tre (Int ⊕ (Int ⊕ Unit)) := fun s2 =>
 .cond (decide (s2 < h2_0_1))
  (.ite (0 ≤ s2 ∧ s2 < (h2_0_0.length : Int)) <|
  .mat (h2_0_0[s2.toNat]?) fun x1 =>
  .cond (!(vDeed x1))
   (.ret (.inr (.inl s2)))
   (.ret (.inl (iwrap .i64 (s2 + 1)))))
  (.ret (.inr (.inr ())))
noncomputable def slices_IndexFunc_Deed_i_deedsCodec1 (p0 : (List TDeed)) : Tre Int :=
 .mat (loopF (slices_IndexFunc_Deed_i_deedsCodec1_l2 p0 (p0.length : Int)) 0) fun l2 =>
 .alt l2
  (fun a3 =>
   .ret a3)
  (fun _ =>
   .ret (-1))
noncomputable def slices_IndexFunc_Deed_i_deedsCodec1_F (p0 : (List TDeed)) : Option Int := (slices_IndexFunc_Deed_i_deedsCodec1 p0).run some
def idxV (xs : List (Int × Int × Int × Int × Unit)) : Option Int := askO (decide (xs.length ≤ 1048576)) (idxI (fun x => !vDeed x) 0 xs)
theorem slices_IndexFunc_Deed_i_deedsCodec1_spec (p0 : List (Int × Int × Int × Int × Unit)) (y : Int) (h : idxV p0 = some y) : slices_IndexFunc_Deed_i_deedsCodec1_F p0 = some y := by
 obtain ⟨hl, rfl⟩ := askO_some h
 have hl := of_decide_eq_true hl
 unfold slices_IndexFunc_Deed_i_deedsCodec1_F slices_IndexFunc_Deed_i_deedsCodec1
 rw [Tre.run_mat, find_loop (xs := p0) (fun i x => cond (!vDeed x) (some (.inl (i : Int))) none) (.inr ())]
 ·rw [Option.bind_some, ← findE_idx (p := fun x => !vDeed x)]
  generalize findE _ _ _ _ = r
  cases r <;> rfl
 ·intro i x hx
  have hi : i < p0.length := (List.getElem?_eq_some_iff.1 hx).1
  unfold slices_IndexFunc_Deed_i_deedsCodec1_l2
  rw [run_inb hx, Tre.run_cond]
  cases vDeed x
  ·rfl
  ·simp only [Bool.not_true, cond_false, Tre.run_ret, iwrap_succ (show i < 4611686018427387904 by omega)]
 ·unfold slices_IndexFunc_Deed_i_deedsCodec1_l2
  exact run_out
noncomputable def slices_IndexFunc_Deed_i_deedsCodec1_V : Env := ⟨tau, [(76, i_deedsCodec1_c)], []⟩
noncomputable def slices_IndexFunc_Deed_i_deedsCodec1_b : Code := (Try.f101.body).getD .skip
noncomputable def slices_IndexFunc_Deed_i_deedsCodec1_l2_mk (z2_0 : Bool) (h2_0_0 : (List TDeed)) (h2_0_1 : Int) : Int → St := fun x => stOf [(0, (.imm z2_0 (.sl kDeed) h2_0_0)), (1, (.fn 76 [])), (7, (.imm true (.int .i64) h2_0_1)), (8, (.imm true (.int .i64) x))] []
noncomputable def slices_IndexFunc_Deed_i_deedsCodec1_l2_out (_z2_0 : Bool) (_h2_0_0 : (List TDeed)) (_h2_0_1 : Int) : (Int ⊕ Unit) → Ex × St
 | .inl x => (.ret, stOf [(4, (.imm true (.int .i64) x))] [])
 | .inr x => (.exit 0, stOf [(4, .dead)] [])
noncomputable def slices_IndexFunc_Deed_i_deedsCodec1_l2_D (s : St) : Tre (Ex × St) :=
 asImm (.sl kDeed) (s.tmps 0) fun z3 d2 =>
 asFn 76 [] (s.tmps 1) <|
 asImmZ true (.int .i64) (s.tmps 7) fun d6 =>
 asImmZ true (.int .i64) (s.tmps 8) fun d8 =>
 .mat (loopF (slices_IndexFunc_Deed_i_deedsCodec1_l2 d2 d6) d8) fun x => .alt x (fun a0 => .ret (slices_IndexFunc_Deed_i_deedsCodec1_l2_out z3 d2 d6 (.inl a0))) (fun b0 => .ret (slices_IndexFunc_Deed_i_deedsCodec1_l2_out z3 d2 d6 (.inr b0)))
noncomputable def slices_IndexFunc_Deed_i_deedsCodec1_l2_L : LoopI := ⟨([0, 1, 7, 8], []), ([4], []), slices_IndexFunc_Deed_i_deedsCodec1_l2_D⟩
noncomputable def slices_IndexFunc_Deed_i_deedsCodec1_A : List (Nat × LoopI) := [(2, slices_IndexFunc_Deed_i_deedsCodec1_l2_L)]
set_option maxRecDepth 100000 in
theorem slices_IndexFunc_Deed_i_deedsCodec1_l2_step : ∀ (z2_0 : Bool) (h2_0_0 : (List TDeed)) (h2_0_1 : Int) (x : Int) (c : St → Option (Ex × St)), den slices_IndexFunc_Deed_i_deedsCodec1_V slices_IndexFunc_Deed_i_deedsCodec1_A (loopAt slices_IndexFunc_Deed_i_deedsCodec1_b 0) (slices_IndexFunc_Deed_i_deedsCodec1_l2_mk z2_0 h2_0_0 h2_0_1 x) (roundK slices_IndexFunc_Deed_i_deedsCodec1_l2_L.kp slices_IndexFunc_Deed_i_deedsCodec1_l2_L.kx c) = (slices_IndexFunc_Deed_i_deedsCodec1_l2 h2_0_0 h2_0_1 x).run (roundR (slices_IndexFunc_Deed_i_deedsCodec1_l2_mk z2_0 h2_0_0 h2_0_1) (slices_IndexFunc_Deed_i_deedsCodec1_l2_out z2_0 h2_0_0 h2_0_1) c) := fun _ _ _ _ _ => by
 kernel_rfl
theorem slices_IndexFunc_Deed_i_deedsCodec1_l2_ok : LoopOK slices_IndexFunc_Deed_i_deedsCodec1_V slices_IndexFunc_Deed_i_deedsCodec1_A (loopAt slices_IndexFunc_Deed_i_deedsCodec1_b 0) slices_IndexFunc_Deed_i_deedsCodec1_l2_L := loopOK_of fun s e s' h => by
 generalize hs : restrict slices_IndexFunc_Deed_i_deedsCodec1_l2_L.kp s = s1 at h
 have h : (slices_IndexFunc_Deed_i_deedsCodec1_l2_D s1).run some = some (e, s') := h
 obtain ⟨z3, d2, e1, h_0⟩ := asImm_spec h
 obtain ⟨e4, h_1⟩ := asFn_spec h_0
 obtain ⟨d6, e5, h_2⟩ := asImmZ_spec h_1
 obtain ⟨d8, e7, h_3⟩ := asImmZ_spec h_2
 obtain ⟨y, hy, hz⟩ := mat_some h_3
 refine ⟨_, _, slices_IndexFunc_Deed_i_deedsCodec1_l2_mk z3 d2 d6, slices_IndexFunc_Deed_i_deedsCodec1_l2_out z3 d2 d6, slices_IndexFunc_Deed_i_deedsCodec1_l2 d2 d6, d8, y, ?_, hy, ?_, slices_IndexFunc_Deed_i_deedsCodec1_l2_step z3 d2 d6⟩
 ·subst hs; exact restrict_eq (T := [(0, (.imm z3 (.sl kDeed) d2)), (1, (.fn 76 [])), (7, (.imm true (.int .i64) d6)), (8, (.imm true (.int .i64) d8))]) (U := []) rfl rfl ⟨e1, e4, e5, e7, trivial⟩ trivial
 ·rcases y with x | x <;> exact Option.some.inj hz
noncomputable def slices_IndexFunc_Deed_i_deedsCodec1_I : FnI := ⟨slices_IndexFunc_Deed_i_deedsCodec1_b, Try.f101.results.toList, Try.f101.resultTypes.toList, slices_IndexFunc_Deed_i_deedsCodec1_A⟩
noncomputable def slices_IndexFunc_Deed_i_deedsCodec1_out (_zp0 : Bool) (_p0 : (List TDeed)) : Int → CallOut := fun r => ⟨(.imm true (.int .i64) r), [], []⟩
set_option maxRecDepth 100000 in
theorem slices_IndexFunc_Deed_i_deedsCodec1_eq : ∀ (zp0 : Bool) (p0 : (List TDeed)), denFn slices_IndexFunc_Deed_i_deedsCodec1_V slices_IndexFunc_Deed_i_deedsCodec1_I ⟨[(.imm zp0 (.sl kDeed) p0), (.fn 76 [])], []⟩ = (slices_IndexFunc_Deed_i_deedsCodec1 p0).run fun r => some (slices_IndexFunc_Deed_i_deedsCodec1_out zp0 p0 r) := fun _ _ => by kernel_rfl
noncomputable def slices_IndexFunc_Deed_i_deedsCodec1_G (av : List AV) (rs : List Root) : Tre CallOut :=
 asCons av fun a0_ av0 =>
 asCons av0 fun a1_ av1 =>
 asEnd av1 <|
 asEnd rs <|
 asImm (.sl kDeed) a0_ fun z2 d1 =>
 asFn 76 [] a1_ <|
 .mat (idxV d1) fun r => .ret (slices_IndexFunc_Deed_i_deedsCodec1_out z2 d1 r)
noncomputable def slices_IndexFunc_Deed_i_deedsCodec1_c : Ctr := ⟨[], fun ci => slices_IndexFunc_Deed_i_deedsCodec1_G ci.args ci.roots⟩
theorem slices_IndexFunc_Deed_i_deedsCodec1_env : EnvOK Try.prog slices_IndexFunc_Deed_i_deedsCodec1_V := (envOK_cons i_deedsCodec1_ok ent76 envOK_nil)
set_option maxRecDepth 100000 in
theorem slices_IndexFunc_Deed_i_deedsCodec1_ok : Contract Try.prog 101 slices_IndexFunc_Deed_i_deedsCodec1_c := by
 have hl : LoopsOK slices_IndexFunc_Deed_i_deedsCodec1_V slices_IndexFunc_Deed_i_deedsCodec1_A slices_IndexFunc_Deed_i_deedsCodec1_b := (loopsOK_all (n := 1) (by kernel_rfl) fun k hk => by
   match k, hk with
   | 0, _ => exact loopOK_at (id := 2) (L := slices_IndexFunc_Deed_i_deedsCodec1_l2_L) (by kernel_rfl) (by kernel_rfl) slices_IndexFunc_Deed_i_deedsCodec1_l2_ok)
 refine (contract_of (F := slices_IndexFunc_Deed_i_deedsCodec1_I) tau_tys slices_IndexFunc_Deed_i_deedsCodec1_env Try.func101 (by kernel_rfl) (by kernel_rfl) (by kernel_rfl) hl []).weaken ?_
 rintro ⟨av, rs⟩ co h
 have h : (slices_IndexFunc_Deed_i_deedsCodec1_G av rs).run some = some co := h
 obtain ⟨a0_, av0, rfl, h_0⟩ := asCons_spec h
 obtain ⟨a1_, av1, rfl, h_1⟩ := asCons_spec h_0
 obtain ⟨rfl, h_2⟩ := asEnd_spec h_1
 obtain ⟨rfl, h_3⟩ := asEnd_spec h_2
 obtain ⟨z2, d1, rfl, h_4⟩ := asImm_spec h_3
 obtain ⟨rfl, h_5⟩ := asFn_spec h_4
 exact fin_opt (slices_IndexFunc_Deed_i_deedsCodec1_eq z2 d1) (slices_IndexFunc_Deed_i_deedsCodec1_spec d1) h_5
end Go.Proofs.Ytddaclhjnkimfaa

namespace Go.Proofs.Ytddaclhjnkimfaa
open Go Go.Abs Go.Proofs
noncomputable def slices_ContainsFunc_Deed_i_deedsCodec1 (p0 : (List TDeed)) : Tre Bool :=
 .mat (idxV p0) fun r1 =>
 .ret (decide (r1 ≥ 0))
noncomputable def slices_ContainsFunc_Deed_i_deedsCodec1_F (p0 : (List TDeed)) : Option Bool := (slices_ContainsFunc_Deed_i_deedsCodec1 p0).run some
def hasV (xs : List (Int × Int × Int × Int × Unit)) : Option Bool := askO (decide (xs.length ≤ 1048576)) (xs.any fun x => !vDeed x)
theorem slices_ContainsFunc_Deed_i_deedsCodec1_spec (p0 : List (Int × Int × Int × Int × Unit)) (y : Bool) (h : hasV p0 = some y) : slices_ContainsFunc_Deed_i_deedsCodec1_F p0 = some y := by
 obtain ⟨hl, rfl⟩ := askO_some h
 unfold slices_ContainsFunc_Deed_i_deedsCodec1_F slices_ContainsFunc_Deed_i_deedsCodec1
 rw [run_some_mat (show idxV p0 = some _ from askO_true hl), Tre.run_ret, idxI_any]
noncomputable def slices_ContainsFunc_Deed_i_deedsCodec1_V : Env := ⟨tau, [(101, slices_IndexFunc_Deed_i_deedsCodec1_c)], []⟩
noncomputable def slices_ContainsFunc_Deed_i_deedsCodec1_b : Code := (Try.f75.body).getD .skip
noncomputable def slices_ContainsFunc_Deed_i_deedsCodec1_I : FnI := ⟨slices_ContainsFunc_Deed_i_deedsCodec1_b, Try.f75.results.toList, Try.f75.resultTypes.toList, []⟩
noncomputable def slices_ContainsFunc_Deed_i_deedsCodec1_out (_zp0 : Bool) (_p0 : (List TDeed)) : Bool → CallOut := fun r => ⟨(.imm true .bool r), [], []⟩
set_option maxRecDepth 100000 in
theorem slices_ContainsFunc_Deed_i_deedsCodec1_eq : ∀ (zp0 : Bool) (p0 : (List TDeed)), denFn slices_ContainsFunc_Deed_i_deedsCodec1_V slices_ContainsFunc_Deed_i_deedsCodec1_I ⟨[(.imm zp0 (.sl kDeed) p0), (.fn 76 [])], []⟩ = (slices_ContainsFunc_Deed_i_deedsCodec1 p0).run fun r => some (slices_ContainsFunc_Deed_i_deedsCodec1_out zp0 p0 r) := fun _ _ => by kernel_rfl
noncomputable def slices_ContainsFunc_Deed_i_deedsCodec1_G (av : List AV) (rs : List Root) : Tre CallOut :=
 asCons av fun a0_ av0 =>
 asCons av0 fun a1_ av1 =>
 asEnd av1 <|
 asEnd rs <|
 asImm (.sl kDeed) a0_ fun z2 d1 =>
 asFn 76 [] a1_ <|
 .mat (hasV d1) fun r => .ret (slices_ContainsFunc_Deed_i_deedsCodec1_out z2 d1 r)
noncomputable def slices_ContainsFunc_Deed_i_deedsCodec1_c : Ctr := ⟨[], fun ci => slices_ContainsFunc_Deed_i_deedsCodec1_G ci.args ci.roots⟩
theorem slices_ContainsFunc_Deed_i_deedsCodec1_env : EnvOK Try.prog slices_ContainsFunc_Deed_i_deedsCodec1_V := (envOK_cons slices_IndexFunc_Deed_i_deedsCodec1_ok ent101 envOK_nil)
set_option maxRecDepth 100000 in
theorem slices_ContainsFunc_Deed_i_deedsCodec1_ok : Contract Try.prog 75 slices_ContainsFunc_Deed_i_deedsCodec1_c := by
 have hl : LoopsOK slices_ContainsFunc_Deed_i_deedsCodec1_V [] slices_ContainsFunc_Deed_i_deedsCodec1_b := loopsOK_nil (by kernel_rfl)
 refine (contract_of (F := slices_ContainsFunc_Deed_i_deedsCodec1_I) tau_tys slices_ContainsFunc_Deed_i_deedsCodec1_env Try.func75 (by kernel_rfl) (by kernel_rfl) (by kernel_rfl) hl []).weaken ?_
 rintro ⟨av, rs⟩ co h
 have h : (slices_ContainsFunc_Deed_i_deedsCodec1_G av rs).run some = some co := h
 obtain ⟨a0_, av0, rfl, h_0⟩ := asCons_spec h
 obtain ⟨a1_, av1, rfl, h_1⟩ := asCons_spec h_0
 obtain ⟨rfl, h_2⟩ := asEnd_spec h_1
 obtain ⟨rfl, h_3⟩ := asEnd_spec h_2
 obtain ⟨z2, d1, rfl, h_4⟩ := asImm_spec h_3
 obtain ⟨rfl, h_5⟩ := asFn_spec h_4
 exact fin_opt (slices_ContainsFunc_Deed_i_deedsCodec1_eq z2 d1) (slices_ContainsFunc_Deed_i_deedsCodec1_spec d1) h_5
end Go.Proofs.Ytddaclhjnkimfaa

namespace Go.Proofs.Ytddaclhjnkimfaa
open Go Go.Abs Go.Proofs
noncomputable def i_Gather_stations (p0 : TGather) : Tre Int :=
 let v1 := iwrap .i64 (1 + p0.2.2.2.1)
 let v2 := iwrap .i64 (v1 + p0.2.2.2.2.1)
 .ret v2
noncomputable def i_Gather_stations_F (p0 : TGather) : Option Int := (i_Gather_stations p0).run some
def i_Gather_stations_S (p0 : TGather) : Int :=
 let v1 := iwrap .i64 (1 + p0.2.2.2.1)
 let v2 := iwrap .i64 (v1 + p0.2.2.2.2.1)
 v2
theorem i_Gather_stations_spec (p0 : TGather) : i_Gather_stations_F p0 = some (i_Gather_stations_S p0) := rfl
noncomputable def i_Gather_stations_V : Env := ⟨tau, [], []⟩
noncomputable def i_Gather_stations_b : Code := (Try.f53.body).getD .skip
noncomputable def i_Gather_stations_I : FnI := ⟨i_Gather_stations_b, Try.f53.results.toList, Try.f53.resultTypes.toList, []⟩
noncomputable def i_Gather_stations_out (_zp0 : Bool) (_p0 : TGather) : Int → CallOut := fun r => ⟨(.imm true (.int .i64) r), [], []⟩
set_option maxRecDepth 100000 in
theorem i_Gather_stations_eq : ∀ (zp0 : Bool) (p0 : TGather), denFn i_Gather_stations_V i_Gather_stations_I ⟨[(.imm zp0 kGather p0)], []⟩ = (i_Gather_stations p0).run fun r => some (i_Gather_stations_out zp0 p0 r) := fun _ _ => by kernel_rfl
noncomputable def i_Gather_stations_G (av : List AV) (rs : List Root) : Tre CallOut :=
 asCons av fun a0_ av0 =>
 asEnd av0 <|
 asEnd rs <|
 asImm kGather a0_ fun z2 d1 =>
 .ret (i_Gather_stations_out z2 d1 (i_Gather_stations_S d1))
noncomputable def i_Gather_stations_c : Ctr := ⟨[], fun ci => i_Gather_stations_G ci.args ci.roots⟩
theorem i_Gather_stations_env : EnvOK Try.prog i_Gather_stations_V := envOK_nil
set_option maxRecDepth 100000 in
theorem i_Gather_stations_ok : Contract Try.prog 53 i_Gather_stations_c := by
 have hl : LoopsOK i_Gather_stations_V [] i_Gather_stations_b := loopsOK_nil (by kernel_rfl)
 refine (contract_of (F := i_Gather_stations_I) tau_tys i_Gather_stations_env Try.func53 (by kernel_rfl) (by kernel_rfl) (by kernel_rfl) hl []).weaken ?_
 rintro ⟨av, rs⟩ co h
 have h : (i_Gather_stations_G av rs).run some = some co := h
 obtain ⟨a0_, av0, rfl, h_0⟩ := asCons_spec h
 obtain ⟨rfl, h_1⟩ := asEnd_spec h_0
 obtain ⟨rfl, h_2⟩ := asEnd_spec h_1
 obtain ⟨z2, d1, rfl, h_3⟩ := asImm_spec h_2
 exact fin_ret (i_Gather_stations_eq z2 d1) (i_Gather_stations_spec d1) h_3
end Go.Proofs.Ytddaclhjnkimfaa

namespace Go.Proofs.Ytddaclhjnkimfaa
open Go Go.Abs Go.Proofs
noncomputable def i_Gather_isStation (p0 : TGather) (p1 : Int) : Tre Bool :=
 let v1 := iwrap .i64 ((i_Gather_stations_S p0) - 1)
 .ret (inR p1 0 v1)
noncomputable def i_Gather_isStation_F (p0 : TGather) (p1 : Int) : Option Bool := (i_Gather_isStation p0 p1).run some
def i_Gather_isStation_S (p0 : TGather) (p1 : Int) : Bool :=
 let v1 := iwrap .i64 ((i_Gather_stations_S p0) - 1)
 (inR p1 0 v1)
theorem i_Gather_isStation_spec (p0 : TGather) (p1 : Int) : i_Gather_isStation_F p0 p1 = some (i_Gather_isStation_S p0 p1) := rfl
noncomputable def i_Gather_isStation_V : Env := ⟨tau, [(53, i_Gather_stations_c), (70, i_within_c)], []⟩
noncomputable def i_Gather_isStation_b : Code := (Try.f78.body).getD .skip
noncomputable def i_Gather_isStation_I : FnI := ⟨i_Gather_isStation_b, Try.f78.results.toList, Try.f78.resultTypes.toList, []⟩
noncomputable def i_Gather_isStation_out (_zp0 : Bool) (_p0 : TGather) (_p1 : Int) : Bool → CallOut := fun r => ⟨(.imm true .bool r), [], []⟩
set_option maxRecDepth 100000 in
theorem i_Gather_isStation_eq : ∀ (zp0 : Bool) (p0 : TGather) (p1 : Int), denFn i_Gather_isStation_V i_Gather_isStation_I ⟨[(.imm zp0 kGather p0), (.imm true (.int .i64) p1)], []⟩ = (i_Gather_isStation p0 p1).run fun r => some (i_Gather_isStation_out zp0 p0 p1 r) := fun _ _ _ => by kernel_rfl
noncomputable def i_Gather_isStation_G (av : List AV) (rs : List Root) : Tre CallOut :=
 asCons av fun a0_ av0 =>
 asCons av0 fun a1_ av1 =>
 asEnd av1 <|
 asEnd rs <|
 asImm kGather a0_ fun z2 d1 =>
 asImmZ true (.int .i64) a1_ fun d3 =>
 .ret (i_Gather_isStation_out z2 d1 d3 (i_Gather_isStation_S d1 d3))
noncomputable def i_Gather_isStation_c : Ctr := ⟨[], fun ci => i_Gather_isStation_G ci.args ci.roots⟩
theorem i_Gather_isStation_env : EnvOK Try.prog i_Gather_isStation_V := (envOK_cons i_Gather_stations_ok ent53 (envOK_cons i_within_ok ent70 envOK_nil))
set_option maxRecDepth 100000 in
theorem i_Gather_isStation_ok : Contract Try.prog 78 i_Gather_isStation_c := by
 have hl : LoopsOK i_Gather_isStation_V [] i_Gather_isStation_b := loopsOK_nil (by kernel_rfl)
 refine (contract_of (F := i_Gather_isStation_I) tau_tys i_Gather_isStation_env Try.func78 (by kernel_rfl) (by kernel_rfl) (by kernel_rfl) hl []).weaken ?_
 rintro ⟨av, rs⟩ co h
 have h : (i_Gather_isStation_G av rs).run some = some co := h
 obtain ⟨a0_, av0, rfl, h_0⟩ := asCons_spec h
 obtain ⟨a1_, av1, rfl, h_1⟩ := asCons_spec h_0
 obtain ⟨rfl, h_2⟩ := asEnd_spec h_1
 obtain ⟨rfl, h_3⟩ := asEnd_spec h_2
 obtain ⟨z2, d1, rfl, h_4⟩ := asImm_spec h_3
 obtain ⟨d3, rfl, h_5⟩ := asImmZ_spec h_4
 exact fin_ret (i_Gather_isStation_eq z2 d1 d3) (i_Gather_isStation_spec d1 d3) h_5
end Go.Proofs.Ytddaclhjnkimfaa

namespace Go.Proofs.Ytddaclhjnkimfaa
open Go Go.Abs Go.Proofs
noncomputable def s_l08Asked_3c39_l4 (h4_0_0 : (List TDeed)) : Int → Tre (Int ⊕ (Int ⊕ Unit)) := fun s4 =>
 .cond (decide (s4 < (h4_0_0.length : Int)))
  (.ite (0 ≤ s4 ∧ s4 < (h4_0_0.length : Int)) <|
  .mat (h4_0_0[s4.toNat]?) fun x2 =>
  .cond (!(vDeed x2))
   (.ret (.inr (.inl 1)))
   (.ret (.inl (iwrap .i64 (s4 + 1)))))
  (.ret (.inr (.inr ())))
noncomputable def s_l08Asked_3c39 (p0 : (List TDeed)) (p1 : TGather) : Tre Int :=
 .mat (okG p1) fun r1 =>
 .cond (!r1)
  (.ret 1)
  (.mat (loopF (s_l08Asked_3c39_l4 p0) 0) fun l3 =>
  .alt l3
   (fun a4 =>
    .ret a4)
   (fun _ =>
    .cond (decide ((p0.length : Int) > 300))
     (.ret 2)
     (.ret 0)))
noncomputable def s_l08Asked_3c39_F (p0 : (List TDeed)) (p1 : TGather) : Option Int := (s_l08Asked_3c39 p0 p1).run some
def askedM (ds : List D8) (g : G8) : Int := cond (isG g && ds.all vDeed) (cond (decide ((ds.length : Int) > 300)) 2 0) 1
def askedR (ds : List D8) (g : G8) : Option Int := askO (decide (g.2.2.1.length ≤ 1048576) && decide (ds.length ≤ 1048576)) (askedM ds g)
theorem s_l08Asked_3c39_spec (p0 : List D8) (p1 : G8) (y : Int) (h : askedR p0 p1 = some y) : s_l08Asked_3c39_F p0 p1 = some y := by
 obtain ⟨hok, rfl⟩ := askO_some h
 simp only [Bool.and_eq_true, decide_eq_true_eq] at hok
 obtain ⟨hg, hd⟩ := hok
 unfold s_l08Asked_3c39_F s_l08Asked_3c39 askedM
 rw [run_some_mat (show okG p1 = some _ from lim_of hg), Tre.run_cond]
 cases isG p1
 ·rfl
 rw [Bool.not_true, cond_false, Bool.true_and, Tre.run_mat, find_loop (xs := p0) (fun _ x => cond (vDeed x) none (some (.inl 1))) (.inr ()), findE_all]
 ·cases p0.all vDeed
  ·rfl
  ·rw [cond_true, cond_true]
   show (Tre.cond (decide ((p0.length : Int) > 300)) (.ret (2 : Int)) (.ret 0)).run some = _
   rw [Tre.run_cond]
   cases decide ((p0.length : Int) > 300) <;> rfl
 ·intro i x hx
  have hi : i < p0.length := (List.getElem?_eq_some_iff.1 hx).1
  unfold s_l08Asked_3c39_l4
  rw [run_inb hx, Tre.run_cond]
  cases vDeed x
  ·rfl
  ·simp only [Bool.not_true, cond_true, cond_false, Tre.run_ret, iwrap_succ (show i < 4611686018427387904 by omega)]
 ·unfold s_l08Asked_3c39_l4
  exact run_out
theorem askedM_zero {ds : List D8} {g : G8} (h : askedM ds g = 0) : isG g = true ∧ ds.all vDeed = true ∧ ds.length ≤ 300 := by
 unfold askedM at h
 cases h1 : (isG g && ds.all vDeed) with
 | false => rw [h1] at h; cases h
 | true =>
  rw [h1] at h
  by_cases h2 : (ds.length : Int) > 300
  ·rw [decide_eq_true h2] at h; cases h
  ·rw [Bool.and_eq_true] at h1
   exact ⟨h1.1, h1.2, by omega⟩
noncomputable def s_l08Asked_3c39_V : Env := ⟨tau, [(83, s_l08Ok_9aa7_c), (84, s_l08Deed_c)], []⟩
noncomputable def s_l08Asked_3c39_b : Code := (Try.f47.body).getD .skip
noncomputable def s_l08Asked_3c39_l4_mk (z4_0 : Bool) (z4_1 : Bool) (h4_0_0 : (List TDeed)) (h4_0_2 : TGather) : Int → St := fun x => stOf [(1, (.imm z4_0 (.sl kDeed) h4_0_0)), (5, (.imm true (.int .i64) x))] [((0, 0), some ⟨true, kGather, (.imm z4_1), h4_0_2⟩)]
noncomputable def s_l08Asked_3c39_l4_out (z4_0 : Bool) (z4_1 : Bool) (h4_0_0 : (List TDeed)) (h4_0_2 : TGather) : (Int ⊕ Unit) → Ex × St
 | .inl x => (.ret, stOf [(1, (.imm z4_0 (.sl kDeed) h4_0_0)), (4, (.imm true (.int .i64) x))] [((0, 0), some ⟨true, kGather, (.imm z4_1), h4_0_2⟩)])
 | .inr x => (.exit 0, stOf [(1, (.imm z4_0 (.sl kDeed) h4_0_0)), (4, .dead)] [((0, 0), some ⟨true, kGather, (.imm z4_1), h4_0_2⟩)])
noncomputable def s_l08Asked_3c39_l4_D (s : St) : Tre (Ex × St) :=
 asImm (.sl kDeed) (s.tmps 1) fun z3 d2 =>
 asImmZ true (.int .i64) (s.tmps 5) fun d5 =>
 asRoot true kGather (s.roots (0, 0)) fun m7 d8 =>
 asMImm m7 fun z9 =>
 .mat (loopF (s_l08Asked_3c39_l4 d2) d5) fun x => .alt x (fun a0 => .ret (s_l08Asked_3c39_l4_out z3 z9 d2 d8 (.inl a0))) (fun b0 => .ret (s_l08Asked_3c39_l4_out z3 z9 d2 d8 (.inr b0)))
noncomputable def s_l08Asked_3c39_l4_L : LoopI := ⟨([1, 5], [(0, 0)]), ([1, 4], [(0, 0)]), s_l08Asked_3c39_l4_D⟩
noncomputable def s_l08Asked_3c39_A : List (Nat × LoopI) := [(4, s_l08Asked_3c39_l4_L)]
set_option maxRecDepth 100000 in
theorem s_l08Asked_3c39_l4_step : ∀ (z4_0 : Bool) (z4_1 : Bool) (h4_0_0 : (List TDeed)) (h4_0_2 : TGather) (x : Int) (c : St → Option (Ex × St)), den s_l08Asked_3c39_V s_l08Asked_3c39_A (loopAt s_l08Asked_3c39_b 0) (s_l08Asked_3c39_l4_mk z4_0 z4_1 h4_0_0 h4_0_2 x) (roundK s_l08Asked_3c39_l4_L.kp s_l08Asked_3c39_l4_L.kx c) = (s_l08Asked_3c39_l4 h4_0_0 x).run (roundR (s_l08Asked_3c39_l4_mk z4_0 z4_1 h4_0_0 h4_0_2) (s_l08Asked_3c39_l4_out z4_0 z4_1 h4_0_0 h4_0_2) c) := fun _ _ _ _ _ _ => by
 kernel_rfl
theorem s_l08Asked_3c39_l4_ok : LoopOK s_l08Asked_3c39_V s_l08Asked_3c39_A (loopAt s_l08Asked_3c39_b 0) s_l08Asked_3c39_l4_L := loopOK_of fun s e s' h => by
 generalize hs : restrict s_l08Asked_3c39_l4_L.kp s = s1 at h
 have h : (s_l08Asked_3c39_l4_D s1).run some = some (e, s') := h
 obtain ⟨z3, d2, e1, h_0⟩ := asImm_spec h
 obtain ⟨d5, e4, h_1⟩ := asImmZ_spec h_0
 obtain ⟨m7, d8, e6, h_2⟩ := asRoot_spec h_1
 obtain ⟨z9, rfl, h_3⟩ := asMImm_spec h_2
 obtain ⟨y, hy, hz⟩ := mat_some h_3
 refine ⟨_, _, s_l08Asked_3c39_l4_mk z3 z9 d2 d8, s_l08Asked_3c39_l4_out z3 z9 d2 d8, s_l08Asked_3c39_l4 d2, d5, y, ?_, hy, ?_, s_l08Asked_3c39_l4_step z3 z9 d2 d8⟩
 ·subst hs; exact restrict_eq (T := [(1, (.imm z3 (.sl kDeed) d2)), (5, (.imm true (.int .i64) d5))]) (U := [((0, 0), some ⟨true, kGather, (.imm z9), d8⟩)]) rfl rfl ⟨e1, e4, trivial⟩ ⟨e6, trivial⟩
 ·rcases y with x | x <;> exact Option.some.inj hz
noncomputable def s_l08Asked_3c39_I : FnI := ⟨s_l08Asked_3c39_b, Try.f47.results.toList, Try.f47.resultTypes.toList, s_l08Asked_3c39_A⟩
noncomputable def s_l08Asked_3c39_out (_zp0 : Bool) (zp1 : Bool) (_p0 : (List TDeed)) (p1 : TGather) : Int → CallOut := fun r => ⟨(.imm true (.int .i64) r), [⟨true, kGather, (.imm zp1), p1⟩], []⟩
set_option maxRecDepth 100000 in
theorem s_l08Asked_3c39_eq : ∀ (zp0 : Bool) (zp1 : Bool) (p0 : (List TDeed)) (p1 : TGather), denFn s_l08Asked_3c39_V s_l08Asked_3c39_I ⟨[(.ptr (0, 0) []), (.imm zp0 (.sl kDeed) p0)], [⟨true, kGather, (.imm zp1), p1⟩]⟩ = (s_l08Asked_3c39 p0 p1).run fun r => some (s_l08Asked_3c39_out zp0 zp1 p0 p1 r) := fun _ _ _ _ => by kernel_rfl
noncomputable def s_l08Asked_3c39_G (av : List AV) (rs : List Root) : Tre CallOut :=
 asCons av fun a0_ av0 =>
 asCons av0 fun a1_ av1 =>
 asEnd av1 <|
 asCons rs fun r0_ rs0 =>
 asEnd rs0 <|
 asPtr (0, 0) [] a0_ <|
 asImm (.sl kDeed) a1_ fun z2 d1 =>
 asRt true kGather r0_ fun m3 d4 =>
 asMImm m3 fun z5 =>
 .mat (askedR d1 d4) fun r => .ret (s_l08Asked_3c39_out z2 z5 d1 d4 r)
noncomputable def s_l08Asked_3c39_c : Ctr := ⟨[], fun ci => s_l08Asked_3c39_G ci.args ci.roots⟩
theorem s_l08Asked_3c39_env : EnvOK Try.prog s_l08Asked_3c39_V := (envOK_cons s_l08Ok_9aa7_ok ent83 (envOK_cons s_l08Deed_ok ent84 envOK_nil))
set_option maxRecDepth 100000 in
theorem s_l08Asked_3c39_ok : Contract Try.prog 47 s_l08Asked_3c39_c := by
 have hl : LoopsOK s_l08Asked_3c39_V s_l08Asked_3c39_A s_l08Asked_3c39_b := (loopsOK_all (n := 1) (by kernel_rfl) fun k hk => by
   match k, hk with
   | 0, _ => exact loopOK_at (id := 4) (L := s_l08Asked_3c39_l4_L) (by kernel_rfl) (by kernel_rfl) s_l08Asked_3c39_l4_ok)
 refine (contract_of (F := s_l08Asked_3c39_I) tau_tys s_l08Asked_3c39_env Try.func47 (by kernel_rfl) (by kernel_rfl) (by kernel_rfl) hl []).weaken ?_
 rintro ⟨av, rs⟩ co h
 have h : (s_l08Asked_3c39_G av rs).run some = some co := h
 obtain ⟨a0_, av0, rfl, h_0⟩ := asCons_spec h
 obtain ⟨a1_, av1, rfl, h_1⟩ := asCons_spec h_0
 obtain ⟨rfl, h_2⟩ := asEnd_spec h_1
 obtain ⟨r0_, rs0, rfl, h_3⟩ := asCons_spec h_2
 obtain ⟨rfl, h_4⟩ := asEnd_spec h_3
 obtain ⟨rfl, h_5⟩ := asPtr_spec h_4
 obtain ⟨z2, d1, rfl, h_6⟩ := asImm_spec h_5
 obtain ⟨m3, d4, rfl, h_7⟩ := asRt_spec h_6
 obtain ⟨z5, rfl, h_8⟩ := asMImm_spec h_7
 exact fin_opt (s_l08Asked_3c39_eq z2 z5 d1 d4) (s_l08Asked_3c39_spec d1 d4) h_8
end Go.Proofs.Ytddaclhjnkimfaa

namespace Go.Proofs.Ytddaclhjnkimfaa
open Go Go.Abs Go.Proofs
noncomputable def s_l08Play_3c39_l4 (h4_0_0 : (List TDeed)) (h4_0_2 : TGather) : (Int × (TPlant × Unit) × (List Int)) → Tre ((Int × (TPlant × Unit) × (List Int)) ⊕ ((TPlant × Unit) × (List Int))) := fun s4 =>
 .cond (decide (s4.1 < (h4_0_0.length : Int)))
  (.ite (0 ≤ s4.1 ∧ s4.1 < (h4_0_0.length : Int)) <|
  .mat (h4_0_0[s4.1.toNat]?) fun x2 =>
  .mat (doR x2 s4.2.1 h4_0_2) fun r3 =>
  .ite ((s4.2.2.length + 1) * 8 ≤ appendMax ∧ 1 ≤ 8) <|
  .ret (.inl (iwrap .i64 (s4.1 + 1), r3.2, s4.2.2 ++ ([r3.1]))))
  (.ret (.inr (s4.2.1, s4.2.2)))
noncomputable def s_l08Play_3c39 (p0 : (List TDeed)) (p1 : TGather) : Tre ((TPlant × Unit) × (List Int)) :=
 .mat (beginR p1) fun r1 =>
 .mat (loopF (s_l08Play_3c39_l4 p0 p1) (0, r1, [])) fun l4 =>
 .ret (l4.1, l4.2)
noncomputable def s_l08Play_3c39_F (p0 : (List TDeed)) (p1 : TGather) : Option ((TPlant × Unit) × (List Int)) := (s_l08Play_3c39 p0 p1).run some
noncomputable def runM (g : G8) : List D8 → P8 → P8 × List Int
 | [], p => (p, [])
 | d :: l, p => ((runM g l (doM g d p).2).1, (doM g d p).1 :: (runM g l (doM g d p).2).2)
noncomputable def playR (ds : List D8) (g : G8) : Option ((P8 × Unit) × List Int) := askO (isG g && ds.all vDeed && decide (ds.length ≤ 300)) (((runM g ds (beginM g)).1, ()), (runM g ds (beginM g)).2)
theorem foldE_run (g : G8) : ∀ (l : List D8) (i : Nat) (p : P8) (cs : List Int), foldE (β := (P8 × Unit) × List Int) (fun (_ : Nat) (acc : (P8 × Unit) × List Int) d => .inl (((doM g d acc.1.1).2, ()), acc.2 ++ [(doM g d acc.1.1).1])) id i ((p, ()), cs) l = (((runM g l p).1, ()), cs ++ (runM g l p).2) := by
 intro l
 induction l with
 | nil => intro i p cs; simp [foldE, runM]
 | cons d l ih => intro i p cs; simp only [foldE, runM]; rw [ih]; simp
theorem runM_ok {g : G8} (hg : isG g = true) : ∀ (l : List D8) {k : Nat} {p : P8}, l.all vDeed = true → okP k g p = true → okP (k + l.length) g (runM g l p).1 = true := by
 intro l
 induction l with
 | nil => intro k p _ h; exact h
 | cons d l ih =>
  intro k p hd h
  simp only [List.all_cons, Bool.and_eq_true] at hd
  have := ih hd.2 (doM_ok hg hd.1 h)
  rw [show k + 1 + l.length = k + (d :: l).length by simp; omega] at this
  exact this
theorem s_l08Play_3c39_spec (p0 : List D8) (p1 : G8) (y : (P8 × Unit) × List Int) (h : playR p0 p1 = some y) : s_l08Play_3c39_F p0 p1 = some y := by
 obtain ⟨hok, rfl⟩ := askO_some h
 simp only [Bool.and_eq_true, decide_eq_true_eq] at hok
 obtain ⟨⟨hg, hd⟩, hl⟩ := hok
 unfold s_l08Play_3c39_F s_l08Play_3c39
 rw [run_some_mat (show beginR p1 = some _ from askO_true hg)]
 have := fold_loop (xs := p0) (step := s_l08Play_3c39_l4 p0 p1) (fun i acc => ((i : Int), acc)) (fun (_ : Nat) (acc : (P8 × Unit) × List Int) d => .inl (((doM p1 d acc.1.1).2, ()), acc.2 ++ [(doM p1 d acc.1.1).1])) id (fun i acc => okP (4 + i) p1 acc.1.1 = true ∧ acc.2.length = i) (by
  rintro i ⟨⟨p, ⟨⟩⟩, cs⟩ x hx ⟨hI, hcs⟩
  have hi : i < p0.length := (List.getElem?_eq_some_iff.1 hx).1
  have hv : vDeed x = true := List.all_eq_true.1 hd x (List.mem_of_getElem? hx)
  have hcs : cs.length = i := hcs
  refine ⟨?_, fun a ha => by cases ha; exact ⟨doM_ok hg hv hI, by simp [hcs]⟩⟩
  unfold s_l08Play_3c39_l4
  rw [run_inb hx, run_some_mat (show doR x (p, ()) p1 = some _ from askO_true (by
   rw [Bool.and_eq_true, Bool.and_eq_true]; exact ⟨⟨hg, hv⟩, okP_mono hI (by omega)⟩)), Tre.run_ite, if_pos (by unfold appendMax; dsimp only; omega), Tre.run_ret, iwrap_succ (by omega)])
  (by
  intro acc _
  unfold s_l08Play_3c39_l4
  exact run_out) p0 0 ((beginM p1, ()), []) rfl (Nat.zero_le _) ⟨beginM_ok hg, rfl⟩
 rw [foldE_run] at this
 have h1 : loopF (s_l08Play_3c39_l4 p0 p1) (0, (beginM p1, ()), []) = some (((runM p1 p0 (beginM p1)).1, ()), [] ++ (runM p1 p0 (beginM p1)).2) := this
 rw [run_some_mat h1]
 rfl
noncomputable def s_l08Play_3c39_V : Env := ⟨tau, [(85, s_l08Begin_9aa7_c), (86, s_l08Run_do_9d6c_c)], []⟩
noncomputable def s_l08Play_3c39_b : Code := (Try.f48.body).getD .skip
noncomputable def s_l08Play_3c39_l4_mk (z4_0 : Bool) (z4_1 : Bool) (h4_0_0 : (List TDeed)) (h4_0_2 : TGather) : (Int × (TPlant × Unit) × (List Int)) → St := fun x => stOf [(1, (.imm z4_0 (.sl kDeed) h4_0_0)), (6, (.ptr (12, 0) [])), (7, (.ref (9, 0) [])), (8, (.imm true (.int .i64) x.1))] [((0, 0), some ⟨true, kGather, (.imm z4_1), h4_0_2⟩), ((12, 0), some ⟨true, kL08Run, .own, ((some (0, 0) : Option RName), x.2.1)⟩), ((9, 0), some ⟨false, (.sl (.int .i64)), .own, x.2.2⟩)]
noncomputable def s_l08Play_3c39_l4_out (_z4_0 : Bool) (z4_1 : Bool) (_h4_0_0 : (List TDeed)) (h4_0_2 : TGather) : ((TPlant × Unit) × (List Int)) → Ex × St := fun x => (.exit 0, stOf [(6, (.ptr (12, 0) [])), (7, (.ref (9, 0) []))] [((0, 0), some ⟨true, kGather, (.imm z4_1), h4_0_2⟩), ((12, 0), some ⟨true, kL08Run, .own, ((some (0, 0) : Option RName), x.1)⟩), ((9, 0), some ⟨false, (.sl (.int .i64)), .own, x.2⟩)])
noncomputable def s_l08Play_3c39_l4_D (s : St) : Tre (Ex × St) :=
 asImm (.sl kDeed) (s.tmps 1) fun z3 d2 =>
 asPtr (12, 0) [] (s.tmps 6) <|
 asRef (9, 0) [] (s.tmps 7) <|
 asImmZ true (.int .i64) (s.tmps 8) fun d7 =>
 asRoot true kGather (s.roots (0, 0)) fun m9 d10 =>
 asMImm m9 fun z11 =>
 asRoot true kL08Run (s.roots (12, 0)) fun m13 d14 =>
 asM .own m13 <|
 asProd d14 fun d15 d16 =>
 asD d15 (some (0, 0) : Option RName) <|
 asRoot false (.sl (.int .i64)) (s.roots (9, 0)) fun m18 d19 =>
 asM .own m18 <|
 .mat (loopF (s_l08Play_3c39_l4 d2 d10) (d7, d16, d19)) fun x => .ret (s_l08Play_3c39_l4_out z3 z11 d2 d10 x)
noncomputable def s_l08Play_3c39_l4_L : LoopI := ⟨([1, 6, 7, 8], [(0, 0), (12, 0), (9, 0)]), ([6, 7], [(0, 0), (12, 0), (9, 0)]), s_l08Play_3c39_l4_D⟩
noncomputable def s_l08Play_3c39_A : List (Nat × LoopI) := [(4, s_l08Play_3c39_l4_L)]
set_option maxRecDepth 100000 in
theorem s_l08Play_3c39_l4_step : ∀ (z4_0 : Bool) (z4_1 : Bool) (h4_0_0 : (List TDeed)) (h4_0_2 : TGather) (x : (Int × (TPlant × Unit) × (List Int))) (c : St → Option (Ex × St)), den s_l08Play_3c39_V s_l08Play_3c39_A (loopAt s_l08Play_3c39_b 0) (s_l08Play_3c39_l4_mk z4_0 z4_1 h4_0_0 h4_0_2 x) (roundK s_l08Play_3c39_l4_L.kp s_l08Play_3c39_l4_L.kx c) = (s_l08Play_3c39_l4 h4_0_0 h4_0_2 x).run (roundR (s_l08Play_3c39_l4_mk z4_0 z4_1 h4_0_0 h4_0_2) (s_l08Play_3c39_l4_out z4_0 z4_1 h4_0_0 h4_0_2) c) := fun _ _ _ _ _ _ => by
 kernel_rfl
theorem s_l08Play_3c39_l4_ok : LoopOK s_l08Play_3c39_V s_l08Play_3c39_A (loopAt s_l08Play_3c39_b 0) s_l08Play_3c39_l4_L := loopOK_of fun s e s' h => by
 generalize hs : restrict s_l08Play_3c39_l4_L.kp s = s1 at h
 have h : (s_l08Play_3c39_l4_D s1).run some = some (e, s') := h
 obtain ⟨z3, d2, e1, h_0⟩ := asImm_spec h
 obtain ⟨e4, h_1⟩ := asPtr_spec h_0
 obtain ⟨e5, h_2⟩ := asRef_spec h_1
 obtain ⟨d7, e6, h_3⟩ := asImmZ_spec h_2
 obtain ⟨m9, d10, e8, h_4⟩ := asRoot_spec h_3
 obtain ⟨z11, rfl, h_5⟩ := asMImm_spec h_4
 obtain ⟨m13, d14, e12, h_6⟩ := asRoot_spec h_5
 obtain ⟨rfl, h_7⟩ := asM_spec h_6
 obtain ⟨d15, d16, rfl, h_8⟩ := asProd_spec h_7
 obtain ⟨rfl, h_9⟩ := asD_spec h_8
 obtain ⟨m18, d19, e17, h_10⟩ := asRoot_spec h_9
 obtain ⟨rfl, h_11⟩ := asM_spec h_10
 obtain ⟨y, hy, hz⟩ := mat_ret h_11
 refine ⟨_, _, s_l08Play_3c39_l4_mk z3 z11 d2 d10, s_l08Play_3c39_l4_out z3 z11 d2 d10, s_l08Play_3c39_l4 d2 d10, (d7, d16, d19), y, ?_, hy, ?_, s_l08Play_3c39_l4_step z3 z11 d2 d10⟩
 ·subst hs; exact restrict_eq (T := [(1, (.imm z3 (.sl kDeed) d2)), (6, (.ptr (12, 0) [])), (7, (.ref (9, 0) [])), (8, (.imm true (.int .i64) d7))]) (U := [((0, 0), some ⟨true, kGather, (.imm z11), d10⟩), ((12, 0), some ⟨true, kL08Run, .own, ((some (0, 0) : Option RName), d16)⟩), ((9, 0), some ⟨false, (.sl (.int .i64)), .own, d19⟩)]) rfl rfl ⟨e1, e4, e5, e6, trivial⟩ ⟨e8, e12, e17, trivial⟩
 ·exact Option.some.inj hz
noncomputable def s_l08Play_3c39_I : FnI := ⟨s_l08Play_3c39_b, Try.f48.results.toList, Try.f48.resultTypes.toList, s_l08Play_3c39_A⟩
noncomputable def s_l08Play_3c39_out (_zp0 : Bool) (zp1 : Bool) (_p0 : (List TDeed)) (p1 : TGather) : ((TPlant × Unit) × (List Int)) → CallOut := fun r => ⟨(.tcons (.ptr (1, 0) []) (.tcons (.ref (1, 1) []) .tnil)), [⟨true, kGather, (.imm zp1), p1⟩], [⟨true, kL08Run, .own, ((some (0, 0) : Option RName), r.1)⟩, ⟨false, (.sl (.int .i64)), .own, r.2⟩]⟩
set_option maxRecDepth 100000 in
theorem s_l08Play_3c39_eq : ∀ (zp0 : Bool) (zp1 : Bool) (p0 : (List TDeed)) (p1 : TGather), denFn s_l08Play_3c39_V s_l08Play_3c39_I ⟨[(.ptr (0, 0) []), (.imm zp0 (.sl kDeed) p0)], [⟨true, kGather, (.imm zp1), p1⟩]⟩ = (s_l08Play_3c39 p0 p1).run fun r => some (s_l08Play_3c39_out zp0 zp1 p0 p1 r) := fun _ _ _ _ => by kernel_rfl
noncomputable def s_l08Play_3c39_G (av : List AV) (rs : List Root) : Tre CallOut :=
 asCons av fun a0_ av0 =>
 asCons av0 fun a1_ av1 =>
 asEnd av1 <|
 asCons rs fun r0_ rs0 =>
 asEnd rs0 <|
 asPtr (0, 0) [] a0_ <|
 asImm (.sl kDeed) a1_ fun z2 d1 =>
 asRt true kGather r0_ fun m3 d4 =>
 asMImm m3 fun z5 =>
 .mat (playR d1 d4) fun r => .ret (s_l08Play_3c39_out z2 z5 d1 d4 r)
noncomputable def s_l08Play_3c39_c : Ctr := ⟨[], fun ci => s_l08Play_3c39_G ci.args ci.roots⟩
theorem s_l08Play_3c39_env : EnvOK Try.prog s_l08Play_3c39_V := (envOK_cons s_l08Begin_9aa7_ok ent85 (envOK_cons s_l08Run_do_9d6c_ok ent86 envOK_nil))
set_option maxRecDepth 100000 in
theorem s_l08Play_3c39_ok : Contract Try.prog 48 s_l08Play_3c39_c := by
 have hl : LoopsOK s_l08Play_3c39_V s_l08Play_3c39_A s_l08Play_3c39_b := (loopsOK_all (n := 1) (by kernel_rfl) fun k hk => by
   match k, hk with
   | 0, _ => exact loopOK_at (id := 4) (L := s_l08Play_3c39_l4_L) (by kernel_rfl) (by kernel_rfl) s_l08Play_3c39_l4_ok)
 refine (contract_of (F := s_l08Play_3c39_I) tau_tys s_l08Play_3c39_env Try.func48 (by kernel_rfl) (by kernel_rfl) (by kernel_rfl) hl []).weaken ?_
 rintro ⟨av, rs⟩ co h
 have h : (s_l08Play_3c39_G av rs).run some = some co := h
 obtain ⟨a0_, av0, rfl, h_0⟩ := asCons_spec h
 obtain ⟨a1_, av1, rfl, h_1⟩ := asCons_spec h_0
 obtain ⟨rfl, h_2⟩ := asEnd_spec h_1
 obtain ⟨r0_, rs0, rfl, h_3⟩ := asCons_spec h_2
 obtain ⟨rfl, h_4⟩ := asEnd_spec h_3
 obtain ⟨rfl, h_5⟩ := asPtr_spec h_4
 obtain ⟨z2, d1, rfl, h_6⟩ := asImm_spec h_5
 obtain ⟨m3, d4, rfl, h_7⟩ := asRt_spec h_6
 obtain ⟨z5, rfl, h_8⟩ := asMImm_spec h_7
 exact fin_opt (s_l08Play_3c39_eq z2 z5 d1 d4) (s_l08Play_3c39_spec d1 d4) h_8
end Go.Proofs.Ytddaclhjnkimfaa

namespace Go.Proofs.Ytddaclhjnkimfaa
open Go Go.Abs Go.Proofs
-- shared
def codeM (g : G8) (ds : List D8) (s : Int) : Int := cond (isG g && ds.all vDeed) (cond (decide ((ds.length : Int) > 300)) 2 (cond (inR s 0 (statG g - 1)) 0 2)) 1
theorem codeM_asked (g : G8) (ds : List D8) (s : Int) : codeM g ds s = cond (decide (askedM ds g = 0)) (cond (inR s 0 (statG g - 1)) 0 2) (askedM ds g) := by
 unfold codeM askedM
 cases (isG g && ds.all vDeed)
 ·rfl
 ·cases decide ((ds.length : Int) > 300)
  ·rfl
  ·rfl
theorem codeM_zero (g : G8) (ds : List D8) : codeM g ds 0 = askedM ds g := by
 unfold codeM askedM
 cases h : isG g
 ·rfl
 ·have := isG_spec h
  rw [show inR 0 0 (statG g - 1) = true from by rw [inR_iff]; unfold statG; omega, cond_true]
noncomputable def afterM (g : G8) (ds : List D8) : P8 := (runM g ds (beginM g)).1
theorem codeM_zero_spec {g : G8} {ds : List D8} {s : Int} (h : codeM g ds s = 0) : isG g = true ∧ ds.all vDeed = true ∧ ds.length ≤ 300 ∧ 0 ≤ s ∧ s ≤ statG g - 1 := by
 rw [codeM_asked] at h
 by_cases h0 : askedM ds g = 0
 ·rw [decide_eq_true h0, cond_true] at h
  obtain ⟨hg, hd, hl⟩ := askedM_zero h0
  cases hs : inR s 0 (statG g - 1) with
  | false => rw [hs] at h; cases h
  | true => exact ⟨hg, hd, hl, inR_iff.1 hs⟩
 ·rw [decide_eq_false h0, cond_false] at h
  exact absurd h h0
theorem afterM_ok {g : G8} {ds : List D8} (hg : isG g = true) (hd : ds.all vDeed = true) (hl : ds.length ≤ 300) : okP 304 g (afterM g ds) = true :=
 okP_mono (runM_ok hg ds hd (beginM_ok hg)) (by omega)
theorem rows_at {g : G8} {ds : List D8} {s : Int} (h : codeM g ds s = 0) : ∃ (i : Nat) (x : List Int × List Int × Unit), s = (i : Int) ∧ (afterM g ds).1[i]? = some x ∧ i < (afterM g ds).1.length ∧ okS 304 (colsG g) x.1 = true ∧ isG g = true := by
 obtain ⟨hg, hd, hl, h1, h2⟩ := codeM_zero_spec h
 obtain ⟨i, rfl⟩ := Int.eq_ofNat_of_zero_le h1
 obtain ⟨l1, l2, _, _⟩ := okP_spec (afterM_ok hg hd hl)
 have hi : i < (afterM g ds).1.length := by omega
 exact ⟨i, _, rfl, List.getElem?_eq_getElem hi, hi, (l2 _ (List.getElem_mem hi)).1, hg⟩
noncomputable def rowsM (g : G8) (ds : List D8) (s : Int) : List Int := match (afterM g ds).1[s.toNat]? with
 | some x => x.1
 | none => []
end Go.Proofs.Ytddaclhjnkimfaa

namespace Go.Proofs.Ytddaclhjnkimfaa
open Go Go.Abs Go.Proofs
noncomputable def i_deedsCode (p0 : TGather) (p1 : (List TDeed)) (p2 : Int) : Tre Int :=
 .mat (okG p0) fun r1 =>
 .cond (!r1)
  (.ret 1)
  (.mat (hasV p1) fun r2 =>
  .cond r2
   (.ret 1)
   (.cond (decide ((p1.length : Int) > 300))
    (.ret 2)
    (let v3 := i_Gather_isStation_S p0 p2
    .cond (!v3)
     (.ret 2)
     (.ret 0))))
noncomputable def i_deedsCode_F (p0 : TGather) (p1 : (List TDeed)) (p2 : Int) : Option Int := (i_deedsCode p0 p1 p2).run some
def codeR (g : G8) (ds : List D8) (s : Int) : Option Int := askO (decide (g.2.2.1.length ≤ 1048576) && decide (ds.length ≤ 1048576)) (codeM g ds s)
theorem isStation_S {g : G8} (h : isG g = true) (s : Int) : i_Gather_isStation_S g s = inR s 0 (statG g - 1) := by
 have := isG_spec h
 unfold i_Gather_isStation_S i_Gather_stations_S statG
 dsimp only
 rw [iwrap_i64 (n := 1 + g.2.2.2.1) (by omega) (by omega), iwrap_i64 (n := 1 + g.2.2.2.1 + g.2.2.2.2.1) (by omega) (by omega), iwrap_i64 (by omega) (by omega)]
theorem i_deedsCode_spec (p0 : G8) (p1 : List D8) (p2 : Int) (y : Int) (h : codeR p0 p1 p2 = some y) : i_deedsCode_F p0 p1 p2 = some y := by
 obtain ⟨hok, rfl⟩ := askO_some h
 simp only [Bool.and_eq_true] at hok
 obtain ⟨hg, hd⟩ := hok
 unfold i_deedsCode_F i_deedsCode codeM
 rw [run_some_mat (show okG p0 = some _ from lim_of (of_decide_eq_true hg)), Tre.run_cond]
 cases h1 : isG p0
 ·rfl
 rw [Bool.not_true, cond_false, Bool.true_and, run_some_mat (show hasV p1 = some _ from askO_true hd), List.not_all_eq_any_not.symm, Tre.run_cond]
 cases p1.all vDeed
 ·rfl
 rw [Bool.not_true, cond_false, cond_true, Tre.run_cond]
 dsimp only
 rw [isStation_S h1, Tre.run_cond]
 cases decide ((p1.length : Int) > 300)
 ·cases inR p2 0 (statG p0 - 1) <;> rfl
 ·rfl
noncomputable def i_deedsCode_V : Env := ⟨tau, [(60, i_ValidGather_c), (75, slices_ContainsFunc_Deed_i_deedsCodec1_c), (78, i_Gather_isStation_c)], []⟩
noncomputable def i_deedsCode_b : Code := (Try.f40.body).getD .skip
noncomputable def i_deedsCode_I : FnI := ⟨i_deedsCode_b, Try.f40.results.toList, Try.f40.resultTypes.toList, []⟩
noncomputable def i_deedsCode_out (_zp0 : Bool) (_zp1 : Bool) (_p0 : TGather) (_p1 : (List TDeed)) (_p2 : Int) : Int → CallOut := fun r => ⟨(.imm true (.int .i64) r), [], []⟩
set_option maxRecDepth 100000 in
theorem i_deedsCode_eq : ∀ (zp0 : Bool) (zp1 : Bool) (p0 : TGather) (p1 : (List TDeed)) (p2 : Int), denFn i_deedsCode_V i_deedsCode_I ⟨[(.imm zp0 kGather p0), (.imm zp1 (.sl kDeed) p1), (.imm true (.int .i64) p2)], []⟩ = (i_deedsCode p0 p1 p2).run fun r => some (i_deedsCode_out zp0 zp1 p0 p1 p2 r) := fun _ _ _ _ _ => by kernel_rfl
noncomputable def i_deedsCode_G (av : List AV) (rs : List Root) : Tre CallOut :=
 asCons av fun a0_ av0 =>
 asCons av0 fun a1_ av1 =>
 asCons av1 fun a2_ av2 =>
 asEnd av2 <|
 asEnd rs <|
 asImm kGather a0_ fun z2 d1 =>
 asImm (.sl kDeed) a1_ fun z4 d3 =>
 asImmZ true (.int .i64) a2_ fun d5 =>
 .mat (codeR d1 d3 d5) fun r => .ret (i_deedsCode_out z2 z4 d1 d3 d5 r)
noncomputable def i_deedsCode_c : Ctr := ⟨[], fun ci => i_deedsCode_G ci.args ci.roots⟩
theorem i_deedsCode_env : EnvOK Try.prog i_deedsCode_V := (envOK_cons i_ValidGather_ok ent60 (envOK_cons slices_ContainsFunc_Deed_i_deedsCodec1_ok ent75 (envOK_cons i_Gather_isStation_ok ent78 envOK_nil)))
set_option maxRecDepth 100000 in
theorem i_deedsCode_ok : Contract Try.prog 40 i_deedsCode_c := by
 have hl : LoopsOK i_deedsCode_V [] i_deedsCode_b := loopsOK_nil (by kernel_rfl)
 refine (contract_of (F := i_deedsCode_I) tau_tys i_deedsCode_env Try.func40 (by kernel_rfl) (by kernel_rfl) (by kernel_rfl) hl []).weaken ?_
 rintro ⟨av, rs⟩ co h
 have h : (i_deedsCode_G av rs).run some = some co := h
 obtain ⟨a0_, av0, rfl, h_0⟩ := asCons_spec h
 obtain ⟨a1_, av1, rfl, h_1⟩ := asCons_spec h_0
 obtain ⟨a2_, av2, rfl, h_2⟩ := asCons_spec h_1
 obtain ⟨rfl, h_3⟩ := asEnd_spec h_2
 obtain ⟨rfl, h_4⟩ := asEnd_spec h_3
 obtain ⟨z2, d1, rfl, h_5⟩ := asImm_spec h_4
 obtain ⟨z4, d3, rfl, h_6⟩ := asImm_spec h_5
 obtain ⟨d5, rfl, h_7⟩ := asImmZ_spec h_6
 exact fin_opt (i_deedsCode_eq z2 z4 d1 d3 d5) (i_deedsCode_spec d1 d3 d5) h_7
end Go.Proofs.Ytddaclhjnkimfaa

namespace Go.Proofs.Ytddaclhjnkimfaa
open Go Go.Abs Go.Proofs
noncomputable def i_Gather_source_l3 (h3_0_0 : (List Int)) (h3_0_1 : Int) (h3_0_3 : TGather) : (Int × (List Int)) → Tre ((Int × (List Int)) ⊕ (List Int)) := fun s3 =>
 .cond (decide (s3.1 < h3_0_1))
  (.ite (0 ≤ s3.1 ∧ s3.1 < (h3_0_0.length : Int)) <|
  .mat (h3_0_0[s3.1.toNat]?) fun x1 =>
  .ite (0 ≤ s3.1) <|
  .ite (0 ≤ h3_0_3.1) <|
  let v2 := ior .i64 (ishl .i64 1 s3.1) (ishl .i64 x1 h3_0_3.1)
  .ite ((s3.2.length + 1) * 8 ≤ appendMax ∧ 1 ≤ 8) <|
  .ret (.inl (iwrap .i64 (s3.1 + 1), s3.2 ++ ([v2]))))
  (.ret (.inr s3.2))
noncomputable def i_Gather_source (p0 : TGather) : Tre (List Int) :=
 .mat (loopF (i_Gather_source_l3 p0.2.2.1 (p0.2.2.1.length : Int) p0) (0, [])) fun l3 =>
 .ret l3
noncomputable def i_Gather_source_F (p0 : TGather) : Option (List Int) := (i_Gather_source p0).run some
theorem i_Gather_source_spec (p0 : Int × Int × List Int × Int × Int × Unit) (y : List Int) (h : srcR p0 = some y) : i_Gather_source_F p0 = some y := by
 obtain ⟨hok, rfl⟩ := askO_some h
 simp only [Bool.and_eq_true, decide_eq_true_eq, inR_iff] at hok
 obtain ⟨hk, hl⟩ := hok
 unfold i_Gather_source_F i_Gather_source
 have := fold_loop (xs := p0.2.2.1) (step := i_Gather_source_l3 p0.2.2.1 (p0.2.2.1.length : Int) p0) (fun i acc => ((i : Int), acc)) (fun i acc x => .inl (acc ++ [ior .i64 (ishl .i64 1 (i : Int)) (ishl .i64 x p0.1)])) id (fun i acc => acc.length = i) (by
  intro i acc x hx hI
  have hi : i < p0.2.2.1.length := (List.getElem?_eq_some_iff.1 hx).1
  refine ⟨?_, fun a ha => by cases ha; simp [hI]⟩
  unfold i_Gather_source_l3
  rw [run_inb hx]
  dsimp only
  rw [Tre.run_ite, if_pos (by omega), Tre.run_ite, if_pos (by omega), Tre.run_ite, if_pos (by unfold appendMax; omega), Tre.run_ret, iwrap_succ (by omega)])
  (by
  intro acc _
  unfold i_Gather_source_l3
  exact run_out) p0.2.2.1 0 [] rfl (Nat.zero_le _) rfl
 have h1 : loopF (i_Gather_source_l3 p0.2.2.1 (p0.2.2.1.length : Int) p0) (0, []) = some (srcL p0) := this
 rw [run_some_mat h1]
 rfl
noncomputable def i_Gather_source_V : Env := ⟨tau, [], []⟩
noncomputable def i_Gather_source_b : Code := (Try.f61.body).getD .skip
noncomputable def i_Gather_source_l3_mk (z3_0 : Bool) (z3_1 : Bool) (h3_0_0 : (List Int)) (h3_0_1 : Int) (h3_0_3 : TGather) : (Int × (List Int)) → St := fun x => stOf [(1, (.ptr (3, 0) [])), (3, (.ref (5, 0) [])), (8, (.imm z3_0 (.sl (.int .i64)) h3_0_0)), (9, (.imm true (.int .i64) h3_0_1)), (10, (.imm true (.int .i64) x.1))] [((3, 0), some ⟨true, kGather, (.imm z3_1), h3_0_3⟩), ((5, 0), some ⟨false, (.sl (.int .i64)), .own, x.2⟩)]
noncomputable def i_Gather_source_l3_out (_z3_0 : Bool) (_z3_1 : Bool) (_h3_0_0 : (List Int)) (_h3_0_1 : Int) (_h3_0_3 : TGather) : (List Int) → Ex × St := fun x => (.exit 0, stOf [(3, (.ref (5, 0) []))] [((5, 0), some ⟨false, (.sl (.int .i64)), .own, x⟩)])
noncomputable def i_Gather_source_l3_D (s : St) : Tre (Ex × St) :=
 asPtr (3, 0) [] (s.tmps 1) <|
 asRef (5, 0) [] (s.tmps 3) <|
 asImm (.sl (.int .i64)) (s.tmps 8) fun z5 d4 =>
 asImmZ true (.int .i64) (s.tmps 9) fun d7 =>
 asImmZ true (.int .i64) (s.tmps 10) fun d9 =>
 asRoot true kGather (s.roots (3, 0)) fun m11 d12 =>
 asMImm m11 fun z13 =>
 asRoot false (.sl (.int .i64)) (s.roots (5, 0)) fun m15 d16 =>
 asM .own m15 <|
 .mat (loopF (i_Gather_source_l3 d4 d7 d12) (d9, d16)) fun x => .ret (i_Gather_source_l3_out z5 z13 d4 d7 d12 x)
noncomputable def i_Gather_source_l3_L : LoopI := ⟨([1, 3, 8, 9, 10], [(3, 0), (5, 0)]), ([3], [(5, 0)]), i_Gather_source_l3_D⟩
noncomputable def i_Gather_source_A : List (Nat × LoopI) := [(3, i_Gather_source_l3_L)]
set_option maxRecDepth 100000 in
theorem i_Gather_source_l3_step : ∀ (z3_0 : Bool) (z3_1 : Bool) (h3_0_0 : (List Int)) (h3_0_1 : Int) (h3_0_3 : TGather) (x : (Int × (List Int))) (c : St → Option (Ex × St)), den i_Gather_source_V i_Gather_source_A (loopAt i_Gather_source_b 0) (i_Gather_source_l3_mk z3_0 z3_1 h3_0_0 h3_0_1 h3_0_3 x) (roundK i_Gather_source_l3_L.kp i_Gather_source_l3_L.kx c) = (i_Gather_source_l3 h3_0_0 h3_0_1 h3_0_3 x).run (roundR (i_Gather_source_l3_mk z3_0 z3_1 h3_0_0 h3_0_1 h3_0_3) (i_Gather_source_l3_out z3_0 z3_1 h3_0_0 h3_0_1 h3_0_3) c) := fun _ _ _ _ _ _ _ => by
 kernel_rfl
theorem i_Gather_source_l3_ok : LoopOK i_Gather_source_V i_Gather_source_A (loopAt i_Gather_source_b 0) i_Gather_source_l3_L := loopOK_of fun s e s' h => by
 generalize hs : restrict i_Gather_source_l3_L.kp s = s1 at h
 have h : (i_Gather_source_l3_D s1).run some = some (e, s') := h
 obtain ⟨e1, h_0⟩ := asPtr_spec h
 obtain ⟨e2, h_1⟩ := asRef_spec h_0
 obtain ⟨z5, d4, e3, h_2⟩ := asImm_spec h_1
 obtain ⟨d7, e6, h_3⟩ := asImmZ_spec h_2
 obtain ⟨d9, e8, h_4⟩ := asImmZ_spec h_3
 obtain ⟨m11, d12, e10, h_5⟩ := asRoot_spec h_4
 obtain ⟨z13, rfl, h_6⟩ := asMImm_spec h_5
 obtain ⟨m15, d16, e14, h_7⟩ := asRoot_spec h_6
 obtain ⟨rfl, h_8⟩ := asM_spec h_7
 obtain ⟨y, hy, hz⟩ := mat_ret h_8
 refine ⟨_, _, i_Gather_source_l3_mk z5 z13 d4 d7 d12, i_Gather_source_l3_out z5 z13 d4 d7 d12, i_Gather_source_l3 d4 d7 d12, (d9, d16), y, ?_, hy, ?_, i_Gather_source_l3_step z5 z13 d4 d7 d12⟩
 ·subst hs; exact restrict_eq (T := [(1, (.ptr (3, 0) [])), (3, (.ref (5, 0) [])), (8, (.imm z5 (.sl (.int .i64)) d4)), (9, (.imm true (.int .i64) d7)), (10, (.imm true (.int .i64) d9))]) (U := [((3, 0), some ⟨true, kGather, (.imm z13), d12⟩), ((5, 0), some ⟨false, (.sl (.int .i64)), .own, d16⟩)]) rfl rfl ⟨e1, e2, e3, e6, e8, trivial⟩ ⟨e10, e14, trivial⟩
 ·exact Option.some.inj hz
noncomputable def i_Gather_source_I : FnI := ⟨i_Gather_source_b, Try.f61.results.toList, Try.f61.resultTypes.toList, i_Gather_source_A⟩
noncomputable def i_Gather_source_out (_zp0 : Bool) (_p0 : TGather) : (List Int) → CallOut := fun r => ⟨(.ref (1, 0) []), [], [⟨false, (.sl (.int .i64)), .own, r⟩]⟩
set_option maxRecDepth 100000 in
theorem i_Gather_source_eq : ∀ (zp0 : Bool) (p0 : TGather), denFn i_Gather_source_V i_Gather_source_I ⟨[(.imm zp0 kGather p0)], []⟩ = (i_Gather_source p0).run fun r => some (i_Gather_source_out zp0 p0 r) := fun _ _ => by kernel_rfl
noncomputable def i_Gather_source_G (av : List AV) (rs : List Root) : Tre CallOut :=
 asCons av fun a0_ av0 =>
 asEnd av0 <|
 asEnd rs <|
 asImm kGather a0_ fun z2 d1 =>
 .mat (srcR d1) fun r => .ret (i_Gather_source_out z2 d1 r)
noncomputable def i_Gather_source_c : Ctr := ⟨[], fun ci => i_Gather_source_G ci.args ci.roots⟩
theorem i_Gather_source_env : EnvOK Try.prog i_Gather_source_V := envOK_nil
set_option maxRecDepth 100000 in
theorem i_Gather_source_ok : Contract Try.prog 61 i_Gather_source_c := by
 have hl : LoopsOK i_Gather_source_V i_Gather_source_A i_Gather_source_b := (loopsOK_all (n := 1) (by kernel_rfl) fun k hk => by
   match k, hk with
   | 0, _ => exact loopOK_at (id := 3) (L := i_Gather_source_l3_L) (by kernel_rfl) (by kernel_rfl) i_Gather_source_l3_ok)
 refine (contract_of (F := i_Gather_source_I) tau_tys i_Gather_source_env Try.func61 (by kernel_rfl) (by kernel_rfl) (by kernel_rfl) hl []).weaken ?_
 rintro ⟨av, rs⟩ co h
 have h : (i_Gather_source_G av rs).run some = some co := h
 obtain ⟨a0_, av0, rfl, h_0⟩ := asCons_spec h
 obtain ⟨rfl, h_1⟩ := asEnd_spec h_0
 obtain ⟨rfl, h_2⟩ := asEnd_spec h_1
 obtain ⟨z2, d1, rfl, h_3⟩ := asImm_spec h_2
 exact fin_opt (i_Gather_source_eq z2 d1) (i_Gather_source_spec d1) h_3
end Go.Proofs.Ytddaclhjnkimfaa

namespace Go.Proofs.Ytddaclhjnkimfaa
open Go Go.Abs Go.Proofs
noncomputable def i_newWorks (p0 : TGather) : Tre TWorks :=
 .ite ((kStation : K) = kStation ∧ 0 ≤ (i_Gather_stations_S p0) ∧ (i_Gather_stations_S p0) = (i_Gather_stations_S p0) ∧ (i_Gather_stations_S p0) * (48 : Nat) ≤ 140737488355328 ∧ 1 ≤ 48) <|
 .mat (srcR p0) fun r1 =>
 .mat (srcR p0) fun r2 =>
 .ite (0 ≤ (0 : Int) ∧ (0 : Int) < ((List.replicate (i_Gather_stations_S p0).toNat (([], ([], ())) : TStation)).length : Int)) <|
 .mat ((List.replicate (i_Gather_stations_S p0).toNat (([], ([], ())) : TStation))[0]?) fun _ =>
 let v4 := (List.replicate (i_Gather_stations_S p0).toNat (([], ([], ())) : TStation)).set 0 (r1, (r2, ()))
 .ret ((v4, ([], ())), (p0, ()))
noncomputable def i_newWorks_F (p0 : TGather) : Option TWorks := (i_newWorks p0).run some
def newR (g : G8) : Option (P8 × (G8 × Unit)) := askO (isG g) (beginM g, g, ())
theorem i_newWorks_spec (p0 : G8) (y : P8 × (G8 × Unit)) (h : newR p0 = some y) : i_newWorks_F p0 = some y := by
 obtain ⟨hg, rfl⟩ := askO_some h
 have hb := isG_spec hg
 obtain ⟨n, hn⟩ := Int.eq_ofNat_of_zero_le (show 0 ≤ p0.2.2.2.1 + p0.2.2.2.2.1 by omega)
 have hs : i_Gather_stations_S p0 = ((n + 1 : Nat) : Int) := by
  unfold i_Gather_stations_S
  dsimp only
  rw [iwrap_i64 (n := 1 + p0.2.2.2.1) (by omega) (by omega), iwrap_i64 (by omega) (by omega)]
  omega
 unfold i_newWorks_F i_newWorks
 rw [hs, Int.toNat_natCast, Tre.run_ite, if_pos ⟨rfl, by omega, rfl, by omega, by omega⟩, run_some_mat (src_some hg), run_some_mat (src_some hg), Tre.run_ite, if_pos (by rw [List.length_replicate]; omega), List.replicate_succ, run_some_mat (show (([], [], ()) :: List.replicate n ([], [], ()) : List (List Int × List Int × Unit))[0]? = some ([], [], ()) from rfl)]
 dsimp only
 rw [List.set_cons_zero, Tre.run_ret]
 have h2 : beginM p0 = ((srcL p0, srcL p0, ()) :: List.replicate n ([], [], ()), [], ()) := by unfold beginM; rw [hn, Int.toNat_natCast]
 rw [h2]
noncomputable def i_newWorks_V : Env := ⟨tau, [(53, i_Gather_stations_c), (61, i_Gather_source_c)], []⟩
noncomputable def i_newWorks_b : Code := (Try.f79.body).getD .skip
noncomputable def i_newWorks_I : FnI := ⟨i_newWorks_b, Try.f79.results.toList, Try.f79.resultTypes.toList, []⟩
noncomputable def i_newWorks_out (zp0 : Bool) (_p0 : TGather) : TWorks → CallOut := fun r => ⟨(.ptr (1, 0) []), [], [⟨true, kWorks, (.pair .own (.imm zp0)), r⟩]⟩
set_option maxRecDepth 100000 in
theorem i_newWorks_eq : ∀ (zp0 : Bool) (p0 : TGather), denFn i_newWorks_V i_newWorks_I ⟨[(.imm zp0 kGather p0)], []⟩ = (i_newWorks p0).run fun r => some (i_newWorks_out zp0 p0 r) := fun _ _ => by kernel_rfl
noncomputable def i_newWorks_G (av : List AV) (rs : List Root) : Tre CallOut :=
 asCons av fun a0_ av0 =>
 asEnd av0 <|
 asEnd rs <|
 asImm kGather a0_ fun z2 d1 =>
 .mat (newR d1) fun r => .ret (i_newWorks_out z2 d1 r)
noncomputable def i_newWorks_c : Ctr := ⟨[], fun ci => i_newWorks_G ci.args ci.roots⟩
theorem i_newWorks_env : EnvOK Try.prog i_newWorks_V := (envOK_cons i_Gather_stations_ok ent53 (envOK_cons i_Gather_source_ok ent61 envOK_nil))
set_option maxRecDepth 100000 in
theorem i_newWorks_ok : Contract Try.prog 79 i_newWorks_c := by
 have hl : LoopsOK i_newWorks_V [] i_newWorks_b := loopsOK_nil (by kernel_rfl)
 refine (contract_of (F := i_newWorks_I) tau_tys i_newWorks_env Try.func79 (by kernel_rfl) (by kernel_rfl) (by kernel_rfl) hl []).weaken ?_
 rintro ⟨av, rs⟩ co h
 have h : (i_newWorks_G av rs).run some = some co := h
 obtain ⟨a0_, av0, rfl, h_0⟩ := asCons_spec h
 obtain ⟨rfl, h_1⟩ := asEnd_spec h_0
 obtain ⟨rfl, h_2⟩ := asEnd_spec h_1
 obtain ⟨z2, d1, rfl, h_3⟩ := asImm_spec h_2
 exact fin_opt (i_newWorks_eq z2 d1) (i_newWorks_spec d1) h_3
end Go.Proofs.Ytddaclhjnkimfaa

namespace Go.Proofs.Ytddaclhjnkimfaa
open Go Go.Abs Go.Proofs
noncomputable def i_sumOf_l3 (h3_0_0 : Int) (h3_0_2 : (List Int)) (h3_0_3 : Int) : (Int × Int) → Tre ((Int × Int) ⊕ Int) := fun s3 =>
 .cond (decide (s3.2 < h3_0_3))
  (.ite (0 ≤ s3.2 ∧ s3.2 < (h3_0_2.length : Int)) <|
  .mat (h3_0_2[s3.2.toNat]?) fun x1 =>
  .ite (0 ≤ s3.2) <|
  let v2 := iand .i64 (ishr .i64 h3_0_0 s3.2) 1
  .cond (decide (v2 = 1))
   (.ret (.inl (ixor .i64 s3.1 x1, iwrap .i64 (s3.2 + 1))))
   (.ret (.inl (s3.1, iwrap .i64 (s3.2 + 1)))))
  (.ret (.inr s3.1))
noncomputable def i_sumOf (p0 : (List Int)) (p1 : Int) : Tre Int :=
 .mat (loopF (i_sumOf_l3 p1 p0 (p0.length : Int)) (0, 0)) fun l3 =>
 .ret l3
noncomputable def i_sumOf_F (p0 : (List Int)) (p1 : Int) : Option Int := (i_sumOf p0 p1).run some
def sumR (xs : List Int) (a : Int) : Option Int := lim xs.length (timesL a xs)
theorem i_sumOf_spec (p0 : List Int) (p1 : Int) (y : Int) (h : sumR p0 p1 = some y) : i_sumOf_F p0 p1 = some y := by
 obtain ⟨hl, rfl⟩ := lim_some h
 unfold i_sumOf_F i_sumOf
 rw [Tre.run_mat]
 have := fold_loop' (xs := p0) (step := i_sumOf_l3 p1 p0 (p0.length : Int)) (fun i acc => (acc, (i : Int))) (fun i acc x => .inl (cond (bitAt p1 (i : Int)) (ixor .i64 acc x) acc)) id (by
  intro i acc x hx
  have hi : i < p0.length := (List.getElem?_eq_some_iff.1 hx).1
  unfold i_sumOf_l3
  rw [run_inb hx, Tre.run_ite, if_pos (by dsimp only; omega), Tre.run_cond]
  show cond (bitAt p1 (i : Int)) _ _ = _
  cases bitAt p1 (i : Int)
  ·rw [cond_false, Tre.run_ret, iwrap_succ (by omega)]; rfl
  ·rw [cond_true, Tre.run_ret, iwrap_succ (by omega)]; rfl)
  (by
  intro acc
  unfold i_sumOf_l3
  exact run_out) 0
 rw [show ((0 : Int), (0 : Int)) = (0, ((0 : Nat) : Int)) from rfl, this]
 rfl
noncomputable def i_sumOf_V : Env := ⟨tau, [], []⟩
noncomputable def i_sumOf_b : Code := (Try.f65.body).getD .skip
noncomputable def i_sumOf_l3_mk (z3_0 : Bool) (h3_0_0 : Int) (h3_0_2 : (List Int)) (h3_0_3 : Int) : (Int × Int) → St := fun x => stOf [(1, (.imm true (.int .i64) h3_0_0)), (5, (.imm true (.int .i64) x.1)), (8, (.imm z3_0 (.sl (.int .i64)) h3_0_2)), (9, (.imm true (.int .i64) h3_0_3)), (10, (.imm true (.int .i64) x.2))] []
noncomputable def i_sumOf_l3_out (_z3_0 : Bool) (_h3_0_0 : Int) (_h3_0_2 : (List Int)) (_h3_0_3 : Int) : Int → Ex × St := fun x => (.exit 0, stOf [(5, (.imm true (.int .i64) x))] [])
noncomputable def i_sumOf_l3_D (s : St) : Tre (Ex × St) :=
 asImmZ true (.int .i64) (s.tmps 1) fun d2 =>
 asImmZ true (.int .i64) (s.tmps 5) fun d4 =>
 asImm (.sl (.int .i64)) (s.tmps 8) fun z7 d6 =>
 asImmZ true (.int .i64) (s.tmps 9) fun d9 =>
 asImmZ true (.int .i64) (s.tmps 10) fun d11 =>
 .mat (loopF (i_sumOf_l3 d2 d6 d9) (d4, d11)) fun x => .ret (i_sumOf_l3_out z7 d2 d6 d9 x)
noncomputable def i_sumOf_l3_L : LoopI := ⟨([1, 5, 8, 9, 10], []), ([5], []), i_sumOf_l3_D⟩
noncomputable def i_sumOf_A : List (Nat × LoopI) := [(3, i_sumOf_l3_L)]
set_option maxRecDepth 100000 in
theorem i_sumOf_l3_step : ∀ (z3_0 : Bool) (h3_0_0 : Int) (h3_0_2 : (List Int)) (h3_0_3 : Int) (x : (Int × Int)) (c : St → Option (Ex × St)), den i_sumOf_V i_sumOf_A (loopAt i_sumOf_b 0) (i_sumOf_l3_mk z3_0 h3_0_0 h3_0_2 h3_0_3 x) (roundK i_sumOf_l3_L.kp i_sumOf_l3_L.kx c) = (i_sumOf_l3 h3_0_0 h3_0_2 h3_0_3 x).run (roundR (i_sumOf_l3_mk z3_0 h3_0_0 h3_0_2 h3_0_3) (i_sumOf_l3_out z3_0 h3_0_0 h3_0_2 h3_0_3) c) := fun _ _ _ _ _ _ => by
 kernel_rfl
theorem i_sumOf_l3_ok : LoopOK i_sumOf_V i_sumOf_A (loopAt i_sumOf_b 0) i_sumOf_l3_L := loopOK_of fun s e s' h => by
 generalize hs : restrict i_sumOf_l3_L.kp s = s1 at h
 have h : (i_sumOf_l3_D s1).run some = some (e, s') := h
 obtain ⟨d2, e1, h_0⟩ := asImmZ_spec h
 obtain ⟨d4, e3, h_1⟩ := asImmZ_spec h_0
 obtain ⟨z7, d6, e5, h_2⟩ := asImm_spec h_1
 obtain ⟨d9, e8, h_3⟩ := asImmZ_spec h_2
 obtain ⟨d11, e10, h_4⟩ := asImmZ_spec h_3
 obtain ⟨y, hy, hz⟩ := mat_ret h_4
 refine ⟨_, _, i_sumOf_l3_mk z7 d2 d6 d9, i_sumOf_l3_out z7 d2 d6 d9, i_sumOf_l3 d2 d6 d9, (d4, d11), y, ?_, hy, ?_, i_sumOf_l3_step z7 d2 d6 d9⟩
 ·subst hs; exact restrict_eq (T := [(1, (.imm true (.int .i64) d2)), (5, (.imm true (.int .i64) d4)), (8, (.imm z7 (.sl (.int .i64)) d6)), (9, (.imm true (.int .i64) d9)), (10, (.imm true (.int .i64) d11))]) (U := []) rfl rfl ⟨e1, e3, e5, e8, e10, trivial⟩ trivial
 ·exact Option.some.inj hz
noncomputable def i_sumOf_I : FnI := ⟨i_sumOf_b, Try.f65.results.toList, Try.f65.resultTypes.toList, i_sumOf_A⟩
noncomputable def i_sumOf_out (_zp0 : Bool) (_p0 : (List Int)) (_p1 : Int) : Int → CallOut := fun r => ⟨(.imm true (.int .i64) r), [], []⟩
set_option maxRecDepth 100000 in
theorem i_sumOf_eq : ∀ (zp0 : Bool) (p0 : (List Int)) (p1 : Int), denFn i_sumOf_V i_sumOf_I ⟨[(.imm zp0 (.sl (.int .i64)) p0), (.imm true (.int .i64) p1)], []⟩ = (i_sumOf p0 p1).run fun r => some (i_sumOf_out zp0 p0 p1 r) := fun _ _ _ => by kernel_rfl
noncomputable def i_sumOf_G (av : List AV) (rs : List Root) : Tre CallOut :=
 asCons av fun a0_ av0 =>
 asCons av0 fun a1_ av1 =>
 asEnd av1 <|
 asEnd rs <|
 asImm (.sl (.int .i64)) a0_ fun z2 d1 =>
 asImmZ true (.int .i64) a1_ fun d3 =>
 .mat (sumR d1 d3) fun r => .ret (i_sumOf_out z2 d1 d3 r)
noncomputable def i_sumOf_c : Ctr := ⟨[], fun ci => i_sumOf_G ci.args ci.roots⟩
theorem i_sumOf_env : EnvOK Try.prog i_sumOf_V := envOK_nil
set_option maxRecDepth 100000 in
theorem i_sumOf_ok : Contract Try.prog 65 i_sumOf_c := by
 have hl : LoopsOK i_sumOf_V i_sumOf_A i_sumOf_b := (loopsOK_all (n := 1) (by kernel_rfl) fun k hk => by
   match k, hk with
   | 0, _ => exact loopOK_at (id := 3) (L := i_sumOf_l3_L) (by kernel_rfl) (by kernel_rfl) i_sumOf_l3_ok)
 refine (contract_of (F := i_sumOf_I) tau_tys i_sumOf_env Try.func65 (by kernel_rfl) (by kernel_rfl) (by kernel_rfl) hl []).weaken ?_
 rintro ⟨av, rs⟩ co h
 have h : (i_sumOf_G av rs).run some = some co := h
 obtain ⟨a0_, av0, rfl, h_0⟩ := asCons_spec h
 obtain ⟨a1_, av1, rfl, h_1⟩ := asCons_spec h_0
 obtain ⟨rfl, h_2⟩ := asEnd_spec h_1
 obtain ⟨rfl, h_3⟩ := asEnd_spec h_2
 obtain ⟨z2, d1, rfl, h_4⟩ := asImm_spec h_3
 obtain ⟨d3, rfl, h_5⟩ := asImmZ_spec h_4
 exact fin_opt (i_sumOf_eq z2 d1 d3) (i_sumOf_spec d1 d3) h_5
end Go.Proofs.Ytddaclhjnkimfaa

namespace Go.Proofs.Ytddaclhjnkimfaa
open Go Go.Abs Go.Proofs
noncomputable def i_works_send_ba03 (p0 : TDeed) (p1 : TWorks) : Tre (Int × TWorks) :=
 let v1 := i_Gather_isStation_S p1.2.1 p0.2.1
 .cond (!v1)
  (.ret (2, p1))
  (let v2 := i_Gather_isStation_S p1.2.1 p0.2.2.1
  .cond (!v2)
   (.ret (2, p1))
   (.cond (decide (p0.2.1 = p0.2.2.1))
    (.ret (2, p1))
    (.cond (decide (p0.2.2.1 = 0))
     (.ret (2, p1))
     (.ite (0 ≤ p0.2.1 ∧ p0.2.1 < (p1.1.1.length : Int)) <|
     .mat (p1.1.1[p0.2.1.toNat]?) fun _ =>
     .mat (p1.1.1[p0.2.1.toNat]?) fun x4 =>
     .ite (0 ≤ (x4.1.length : Int)) <|
     let v5 := ishl .i64 1 (x4.1.length : Int)
     .cond (decide (p0.2.2.2.1 ≥ v5))
      (.ret (2, p1))
      (.cond (decide (p0.2.2.2.1 = 0))
       (.ret (4, p1))
       (.cond (decide ((p1.1.2.1.length : Int) = 12))
        (.ret (3, p1))
        (.ite (0 ≤ p0.2.1 ∧ p0.2.1 < (p1.1.1.length : Int)) <|
        .mat (p1.1.1[p0.2.1.toNat]?) fun _ =>
        .mat (p1.1.1[p0.2.1.toNat]?) fun x7 =>
        .mat (sumR x7.1 p0.2.2.2.1) fun r8 =>
        .ite ((p1.1.2.1.length + 1) * 16 ≤ appendMax ∧ 1 ≤ 16) <|
        let v9 := p1.1.2.1 ++ ([(p0.2.2.1, (r8, ()))])
        .ret (0, ((p1.1.1, (v9, p1.1.2.2)), p1.2)))))))))
noncomputable def i_works_send_ba03_F (p0 : TDeed) (p1 : TWorks) : Option (Int × TWorks) := (i_works_send_ba03 p0 p1).run some
def sendI (d : D8) (p : P8 × (G8 × Unit)) : Option (Int × (P8 × (G8 × Unit))) := askO (isG p.2.1 && vDeed d && okP 1000 p.2.1 p.1) ((sendM d p.1).1, (sendM d p.1).2, p.2)
theorem i_works_send_ba03_spec (p0 : D8) (p1 : P8 × (G8 × Unit)) (y : Int × (P8 × (G8 × Unit))) (h : sendI p0 p1 = some y) : i_works_send_ba03_F p0 p1 = some y := by
 obtain ⟨hok, rfl⟩ := askO_some h
 simp only [Bool.and_eq_true] at hok
 obtain ⟨⟨hg, hd⟩, hp⟩ := hok
 obtain ⟨⟨a0, a1⟩, ⟨b0, b1⟩, ⟨c0, c1⟩, _⟩ := vDeed_rng hd
 obtain ⟨l1, l2, l3, l4⟩ := okP_spec hp
 obtain ⟨⟨st, wi, ⟨⟩⟩, ⟨g, ⟨⟩⟩⟩ := p1
 obtain ⟨kk, a, b, c, ⟨⟩⟩ := p0
 unfold i_works_send_ba03_F i_works_send_ba03 sendM
 simp only at *
 rw [isStation_S hg, isStation_S hg]
 have hst : ∀ s : Int, 0 ≤ s → inR s 0 (statG g - 1) = !decide (s ≥ (st.length : Int)) := by
  intro s hs
  unfold inR
  rw [decide_eq_true hs, Bool.true_and]
  by_cases h : s ≥ (st.length : Int)
  ·rw [decide_eq_true h, decide_eq_false (by omega)]; rfl
  ·rw [decide_eq_false h, decide_eq_true (by omega)]; rfl
 rw [hst a a0, hst b b0, Bool.not_not, Bool.not_not]
 by_cases h1 : a ≥ (st.length : Int)
 ·simp only [Tre.run_cond, decide_eq_true h1, cond_true, Tre.run_ret, Bool.true_or]
 by_cases h2 : b ≥ (st.length : Int)
 ·simp only [Tre.run_cond, decide_eq_true h2, decide_eq_false h1, cond_true, cond_false, Tre.run_ret, Bool.true_or, Bool.false_or]
 by_cases h3 : a = b
 ·simp only [Tre.run_cond, decide_eq_true h3, decide_eq_false h1, decide_eq_false h2, cond_true, cond_false, Tre.run_ret, Bool.true_or, Bool.false_or]
 by_cases h4 : b = 0
 ·simp only [Tre.run_cond, decide_eq_true h4, decide_eq_false h1, decide_eq_false h2, decide_eq_false h3, cond_true, cond_false, Tre.run_ret, Bool.false_or]
 obtain ⟨i, rfl⟩ := Int.eq_ofNat_of_zero_le a0
 have hi : i < st.length := by omega
 obtain ⟨s, hs⟩ : ∃ s, st[i]? = some s := ⟨_, List.getElem?_eq_getElem hi⟩
 have hs1 := (okS_spec.1 (l2 s (List.mem_of_getElem? hs)).1).1
 simp only [Tre.run_cond, decide_eq_false h1, decide_eq_false h2, decide_eq_false h3, decide_eq_false h4, cond_false, Bool.false_or, Int.toNat_natCast, hs]
 rw [Tre.run_ite, if_pos ⟨a0, by omega⟩, run_some_mat rfl, run_some_mat rfl, Tre.run_ite, if_pos (by omega)]
 simp only [Tre.run_cond]
 cases decide (c ≥ ishl .i64 1 (s.1.length : Int))
 ·cases decide (c = 0)
  ·cases decide ((wi.length : Int) = 12)
   ·simp only [cond_false]
    rw [Tre.run_ite, if_pos ⟨a0, by omega⟩, run_some_mat rfl, run_some_mat rfl, run_some_mat (show sumR s.1 c = some _ from lim_of (by omega)), Tre.run_ite, if_pos (by unfold appendMax; omega)]
    rfl
   ·rfl
  ·rfl
 ·rfl
noncomputable def i_works_send_ba03_V : Env := ⟨tau, [(78, i_Gather_isStation_c), (65, i_sumOf_c)], []⟩
noncomputable def i_works_send_ba03_b : Code := (Try.f104.body).getD .skip
noncomputable def i_works_send_ba03_I : FnI := ⟨i_works_send_ba03_b, Try.f104.results.toList, Try.f104.resultTypes.toList, []⟩
noncomputable def i_works_send_ba03_out (zp0 : Bool) (_p0 : TDeed) (_p1 : TWorks) : (Int × TWorks) → CallOut := fun r => ⟨(.imm true (.int .i64) r.1), [⟨true, kWorks, (.pair .own (.imm zp0)), r.2⟩], []⟩
set_option maxRecDepth 100000 in
theorem i_works_send_ba03_eq : ∀ (zp0 : Bool) (p0 : TDeed) (p1 : TWorks), denFn i_works_send_ba03_V i_works_send_ba03_I ⟨[(.ptr (0, 0) []), (.imm true kDeed p0)], [⟨true, kWorks, (.pair .own (.imm zp0)), p1⟩]⟩ = (i_works_send_ba03 p0 p1).run fun r => some (i_works_send_ba03_out zp0 p0 p1 r) := fun _ _ _ => by kernel_rfl
noncomputable def i_works_send_ba03_G (av : List AV) (rs : List Root) : Tre CallOut :=
 asCons av fun a0_ av0 =>
 asCons av0 fun a1_ av1 =>
 asEnd av1 <|
 asCons rs fun r0_ rs0 =>
 asEnd rs0 <|
 asPtr (0, 0) [] a0_ <|
 asImmZ true kDeed a1_ fun d1 =>
 asRt true kWorks r0_ fun m2 d3 =>
 asMPair m2 fun m4 m5 =>
 asM .own m4 <|
 asMImm m5 fun z6 =>
 .mat (sendI d1 d3) fun r => .ret (i_works_send_ba03_out z6 d1 d3 r)
noncomputable def i_works_send_ba03_c : Ctr := ⟨[], fun ci => i_works_send_ba03_G ci.args ci.roots⟩
theorem i_works_send_ba03_env : EnvOK Try.prog i_works_send_ba03_V := (envOK_cons i_Gather_isStation_ok ent78 (envOK_cons i_sumOf_ok ent65 envOK_nil))
set_option maxRecDepth 100000 in
theorem i_works_send_ba03_ok : Contract Try.prog 104 i_works_send_ba03_c := by
 have hl : LoopsOK i_works_send_ba03_V [] i_works_send_ba03_b := loopsOK_nil (by kernel_rfl)
 refine (contract_of (F := i_works_send_ba03_I) tau_tys i_works_send_ba03_env Try.func104 (by kernel_rfl) (by kernel_rfl) (by kernel_rfl) hl []).weaken ?_
 rintro ⟨av, rs⟩ co h
 have h : (i_works_send_ba03_G av rs).run some = some co := h
 obtain ⟨a0_, av0, rfl, h_0⟩ := asCons_spec h
 obtain ⟨a1_, av1, rfl, h_1⟩ := asCons_spec h_0
 obtain ⟨rfl, h_2⟩ := asEnd_spec h_1
 obtain ⟨r0_, rs0, rfl, h_3⟩ := asCons_spec h_2
 obtain ⟨rfl, h_4⟩ := asEnd_spec h_3
 obtain ⟨rfl, h_5⟩ := asPtr_spec h_4
 obtain ⟨d1, rfl, h_6⟩ := asImmZ_spec h_5
 obtain ⟨m2, d3, rfl, h_7⟩ := asRt_spec h_6
 obtain ⟨m4, m5, rfl, h_8⟩ := asMPair_spec h_7
 obtain ⟨rfl, h_9⟩ := asM_spec h_8
 obtain ⟨z6, rfl, h_10⟩ := asMImm_spec h_9
 exact fin_opt (i_works_send_ba03_eq z6 d1 d3) (i_works_send_ba03_spec d1 d3) h_10
end Go.Proofs.Ytddaclhjnkimfaa

namespace Go.Proofs.Ytddaclhjnkimfaa
open Go Go.Abs Go.Proofs
noncomputable def i_size_Parcel (p0 : (List (Int × (Int × Unit)))) : Tre Int :=
 .ret (p0.length : Int)
noncomputable def i_size_Parcel_F (p0 : (List (Int × (Int × Unit)))) : Option Int := (i_size_Parcel p0).run some
theorem i_size_Parcel_spec (p0 : (List (Int × (Int × Unit)))) : i_size_Parcel_F p0 = some (p0.length : Int) := rfl
noncomputable def i_size_Parcel_V : Env := ⟨tau, [], []⟩
noncomputable def i_size_Parcel_b : Code := (Try.f116.body).getD .skip
noncomputable def i_size_Parcel_I : FnI := ⟨i_size_Parcel_b, Try.f116.results.toList, Try.f116.resultTypes.toList, []⟩
noncomputable def i_size_Parcel_out (_zp0 : Bool) (_p0 : (List (Int × (Int × Unit)))) : Int → CallOut := fun r => ⟨(.imm true (.int .i64) r), [], []⟩
set_option maxRecDepth 100000 in
theorem i_size_Parcel_eq : ∀ (zp0 : Bool) (p0 : (List (Int × (Int × Unit)))), denFn i_size_Parcel_V i_size_Parcel_I ⟨[(.imm zp0 (.sl kField) p0)], []⟩ = (i_size_Parcel p0).run fun r => some (i_size_Parcel_out zp0 p0 r) := fun _ _ => by kernel_rfl
noncomputable def i_size_Parcel_G (av : List AV) (rs : List Root) : Tre CallOut :=
 asCons av fun a0_ av0 =>
 asEnd av0 <|
 asEnd rs <|
 asImm (.sl kField) a0_ fun z2 d1 =>
 .ret (i_size_Parcel_out z2 d1 (d1.length : Int))
noncomputable def i_size_Parcel_c : Ctr := ⟨[], fun ci => i_size_Parcel_G ci.args ci.roots⟩
theorem i_size_Parcel_env : EnvOK Try.prog i_size_Parcel_V := envOK_nil
set_option maxRecDepth 100000 in
theorem i_size_Parcel_ok : Contract Try.prog 116 i_size_Parcel_c := by
 have hl : LoopsOK i_size_Parcel_V [] i_size_Parcel_b := loopsOK_nil (by kernel_rfl)
 refine (contract_of (F := i_size_Parcel_I) tau_tys i_size_Parcel_env Try.func116 (by kernel_rfl) (by kernel_rfl) (by kernel_rfl) hl []).weaken ?_
 rintro ⟨av, rs⟩ co h
 have h : (i_size_Parcel_G av rs).run some = some co := h
 obtain ⟨a0_, av0, rfl, h_0⟩ := asCons_spec h
 obtain ⟨rfl, h_1⟩ := asEnd_spec h_0
 obtain ⟨rfl, h_2⟩ := asEnd_spec h_1
 obtain ⟨z2, d1, rfl, h_3⟩ := asImm_spec h_2
 exact fin_ret (i_size_Parcel_eq z2 d1) (i_size_Parcel_spec d1) h_3
end Go.Proofs.Ytddaclhjnkimfaa

namespace Go.Proofs.Ytddaclhjnkimfaa
open Go Go.Abs Go.Proofs
noncomputable def slices_Clone_int64_b930 : Tre (List Int) :=
 .ret []
noncomputable def slices_Clone_int64_b930_F : Option (List Int) := (slices_Clone_int64_b930).run some
theorem slices_Clone_int64_b930_spec : slices_Clone_int64_b930_F = some [] := rfl
noncomputable def slices_Clone_int64_b930_V : Env := ⟨tau, [], []⟩
noncomputable def slices_Clone_int64_b930_b : Code := (Try.f45.body).getD .skip
noncomputable def slices_Clone_int64_b930_I : FnI := ⟨slices_Clone_int64_b930_b, Try.f45.results.toList, Try.f45.resultTypes.toList, []⟩
noncomputable def slices_Clone_int64_b930_out : (List Int) → CallOut := fun r => ⟨(.ref (1, 0) []), [], [⟨false, (.sl (.int .i64)), .own, r⟩]⟩
set_option maxRecDepth 100000 in
theorem slices_Clone_int64_b930_eq : denFn slices_Clone_int64_b930_V slices_Clone_int64_b930_I ⟨[.nil], []⟩ = (slices_Clone_int64_b930).run fun r => some (slices_Clone_int64_b930_out r) := by kernel_rfl
noncomputable def slices_Clone_int64_b930_G (av : List AV) (rs : List Root) : Tre CallOut :=
 asCons av fun a0_ av0 =>
 asEnd av0 <|
 asEnd rs <|
 asNil a0_ <|
 .ret (slices_Clone_int64_b930_out [])
noncomputable def slices_Clone_int64_b930_c : Ctr := ⟨[], fun ci => slices_Clone_int64_b930_G ci.args ci.roots⟩
theorem slices_Clone_int64_b930_env : EnvOK Try.prog slices_Clone_int64_b930_V := envOK_nil
set_option maxRecDepth 100000 in
theorem slices_Clone_int64_b930_ok : Contract Try.prog 45 slices_Clone_int64_b930_c := by
 have hl : LoopsOK slices_Clone_int64_b930_V [] slices_Clone_int64_b930_b := loopsOK_nil (by kernel_rfl)
 refine (contract_of (F := slices_Clone_int64_b930_I) tau_tys slices_Clone_int64_b930_env Try.func45 (by kernel_rfl) (by kernel_rfl) (by kernel_rfl) hl []).weaken ?_
 rintro ⟨av, rs⟩ co h
 have h : (slices_Clone_int64_b930_G av rs).run some = some co := h
 obtain ⟨a0_, av0, rfl, h_0⟩ := asCons_spec h
 obtain ⟨rfl, h_1⟩ := asEnd_spec h_0
 obtain ⟨rfl, h_2⟩ := asEnd_spec h_1
 obtain ⟨rfl, h_3⟩ := asNil_spec h_2
 exact fin_ret (slices_Clone_int64_b930_eq) (slices_Clone_int64_b930_spec) h_3
end Go.Proofs.Ytddaclhjnkimfaa

namespace Go.Proofs.Ytddaclhjnkimfaa
open Go Go.Abs Go.Proofs
noncomputable def slices_Clone_int64_6661 (p0 : (List Int)) : Tre (List Int) :=
 .ite ((0 + p0.length) * 8 ≤ appendMax ∧ 1 ≤ 8) <|
 .ret ([] ++ p0)
noncomputable def slices_Clone_int64_6661_F (p0 : (List Int)) : Option (List Int) := (slices_Clone_int64_6661 p0).run some
theorem slices_Clone_int64_6661_spec (p0 : List Int) (y : List Int) (h : cloneR p0 = some y) : slices_Clone_int64_6661_F p0 = some y := by
 obtain ⟨hl, rfl⟩ := lim_some h
 have hb : (0 + p0.length) * 8 ≤ appendMax ∧ 1 ≤ 8 := by unfold appendMax; omega
 unfold slices_Clone_int64_6661_F slices_Clone_int64_6661
 rw [Tre.run_ite, if_pos hb]
 rfl
noncomputable def slices_Clone_int64_6661_V : Env := ⟨tau, [], []⟩
noncomputable def slices_Clone_int64_6661_b : Code := (Try.f45.body).getD .skip
noncomputable def slices_Clone_int64_6661_I : FnI := ⟨slices_Clone_int64_6661_b, Try.f45.results.toList, Try.f45.resultTypes.toList, []⟩
noncomputable def slices_Clone_int64_6661_out (_zp0 : Bool) (_p0 : (List Int)) : (List Int) → CallOut := fun r => ⟨(.ref (1, 0) []), [], [⟨false, (.sl (.int .i64)), .own, r⟩]⟩
set_option maxRecDepth 100000 in
theorem slices_Clone_int64_6661_eq : ∀ (zp0 : Bool) (p0 : (List Int)), denFn slices_Clone_int64_6661_V slices_Clone_int64_6661_I ⟨[(.nn zp0 (.int .i64) p0)], []⟩ = (slices_Clone_int64_6661 p0).run fun r => some (slices_Clone_int64_6661_out zp0 p0 r) := fun _ _ => by kernel_rfl
noncomputable def slices_Clone_int64_6661_G (av : List AV) (rs : List Root) : Tre CallOut :=
 asCons av fun a0_ av0 =>
 asEnd av0 <|
 asEnd rs <|
 asNn (.int .i64) a0_ fun z1 d2 =>
 .mat (cloneR d2) fun r => .ret (slices_Clone_int64_6661_out z1 d2 r)
noncomputable def slices_Clone_int64_6661_c : Ctr := ⟨[], fun ci => slices_Clone_int64_6661_G ci.args ci.roots⟩
theorem slices_Clone_int64_6661_env : EnvOK Try.prog slices_Clone_int64_6661_V := envOK_nil
set_option maxRecDepth 100000 in
theorem slices_Clone_int64_6661_ok : Contract Try.prog 45 slices_Clone_int64_6661_c := by
 have hl : LoopsOK slices_Clone_int64_6661_V [] slices_Clone_int64_6661_b := loopsOK_nil (by kernel_rfl)
 refine (contract_of (F := slices_Clone_int64_6661_I) tau_tys slices_Clone_int64_6661_env Try.func45 (by kernel_rfl) (by kernel_rfl) (by kernel_rfl) hl []).weaken ?_
 rintro ⟨av, rs⟩ co h
 have h : (slices_Clone_int64_6661_G av rs).run some = some co := h
 obtain ⟨a0_, av0, rfl, h_0⟩ := asCons_spec h
 obtain ⟨rfl, h_1⟩ := asEnd_spec h_0
 obtain ⟨rfl, h_2⟩ := asEnd_spec h_1
 obtain ⟨z1, d2, rfl, h_3⟩ := asNn_spec h_2
 exact fin_opt (slices_Clone_int64_6661_eq z1 d2) (slices_Clone_int64_6661_spec d2) h_3
end Go.Proofs.Ytddaclhjnkimfaa

namespace Go.Proofs.Ytddaclhjnkimfaa
open Go Go.Abs Go.Proofs
theorem slices_Clone_int64_nil (y : List Int) (h : cloneR ([] : List Int) = some y) : y = [] := (lim_some h).2.symm
noncomputable def slices_Clone_int64_G (av : List AV) (rs : List Root) : Tre CallOut :=
 asCons av fun a0_ av0 =>
 asEnd av0 <|
 asEnd rs <|
 asImm (.sl (.int .i64)) a0_ fun z2 d1 =>
 .mat (cloneR d1) fun r => .ret ⟨(.ref (1, 0) []), [], [⟨false, (.sl (.int .i64)), .own, r⟩]⟩
noncomputable def slices_Clone_int64_c : Ctr := ⟨[], fun ci => slices_Clone_int64_G ci.args ci.roots⟩
theorem slices_Clone_int64_ok : Contract Try.prog 45 slices_Clone_int64_c := by
 refine contract_nil (e := (.int .i64)) slices_Clone_int64_b930_ok slices_Clone_int64_6661_ok ?_
 rintro ⟨av, rs⟩ co h
 have h : (slices_Clone_int64_G av rs).run some = some co := h
 obtain ⟨a0_, av0, rfl, h_0⟩ := asCons_spec h
 obtain ⟨rfl, h_1⟩ := asEnd_spec h_0
 obtain ⟨rfl, h_2⟩ := asEnd_spec h_1
 obtain ⟨z2, d1, rfl, h_3⟩ := asImm_spec h_2
 refine ⟨z2, d1, rfl, ?_, ?_⟩
 ·exact h_3
 ·rintro rfl
  obtain ⟨y, h1, h2⟩ := mat_ret h_3
  have hy : y = [] := by
   have := slices_Clone_int64_nil y h1
   exact this
  subst hy
  rw [← h2]; rfl
end Go.Proofs.Ytddaclhjnkimfaa

namespace Go.Proofs.Ytddaclhjnkimfaa
open Go Go.Abs Go.Proofs
noncomputable def i_echelonc1_66da (p0 : Int) (p1 : Int) : Tre Bool :=
 .ite (0 ≤ p1) <|
 let v1 := iand .i64 (ishr .i64 p0 p1) 1
 .ret (decide (v1 = 1))
noncomputable def i_echelonc1_66da_F (p0 : Int) (p1 : Int) : Option Bool := (i_echelonc1_66da p0 p1).run some
def bitB (x j : Int) : Option Bool := askO (decide (0 ≤ j)) (bitAt x j)
theorem i_echelonc1_66da_spec (p0 p1 : Int) (y : Bool) (h : bitB p0 p1 = some y) : i_echelonc1_66da_F p0 p1 = some y := by
 obtain ⟨hl, rfl⟩ := askO_some h
 unfold i_echelonc1_66da_F i_echelonc1_66da
 rw [Tre.run_ite, if_pos (of_decide_eq_true hl)]
 rfl
noncomputable def i_echelonc1_66da_V : Env := ⟨tau, [], []⟩
noncomputable def i_echelonc1_66da_b : Code := (Try.f106.body).getD .skip
noncomputable def i_echelonc1_66da_I : FnI := ⟨i_echelonc1_66da_b, Try.f106.results.toList, Try.f106.resultTypes.toList, []⟩
noncomputable def i_echelonc1_66da_out (_p0 : Int) (p1 : Int) : Bool → CallOut := fun r => ⟨(.imm true .bool r), [⟨true, (.int .i64), .own, p1⟩], []⟩
set_option maxRecDepth 100000 in
theorem i_echelonc1_66da_eq : ∀ (p0 : Int) (p1 : Int), denFn i_echelonc1_66da_V i_echelonc1_66da_I ⟨[(.imm true (.int .i64) p0), (.ptr (0, 0) [])], [⟨true, (.int .i64), .own, p1⟩]⟩ = (i_echelonc1_66da p0 p1).run fun r => some (i_echelonc1_66da_out p0 p1 r) := fun _ _ => by kernel_rfl
noncomputable def i_echelonc1_66da_G (av : List AV) (rs : List Root) : Tre CallOut :=
 asCons av fun a0_ av0 =>
 asCons av0 fun a1_ av1 =>
 asEnd av1 <|
 asCons rs fun r0_ rs0 =>
 asEnd rs0 <|
 asImmZ true (.int .i64) a0_ fun d1 =>
 asPtr (0, 0) [] a1_ <|
 asRt true (.int .i64) r0_ fun m2 d3 =>
 asM .own m2 <|
 .mat (bitB d1 d3) fun r => .ret (i_echelonc1_66da_out d1 d3 r)
noncomputable def i_echelonc1_66da_c : Ctr := ⟨[], fun ci => i_echelonc1_66da_G ci.args ci.roots⟩
theorem i_echelonc1_66da_env : EnvOK Try.prog i_echelonc1_66da_V := envOK_nil
set_option maxRecDepth 100000 in
theorem i_echelonc1_66da_ok : Contract Try.prog 106 i_echelonc1_66da_c := by
 have hl : LoopsOK i_echelonc1_66da_V [] i_echelonc1_66da_b := loopsOK_nil (by kernel_rfl)
 refine (contract_of (F := i_echelonc1_66da_I) tau_tys i_echelonc1_66da_env Try.func106 (by kernel_rfl) (by kernel_rfl) (by kernel_rfl) hl []).weaken ?_
 rintro ⟨av, rs⟩ co h
 have h : (i_echelonc1_66da_G av rs).run some = some co := h
 obtain ⟨a0_, av0, rfl, h_0⟩ := asCons_spec h
 obtain ⟨a1_, av1, rfl, h_1⟩ := asCons_spec h_0
 obtain ⟨rfl, h_2⟩ := asEnd_spec h_1
 obtain ⟨r0_, rs0, rfl, h_3⟩ := asCons_spec h_2
 obtain ⟨rfl, h_4⟩ := asEnd_spec h_3
 obtain ⟨d1, rfl, h_5⟩ := asImmZ_spec h_4
 obtain ⟨rfl, h_6⟩ := asPtr_spec h_5
 obtain ⟨m2, d3, rfl, h_7⟩ := asRt_spec h_6
 obtain ⟨rfl, h_8⟩ := asM_spec h_7
 exact fin_opt (i_echelonc1_66da_eq d1 d3) (i_echelonc1_66da_spec d1 d3) h_8
end Go.Proofs.Ytddaclhjnkimfaa

namespace Go.Proofs.Ytddaclhjnkimfaa
open Go Go.Abs Go.Proofs
noncomputable def slices_IndexFunc_int64_i_echelonc1_l2 (h2_0_0 : (List Int)) (h2_0_1 : Int) (h2_0_3 : Int) : Int → Tre (Int ⊕ (Int ⊕ Unit)) := fun s2 =>
 .cond (decide (s2 < h2_0_1))
  (.ite (0 ≤ s2 ∧ s2 < (h2_0_0.length : Int)) <|
  .mat (h2_0_0[s2.toNat]?) fun x1 =>
  .mat (bitB x1 h2_0_3) fun r2 =>
  .cond r2
   (.ret (.inr (.inl s2)))
   (.ret (.inl (iwrap .i64 (s2 + 1)))))
  (.ret (.inr (.inr ())))
noncomputable def slices_IndexFunc_int64_i_echelonc1 (p0 : (List Int)) (p1 : Int) : Tre Int :=
 .mat (loopF (slices_IndexFunc_int64_i_echelonc1_l2 p0 (p0.length : Int) p1) 0) fun l3 =>
 .alt l3
  (fun a4 =>
   .ret a4)
  (fun _ =>
   .ret (-1))
noncomputable def slices_IndexFunc_int64_i_echelonc1_F (p0 : (List Int)) (p1 : Int) : Option Int := (slices_IndexFunc_int64_i_echelonc1 p0 p1).run some
def idxB (xs : List Int) (j : Int) : Option Int := askO (decide (0 ≤ j) && decide (xs.length ≤ 1048576)) (idxI (fun x => bitAt x j) 0 xs)
theorem slices_IndexFunc_int64_i_echelonc1_spec (p0 : List Int) (p1 : Int) (y : Int) (h : idxB p0 p1 = some y) : slices_IndexFunc_int64_i_echelonc1_F p0 p1 = some y := by
 obtain ⟨hl, rfl⟩ := askO_some h
 rw [Bool.and_eq_true] at hl
 obtain ⟨hm, hl⟩ := hl
 have hl := of_decide_eq_true hl
 unfold slices_IndexFunc_int64_i_echelonc1_F slices_IndexFunc_int64_i_echelonc1
 rw [Tre.run_mat, find_loop (xs := p0) (fun i x => cond (bitAt x p1) (some (.inl (i : Int))) none) (.inr ())]
 ·rw [Option.bind_some, ← findE_idx (p := fun x => bitAt x p1)]
  generalize findE _ _ _ _ = r
  cases r <;> rfl
 ·intro i x hx
  have hi : i < p0.length := (List.getElem?_eq_some_iff.1 hx).1
  unfold slices_IndexFunc_int64_i_echelonc1_l2
  rw [run_inb hx, run_some_mat (show bitB x p1 = some _ from askO_true hm), Tre.run_cond]
  cases bitAt x p1
  ·simp only [cond_false, Tre.run_ret, iwrap_succ (show i < 4611686018427387904 by omega)]
  ·rfl
 ·unfold slices_IndexFunc_int64_i_echelonc1_l2
  exact run_out
noncomputable def slices_IndexFunc_int64_i_echelonc1_V : Env := ⟨tau, [(106, i_echelonc1_66da_c)], []⟩
noncomputable def slices_IndexFunc_int64_i_echelonc1_b : Code := (Try.f98.body).getD .skip
noncomputable def slices_IndexFunc_int64_i_echelonc1_l2_mk (z2_0 : Bool) (h2_0_0 : (List Int)) (h2_0_1 : Int) (h2_0_3 : Int) : Int → St := fun x => stOf [(0, (.imm z2_0 (.sl (.int .i64)) h2_0_0)), (1, (.fn 106 [(0, 0)])), (7, (.imm true (.int .i64) h2_0_1)), (8, (.imm true (.int .i64) x))] [((0, 0), some ⟨true, (.int .i64), .own, h2_0_3⟩)]
noncomputable def slices_IndexFunc_int64_i_echelonc1_l2_out (_z2_0 : Bool) (_h2_0_0 : (List Int)) (_h2_0_1 : Int) (h2_0_3 : Int) : (Int ⊕ Unit) → Ex × St
 | .inl x => (.ret, stOf [(4, (.imm true (.int .i64) x))] [((0, 0), some ⟨true, (.int .i64), .own, h2_0_3⟩)])
 | .inr x => (.exit 0, stOf [(4, .dead)] [((0, 0), some ⟨true, (.int .i64), .own, h2_0_3⟩)])
noncomputable def slices_IndexFunc_int64_i_echelonc1_l2_D (s : St) : Tre (Ex × St) :=
 asImm (.sl (.int .i64)) (s.tmps 0) fun z3 d2 =>
 asFn 106 [(0, 0)] (s.tmps 1) <|
 asImmZ true (.int .i64) (s.tmps 7) fun d6 =>
 asImmZ true (.int .i64) (s.tmps 8) fun d8 =>
 asRoot true (.int .i64) (s.roots (0, 0)) fun m10 d11 =>
 asM .own m10 <|
 .mat (loopF (slices_IndexFunc_int64_i_echelonc1_l2 d2 d6 d11) d8) fun x => .alt x (fun a0 => .ret (slices_IndexFunc_int64_i_echelonc1_l2_out z3 d2 d6 d11 (.inl a0))) (fun b0 => .ret (slices_IndexFunc_int64_i_echelonc1_l2_out z3 d2 d6 d11 (.inr b0)))
noncomputable def slices_IndexFunc_int64_i_echelonc1_l2_L : LoopI := ⟨([0, 1, 7, 8], [(0, 0)]), ([4], [(0, 0)]), slices_IndexFunc_int64_i_echelonc1_l2_D⟩
noncomputable def slices_IndexFunc_int64_i_echelonc1_A : List (Nat × LoopI) := [(2, slices_IndexFunc_int64_i_echelonc1_l2_L)]
set_option maxRecDepth 100000 in
theorem slices_IndexFunc_int64_i_echelonc1_l2_step : ∀ (z2_0 : Bool) (h2_0_0 : (List Int)) (h2_0_1 : Int) (h2_0_3 : Int) (x : Int) (c : St → Option (Ex × St)), den slices_IndexFunc_int64_i_echelonc1_V slices_IndexFunc_int64_i_echelonc1_A (loopAt slices_IndexFunc_int64_i_echelonc1_b 0) (slices_IndexFunc_int64_i_echelonc1_l2_mk z2_0 h2_0_0 h2_0_1 h2_0_3 x) (roundK slices_IndexFunc_int64_i_echelonc1_l2_L.kp slices_IndexFunc_int64_i_echelonc1_l2_L.kx c) = (slices_IndexFunc_int64_i_echelonc1_l2 h2_0_0 h2_0_1 h2_0_3 x).run (roundR (slices_IndexFunc_int64_i_echelonc1_l2_mk z2_0 h2_0_0 h2_0_1 h2_0_3) (slices_IndexFunc_int64_i_echelonc1_l2_out z2_0 h2_0_0 h2_0_1 h2_0_3) c) := fun _ _ _ _ _ _ => by
 kernel_rfl
theorem slices_IndexFunc_int64_i_echelonc1_l2_ok : LoopOK slices_IndexFunc_int64_i_echelonc1_V slices_IndexFunc_int64_i_echelonc1_A (loopAt slices_IndexFunc_int64_i_echelonc1_b 0) slices_IndexFunc_int64_i_echelonc1_l2_L := loopOK_of fun s e s' h => by
 generalize hs : restrict slices_IndexFunc_int64_i_echelonc1_l2_L.kp s = s1 at h
 have h : (slices_IndexFunc_int64_i_echelonc1_l2_D s1).run some = some (e, s') := h
 obtain ⟨z3, d2, e1, h_0⟩ := asImm_spec h
 obtain ⟨e4, h_1⟩ := asFn_spec h_0
 obtain ⟨d6, e5, h_2⟩ := asImmZ_spec h_1
 obtain ⟨d8, e7, h_3⟩ := asImmZ_spec h_2
 obtain ⟨m10, d11, e9, h_4⟩ := asRoot_spec h_3
 obtain ⟨rfl, h_5⟩ := asM_spec h_4
 obtain ⟨y, hy, hz⟩ := mat_some h_5
 refine ⟨_, _, slices_IndexFunc_int64_i_echelonc1_l2_mk z3 d2 d6 d11, slices_IndexFunc_int64_i_echelonc1_l2_out z3 d2 d6 d11, slices_IndexFunc_int64_i_echelonc1_l2 d2 d6 d11, d8, y, ?_, hy, ?_, slices_IndexFunc_int64_i_echelonc1_l2_step z3 d2 d6 d11⟩
 ·subst hs; exact restrict_eq (T := [(0, (.imm z3 (.sl (.int .i64)) d2)), (1, (.fn 106 [(0, 0)])), (7, (.imm true (.int .i64) d6)), (8, (.imm true (.int .i64) d8))]) (U := [((0, 0), some ⟨true, (.int .i64), .own, d11⟩)]) rfl rfl ⟨e1, e4, e5, e7, trivial⟩ ⟨e9, trivial⟩
 ·rcases y with x | x <;> exact Option.some.inj hz
noncomputable def slices_IndexFunc_int64_i_echelonc1_I : FnI := ⟨slices_IndexFunc_int64_i_echelonc1_b, Try.f98.results.toList, Try.f98.resultTypes.toList, slices_IndexFunc_int64_i_echelonc1_A⟩
noncomputable def slices_IndexFunc_int64_i_echelonc1_out (_zp0 : Bool) (_p0 : (List Int)) (p1 : Int) : Int → CallOut := fun r => ⟨(.imm true (.int .i64) r), [⟨true, (.int .i64), .own, p1⟩], []⟩
set_option maxRecDepth 100000 in
theorem slices_IndexFunc_int64_i_echelonc1_eq : ∀ (zp0 : Bool) (p0 : (List Int)) (p1 : Int), denFn slices_IndexFunc_int64_i_echelonc1_V slices_IndexFunc_int64_i_echelonc1_I ⟨[(.imm zp0 (.sl (.int .i64)) p0), (.fn 106 [(0, 0)])], [⟨true, (.int .i64), .own, p1⟩]⟩ = (slices_IndexFunc_int64_i_echelonc1 p0 p1).run fun r => some (slices_IndexFunc_int64_i_echelonc1_out zp0 p0 p1 r) := fun _ _ _ => by kernel_rfl
noncomputable def slices_IndexFunc_int64_i_echelonc1_G (av : List AV) (rs : List Root) : Tre CallOut :=
 asCons av fun a0_ av0 =>
 asCons av0 fun a1_ av1 =>
 asEnd av1 <|
 asCons rs fun r0_ rs0 =>
 asEnd rs0 <|
 asImm (.sl (.int .i64)) a0_ fun z2 d1 =>
 asFn 106 [(0, 0)] a1_ <|
 asRt true (.int .i64) r0_ fun m3 d4 =>
 asM .own m3 <|
 .mat (idxB d1 d4) fun r => .ret (slices_IndexFunc_int64_i_echelonc1_out z2 d1 d4 r)
noncomputable def slices_IndexFunc_int64_i_echelonc1_c : Ctr := ⟨[], fun ci => slices_IndexFunc_int64_i_echelonc1_G ci.args ci.roots⟩
theorem slices_IndexFunc_int64_i_echelonc1_env : EnvOK Try.prog slices_IndexFunc_int64_i_echelonc1_V := (envOK_cons i_echelonc1_66da_ok ent106 envOK_nil)
set_option maxRecDepth 100000 in
theorem slices_IndexFunc_int64_i_echelonc1_ok : Contract Try.prog 98 slices_IndexFunc_int64_i_echelonc1_c := by
 have hl : LoopsOK slices_IndexFunc_int64_i_echelonc1_V slices_IndexFunc_int64_i_echelonc1_A slices_IndexFunc_int64_i_echelonc1_b := (loopsOK_all (n := 1) (by kernel_rfl) fun k hk => by
   match k, hk with
   | 0, _ => exact loopOK_at (id := 2) (L := slices_IndexFunc_int64_i_echelonc1_l2_L) (by kernel_rfl) (by kernel_rfl) slices_IndexFunc_int64_i_echelonc1_l2_ok)
 refine (contract_of (F := slices_IndexFunc_int64_i_echelonc1_I) tau_tys slices_IndexFunc_int64_i_echelonc1_env Try.func98 (by kernel_rfl) (by kernel_rfl) (by kernel_rfl) hl []).weaken ?_
 rintro ⟨av, rs⟩ co h
 have h : (slices_IndexFunc_int64_i_echelonc1_G av rs).run some = some co := h
 obtain ⟨a0_, av0, rfl, h_0⟩ := asCons_spec h
 obtain ⟨a1_, av1, rfl, h_1⟩ := asCons_spec h_0
 obtain ⟨rfl, h_2⟩ := asEnd_spec h_1
 obtain ⟨r0_, rs0, rfl, h_3⟩ := asCons_spec h_2
 obtain ⟨rfl, h_4⟩ := asEnd_spec h_3
 obtain ⟨z2, d1, rfl, h_5⟩ := asImm_spec h_4
 obtain ⟨rfl, h_6⟩ := asFn_spec h_5
 obtain ⟨m3, d4, rfl, h_7⟩ := asRt_spec h_6
 obtain ⟨rfl, h_8⟩ := asM_spec h_7
 exact fin_opt (slices_IndexFunc_int64_i_echelonc1_eq z2 d1 d4) (slices_IndexFunc_int64_i_echelonc1_spec d1 d4) h_8
end Go.Proofs.Ytddaclhjnkimfaa

namespace Go.Proofs.Ytddaclhjnkimfaa
open Go Go.Abs Go.Proofs
noncomputable def i_echelon_l10 (h10_0_0 : Int) (h10_0_1 : Int) (h10_0_4 : Int) : (Int × (List Int)) → Tre ((Int × (List Int)) ⊕ (List Int)) := fun s10 =>
 .cond (decide (s10.1 < h10_0_1))
  (.cond (!decide (s10.1 = h10_0_0))
   (.ite (0 ≤ s10.1 ∧ s10.1 < (s10.2.length : Int)) <|
   .mat (s10.2[s10.1.toNat]?) fun x9 =>
   .ite (0 ≤ h10_0_4) <|
   let v10 := iand .i64 (ishr .i64 x9 h10_0_4) 1
   .cond (decide (v10 = 1))
    (.ite (0 ≤ s10.1 ∧ s10.1 < (s10.2.length : Int)) <|
    .mat (s10.2[s10.1.toNat]?) fun x11 =>
    .ite (0 ≤ h10_0_0 ∧ h10_0_0 < (s10.2.length : Int)) <|
    .mat (s10.2[h10_0_0.toNat]?) fun x12 =>
    .ite (0 ≤ s10.1 ∧ s10.1 < (s10.2.length : Int)) <|
    .mat (s10.2[s10.1.toNat]?) fun _ =>
    let v14 := s10.2.set s10.1.toNat (ixor .i64 x11 x12)
    .ret (.inl (iwrap .i64 (s10.1 + 1), v14)))
    (.ret (.inl (iwrap .i64 (s10.1 + 1), s10.2))))
   (.ret (.inl (iwrap .i64 (s10.1 + 1), s10.2))))
  (.ret (.inr s10.2))
noncomputable def i_echelon_l4 : (Int × (List Int) × Int) → Tre ((Int × (List Int) × Int) ⊕ (Int × (List Int))) := fun s4 =>
 .cond (decide (s4.2.2 < 62))
  (.cond (decide (s4.1 < (s4.2.1.length : Int)))
   (.ite (0 ≤ s4.1 ∧ s4.1 ≤ (s4.2.1.length : Int) ∧ (s4.2.1.length : Int) ≤ (s4.2.1.length : Int)) <|
   .mat (idxB ((s4.2.1.drop s4.1.toNat).take (((s4.2.1.length : Int) - s4.1).toNat)) s4.2.2) fun r2 =>
   .cond (decide (r2 < 0))
    (.ret (.inl (s4.1, s4.2.1, iwrap .i64 (s4.2.2 + 1))))
    (.ite (0 ≤ iwrap .i64 (s4.1 + r2) ∧ iwrap .i64 (s4.1 + r2) < (s4.2.1.length : Int)) <|
    .mat (s4.2.1[(iwrap .i64 (s4.1 + r2)).toNat]?) fun x3 =>
    .ite (0 ≤ s4.1 ∧ s4.1 < (s4.2.1.length : Int)) <|
    .mat (s4.2.1[s4.1.toNat]?) fun x4 =>
    .ite (0 ≤ s4.1 ∧ s4.1 < (s4.2.1.length : Int)) <|
    .mat (s4.2.1[s4.1.toNat]?) fun _ =>
    let v6 := s4.2.1.set s4.1.toNat x3
    .ite (0 ≤ iwrap .i64 (s4.1 + r2) ∧ iwrap .i64 (s4.1 + r2) < (v6.length : Int)) <|
    .mat (v6[(iwrap .i64 (s4.1 + r2)).toNat]?) fun _ =>
    let v8 := v6.set ((iwrap .i64 (s4.1 + r2)).toNat) x4
    .mat (loopF (i_echelon_l10 s4.1 (v8.length : Int) s4.2.2) (0, v8)) fun l15 =>
    .ret (.inl (iwrap .i64 (s4.1 + 1), l15, iwrap .i64 (s4.2.2 + 1)))))
   (.ret (.inr (s4.1, s4.2.1))))
  (.ret (.inr (s4.1, s4.2.1)))
noncomputable def i_echelon (p0 : (List Int)) : Tre (List Int) :=
 .mat (cloneR p0) fun r1 =>
 .mat (loopF i_echelon_l4 (0, r1, 0)) fun l16 =>
 .ite (0 ≤ (0 : Int) ∧ (0 : Int) ≤ l16.1 ∧ l16.1 ≤ (l16.2.length : Int)) <|
 .ret ((l16.2.drop 0).take ((l16.1 - 0).toNat))
noncomputable def i_echelon_F (p0 : (List Int)) : Option (List Int) := (i_echelon p0).run some
noncomputable def echA (xs : List Int) : Option (List Int) := askO (okRows 62 xs) (echI xs)
theorem i_echelon_elim (k c r : Nat) (hc : c ≤ 62) (hr : r < 2 ^ 62) (A B : List Nat) (hk : A.length = k) (hb : ∀ n ∈ A ++ r :: B, n < 2 ^ 62) (hl : (A ++ r :: B).length ≤ 1048576) :
  loopF (i_echelon_l10 (k : Int) ((A ++ r :: B).length : Int) (c : Int)) (0, up (A ++ r :: B)) = some (up (A.map (elimB c r) ++ r :: B.map (elimB c r))) := by
 have hkr : (A ++ r :: B)[k]? = some r := by rw [List.getElem?_append_right (by omega), hk]; simp
 generalize hL : A ++ r :: B = l at *
 have := part_loop (step := i_echelon_l10 (k : Int) (l.length : Int) (c : Int)) (fun i x => if i = k then x else elimB c r x) l id (by
  intro i x hx
  have hi : i < l.length := (List.getElem?_eq_some_iff.1 hx).1
  have hx2 := up_at (part_at (g := fun i x => if i = k then x else elimB c r x) (i := i) hx)
  rw [if_neg (Nat.lt_irrefl i)] at hx2
  have hr2 := up_at (part_at (g := fun i x => if i = k then x else elimB c r x) (i := i) hkr)
  simp only [if_true, ite_self] at hr2
  have hxb := hb x (List.mem_of_getElem? hx)
  rw [← part_set hx]
  generalize hP : partB (fun i x => if i = k then x else elimB c r x) i l = P at *
  have hset : (up P).set i (x : Int) = up P := List.ext_getElem? fun j => by
   rw [List.getElem?_set]
   by_cases hj : i = j
   ·subst hj; rw [if_pos rfl, hx2, if_pos (List.getElem?_eq_some_iff.1 hx2).1]
   ·rw [if_neg hj]
  unfold i_echelon_l10
  rw [Tre.run_cond]
  show cond (decide ((i : Int) < (l.length : Int))) _ _ = _
  rw [show decide ((i : Int) < (l.length : Int)) = true from by simpa using hi, cond_true, Tre.run_cond]
  show cond (!decide ((i : Int) = (k : Int))) _ _ = _
  by_cases hik : i = k
  ·rw [show decide ((i : Int) = (k : Int)) = true from decide_eq_true (by omega), Bool.not_true, cond_false, Tre.run_ret, iwrap_succ (by omega), if_pos hik, ← up_set, hset]
  ·rw [show decide ((i : Int) = (k : Int)) = false from decide_eq_false (by omega), Bool.not_false, cond_true, run_at hx2, Tre.run_ite, if_pos (by omega), Tre.run_cond, if_neg hik]
   show cond (bitAt (x : Int) (c : Int)) _ _ = _
   rw [bitAt_nat (by omega) (by omega)]
   have he : elimB c r x = cond (x.testBit c) (x ^^^ r) x := rfl
   rw [he]
   cases x.testBit c
   ·rw [cond_false, Tre.run_ret, iwrap_succ (by omega), cond_false, ← up_set, hset]
   ·rw [cond_true, run_at hx2, run_at hr2, run_at hx2, Tre.run_ret, iwrap_succ (by omega), ixor_nat (by omega) (by omega), Int.toNat_natCast, cond_true, ← up_set])
  (by
  unfold i_echelon_l10
  exact run_out)
 rw [this, ← hL, mapIdx_pivot (f := elimB c r) (g := fun i x => if i = k then x else elimB c r x) (r := r) (B := B) hk (fun i x h => if_neg h) (if_pos rfl)]
 rfl
theorem i_echelon_loop (orig : List Nat) : ∀ (n c : Nat) (E : List (Nat × Nat)) (R : List Nat), c + n = 62 → Inv orig c E R → E.length + R.length ≤ 1048576 → (∀ x ∈ R, x < 2 ^ 62) → (∀ a ∈ E, a.2 < 2 ^ 62) →
  ∃ (E' L : List Nat), loopF i_echelon_l4 ((E.length : Int), up (E.map (·.2) ++ R), (c : Int)) = some ((E'.length : Int), up (E' ++ L)) ∧ IsEch orig E' := by
 intro n
 induction n with
 | zero =>
  intro c E R hc hI _ hR _
  have : c = 62 := hc
  subst this
  refine ⟨E.map (·.2), R, loopF_done ?_, hI.done fun x hx => zero_of_bits (hR x hx) (hI.low x hx)⟩
  unfold i_echelon_l4
  simp [Tre.run_cond, Tre.run_ret]
 | succ n ih =>
  intro c E R hc hI hl hR hEb
  have hcm : c < 62 := by omega
  have hlen : (up (E.map (·.2) ++ R)).length = E.length + R.length := by rw [up_len]; simp
  by_cases hR0 : R = []
  ·subst hR0
   refine ⟨E.map (·.2), [], loopF_done ?_, hI.done fun x hx => by cases hx⟩
   unfold i_echelon_l4
   simp [Tre.run_cond, Tre.run_ret]
  have hRl : 0 < R.length := List.length_pos_iff.2 hR0
  have hstep : ∀ E2 R2, Inv orig (c + 1) E2 R2 → E2.length + R2.length ≤ 1048576 → (∀ x ∈ R2, x < 2 ^ 62) → (∀ a ∈ E2, a.2 < 2 ^ 62) → (i_echelon_l4 ((E.length : Int), up (E.map (·.2) ++ R), (c : Int))).run some = some (.inl ((E2.length : Int), up (E2.map (·.2) ++ R2), ((c + 1 : Nat) : Int))) →
    ∃ (E' L : List Nat), loopF i_echelon_l4 ((E.length : Int), up (E.map (·.2) ++ R), (c : Int)) = some ((E'.length : Int), up (E' ++ L)) ∧ IsEch orig E' := by
   intro E2 R2 h1 h2 h3 h4 h5
   rw [loopF_step h5]
   exact ih (c + 1) E2 R2 (by omega) h1 h2 h3 h4
  have hsub : ((up (E.map (·.2) ++ R)).drop E.length).take (((E.length + R.length : Nat) : Int) - (E.length : Int)).toNat = up R := by
   rw [show (((E.length + R.length : Nat) : Int) - (E.length : Int)).toNat = R.length from by omega]
   unfold up
   rw [List.map_append, List.drop_append_of_le_length (by simp), List.drop_of_length_le (by simp), List.nil_append, List.take_of_length_le (by simp)]
  have hfind : idxB (up R) (c : Int) = some _ := askO_true (by rw [up_len]; simp; omega)
  have hw : iwrap .i64 ((c : Int) + 1) = ((c + 1 : Nat) : Int) := iwrap_succ (by omega)
  have hdec : decide ((c : Int) < 62) = true := by simp; omega
  have hdec2 : decide ((E.length : Int) < ((E.length + R.length : Nat) : Int)) = true := by simp; omega
  rcases idxI_cases (fun x => bitAt x (c : Int)) (up R) 0 with ⟨h1, h2⟩ | ⟨j, x, h1, h2, h3⟩
  ·refine hstep E R (hI.skip fun x hx => ?_) hl hR hEb ?_
   ·have := h2 (x : Int) (List.mem_map.2 ⟨x, hx, rfl⟩)
    have hxb := hR x hx
    rwa [bitAt_nat (by omega) (by omega)] at this
   ·unfold i_echelon_l4
    dsimp only
    rw [hlen, Tre.run_cond, hdec, cond_true, Tre.run_cond, hdec2, cond_true, Tre.run_ite, if_pos (by omega), Int.toNat_natCast, hsub, run_some_mat (hfind.trans (by rw [h1])), Tre.run_cond]
    simp only [show decide ((-1 : Int) < 0) = true from rfl, cond_true, Tre.run_ret, hw]
  ·obtain ⟨r, hr1, rfl⟩ : ∃ r : Nat, R[j]? = some r ∧ (r : Int) = x := by
    simp only [up, List.getElem?_map, Option.map_eq_some_iff] at h1
    exact h1
   have hrm : r ∈ R := List.mem_of_getElem? hr1
   have hrb := hR r hrm
   rw [bitAt_nat (by omega) (by omega)] at h2
   rw [Nat.zero_add] at h3
   have hj : j < R.length := (List.getElem?_eq_some_iff.1 hr1).1
   obtain ⟨y, R', rfl⟩ : ∃ y R', R = y :: R' := by
    cases R with
    | nil => exact absurd rfl hR0
    | cons y R' => exact ⟨y, R', rfl⟩
   -- the rows behind the swap
   obtain ⟨B, hB, hB1, hB2, hBl⟩ : ∃ B, ((y :: R').set 0 r).set j y = r :: B ∧ (∀ x ∈ B, x ∈ y :: R') ∧ (∀ x ∈ y :: R', x = r ∨ x ∈ B) ∧ B.length = R'.length := by
    cases j with
    | zero =>
     have hyr : y = r := by simpa using hr1
     subst hyr
     exact ⟨R', by simp, fun x hx => .tail _ hx, fun x hx => by
      cases hx with
      | head => exact .inl rfl
      | tail _ hx => exact .inr hx, rfl⟩
    | succ j =>
     have hr1 : R'[j]? = some r := by simpa using hr1
     have hj' : j < R'.length := (List.getElem?_eq_some_iff.1 hr1).1
     refine ⟨R'.set j y, by simp, fun x hx => ?_, fun x hx => ?_, by simp⟩
     ·rcases List.mem_or_eq_of_mem_set hx with hx | rfl
      ·exact .tail _ hx
      ·exact .head _
     ·cases hx with
      | head => exact .inr (List.mem_set hj' _)
      | tail _ hx =>
       obtain ⟨i, hi⟩ := List.getElem?_of_mem hx
       by_cases hij : j = i
       ·subst hij; rw [hr1] at hi; exact .inl (Option.some.inj hi).symm
       ·exact .inr (List.mem_of_getElem? (i := i) (by rw [List.getElem?_set, if_neg hij, hi]))
   have hE2 : ((E.map fun a => (a.1, elimB c r a.2)) ++ [(c, r)]).map (·.2) = (E.map (·.2)).map (elimB c r) ++ [r] := by simp [List.map_map, Function.comp_def]
   have hRB : (E.map (·.2) ++ r :: B).length = E.length + (y :: R').length := by simp [hBl]
   have hall : ∀ x ∈ E.map (·.2) ++ r :: B, x < 2 ^ 62 := by
    intro x hx
    rcases List.mem_append.1 hx with hx | hx
    ·obtain ⟨a, ha, rfl⟩ := List.mem_map.1 hx; exact hEb a ha
    ·cases hx with
     | head => exact hrb
     | tail _ hx => exact hR x (hB1 x hx)
   refine hstep (E.map (fun a => (a.1, elimB c r a.2)) ++ [(c, r)]) (B.map (elimB c r)) (hI.step hrm h2 ?_ ?_) (by simp [hBl] at hl ⊢; omega) ?_ ?_ ?_
   ·intro z hz
    obtain ⟨x, hx, rfl⟩ := List.mem_map.1 hz
    exact .inr ⟨x, hB1 x hx, rfl⟩
   ·intro x hx
    rcases hB2 x hx with h | h
    ·exact .inl h
    ·exact .inr (List.mem_map.2 ⟨x, h, rfl⟩)
   ·intro z hz
    obtain ⟨x, hx, rfl⟩ := List.mem_map.1 hz
    exact elimB_lt hrb (hR x (hB1 x hx))
   ·intro a ha
    rcases List.mem_append.1 ha with ha | ha
    ·obtain ⟨b, hb, rfl⟩ := List.mem_map.1 ha
     exact elimB_lt hrb (hEb b hb)
    ·simp only [List.mem_singleton] at ha; subst ha; exact hrb
   ·have e1 := i_echelon_elim E.length c r (by omega) hrb (E.map (·.2)) B (by simp) hall (by rw [hRB]; exact hl)
    have hkj : iwrap .i64 ((E.length : Int) + (j : Int)) = ((E.length + j : Nat) : Int) := by rw [iwrap_i64 (by omega) (by omega)]; omega
    have hat1 : (up (E.map (·.2) ++ y :: R'))[E.length + j]? = some (r : Int) := up_at (by rw [List.getElem?_append_right (by simp)]; simpa using hr1)
    have hat2 : (up (E.map (·.2) ++ y :: R'))[E.length]? = some (y : Int) := up_at (by rw [List.getElem?_append_right (by simp)]; simp)
    have hs1 : (up (E.map (·.2) ++ y :: R')).set E.length (r : Int) = up (E.map (·.2) ++ (y :: R').set 0 r) := by
     rw [up_set, List.set_append_right _ _ (by simp)]
     simp
    have hs2 : (up (E.map (·.2) ++ (y :: R').set 0 r)).set (E.length + j) (y : Int) = up (E.map (·.2) ++ r :: B) := by
     rw [up_set, List.set_append_right _ _ (by simp), ← hB]
     simp
    have hat3 : ∃ z, (up (E.map (·.2) ++ (y :: R').set 0 r))[E.length + j]? = some z := ⟨_, List.getElem?_eq_getElem (by rw [up_len]; simp at hj ⊢; omega)⟩
    obtain ⟨z, hat3⟩ := hat3
    have hlen3 : ((up (E.map (·.2) ++ r :: B)).length : Int) = ((E.map (·.2) ++ r :: B).length : Int) := by rw [up_len]
    unfold i_echelon_l4
    dsimp only
    rw [hlen, Tre.run_cond, hdec, cond_true, Tre.run_cond, hdec2, cond_true, Tre.run_ite, if_pos (by omega), Int.toNat_natCast, hsub, run_some_mat (hfind.trans (by rw [h3])), Tre.run_cond]
    rw [show decide ((j : Int) < 0) = false from by simp, cond_false, hkj, ← hlen, run_at hat1, run_at2 hat2, run_at2 hat2]
    rw [Int.toNat_natCast, hs1, run_at2 hat3, hs2, hlen3, run_some_mat e1, Tre.run_ret, iwrap_succ (by omega), hw, hE2]
    simp [List.append_assoc]
theorem i_echelon_spec (p0 : List Int) (y : List Int) (h : echA p0 = some y) : i_echelon_F p0 = some y := by
 obtain ⟨hl, rfl⟩ := askO_some h
 obtain ⟨ns, rfl, hlen, hb, hn⟩ := okRows_up hl
 obtain ⟨E, L, h1, h2⟩ := i_echelon_loop ns 62 0 [] ns (by omega) (Inv.start ns) (by simpa using hlen) hb (fun a ha => by cases ha)
 unfold i_echelon_F i_echelon
 have e1 : cloneR (up ns) = some (up ns) := lim_of (by rw [up_len]; exact hlen)
 have h1 : loopF i_echelon_l4 (0, up ns, 0) = some ((E.length : Int), up (E ++ L)) := h1
 rw [run_some_mat e1, run_some_mat h1, Tre.run_ite, if_pos (by rw [up_len]; simp; omega), Tre.run_ret]
 unfold echI
 rw [hn, ech_of h2]
 simp [up]
noncomputable def i_echelon_V : Env := ⟨tau, [(45, slices_Clone_int64_c), (98, slices_IndexFunc_int64_i_echelonc1_c)], []⟩
noncomputable def i_echelon_b : Code := (Try.f82.body).getD .skip
noncomputable def i_echelon_l10_mk (h10_0_0 : Int) (h10_0_1 : Int) (h10_0_4 : Int) : (Int × (List Int)) → St := fun x => stOf [(0, (.ref (2, 0) [])), (3, (.imm true (.int .i64) h10_0_0)), (4, (.ptr (6, 0) [])), (45, (.imm true (.int .i64) h10_0_1)), (46, (.imm true (.int .i64) x.1))] [((2, 0), some ⟨false, (.sl (.int .i64)), .own, x.2⟩), ((6, 0), some ⟨true, (.int .i64), .own, h10_0_4⟩)]
noncomputable def i_echelon_l10_out (h10_0_0 : Int) (_h10_0_1 : Int) (h10_0_4 : Int) : (List Int) → Ex × St := fun x => (.exit 2, stOf [(0, (.ref (2, 0) [])), (3, (.imm true (.int .i64) h10_0_0)), (4, (.ptr (6, 0) []))] [((2, 0), some ⟨false, (.sl (.int .i64)), .own, x⟩), ((6, 0), some ⟨true, (.int .i64), .own, h10_0_4⟩)])
noncomputable def i_echelon_l10_D (s : St) : Tre (Ex × St) :=
 asRef (2, 0) [] (s.tmps 0) <|
 asImmZ true (.int .i64) (s.tmps 3) fun d3 =>
 asPtr (6, 0) [] (s.tmps 4) <|
 asImmZ true (.int .i64) (s.tmps 45) fun d6 =>
 asImmZ true (.int .i64) (s.tmps 46) fun d8 =>
 asRoot false (.sl (.int .i64)) (s.roots (2, 0)) fun m10 d11 =>
 asM .own m10 <|
 asRoot true (.int .i64) (s.roots (6, 0)) fun m13 d14 =>
 asM .own m13 <|
 .mat (loopF (i_echelon_l10 d3 d6 d14) (d8, d11)) fun x => .ret (i_echelon_l10_out d3 d6 d14 x)
noncomputable def i_echelon_l10_L : LoopI := ⟨([0, 3, 4, 45, 46], [(2, 0), (6, 0)]), ([0, 3, 4], [(2, 0), (6, 0)]), i_echelon_l10_D⟩
noncomputable def i_echelon_l4_mk : (Int × (List Int) × Int) → St := fun x => stOf [(0, (.ref (2, 0) [])), (3, (.imm true (.int .i64) x.1)), (4, (.ptr (6, 0) []))] [((2, 0), some ⟨false, (.sl (.int .i64)), .own, x.2.1⟩), ((6, 0), some ⟨true, (.int .i64), .own, x.2.2⟩)]
noncomputable def i_echelon_l4_out : (Int × (List Int)) → Ex × St := fun x => (.exit 0, stOf [(0, (.ref (2, 0) [])), (3, (.imm true (.int .i64) x.1))] [((2, 0), some ⟨false, (.sl (.int .i64)), .own, x.2⟩)])
noncomputable def i_echelon_l4_D (s : St) : Tre (Ex × St) :=
 asRef (2, 0) [] (s.tmps 0) <|
 asImmZ true (.int .i64) (s.tmps 3) fun d3 =>
 asPtr (6, 0) [] (s.tmps 4) <|
 asRoot false (.sl (.int .i64)) (s.roots (2, 0)) fun m6 d7 =>
 asM .own m6 <|
 asRoot true (.int .i64) (s.roots (6, 0)) fun m9 d10 =>
 asM .own m9 <|
 .mat (loopF i_echelon_l4 (d3, d7, d10)) fun x => .ret (i_echelon_l4_out x)
noncomputable def i_echelon_l4_L : LoopI := ⟨([0, 3, 4], [(2, 0), (6, 0)]), ([0, 3], [(2, 0)]), i_echelon_l4_D⟩
noncomputable def i_echelon_A : List (Nat × LoopI) := [(10, i_echelon_l10_L), (4, i_echelon_l4_L)]
set_option maxRecDepth 100000 in
theorem i_echelon_l10_step : ∀ (h10_0_0 : Int) (h10_0_1 : Int) (h10_0_4 : Int) (x : (Int × (List Int))) (c : St → Option (Ex × St)), den i_echelon_V i_echelon_A (loopAt i_echelon_b 1) (i_echelon_l10_mk h10_0_0 h10_0_1 h10_0_4 x) (roundK i_echelon_l10_L.kp i_echelon_l10_L.kx c) = (i_echelon_l10 h10_0_0 h10_0_1 h10_0_4 x).run (roundR (i_echelon_l10_mk h10_0_0 h10_0_1 h10_0_4) (i_echelon_l10_out h10_0_0 h10_0_1 h10_0_4) c) := fun _ _ _ _ _ => by
 kernel_rfl
theorem i_echelon_l10_ok : LoopOK i_echelon_V i_echelon_A (loopAt i_echelon_b 1) i_echelon_l10_L := loopOK_of fun s e s' h => by
 generalize hs : restrict i_echelon_l10_L.kp s = s1 at h
 have h : (i_echelon_l10_D s1).run some = some (e, s') := h
 obtain ⟨e1, h_0⟩ := asRef_spec h
 obtain ⟨d3, e2, h_1⟩ := asImmZ_spec h_0
 obtain ⟨e4, h_2⟩ := asPtr_spec h_1
 obtain ⟨d6, e5, h_3⟩ := asImmZ_spec h_2
 obtain ⟨d8, e7, h_4⟩ := asImmZ_spec h_3
 obtain ⟨m10, d11, e9, h_5⟩ := asRoot_spec h_4
 obtain ⟨rfl, h_6⟩ := asM_spec h_5
 obtain ⟨m13, d14, e12, h_7⟩ := asRoot_spec h_6
 obtain ⟨rfl, h_8⟩ := asM_spec h_7
 obtain ⟨y, hy, hz⟩ := mat_ret h_8
 refine ⟨_, _, i_echelon_l10_mk d3 d6 d14, i_echelon_l10_out d3 d6 d14, i_echelon_l10 d3 d6 d14, (d8, d11), y, ?_, hy, ?_, i_echelon_l10_step d3 d6 d14⟩
 ·subst hs; exact restrict_eq (T := [(0, (.ref (2, 0) [])), (3, (.imm true (.int .i64) d3)), (4, (.ptr (6, 0) [])), (45, (.imm true (.int .i64) d6)), (46, (.imm true (.int .i64) d8))]) (U := [((2, 0), some ⟨false, (.sl (.int .i64)), .own, d11⟩), ((6, 0), some ⟨true, (.int .i64), .own, d14⟩)]) rfl rfl ⟨e1, e2, e4, e5, e7, trivial⟩ ⟨e9, e12, trivial⟩
 ·exact Option.some.inj hz
set_option maxRecDepth 100000 in
theorem i_echelon_l4_step : ∀ (x : (Int × (List Int) × Int)) (c : St → Option (Ex × St)), den i_echelon_V i_echelon_A (loopAt i_echelon_b 0) (i_echelon_l4_mk x) (roundK i_echelon_l4_L.kp i_echelon_l4_L.kx c) = (i_echelon_l4 x).run (roundR (i_echelon_l4_mk) (i_echelon_l4_out) c) := fun _ _ => by
 kernel_rfl
theorem i_echelon_l4_ok : LoopOK i_echelon_V i_echelon_A (loopAt i_echelon_b 0) i_echelon_l4_L := loopOK_of fun s e s' h => by
 generalize hs : restrict i_echelon_l4_L.kp s = s1 at h
 have h : (i_echelon_l4_D s1).run some = some (e, s') := h
 obtain ⟨e1, h_0⟩ := asRef_spec h
 obtain ⟨d3, e2, h_1⟩ := asImmZ_spec h_0
 obtain ⟨e4, h_2⟩ := asPtr_spec h_1
 obtain ⟨m6, d7, e5, h_3⟩ := asRoot_spec h_2
 obtain ⟨rfl, h_4⟩ := asM_spec h_3
 obtain ⟨m9, d10, e8, h_5⟩ := asRoot_spec h_4
 obtain ⟨rfl, h_6⟩ := asM_spec h_5
 obtain ⟨y, hy, hz⟩ := mat_ret h_6
 refine ⟨_, _, i_echelon_l4_mk, i_echelon_l4_out, i_echelon_l4, (d3, d7, d10), y, ?_, hy, ?_, i_echelon_l4_step⟩
 ·subst hs; exact restrict_eq (T := [(0, (.ref (2, 0) [])), (3, (.imm true (.int .i64) d3)), (4, (.ptr (6, 0) []))]) (U := [((2, 0), some ⟨false, (.sl (.int .i64)), .own, d7⟩), ((6, 0), some ⟨true, (.int .i64), .own, d10⟩)]) rfl rfl ⟨e1, e2, e4, trivial⟩ ⟨e5, e8, trivial⟩
 ·exact Option.some.inj hz
noncomputable def i_echelon_I : FnI := ⟨i_echelon_b, Try.f82.results.toList, Try.f82.resultTypes.toList, i_echelon_A⟩
noncomputable def i_echelon_out (_zp0 : Bool) (_p0 : (List Int)) : (List Int) → CallOut := fun r => ⟨(.ref (1, 0) []), [], [⟨false, (.sl (.int .i64)), .own, r⟩]⟩
set_option maxRecDepth 100000 in
theorem i_echelon_eq : ∀ (zp0 : Bool) (p0 : (List Int)), denFn i_echelon_V i_echelon_I ⟨[(.imm zp0 (.sl (.int .i64)) p0)], []⟩ = (i_echelon p0).run fun r => some (i_echelon_out zp0 p0 r) := fun _ _ => by kernel_rfl
noncomputable def i_echelon_G (av : List AV) (rs : List Root) : Tre CallOut :=
 asCons av fun a0_ av0 =>
 asEnd av0 <|
 asEnd rs <|
 asImm (.sl (.int .i64)) a0_ fun z2 d1 =>
 .mat (echA d1) fun r => .ret (i_echelon_out z2 d1 r)
noncomputable def i_echelon_c : Ctr := ⟨[], fun ci => i_echelon_G ci.args ci.roots⟩
theorem i_echelon_env : EnvOK Try.prog i_echelon_V := (envOK_cons slices_Clone_int64_ok ent45 (envOK_cons slices_IndexFunc_int64_i_echelonc1_ok ent98 envOK_nil))
set_option maxRecDepth 100000 in
theorem i_echelon_ok : Contract Try.prog 82 i_echelon_c := by
 have hl : LoopsOK i_echelon_V i_echelon_A i_echelon_b := (loopsOK_all (n := 2) (by kernel_rfl) fun k hk => by
   match k, hk with
   | 0, _ => exact loopOK_at (id := 4) (L := i_echelon_l4_L) (by kernel_rfl) (by kernel_rfl) i_echelon_l4_ok
   | 1, _ => exact loopOK_at (id := 10) (L := i_echelon_l10_L) (by kernel_rfl) (by kernel_rfl) i_echelon_l10_ok)
 refine (contract_of (F := i_echelon_I) tau_tys i_echelon_env Try.func82 (by kernel_rfl) (by kernel_rfl) (by kernel_rfl) hl []).weaken ?_
 rintro ⟨av, rs⟩ co h
 have h : (i_echelon_G av rs).run some = some co := h
 obtain ⟨a0_, av0, rfl, h_0⟩ := asCons_spec h
 obtain ⟨rfl, h_1⟩ := asEnd_spec h_0
 obtain ⟨rfl, h_2⟩ := asEnd_spec h_1
 obtain ⟨z2, d1, rfl, h_3⟩ := asImm_spec h_2
 exact fin_opt (i_echelon_eq z2 d1) (i_echelon_spec d1) h_3
end Go.Proofs.Ytddaclhjnkimfaa

namespace Go.Proofs.Ytddaclhjnkimfaa
open Go Go.Abs Go.Proofs
noncomputable def i_areIndependent (p0 : (List Int)) : Tre Bool :=
 .mat (echA p0) fun r1 =>
 .ret (decide ((r1.length : Int) = (p0.length : Int)))
noncomputable def i_areIndependent_F (p0 : (List Int)) : Option Bool := (i_areIndependent p0).run some
noncomputable def indR (xs : List Int) : Option Bool := askO (okRows 62 xs) (decide (((echI xs).length : Int) = (xs.length : Int)))
theorem i_areIndependent_spec (p0 : List Int) (y : Bool) (h : indR p0 = some y) : i_areIndependent_F p0 = some y := by
 obtain ⟨hok, rfl⟩ := askO_some h
 unfold i_areIndependent_F i_areIndependent
 rw [run_some_mat (show echA p0 = some _ from askO_true hok)]
 rfl
noncomputable def i_areIndependent_V : Env := ⟨tau, [(82, i_echelon_c)], []⟩
noncomputable def i_areIndependent_b : Code := (Try.f120.body).getD .skip
noncomputable def i_areIndependent_I : FnI := ⟨i_areIndependent_b, Try.f120.results.toList, Try.f120.resultTypes.toList, []⟩
noncomputable def i_areIndependent_out (_zp0 : Bool) (_p0 : (List Int)) : Bool → CallOut := fun r => ⟨(.imm true .bool r), [], []⟩
set_option maxRecDepth 100000 in
theorem i_areIndependent_eq : ∀ (zp0 : Bool) (p0 : (List Int)), denFn i_areIndependent_V i_areIndependent_I ⟨[(.imm zp0 (.sl (.int .i64)) p0)], []⟩ = (i_areIndependent p0).run fun r => some (i_areIndependent_out zp0 p0 r) := fun _ _ => by kernel_rfl
noncomputable def i_areIndependent_G (av : List AV) (rs : List Root) : Tre CallOut :=
 asCons av fun a0_ av0 =>
 asEnd av0 <|
 asEnd rs <|
 asImm (.sl (.int .i64)) a0_ fun z2 d1 =>
 .mat (indR d1) fun r => .ret (i_areIndependent_out z2 d1 r)
noncomputable def i_areIndependent_c : Ctr := ⟨[], fun ci => i_areIndependent_G ci.args ci.roots⟩
theorem i_areIndependent_env : EnvOK Try.prog i_areIndependent_V := (envOK_cons i_echelon_ok ent82 envOK_nil)
set_option maxRecDepth 100000 in
theorem i_areIndependent_ok : Contract Try.prog 120 i_areIndependent_c := by
 have hl : LoopsOK i_areIndependent_V [] i_areIndependent_b := loopsOK_nil (by kernel_rfl)
 refine (contract_of (F := i_areIndependent_I) tau_tys i_areIndependent_env Try.func120 (by kernel_rfl) (by kernel_rfl) (by kernel_rfl) hl []).weaken ?_
 rintro ⟨av, rs⟩ co h
 have h : (i_areIndependent_G av rs).run some = some co := h
 obtain ⟨a0_, av0, rfl, h_0⟩ := asCons_spec h
 obtain ⟨rfl, h_1⟩ := asEnd_spec h_0
 obtain ⟨rfl, h_2⟩ := asEnd_spec h_1
 obtain ⟨z2, d1, rfl, h_3⟩ := asImm_spec h_2
 exact fin_opt (i_areIndependent_eq z2 d1) (i_areIndependent_spec d1) h_3
end Go.Proofs.Ytddaclhjnkimfaa

namespace Go.Proofs.Ytddaclhjnkimfaa
open Go Go.Abs Go.Proofs
noncomputable def i_works_comeIn_8e25 (p0 : (Int × (Int × Unit))) (p1 : TWorks) : Tre TWorks :=
 .ite (0 ≤ p0.1 ∧ p0.1 < (p1.1.1.length : Int)) <|
 .mat (p1.1.1[p0.1.toNat]?) fun _ =>
 .mat (p1.1.1[p0.1.toNat]?) fun x2 =>
 .mat (cloneR x2.1) fun r3 =>
 .ite ((r3.length + 1) * 8 ≤ appendMax ∧ 1 ≤ 8) <|
 .mat (indR (r3 ++ ([p0.2.1]))) fun r4 =>
 .cond r4
  (.mat (p1.1.1[p0.1.toNat]?) fun x5 =>
  let v6 := p1.1.1.set p0.1.toNat (r3 ++ ([p0.2.1]), x5.2)
  .ret ((v6, p1.1.2), p1.2))
  (.ret p1)
noncomputable def i_works_comeIn_8e25_F (p0 : (Int × (Int × Unit))) (p1 : TWorks) : Option TWorks := (i_works_comeIn_8e25 p0 p1).run some
noncomputable def comeI (x : Int × Int × Unit) (p : P8 × (G8 × Unit)) : Option (P8 × (G8 × Unit)) := askO (isG p.2.1 && okX p.2.1 x && okP 1000 p.2.1 p.1) ((comeM x p.1.1, p.1.2), p.2)
theorem i_works_comeIn_8e25_spec (p0 : Int × Int × Unit) (p1 : P8 × (G8 × Unit)) (y : P8 × (G8 × Unit)) (h : comeI p0 p1 = some y) : i_works_comeIn_8e25_F p0 p1 = some y := by
 obtain ⟨hok, rfl⟩ := askO_some h
 simp only [Bool.and_eq_true] at hok
 obtain ⟨⟨hg, hx⟩, hp⟩ := hok
 obtain ⟨l1, l2, l3, l4⟩ := okP_spec hp
 unfold okX at hx
 rw [Bool.and_eq_true, inR_iff] at hx
 obtain ⟨⟨x0, x1⟩, hr⟩ := hx
 obtain ⟨⟨st, wi, ⟨⟩⟩, ⟨g, ⟨⟩⟩⟩ := p1
 obtain ⟨t, r, ⟨⟩⟩ := p0
 simp only at *
 obtain ⟨i, rfl⟩ := Int.eq_ofNat_of_zero_le x0
 have hi : i < st.length := by omega
 obtain ⟨s, hs⟩ : ∃ s, st[i]? = some s := ⟨_, List.getElem?_eq_getElem hi⟩
 have hs1 := (l2 s (List.mem_of_getElem? hs)).1
 have hlen := (okS_spec.1 hs1).1
 unfold i_works_comeIn_8e25_F i_works_comeIn_8e25 comeM
 simp only [Int.toNat_natCast, hs]
 rw [Tre.run_ite, if_pos ⟨x0, by omega⟩, run_some_mat rfl, run_some_mat rfl, run_some_mat (show cloneR s.1 = some s.1 from lim_of (by omega)), Tre.run_ite, if_pos (by unfold appendMax; omega)]
 rw [run_some_mat (show indR (s.1 ++ [r]) = some _ from askO_true (okS_rows (okS_add hs1 hr) (by omega) (by have := (colsG_le hg).1; omega))), Tre.run_cond]
 cases decide (((echI (s.1 ++ [r])).length : Int) = ((s.1 ++ [r]).length : Int))
 ·rfl
 ·rw [cond_true, cond_true, run_some_mat rfl]; rfl
noncomputable def i_works_comeIn_8e25_V : Env := ⟨tau, [(45, slices_Clone_int64_c), (120, i_areIndependent_c)], []⟩
noncomputable def i_works_comeIn_8e25_b : Code := (Try.f118.body).getD .skip
noncomputable def i_works_comeIn_8e25_I : FnI := ⟨i_works_comeIn_8e25_b, Try.f118.results.toList, Try.f118.resultTypes.toList, []⟩
noncomputable def i_works_comeIn_8e25_out (zp0 : Bool) (_p0 : (Int × (Int × Unit))) (_p1 : TWorks) : TWorks → CallOut := fun r => ⟨.tnil, [⟨true, kWorks, (.pair .own (.imm zp0)), r⟩], []⟩
set_option maxRecDepth 100000 in
theorem i_works_comeIn_8e25_eq : ∀ (zp0 : Bool) (p0 : (Int × (Int × Unit))) (p1 : TWorks), denFn i_works_comeIn_8e25_V i_works_comeIn_8e25_I ⟨[(.ptr (0, 0) []), (.imm true kField p0)], [⟨true, kWorks, (.pair .own (.imm zp0)), p1⟩]⟩ = (i_works_comeIn_8e25 p0 p1).run fun r => some (i_works_comeIn_8e25_out zp0 p0 p1 r) := fun _ _ _ => by kernel_rfl
noncomputable def i_works_comeIn_8e25_G (av : List AV) (rs : List Root) : Tre CallOut :=
 asCons av fun a0_ av0 =>
 asCons av0 fun a1_ av1 =>
 asEnd av1 <|
 asCons rs fun r0_ rs0 =>
 asEnd rs0 <|
 asPtr (0, 0) [] a0_ <|
 asImmZ true kField a1_ fun d1 =>
 asRt true kWorks r0_ fun m2 d3 =>
 asMPair m2 fun m4 m5 =>
 asM .own m4 <|
 asMImm m5 fun z6 =>
 .mat (comeI d1 d3) fun r => .ret (i_works_comeIn_8e25_out z6 d1 d3 r)
noncomputable def i_works_comeIn_8e25_c : Ctr := ⟨[], fun ci => i_works_comeIn_8e25_G ci.args ci.roots⟩
theorem i_works_comeIn_8e25_env : EnvOK Try.prog i_works_comeIn_8e25_V := (envOK_cons slices_Clone_int64_ok ent45 (envOK_cons i_areIndependent_ok ent120 envOK_nil))
set_option maxRecDepth 100000 in
theorem i_works_comeIn_8e25_ok : Contract Try.prog 118 i_works_comeIn_8e25_c := by
 have hl : LoopsOK i_works_comeIn_8e25_V [] i_works_comeIn_8e25_b := loopsOK_nil (by kernel_rfl)
 refine (contract_of (F := i_works_comeIn_8e25_I) tau_tys i_works_comeIn_8e25_env Try.func118 (by kernel_rfl) (by kernel_rfl) (by kernel_rfl) hl []).weaken ?_
 rintro ⟨av, rs⟩ co h
 have h : (i_works_comeIn_8e25_G av rs).run some = some co := h
 obtain ⟨a0_, av0, rfl, h_0⟩ := asCons_spec h
 obtain ⟨a1_, av1, rfl, h_1⟩ := asCons_spec h_0
 obtain ⟨rfl, h_2⟩ := asEnd_spec h_1
 obtain ⟨r0_, rs0, rfl, h_3⟩ := asCons_spec h_2
 obtain ⟨rfl, h_4⟩ := asEnd_spec h_3
 obtain ⟨rfl, h_5⟩ := asPtr_spec h_4
 obtain ⟨d1, rfl, h_6⟩ := asImmZ_spec h_5
 obtain ⟨m2, d3, rfl, h_7⟩ := asRt_spec h_6
 obtain ⟨m4, m5, rfl, h_8⟩ := asMPair_spec h_7
 obtain ⟨rfl, h_9⟩ := asM_spec h_8
 obtain ⟨z6, rfl, h_10⟩ := asMImm_spec h_9
 exact fin_opt (i_works_comeIn_8e25_eq z6 d1 d3) (i_works_comeIn_8e25_spec d1 d3) h_10
end Go.Proofs.Ytddaclhjnkimfaa

namespace Go.Proofs.Ytddaclhjnkimfaa
open Go Go.Abs Go.Proofs
set_option maxHeartbeats 4000000 in
set_option maxRecDepth 1000000 in
theorem slices_Delete_Parcel_bee3_walk : DelWalk Try.prog 117 2 := by
 intro w b off n cap i j cs T hcs hn hsz hij hjn hone
 have hic : i ≤ cap := by omega
 have hjc : j ≤ cap := by omega
 obtain ⟨news, hnews⟩ : ∃ news, news = Go.Abs.sub cs (off + j * 2) ((n - j) * 2) := ⟨_, rfl⟩
 have hlen : news.length = (n - j) * 2 := by rw [hnews]; exact sub_length (by omega)
 obtain ⟨A, hA, hfc⟩ := cut_src (P := Try.prog) (sz := 2) hcs hjn hn hsz hnews
 have hone' : ∀ v ∈ news, v.oneCell' = true := cut_one hnews hone
 obtain ⟨W1, hW1⟩ : ∃ W1, W1 = w.drew.setRow b (updCells cs (off + i * 2) news) := ⟨_, rfl⟩
 have hst : (storeCells ⟨b, off + i * 2, none⟩ news).run Try.prog w.drew = .ok () W1 := by
  have := run_storeCells_at Try.prog b (off + i * 2) T news 0 cs w.drew hcs (by rw [hlen]; omega) hone'
  rw [hW1]; exact this
 have hcs1 : W1.heap[b]? = some (.cells (updCells cs (off + i * 2) news) T (0, 0)) := by rw [hW1]; exact setRow_heap w.drew b cs _ T _ hcs
 have hsz1 : (updCells cs (off + i * 2) news).size = cs.size := updCells_size (by rw [hlen]; omega)
 have hcl : ∀ ty, (Builtin.clear_ #[49] ty #[.slice (some ⟨b, off + (i + (n - j)) * 2, none⟩) (n - (i + (n - j))) (cap - (i + (n - j)))]).run Try.prog W1 = .ok (.tuple #[]) (W1.setRow b (updCells (updCells cs (off + i * 2) news) (off + (i + (n - j)) * 2) (Builtin.zeroCells (Value.agg #[.int .i64 0, .int .i64 0]).cells (n - (i + (n - j)))).toList)) :=
  fun ty => run_clear_row (e := 108) (by kernel_rfl) (fun w => by kernel_rfl) (by omega) (by simp [Value.cells]; intros; rfl) hcs1 (by rw [hsz1]; show _ + _ * 2 ≤ _; omega)
 have hinf : (Try.prog.info? 108).map (·.size) = some 2 := by kernel_rfl
 obtain ⟨i0, hi0, hi2⟩ := Option.map_eq_some_iff.1 hinf
 have t0 : Try.prog.underlying 49 = some (.slice 108) := by kernel_rfl
 have X : Shut (W1 = w.drew.setRow b (updCells cs (off + i * 2) news)) := ⟨hW1⟩
 have Y : Shut (news = Go.Abs.sub cs (off + j * 2) ((n - j) * 2)) := ⟨hnews⟩
 have hl : i + (n - j) ≤ n := by omega
 have hl2 : ¬ (cap = i + (n - j)) := by omega
 clear hW1 hcs1 hcs hone hnews
 go_enter Try.func117, (show Try.f117.ntmps = 33 from rfl)
 go_wp2
 go_region_law (refine step_append_row rfl (.tmp 22) (.tmp 25) 49 rfl 108 i0 2 t0 hi0 hi2 b off i cap (by simp [Act.eval, Act.put]) A (n - j) (cap - j) news (by simp [Act.eval, Act.put]) (hfc _ rfl) (by omega) hst ?_)
 all_goals go_wp2
 all_goals (go_ret; refine ⟨rfl, w.drew, (Builtin.zeroCells (Value.agg #[.int .i64 0, .int .i64 0]).cells (n - (i + (n - j)))).toList, rfl, rfl, rfl, rfl, ?_, ?_⟩)
 all_goals first
  | (rw [X.out, setRow_setRow, Y.out]; rfl)
  | (simp only [Builtin.zeroCells, Array.toList_map, List.length_map, Array.toList_range, List.length_range]; show (n - (i + (n - j))) * 2 = (j - i) * 2; omega)
noncomputable def slices_Delete_Parcel_bee3_G (av : List AV) (rs : List Root) : Tre CallOut :=
 asCons av fun a0_ av0 =>
 asCons av0 fun a1_ av1 =>
 asCons av1 fun a2_ av2 =>
 asEnd av2 <|
 asCons rs fun r0_ rs0 =>
 asEnd rs0 <|
 asRef (0, 0) [.fst, .snd, .fst] a0_ <|
 asImmZ true (.int .i64) a1_ fun d1 =>
 asImmZ true (.int .i64) a2_ fun d2 =>
 asRt true kWorks r0_ fun m3 d4 =>
 asMPair m3 fun m5 m6 =>
 asM .own m5 <|
 asMImm m6 fun z7 =>
 .ite (0 ≤ d1 ∧ d1 < d2 ∧ d2 ≤ (d4.1.2.1.length : Int)) (.ret ⟨.ref (1, 0) [], [⟨true, kWorks, (.pair (.pair .own (.pair .gone .own)) (.imm z7)), ((d4.1.1, ([], d4.1.2.2)), d4.2)⟩], [⟨false, (.sl kField), .own, d4.1.2.1.take d1.toNat ++ d4.1.2.1.drop d2.toNat⟩]⟩)
noncomputable def slices_Delete_Parcel_bee3_c : Ctr := ⟨[0], fun ci => slices_Delete_Parcel_bee3_G ci.args ci.roots⟩
set_option maxRecDepth 100000 in
theorem slices_Delete_Parcel_bee3_ok : Contract Try.prog 117 slices_Delete_Parcel_bee3_c := by
 refine (delete_ok (e := kField) (by kernel_rfl) (by kernel_rfl) slices_Delete_Parcel_bee3_walk).weaken ?_
 rintro ⟨av, rs⟩ co h
 have h : (slices_Delete_Parcel_bee3_G av rs).run some = some co := h
 obtain ⟨a0_, av0, rfl, h_0⟩ := asCons_spec h
 obtain ⟨a1_, av1, rfl, h_1⟩ := asCons_spec h_0
 obtain ⟨a2_, av2, rfl, h_2⟩ := asCons_spec h_1
 obtain ⟨rfl, h_3⟩ := asEnd_spec h_2
 obtain ⟨r0_, rs0, rfl, h_4⟩ := asCons_spec h_3
 obtain ⟨rfl, h_5⟩ := asEnd_spec h_4
 obtain ⟨rfl, h_6⟩ := asRef_spec h_5
 obtain ⟨d1, rfl, h_7⟩ := asImmZ_spec h_6
 obtain ⟨d2, rfl, h_8⟩ := asImmZ_spec h_7
 obtain ⟨m3, d4, rfl, h_9⟩ := asRt_spec h_8
 obtain ⟨m5, m6, rfl, h_10⟩ := asMPair_spec h_9
 obtain ⟨rfl, h_11⟩ := asM_spec h_10
 obtain ⟨z7, rfl, h_12⟩ := asMImm_spec h_11
 exact h_12
end Go.Proofs.Ytddaclhjnkimfaa

namespace Go.Proofs.Ytddaclhjnkimfaa
open Go Go.Abs Go.Proofs
noncomputable def i_works_handle_ba03 (p0 : TDeed) (p1 : TWorks) : Tre (Int × TWorks) :=
 .cond (decide (p0.2.1 ≥ (p1.1.2.1.length : Int)))
  (.ret (2, p1))
  (.cond (decide (p0.1 = 5))
   (.cond (decide (p0.2.2.1 = 0))
    (.ret (2, p1))
    (let v1 := iwrap .i64 (p1.2.1.1 + p1.2.1.2.1)
    .ite (0 ≤ v1) <|
    .cond (decide (p0.2.2.1 ≥ ishl .i64 1 v1))
     (.ret (2, p1))
     (.ite (0 ≤ p0.2.1 ∧ p0.2.1 < (p1.1.2.1.length : Int)) <|
     .mat (p1.1.2.1[p0.2.1.toNat]?) fun x2 =>
     .cond (decide (p0.1 = 5))
      (.ite (0 ≤ p0.2.1 ∧ p0.2.1 < (p1.1.2.1.length : Int)) <|
      .mat (p1.1.2.1[p0.2.1.toNat]?) fun x3 =>
      let v4 := ixor .i64 x3.2.1 p0.2.2.1
      .ite (0 ≤ p0.2.1 ∧ p0.2.1 < (p1.1.2.1.length : Int)) <|
      .mat (p1.1.2.1[p0.2.1.toNat]?) fun x5 =>
      let v6 := p1.1.2.1.set p0.2.1.toNat (x5.1, (v4, x5.2.2))
      .cond (decide (p0.1 = 2))
       (.mat (comeI x2 ((p1.1.1, (v6, p1.1.2.2)), p1.2)) fun r7 =>
       .ret (0, r7))
       (.cond (decide (p0.1 = 3))
        (.mat (comeI x2 ((p1.1.1, (v6, p1.1.2.2)), p1.2)) fun r8 =>
        .ret (0, r8))
        (.ret (0, ((p1.1.1, (v6, p1.1.2.2)), p1.2)))))
      (.cond (decide (p0.1 = 2))
       (.cond (decide (p0.1 = 2))
        (.ite (0 ≤ p0.2.1 ∧ p0.2.1 < iwrap .i64 (p0.2.1 + 1) ∧ iwrap .i64 (p0.2.1 + 1) ≤ (p1.1.2.1.length : Int)) <|
        .cond (decide (p0.1 = 2))
         (.mat (comeI x2 ((p1.1.1, (p1.1.2.1.take p0.2.1.toNat ++ p1.1.2.1.drop (iwrap .i64 (p0.2.1 + 1)).toNat, p1.1.2.2)), p1.2)) fun r9 =>
         .ret (0, r9))
         (.cond (decide (p0.1 = 3))
          (.mat (comeI x2 ((p1.1.1, (p1.1.2.1.take p0.2.1.toNat ++ p1.1.2.1.drop (iwrap .i64 (p0.2.1 + 1)).toNat, p1.1.2.2)), p1.2)) fun r10 =>
          .ret (0, r10))
          (.ret (0, ((p1.1.1, (p1.1.2.1.take p0.2.1.toNat ++ p1.1.2.1.drop (iwrap .i64 (p0.2.1 + 1)).toNat, p1.1.2.2)), p1.2)))))
        (.cond (decide (p0.1 = 2))
         (.mat (comeI x2 p1) fun r11 =>
         .ret (0, r11))
         (.cond (decide (p0.1 = 3))
          (.mat (comeI x2 p1) fun r12 =>
          .ret (0, r12))
          (.ret (0, p1)))))
       (.cond (decide (p0.1 = 4))
        (.ite (0 ≤ p0.2.1 ∧ p0.2.1 < iwrap .i64 (p0.2.1 + 1) ∧ iwrap .i64 (p0.2.1 + 1) ≤ (p1.1.2.1.length : Int)) <|
        .cond (decide (p0.1 = 2))
         (.mat (comeI x2 ((p1.1.1, (p1.1.2.1.take p0.2.1.toNat ++ p1.1.2.1.drop (iwrap .i64 (p0.2.1 + 1)).toNat, p1.1.2.2)), p1.2)) fun r13 =>
         .ret (0, r13))
         (.cond (decide (p0.1 = 3))
          (.mat (comeI x2 ((p1.1.1, (p1.1.2.1.take p0.2.1.toNat ++ p1.1.2.1.drop (iwrap .i64 (p0.2.1 + 1)).toNat, p1.1.2.2)), p1.2)) fun r14 =>
          .ret (0, r14))
          (.ret (0, ((p1.1.1, (p1.1.2.1.take p0.2.1.toNat ++ p1.1.2.1.drop (iwrap .i64 (p0.2.1 + 1)).toNat, p1.1.2.2)), p1.2)))))
        (.cond (decide (p0.1 = 2))
         (.mat (comeI x2 p1) fun r15 =>
         .ret (0, r15))
         (.cond (decide (p0.1 = 3))
          (.mat (comeI x2 p1) fun r16 =>
          .ret (0, r16))
          (.ret (0, p1)))))))))
   (.ite (0 ≤ p0.2.1 ∧ p0.2.1 < (p1.1.2.1.length : Int)) <|
   .mat (p1.1.2.1[p0.2.1.toNat]?) fun x17 =>
   .cond (decide (p0.1 = 5))
    (.ite (0 ≤ p0.2.1 ∧ p0.2.1 < (p1.1.2.1.length : Int)) <|
    .mat (p1.1.2.1[p0.2.1.toNat]?) fun x18 =>
    let v19 := ixor .i64 x18.2.1 p0.2.2.1
    .ite (0 ≤ p0.2.1 ∧ p0.2.1 < (p1.1.2.1.length : Int)) <|
    .mat (p1.1.2.1[p0.2.1.toNat]?) fun x20 =>
    let v21 := p1.1.2.1.set p0.2.1.toNat (x20.1, (v19, x20.2.2))
    .cond (decide (p0.1 = 2))
     (.mat (comeI x17 ((p1.1.1, (v21, p1.1.2.2)), p1.2)) fun r22 =>
     .ret (0, r22))
     (.cond (decide (p0.1 = 3))
      (.mat (comeI x17 ((p1.1.1, (v21, p1.1.2.2)), p1.2)) fun r23 =>
      .ret (0, r23))
      (.ret (0, ((p1.1.1, (v21, p1.1.2.2)), p1.2)))))
    (.cond (decide (p0.1 = 2))
     (.cond (decide (p0.1 = 2))
      (.ite (0 ≤ p0.2.1 ∧ p0.2.1 < iwrap .i64 (p0.2.1 + 1) ∧ iwrap .i64 (p0.2.1 + 1) ≤ (p1.1.2.1.length : Int)) <|
      .cond (decide (p0.1 = 2))
       (.mat (comeI x17 ((p1.1.1, (p1.1.2.1.take p0.2.1.toNat ++ p1.1.2.1.drop (iwrap .i64 (p0.2.1 + 1)).toNat, p1.1.2.2)), p1.2)) fun r24 =>
       .ret (0, r24))
       (.cond (decide (p0.1 = 3))
        (.mat (comeI x17 ((p1.1.1, (p1.1.2.1.take p0.2.1.toNat ++ p1.1.2.1.drop (iwrap .i64 (p0.2.1 + 1)).toNat, p1.1.2.2)), p1.2)) fun r25 =>
        .ret (0, r25))
        (.ret (0, ((p1.1.1, (p1.1.2.1.take p0.2.1.toNat ++ p1.1.2.1.drop (iwrap .i64 (p0.2.1 + 1)).toNat, p1.1.2.2)), p1.2)))))
      (.cond (decide (p0.1 = 2))
       (.mat (comeI x17 p1) fun r26 =>
       .ret (0, r26))
       (.cond (decide (p0.1 = 3))
        (.mat (comeI x17 p1) fun r27 =>
        .ret (0, r27))
        (.ret (0, p1)))))
     (.cond (decide (p0.1 = 4))
      (.ite (0 ≤ p0.2.1 ∧ p0.2.1 < iwrap .i64 (p0.2.1 + 1) ∧ iwrap .i64 (p0.2.1 + 1) ≤ (p1.1.2.1.length : Int)) <|
      .cond (decide (p0.1 = 2))
       (.mat (comeI x17 ((p1.1.1, (p1.1.2.1.take p0.2.1.toNat ++ p1.1.2.1.drop (iwrap .i64 (p0.2.1 + 1)).toNat, p1.1.2.2)), p1.2)) fun r28 =>
       .ret (0, r28))
       (.cond (decide (p0.1 = 3))
        (.mat (comeI x17 ((p1.1.1, (p1.1.2.1.take p0.2.1.toNat ++ p1.1.2.1.drop (iwrap .i64 (p0.2.1 + 1)).toNat, p1.1.2.2)), p1.2)) fun r29 =>
        .ret (0, r29))
        (.ret (0, ((p1.1.1, (p1.1.2.1.take p0.2.1.toNat ++ p1.1.2.1.drop (iwrap .i64 (p0.2.1 + 1)).toNat, p1.1.2.2)), p1.2)))))
      (.cond (decide (p0.1 = 2))
       (.mat (comeI x17 p1) fun r30 =>
       .ret (0, r30))
       (.cond (decide (p0.1 = 3))
        (.mat (comeI x17 p1) fun r31 =>
        .ret (0, r31))
        (.ret (0, p1))))))))
noncomputable def i_works_handle_ba03_F (p0 : TDeed) (p1 : TWorks) : Option (Int × TWorks) := (i_works_handle_ba03 p0 p1).run some
noncomputable def handI (d : D8) (p : P8 × (G8 × Unit)) : Option (Int × (P8 × (G8 × Unit))) := askO (isG p.2.1 && vDeed d && inR d.1 2 5 && okP 1000 p.2.1 p.1) ((wireM p.2.1 d p.1).1, (wireM p.2.1 d p.1).2, p.2)
theorem okP_cut {k : Nat} {g : G8} {st : List (List Int × List Int × Unit)} {wi : List (Int × Int × Unit)} (i : Nat) (h : okP k g (st, wi, ()) = true) : okP k g (st, wi.take i ++ wi.drop (i + 1), ()) = true := by
 obtain ⟨l1, l2, l3, l4⟩ := okP_spec h
 refine okP_mk l1 l2 (by simp only [List.length_append, List.length_take, List.length_drop] at *; omega) (fun x hx => l4 x ?_)
 rcases List.mem_append.1 hx with hx | hx
 ·exact List.mem_of_mem_take hx
 ·exact List.mem_of_mem_drop hx
theorem i_works_handle_ba03_spec (p0 : D8) (p1 : P8 × (G8 × Unit)) (y : Int × (P8 × (G8 × Unit))) (h : handI p0 p1 = some y) : i_works_handle_ba03_F p0 p1 = some y := by
 obtain ⟨hok, rfl⟩ := askO_some h
 simp only [Bool.and_eq_true] at hok
 obtain ⟨⟨⟨hg, hd⟩, hk⟩, hp⟩ := hok
 obtain ⟨⟨a0, a1⟩, ⟨b0, b1⟩, ⟨c0, c1⟩, _⟩ := vDeed_rng hd
 have hp0 := hp
 obtain ⟨l1, l2, l3, l4⟩ := okP_spec hp
 obtain ⟨⟨st, wi, ⟨⟩⟩, ⟨g, ⟨⟩⟩⟩ := p1
 obtain ⟨kk, a, b, c, ⟨⟩⟩ := p0
 simp only at *
 have hc := colsG_le hg
 have hw : iwrap .i64 (g.1 + g.2.1) = (colsG g : Int) := by rw [hc.2]; have := isG_spec hg; exact iwrap_i64 (by omega) (by omega)
 unfold i_works_handle_ba03_F i_works_handle_ba03 wireM
 simp only
 by_cases h1 : a ≥ (wi.length : Int)
 ·simp only [Tre.run_cond, decide_eq_true h1, cond_true, Tre.run_ret]
 obtain ⟨i, rfl⟩ := Int.eq_ofNat_of_zero_le a0
 have hi : i < wi.length := by omega
 obtain ⟨x, hx⟩ : ∃ x, wi[i]? = some x := ⟨_, List.getElem?_eq_getElem hi⟩
 have hxx : okX g x = true := okX_of hp0 hx
 have hcome : comeI x ((st, wi, ()), (g, ())) = some ((comeM x st, wi, ()), (g, ())) := askO_true (by rw [Bool.and_eq_true, Bool.and_eq_true]; exact ⟨⟨hg, hxx⟩, hp0⟩)
 have hcome2 : comeI x ((st, wi.take i ++ wi.drop (i + 1), ()), (g, ())) = some ((comeM x st, wi.take i ++ wi.drop (i + 1), ()), (g, ())) := askO_true (by rw [Bool.and_eq_true, Bool.and_eq_true]; exact ⟨⟨hg, hxx⟩, okP_cut i hp0⟩)
 have hi1 : iwrap .i64 ((i : Int) + 1) = ((i + 1 : Nat) : Int) := iwrap_succ (by omega)
 have hin : 0 ≤ (i : Int) ∧ (i : Int) < (wi.length : Int) := ⟨a0, by omega⟩
 have hdel : 0 ≤ (i : Int) ∧ (i : Int) < ((i + 1 : Nat) : Int) ∧ ((i + 1 : Nat) : Int) ≤ (wi.length : Int) := by omega
 have hk : kk = 2 ∨ kk = 3 ∨ kk = 4 ∨ kk = 5 := by rw [inR_iff] at hk; omega
 rw [Tre.run_cond, decide_eq_false h1, cond_false, cond_false]
 simp only [Int.toNat_natCast, hx, hi1, hw]
 rcases hk with rfl | rfl | rfl | rfl
 ·rw [Tre.run_cond, show decide ((2 : Int) = 5) = false from rfl, show decide ((2 : Int) = 3) = false from rfl, show decide ((2 : Int) = 4) = false from rfl, show decide ((2 : Int) = 2) = true from rfl, cond_false, Tre.run_ite, if_pos hin, run_some_mat rfl, Tre.run_cond, cond_false, Tre.run_cond, cond_true, Tre.run_cond, cond_true, Tre.run_ite, if_pos hdel, Tre.run_cond, cond_true, run_some_mat hcome2]
  rfl
 ·rw [Tre.run_cond, show decide ((3 : Int) = 5) = false from rfl, show decide ((3 : Int) = 2) = false from rfl, show decide ((3 : Int) = 4) = false from rfl, show decide ((3 : Int) = 3) = true from rfl, cond_false, Tre.run_ite, if_pos hin, run_some_mat rfl, Tre.run_cond, cond_false, Tre.run_cond, cond_false, Tre.run_cond, cond_false, Tre.run_cond, cond_false, Tre.run_cond, cond_true, run_some_mat hcome]
  rfl
 ·rw [Tre.run_cond, show decide ((4 : Int) = 5) = false from rfl, show decide ((4 : Int) = 2) = false from rfl, show decide ((4 : Int) = 3) = false from rfl, show decide ((4 : Int) = 4) = true from rfl, cond_false, Tre.run_ite, if_pos hin, run_some_mat rfl, Tre.run_cond, cond_false, Tre.run_cond, cond_false, Tre.run_cond, cond_true, Tre.run_ite, if_pos hdel, Tre.run_cond, cond_false, Tre.run_cond, cond_false]
  rfl
 ·rw [Tre.run_cond, show decide ((5 : Int) = 5) = true from rfl, show decide ((5 : Int) = 2) = false from rfl, show decide ((5 : Int) = 3) = false from rfl, cond_true, Tre.run_cond]
  by_cases hb : b = 0
  ·simp only [decide_eq_true hb, cond_true, Tre.run_ret, Bool.true_or]
  ·rw [decide_eq_false hb, cond_false, Tre.run_ite, if_pos (by omega), Tre.run_cond]
   cases decide (b ≥ ishl .i64 1 (colsG g : Int))
   ·rw [cond_false, Tre.run_ite, if_pos hin, run_some_mat rfl, Tre.run_cond, cond_true, Tre.run_ite, if_pos hin, run_some_mat rfl]
    rw [Tre.run_ite, if_pos hin, run_some_mat rfl, Tre.run_cond, cond_false, Tre.run_cond, cond_false]
    rfl
   ·rfl
noncomputable def i_works_handle_ba03_V : Env := ⟨tau, [(116, i_size_Parcel_c), (118, i_works_comeIn_8e25_c), (117, slices_Delete_Parcel_bee3_c)], []⟩
noncomputable def i_works_handle_ba03_b : Code := (Try.f105.body).getD .skip
noncomputable def i_works_handle_ba03_I : FnI := ⟨i_works_handle_ba03_b, Try.f105.results.toList, Try.f105.resultTypes.toList, []⟩
noncomputable def i_works_handle_ba03_out (zp0 : Bool) (_p0 : TDeed) (_p1 : TWorks) : (Int × TWorks) → CallOut := fun r => ⟨(.imm true (.int .i64) r.1), [⟨true, kWorks, (.pair .own (.imm zp0)), r.2⟩], []⟩
set_option maxRecDepth 100000 in
theorem i_works_handle_ba03_eq : ∀ (zp0 : Bool) (p0 : TDeed) (p1 : TWorks), denFn i_works_handle_ba03_V i_works_handle_ba03_I ⟨[(.ptr (0, 0) []), (.imm true kDeed p0)], [⟨true, kWorks, (.pair .own (.imm zp0)), p1⟩]⟩ = (i_works_handle_ba03 p0 p1).run fun r => some (i_works_handle_ba03_out zp0 p0 p1 r) := fun _ _ _ => by kernel_rfl
noncomputable def i_works_handle_ba03_G (av : List AV) (rs : List Root) : Tre CallOut :=
 asCons av fun a0_ av0 =>
 asCons av0 fun a1_ av1 =>
 asEnd av1 <|
 asCons rs fun r0_ rs0 =>
 asEnd rs0 <|
 asPtr (0, 0) [] a0_ <|
 asImmZ true kDeed a1_ fun d1 =>
 asRt true kWorks r0_ fun m2 d3 =>
 asMPair m2 fun m4 m5 =>
 asM .own m4 <|
 asMImm m5 fun z6 =>
 .mat (handI d1 d3) fun r => .ret (i_works_handle_ba03_out z6 d1 d3 r)
noncomputable def i_works_handle_ba03_c : Ctr := ⟨[], fun ci => i_works_handle_ba03_G ci.args ci.roots⟩
theorem i_works_handle_ba03_env : EnvOK Try.prog i_works_handle_ba03_V := (envOK_cons i_size_Parcel_ok ent116 (envOK_cons i_works_comeIn_8e25_ok ent118 (envOK_cons slices_Delete_Parcel_bee3_ok ent117 envOK_nil)))
set_option maxRecDepth 100000 in
theorem i_works_handle_ba03_ok : Contract Try.prog 105 i_works_handle_ba03_c := by
 have hl : LoopsOK i_works_handle_ba03_V [] i_works_handle_ba03_b := loopsOK_nil (by kernel_rfl)
 refine (contract_of (F := i_works_handle_ba03_I) tau_tys i_works_handle_ba03_env Try.func105 (by kernel_rfl) (by kernel_rfl) (by kernel_rfl) hl []).weaken ?_
 rintro ⟨av, rs⟩ co h
 have h : (i_works_handle_ba03_G av rs).run some = some co := h
 obtain ⟨a0_, av0, rfl, h_0⟩ := asCons_spec h
 obtain ⟨a1_, av1, rfl, h_1⟩ := asCons_spec h_0
 obtain ⟨rfl, h_2⟩ := asEnd_spec h_1
 obtain ⟨r0_, rs0, rfl, h_3⟩ := asCons_spec h_2
 obtain ⟨rfl, h_4⟩ := asEnd_spec h_3
 obtain ⟨rfl, h_5⟩ := asPtr_spec h_4
 obtain ⟨d1, rfl, h_6⟩ := asImmZ_spec h_5
 obtain ⟨m2, d3, rfl, h_7⟩ := asRt_spec h_6
 obtain ⟨m4, m5, rfl, h_8⟩ := asMPair_spec h_7
 obtain ⟨rfl, h_9⟩ := asM_spec h_8
 obtain ⟨z6, rfl, h_10⟩ := asMImm_spec h_9
 exact fin_opt (i_works_handle_ba03_eq z6 d1 d3) (i_works_handle_ba03_spec d1 d3) h_10
end Go.Proofs.Ytddaclhjnkimfaa

namespace Go.Proofs.Ytddaclhjnkimfaa
open Go Go.Abs Go.Proofs
noncomputable def i_works_do_ba03 (p0 : TDeed) (p1 : TWorks) : Tre (Int × TWorks) :=
 .cond (decide (p0.1 = 1))
  (.mat (sendI p0 p1) fun r1 =>
  .ret (r1.1, r1.2))
  (.cond (decide (p0.1 = 2))
   (.cond (decide (p0.1 = 2))
    (.mat (handI p0 p1) fun r2 =>
    .ret (r2.1, r2.2))
    (let v3 := i_Gather_isStation_S p1.2.1 p0.2.1
    .cond (!v3)
     (.ret (2, p1))
     (.ite (0 ≤ p0.2.1 ∧ p0.2.1 < (p1.1.1.length : Int)) <|
     .cond (decide (p0.1 = 6))
      (.mat (p1.1.1[p0.2.1.toNat]?) fun _ =>
      .mat (p1.1.1[p0.2.1.toNat]?) fun x5 =>
      .mat (cloneR x5.1) fun r6 =>
      .mat (p1.1.1[p0.2.1.toNat]?) fun x7 =>
      let v8 := p1.1.1.set p0.2.1.toNat (x7.1, (r6, x7.2.2))
      .ret (0, ((v8, p1.1.2), p1.2)))
      (.cond (decide (p0.1 = 7))
       (.mat (p1.1.1[p0.2.1.toNat]?) fun _ =>
       .mat (p1.1.1[p0.2.1.toNat]?) fun x10 =>
       .mat (cloneR x10.2.1) fun r11 =>
       .mat (p1.1.1[p0.2.1.toNat]?) fun x12 =>
       let v13 := p1.1.1.set p0.2.1.toNat (r11, x12.2)
       .ret (0, ((v13, p1.1.2), p1.2)))
       (.cond (decide (p0.1 = 8))
        (.mat (p1.1.1[p0.2.1.toNat]?) fun x14 =>
        let v15 := p1.1.1.set p0.2.1.toNat ([], x14.2)
        .ret (0, ((v15, p1.1.2), p1.2)))
        (.ret (0, p1)))))))
   (.cond (decide (p0.1 = 3))
    (.cond (decide (p0.1 = 3))
     (.mat (handI p0 p1) fun r16 =>
     .ret (r16.1, r16.2))
     (let v17 := i_Gather_isStation_S p1.2.1 p0.2.1
     .cond (!v17)
      (.ret (2, p1))
      (.ite (0 ≤ p0.2.1 ∧ p0.2.1 < (p1.1.1.length : Int)) <|
      .cond (decide (p0.1 = 6))
       (.mat (p1.1.1[p0.2.1.toNat]?) fun _ =>
       .mat (p1.1.1[p0.2.1.toNat]?) fun x19 =>
       .mat (cloneR x19.1) fun r20 =>
       .mat (p1.1.1[p0.2.1.toNat]?) fun x21 =>
       let v22 := p1.1.1.set p0.2.1.toNat (x21.1, (r20, x21.2.2))
       .ret (0, ((v22, p1.1.2), p1.2)))
       (.cond (decide (p0.1 = 7))
        (.mat (p1.1.1[p0.2.1.toNat]?) fun _ =>
        .mat (p1.1.1[p0.2.1.toNat]?) fun x24 =>
        .mat (cloneR x24.2.1) fun r25 =>
        .mat (p1.1.1[p0.2.1.toNat]?) fun x26 =>
        let v27 := p1.1.1.set p0.2.1.toNat (r25, x26.2)
        .ret (0, ((v27, p1.1.2), p1.2)))
        (.cond (decide (p0.1 = 8))
         (.mat (p1.1.1[p0.2.1.toNat]?) fun x28 =>
         let v29 := p1.1.1.set p0.2.1.toNat ([], x28.2)
         .ret (0, ((v29, p1.1.2), p1.2)))
         (.ret (0, p1)))))))
    (.cond (decide (p0.1 = 4))
     (.cond (decide (p0.1 = 4))
      (.mat (handI p0 p1) fun r30 =>
      .ret (r30.1, r30.2))
      (let v31 := i_Gather_isStation_S p1.2.1 p0.2.1
      .cond (!v31)
       (.ret (2, p1))
       (.ite (0 ≤ p0.2.1 ∧ p0.2.1 < (p1.1.1.length : Int)) <|
       .cond (decide (p0.1 = 6))
        (.mat (p1.1.1[p0.2.1.toNat]?) fun _ =>
        .mat (p1.1.1[p0.2.1.toNat]?) fun x33 =>
        .mat (cloneR x33.1) fun r34 =>
        .mat (p1.1.1[p0.2.1.toNat]?) fun x35 =>
        let v36 := p1.1.1.set p0.2.1.toNat (x35.1, (r34, x35.2.2))
        .ret (0, ((v36, p1.1.2), p1.2)))
        (.cond (decide (p0.1 = 7))
         (.mat (p1.1.1[p0.2.1.toNat]?) fun _ =>
         .mat (p1.1.1[p0.2.1.toNat]?) fun x38 =>
         .mat (cloneR x38.2.1) fun r39 =>
         .mat (p1.1.1[p0.2.1.toNat]?) fun x40 =>
         let v41 := p1.1.1.set p0.2.1.toNat (r39, x40.2)
         .ret (0, ((v41, p1.1.2), p1.2)))
         (.cond (decide (p0.1 = 8))
          (.mat (p1.1.1[p0.2.1.toNat]?) fun x42 =>
          let v43 := p1.1.1.set p0.2.1.toNat ([], x42.2)
          .ret (0, ((v43, p1.1.2), p1.2)))
          (.ret (0, p1)))))))
     (.cond (decide (p0.1 = 5))
      (.mat (handI p0 p1) fun r44 =>
      .ret (r44.1, r44.2))
      (let v45 := i_Gather_isStation_S p1.2.1 p0.2.1
      .cond (!v45)
       (.ret (2, p1))
       (.ite (0 ≤ p0.2.1 ∧ p0.2.1 < (p1.1.1.length : Int)) <|
       .cond (decide (p0.1 = 6))
        (.mat (p1.1.1[p0.2.1.toNat]?) fun _ =>
        .mat (p1.1.1[p0.2.1.toNat]?) fun x47 =>
        .mat (cloneR x47.1) fun r48 =>
        .mat (p1.1.1[p0.2.1.toNat]?) fun x49 =>
        let v50 := p1.1.1.set p0.2.1.toNat (x49.1, (r48, x49.2.2))
        .ret (0, ((v50, p1.1.2), p1.2)))
        (.cond (decide (p0.1 = 7))
         (.mat (p1.1.1[p0.2.1.toNat]?) fun _ =>
         .mat (p1.1.1[p0.2.1.toNat]?) fun x52 =>
         .mat (cloneR x52.2.1) fun r53 =>
         .mat (p1.1.1[p0.2.1.toNat]?) fun x54 =>
         let v55 := p1.1.1.set p0.2.1.toNat (r53, x54.2)
         .ret (0, ((v55, p1.1.2), p1.2)))
         (.cond (decide (p0.1 = 8))
          (.mat (p1.1.1[p0.2.1.toNat]?) fun x56 =>
          let v57 := p1.1.1.set p0.2.1.toNat ([], x56.2)
          .ret (0, ((v57, p1.1.2), p1.2)))
          (.ret (0, p1))))))))))
noncomputable def i_works_do_ba03_F (p0 : TDeed) (p1 : TWorks) : Option (Int × TWorks) := (i_works_do_ba03 p0 p1).run some
noncomputable def doI (d : D8) (p : P8 × (G8 × Unit)) : Option (Int × (P8 × (G8 × Unit))) := askO (isG p.2.1 && vDeed d && okP 1000 p.2.1 p.1) ((doM p.2.1 d p.1).1, (doM p.2.1 d p.1).2, p.2)
theorem i_works_do_ba03_spec (p0 : D8) (p1 : P8 × (G8 × Unit)) (y : Int × (P8 × (G8 × Unit))) (h : doI p0 p1 = some y) : i_works_do_ba03_F p0 p1 = some y := by
 obtain ⟨hok, rfl⟩ := askO_some h
 have hsend : sendI p0 p1 = some _ := askO_true hok
 have hhand : inR p0.1 2 5 = true → handI p0 p1 = some _ := fun hk => askO_true (by
  simp only [Bool.and_eq_true] at hok ⊢
  exact ⟨⟨hok.1, hk⟩, hok.2⟩)
 simp only [Bool.and_eq_true] at hok
 obtain ⟨⟨hg, hd⟩, hp⟩ := hok
 obtain ⟨⟨a0, a1⟩, _, _, hk⟩ := vDeed_rng hd
 obtain ⟨l1, l2, l3, l4⟩ := okP_spec hp
 have hst : (!inR p0.2.1 0 (statG p1.2.1 - 1)) = decide (p0.2.1 ≥ (p1.1.1.length : Int)) := by
  unfold inR
  rw [decide_eq_true a0, Bool.true_and]
  by_cases h : p0.2.1 ≥ (p1.1.1.length : Int)
  ·rw [decide_eq_true h, decide_eq_false (by omega)]; rfl
  ·rw [decide_eq_false h, decide_eq_true (by omega)]; rfl
 obtain ⟨kk, a, b, c, ⟨⟩⟩ := p0
 unfold i_works_do_ba03_F i_works_do_ba03 doM
 simp only at *
 rw [isStation_S hg, hst]
 rcases kind_cases hk with rfl | rfl | rfl | rfl | rfl | rfl | rfl | rfl
 ·rw [Tre.run_cond, show decide ((1 : Int) = 1) = true from rfl, cond_true, run_some_mat hsend]; rfl
 ·simp only [Tre.run_cond, show decide ((2 : Int) = 1) = false from rfl, show decide ((2 : Int) = 2) = true from rfl, cond_true, cond_false]
  rw [run_some_mat (hhand rfl)]; rfl
 ·simp only [Tre.run_cond, show decide ((3 : Int) = 1) = false from rfl, show decide ((3 : Int) = 2) = false from rfl, show decide ((3 : Int) = 3) = true from rfl, cond_true, cond_false]
  rw [run_some_mat (hhand rfl)]; rfl
 ·simp only [Tre.run_cond, show decide ((4 : Int) = 1) = false from rfl, show decide ((4 : Int) = 2) = false from rfl, show decide ((4 : Int) = 3) = false from rfl, show decide ((4 : Int) = 4) = true from rfl, cond_true, cond_false]
  rw [run_some_mat (hhand rfl)]; rfl
 ·simp only [Tre.run_cond, show decide ((5 : Int) = 1) = false from rfl, show decide ((5 : Int) = 2) = false from rfl, show decide ((5 : Int) = 3) = false from rfl, show decide ((5 : Int) = 4) = false from rfl, show decide ((5 : Int) = 5) = true from rfl, cond_true, cond_false]
  rw [run_some_mat (hhand rfl)]; rfl
 all_goals
  simp only [Tre.run_cond, show decide ((6 : Int) = 1) = false from rfl, show decide ((6 : Int) = 2) = false from rfl, show decide ((6 : Int) = 3) = false from rfl, show decide ((6 : Int) = 4) = false from rfl, show decide ((6 : Int) = 5) = false from rfl, show decide ((6 : Int) = 6) = true from rfl, show inR 6 2 5 = false from rfl,
   show decide ((7 : Int) = 1) = false from rfl, show decide ((7 : Int) = 2) = false from rfl, show decide ((7 : Int) = 3) = false from rfl, show decide ((7 : Int) = 4) = false from rfl, show decide ((7 : Int) = 5) = false from rfl, show decide ((7 : Int) = 6) = false from rfl, show decide ((7 : Int) = 7) = true from rfl, show inR 7 2 5 = false from rfl,
   show decide ((8 : Int) = 1) = false from rfl, show decide ((8 : Int) = 2) = false from rfl, show decide ((8 : Int) = 3) = false from rfl, show decide ((8 : Int) = 4) = false from rfl, show decide ((8 : Int) = 5) = false from rfl, show decide ((8 : Int) = 6) = false from rfl, show decide ((8 : Int) = 7) = false from rfl, show inR 8 2 5 = false from rfl, cond_true, cond_false]
  by_cases h1 : a ≥ (p1.1.1.length : Int)
  ·rw [decide_eq_true h1]; rfl
  obtain ⟨i, rfl⟩ := Int.eq_ofNat_of_zero_le a0
  have hi : i < p1.1.1.length := by omega
  obtain ⟨s, hs⟩ : ∃ s, p1.1.1[i]? = some s := ⟨_, List.getElem?_eq_getElem hi⟩
  have hm := l2 s (List.mem_of_getElem? hs)
  have k1 := (okS_spec.1 hm.1).1
  have k2 := (okS_spec.1 hm.2).1
  have c1 : cloneR s.1 = some s.1 := lim_of (by omega)
  have c2 : cloneR s.2.1 = some s.2.1 := lim_of (by omega)
  rw [decide_eq_false h1, cond_false, cond_false]
  simp only [Int.toNat_natCast, hs]
  rw [Tre.run_ite, if_pos ⟨a0, by omega⟩]
  try simp only [decide_true]
 ·rw [Tre.run_cond, cond_true, run_some_mat rfl, run_some_mat rfl, run_some_mat c1, run_some_mat rfl]; rfl
 ·rw [Tre.run_cond, cond_false, Tre.run_cond, cond_true, run_some_mat rfl, run_some_mat rfl, run_some_mat c2, run_some_mat rfl]; rfl
 ·rw [Tre.run_cond, cond_false, Tre.run_cond, cond_false, Tre.run_cond, cond_true, run_some_mat rfl]; rfl
noncomputable def i_works_do_ba03_V : Env := ⟨tau, [(104, i_works_send_ba03_c), (105, i_works_handle_ba03_c), (78, i_Gather_isStation_c), (45, slices_Clone_int64_c)], []⟩
noncomputable def i_works_do_ba03_b : Code := (Try.f80.body).getD .skip
noncomputable def i_works_do_ba03_I : FnI := ⟨i_works_do_ba03_b, Try.f80.results.toList, Try.f80.resultTypes.toList, []⟩
noncomputable def i_works_do_ba03_out (zp0 : Bool) (_p0 : TDeed) (_p1 : TWorks) : (Int × TWorks) → CallOut := fun r => ⟨(.imm true (.int .i64) r.1), [⟨true, kWorks, (.pair .own (.imm zp0)), r.2⟩], []⟩
set_option maxRecDepth 100000 in
theorem i_works_do_ba03_eq : ∀ (zp0 : Bool) (p0 : TDeed) (p1 : TWorks), denFn i_works_do_ba03_V i_works_do_ba03_I ⟨[(.ptr (0, 0) []), (.imm true kDeed p0)], [⟨true, kWorks, (.pair .own (.imm zp0)), p1⟩]⟩ = (i_works_do_ba03 p0 p1).run fun r => some (i_works_do_ba03_out zp0 p0 p1 r) := fun _ _ _ => by kernel_rfl
noncomputable def i_works_do_ba03_G (av : List AV) (rs : List Root) : Tre CallOut :=
 asCons av fun a0_ av0 =>
 asCons av0 fun a1_ av1 =>
 asEnd av1 <|
 asCons rs fun r0_ rs0 =>
 asEnd rs0 <|
 asPtr (0, 0) [] a0_ <|
 asImmZ true kDeed a1_ fun d1 =>
 asRt true kWorks r0_ fun m2 d3 =>
 asMPair m2 fun m4 m5 =>
 asM .own m4 <|
 asMImm m5 fun z6 =>
 .mat (doI d1 d3) fun r => .ret (i_works_do_ba03_out z6 d1 d3 r)
noncomputable def i_works_do_ba03_c : Ctr := ⟨[], fun ci => i_works_do_ba03_G ci.args ci.roots⟩
theorem i_works_do_ba03_env : EnvOK Try.prog i_works_do_ba03_V := (envOK_cons i_works_send_ba03_ok ent104 (envOK_cons i_works_handle_ba03_ok ent105 (envOK_cons i_Gather_isStation_ok ent78 (envOK_cons slices_Clone_int64_ok ent45 envOK_nil))))
set_option maxRecDepth 100000 in
theorem i_works_do_ba03_ok : Contract Try.prog 80 i_works_do_ba03_c := by
 have hl : LoopsOK i_works_do_ba03_V [] i_works_do_ba03_b := loopsOK_nil (by kernel_rfl)
 refine (contract_of (F := i_works_do_ba03_I) tau_tys i_works_do_ba03_env Try.func80 (by kernel_rfl) (by kernel_rfl) (by kernel_rfl) hl []).weaken ?_
 rintro ⟨av, rs⟩ co h
 have h : (i_works_do_ba03_G av rs).run some = some co := h
 obtain ⟨a0_, av0, rfl, h_0⟩ := asCons_spec h
 obtain ⟨a1_, av1, rfl, h_1⟩ := asCons_spec h_0
 obtain ⟨rfl, h_2⟩ := asEnd_spec h_1
 obtain ⟨r0_, rs0, rfl, h_3⟩ := asCons_spec h_2
 obtain ⟨rfl, h_4⟩ := asEnd_spec h_3
 obtain ⟨rfl, h_5⟩ := asPtr_spec h_4
 obtain ⟨d1, rfl, h_6⟩ := asImmZ_spec h_5
 obtain ⟨m2, d3, rfl, h_7⟩ := asRt_spec h_6
 obtain ⟨m4, m5, rfl, h_8⟩ := asMPair_spec h_7
 obtain ⟨rfl, h_9⟩ := asM_spec h_8
 obtain ⟨z6, rfl, h_10⟩ := asMImm_spec h_9
 exact fin_opt (i_works_do_ba03_eq z6 d1 d3) (i_works_do_ba03_spec d1 d3) h_10
end Go.Proofs.Ytddaclhjnkimfaa

namespace Go.Proofs.Ytddaclhjnkimfaa
open Go Go.Abs Go.Proofs
noncomputable def i_after_l3 (h3_0_1 : (List TDeed)) (h3_0_2 : Int) : (Int × Int × TWorks) → Tre ((Int × Int × TWorks) ⊕ (Int × TWorks)) := fun s3 =>
 .cond (decide (s3.2.1 < h3_0_2))
  (.ite (0 ≤ s3.2.1 ∧ s3.2.1 < (h3_0_1.length : Int)) <|
  .mat (h3_0_1[s3.2.1.toNat]?) fun x2 =>
  .mat (doI x2 s3.2.2) fun r3 =>
  .cond (decide (r3.1 = 0))
   (.ret (.inl (iwrap .i64 (s3.1 + 1), iwrap .i64 (s3.2.1 + 1), r3.2)))
   (.ret (.inl (s3.1, iwrap .i64 (s3.2.1 + 1), r3.2))))
  (.ret (.inr (s3.1, s3.2.2)))
noncomputable def i_after (p0 : TGather) (p1 : (List TDeed)) : Tre (Int × TWorks) :=
 .mat (newR p0) fun r1 =>
 .mat (loopF (i_after_l3 p1 (p1.length : Int)) (0, 0, r1)) fun l4 =>
 .ret (l4.1, l4.2)
noncomputable def i_after_F (p0 : TGather) (p1 : (List TDeed)) : Option (Int × TWorks) := (i_after p0 p1).run some
def zerosN (cs : List Int) : Nat := cs.countP fun c => decide (c = 0)
noncomputable def afterR (g : G8) (ds : List D8) : Option (Int × (P8 × (G8 × Unit))) := askO (isG g && ds.all vDeed && decide (ds.length ≤ 300)) ((zerosN (runM g ds (beginM g)).2 : Int), (afterM g ds, (g, ())))
theorem foldE_after (g : G8) : ∀ (l : List D8) (i n : Nat) (p : P8), foldE (β := Int × (P8 × (G8 × Unit))) (fun (_ : Nat) (acc : Int × (P8 × (G8 × Unit))) d => .inl (cond (decide ((doM g d acc.2.1).1 = 0)) (acc.1 + 1) acc.1, (doM g d acc.2.1).2, acc.2.2)) id i ((n : Int), p, g, ()) l = (((n + zerosN (runM g l p).2 : Nat) : Int), (runM g l p).1, g, ()) := by
 intro l
 induction l with
 | nil => intro i n p; simp [foldE, runM, zerosN]
 | cons d l ih =>
  intro i n p
  simp only [foldE, runM]
  have hz : zerosN ((doM g d p).1 :: (runM g l (doM g d p).2).2) = zerosN (runM g l (doM g d p).2).2 + cond (decide ((doM g d p).1 = 0)) 1 0 := by
   unfold zerosN
   rw [List.countP_cons]
   cases decide ((doM g d p).1 = 0) <;> rfl
  rw [hz]
  cases decide ((doM g d p).1 = 0)
  ·exact ih (i + 1) n _
  ·have := ih (i + 1) (n + 1) (doM g d p).2
   rw [show ((n + 1 : Nat) : Int) = (n : Int) + 1 from by omega] at this
   simp only [cond_true]
   rw [this]
   congr 2
   omega
theorem i_after_spec (p0 : G8) (p1 : List D8) (y : Int × (P8 × (G8 × Unit))) (h : afterR p0 p1 = some y) : i_after_F p0 p1 = some y := by
 obtain ⟨hok, rfl⟩ := askO_some h
 simp only [Bool.and_eq_true, decide_eq_true_eq] at hok
 obtain ⟨⟨hg, hd⟩, hl⟩ := hok
 unfold i_after_F i_after
 rw [run_some_mat (show newR p0 = some _ from askO_true hg)]
 have := fold_loop (xs := p1) (step := i_after_l3 p1 (p1.length : Int)) (fun i acc => (acc.1, (i : Int), acc.2)) (fun (_ : Nat) (acc : Int × (P8 × (G8 × Unit))) d => .inl (cond (decide ((doM p0 d acc.2.1).1 = 0)) (acc.1 + 1) acc.1, (doM p0 d acc.2.1).2, acc.2.2)) id (fun i acc => acc.2.2 = (p0, ()) ∧ okP (4 + i) p0 acc.2.1 = true ∧ 0 ≤ acc.1 ∧ acc.1 ≤ (i : Int)) (by
  rintro i ⟨n, ⟨p, ⟨g, ⟨⟩⟩⟩⟩ x hx ⟨hI, hI2, hn0, hn1⟩
  cases hI
  have hi : i < p1.length := (List.getElem?_eq_some_iff.1 hx).1
  have hv : vDeed x = true := List.all_eq_true.1 hd x (List.mem_of_getElem? hx)
  simp only at hn0 hn1
  constructor
  ·unfold i_after_l3
   dsimp only
   rw [run_inb hx, run_some_mat (show doI x (p, p0, ()) = some _ from askO_true (by
    rw [Bool.and_eq_true, Bool.and_eq_true]; exact ⟨⟨hg, hv⟩, okP_mono hI2 (by omega)⟩)), Tre.run_cond]
   dsimp only
   rw [iwrap_succ (by omega)]
   cases decide ((doM p0 x p).1 = 0)
   ·rfl
   ·rw [cond_true, cond_true, Tre.run_ret, iwrap_i64 (by omega) (by omega)]
  ·intro a ha
   cases ha
   refine ⟨rfl, doM_ok hg hv hI2, ?_, ?_⟩
   ·show 0 ≤ cond (decide ((doM p0 x p).1 = 0)) (n + 1) n
    cases decide ((doM p0 x p).1 = 0)
    ·exact hn0
    ·rw [cond_true]; omega
   ·show cond (decide ((doM p0 x p).1 = 0)) (n + 1) n ≤ ((i + 1 : Nat) : Int)
    cases decide ((doM p0 x p).1 = 0)
    ·rw [cond_false]; omega
    ·rw [cond_true]; omega)
  (by
  intro acc _
  unfold i_after_l3
  exact run_out) p1 0 (0, beginM p0, p0, ()) rfl (Nat.zero_le _) ⟨rfl, beginM_ok hg, Int.le_refl _, Int.le_refl _⟩
 have h0 := foldE_after p0 p1 0 0 (beginM p0)
 rw [Nat.zero_add] at h0
 have h1 : loopF (i_after_l3 p1 (p1.length : Int)) (0, 0, (beginM p0, p0, ())) = some ((zerosN (runM p0 p1 (beginM p0)).2 : Int), ((runM p0 p1 (beginM p0)).1, p0, ())) := this.trans (congrArg some h0)
 rw [run_some_mat h1]
 rfl
noncomputable def i_after_V : Env := ⟨tau, [(79, i_newWorks_c), (80, i_works_do_ba03_c)], []⟩
noncomputable def i_after_b : Code := (Try.f41.body).getD .skip
noncomputable def i_after_l3_mk (z3_0 : Bool) (z3_1 : Bool) (h3_0_1 : (List TDeed)) (h3_0_2 : Int) : (Int × Int × TWorks) → St := fun x => stOf [(6, (.ptr (13, 0) [])), (7, (.imm true (.int .i64) x.1)), (12, (.imm z3_0 (.sl kDeed) h3_0_1)), (13, (.imm true (.int .i64) h3_0_2)), (14, (.imm true (.int .i64) x.2.1))] [((13, 0), some ⟨true, kWorks, (.pair .own (.imm z3_1)), x.2.2⟩)]
noncomputable def i_after_l3_out (_z3_0 : Bool) (z3_1 : Bool) (_h3_0_1 : (List TDeed)) (_h3_0_2 : Int) : (Int × TWorks) → Ex × St := fun x => (.exit 0, stOf [(6, (.ptr (13, 0) [])), (7, (.imm true (.int .i64) x.1))] [((13, 0), some ⟨true, kWorks, (.pair .own (.imm z3_1)), x.2⟩)])
noncomputable def i_after_l3_D (s : St) : Tre (Ex × St) :=
 asPtr (13, 0) [] (s.tmps 6) <|
 asImmZ true (.int .i64) (s.tmps 7) fun d3 =>
 asImm (.sl kDeed) (s.tmps 12) fun z6 d5 =>
 asImmZ true (.int .i64) (s.tmps 13) fun d8 =>
 asImmZ true (.int .i64) (s.tmps 14) fun d10 =>
 asRoot true kWorks (s.roots (13, 0)) fun m12 d13 =>
 asMPair m12 fun m14 m15 =>
 asM .own m14 <|
 asMImm m15 fun z16 =>
 .mat (loopF (i_after_l3 d5 d8) (d3, d10, d13)) fun x => .ret (i_after_l3_out z6 z16 d5 d8 x)
noncomputable def i_after_l3_L : LoopI := ⟨([6, 7, 12, 13, 14], [(13, 0)]), ([6, 7], [(13, 0)]), i_after_l3_D⟩
noncomputable def i_after_A : List (Nat × LoopI) := [(3, i_after_l3_L)]
set_option maxRecDepth 100000 in
theorem i_after_l3_step : ∀ (z3_0 : Bool) (z3_1 : Bool) (h3_0_1 : (List TDeed)) (h3_0_2 : Int) (x : (Int × Int × TWorks)) (c : St → Option (Ex × St)), den i_after_V i_after_A (loopAt i_after_b 0) (i_after_l3_mk z3_0 z3_1 h3_0_1 h3_0_2 x) (roundK i_after_l3_L.kp i_after_l3_L.kx c) = (i_after_l3 h3_0_1 h3_0_2 x).run (roundR (i_after_l3_mk z3_0 z3_1 h3_0_1 h3_0_2) (i_after_l3_out z3_0 z3_1 h3_0_1 h3_0_2) c) := fun _ _ _ _ _ _ => by
 kernel_rfl
theorem i_after_l3_ok : LoopOK i_after_V i_after_A (loopAt i_after_b 0) i_after_l3_L := loopOK_of fun s e s' h => by
 generalize hs : restrict i_after_l3_L.kp s = s1 at h
 have h : (i_after_l3_D s1).run some = some (e, s') := h
 obtain ⟨e1, h_0⟩ := asPtr_spec h
 obtain ⟨d3, e2, h_1⟩ := asImmZ_spec h_0
 obtain ⟨z6, d5, e4, h_2⟩ := asImm_spec h_1
 obtain ⟨d8, e7, h_3⟩ := asImmZ_spec h_2
 obtain ⟨d10, e9, h_4⟩ := asImmZ_spec h_3
 obtain ⟨m12, d13, e11, h_5⟩ := asRoot_spec h_4
 obtain ⟨m14, m15, rfl, h_6⟩ := asMPair_spec h_5
 obtain ⟨rfl, h_7⟩ := asM_spec h_6
 obtain ⟨z16, rfl, h_8⟩ := asMImm_spec h_7
 obtain ⟨y, hy, hz⟩ := mat_ret h_8
 refine ⟨_, _, i_after_l3_mk z6 z16 d5 d8, i_after_l3_out z6 z16 d5 d8, i_after_l3 d5 d8, (d3, d10, d13), y, ?_, hy, ?_, i_after_l3_step z6 z16 d5 d8⟩
 ·subst hs; exact restrict_eq (T := [(6, (.ptr (13, 0) [])), (7, (.imm true (.int .i64) d3)), (12, (.imm z6 (.sl kDeed) d5)), (13, (.imm true (.int .i64) d8)), (14, (.imm true (.int .i64) d10))]) (U := [((13, 0), some ⟨true, kWorks, (.pair .own (.imm z16)), d13⟩)]) rfl rfl ⟨e1, e2, e4, e7, e9, trivial⟩ ⟨e11, trivial⟩
 ·exact Option.some.inj hz
noncomputable def i_after_I : FnI := ⟨i_after_b, Try.f41.results.toList, Try.f41.resultTypes.toList, i_after_A⟩
noncomputable def i_after_out (zp0 : Bool) (_zp1 : Bool) (_p0 : TGather) (_p1 : (List TDeed)) : (Int × TWorks) → CallOut := fun r => ⟨(.tcons (.ptr (1, 0) []) (.tcons (.imm true (.int .i64) r.1) .tnil)), [], [⟨true, kWorks, (.pair .own (.imm zp0)), r.2⟩]⟩
set_option maxRecDepth 100000 in
theorem i_after_eq : ∀ (zp0 : Bool) (zp1 : Bool) (p0 : TGather) (p1 : (List TDeed)), denFn i_after_V i_after_I ⟨[(.imm zp0 kGather p0), (.imm zp1 (.sl kDeed) p1)], []⟩ = (i_after p0 p1).run fun r => some (i_after_out zp0 zp1 p0 p1 r) := fun _ _ _ _ => by kernel_rfl
noncomputable def i_after_G (av : List AV) (rs : List Root) : Tre CallOut :=
 asCons av fun a0_ av0 =>
 asCons av0 fun a1_ av1 =>
 asEnd av1 <|
 asEnd rs <|
 asImm kGather a0_ fun z2 d1 =>
 asImm (.sl kDeed) a1_ fun z4 d3 =>
 .mat (afterR d1 d3) fun r => .ret (i_after_out z2 z4 d1 d3 r)
noncomputable def i_after_c : Ctr := ⟨[], fun ci => i_after_G ci.args ci.roots⟩
theorem i_after_env : EnvOK Try.prog i_after_V := (envOK_cons i_newWorks_ok ent79 (envOK_cons i_works_do_ba03_ok ent80 envOK_nil))
set_option maxRecDepth 100000 in
theorem i_after_ok : Contract Try.prog 41 i_after_c := by
 have hl : LoopsOK i_after_V i_after_A i_after_b := (loopsOK_all (n := 1) (by kernel_rfl) fun k hk => by
   match k, hk with
   | 0, _ => exact loopOK_at (id := 3) (L := i_after_l3_L) (by kernel_rfl) (by kernel_rfl) i_after_l3_ok)
 refine (contract_of (F := i_after_I) tau_tys i_after_env Try.func41 (by kernel_rfl) (by kernel_rfl) (by kernel_rfl) hl []).weaken ?_
 rintro ⟨av, rs⟩ co h
 have h : (i_after_G av rs).run some = some co := h
 obtain ⟨a0_, av0, rfl, h_0⟩ := asCons_spec h
 obtain ⟨a1_, av1, rfl, h_1⟩ := asCons_spec h_0
 obtain ⟨rfl, h_2⟩ := asEnd_spec h_1
 obtain ⟨rfl, h_3⟩ := asEnd_spec h_2
 obtain ⟨z2, d1, rfl, h_4⟩ := asImm_spec h_3
 obtain ⟨z4, d3, rfl, h_5⟩ := asImm_spec h_4
 exact fin_opt (i_after_eq z2 z4 d1 d3) (i_after_spec d1 d3) h_5
end Go.Proofs.Ytddaclhjnkimfaa

namespace Go.Proofs.Ytddaclhjnkimfaa
open Go Go.Abs Go.Proofs
noncomputable def slices_Clone_Parcel_b930 : Tre (List (Int × (Int × Unit))) :=
 .ret []
noncomputable def slices_Clone_Parcel_b930_F : Option (List (Int × (Int × Unit))) := (slices_Clone_Parcel_b930).run some
theorem slices_Clone_Parcel_b930_spec : slices_Clone_Parcel_b930_F = some [] := rfl
noncomputable def slices_Clone_Parcel_b930_V : Env := ⟨tau, [], []⟩
noncomputable def slices_Clone_Parcel_b930_b : Code := (Try.f59.body).getD .skip
noncomputable def slices_Clone_Parcel_b930_I : FnI := ⟨slices_Clone_Parcel_b930_b, Try.f59.results.toList, Try.f59.resultTypes.toList, []⟩
noncomputable def slices_Clone_Parcel_b930_out : (List (Int × (Int × Unit))) → CallOut := fun r => ⟨(.ref (1, 0) []), [], [⟨false, (.sl kField), .own, r⟩]⟩
set_option maxRecDepth 100000 in
theorem slices_Clone_Parcel_b930_eq : denFn slices_Clone_Parcel_b930_V slices_Clone_Parcel_b930_I ⟨[.nil], []⟩ = (slices_Clone_Parcel_b930).run fun r => some (slices_Clone_Parcel_b930_out r) := by kernel_rfl
noncomputable def slices_Clone_Parcel_b930_G (av : List AV) (rs : List Root) : Tre CallOut :=
 asCons av fun a0_ av0 =>
 asEnd av0 <|
 asEnd rs <|
 asNil a0_ <|
 .ret (slices_Clone_Parcel_b930_out [])
noncomputable def slices_Clone_Parcel_b930_c : Ctr := ⟨[], fun ci => slices_Clone_Parcel_b930_G ci.args ci.roots⟩
theorem slices_Clone_Parcel_b930_env : EnvOK Try.prog slices_Clone_Parcel_b930_V := envOK_nil
set_option maxRecDepth 100000 in
theorem slices_Clone_Parcel_b930_ok : Contract Try.prog 59 slices_Clone_Parcel_b930_c := by
 have hl : LoopsOK slices_Clone_Parcel_b930_V [] slices_Clone_Parcel_b930_b := loopsOK_nil (by kernel_rfl)
 refine (contract_of (F := slices_Clone_Parcel_b930_I) tau_tys slices_Clone_Parcel_b930_env Try.func59 (by kernel_rfl) (by kernel_rfl) (by kernel_rfl) hl []).weaken ?_
 rintro ⟨av, rs⟩ co h
 have h : (slices_Clone_Parcel_b930_G av rs).run some = some co := h
 obtain ⟨a0_, av0, rfl, h_0⟩ := asCons_spec h
 obtain ⟨rfl, h_1⟩ := asEnd_spec h_0
 obtain ⟨rfl, h_2⟩ := asEnd_spec h_1
 obtain ⟨rfl, h_3⟩ := asNil_spec h_2
 exact fin_ret (slices_Clone_Parcel_b930_eq) (slices_Clone_Parcel_b930_spec) h_3
end Go.Proofs.Ytddaclhjnkimfaa

namespace Go.Proofs.Ytddaclhjnkimfaa
open Go Go.Abs Go.Proofs
noncomputable def slices_Clone_Parcel_3ae6 (p0 : (List (Int × (Int × Unit)))) : Tre (List (Int × (Int × Unit))) :=
 .ite ((0 + p0.length) * 16 ≤ appendMax ∧ 1 ≤ 16) <|
 .ret ([] ++ p0)
noncomputable def slices_Clone_Parcel_3ae6_F (p0 : (List (Int × (Int × Unit)))) : Option (List (Int × (Int × Unit))) := (slices_Clone_Parcel_3ae6 p0).run some
theorem slices_Clone_Parcel_3ae6_spec (p0 : (List (Int × (Int × Unit)))) (y : (List (Int × (Int × Unit)))) (h : cloneR p0 = some y) : slices_Clone_Parcel_3ae6_F p0 = some y := by
 obtain ⟨hl, rfl⟩ := lim_some h
 have hb : (0 + p0.length) * 16 ≤ appendMax ∧ 1 ≤ 16 := by unfold appendMax; omega
 unfold slices_Clone_Parcel_3ae6_F slices_Clone_Parcel_3ae6
 rw [Tre.run_ite, if_pos hb]
 rfl
noncomputable def slices_Clone_Parcel_3ae6_V : Env := ⟨tau, [], []⟩
noncomputable def slices_Clone_Parcel_3ae6_b : Code := (Try.f59.body).getD .skip
noncomputable def slices_Clone_Parcel_3ae6_I : FnI := ⟨slices_Clone_Parcel_3ae6_b, Try.f59.results.toList, Try.f59.resultTypes.toList, []⟩
noncomputable def slices_Clone_Parcel_3ae6_out (_zp0 : Bool) (_p0 : (List (Int × (Int × Unit)))) : (List (Int × (Int × Unit))) → CallOut := fun r => ⟨(.ref (1, 0) []), [], [⟨false, (.sl kField), .own, r⟩]⟩
set_option maxRecDepth 100000 in
theorem slices_Clone_Parcel_3ae6_eq : ∀ (zp0 : Bool) (p0 : (List (Int × (Int × Unit)))), denFn slices_Clone_Parcel_3ae6_V slices_Clone_Parcel_3ae6_I ⟨[(.nn zp0 kField p0)], []⟩ = (slices_Clone_Parcel_3ae6 p0).run fun r => some (slices_Clone_Parcel_3ae6_out zp0 p0 r) := fun _ _ => by kernel_rfl
noncomputable def slices_Clone_Parcel_3ae6_G (av : List AV) (rs : List Root) : Tre CallOut :=
 asCons av fun a0_ av0 =>
 asEnd av0 <|
 asEnd rs <|
 asNn kField a0_ fun z1 d2 =>
 .mat (cloneR d2) fun r => .ret (slices_Clone_Parcel_3ae6_out z1 d2 r)
noncomputable def slices_Clone_Parcel_3ae6_c : Ctr := ⟨[], fun ci => slices_Clone_Parcel_3ae6_G ci.args ci.roots⟩
theorem slices_Clone_Parcel_3ae6_env : EnvOK Try.prog slices_Clone_Parcel_3ae6_V := envOK_nil
set_option maxRecDepth 100000 in
theorem slices_Clone_Parcel_3ae6_ok : Contract Try.prog 59 slices_Clone_Parcel_3ae6_c := by
 have hl : LoopsOK slices_Clone_Parcel_3ae6_V [] slices_Clone_Parcel_3ae6_b := loopsOK_nil (by kernel_rfl)
 refine (contract_of (F := slices_Clone_Parcel_3ae6_I) tau_tys slices_Clone_Parcel_3ae6_env Try.func59 (by kernel_rfl) (by kernel_rfl) (by kernel_rfl) hl []).weaken ?_
 rintro ⟨av, rs⟩ co h
 have h : (slices_Clone_Parcel_3ae6_G av rs).run some = some co := h
 obtain ⟨a0_, av0, rfl, h_0⟩ := asCons_spec h
 obtain ⟨rfl, h_1⟩ := asEnd_spec h_0
 obtain ⟨rfl, h_2⟩ := asEnd_spec h_1
 obtain ⟨z1, d2, rfl, h_3⟩ := asNn_spec h_2
 exact fin_opt (slices_Clone_Parcel_3ae6_eq z1 d2) (slices_Clone_Parcel_3ae6_spec d2) h_3
end Go.Proofs.Ytddaclhjnkimfaa

namespace Go.Proofs.Ytddaclhjnkimfaa
open Go Go.Abs Go.Proofs
theorem slices_Clone_Parcel_nil (y : (List (Int × (Int × Unit)))) (h : cloneR ([] : (List (Int × (Int × Unit)))) = some y) : y = [] := (lim_some h).2.symm
noncomputable def slices_Clone_Parcel_G (av : List AV) (rs : List Root) : Tre CallOut :=
 asCons av fun a0_ av0 =>
 asEnd av0 <|
 asEnd rs <|
 asImm (.sl kField) a0_ fun z2 d1 =>
 .mat (cloneR d1) fun r => .ret ⟨(.ref (1, 0) []), [], [⟨false, (.sl kField), .own, r⟩]⟩
noncomputable def slices_Clone_Parcel_c : Ctr := ⟨[], fun ci => slices_Clone_Parcel_G ci.args ci.roots⟩
theorem slices_Clone_Parcel_ok : Contract Try.prog 59 slices_Clone_Parcel_c := by
 refine contract_nil (e := kField) slices_Clone_Parcel_b930_ok slices_Clone_Parcel_3ae6_ok ?_
 rintro ⟨av, rs⟩ co h
 have h : (slices_Clone_Parcel_G av rs).run some = some co := h
 obtain ⟨a0_, av0, rfl, h_0⟩ := asCons_spec h
 obtain ⟨rfl, h_1⟩ := asEnd_spec h_0
 obtain ⟨rfl, h_2⟩ := asEnd_spec h_1
 obtain ⟨z2, d1, rfl, h_3⟩ := asImm_spec h_2
 refine ⟨z2, d1, rfl, ?_, ?_⟩
 ·exact h_3
 ·rintro rfl
  obtain ⟨y, h1, h2⟩ := mat_ret h_3
  have hy : y = [] := by
   have := slices_Clone_Parcel_nil y h1
   exact this
  subst hy
  rw [← h2]; rfl
end Go.Proofs.Ytddaclhjnkimfaa

namespace Go.Proofs.Ytddaclhjnkimfaa
open Go Go.Abs Go.Proofs
noncomputable def i_PlantAfter_l7 (h7_0_1 : Int) (h7_0_5 : TWorks) : (Int × TPlant) → Tre ((Int × TPlant) ⊕ TPlant) := fun s7 =>
 .cond (decide (s7.1 < h7_0_1))
  (.ite (0 ≤ s7.1 ∧ s7.1 < (h7_0_5.1.1.length : Int)) <|
  .mat (h7_0_5.1.1[s7.1.toNat]?) fun x4 =>
  .mat (cloneR x4.1) fun r5 =>
  .mat (cloneR x4.2.1) fun r6 =>
  .ite ((s7.2.1.length + 1) * 48 ≤ appendMax ∧ 1 ≤ 48) <|
  let v7 := s7.2.1 ++ ([(r5, (r6, ()))])
  .ret (.inl (iwrap .i64 (s7.1 + 1), (v7, s7.2.2))))
  (.ret (.inr s7.2))
noncomputable def i_PlantAfter (p0 : TGather) (p1 : (List TDeed)) : Tre (Int × Int × (List TStation) × (List (Int × (Int × Unit)))) :=
 .mat (codeR p0 p1 0) fun r1 =>
 .cond (!decide (r1 = 0))
  (.ret (0, r1, [], []))
  (.mat (afterR p0 p1) fun r2 =>
  .mat (cloneR r2.2.1.2.1) fun r3 =>
  .mat (loopF (i_PlantAfter_l7 (r2.2.1.1.length : Int) r2.2) (0, ([], (r3, ())))) fun l8 =>
  .ret (r2.1, 0, l8.1, l8.2.1))
noncomputable def i_PlantAfter_F (p0 : TGather) (p1 : (List TDeed)) : Option (Int × Int × (List TStation) × (List (Int × (Int × Unit)))) := (i_PlantAfter p0 p1).run some
noncomputable def plantM (g : G8) (ds : List D8) : Int × Int × List (List Int × List Int × Unit) × List (Int × Int × Unit) :=
 cond (decide (askedM ds g = 0)) ((zerosN (runM g ds (beginM g)).2 : Int), 0, (afterM g ds).1, (afterM g ds).2.1) (0, askedM ds g, [], [])
noncomputable def plantR (g : G8) (ds : List D8) : Option (Int × Int × List (List Int × List Int × Unit) × List (Int × Int × Unit)) := askO (decide (g.2.2.1.length ≤ 1048576) && decide (ds.length ≤ 1048576)) (plantM g ds)
theorem plant_copy {p : P8 × (G8 × Unit)} {k : Nat} {g : G8} (hp : okP k g p.1 = true) (hk : k ≤ 1048576) (hn : p.1.1.length ≤ 1000) (w : List (Int × Int × Unit) × Unit) : loopF (i_PlantAfter_l7 (p.1.1.length : Int) p) (0, ([], w)) = some (p.1.1, w) := by
 have := fold_loop (xs := p.1.1) (step := i_PlantAfter_l7 (p.1.1.length : Int) p) (fun i acc => ((i : Int), acc)) (fun (_ : Nat) acc x => .inl (acc.1 ++ [x], acc.2)) id (fun i acc => acc.1.length = i) (by
  rintro i ⟨l, w⟩ ⟨x1, x2, ⟨⟩⟩ hx hI
  have hi : i < p.1.1.length := (List.getElem?_eq_some_iff.1 hx).1
  have hm := (okP_spec hp).2.1 _ (List.mem_of_getElem? hx)
  have h1 := (okS_spec.1 hm.1).1
  have h2 := (okS_spec.1 hm.2).1
  simp only at h1 h2 hI
  refine ⟨?_, fun a ha => by cases ha; simp [hI]⟩
  unfold i_PlantAfter_l7
  rw [run_inb hx, run_some_mat (show cloneR x1 = some x1 from lim_of (by omega)), run_some_mat (show cloneR x2 = some x2 from lim_of (by omega)), Tre.run_ite, if_pos (by simp only; unfold appendMax; omega), Tre.run_ret, iwrap_succ (by omega)])
  (by
  intro acc _
  unfold i_PlantAfter_l7
  exact run_out) p.1.1 0 ([], w) rfl (Nat.zero_le _) rfl
 have hf : ∀ (l : List (List Int × List Int × Unit)) (i : Nat) (acc : List (List Int × List Int × Unit) × (List (Int × Int × Unit) × Unit)), foldE (β := List (List Int × List Int × Unit) × (List (Int × Int × Unit) × Unit)) (fun (_ : Nat) acc x => .inl (acc.1 ++ [x], acc.2)) id i acc l = (acc.1 ++ l, acc.2) := by
  intro l
  induction l with
  | nil => intro i acc; simp [foldE]
  | cons x l ih => intro i acc; simp only [foldE]; rw [ih]; simp
 rw [hf] at this
 exact this
theorem i_PlantAfter_spec (p0 : G8) (p1 : List D8) (y : Int × Int × List (List Int × List Int × Unit) × List (Int × Int × Unit)) (h : plantR p0 p1 = some y) : i_PlantAfter_F p0 p1 = some y := by
 obtain ⟨hok, rfl⟩ := askO_some h
 unfold i_PlantAfter_F i_PlantAfter plantM
 rw [run_some_mat (show codeR p0 p1 0 = some _ from askO_true hok), Tre.run_cond, codeM_zero]
 by_cases h0 : askedM p1 p0 = 0
 ·obtain ⟨hg, hd, hl⟩ := askedM_zero h0
  have hb := isG_spec hg
  have hP := afterM_ok hg hd hl
  obtain ⟨q1, q2, q3, q4⟩ := okP_spec hP
  have hst : statG p0 = 1 + p0.2.2.2.1 + p0.2.2.2.2.1 := rfl
  rw [decide_eq_true h0, Bool.not_true, cond_false, cond_true, run_some_mat (show afterR p0 p1 = some _ from askO_true (by rw [Bool.and_eq_true, Bool.and_eq_true, decide_eq_true_eq]; exact ⟨⟨hg, hd⟩, hl⟩))]
  dsimp only
  rw [run_some_mat (show cloneR (afterM p0 p1).2.1 = some _ from lim_of (by omega)), run_some_mat (plant_copy (p := (afterM p0 p1, (p0, ()))) hP (by omega) (by show (afterM p0 p1).1.length ≤ 1000; omega) _)]
  rfl
 ·rw [decide_eq_false h0]; rfl
noncomputable def i_PlantAfter_V : Env := ⟨tau, [(40, i_deedsCode_c), (41, i_after_c), (59, slices_Clone_Parcel_c), (45, slices_Clone_int64_c)], [(6, [((25, 0), [.fst, .fst], true)])]⟩
noncomputable def i_PlantAfter_b : Code := (Try.f26.body).getD .skip
noncomputable def i_PlantAfter_l7_mk (z7_0 : Bool) (h7_0_0 : Int) (h7_0_1 : Int) (h7_0_3 : TPlant) (h7_0_5 : TWorks) : (Int × TPlant) → St := fun x => stOf [(4, (.ptr (6, 0) [])), (9, (.imm true (.int .i64) h7_0_0)), (10, (.ptr (12, 0) [])), (37, (.ref (25, 0) [.fst, .fst])), (38, (.imm true (.int .i64) h7_0_1)), (39, (.imm true (.int .i64) x.1))] [((6, 0), some ⟨true, kPlant, .own, h7_0_3⟩), ((12, 0), some ⟨true, kPlant, .own, x.2⟩), ((25, 0), some ⟨true, kWorks, (.pair (.pair (.sl (.imm true)) .own) (.imm z7_0)), h7_0_5⟩)]
noncomputable def i_PlantAfter_l7_out (_z7_0 : Bool) (h7_0_0 : Int) (_h7_0_1 : Int) (h7_0_3 : TPlant) (_h7_0_5 : TWorks) : TPlant → Ex × St := fun x => (.exit 0, stOf [(4, (.ptr (6, 0) [])), (9, (.imm true (.int .i64) h7_0_0)), (10, (.ptr (12, 0) []))] [((6, 0), some ⟨true, kPlant, .own, h7_0_3⟩), ((12, 0), some ⟨true, kPlant, .own, x⟩)])
noncomputable def i_PlantAfter_l7_D (s : St) : Tre (Ex × St) :=
 asPtr (6, 0) [] (s.tmps 4) <|
 asImmZ true (.int .i64) (s.tmps 9) fun d3 =>
 asPtr (12, 0) [] (s.tmps 10) <|
 asRef (25, 0) [.fst, .fst] (s.tmps 37) <|
 asImmZ true (.int .i64) (s.tmps 38) fun d7 =>
 asImmZ true (.int .i64) (s.tmps 39) fun d9 =>
 asRoot true kPlant (s.roots (6, 0)) fun m11 d12 =>
 asM .own m11 <|
 asRoot true kPlant (s.roots (12, 0)) fun m14 d15 =>
 asM .own m14 <|
 asRoot true kWorks (s.roots (25, 0)) fun m17 d18 =>
 asMPair m17 fun m19 m20 =>
 asM (.pair (.sl (.imm true)) .own) m19 <|
 asMImm m20 fun z21 =>
 .mat (loopF (i_PlantAfter_l7 d7 d18) (d9, d15)) fun x => .ret (i_PlantAfter_l7_out z21 d3 d7 d12 d18 x)
noncomputable def i_PlantAfter_l7_L : LoopI := ⟨([4, 9, 10, 37, 38, 39], [(6, 0), (12, 0), (25, 0)]), ([4, 9, 10], [(6, 0), (12, 0)]), i_PlantAfter_l7_D⟩
noncomputable def i_PlantAfter_A : List (Nat × LoopI) := [(7, i_PlantAfter_l7_L)]
set_option maxRecDepth 100000 in
theorem i_PlantAfter_l7_step : ∀ (z7_0 : Bool) (h7_0_0 : Int) (h7_0_1 : Int) (h7_0_3 : TPlant) (h7_0_5 : TWorks) (x : (Int × TPlant)) (c : St → Option (Ex × St)), den i_PlantAfter_V i_PlantAfter_A (loopAt i_PlantAfter_b 0) (i_PlantAfter_l7_mk z7_0 h7_0_0 h7_0_1 h7_0_3 h7_0_5 x) (roundK i_PlantAfter_l7_L.kp i_PlantAfter_l7_L.kx c) = (i_PlantAfter_l7 h7_0_1 h7_0_5 x).run (roundR (i_PlantAfter_l7_mk z7_0 h7_0_0 h7_0_1 h7_0_3 h7_0_5) (i_PlantAfter_l7_out z7_0 h7_0_0 h7_0_1 h7_0_3 h7_0_5) c) := fun _ _ _ _ _ _ _ => by
 kernel_rfl
theorem i_PlantAfter_l7_ok : LoopOK i_PlantAfter_V i_PlantAfter_A (loopAt i_PlantAfter_b 0) i_PlantAfter_l7_L := loopOK_of fun s e s' h => by
 generalize hs : restrict i_PlantAfter_l7_L.kp s = s1 at h
 have h : (i_PlantAfter_l7_D s1).run some = some (e, s') := h
 obtain ⟨e1, h_0⟩ := asPtr_spec h
 obtain ⟨d3, e2, h_1⟩ := asImmZ_spec h_0
 obtain ⟨e4, h_2⟩ := asPtr_spec h_1
 obtain ⟨e5, h_3⟩ := asRef_spec h_2
 obtain ⟨d7, e6, h_4⟩ := asImmZ_spec h_3
 obtain ⟨d9, e8, h_5⟩ := asImmZ_spec h_4
 obtain ⟨m11, d12, e10, h_6⟩ := asRoot_spec h_5
 obtain ⟨rfl, h_7⟩ := asM_spec h_6
 obtain ⟨m14, d15, e13, h_8⟩ := asRoot_spec h_7
 obtain ⟨rfl, h_9⟩ := asM_spec h_8
 obtain ⟨m17, d18, e16, h_10⟩ := asRoot_spec h_9
 obtain ⟨m19, m20, rfl, h_11⟩ := asMPair_spec h_10
 obtain ⟨rfl, h_12⟩ := asM_spec h_11
 obtain ⟨z21, rfl, h_13⟩ := asMImm_spec h_12
 obtain ⟨y, hy, hz⟩ := mat_ret h_13
 refine ⟨_, _, i_PlantAfter_l7_mk z21 d3 d7 d12 d18, i_PlantAfter_l7_out z21 d3 d7 d12 d18, i_PlantAfter_l7 d7 d18, (d9, d15), y, ?_, hy, ?_, i_PlantAfter_l7_step z21 d3 d7 d12 d18⟩
 ·subst hs; exact restrict_eq (T := [(4, (.ptr (6, 0) [])), (9, (.imm true (.int .i64) d3)), (10, (.ptr (12, 0) [])), (37, (.ref (25, 0) [.fst, .fst])), (38, (.imm true (.int .i64) d7)), (39, (.imm true (.int .i64) d9))]) (U := [((6, 0), some ⟨true, kPlant, .own, d12⟩), ((12, 0), some ⟨true, kPlant, .own, d15⟩), ((25, 0), some ⟨true, kWorks, (.pair (.pair (.sl (.imm true)) .own) (.imm z21)), d18⟩)]) rfl rfl ⟨e1, e2, e4, e5, e6, e8, trivial⟩ ⟨e10, e13, e16, trivial⟩
 ·exact Option.some.inj hz
noncomputable def i_PlantAfter_I : FnI := ⟨i_PlantAfter_b, Try.f26.results.toList, Try.f26.resultTypes.toList, i_PlantAfter_A⟩
noncomputable def i_PlantAfter_out (_zp0 : Bool) (_zp1 : Bool) (_p0 : TGather) (_p1 : (List TDeed)) : (Int × Int × (List TStation) × (List (Int × (Int × Unit)))) → CallOut := fun r => ⟨(.tcons (.pair (.ref (1, 0) []) (.pair (.ref (1, 1) []) (.imm true .unit ()))) (.tcons (.imm true (.int .i64) r.1) (.tcons (.imm true (.int .i64) r.2.1) .tnil))), [], [⟨false, (.sl kStation), .own, r.2.2.1⟩, ⟨false, (.sl kField), .own, r.2.2.2⟩]⟩
set_option maxRecDepth 100000 in
theorem i_PlantAfter_eq : ∀ (zp0 : Bool) (zp1 : Bool) (p0 : TGather) (p1 : (List TDeed)), denFn i_PlantAfter_V i_PlantAfter_I ⟨[(.imm zp0 kGather p0), (.imm zp1 (.sl kDeed) p1)], []⟩ = (i_PlantAfter p0 p1).run fun r => some (i_PlantAfter_out zp0 zp1 p0 p1 r) := fun _ _ _ _ => by kernel_rfl
noncomputable def i_PlantAfter_G (av : List AV) (rs : List Root) : Tre CallOut :=
 asCons av fun a0_ av0 =>
 asCons av0 fun a1_ av1 =>
 asEnd av1 <|
 asEnd rs <|
 asImm kGather a0_ fun z2 d1 =>
 asImm (.sl kDeed) a1_ fun z4 d3 =>
 .mat (plantR d1 d3) fun r => .ret (i_PlantAfter_out z2 z4 d1 d3 r)
noncomputable def i_PlantAfter_c : Ctr := ⟨[], fun ci => i_PlantAfter_G ci.args ci.roots⟩
theorem i_PlantAfter_env : EnvOK Try.prog i_PlantAfter_V := (envOK_cons i_deedsCode_ok ent40 (envOK_cons i_after_ok ent41 (envOK_cons slices_Clone_Parcel_ok ent59 (envOK_cons slices_Clone_int64_ok ent45 envOK_nil))))
set_option maxRecDepth 100000 in
theorem i_PlantAfter_ok : Contract Try.prog 26 i_PlantAfter_c := by
 have hl : LoopsOK i_PlantAfter_V i_PlantAfter_A i_PlantAfter_b := (loopsOK_all (n := 1) (by kernel_rfl) fun k hk => by
   match k, hk with
   | 0, _ => exact loopOK_at (id := 7) (L := i_PlantAfter_l7_L) (by kernel_rfl) (by kernel_rfl) i_PlantAfter_l7_ok)
 refine (contract_of (F := i_PlantAfter_I) tau_tys i_PlantAfter_env Try.func26 (by kernel_rfl) (by kernel_rfl) (by kernel_rfl) hl []).weaken ?_
 rintro ⟨av, rs⟩ co h
 have h : (i_PlantAfter_G av rs).run some = some co := h
 obtain ⟨a0_, av0, rfl, h_0⟩ := asCons_spec h
 obtain ⟨a1_, av1, rfl, h_1⟩ := asCons_spec h_0
 obtain ⟨rfl, h_2⟩ := asEnd_spec h_1
 obtain ⟨rfl, h_3⟩ := asEnd_spec h_2
 obtain ⟨z2, d1, rfl, h_4⟩ := asImm_spec h_3
 obtain ⟨z4, d3, rfl, h_5⟩ := asImm_spec h_4
 exact fin_opt (i_PlantAfter_eq z2 z4 d1 d3) (i_PlantAfter_spec d1 d3) h_5
end Go.Proofs.Ytddaclhjnkimfaa

namespace Go.Proofs.Ytddaclhjnkimfaa
open Go Go.Abs Go.Proofs
def headW (g : G8) (x : Int) : Int := iand .i64 x (top1 g.1)
noncomputable def rankM (g : G8) (xs : List Int) : Int := ((echI (xs.map (headW g))).length : Int)
theorem heads_ok {g : G8} {xs : List Int} (hm : 1 ≤ g.1 ∧ g.1 ≤ 62) (h : okRows 62 xs = true) : okRows g.1.toNat (xs.map (headW g)) = true ∧ okRows 62 (xs.map (headW g)) = true := by
 obtain ⟨m, hm2⟩ := Int.eq_ofNat_of_zero_le (show 0 ≤ g.1 by omega)
 obtain ⟨ns, rfl, hlen, hb, _⟩ := okRows_up h
 have key : ∀ x ∈ (up ns).map (headW g), 0 ≤ x ∧ x < ((2 ^ m : Nat) : Int) := by
  intro x hx
  obtain ⟨y, hy, rfl⟩ := List.mem_map.1 hx
  obtain ⟨n, hn, rfl⟩ := List.mem_map.1 hy
  have h1 := hb n hn
  have h2 : 2 ^ m ≤ 2 ^ 62 := pow_le (by omega)
  have h3 : 0 < 2 ^ m := Nat.two_pow_pos m
  have h4 : n &&& (2 ^ m - 1) < 2 ^ m := Nat.and_lt_two_pow _ (by omega)
  unfold headW
  rw [hm2, top1_nat (by omega), iand_nat (by omega) (by omega)]
  omega
 have h2 : 2 ^ m ≤ 2 ^ 62 := pow_le (by omega)
 unfold okRows
 simp only [Bool.and_eq_true, decide_eq_true_eq, List.all_eq_true]
 refine ⟨⟨by simpa [up] using hlen, fun x hx => ?_⟩, by simpa [up] using hlen, fun x hx => ?_⟩
 ·have := key x hx
  rw [hm2, Int.toNat_natCast]
  exact this
 ·have := key x hx
  exact ⟨this.1, by omega⟩
theorem foldE_heads (f : Int → Int) : ∀ (l : List Int) (i : Nat) (acc : List Int), foldE (β := List Int) (fun _ acc x => .inl (acc ++ [f x])) id i acc l = acc ++ l.map f := by
 intro l
 induction l with
 | nil => intro i acc; simp [foldE]
 | cons x l ih => intro i acc; simp only [foldE]; rw [ih]; simp
end Go.Proofs.Ytddaclhjnkimfaa

namespace Go.Proofs.Ytddaclhjnkimfaa
open Go Go.Abs Go.Proofs
noncomputable def i_Gather_front_l3 (h3_0_0 : (List Int)) (h3_0_1 : Int) (h3_0_3 : TGather) : (Int × (List Int)) → Tre ((Int × (List Int)) ⊕ (List Int)) := fun s3 =>
 .cond (decide (s3.1 < h3_0_1))
  (.ite (0 ≤ s3.1 ∧ s3.1 < (h3_0_0.length : Int)) <|
  .mat (h3_0_0[s3.1.toNat]?) fun x1 =>
  .ite (0 ≤ h3_0_3.1) <|
  let v2 := iwrap .i64 ((ishl .i64 1 h3_0_3.1) - 1)
  .ite ((s3.2.length + 1) * 8 ≤ appendMax ∧ 1 ≤ 8) <|
  let v3 := s3.2 ++ ([iand .i64 x1 v2])
  .ret (.inl (iwrap .i64 (s3.1 + 1), v3)))
  (.ret (.inr s3.2))
noncomputable def i_Gather_front (p0 : TGather) (p1 : (List Int)) : Tre (List Int) :=
 .mat (loopF (i_Gather_front_l3 p1 (p1.length : Int) p0) (0, [])) fun l4 =>
 .ret l4
noncomputable def i_Gather_front_F (p0 : TGather) (p1 : (List Int)) : Option (List Int) := (i_Gather_front p0 p1).run some
def frontR (g : G8) (xs : List Int) : Option (List Int) := askO (inR g.1 1 62 && decide (xs.length ≤ 1048576)) (xs.map (headW g))
theorem i_Gather_front_spec (p0 : G8) (p1 : List Int) (y : List Int) (h : frontR p0 p1 = some y) : i_Gather_front_F p0 p1 = some y := by
 obtain ⟨hok, rfl⟩ := askO_some h
 rw [Bool.and_eq_true, inR_iff, decide_eq_true_eq] at hok
 obtain ⟨hm, hl⟩ := hok
 unfold i_Gather_front_F i_Gather_front
 have := fold_loop (xs := p1) (step := i_Gather_front_l3 p1 (p1.length : Int) p0) (fun i acc => ((i : Int), acc)) (fun _ acc x => .inl (acc ++ [headW p0 x])) id (fun i acc => acc.length = i) (by
  intro i acc x hx hI
  have hi : i < p1.length := (List.getElem?_eq_some_iff.1 hx).1
  refine ⟨?_, fun a ha => by cases ha; simp [hI]⟩
  unfold i_Gather_front_l3
  rw [run_inb hx, Tre.run_ite, if_pos (by omega)]
  dsimp only
  rw [Tre.run_ite, if_pos (by unfold appendMax; omega), Tre.run_ret, iwrap_succ (by omega)]
  rfl)
  (by
  intro acc _
  unfold i_Gather_front_l3
  exact run_out) p1 0 [] rfl (Nat.zero_le _) rfl
 rw [foldE_heads] at this
 have h1 : loopF (i_Gather_front_l3 p1 (p1.length : Int) p0) (0, []) = some (p1.map (headW p0)) := this
 rw [run_some_mat h1]
 rfl
noncomputable def i_Gather_front_V : Env := ⟨tau, [], []⟩
noncomputable def i_Gather_front_b : Code := (Try.f97.body).getD .skip
noncomputable def i_Gather_front_l3_mk (z3_0 : Bool) (z3_1 : Bool) (h3_0_0 : (List Int)) (h3_0_1 : Int) (h3_0_3 : TGather) : (Int × (List Int)) → St := fun x => stOf [(2, (.ptr (4, 0) [])), (5, (.ref (7, 0) [])), (9, (.imm z3_0 (.sl (.int .i64)) h3_0_0)), (10, (.imm true (.int .i64) h3_0_1)), (11, (.imm true (.int .i64) x.1))] [((4, 0), some ⟨true, kGather, (.imm z3_1), h3_0_3⟩), ((7, 0), some ⟨false, (.sl (.int .i64)), .own, x.2⟩)]
noncomputable def i_Gather_front_l3_out (_z3_0 : Bool) (_z3_1 : Bool) (_h3_0_0 : (List Int)) (_h3_0_1 : Int) (_h3_0_3 : TGather) : (List Int) → Ex × St := fun x => (.exit 0, stOf [(5, (.ref (7, 0) []))] [((7, 0), some ⟨false, (.sl (.int .i64)), .own, x⟩)])
noncomputable def i_Gather_front_l3_D (s : St) : Tre (Ex × St) :=
 asPtr (4, 0) [] (s.tmps 2) <|
 asRef (7, 0) [] (s.tmps 5) <|
 asImm (.sl (.int .i64)) (s.tmps 9) fun z5 d4 =>
 asImmZ true (.int .i64) (s.tmps 10) fun d7 =>
 asImmZ true (.int .i64) (s.tmps 11) fun d9 =>
 asRoot true kGather (s.roots (4, 0)) fun m11 d12 =>
 asMImm m11 fun z13 =>
 asRoot false (.sl (.int .i64)) (s.roots (7, 0)) fun m15 d16 =>
 asM .own m15 <|
 .mat (loopF (i_Gather_front_l3 d4 d7 d12) (d9, d16)) fun x => .ret (i_Gather_front_l3_out z5 z13 d4 d7 d12 x)
noncomputable def i_Gather_front_l3_L : LoopI := ⟨([2, 5, 9, 10, 11], [(4, 0), (7, 0)]), ([5], [(7, 0)]), i_Gather_front_l3_D⟩
noncomputable def i_Gather_front_A : List (Nat × LoopI) := [(3, i_Gather_front_l3_L)]
set_option maxRecDepth 100000 in
theorem i_Gather_front_l3_step : ∀ (z3_0 : Bool) (z3_1 : Bool) (h3_0_0 : (List Int)) (h3_0_1 : Int) (h3_0_3 : TGather) (x : (Int × (List Int))) (c : St → Option (Ex × St)), den i_Gather_front_V i_Gather_front_A (loopAt i_Gather_front_b 0) (i_Gather_front_l3_mk z3_0 z3_1 h3_0_0 h3_0_1 h3_0_3 x) (roundK i_Gather_front_l3_L.kp i_Gather_front_l3_L.kx c) = (i_Gather_front_l3 h3_0_0 h3_0_1 h3_0_3 x).run (roundR (i_Gather_front_l3_mk z3_0 z3_1 h3_0_0 h3_0_1 h3_0_3) (i_Gather_front_l3_out z3_0 z3_1 h3_0_0 h3_0_1 h3_0_3) c) := fun _ _ _ _ _ _ _ => by
 kernel_rfl
theorem i_Gather_front_l3_ok : LoopOK i_Gather_front_V i_Gather_front_A (loopAt i_Gather_front_b 0) i_Gather_front_l3_L := loopOK_of fun s e s' h => by
 generalize hs : restrict i_Gather_front_l3_L.kp s = s1 at h
 have h : (i_Gather_front_l3_D s1).run some = some (e, s') := h
 obtain ⟨e1, h_0⟩ := asPtr_spec h
 obtain ⟨e2, h_1⟩ := asRef_spec h_0
 obtain ⟨z5, d4, e3, h_2⟩ := asImm_spec h_1
 obtain ⟨d7, e6, h_3⟩ := asImmZ_spec h_2
 obtain ⟨d9, e8, h_4⟩ := asImmZ_spec h_3
 obtain ⟨m11, d12, e10, h_5⟩ := asRoot_spec h_4
 obtain ⟨z13, rfl, h_6⟩ := asMImm_spec h_5
 obtain ⟨m15, d16, e14, h_7⟩ := asRoot_spec h_6
 obtain ⟨rfl, h_8⟩ := asM_spec h_7
 obtain ⟨y, hy, hz⟩ := mat_ret h_8
 refine ⟨_, _, i_Gather_front_l3_mk z5 z13 d4 d7 d12, i_Gather_front_l3_out z5 z13 d4 d7 d12, i_Gather_front_l3 d4 d7 d12, (d9, d16), y, ?_, hy, ?_, i_Gather_front_l3_step z5 z13 d4 d7 d12⟩
 ·subst hs; exact restrict_eq (T := [(2, (.ptr (4, 0) [])), (5, (.ref (7, 0) [])), (9, (.imm z5 (.sl (.int .i64)) d4)), (10, (.imm true (.int .i64) d7)), (11, (.imm true (.int .i64) d9))]) (U := [((4, 0), some ⟨true, kGather, (.imm z13), d12⟩), ((7, 0), some ⟨false, (.sl (.int .i64)), .own, d16⟩)]) rfl rfl ⟨e1, e2, e3, e6, e8, trivial⟩ ⟨e10, e14, trivial⟩
 ·exact Option.some.inj hz
noncomputable def i_Gather_front_I : FnI := ⟨i_Gather_front_b, Try.f97.results.toList, Try.f97.resultTypes.toList, i_Gather_front_A⟩
noncomputable def i_Gather_front_out (_zp0 : Bool) (_zp1 : Bool) (_p0 : TGather) (_p1 : (List Int)) : (List Int) → CallOut := fun r => ⟨(.ref (1, 0) []), [], [⟨false, (.sl (.int .i64)), .own, r⟩]⟩
set_option maxRecDepth 100000 in
theorem i_Gather_front_eq : ∀ (zp0 : Bool) (zp1 : Bool) (p0 : TGather) (p1 : (List Int)), denFn i_Gather_front_V i_Gather_front_I ⟨[(.imm zp0 kGather p0), (.imm zp1 (.sl (.int .i64)) p1)], []⟩ = (i_Gather_front p0 p1).run fun r => some (i_Gather_front_out zp0 zp1 p0 p1 r) := fun _ _ _ _ => by kernel_rfl
noncomputable def i_Gather_front_G (av : List AV) (rs : List Root) : Tre CallOut :=
 asCons av fun a0_ av0 =>
 asCons av0 fun a1_ av1 =>
 asEnd av1 <|
 asEnd rs <|
 asImm kGather a0_ fun z2 d1 =>
 asImm (.sl (.int .i64)) a1_ fun z4 d3 =>
 .mat (frontR d1 d3) fun r => .ret (i_Gather_front_out z2 z4 d1 d3 r)
noncomputable def i_Gather_front_c : Ctr := ⟨[], fun ci => i_Gather_front_G ci.args ci.roots⟩
theorem i_Gather_front_env : EnvOK Try.prog i_Gather_front_V := envOK_nil
set_option maxRecDepth 100000 in
theorem i_Gather_front_ok : Contract Try.prog 97 i_Gather_front_c := by
 have hl : LoopsOK i_Gather_front_V i_Gather_front_A i_Gather_front_b := (loopsOK_all (n := 1) (by kernel_rfl) fun k hk => by
   match k, hk with
   | 0, _ => exact loopOK_at (id := 3) (L := i_Gather_front_l3_L) (by kernel_rfl) (by kernel_rfl) i_Gather_front_l3_ok)
 refine (contract_of (F := i_Gather_front_I) tau_tys i_Gather_front_env Try.func97 (by kernel_rfl) (by kernel_rfl) (by kernel_rfl) hl []).weaken ?_
 rintro ⟨av, rs⟩ co h
 have h : (i_Gather_front_G av rs).run some = some co := h
 obtain ⟨a0_, av0, rfl, h_0⟩ := asCons_spec h
 obtain ⟨a1_, av1, rfl, h_1⟩ := asCons_spec h_0
 obtain ⟨rfl, h_2⟩ := asEnd_spec h_1
 obtain ⟨rfl, h_3⟩ := asEnd_spec h_2
 obtain ⟨z2, d1, rfl, h_4⟩ := asImm_spec h_3
 obtain ⟨z4, d3, rfl, h_5⟩ := asImm_spec h_4
 exact fin_opt (i_Gather_front_eq z2 z4 d1 d3) (i_Gather_front_spec d1 d3) h_5
end Go.Proofs.Ytddaclhjnkimfaa

namespace Go.Proofs.Ytddaclhjnkimfaa
open Go Go.Abs Go.Proofs
noncomputable def i_works_rank_40d4 (p0 : TWorks) (p1 : Int) : Tre Int :=
 .ite (0 ≤ p1 ∧ p1 < (p0.1.1.length : Int)) <|
 .mat (p0.1.1[p1.toNat]?) fun x1 =>
 .mat (frontR p0.2.1 x1.1) fun r2 =>
 .mat (echA r2) fun r3 =>
 .ret (r3.length : Int)
noncomputable def i_works_rank_40d4_F (p0 : TWorks) (p1 : Int) : Option Int := (i_works_rank_40d4 p0 p1).run some
def rowsP (p : P8) (s : Int) : List Int := match p.1[s.toNat]? with
 | some x => x.1
 | none => []
def okW (k : Nat) (s : Int) (p : P8 × (G8 × Unit)) : Bool := isG p.2.1 && okP k p.2.1 p.1 && inR s 0 (statG p.2.1 - 1)
noncomputable def wrankR (p : P8 × (G8 × Unit)) (s : Int) : Option Int := askO (okW 1000 s p) (rankM p.2.1 (rowsP p.1 s))
theorem okW_at {k : Nat} {s : Int} {p : P8 × (G8 × Unit)} (h : okW k s p = true) : ∃ (i : Nat) (x : List Int × List Int × Unit), s = (i : Int) ∧ p.1.1[i]? = some x ∧ i < p.1.1.length ∧ okS k (colsG p.2.1) x.1 = true ∧ isG p.2.1 = true := by
 unfold okW at h
 simp only [Bool.and_eq_true, inR_iff] at h
 obtain ⟨⟨hg, hp⟩, h1, h2⟩ := h
 obtain ⟨i, rfl⟩ := Int.eq_ofNat_of_zero_le h1
 obtain ⟨l1, l2, _, _⟩ := okP_spec hp
 have hi : i < p.1.1.length := by omega
 exact ⟨i, _, rfl, List.getElem?_eq_getElem hi, hi, (l2 _ (List.getElem_mem hi)).1, hg⟩
theorem i_works_rank_40d4_spec (p1 : P8 × (G8 × Unit)) (p0 : Int) (y : Int) (h : wrankR p1 p0 = some y) : i_works_rank_40d4_F p1 p0 = some y := by
 obtain ⟨hok, rfl⟩ := askO_some h
 obtain ⟨i, x, rfl, hx, hi, hk, hg⟩ := okW_at hok
 have hb := isG_spec hg
 have hlen := (okS_spec.1 hk).1
 have hr : okRows 62 x.1 = true := okS_rows hk (by omega) (by have := (colsG_le hg).1; omega)
 unfold i_works_rank_40d4_F i_works_rank_40d4 rowsP
 simp only [Int.toNat_natCast, hx]
 rw [Tre.run_ite, if_pos ⟨by omega, by omega⟩, run_some_mat rfl, run_some_mat (show frontR p1.2.1 x.1 = some _ from askO_true (by rw [Bool.and_eq_true, inR_iff, decide_eq_true_eq]; omega)), run_some_mat (show echA (x.1.map (headW p1.2.1)) = some _ from askO_true (heads_ok (by omega) hr).2)]
 rfl
noncomputable def i_works_rank_40d4_V : Env := ⟨tau, [(97, i_Gather_front_c), (82, i_echelon_c), (52, i_size_int64_c)], []⟩
noncomputable def i_works_rank_40d4_b : Code := (Try.f66.body).getD .skip
noncomputable def i_works_rank_40d4_I : FnI := ⟨i_works_rank_40d4_b, Try.f66.results.toList, Try.f66.resultTypes.toList, []⟩
noncomputable def i_works_rank_40d4_out (_zp0 : Bool) (_p0 : TWorks) (_p1 : Int) : Int → CallOut := fun r => ⟨(.imm true (.int .i64) r), [], []⟩
set_option maxRecDepth 100000 in
theorem i_works_rank_40d4_eq : ∀ (zp0 : Bool) (p0 : TWorks) (p1 : Int), denFn i_works_rank_40d4_V i_works_rank_40d4_I ⟨[(.iptr zp0 (.sl kWorks) ([p0]) [.idx 0]), (.imm true (.int .i64) p1)], []⟩ = (i_works_rank_40d4 p0 p1).run fun r => some (i_works_rank_40d4_out zp0 p0 p1 r) := fun _ _ _ => by kernel_rfl
noncomputable def i_works_rank_40d4_G (av : List AV) (rs : List Root) : Tre CallOut :=
 asCons av fun a0_ av0 =>
 asCons av0 fun a1_ av1 =>
 asEnd av1 <|
 asEnd rs <|
 asIptr kWorks a0_ fun z1 d2 =>
 asImmZ true (.int .i64) a1_ fun d3 =>
 .mat (wrankR d2 d3) fun r => .ret (i_works_rank_40d4_out z1 d2 d3 r)
noncomputable def i_works_rank_40d4_c : Ctr := ⟨[0], fun ci => i_works_rank_40d4_G ci.args ci.roots⟩
theorem i_works_rank_40d4_env : EnvOK Try.prog i_works_rank_40d4_V := (envOK_cons i_Gather_front_ok ent97 (envOK_cons i_echelon_ok ent82 (envOK_cons i_size_int64_ok ent52 envOK_nil)))
set_option maxRecDepth 100000 in
theorem i_works_rank_40d4_ok : Contract Try.prog 66 i_works_rank_40d4_c := by
 have hl : LoopsOK i_works_rank_40d4_V [] i_works_rank_40d4_b := loopsOK_nil (by kernel_rfl)
 refine (contract_of (F := i_works_rank_40d4_I) tau_tys i_works_rank_40d4_env Try.func66 (by kernel_rfl) (by kernel_rfl) (by kernel_rfl) hl [0]).weaken ?_
 rintro ⟨av, rs⟩ co h
 have h : (i_works_rank_40d4_G av rs).run some = some co := h
 obtain ⟨a0_, av0, rfl, h_0⟩ := asCons_spec h
 obtain ⟨a1_, av1, rfl, h_1⟩ := asCons_spec h_0
 obtain ⟨rfl, h_2⟩ := asEnd_spec h_1
 obtain ⟨rfl, h_3⟩ := asEnd_spec h_2
 obtain ⟨z1, d2, rfl, h_4⟩ := asIptr_spec h_3
 obtain ⟨d3, rfl, h_5⟩ := asImmZ_spec h_4
 exact fin_opt (i_works_rank_40d4_eq z1 d2 d3) (i_works_rank_40d4_spec d2 d3) h_5
end Go.Proofs.Ytddaclhjnkimfaa

namespace Go.Proofs.Ytddaclhjnkimfaa
open Go Go.Abs Go.Proofs
noncomputable def spoiltM (g : G8) (xs : List Int) : Int := (xs.length : Int) - rankM g xs
end Go.Proofs.Ytddaclhjnkimfaa

namespace Go.Proofs.Ytddaclhjnkimfaa
open Go Go.Abs Go.Proofs
noncomputable def i_works_spoilt_40d4 (p0 : TWorks) (p1 : Int) : Tre Int :=
 .ite (0 ≤ p1 ∧ p1 < (p0.1.1.length : Int)) <|
 .mat (p0.1.1[p1.toNat]?) fun x1 =>
 .mat (wrankR p0 p1) fun r2 =>
 let v3 := iwrap .i64 ((x1.1.length : Int) - r2)
 .ret v3
noncomputable def i_works_spoilt_40d4_F (p0 : TWorks) (p1 : Int) : Option Int := (i_works_spoilt_40d4 p0 p1).run some
noncomputable def wspR (p : P8 × (G8 × Unit)) (s : Int) : Option Int := askO (okW 1000 s p) (iwrap .i64 (spoiltM p.2.1 (rowsP p.1 s)))
theorem i_works_spoilt_40d4_spec (p0 : P8 × (G8 × Unit)) (p1 : Int) (y : Int) (h : wspR p0 p1 = some y) : i_works_spoilt_40d4_F p0 p1 = some y := by
 obtain ⟨hok, rfl⟩ := askO_some h
 have hw : wrankR p0 p1 = some _ := askO_true hok
 obtain ⟨i, x, rfl, hx, hi, hk, hg⟩ := okW_at hok
 have hrows : rowsP p0.1 (i : Int) = x.1 := by unfold rowsP; rw [Int.toNat_natCast, hx]
 unfold i_works_spoilt_40d4_F i_works_spoilt_40d4
 rw [Tre.run_ite, if_pos ⟨by omega, by omega⟩, Int.toNat_natCast, run_some_mat hx, run_some_mat hw]
 unfold spoiltM
 rw [hrows]
 rfl
noncomputable def i_works_spoilt_40d4_V : Env := ⟨tau, [(52, i_size_int64_c), (66, i_works_rank_40d4_c)], []⟩
noncomputable def i_works_spoilt_40d4_b : Code := (Try.f67.body).getD .skip
noncomputable def i_works_spoilt_40d4_I : FnI := ⟨i_works_spoilt_40d4_b, Try.f67.results.toList, Try.f67.resultTypes.toList, []⟩
noncomputable def i_works_spoilt_40d4_out (_zp0 : Bool) (_p0 : TWorks) (_p1 : Int) : Int → CallOut := fun r => ⟨(.imm true (.int .i64) r), [], []⟩
set_option maxRecDepth 100000 in
theorem i_works_spoilt_40d4_eq : ∀ (zp0 : Bool) (p0 : TWorks) (p1 : Int), denFn i_works_spoilt_40d4_V i_works_spoilt_40d4_I ⟨[(.iptr zp0 (.sl kWorks) ([p0]) [.idx 0]), (.imm true (.int .i64) p1)], []⟩ = (i_works_spoilt_40d4 p0 p1).run fun r => some (i_works_spoilt_40d4_out zp0 p0 p1 r) := fun _ _ _ => by kernel_rfl
noncomputable def i_works_spoilt_40d4_G (av : List AV) (rs : List Root) : Tre CallOut :=
 asCons av fun a0_ av0 =>
 asCons av0 fun a1_ av1 =>
 asEnd av1 <|
 asEnd rs <|
 asIptr kWorks a0_ fun z1 d2 =>
 asImmZ true (.int .i64) a1_ fun d3 =>
 .mat (wspR d2 d3) fun r => .ret (i_works_spoilt_40d4_out z1 d2 d3 r)
noncomputable def i_works_spoilt_40d4_c : Ctr := ⟨[0], fun ci => i_works_spoilt_40d4_G ci.args ci.roots⟩
theorem i_works_spoilt_40d4_env : EnvOK Try.prog i_works_spoilt_40d4_V := (envOK_cons i_size_int64_ok ent52 (envOK_cons i_works_rank_40d4_ok ent66 envOK_nil))
set_option maxRecDepth 100000 in
theorem i_works_spoilt_40d4_ok : Contract Try.prog 67 i_works_spoilt_40d4_c := by
 have hl : LoopsOK i_works_spoilt_40d4_V [] i_works_spoilt_40d4_b := loopsOK_nil (by kernel_rfl)
 refine (contract_of (F := i_works_spoilt_40d4_I) tau_tys i_works_spoilt_40d4_env Try.func67 (by kernel_rfl) (by kernel_rfl) (by kernel_rfl) hl [0]).weaken ?_
 rintro ⟨av, rs⟩ co h
 have h : (i_works_spoilt_40d4_G av rs).run some = some co := h
 obtain ⟨a0_, av0, rfl, h_0⟩ := asCons_spec h
 obtain ⟨a1_, av1, rfl, h_1⟩ := asCons_spec h_0
 obtain ⟨rfl, h_2⟩ := asEnd_spec h_1
 obtain ⟨rfl, h_3⟩ := asEnd_spec h_2
 obtain ⟨z1, d2, rfl, h_4⟩ := asIptr_spec h_3
 obtain ⟨d3, rfl, h_5⟩ := asImmZ_spec h_4
 exact fin_opt (i_works_spoilt_40d4_eq z1 d2 d3) (i_works_spoilt_40d4_spec d2 d3) h_5
end Go.Proofs.Ytddaclhjnkimfaa

namespace Go.Proofs.Ytddaclhjnkimfaa
open Go Go.Abs Go.Proofs
-- shared
theorem okW_after {g : G8} {ds : List D8} {s : Int} (h : codeM g ds s = 0) : okW 304 s (afterM g ds, (g, ())) = true := by
 obtain ⟨hg, hd, hl, h1, h2⟩ := codeM_zero_spec h
 unfold okW
 simp only [Bool.and_eq_true, inR_iff]
 exact ⟨⟨hg, afterM_ok hg hd hl⟩, h1, h2⟩
theorem okW_mono {k k' : Nat} {s : Int} {p : P8 × (G8 × Unit)} (h : okW k s p = true) (hk : k ≤ k') : okW k' s p = true := by
 unfold okW at h ⊢
 simp only [Bool.and_eq_true] at h ⊢
 exact ⟨⟨h.1.1, okP_mono h.1.2 hk⟩, h.2⟩
theorem after_some {g : G8} {ds : List D8} {s : Int} (h : codeM g ds s = 0) : afterR g ds = some ((zerosN (runM g ds (beginM g)).2 : Int), (afterM g ds, (g, ()))) := by
 obtain ⟨hg, hd, hl, _⟩ := codeM_zero_spec h
 exact askO_true (by rw [Bool.and_eq_true, Bool.and_eq_true, decide_eq_true_eq]; exact ⟨⟨hg, hd⟩, hl⟩)
end Go.Proofs.Ytddaclhjnkimfaa

namespace Go.Proofs.Ytddaclhjnkimfaa
open Go Go.Abs Go.Proofs
noncomputable def s_l08At_23e7 (p0 : (List TDeed)) (p1 : Int) (p2 : TGather) : Tre ((Int × (TPlant × Unit)) ⊕ (Int × (TPlant × Unit))) :=
 .mat (askedR p0 p2) fun r1 =>
 .cond (!decide (r1 = 0))
  (.ret (.inl (r1, (([], ([], ())), ()))))
  (let v2 := iwrap .i64 (p2.2.2.2.1 + p2.2.2.2.2.1)
  .cond (!(inR p1 0 v2))
   (.ret (.inl (2, (([], ([], ())), ()))))
   (.mat (playR p0 p2) fun r3 =>
   .ret (.inr (0, r3.1))))
noncomputable def s_l08At_23e7_F (p0 : (List TDeed)) (p1 : Int) (p2 : TGather) : Option ((Int × (TPlant × Unit)) ⊕ (Int × (TPlant × Unit))) := (s_l08At_23e7 p0 p1 p2).run some
noncomputable def atM (ds : List D8) (s : Int) (g : G8) : (Int × (P8 × Unit)) ⊕ (Int × (P8 × Unit)) :=
 cond (decide (codeM g ds s = 0)) (.inr (0, (afterM g ds, ()))) (.inl (codeM g ds s, (([], [], ()), ())))
noncomputable def atR (ds : List D8) (s : Int) (g : G8) : Option ((Int × (P8 × Unit)) ⊕ (Int × (P8 × Unit))) := askO (decide (g.2.2.1.length ≤ 1048576) && decide (ds.length ≤ 1048576)) (atM ds s g)
theorem s_l08At_23e7_spec (p0 : List D8) (p1 : Int) (p2 : G8) (y : (Int × (P8 × Unit)) ⊕ (Int × (P8 × Unit))) (h : atR p0 p1 p2 = some y) : s_l08At_23e7_F p0 p1 p2 = some y := by
 obtain ⟨hok, rfl⟩ := askO_some h
 unfold s_l08At_23e7_F s_l08At_23e7 atM
 rw [run_some_mat (show askedR p0 p2 = some _ from askO_true hok), Tre.run_cond, codeM_asked]
 by_cases h0 : askedM p0 p2 = 0
 ·obtain ⟨hg, hd, hl⟩ := askedM_zero h0
  have hb := isG_spec hg
  rw [decide_eq_true h0, Bool.not_true, cond_false, cond_true]
  dsimp only
  rw [show iwrap .i64 (p2.2.2.2.1 + p2.2.2.2.2.1) = statG p2 - 1 from by rw [iwrap_i64 (by omega) (by omega)]; unfold statG; omega, Tre.run_cond]
  cases inR p1 0 (statG p2 - 1)
  ·rfl
  ·rw [Bool.not_true, cond_false, run_some_mat (show playR p0 p2 = some _ from askO_true (by rw [Bool.and_eq_true, Bool.and_eq_true, decide_eq_true_eq]; exact ⟨⟨hg, hd⟩, hl⟩))]
   rfl
 ·have h1 : decide (askedM p0 p2 = 0) = false := decide_eq_false h0
  rw [h1, cond_false, h1]
  rfl
noncomputable def s_l08At_23e7_V : Env := ⟨tau, [(47, s_l08Asked_3c39_c), (72, s_l00In_c), (48, s_l08Play_3c39_c)], []⟩
noncomputable def s_l08At_23e7_b : Code := (Try.f36.body).getD .skip
noncomputable def s_l08At_23e7_I : FnI := ⟨s_l08At_23e7_b, Try.f36.results.toList, Try.f36.resultTypes.toList, []⟩
noncomputable def s_l08At_23e7_out (_zp0 : Bool) (zp1 : Bool) (_p0 : (List TDeed)) (_p1 : Int) (p2 : TGather) : ((Int × (TPlant × Unit)) ⊕ (Int × (TPlant × Unit))) → CallOut
 | .inl r => ⟨(.tcons (.ptr (1, 0) []) (.tcons (.imm true (.int .i64) r.1) .tnil)), [⟨true, kGather, (.imm zp1), p2⟩], [⟨true, kL08Run, .own, ((none : Option RName), r.2)⟩]⟩
 | .inr r => ⟨(.tcons (.ptr (1, 0) []) (.tcons (.imm true (.int .i64) r.1) .tnil)), [⟨true, kGather, (.imm zp1), p2⟩], [⟨true, kL08Run, .own, ((some (0, 0) : Option RName), r.2)⟩]⟩
set_option maxRecDepth 100000 in
theorem s_l08At_23e7_eq : ∀ (zp0 : Bool) (zp1 : Bool) (p0 : (List TDeed)) (p1 : Int) (p2 : TGather), denFn s_l08At_23e7_V s_l08At_23e7_I ⟨[(.ptr (0, 0) []), (.imm zp0 (.sl kDeed) p0), (.imm true (.int .i64) p1)], [⟨true, kGather, (.imm zp1), p2⟩]⟩ = (s_l08At_23e7 p0 p1 p2).run fun r => some (s_l08At_23e7_out zp0 zp1 p0 p1 p2 r) := fun _ _ _ _ _ => by kernel_rfl
noncomputable def s_l08At_23e7_G (av : List AV) (rs : List Root) : Tre CallOut :=
 asCons av fun a0_ av0 =>
 asCons av0 fun a1_ av1 =>
 asCons av1 fun a2_ av2 =>
 asEnd av2 <|
 asCons rs fun r0_ rs0 =>
 asEnd rs0 <|
 asPtr (0, 0) [] a0_ <|
 asImm (.sl kDeed) a1_ fun z2 d1 =>
 asImmZ true (.int .i64) a2_ fun d3 =>
 asRt true kGather r0_ fun m4 d5 =>
 asMImm m4 fun z6 =>
 .mat (atR d1 d3 d5) fun r => .alt r (fun a0 => .ret (s_l08At_23e7_out z2 z6 d1 d3 d5 (.inl a0))) (fun b0 => .ret (s_l08At_23e7_out z2 z6 d1 d3 d5 (.inr b0)))
noncomputable def s_l08At_23e7_c : Ctr := ⟨[], fun ci => s_l08At_23e7_G ci.args ci.roots⟩
theorem s_l08At_23e7_env : EnvOK Try.prog s_l08At_23e7_V := (envOK_cons s_l08Asked_3c39_ok ent47 (envOK_cons s_l00In_ok ent72 (envOK_cons s_l08Play_3c39_ok ent48 envOK_nil)))
set_option maxRecDepth 100000 in
theorem s_l08At_23e7_ok : Contract Try.prog 36 s_l08At_23e7_c := by
 have hl : LoopsOK s_l08At_23e7_V [] s_l08At_23e7_b := loopsOK_nil (by kernel_rfl)
 refine (contract_of (F := s_l08At_23e7_I) tau_tys s_l08At_23e7_env Try.func36 (by kernel_rfl) (by kernel_rfl) (by kernel_rfl) hl []).weaken ?_
 rintro ⟨av, rs⟩ co h
 have h : (s_l08At_23e7_G av rs).run some = some co := h
 obtain ⟨a0_, av0, rfl, h_0⟩ := asCons_spec h
 obtain ⟨a1_, av1, rfl, h_1⟩ := asCons_spec h_0
 obtain ⟨a2_, av2, rfl, h_2⟩ := asCons_spec h_1
 obtain ⟨rfl, h_3⟩ := asEnd_spec h_2
 obtain ⟨r0_, rs0, rfl, h_4⟩ := asCons_spec h_3
 obtain ⟨rfl, h_5⟩ := asEnd_spec h_4
 obtain ⟨rfl, h_6⟩ := asPtr_spec h_5
 obtain ⟨z2, d1, rfl, h_7⟩ := asImm_spec h_6
 obtain ⟨d3, rfl, h_8⟩ := asImmZ_spec h_7
 obtain ⟨m4, d5, rfl, h_9⟩ := asRt_spec h_8
 obtain ⟨z6, rfl, h_10⟩ := asMImm_spec h_9
 exact fin_opts (s_l08At_23e7_eq z2 z6 d1 d3 d5) (s_l08At_23e7_spec d1 d3 d5) h_10 (by rintro (x | x) <;> rfl)
end Go.Proofs.Ytddaclhjnkimfaa

namespace Go.Proofs.Ytddaclhjnkimfaa
open Go Go.Abs Go.Proofs
noncomputable def spAM (g : G8) (ds : List D8) (s : Int) : Int × Int := cond (decide (codeM g ds s = 0)) (iwrap .i64 (spoiltM g (rowsM g ds s)), 0) (0, codeM g ds s)
noncomputable def spAR (g : G8) (ds : List D8) (s : Int) : Option (Int × Int) := askO (decide (g.2.2.1.length ≤ 1048576) && decide (ds.length ≤ 1048576)) (spAM g ds s)
end Go.Proofs.Ytddaclhjnkimfaa

namespace Go.Proofs.Ytddaclhjnkimfaa
open Go Go.Abs Go.Proofs
noncomputable def i_SpoiltAfter (p0 : TGather) (p1 : (List TDeed)) (p2 : Int) : Tre (Int × Int) :=
 .mat (codeR p0 p1 p2) fun r1 =>
 .cond (!decide (r1 = 0))
  (.ret (0, r1))
  (.mat (afterR p0 p1) fun r2 =>
  .mat (wspR r2.2 p2) fun r3 =>
  .ret (r3, 0))
noncomputable def i_SpoiltAfter_F (p0 : TGather) (p1 : (List TDeed)) (p2 : Int) : Option (Int × Int) := (i_SpoiltAfter p0 p1 p2).run some
theorem i_SpoiltAfter_spec (p0 : G8) (p1 : List D8) (p2 : Int) (y : Int × Int) (h : spAR p0 p1 p2 = some y) : i_SpoiltAfter_F p0 p1 p2 = some y := by
 obtain ⟨hok, rfl⟩ := askO_some h
 unfold i_SpoiltAfter_F i_SpoiltAfter spAM
 rw [run_some_mat (show codeR p0 p1 p2 = some _ from askO_true hok), Tre.run_cond]
 by_cases h0 : codeM p0 p1 p2 = 0
 ·rw [decide_eq_true h0, Bool.not_true, cond_false, cond_true, run_some_mat (after_some h0), run_some_mat (show wspR (afterM p0 p1, (p0, ())) p2 = some _ from askO_true (okW_mono (okW_after h0) (by omega)))]
  rfl
 ·rw [decide_eq_false h0]; rfl
noncomputable def i_SpoiltAfter_V : Env := ⟨tau, [(40, i_deedsCode_c), (41, i_after_c), (67, i_works_spoilt_40d4_c)], []⟩
noncomputable def i_SpoiltAfter_b : Code := (Try.f30.body).getD .skip
noncomputable def i_SpoiltAfter_I : FnI := ⟨i_SpoiltAfter_b, Try.f30.results.toList, Try.f30.resultTypes.toList, []⟩
noncomputable def i_SpoiltAfter_out (_zp0 : Bool) (_zp1 : Bool) (_p0 : TGather) (_p1 : (List TDeed)) (_p2 : Int) : (Int × Int) → CallOut := fun r => ⟨(.tcons (.imm true (.int .i64) r.1) (.tcons (.imm true (.int .i64) r.2) .tnil)), [], []⟩
set_option maxRecDepth 100000 in
theorem i_SpoiltAfter_eq : ∀ (zp0 : Bool) (zp1 : Bool) (p0 : TGather) (p1 : (List TDeed)) (p2 : Int), denFn i_SpoiltAfter_V i_SpoiltAfter_I ⟨[(.imm zp0 kGather p0), (.imm zp1 (.sl kDeed) p1), (.imm true (.int .i64) p2)], []⟩ = (i_SpoiltAfter p0 p1 p2).run fun r => some (i_SpoiltAfter_out zp0 zp1 p0 p1 p2 r) := fun _ _ _ _ _ => by kernel_rfl
noncomputable def i_SpoiltAfter_G (av : List AV) (rs : List Root) : Tre CallOut :=
 asCons av fun a0_ av0 =>
 asCons av0 fun a1_ av1 =>
 asCons av1 fun a2_ av2 =>
 asEnd av2 <|
 asEnd rs <|
 asImm kGather a0_ fun z2 d1 =>
 asImm (.sl kDeed) a1_ fun z4 d3 =>
 asImmZ true (.int .i64) a2_ fun d5 =>
 .mat (spAR d1 d3 d5) fun r => .ret (i_SpoiltAfter_out z2 z4 d1 d3 d5 r)
noncomputable def i_SpoiltAfter_c : Ctr := ⟨[], fun ci => i_SpoiltAfter_G ci.args ci.roots⟩
theorem i_SpoiltAfter_env : EnvOK Try.prog i_SpoiltAfter_V := (envOK_cons i_deedsCode_ok ent40 (envOK_cons i_after_ok ent41 (envOK_cons i_works_spoilt_40d4_ok ent67 envOK_nil)))
set_option maxRecDepth 100000 in
theorem i_SpoiltAfter_ok : Contract Try.prog 30 i_SpoiltAfter_c := by
 have hl : LoopsOK i_SpoiltAfter_V [] i_SpoiltAfter_b := loopsOK_nil (by kernel_rfl)
 refine (contract_of (F := i_SpoiltAfter_I) tau_tys i_SpoiltAfter_env Try.func30 (by kernel_rfl) (by kernel_rfl) (by kernel_rfl) hl []).weaken ?_
 rintro ⟨av, rs⟩ co h
 have h : (i_SpoiltAfter_G av rs).run some = some co := h
 obtain ⟨a0_, av0, rfl, h_0⟩ := asCons_spec h
 obtain ⟨a1_, av1, rfl, h_1⟩ := asCons_spec h_0
 obtain ⟨a2_, av2, rfl, h_2⟩ := asCons_spec h_1
 obtain ⟨rfl, h_3⟩ := asEnd_spec h_2
 obtain ⟨rfl, h_4⟩ := asEnd_spec h_3
 obtain ⟨z2, d1, rfl, h_5⟩ := asImm_spec h_4
 obtain ⟨z4, d3, rfl, h_6⟩ := asImm_spec h_5
 obtain ⟨d5, rfl, h_7⟩ := asImmZ_spec h_6
 exact fin_opt (i_SpoiltAfter_eq z2 z4 d1 d3 d5) (i_SpoiltAfter_spec d1 d3 d5) h_7
end Go.Proofs.Ytddaclhjnkimfaa

namespace Go.Proofs.Ytddaclhjnkimfaa
open Go Go.Abs Go.Proofs
noncomputable def rankAM (g : G8) (ds : List D8) (s : Int) : Int × Int := cond (decide (codeM g ds s = 0)) (rankM g (rowsM g ds s), 0) (0, codeM g ds s)
noncomputable def rankAR (g : G8) (ds : List D8) (s : Int) : Option (Int × Int) := askO (decide (g.2.2.1.length ≤ 1048576) && decide (ds.length ≤ 1048576)) (rankAM g ds s)
end Go.Proofs.Ytddaclhjnkimfaa

namespace Go.Proofs.Ytddaclhjnkimfaa
open Go Go.Abs Go.Proofs
noncomputable def i_RankAfter (p0 : TGather) (p1 : (List TDeed)) (p2 : Int) : Tre (Int × Int) :=
 .mat (codeR p0 p1 p2) fun r1 =>
 .cond (!decide (r1 = 0))
  (.ret (0, r1))
  (.mat (afterR p0 p1) fun r2 =>
  .mat (wrankR r2.2 p2) fun r3 =>
  .ret (r3, 0))
noncomputable def i_RankAfter_F (p0 : TGather) (p1 : (List TDeed)) (p2 : Int) : Option (Int × Int) := (i_RankAfter p0 p1 p2).run some
theorem i_RankAfter_spec (p0 : G8) (p1 : List D8) (p2 : Int) (y : Int × Int) (h : rankAR p0 p1 p2 = some y) : i_RankAfter_F p0 p1 p2 = some y := by
 obtain ⟨hok, rfl⟩ := askO_some h
 unfold i_RankAfter_F i_RankAfter rankAM
 rw [run_some_mat (show codeR p0 p1 p2 = some _ from askO_true hok), Tre.run_cond]
 by_cases h0 : codeM p0 p1 p2 = 0
 ·rw [decide_eq_true h0, Bool.not_true, cond_false, cond_true, run_some_mat (after_some h0), run_some_mat (show wrankR (afterM p0 p1, (p0, ())) p2 = some _ from askO_true (okW_mono (okW_after h0) (by omega)))]
  rfl
 ·rw [decide_eq_false h0]; rfl
noncomputable def i_RankAfter_V : Env := ⟨tau, [(40, i_deedsCode_c), (41, i_after_c), (66, i_works_rank_40d4_c)], []⟩
noncomputable def i_RankAfter_b : Code := (Try.f29.body).getD .skip
noncomputable def i_RankAfter_I : FnI := ⟨i_RankAfter_b, Try.f29.results.toList, Try.f29.resultTypes.toList, []⟩
noncomputable def i_RankAfter_out (_zp0 : Bool) (_zp1 : Bool) (_p0 : TGather) (_p1 : (List TDeed)) (_p2 : Int) : (Int × Int) → CallOut := fun r => ⟨(.tcons (.imm true (.int .i64) r.1) (.tcons (.imm true (.int .i64) r.2) .tnil)), [], []⟩
set_option maxRecDepth 100000 in
theorem i_RankAfter_eq : ∀ (zp0 : Bool) (zp1 : Bool) (p0 : TGather) (p1 : (List TDeed)) (p2 : Int), denFn i_RankAfter_V i_RankAfter_I ⟨[(.imm zp0 kGather p0), (.imm zp1 (.sl kDeed) p1), (.imm true (.int .i64) p2)], []⟩ = (i_RankAfter p0 p1 p2).run fun r => some (i_RankAfter_out zp0 zp1 p0 p1 p2 r) := fun _ _ _ _ _ => by kernel_rfl
noncomputable def i_RankAfter_G (av : List AV) (rs : List Root) : Tre CallOut :=
 asCons av fun a0_ av0 =>
 asCons av0 fun a1_ av1 =>
 asCons av1 fun a2_ av2 =>
 asEnd av2 <|
 asEnd rs <|
 asImm kGather a0_ fun z2 d1 =>
 asImm (.sl kDeed) a1_ fun z4 d3 =>
 asImmZ true (.int .i64) a2_ fun d5 =>
 .mat (rankAR d1 d3 d5) fun r => .ret (i_RankAfter_out z2 z4 d1 d3 d5 r)
noncomputable def i_RankAfter_c : Ctr := ⟨[], fun ci => i_RankAfter_G ci.args ci.roots⟩
theorem i_RankAfter_env : EnvOK Try.prog i_RankAfter_V := (envOK_cons i_deedsCode_ok ent40 (envOK_cons i_after_ok ent41 (envOK_cons i_works_rank_40d4_ok ent66 envOK_nil)))
set_option maxRecDepth 100000 in
theorem i_RankAfter_ok : Contract Try.prog 29 i_RankAfter_c := by
 have hl : LoopsOK i_RankAfter_V [] i_RankAfter_b := loopsOK_nil (by kernel_rfl)
 refine (contract_of (F := i_RankAfter_I) tau_tys i_RankAfter_env Try.func29 (by kernel_rfl) (by kernel_rfl) (by kernel_rfl) hl []).weaken ?_
 rintro ⟨av, rs⟩ co h
 have h : (i_RankAfter_G av rs).run some = some co := h
 obtain ⟨a0_, av0, rfl, h_0⟩ := asCons_spec h
 obtain ⟨a1_, av1, rfl, h_1⟩ := asCons_spec h_0
 obtain ⟨a2_, av2, rfl, h_2⟩ := asCons_spec h_1
 obtain ⟨rfl, h_3⟩ := asEnd_spec h_2
 obtain ⟨rfl, h_4⟩ := asEnd_spec h_3
 obtain ⟨z2, d1, rfl, h_5⟩ := asImm_spec h_4
 obtain ⟨z4, d3, rfl, h_6⟩ := asImm_spec h_5
 obtain ⟨d5, rfl, h_7⟩ := asImmZ_spec h_6
 exact fin_opt (i_RankAfter_eq z2 z4 d1 d3 d5) (i_RankAfter_spec d1 d3 d5) h_7
end Go.Proofs.Ytddaclhjnkimfaa

namespace Go.Proofs.Ytddaclhjnkimfaa
open Go Go.Abs Go.Proofs
-- shared
theorem ech_is {b : Nat} {xs : List Int} (hb : b ≤ 62) (h : okRows b xs = true) : IsEch (xs.map Int.toNat) (ech (xs.map Int.toNat)) := by
 obtain ⟨ns, rfl, hlen, hn, he⟩ := okRows_up h
 obtain ⟨E, _, h2⟩ := s_l02Echelon_loop b hb ns b 0 [] ns (by omega) (Inv.start ns) (Nat.zero_le _) hlen hn (fun a ha => by cases ha)
 rw [he, ech_of h2]; exact h2
theorem echI_len (xs : List Int) : (echI xs).length = (ech (xs.map Int.toNat)).length := by unfold echI; rw [up_len]
theorem sorted_len : ∀ (l : List (Nat × Nat)) (lo b : Nat), (l.Pairwise fun a b => a.1 < b.1) → (∀ a ∈ l, lo ≤ a.1 ∧ a.1 < b) → l.length ≤ b - lo := by
 intro l
 induction l with
 | nil => intro lo b _ _; exact Nat.zero_le _
 | cons a l ih =>
  intro lo b h hb
  obtain ⟨h1, h2⟩ := List.pairwise_cons.1 h
  have := ih (a.1 + 1) b h2 fun x hx => ⟨h1 x hx, (hb x (.tail _ hx)).2⟩
  have h0 := hb a (.head _)
  simp only [List.length_cons]
  omega
theorem sp_lt {l : List Nat} {b v : Nat} (h : ∀ x ∈ l, x < 2 ^ b) (hv : Sp l v) : v < 2 ^ b := by
 induction hv with
 | zero => exact Nat.two_pow_pos b
 | add hr _ ih => exact Nat.xor_lt_two_pow (h _ hr) ih
theorem ech_cols {b : Nat} {rows E : List Nat} (h : IsEch rows E) (hb : ∀ x ∈ rows, x < 2 ^ b) : E.length ≤ b := by
 obtain ⟨P, c, hr, rfl, hs⟩ := h
 rw [List.length_map]
 refine sorted_len P 0 b (hr.2.imp fun h => h.1) fun a ha => ⟨Nat.zero_le _, ?_⟩
 have h1 : a.2 < 2 ^ b := sp_lt hb ((hs a.2).2 (Sp.mem (List.mem_map.2 ⟨a, ha, rfl⟩)))
 have h2 : 2 ^ a.1 ≤ a.2 := Nat.ge_two_pow_of_testBit (hr.1 a ha).2.1
 exact (Nat.pow_lt_pow_iff_right (by decide)).1 (Nat.lt_of_le_of_lt h2 h1)
theorem rank_cols {b : Nat} {xs : List Int} (hb : b ≤ 62) (h : okRows b xs = true) : (echI xs).length ≤ b := by
 rw [echI_len]
 obtain ⟨ns, rfl, hlen, hn, he⟩ := okRows_up h
 exact ech_cols (ech_is hb h) (by rw [he]; exact hn)
end Go.Proofs.Ytddaclhjnkimfaa

namespace Go.Proofs.Ytddaclhjnkimfaa
open Go Go.Abs Go.Proofs
def tailW (g : G8) (x : Int) : Int := ishr .i64 x g.1
noncomputable def datM (g : G8) (xs : List Int) : Int × List Int :=
 cond (decide (iwrap .i64 (spoiltM g xs) = 0)) (cond (decide (rankM g xs < g.1)) (6, []) (0, (echI xs).map (tailW g))) (8, [])
theorem rank_bounds {g : G8} {xs : List Int} (hg : 1 ≤ g.1 ∧ g.1 ≤ 62) (h : okRows 62 xs = true) : (echI (xs.map (headW g))).length ≤ (echI xs).length ∧ (echI xs).length ≤ xs.length := by
 have h1 := ech_is (Nat.le_refl _) h
 have h2 := ech_is (Nat.le_refl _) (heads_ok hg h).2
 rw [echI_len, echI_len]
 obtain ⟨m, hm⟩ := Int.eq_ofNat_of_zero_le (show 0 ≤ g.1 by omega)
 obtain ⟨ns, rfl, hlen, hb, he⟩ := okRows_up h
 have hmap : ((up ns).map (headW g)).map Int.toNat = ((up ns).map Int.toNat).map (· &&& (2 ^ m - 1)) := by
  rw [he]
  unfold up
  rw [List.map_map, List.map_map]
  refine List.map_congr_left fun n hn => ?_
  have h1 := hb n hn
  have h2 : 2 ^ m ≤ 2 ^ 62 := pow_le (by omega)
  simp only [Function.comp_apply]
  unfold headW
  rw [hm, top1_nat (by omega), iand_nat (by omega) (by omega), Int.toNat_natCast]
 constructor
 ·rw [hmap] at h2 ⊢
  exact h1.map_le (f := (· &&& (2 ^ m - 1))) (Nat.zero_and _) (fun a b => Nat.and_xor_distrib_right) h2
 ·have := h1.le
  simpa using this
end Go.Proofs.Ytddaclhjnkimfaa

namespace Go.Proofs.Ytddaclhjnkimfaa
open Go Go.Abs Go.Proofs
noncomputable def i_works_data_40d4_l7 (h7_0_0 : TWorks) (h7_0_1 : Int) (h7_0_4 : (List Int)) : (Int × (List Int)) → Tre ((Int × (List Int)) ⊕ (List Int)) := fun s7 =>
 .cond (decide (s7.1 < h7_0_1))
  (.ite (0 ≤ s7.1 ∧ s7.1 < (h7_0_4.length : Int)) <|
  .mat (h7_0_4[s7.1.toNat]?) fun x5 =>
  .ite (0 ≤ h7_0_0.2.1.1) <|
  let v6 := ishr .i64 x5 h7_0_0.2.1.1
  .ite ((s7.2.length + 1) * 8 ≤ appendMax ∧ 1 ≤ 8) <|
  .ret (.inl (iwrap .i64 (s7.1 + 1), s7.2 ++ ([v6]))))
  (.ret (.inr s7.2))
noncomputable def i_works_data_40d4 (p0 : TWorks) (p1 : Int) : Tre (Int × (List Int)) :=
 .mat (wspR p0 p1) fun r1 =>
 .cond (!decide (r1 = 0))
  (.ret (8, []))
  (.mat (wrankR p0 p1) fun r2 =>
  .cond (decide (r2 < p0.2.1.1))
   (.ret (6, []))
   (.ite (0 ≤ p1 ∧ p1 < (p0.1.1.length : Int)) <|
   .mat (p0.1.1[p1.toNat]?) fun x3 =>
   .mat (echA x3.1) fun r4 =>
   .mat (loopF (i_works_data_40d4_l7 p0 (r4.length : Int) r4) (0, [])) fun l7 =>
   .ret (0, l7)))
noncomputable def i_works_data_40d4_F (p0 : TWorks) (p1 : Int) : Option (Int × (List Int)) := (i_works_data_40d4 p0 p1).run some
noncomputable def wdatR (p : P8 × (G8 × Unit)) (s : Int) : Option (Int × List Int) := askO (okW 1000 s p) (datM p.2.1 (rowsP p.1 s))
theorem i_works_data_40d4_spec (p0 : P8 × (G8 × Unit)) (p1 : Int) (y : Int × List Int) (h : wdatR p0 p1 = some y) : i_works_data_40d4_F p0 p1 = some y := by
 obtain ⟨hok, rfl⟩ := askO_some h
 have hs : wspR p0 p1 = some _ := askO_true hok
 have hw : wrankR p0 p1 = some _ := askO_true hok
 obtain ⟨i, x, rfl, hx, hi, hk, hg⟩ := okW_at hok
 have hb := isG_spec hg
 have hrows : rowsP p0.1 (i : Int) = x.1 := by unfold rowsP; rw [Int.toNat_natCast, hx]
 rw [hrows] at hs hw ⊢
 have hr : okRows 62 x.1 = true := okS_rows hk (by omega) (by have := (colsG_le hg).1; omega)
 have hle : (echI x.1).length ≤ x.1.length := (rank_bounds (g := p0.2.1) (by omega) hr).2
 have hl := (okS_spec.1 hk).1
 unfold i_works_data_40d4_F i_works_data_40d4 datM
 rw [run_some_mat hs, Tre.run_cond]
 by_cases h0 : iwrap .i64 (spoiltM p0.2.1 x.1) = 0
 ·rw [decide_eq_true h0, Bool.not_true, cond_false, cond_true, run_some_mat hw, Tre.run_cond]
  cases decide (rankM p0.2.1 x.1 < p0.2.1.1)
  ·rw [cond_false, cond_false, Tre.run_ite, if_pos ⟨by omega, by omega⟩, Int.toNat_natCast, run_some_mat hx, run_some_mat (show echA x.1 = some (echI x.1) from askO_true hr)]
   generalize echI x.1 = E at hle
   have := fold_loop (xs := E) (step := i_works_data_40d4_l7 p0 (E.length : Int) E) (fun i acc => ((i : Int), acc)) (fun _ acc x => .inl (acc ++ [tailW p0.2.1 x])) id (fun i acc => acc.length = i) (by
    intro i acc x hx hI
    have hi : i < E.length := (List.getElem?_eq_some_iff.1 hx).1
    refine ⟨?_, fun a ha => by cases ha; simp [hI]⟩
    unfold i_works_data_40d4_l7
    rw [run_inb hx, Tre.run_ite, if_pos (by omega)]
    dsimp only
    rw [Tre.run_ite, if_pos (by unfold appendMax; omega), Tre.run_ret, iwrap_succ (by omega)]
    rfl)
    (by
    intro acc _
    unfold i_works_data_40d4_l7
    exact run_out) E 0 [] rfl (Nat.zero_le _) rfl
   rw [foldE_heads] at this
   have h1 : loopF (i_works_data_40d4_l7 p0 (E.length : Int) E) (0, []) = some (E.map (tailW p0.2.1)) := this
   rw [run_some_mat h1]
   rfl
  ·rfl
 ·rw [decide_eq_false h0]; rfl
noncomputable def i_works_data_40d4_V : Env := ⟨tau, [(67, i_works_spoilt_40d4_c), (66, i_works_rank_40d4_c), (82, i_echelon_c)], []⟩
noncomputable def i_works_data_40d4_b : Code := (Try.f54.body).getD .skip
noncomputable def i_works_data_40d4_l7_mk (z7_0 : Bool) (h7_0_0 : TWorks) (h7_0_1 : Int) (h7_0_4 : (List Int)) : (Int × (List Int)) → St := fun x => stOf [(0, (.iptr z7_0 (.sl kWorks) ([h7_0_0]) [.idx 0])), (6, (.ref (8, 0) [])), (34, (.ref (36, 0) [])), (35, (.imm true (.int .i64) h7_0_1)), (36, (.imm true (.int .i64) x.1))] [((8, 0), some ⟨false, (.sl (.int .i64)), .own, x.2⟩), ((36, 0), some ⟨false, (.sl (.int .i64)), .own, h7_0_4⟩)]
noncomputable def i_works_data_40d4_l7_out (_z7_0 : Bool) (_h7_0_0 : TWorks) (_h7_0_1 : Int) (_h7_0_4 : (List Int)) : (List Int) → Ex × St := fun x => (.exit 1, stOf [(6, (.ref (8, 0) []))] [((8, 0), some ⟨false, (.sl (.int .i64)), .own, x⟩)])
noncomputable def i_works_data_40d4_l7_D (s : St) : Tre (Ex × St) :=
 asIptr kWorks (s.tmps 0) fun z2 d3 =>
 asRef (8, 0) [] (s.tmps 6) <|
 asRef (36, 0) [] (s.tmps 34) <|
 asImmZ true (.int .i64) (s.tmps 35) fun d7 =>
 asImmZ true (.int .i64) (s.tmps 36) fun d9 =>
 asRoot false (.sl (.int .i64)) (s.roots (8, 0)) fun m11 d12 =>
 asM .own m11 <|
 asRoot false (.sl (.int .i64)) (s.roots (36, 0)) fun m14 d15 =>
 asM .own m14 <|
 .mat (loopF (i_works_data_40d4_l7 d3 d7 d15) (d9, d12)) fun x => .ret (i_works_data_40d4_l7_out z2 d3 d7 d15 x)
noncomputable def i_works_data_40d4_l7_L : LoopI := ⟨([0, 6, 34, 35, 36], [(8, 0), (36, 0)]), ([6], [(8, 0)]), i_works_data_40d4_l7_D⟩
noncomputable def i_works_data_40d4_A : List (Nat × LoopI) := [(7, i_works_data_40d4_l7_L)]
set_option maxRecDepth 100000 in
theorem i_works_data_40d4_l7_step : ∀ (z7_0 : Bool) (h7_0_0 : TWorks) (h7_0_1 : Int) (h7_0_4 : (List Int)) (x : (Int × (List Int))) (c : St → Option (Ex × St)), den i_works_data_40d4_V i_works_data_40d4_A (loopAt i_works_data_40d4_b 0) (i_works_data_40d4_l7_mk z7_0 h7_0_0 h7_0_1 h7_0_4 x) (roundK i_works_data_40d4_l7_L.kp i_works_data_40d4_l7_L.kx c) = (i_works_data_40d4_l7 h7_0_0 h7_0_1 h7_0_4 x).run (roundR (i_works_data_40d4_l7_mk z7_0 h7_0_0 h7_0_1 h7_0_4) (i_works_data_40d4_l7_out z7_0 h7_0_0 h7_0_1 h7_0_4) c) := fun _ _ _ _ _ _ => by
 kernel_rfl
theorem i_works_data_40d4_l7_ok : LoopOK i_works_data_40d4_V i_works_data_40d4_A (loopAt i_works_data_40d4_b 0) i_works_data_40d4_l7_L := loopOK_of fun s e s' h => by
 generalize hs : restrict i_works_data_40d4_l7_L.kp s = s1 at h
 have h : (i_works_data_40d4_l7_D s1).run some = some (e, s') := h
 obtain ⟨z2, d3, e1, h_0⟩ := asIptr_spec h
 obtain ⟨e4, h_1⟩ := asRef_spec h_0
 obtain ⟨e5, h_2⟩ := asRef_spec h_1
 obtain ⟨d7, e6, h_3⟩ := asImmZ_spec h_2
 obtain ⟨d9, e8, h_4⟩ := asImmZ_spec h_3
 obtain ⟨m11, d12, e10, h_5⟩ := asRoot_spec h_4
 obtain ⟨rfl, h_6⟩ := asM_spec h_5
 obtain ⟨m14, d15, e13, h_7⟩ := asRoot_spec h_6
 obtain ⟨rfl, h_8⟩ := asM_spec h_7
 obtain ⟨y, hy, hz⟩ := mat_ret h_8
 refine ⟨_, _, i_works_data_40d4_l7_mk z2 d3 d7 d15, i_works_data_40d4_l7_out z2 d3 d7 d15, i_works_data_40d4_l7 d3 d7 d15, (d9, d12), y, ?_, hy, ?_, i_works_data_40d4_l7_step z2 d3 d7 d15⟩
 ·subst hs; exact restrict_eq (T := [(0, (.iptr z2 (.sl kWorks) ([d3]) [.idx 0])), (6, (.ref (8, 0) [])), (34, (.ref (36, 0) [])), (35, (.imm true (.int .i64) d7)), (36, (.imm true (.int .i64) d9))]) (U := [((8, 0), some ⟨false, (.sl (.int .i64)), .own, d12⟩), ((36, 0), some ⟨false, (.sl (.int .i64)), .own, d15⟩)]) rfl rfl ⟨e1, e4, e5, e6, e8, trivial⟩ ⟨e10, e13, trivial⟩
 ·exact Option.some.inj hz
noncomputable def i_works_data_40d4_I : FnI := ⟨i_works_data_40d4_b, Try.f54.results.toList, Try.f54.resultTypes.toList, i_works_data_40d4_A⟩
noncomputable def i_works_data_40d4_out (_zp0 : Bool) (_p0 : TWorks) (_p1 : Int) : (Int × (List Int)) → CallOut := fun r => ⟨(.tcons (.ref (1, 0) []) (.tcons (.imm true (.int .i64) r.1) .tnil)), [], [⟨false, (.sl (.int .i64)), .own, r.2⟩]⟩
set_option maxRecDepth 100000 in
theorem i_works_data_40d4_eq : ∀ (zp0 : Bool) (p0 : TWorks) (p1 : Int), denFn i_works_data_40d4_V i_works_data_40d4_I ⟨[(.iptr zp0 (.sl kWorks) ([p0]) [.idx 0]), (.imm true (.int .i64) p1)], []⟩ = (i_works_data_40d4 p0 p1).run fun r => some (i_works_data_40d4_out zp0 p0 p1 r) := fun _ _ _ => by kernel_rfl
noncomputable def i_works_data_40d4_G (av : List AV) (rs : List Root) : Tre CallOut :=
 asCons av fun a0_ av0 =>
 asCons av0 fun a1_ av1 =>
 asEnd av1 <|
 asEnd rs <|
 asIptr kWorks a0_ fun z1 d2 =>
 asImmZ true (.int .i64) a1_ fun d3 =>
 .mat (wdatR d2 d3) fun r => .ret (i_works_data_40d4_out z1 d2 d3 r)
noncomputable def i_works_data_40d4_c : Ctr := ⟨[0], fun ci => i_works_data_40d4_G ci.args ci.roots⟩
theorem i_works_data_40d4_env : EnvOK Try.prog i_works_data_40d4_V := (envOK_cons i_works_spoilt_40d4_ok ent67 (envOK_cons i_works_rank_40d4_ok ent66 (envOK_cons i_echelon_ok ent82 envOK_nil)))
set_option maxRecDepth 100000 in
theorem i_works_data_40d4_ok : Contract Try.prog 54 i_works_data_40d4_c := by
 have hl : LoopsOK i_works_data_40d4_V i_works_data_40d4_A i_works_data_40d4_b := (loopsOK_all (n := 1) (by kernel_rfl) fun k hk => by
   match k, hk with
   | 0, _ => exact loopOK_at (id := 7) (L := i_works_data_40d4_l7_L) (by kernel_rfl) (by kernel_rfl) i_works_data_40d4_l7_ok)
 refine (contract_of (F := i_works_data_40d4_I) tau_tys i_works_data_40d4_env Try.func54 (by kernel_rfl) (by kernel_rfl) (by kernel_rfl) hl [0]).weaken ?_
 rintro ⟨av, rs⟩ co h
 have h : (i_works_data_40d4_G av rs).run some = some co := h
 obtain ⟨a0_, av0, rfl, h_0⟩ := asCons_spec h
 obtain ⟨a1_, av1, rfl, h_1⟩ := asCons_spec h_0
 obtain ⟨rfl, h_2⟩ := asEnd_spec h_1
 obtain ⟨rfl, h_3⟩ := asEnd_spec h_2
 obtain ⟨z1, d2, rfl, h_4⟩ := asIptr_spec h_3
 obtain ⟨d3, rfl, h_5⟩ := asImmZ_spec h_4
 exact fin_opt (i_works_data_40d4_eq z1 d2 d3) (i_works_data_40d4_spec d2 d3) h_5
end Go.Proofs.Ytddaclhjnkimfaa

namespace Go.Proofs.Ytddaclhjnkimfaa
open Go Go.Abs Go.Proofs
noncomputable def datAM (g : G8) (ds : List D8) (s : Int) : Int × List Int := cond (decide (codeM g ds s = 0)) (datM g (rowsM g ds s)) (codeM g ds s, [])
noncomputable def datAR (g : G8) (ds : List D8) (s : Int) : Option (Int × List Int) := askO (decide (g.2.2.1.length ≤ 1048576) && decide (ds.length ≤ 1048576)) (datAM g ds s)
end Go.Proofs.Ytddaclhjnkimfaa

namespace Go.Proofs.Ytddaclhjnkimfaa
open Go Go.Abs Go.Proofs
noncomputable def i_DataAfter (p0 : TGather) (p1 : (List TDeed)) (p2 : Int) : Tre (Int × (List Int)) :=
 .mat (codeR p0 p1 p2) fun r1 =>
 .cond (!decide (r1 = 0))
  (.ret (r1, []))
  (.mat (afterR p0 p1) fun r2 =>
  .mat (wdatR r2.2 p2) fun r3 =>
  .ret (r3.1, r3.2))
noncomputable def i_DataAfter_F (p0 : TGather) (p1 : (List TDeed)) (p2 : Int) : Option (Int × (List Int)) := (i_DataAfter p0 p1 p2).run some
theorem i_DataAfter_spec (p0 : G8) (p1 : List D8) (p2 : Int) (y : Int × List Int) (h : datAR p0 p1 p2 = some y) : i_DataAfter_F p0 p1 p2 = some y := by
 obtain ⟨hok, rfl⟩ := askO_some h
 unfold i_DataAfter_F i_DataAfter datAM
 rw [run_some_mat (show codeR p0 p1 p2 = some _ from askO_true hok), Tre.run_cond]
 by_cases h0 : codeM p0 p1 p2 = 0
 ·rw [decide_eq_true h0, Bool.not_true, cond_false, cond_true, run_some_mat (after_some h0), run_some_mat (show wdatR (afterM p0 p1, (p0, ())) p2 = some _ from askO_true (okW_mono (okW_after h0) (by omega)))]
  rfl
 ·rw [decide_eq_false h0]; rfl
noncomputable def i_DataAfter_V : Env := ⟨tau, [(40, i_deedsCode_c), (41, i_after_c), (54, i_works_data_40d4_c)], []⟩
noncomputable def i_DataAfter_b : Code := (Try.f31.body).getD .skip
noncomputable def i_DataAfter_I : FnI := ⟨i_DataAfter_b, Try.f31.results.toList, Try.f31.resultTypes.toList, []⟩
noncomputable def i_DataAfter_out (_zp0 : Bool) (_zp1 : Bool) (_p0 : TGather) (_p1 : (List TDeed)) (_p2 : Int) : (Int × (List Int)) → CallOut := fun r => ⟨(.tcons (.ref (1, 0) []) (.tcons (.imm true (.int .i64) r.1) .tnil)), [], [⟨false, (.sl (.int .i64)), .own, r.2⟩]⟩
set_option maxRecDepth 100000 in
theorem i_DataAfter_eq : ∀ (zp0 : Bool) (zp1 : Bool) (p0 : TGather) (p1 : (List TDeed)) (p2 : Int), denFn i_DataAfter_V i_DataAfter_I ⟨[(.imm zp0 kGather p0), (.imm zp1 (.sl kDeed) p1), (.imm true (.int .i64) p2)], []⟩ = (i_DataAfter p0 p1 p2).run fun r => some (i_DataAfter_out zp0 zp1 p0 p1 p2 r) := fun _ _ _ _ _ => by kernel_rfl
noncomputable def i_DataAfter_G (av : List AV) (rs : List Root) : Tre CallOut :=
 asCons av fun a0_ av0 =>
 asCons av0 fun a1_ av1 =>
 asCons av1 fun a2_ av2 =>
 asEnd av2 <|
 asEnd rs <|
 asImm kGather a0_ fun z2 d1 =>
 asImm (.sl kDeed) a1_ fun z4 d3 =>
 asImmZ true (.int .i64) a2_ fun d5 =>
 .mat (datAR d1 d3 d5) fun r => .ret (i_DataAfter_out z2 z4 d1 d3 d5 r)
noncomputable def i_DataAfter_c : Ctr := ⟨[], fun ci => i_DataAfter_G ci.args ci.roots⟩
theorem i_DataAfter_env : EnvOK Try.prog i_DataAfter_V := (envOK_cons i_deedsCode_ok ent40 (envOK_cons i_after_ok ent41 (envOK_cons i_works_data_40d4_ok ent54 envOK_nil)))
set_option maxRecDepth 100000 in
theorem i_DataAfter_ok : Contract Try.prog 31 i_DataAfter_c := by
 have hl : LoopsOK i_DataAfter_V [] i_DataAfter_b := loopsOK_nil (by kernel_rfl)
 refine (contract_of (F := i_DataAfter_I) tau_tys i_DataAfter_env Try.func31 (by kernel_rfl) (by kernel_rfl) (by kernel_rfl) hl []).weaken ?_
 rintro ⟨av, rs⟩ co h
 have h : (i_DataAfter_G av rs).run some = some co := h
 obtain ⟨a0_, av0, rfl, h_0⟩ := asCons_spec h
 obtain ⟨a1_, av1, rfl, h_1⟩ := asCons_spec h_0
 obtain ⟨a2_, av2, rfl, h_2⟩ := asCons_spec h_1
 obtain ⟨rfl, h_3⟩ := asEnd_spec h_2
 obtain ⟨rfl, h_4⟩ := asEnd_spec h_3
 obtain ⟨z2, d1, rfl, h_5⟩ := asImm_spec h_4
 obtain ⟨z4, d3, rfl, h_6⟩ := asImm_spec h_5
 obtain ⟨d5, rfl, h_7⟩ := asImmZ_spec h_6
 exact fin_opt (i_DataAfter_eq z2 z4 d1 d3 d5) (i_DataAfter_spec d1 d3 d5) h_7
end Go.Proofs.Ytddaclhjnkimfaa

namespace Go.Proofs.Ytddaclhjnkimfaa
open Go Go.Abs Go.Proofs
noncomputable def i_MissedByc1_9af1 (p0 : Int) (p1 : TGather) : Tre Bool :=
 let v1 := iwrap .i64 (p1.1 + p1.2.1)
 .ite (0 ≤ v1) <|
 let v2 := iwrap .i64 ((ishl .i64 1 v1) - 1)
 .ret (!(inR p0 0 v2))
noncomputable def i_MissedByc1_9af1_F (p0 : Int) (p1 : TGather) : Option Bool := (i_MissedByc1_9af1 p0 p1).run some
def noM (x : Int) (p : Int × Int × List Int × Int × Int × Unit) : Option Bool := askO (decide (0 ≤ iwrap .i64 (p.1 + p.2.1))) (!inP (iwrap .i64 (p.1 + p.2.1)) x)
theorem i_MissedByc1_9af1_spec (p0 : Int) (p1 : Int × Int × List Int × Int × Int × Unit) (y : Bool) (h : noM p0 p1 = some y) : i_MissedByc1_9af1_F p0 p1 = some y := by
 obtain ⟨hl, rfl⟩ := askO_some h
 unfold i_MissedByc1_9af1_F i_MissedByc1_9af1
 dsimp only
 rw [Tre.run_ite, if_pos (of_decide_eq_true hl)]
 rfl
noncomputable def i_MissedByc1_9af1_V : Env := ⟨tau, [(70, i_within_c)], []⟩
noncomputable def i_MissedByc1_9af1_b : Code := (Try.f69.body).getD .skip
noncomputable def i_MissedByc1_9af1_I : FnI := ⟨i_MissedByc1_9af1_b, Try.f69.results.toList, Try.f69.resultTypes.toList, []⟩
noncomputable def i_MissedByc1_9af1_out (zp0 : Bool) (_p0 : Int) (p1 : TGather) : Bool → CallOut := fun r => ⟨(.imm true .bool r), [⟨true, kGather, (.imm zp0), p1⟩], []⟩
set_option maxRecDepth 100000 in
theorem i_MissedByc1_9af1_eq : ∀ (zp0 : Bool) (p0 : Int) (p1 : TGather), denFn i_MissedByc1_9af1_V i_MissedByc1_9af1_I ⟨[(.imm true (.int .i64) p0), (.ptr (0, 0) [])], [⟨true, kGather, (.imm zp0), p1⟩]⟩ = (i_MissedByc1_9af1 p0 p1).run fun r => some (i_MissedByc1_9af1_out zp0 p0 p1 r) := fun _ _ _ => by kernel_rfl
noncomputable def i_MissedByc1_9af1_G (av : List AV) (rs : List Root) : Tre CallOut :=
 asCons av fun a0_ av0 =>
 asCons av0 fun a1_ av1 =>
 asEnd av1 <|
 asCons rs fun r0_ rs0 =>
 asEnd rs0 <|
 asImmZ true (.int .i64) a0_ fun d1 =>
 asPtr (0, 0) [] a1_ <|
 asRt true kGather r0_ fun m2 d3 =>
 asMImm m2 fun z4 =>
 .mat (noM d1 d3) fun r => .ret (i_MissedByc1_9af1_out z4 d1 d3 r)
noncomputable def i_MissedByc1_9af1_c : Ctr := ⟨[], fun ci => i_MissedByc1_9af1_G ci.args ci.roots⟩
theorem i_MissedByc1_9af1_env : EnvOK Try.prog i_MissedByc1_9af1_V := (envOK_cons i_within_ok ent70 envOK_nil)
set_option maxRecDepth 100000 in
theorem i_MissedByc1_9af1_ok : Contract Try.prog 69 i_MissedByc1_9af1_c := by
 have hl : LoopsOK i_MissedByc1_9af1_V [] i_MissedByc1_9af1_b := loopsOK_nil (by kernel_rfl)
 refine (contract_of (F := i_MissedByc1_9af1_I) tau_tys i_MissedByc1_9af1_env Try.func69 (by kernel_rfl) (by kernel_rfl) (by kernel_rfl) hl []).weaken ?_
 rintro ⟨av, rs⟩ co h
 have h : (i_MissedByc1_9af1_G av rs).run some = some co := h
 obtain ⟨a0_, av0, rfl, h_0⟩ := asCons_spec h
 obtain ⟨a1_, av1, rfl, h_1⟩ := asCons_spec h_0
 obtain ⟨rfl, h_2⟩ := asEnd_spec h_1
 obtain ⟨r0_, rs0, rfl, h_3⟩ := asCons_spec h_2
 obtain ⟨rfl, h_4⟩ := asEnd_spec h_3
 obtain ⟨d1, rfl, h_5⟩ := asImmZ_spec h_4
 obtain ⟨rfl, h_6⟩ := asPtr_spec h_5
 obtain ⟨m2, d3, rfl, h_7⟩ := asRt_spec h_6
 obtain ⟨z4, rfl, h_8⟩ := asMImm_spec h_7
 exact fin_opt (i_MissedByc1_9af1_eq z4 d1 d3) (i_MissedByc1_9af1_spec d1 d3) h_8
end Go.Proofs.Ytddaclhjnkimfaa

namespace Go.Proofs.Ytddaclhjnkimfaa
open Go Go.Abs Go.Proofs
noncomputable def slices_IndexFunc_int64_i_MissedByc1_l2 (h2_0_0 : (List Int)) (h2_0_1 : Int) (h2_0_3 : TGather) : Int → Tre (Int ⊕ (Int ⊕ Unit)) := fun s2 =>
 .cond (decide (s2 < h2_0_1))
  (.ite (0 ≤ s2 ∧ s2 < (h2_0_0.length : Int)) <|
  .mat (h2_0_0[s2.toNat]?) fun x1 =>
  .mat (noM x1 h2_0_3) fun r2 =>
  .cond r2
   (.ret (.inr (.inl s2)))
   (.ret (.inl (iwrap .i64 (s2 + 1)))))
  (.ret (.inr (.inr ())))
noncomputable def slices_IndexFunc_int64_i_MissedByc1 (p0 : (List Int)) (p1 : TGather) : Tre Int :=
 .mat (loopF (slices_IndexFunc_int64_i_MissedByc1_l2 p0 (p0.length : Int) p1) 0) fun l3 =>
 .alt l3
  (fun a4 =>
   .ret a4)
  (fun _ =>
   .ret (-1))
noncomputable def slices_IndexFunc_int64_i_MissedByc1_F (p0 : (List Int)) (p1 : TGather) : Option Int := (slices_IndexFunc_int64_i_MissedByc1 p0 p1).run some
def idxM (xs : List Int) (p : Int × Int × List Int × Int × Int × Unit) : Option Int := askO (decide (0 ≤ (iwrap .i64 (p.1 + p.2.1))) && decide (xs.length ≤ 1048576)) (idxI (fun x => !inP (iwrap .i64 (p.1 + p.2.1)) x) 0 xs)
theorem slices_IndexFunc_int64_i_MissedByc1_spec (p0 : List Int) (p1 : Int × Int × List Int × Int × Int × Unit) (y : Int) (h : idxM p0 p1 = some y) : slices_IndexFunc_int64_i_MissedByc1_F p0 p1 = some y := by
 obtain ⟨hl, rfl⟩ := askO_some h
 rw [Bool.and_eq_true] at hl
 obtain ⟨hm, hl⟩ := hl
 have hl := of_decide_eq_true hl
 unfold slices_IndexFunc_int64_i_MissedByc1_F slices_IndexFunc_int64_i_MissedByc1
 rw [Tre.run_mat, find_loop (xs := p0) (fun i x => cond (!inP (iwrap .i64 (p1.1 + p1.2.1)) x) (some (.inl (i : Int))) none) (.inr ())]
 ·rw [Option.bind_some, ← findE_idx (p := fun x => !inP (iwrap .i64 (p1.1 + p1.2.1)) x)]
  generalize findE _ _ _ _ = r
  cases r <;> rfl
 ·intro i x hx
  have hi : i < p0.length := (List.getElem?_eq_some_iff.1 hx).1
  unfold slices_IndexFunc_int64_i_MissedByc1_l2
  rw [run_inb hx, run_some_mat (show noM x p1 = some _ from askO_true hm), Tre.run_cond]
  cases inP (iwrap .i64 (p1.1 + p1.2.1)) x
  ·rfl
  ·simp only [Bool.not_true, cond_false, Tre.run_ret, iwrap_succ (show i < 4611686018427387904 by omega)]
 ·unfold slices_IndexFunc_int64_i_MissedByc1_l2
  exact run_out
noncomputable def slices_IndexFunc_int64_i_MissedByc1_V : Env := ⟨tau, [(69, i_MissedByc1_9af1_c)], []⟩
noncomputable def slices_IndexFunc_int64_i_MissedByc1_b : Code := (Try.f98.body).getD .skip
noncomputable def slices_IndexFunc_int64_i_MissedByc1_l2_mk (z2_0 : Bool) (z2_1 : Bool) (h2_0_0 : (List Int)) (h2_0_1 : Int) (h2_0_3 : TGather) : Int → St := fun x => stOf [(0, (.imm z2_0 (.sl (.int .i64)) h2_0_0)), (1, (.fn 69 [(0, 0)])), (7, (.imm true (.int .i64) h2_0_1)), (8, (.imm true (.int .i64) x))] [((0, 0), some ⟨true, kGather, (.imm z2_1), h2_0_3⟩)]
noncomputable def slices_IndexFunc_int64_i_MissedByc1_l2_out (_z2_0 : Bool) (z2_1 : Bool) (_h2_0_0 : (List Int)) (_h2_0_1 : Int) (h2_0_3 : TGather) : (Int ⊕ Unit) → Ex × St
 | .inl x => (.ret, stOf [(4, (.imm true (.int .i64) x))] [((0, 0), some ⟨true, kGather, (.imm z2_1), h2_0_3⟩)])
 | .inr x => (.exit 0, stOf [(4, .dead)] [((0, 0), some ⟨true, kGather, (.imm z2_1), h2_0_3⟩)])
noncomputable def slices_IndexFunc_int64_i_MissedByc1_l2_D (s : St) : Tre (Ex × St) :=
 asImm (.sl (.int .i64)) (s.tmps 0) fun z3 d2 =>
 asFn 69 [(0, 0)] (s.tmps 1) <|
 asImmZ true (.int .i64) (s.tmps 7) fun d6 =>
 asImmZ true (.int .i64) (s.tmps 8) fun d8 =>
 asRoot true kGather (s.roots (0, 0)) fun m10 d11 =>
 asMImm m10 fun z12 =>
 .mat (loopF (slices_IndexFunc_int64_i_MissedByc1_l2 d2 d6 d11) d8) fun x => .alt x (fun a0 => .ret (slices_IndexFunc_int64_i_MissedByc1_l2_out z3 z12 d2 d6 d11 (.inl a0))) (fun b0 => .ret (slices_IndexFunc_int64_i_MissedByc1_l2_out z3 z12 d2 d6 d11 (.inr b0)))
noncomputable def slices_IndexFunc_int64_i_MissedByc1_l2_L : LoopI := ⟨([0, 1, 7, 8], [(0, 0)]), ([4], [(0, 0)]), slices_IndexFunc_int64_i_MissedByc1_l2_D⟩
noncomputable def slices_IndexFunc_int64_i_MissedByc1_A : List (Nat × LoopI) := [(2, slices_IndexFunc_int64_i_MissedByc1_l2_L)]
set_option maxRecDepth 100000 in
theorem slices_IndexFunc_int64_i_MissedByc1_l2_step : ∀ (z2_0 : Bool) (z2_1 : Bool) (h2_0_0 : (List Int)) (h2_0_1 : Int) (h2_0_3 : TGather) (x : Int) (c : St → Option (Ex × St)), den slices_IndexFunc_int64_i_MissedByc1_V slices_IndexFunc_int64_i_MissedByc1_A (loopAt slices_IndexFunc_int64_i_MissedByc1_b 0) (slices_IndexFunc_int64_i_MissedByc1_l2_mk z2_0 z2_1 h2_0_0 h2_0_1 h2_0_3 x) (roundK slices_IndexFunc_int64_i_MissedByc1_l2_L.kp slices_IndexFunc_int64_i_MissedByc1_l2_L.kx c) = (slices_IndexFunc_int64_i_MissedByc1_l2 h2_0_0 h2_0_1 h2_0_3 x).run (roundR (slices_IndexFunc_int64_i_MissedByc1_l2_mk z2_0 z2_1 h2_0_0 h2_0_1 h2_0_3) (slices_IndexFunc_int64_i_MissedByc1_l2_out z2_0 z2_1 h2_0_0 h2_0_1 h2_0_3) c) := fun _ _ _ _ _ _ _ => by
 kernel_rfl
theorem slices_IndexFunc_int64_i_MissedByc1_l2_ok : LoopOK slices_IndexFunc_int64_i_MissedByc1_V slices_IndexFunc_int64_i_MissedByc1_A (loopAt slices_IndexFunc_int64_i_MissedByc1_b 0) slices_IndexFunc_int64_i_MissedByc1_l2_L := loopOK_of fun s e s' h => by
 generalize hs : restrict slices_IndexFunc_int64_i_MissedByc1_l2_L.kp s = s1 at h
 have h : (slices_IndexFunc_int64_i_MissedByc1_l2_D s1).run some = some (e, s') := h
 obtain ⟨z3, d2, e1, h_0⟩ := asImm_spec h
 obtain ⟨e4, h_1⟩ := asFn_spec h_0
 obtain ⟨d6, e5, h_2⟩ := asImmZ_spec h_1
 obtain ⟨d8, e7, h_3⟩ := asImmZ_spec h_2
 obtain ⟨m10, d11, e9, h_4⟩ := asRoot_spec h_3
 obtain ⟨z12, rfl, h_5⟩ := asMImm_spec h_4
 obtain ⟨y, hy, hz⟩ := mat_some h_5
 refine ⟨_, _, slices_IndexFunc_int64_i_MissedByc1_l2_mk z3 z12 d2 d6 d11, slices_IndexFunc_int64_i_MissedByc1_l2_out z3 z12 d2 d6 d11, slices_IndexFunc_int64_i_MissedByc1_l2 d2 d6 d11, d8, y, ?_, hy, ?_, slices_IndexFunc_int64_i_MissedByc1_l2_step z3 z12 d2 d6 d11⟩
 ·subst hs; exact restrict_eq (T := [(0, (.imm z3 (.sl (.int .i64)) d2)), (1, (.fn 69 [(0, 0)])), (7, (.imm true (.int .i64) d6)), (8, (.imm true (.int .i64) d8))]) (U := [((0, 0), some ⟨true, kGather, (.imm z12), d11⟩)]) rfl rfl ⟨e1, e4, e5, e7, trivial⟩ ⟨e9, trivial⟩
 ·rcases y with x | x <;> exact Option.some.inj hz
noncomputable def slices_IndexFunc_int64_i_MissedByc1_I : FnI := ⟨slices_IndexFunc_int64_i_MissedByc1_b, Try.f98.results.toList, Try.f98.resultTypes.toList, slices_IndexFunc_int64_i_MissedByc1_A⟩
noncomputable def slices_IndexFunc_int64_i_MissedByc1_out (_zp0 : Bool) (zp1 : Bool) (_p0 : (List Int)) (p1 : TGather) : Int → CallOut := fun r => ⟨(.imm true (.int .i64) r), [⟨true, kGather, (.imm zp1), p1⟩], []⟩
set_option maxRecDepth 100000 in
theorem slices_IndexFunc_int64_i_MissedByc1_eq : ∀ (zp0 : Bool) (zp1 : Bool) (p0 : (List Int)) (p1 : TGather), denFn slices_IndexFunc_int64_i_MissedByc1_V slices_IndexFunc_int64_i_MissedByc1_I ⟨[(.imm zp0 (.sl (.int .i64)) p0), (.fn 69 [(0, 0)])], [⟨true, kGather, (.imm zp1), p1⟩]⟩ = (slices_IndexFunc_int64_i_MissedByc1 p0 p1).run fun r => some (slices_IndexFunc_int64_i_MissedByc1_out zp0 zp1 p0 p1 r) := fun _ _ _ _ => by kernel_rfl
noncomputable def slices_IndexFunc_int64_i_MissedByc1_G (av : List AV) (rs : List Root) : Tre CallOut :=
 asCons av fun a0_ av0 =>
 asCons av0 fun a1_ av1 =>
 asEnd av1 <|
 asCons rs fun r0_ rs0 =>
 asEnd rs0 <|
 asImm (.sl (.int .i64)) a0_ fun z2 d1 =>
 asFn 69 [(0, 0)] a1_ <|
 asRt true kGather r0_ fun m3 d4 =>
 asMImm m3 fun z5 =>
 .mat (idxM d1 d4) fun r => .ret (slices_IndexFunc_int64_i_MissedByc1_out z2 z5 d1 d4 r)
noncomputable def slices_IndexFunc_int64_i_MissedByc1_c : Ctr := ⟨[], fun ci => slices_IndexFunc_int64_i_MissedByc1_G ci.args ci.roots⟩
theorem slices_IndexFunc_int64_i_MissedByc1_env : EnvOK Try.prog slices_IndexFunc_int64_i_MissedByc1_V := (envOK_cons i_MissedByc1_9af1_ok ent69 envOK_nil)
set_option maxRecDepth 100000 in
theorem slices_IndexFunc_int64_i_MissedByc1_ok : Contract Try.prog 98 slices_IndexFunc_int64_i_MissedByc1_c := by
 have hl : LoopsOK slices_IndexFunc_int64_i_MissedByc1_V slices_IndexFunc_int64_i_MissedByc1_A slices_IndexFunc_int64_i_MissedByc1_b := (loopsOK_all (n := 1) (by kernel_rfl) fun k hk => by
   match k, hk with
   | 0, _ => exact loopOK_at (id := 2) (L := slices_IndexFunc_int64_i_MissedByc1_l2_L) (by kernel_rfl) (by kernel_rfl) slices_IndexFunc_int64_i_MissedByc1_l2_ok)
 refine (contract_of (F := slices_IndexFunc_int64_i_MissedByc1_I) tau_tys slices_IndexFunc_int64_i_MissedByc1_env Try.func98 (by kernel_rfl) (by kernel_rfl) (by kernel_rfl) hl []).weaken ?_
 rintro ⟨av, rs⟩ co h
 have h : (slices_IndexFunc_int64_i_MissedByc1_G av rs).run some = some co := h
 obtain ⟨a0_, av0, rfl, h_0⟩ := asCons_spec h
 obtain ⟨a1_, av1, rfl, h_1⟩ := asCons_spec h_0
 obtain ⟨rfl, h_2⟩ := asEnd_spec h_1
 obtain ⟨r0_, rs0, rfl, h_3⟩ := asCons_spec h_2
 obtain ⟨rfl, h_4⟩ := asEnd_spec h_3
 obtain ⟨z2, d1, rfl, h_5⟩ := asImm_spec h_4
 obtain ⟨rfl, h_6⟩ := asFn_spec h_5
 obtain ⟨m3, d4, rfl, h_7⟩ := asRt_spec h_6
 obtain ⟨z5, rfl, h_8⟩ := asMImm_spec h_7
 exact fin_opt (slices_IndexFunc_int64_i_MissedByc1_eq z2 z5 d1 d4) (slices_IndexFunc_int64_i_MissedByc1_spec d1 d4) h_8
end Go.Proofs.Ytddaclhjnkimfaa

namespace Go.Proofs.Ytddaclhjnkimfaa
open Go Go.Abs Go.Proofs
noncomputable def slices_ContainsFunc_int64_i_MissedByc1 (p0 : (List Int)) (p1 : TGather) : Tre Bool :=
 .mat (idxM p0 p1) fun r1 =>
 .ret (decide (r1 ≥ 0))
noncomputable def slices_ContainsFunc_int64_i_MissedByc1_F (p0 : (List Int)) (p1 : TGather) : Option Bool := (slices_ContainsFunc_int64_i_MissedByc1 p0 p1).run some
def hasM (xs : List Int) (p : Int × Int × List Int × Int × Int × Unit) : Option Bool := askO (decide (0 ≤ (iwrap .i64 (p.1 + p.2.1))) && decide (xs.length ≤ 1048576)) (xs.any fun x => !inP (iwrap .i64 (p.1 + p.2.1)) x)
theorem slices_ContainsFunc_int64_i_MissedByc1_spec (p0 : List Int) (p1 : Int × Int × List Int × Int × Int × Unit) (y : Bool) (h : hasM p0 p1 = some y) : slices_ContainsFunc_int64_i_MissedByc1_F p0 p1 = some y := by
 obtain ⟨hl, rfl⟩ := askO_some h
 unfold slices_ContainsFunc_int64_i_MissedByc1_F slices_ContainsFunc_int64_i_MissedByc1
 rw [run_some_mat (show idxM p0 p1 = some _ from askO_true hl), Tre.run_ret, idxI_any]
noncomputable def slices_ContainsFunc_int64_i_MissedByc1_V : Env := ⟨tau, [(98, slices_IndexFunc_int64_i_MissedByc1_c)], []⟩
noncomputable def slices_ContainsFunc_int64_i_MissedByc1_b : Code := (Try.f68.body).getD .skip
noncomputable def slices_ContainsFunc_int64_i_MissedByc1_I : FnI := ⟨slices_ContainsFunc_int64_i_MissedByc1_b, Try.f68.results.toList, Try.f68.resultTypes.toList, []⟩
noncomputable def slices_ContainsFunc_int64_i_MissedByc1_out (_zp0 : Bool) (zp1 : Bool) (_p0 : (List Int)) (p1 : TGather) : Bool → CallOut := fun r => ⟨(.imm true .bool r), [⟨true, kGather, (.imm zp1), p1⟩], []⟩
set_option maxRecDepth 100000 in
theorem slices_ContainsFunc_int64_i_MissedByc1_eq : ∀ (zp0 : Bool) (zp1 : Bool) (p0 : (List Int)) (p1 : TGather), denFn slices_ContainsFunc_int64_i_MissedByc1_V slices_ContainsFunc_int64_i_MissedByc1_I ⟨[(.imm zp0 (.sl (.int .i64)) p0), (.fn 69 [(0, 0)])], [⟨true, kGather, (.imm zp1), p1⟩]⟩ = (slices_ContainsFunc_int64_i_MissedByc1 p0 p1).run fun r => some (slices_ContainsFunc_int64_i_MissedByc1_out zp0 zp1 p0 p1 r) := fun _ _ _ _ => by kernel_rfl
noncomputable def slices_ContainsFunc_int64_i_MissedByc1_G (av : List AV) (rs : List Root) : Tre CallOut :=
 asCons av fun a0_ av0 =>
 asCons av0 fun a1_ av1 =>
 asEnd av1 <|
 asCons rs fun r0_ rs0 =>
 asEnd rs0 <|
 asImm (.sl (.int .i64)) a0_ fun z2 d1 =>
 asFn 69 [(0, 0)] a1_ <|
 asRt true kGather r0_ fun m3 d4 =>
 asMImm m3 fun z5 =>
 .mat (hasM d1 d4) fun r => .ret (slices_ContainsFunc_int64_i_MissedByc1_out z2 z5 d1 d4 r)
noncomputable def slices_ContainsFunc_int64_i_MissedByc1_c : Ctr := ⟨[], fun ci => slices_ContainsFunc_int64_i_MissedByc1_G ci.args ci.roots⟩
theorem slices_ContainsFunc_int64_i_MissedByc1_env : EnvOK Try.prog slices_ContainsFunc_int64_i_MissedByc1_V := (envOK_cons slices_IndexFunc_int64_i_MissedByc1_ok ent98 envOK_nil)
set_option maxRecDepth 100000 in
theorem slices_ContainsFunc_int64_i_MissedByc1_ok : Contract Try.prog 68 slices_ContainsFunc_int64_i_MissedByc1_c := by
 have hl : LoopsOK slices_ContainsFunc_int64_i_MissedByc1_V [] slices_ContainsFunc_int64_i_MissedByc1_b := loopsOK_nil (by kernel_rfl)
 refine (contract_of (F := slices_ContainsFunc_int64_i_MissedByc1_I) tau_tys slices_ContainsFunc_int64_i_MissedByc1_env Try.func68 (by kernel_rfl) (by kernel_rfl) (by kernel_rfl) hl []).weaken ?_
 rintro ⟨av, rs⟩ co h
 have h : (slices_ContainsFunc_int64_i_MissedByc1_G av rs).run some = some co := h
 obtain ⟨a0_, av0, rfl, h_0⟩ := asCons_spec h
 obtain ⟨a1_, av1, rfl, h_1⟩ := asCons_spec h_0
 obtain ⟨rfl, h_2⟩ := asEnd_spec h_1
 obtain ⟨r0_, rs0, rfl, h_3⟩ := asCons_spec h_2
 obtain ⟨rfl, h_4⟩ := asEnd_spec h_3
 obtain ⟨z2, d1, rfl, h_5⟩ := asImm_spec h_4
 obtain ⟨rfl, h_6⟩ := asFn_spec h_5
 obtain ⟨m3, d4, rfl, h_7⟩ := asRt_spec h_6
 obtain ⟨z5, rfl, h_8⟩ := asMImm_spec h_7
 exact fin_opt (slices_ContainsFunc_int64_i_MissedByc1_eq z2 z5 d1 d4) (slices_ContainsFunc_int64_i_MissedByc1_spec d1 d4) h_8
end Go.Proofs.Ytddaclhjnkimfaa

namespace Go.Proofs.Ytddaclhjnkimfaa
open Go Go.Abs Go.Proofs
def missW (g : Int × Int × List Int × Int × Int × Unit) (ds : List Int) (x : Int) : Int := ixor .i64 (ishr .i64 x g.1) (timesL (iand .i64 x (top1 g.1)) ds)
def okM (ps ds : List Int) (g : Int × Int × List Int × Int × Int × Unit) : Bool := inR g.1 1 4 && inR g.2.1 1 6 && decide (ps.length ≤ 1048576) && decide (ds.length ≤ 1048576) && ps.all (inP (g.1 + g.2.1)) && ds.all (inP g.2.1)
noncomputable def missN (ps ds : List Int) (g : Int × Int × List Int × Int × Int × Unit) : Int := (echI (ps.map (missW g ds))).length
noncomputable def missR (ps ds : List Int) (g : Int × Int × List Int × Int × Int × Unit) : Option Int := askO (okM ps ds g) (missN ps ds g)
theorem top1_def (m : Int) : iwrap .i64 (ishl .i64 1 m - 1) = top1 m := rfl
theorem foldE_map (f : Int → Int) : ∀ (l : List Int) (i : Nat) (acc : List Int), foldE (β := List Int) (fun _ acc x => .inl (acc ++ [f x])) id i acc l = acc ++ l.map f := by
 intro l
 induction l with
 | nil => intro i acc; simp [foldE]
 | cons x l ih => intro i acc; simp only [foldE]; rw [ih]; simp
theorem missW_ok {ps ds : List Int} {g : Int × Int × List Int × Int × Int × Unit} (h : okM ps ds g = true) : okRows g.2.1.toNat (ps.map (missW g ds)) = true ∧ okRows 62 (ps.map (missW g ds)) = true := by
 unfold okM at h
 simp only [Bool.and_eq_true, decide_eq_true_eq, inR_iff] at h
 obtain ⟨⟨⟨⟨⟨hk, hm⟩, hl1⟩, hl2⟩, hps⟩, hds⟩ := h
 obtain ⟨k, hk'⟩ : ∃ k : Nat, g.1 = (k : Int) := ⟨g.1.toNat, by omega⟩
 obtain ⟨m, hm'⟩ : ∃ m : Nat, g.2.1 = (m : Int) := ⟨g.2.1.toNat, by omega⟩
 have hdn : okRows m ds = true := by
  unfold okRows
  simp only [Bool.and_eq_true, decide_eq_true_eq, List.all_eq_true]
  refine ⟨hl2, fun x hx => ?_⟩
  obtain ⟨n, rfl, hn⟩ := inP_nat (m := m) (by omega) (by rw [← hm']; exact List.all_eq_true.1 hds x hx)
  omega
 obtain ⟨dn, rfl, _, hdb, _⟩ := okRows_up hdn
 have key : ∀ x ∈ ps, ∃ t : Nat, missW g (up dn) x = (t : Int) ∧ t < 2 ^ m := by
  intro x hx
  have h1 := List.all_eq_true.1 hps x hx
  rw [hk', hm', ← Int.natCast_add] at h1
  obtain ⟨n, rfl, hn⟩ := inP_nat (by omega) h1
  obtain ⟨t, ht, htb⟩ := timesL_nat (iand .i64 (n : Int) (top1 g.1)) (b := m) (by omega) dn 0 0 (Nat.two_pow_pos m) hdb
  have ht : timesL (iand .i64 (n : Int) (top1 g.1)) (up dn) = (t : Int) := ht
  have hs : n >>> k < 2 ^ m := by
   rw [Nat.shiftRight_eq_div_pow]
   refine Nat.div_lt_of_lt_mul ?_
   rw [← Nat.pow_add]
   exact hn
  have hm62 := pow_le (show m ≤ 62 by omega)
  refine ⟨(n >>> k) ^^^ t, ?_, Nat.xor_lt_two_pow hs htb⟩
  unfold missW
  rw [ht, hk', ishr_nat (by omega), ixor_nat (by omega) (by omega)]
 have h2 : ∀ b, m ≤ b → okRows b (ps.map (missW g (up dn))) = true := by
  intro b hb
  have := pow_le hb
  unfold okRows
  simp only [Bool.and_eq_true, decide_eq_true_eq, List.all_eq_true, List.length_map]
  refine ⟨hl1, fun x hx => ?_⟩
  obtain ⟨y, hy, rfl⟩ := List.mem_map.1 hx
  obtain ⟨t, ht, htb⟩ := key y hy
  rw [ht]
  omega
 rw [hm', Int.toNat_natCast]
 exact ⟨h2 m (Nat.le_refl m), h2 62 (by omega)⟩
end Go.Proofs.Ytddaclhjnkimfaa

namespace Go.Proofs.Ytddaclhjnkimfaa
open Go Go.Abs Go.Proofs
noncomputable def i_Gather_missed_l3 (h3_0_0 : (List Int)) (h3_0_1 : (List Int)) (h3_0_2 : Int) (h3_0_4 : TGather) : (Int × (List Int)) → Tre ((Int × (List Int)) ⊕ (List Int)) := fun s3 =>
 .cond (decide (s3.1 < h3_0_2))
  (.ite (0 ≤ s3.1 ∧ s3.1 < (h3_0_1.length : Int)) <|
  .mat (h3_0_1[s3.1.toNat]?) fun x1 =>
  .ite (0 ≤ h3_0_4.1) <|
  .ite (0 ≤ h3_0_4.1) <|
  let v2 := iwrap .i64 ((ishl .i64 1 h3_0_4.1) - 1)
  .mat (sumR h3_0_0 (iand .i64 x1 v2)) fun r3 =>
  let v4 := ixor .i64 (ishr .i64 x1 h3_0_4.1) r3
  .ite ((s3.2.length + 1) * 8 ≤ appendMax ∧ 1 ≤ 8) <|
  .ret (.inl (iwrap .i64 (s3.1 + 1), s3.2 ++ ([v4]))))
  (.ret (.inr s3.2))
noncomputable def i_Gather_missed (p0 : TGather) (p1 : (List Int)) (p2 : (List Int)) : Tre Int :=
 .mat (loopF (i_Gather_missed_l3 p2 p1 (p1.length : Int) p0) (0, [])) fun l5 =>
 .mat (echA l5) fun r6 =>
 .ret (r6.length : Int)
noncomputable def i_Gather_missed_F (p0 : TGather) (p1 : (List Int)) (p2 : (List Int)) : Option Int := (i_Gather_missed p0 p1 p2).run some
noncomputable def missI (g : Int × Int × List Int × Int × Int × Unit) (ps ds : List Int) : Option Int := missR ps ds g
theorem i_Gather_missed_spec (p0 : Int × Int × List Int × Int × Int × Unit) (p1 p2 : List Int) (y : Int) (h : missI p0 p1 p2 = some y) : i_Gather_missed_F p0 p1 p2 = some y := by
 obtain ⟨hok, rfl⟩ := askO_some h
 have hr := (missW_ok hok).2
 unfold okM at hok
 simp only [Bool.and_eq_true, decide_eq_true_eq, inR_iff] at hok
 obtain ⟨⟨⟨⟨⟨hk, hm⟩, hl1⟩, hl2⟩, hps⟩, hds⟩ := hok
 unfold i_Gather_missed_F i_Gather_missed
 have := fold_loop (xs := p1) (step := i_Gather_missed_l3 p2 p1 (p1.length : Int) p0) (fun i acc => ((i : Int), acc)) (fun _ acc x => .inl (acc ++ [missW p0 p2 x])) id (fun i acc => acc.length = i) (by
  intro i acc x hx hI
  have hi : i < p1.length := (List.getElem?_eq_some_iff.1 hx).1
  refine ⟨?_, fun a ha => by cases ha; simp [hI]⟩
  unfold i_Gather_missed_l3
  rw [run_inb hx, Tre.run_ite, if_pos (by omega), Tre.run_ite, if_pos (by omega)]
  dsimp only
  rw [top1_def, run_some_mat (show sumR p2 (iand .i64 x (top1 p0.1)) = some _ from lim_of hl2), Tre.run_ite, if_pos (by unfold appendMax; omega), Tre.run_ret, iwrap_succ (by omega)]
  rfl)
  (by
  intro acc _
  unfold i_Gather_missed_l3
  exact run_out) p1 0 [] rfl (Nat.zero_le _) rfl
 rw [foldE_map] at this
 have h1 : loopF (i_Gather_missed_l3 p2 p1 (p1.length : Int) p0) (0, []) = some (p1.map (missW p0 p2)) := this
 rw [run_some_mat h1, run_some_mat (show echA (p1.map (missW p0 p2)) = some _ from askO_true hr)]
 rfl
noncomputable def i_Gather_missed_V : Env := ⟨tau, [(65, i_sumOf_c), (82, i_echelon_c), (52, i_size_int64_c)], []⟩
noncomputable def i_Gather_missed_b : Code := (Try.f44.body).getD .skip
noncomputable def i_Gather_missed_l3_mk (z3_0 : Bool) (z3_1 : Bool) (z3_2 : Bool) (h3_0_0 : (List Int)) (h3_0_1 : (List Int)) (h3_0_2 : Int) (h3_0_4 : TGather) : (Int × (List Int)) → St := fun x => stOf [(2, (.imm z3_0 (.sl (.int .i64)) h3_0_0)), (3, (.ptr (5, 0) [])), (7, (.ref (9, 0) [])), (11, (.imm z3_1 (.sl (.int .i64)) h3_0_1)), (12, (.imm true (.int .i64) h3_0_2)), (13, (.imm true (.int .i64) x.1))] [((5, 0), some ⟨true, kGather, (.imm z3_2), h3_0_4⟩), ((9, 0), some ⟨false, (.sl (.int .i64)), .own, x.2⟩)]
noncomputable def i_Gather_missed_l3_out (_z3_0 : Bool) (_z3_1 : Bool) (_z3_2 : Bool) (_h3_0_0 : (List Int)) (_h3_0_1 : (List Int)) (_h3_0_2 : Int) (_h3_0_4 : TGather) : (List Int) → Ex × St := fun x => (.exit 0, stOf [(7, (.ref (9, 0) []))] [((9, 0), some ⟨false, (.sl (.int .i64)), .own, x⟩)])
noncomputable def i_Gather_missed_l3_D (s : St) : Tre (Ex × St) :=
 asImm (.sl (.int .i64)) (s.tmps 2) fun z3 d2 =>
 asPtr (5, 0) [] (s.tmps 3) <|
 asRef (9, 0) [] (s.tmps 7) <|
 asImm (.sl (.int .i64)) (s.tmps 11) fun z8 d7 =>
 asImmZ true (.int .i64) (s.tmps 12) fun d10 =>
 asImmZ true (.int .i64) (s.tmps 13) fun d12 =>
 asRoot true kGather (s.roots (5, 0)) fun m14 d15 =>
 asMImm m14 fun z16 =>
 asRoot false (.sl (.int .i64)) (s.roots (9, 0)) fun m18 d19 =>
 asM .own m18 <|
 .mat (loopF (i_Gather_missed_l3 d2 d7 d10 d15) (d12, d19)) fun x => .ret (i_Gather_missed_l3_out z3 z8 z16 d2 d7 d10 d15 x)
noncomputable def i_Gather_missed_l3_L : LoopI := ⟨([2, 3, 7, 11, 12, 13], [(5, 0), (9, 0)]), ([7], [(9, 0)]), i_Gather_missed_l3_D⟩
noncomputable def i_Gather_missed_A : List (Nat × LoopI) := [(3, i_Gather_missed_l3_L)]
set_option maxRecDepth 100000 in
theorem i_Gather_missed_l3_step : ∀ (z3_0 : Bool) (z3_1 : Bool) (z3_2 : Bool) (h3_0_0 : (List Int)) (h3_0_1 : (List Int)) (h3_0_2 : Int) (h3_0_4 : TGather) (x : (Int × (List Int))) (c : St → Option (Ex × St)), den i_Gather_missed_V i_Gather_missed_A (loopAt i_Gather_missed_b 0) (i_Gather_missed_l3_mk z3_0 z3_1 z3_2 h3_0_0 h3_0_1 h3_0_2 h3_0_4 x) (roundK i_Gather_missed_l3_L.kp i_Gather_missed_l3_L.kx c) = (i_Gather_missed_l3 h3_0_0 h3_0_1 h3_0_2 h3_0_4 x).run (roundR (i_Gather_missed_l3_mk z3_0 z3_1 z3_2 h3_0_0 h3_0_1 h3_0_2 h3_0_4) (i_Gather_missed_l3_out z3_0 z3_1 z3_2 h3_0_0 h3_0_1 h3_0_2 h3_0_4) c) := fun _ _ _ _ _ _ _ _ _ => by
 kernel_rfl
theorem i_Gather_missed_l3_ok : LoopOK i_Gather_missed_V i_Gather_missed_A (loopAt i_Gather_missed_b 0) i_Gather_missed_l3_L := loopOK_of fun s e s' h => by
 generalize hs : restrict i_Gather_missed_l3_L.kp s = s1 at h
 have h : (i_Gather_missed_l3_D s1).run some = some (e, s') := h
 obtain ⟨z3, d2, e1, h_0⟩ := asImm_spec h
 obtain ⟨e4, h_1⟩ := asPtr_spec h_0
 obtain ⟨e5, h_2⟩ := asRef_spec h_1
 obtain ⟨z8, d7, e6, h_3⟩ := asImm_spec h_2
 obtain ⟨d10, e9, h_4⟩ := asImmZ_spec h_3
 obtain ⟨d12, e11, h_5⟩ := asImmZ_spec h_4
 obtain ⟨m14, d15, e13, h_6⟩ := asRoot_spec h_5
 obtain ⟨z16, rfl, h_7⟩ := asMImm_spec h_6
 obtain ⟨m18, d19, e17, h_8⟩ := asRoot_spec h_7
 obtain ⟨rfl, h_9⟩ := asM_spec h_8
 obtain ⟨y, hy, hz⟩ := mat_ret h_9
 refine ⟨_, _, i_Gather_missed_l3_mk z3 z8 z16 d2 d7 d10 d15, i_Gather_missed_l3_out z3 z8 z16 d2 d7 d10 d15, i_Gather_missed_l3 d2 d7 d10 d15, (d12, d19), y, ?_, hy, ?_, i_Gather_missed_l3_step z3 z8 z16 d2 d7 d10 d15⟩
 ·subst hs; exact restrict_eq (T := [(2, (.imm z3 (.sl (.int .i64)) d2)), (3, (.ptr (5, 0) [])), (7, (.ref (9, 0) [])), (11, (.imm z8 (.sl (.int .i64)) d7)), (12, (.imm true (.int .i64) d10)), (13, (.imm true (.int .i64) d12))]) (U := [((5, 0), some ⟨true, kGather, (.imm z16), d15⟩), ((9, 0), some ⟨false, (.sl (.int .i64)), .own, d19⟩)]) rfl rfl ⟨e1, e4, e5, e6, e9, e11, trivial⟩ ⟨e13, e17, trivial⟩
 ·exact Option.some.inj hz
noncomputable def i_Gather_missed_I : FnI := ⟨i_Gather_missed_b, Try.f44.results.toList, Try.f44.resultTypes.toList, i_Gather_missed_A⟩
noncomputable def i_Gather_missed_out (_zp0 : Bool) (_zp1 : Bool) (_zp2 : Bool) (_p0 : TGather) (_p1 : (List Int)) (_p2 : (List Int)) : Int → CallOut := fun r => ⟨(.imm true (.int .i64) r), [], []⟩
set_option maxRecDepth 100000 in
theorem i_Gather_missed_eq : ∀ (zp0 : Bool) (zp1 : Bool) (zp2 : Bool) (p0 : TGather) (p1 : (List Int)) (p2 : (List Int)), denFn i_Gather_missed_V i_Gather_missed_I ⟨[(.imm zp0 kGather p0), (.imm zp1 (.sl (.int .i64)) p1), (.imm zp2 (.sl (.int .i64)) p2)], []⟩ = (i_Gather_missed p0 p1 p2).run fun r => some (i_Gather_missed_out zp0 zp1 zp2 p0 p1 p2 r) := fun _ _ _ _ _ _ => by kernel_rfl
noncomputable def i_Gather_missed_G (av : List AV) (rs : List Root) : Tre CallOut :=
 asCons av fun a0_ av0 =>
 asCons av0 fun a1_ av1 =>
 asCons av1 fun a2_ av2 =>
 asEnd av2 <|
 asEnd rs <|
 asImm kGather a0_ fun z2 d1 =>
 asImm (.sl (.int .i64)) a1_ fun z4 d3 =>
 asImm (.sl (.int .i64)) a2_ fun z6 d5 =>
 .mat (missI d1 d3 d5) fun r => .ret (i_Gather_missed_out z2 z4 z6 d1 d3 d5 r)
noncomputable def i_Gather_missed_c : Ctr := ⟨[], fun ci => i_Gather_missed_G ci.args ci.roots⟩
theorem i_Gather_missed_env : EnvOK Try.prog i_Gather_missed_V := (envOK_cons i_sumOf_ok ent65 (envOK_cons i_echelon_ok ent82 (envOK_cons i_size_int64_ok ent52 envOK_nil)))
set_option maxRecDepth 100000 in
theorem i_Gather_missed_ok : Contract Try.prog 44 i_Gather_missed_c := by
 have hl : LoopsOK i_Gather_missed_V i_Gather_missed_A i_Gather_missed_b := (loopsOK_all (n := 1) (by kernel_rfl) fun k hk => by
   match k, hk with
   | 0, _ => exact loopOK_at (id := 3) (L := i_Gather_missed_l3_L) (by kernel_rfl) (by kernel_rfl) i_Gather_missed_l3_ok)
 refine (contract_of (F := i_Gather_missed_I) tau_tys i_Gather_missed_env Try.func44 (by kernel_rfl) (by kernel_rfl) (by kernel_rfl) hl []).weaken ?_
 rintro ⟨av, rs⟩ co h
 have h : (i_Gather_missed_G av rs).run some = some co := h
 obtain ⟨a0_, av0, rfl, h_0⟩ := asCons_spec h
 obtain ⟨a1_, av1, rfl, h_1⟩ := asCons_spec h_0
 obtain ⟨a2_, av2, rfl, h_2⟩ := asCons_spec h_1
 obtain ⟨rfl, h_3⟩ := asEnd_spec h_2
 obtain ⟨rfl, h_4⟩ := asEnd_spec h_3
 obtain ⟨z2, d1, rfl, h_5⟩ := asImm_spec h_4
 obtain ⟨z4, d3, rfl, h_6⟩ := asImm_spec h_5
 obtain ⟨z6, d5, rfl, h_7⟩ := asImm_spec h_6
 exact fin_opt (i_Gather_missed_eq z2 z4 z6 d1 d3 d5) (i_Gather_missed_spec d1 d3 d5) h_7
end Go.Proofs.Ytddaclhjnkimfaa

namespace Go.Proofs.Ytddaclhjnkimfaa
open Go Go.Abs Go.Proofs
end Go.Proofs.Ytddaclhjnkimfaa

namespace Go.Proofs.Ytddaclhjnkimfaa
open Go Go.Abs Go.Proofs
noncomputable def missV (g : Int × Int × List Int × Int × Int × Unit) (ps ds : List Int) : Int × Int :=
 cond (isG g) (cond (decide ((ps.length : Int) > 10)) (0, 2) (cond (ps.all (inP (g.1 + g.2.1))) (cond (decide ((ds.length : Int) = g.1)) (cond (ds.all (inP g.2.1)) (missN ps ds g, 0) (0, 2)) (0, 2)) (0, 2))) (0, 1)
noncomputable def missB (g : Int × Int × List Int × Int × Int × Unit) (ps ds : List Int) : Option (Int × Int) := askO (decide (g.2.2.1.length ≤ 1048576) && decide (ps.length ≤ 1048576) && decide (ds.length ≤ 1048576)) (missV g ps ds)
theorem isG_bounds {g : Int × Int × List Int × Int × Int × Unit} (h : isG g = true) : (1 ≤ g.1 ∧ g.1 ≤ 4) ∧ 1 ≤ g.2.1 ∧ g.2.1 ≤ 6 := by
 unfold isG at h
 simp only [Bool.and_eq_true, inR_iff] at h
 exact ⟨h.1.1.1.1.1, h.1.1.1.1.2⟩
end Go.Proofs.Ytddaclhjnkimfaa

namespace Go.Proofs.Ytddaclhjnkimfaa
open Go Go.Abs Go.Proofs
noncomputable def i_MissedBy (p0 : TGather) (p1 : (List Int)) (p2 : (List Int)) : Tre (Int × Int) :=
 .mat (okG p0) fun r1 =>
 .cond (!r1)
  (.ret (0, 1))
  (.cond (decide ((p1.length : Int) > 10))
   (.ret (0, 2))
   (.mat (hasM p1 p0) fun r2 =>
   .cond r2
    (.ret (0, 2))
    (.mat (isDat p0 p2) fun r3 =>
    .cond (!r3)
     (.ret (0, 2))
     (.mat (missI p0 p1 p2) fun r4 =>
     .ret (r4, 0)))))
noncomputable def i_MissedBy_F (p0 : TGather) (p1 : (List Int)) (p2 : (List Int)) : Option (Int × Int) := (i_MissedBy p0 p1 p2).run some
theorem i_MissedBy_spec (p0 : Int × Int × List Int × Int × Int × Unit) (p1 p2 : List Int) (y : Int × Int) (h : missB p0 p1 p2 = some y) : i_MissedBy_F p0 p1 p2 = some y := by
 obtain ⟨hok, rfl⟩ := askO_some h
 simp only [Bool.and_eq_true, decide_eq_true_eq] at hok
 obtain ⟨⟨h0, h1⟩, h2⟩ := hok
 unfold i_MissedBy_F i_MissedBy missV
 rw [run_some_mat (show okG p0 = some _ from lim_of h0), Tre.run_cond]
 cases hg : isG p0
 ·rfl
 have hb := isG_bounds hg
 rw [Bool.not_true, cond_false, cond_true, Tre.run_cond]
 cases decide ((p1.length : Int) > 10)
 rotate_left
 ·rfl
 have hc : iwrap .i64 (p0.1 + p0.2.1) = p0.1 + p0.2.1 := iwrap_i64 (by omega) (by omega)
 have ha : (p1.any fun x => !inP (p0.1 + p0.2.1) x) = !p1.all (inP (p0.1 + p0.2.1)) := by rw [List.all_eq_not_any_not, Bool.not_not]
 rw [cond_false, cond_false, run_some_mat (show hasM p1 p0 = some _ from askO_true (by rw [hc]; simp; omega)), hc, ha, Tre.run_cond]
 cases hp : p1.all (inP (p0.1 + p0.2.1))
 ·rfl
 rw [Bool.not_true, cond_false, cond_true, run_some_mat (show isDat p0 p2 = some _ from askO_true (by simp; omega)), Tre.run_cond]
 cases hd : decide ((p2.length : Int) = p0.1)
 ·rfl
 cases hq : p2.all (inP p0.2.1)
 ·rfl
 rw [Bool.and_true, Bool.not_true, cond_false, cond_true, cond_true, run_some_mat (show missI p0 p1 p2 = some _ from askO_true (by
  unfold okM
  simp only [Bool.and_eq_true, decide_eq_true_eq, inR_iff]
  exact ⟨⟨⟨⟨⟨hb.1, hb.2⟩, h1⟩, h2⟩, hp⟩, hq⟩))]
 rfl
noncomputable def i_MissedBy_V : Env := ⟨tau, [(60, i_ValidGather_c), (68, slices_ContainsFunc_int64_i_MissedByc1_c), (71, i_Gather_isData_c), (44, i_Gather_missed_c)], []⟩
noncomputable def i_MissedBy_b : Code := (Try.f33.body).getD .skip
noncomputable def i_MissedBy_I : FnI := ⟨i_MissedBy_b, Try.f33.results.toList, Try.f33.resultTypes.toList, []⟩
noncomputable def i_MissedBy_out (_zp0 : Bool) (_zp1 : Bool) (_zp2 : Bool) (_p0 : TGather) (_p1 : (List Int)) (_p2 : (List Int)) : (Int × Int) → CallOut := fun r => ⟨(.tcons (.imm true (.int .i64) r.1) (.tcons (.imm true (.int .i64) r.2) .tnil)), [], []⟩
set_option maxRecDepth 100000 in
theorem i_MissedBy_eq : ∀ (zp0 : Bool) (zp1 : Bool) (zp2 : Bool) (p0 : TGather) (p1 : (List Int)) (p2 : (List Int)), denFn i_MissedBy_V i_MissedBy_I ⟨[(.imm zp0 kGather p0), (.imm zp1 (.sl (.int .i64)) p1), (.imm zp2 (.sl (.int .i64)) p2)], []⟩ = (i_MissedBy p0 p1 p2).run fun r => some (i_MissedBy_out zp0 zp1 zp2 p0 p1 p2 r) := fun _ _ _ _ _ _ => by kernel_rfl
noncomputable def i_MissedBy_G (av : List AV) (rs : List Root) : Tre CallOut :=
 asCons av fun a0_ av0 =>
 asCons av0 fun a1_ av1 =>
 asCons av1 fun a2_ av2 =>
 asEnd av2 <|
 asEnd rs <|
 asImm kGather a0_ fun z2 d1 =>
 asImm (.sl (.int .i64)) a1_ fun z4 d3 =>
 asImm (.sl (.int .i64)) a2_ fun z6 d5 =>
 .mat (missB d1 d3 d5) fun r => .ret (i_MissedBy_out z2 z4 z6 d1 d3 d5 r)
noncomputable def i_MissedBy_c : Ctr := ⟨[], fun ci => i_MissedBy_G ci.args ci.roots⟩
theorem i_MissedBy_env : EnvOK Try.prog i_MissedBy_V := (envOK_cons i_ValidGather_ok ent60 (envOK_cons slices_ContainsFunc_int64_i_MissedByc1_ok ent68 (envOK_cons i_Gather_isData_ok ent71 (envOK_cons i_Gather_missed_ok ent44 envOK_nil))))
set_option maxRecDepth 100000 in
theorem i_MissedBy_ok : Contract Try.prog 33 i_MissedBy_c := by
 have hl : LoopsOK i_MissedBy_V [] i_MissedBy_b := loopsOK_nil (by kernel_rfl)
 refine (contract_of (F := i_MissedBy_I) tau_tys i_MissedBy_env Try.func33 (by kernel_rfl) (by kernel_rfl) (by kernel_rfl) hl []).weaken ?_
 rintro ⟨av, rs⟩ co h
 have h : (i_MissedBy_G av rs).run some = some co := h
 obtain ⟨a0_, av0, rfl, h_0⟩ := asCons_spec h
 obtain ⟨a1_, av1, rfl, h_1⟩ := asCons_spec h_0
 obtain ⟨a2_, av2, rfl, h_2⟩ := asCons_spec h_1
 obtain ⟨rfl, h_3⟩ := asEnd_spec h_2
 obtain ⟨rfl, h_4⟩ := asEnd_spec h_3
 obtain ⟨z2, d1, rfl, h_5⟩ := asImm_spec h_4
 obtain ⟨z4, d3, rfl, h_6⟩ := asImm_spec h_5
 obtain ⟨z6, d5, rfl, h_7⟩ := asImm_spec h_6
 exact fin_opt (i_MissedBy_eq z2 z4 z6 d1 d3 d5) (i_MissedBy_spec d1 d3 d5) h_7
end Go.Proofs.Ytddaclhjnkimfaa

namespace Go.Proofs.Ytddaclhjnkimfaa
open Go Go.Abs Go.Proofs
noncomputable def i_MendAfterc1_a693 (p0 : (List Int)) (p1 : TGather) (p2 : Int) (p3 : Int) (p4 : (List Int)) (p5 : Int) (p6 : TWorks) : Tre (Int × (List Int) × Int) :=
 .ite (0 ≤ p2 ∧ p2 < (p6.1.1.length : Int)) <|
 .mat (p6.1.1[p2.toNat]?) fun _ =>
 .mat (p6.1.1[p2.toNat]?) fun x2 =>
 .mat (missI p1 x2.1 p0) fun r3 =>
 .cond (decide (p3 < 0))
  (.mat (cloneR p0) fun r4 =>
  .cond (decide (r3 = r3))
   (.ret (r3, r4, 1))
   (.ret (r3, r4, 0)))
  (.cond (decide (r3 < p3))
   (.mat (cloneR p0) fun r5 =>
   .cond (decide (r3 = r3))
    (.ret (r3, r5, 1))
    (.ret (r3, r5, 0)))
   (.cond (decide (r3 = p3))
    (.ret (p3, p4, iwrap .i64 (p5 + 1)))
    (.ret (p3, p4, p5))))
noncomputable def i_MendAfterc1_a693_F (p0 : (List Int)) (p1 : TGather) (p2 : Int) (p3 : Int) (p4 : (List Int)) (p5 : Int) (p6 : TWorks) : Option (Int × (List Int) × Int) := (i_MendAfterc1_a693 p0 p1 p2 p3 p4 p5 p6).run some
noncomputable def i_MendAfterc1_a693_V : Env := ⟨tau, [(44, i_Gather_missed_c), (45, slices_Clone_int64_c)], []⟩
noncomputable def i_MendAfterc1_a693_b : Code := (Try.f43.body).getD .skip
noncomputable def i_MendAfterc1_a693_I : FnI := ⟨i_MendAfterc1_a693_b, Try.f43.results.toList, Try.f43.resultTypes.toList, []⟩
noncomputable def i_MendAfterc1_a693_out (zp0 : Bool) (zp1 : Bool) (p0 : (List Int)) (p1 : TGather) (p2 : Int) (_p3 : Int) (_p4 : (List Int)) (_p5 : Int) (p6 : TWorks) : (Int × (List Int) × Int) → CallOut := fun r => ⟨.tnil, [⟨false, (.sl (.int .i64)), .own, p0⟩, ⟨true, kGather, (.imm zp0), p1⟩, ⟨true, .ptr, .own, (some (0, 7) : Option RName)⟩, ⟨true, (.int .i64), .own, p2⟩, ⟨true, (.int .i64), .own, r.1⟩, ⟨true, (.sl (.int .i64)), .own, r.2.1⟩, ⟨true, (.int .i64), .own, r.2.2⟩, ⟨true, kWorks, (.pair .own (.imm zp1)), p6⟩], []⟩
set_option maxRecDepth 100000 in
theorem i_MendAfterc1_a693_eq : ∀ (zp0 : Bool) (zp1 : Bool) (p0 : (List Int)) (p1 : TGather) (p2 : Int) (p3 : Int) (p4 : (List Int)) (p5 : Int) (p6 : TWorks), denFn i_MendAfterc1_a693_V i_MendAfterc1_a693_I ⟨[(.ref (0, 0) []), (.ptr (0, 1) []), (.ptr (0, 2) []), (.ptr (0, 3) []), (.ptr (0, 4) []), (.ptr (0, 5) []), (.ptr (0, 6) [])], [⟨false, (.sl (.int .i64)), .own, p0⟩, ⟨true, kGather, (.imm zp0), p1⟩, ⟨true, .ptr, .own, (some (0, 7) : Option RName)⟩, ⟨true, (.int .i64), .own, p2⟩, ⟨true, (.int .i64), .own, p3⟩, ⟨true, (.sl (.int .i64)), .own, p4⟩, ⟨true, (.int .i64), .own, p5⟩, ⟨true, kWorks, (.pair .own (.imm zp1)), p6⟩]⟩ = (i_MendAfterc1_a693 p0 p1 p2 p3 p4 p5 p6).run fun r => some (i_MendAfterc1_a693_out zp0 zp1 p0 p1 p2 p3 p4 p5 p6 r) := fun _ _ _ _ _ _ _ _ _ => by kernel_rfl
noncomputable def i_MendAfterc1_a693_G (av : List AV) (rs : List Root) : Tre CallOut :=
 asCons av fun a0_ av0 =>
 asCons av0 fun a1_ av1 =>
 asCons av1 fun a2_ av2 =>
 asCons av2 fun a3_ av3 =>
 asCons av3 fun a4_ av4 =>
 asCons av4 fun a5_ av5 =>
 asCons av5 fun a6_ av6 =>
 asEnd av6 <|
 asCons rs fun r0_ rs0 =>
 asCons rs0 fun r1_ rs1 =>
 asCons rs1 fun r2_ rs2 =>
 asCons rs2 fun r3_ rs3 =>
 asCons rs3 fun r4_ rs4 =>
 asCons rs4 fun r5_ rs5 =>
 asCons rs5 fun r6_ rs6 =>
 asCons rs6 fun r7_ rs7 =>
 asEnd rs7 <|
 asRef (0, 0) [] a0_ <|
 asPtr (0, 1) [] a1_ <|
 asPtr (0, 2) [] a2_ <|
 asPtr (0, 3) [] a3_ <|
 asPtr (0, 4) [] a4_ <|
 asPtr (0, 5) [] a5_ <|
 asPtr (0, 6) [] a6_ <|
 asRt false (.sl (.int .i64)) r0_ fun m1 d2 =>
 asM .own m1 <|
 asRt true kGather r1_ fun m3 d4 =>
 asMImm m3 fun z5 =>
 asRt true .ptr r2_ fun m6 d7 =>
 asM .own m6 <|
 asD d7 (some (0, 7) : Option RName) <|
 asRt true (.int .i64) r3_ fun m8 d9 =>
 asM .own m8 <|
 asRt true (.int .i64) r4_ fun m10 d11 =>
 asM .own m10 <|
 asRt true (.sl (.int .i64)) r5_ fun m12 d13 =>
 asM .own m12 <|
 asRt true (.int .i64) r6_ fun m14 d15 =>
 asM .own m14 <|
 asRt true kWorks r7_ fun m16 d17 =>
 asMPair m16 fun m18 m19 =>
 asM .own m18 <|
 asMImm m19 fun z20 =>
 .mat (i_MendAfterc1_a693_F d2 d4 d9 d11 d13 d15 d17) fun r => .ret (i_MendAfterc1_a693_out z5 z20 d2 d4 d9 d11 d13 d15 d17 r)
noncomputable def i_MendAfterc1_a693_c : Ctr := ⟨[0], fun ci => i_MendAfterc1_a693_G ci.args ci.roots⟩
theorem i_MendAfterc1_a693_env : EnvOK Try.prog i_MendAfterc1_a693_V := (envOK_cons i_Gather_missed_ok ent44 (envOK_cons slices_Clone_int64_ok ent45 envOK_nil))
set_option maxRecDepth 100000 in
theorem i_MendAfterc1_a693_ok : Contract Try.prog 43 i_MendAfterc1_a693_c := by
 have hl : LoopsOK i_MendAfterc1_a693_V [] i_MendAfterc1_a693_b := loopsOK_nil (by kernel_rfl)
 refine (contract_of (F := i_MendAfterc1_a693_I) tau_tys i_MendAfterc1_a693_env Try.func43 (by kernel_rfl) (by kernel_rfl) (by kernel_rfl) hl [0]).weaken ?_
 rintro ⟨av, rs⟩ co h
 have h : (i_MendAfterc1_a693_G av rs).run some = some co := h
 obtain ⟨a0_, av0, rfl, h_0⟩ := asCons_spec h
 obtain ⟨a1_, av1, rfl, h_1⟩ := asCons_spec h_0
 obtain ⟨a2_, av2, rfl, h_2⟩ := asCons_spec h_1
 obtain ⟨a3_, av3, rfl, h_3⟩ := asCons_spec h_2
 obtain ⟨a4_, av4, rfl, h_4⟩ := asCons_spec h_3
 obtain ⟨a5_, av5, rfl, h_5⟩ := asCons_spec h_4
 obtain ⟨a6_, av6, rfl, h_6⟩ := asCons_spec h_5
 obtain ⟨rfl, h_7⟩ := asEnd_spec h_6
 obtain ⟨r0_, rs0, rfl, h_8⟩ := asCons_spec h_7
 obtain ⟨r1_, rs1, rfl, h_9⟩ := asCons_spec h_8
 obtain ⟨r2_, rs2, rfl, h_10⟩ := asCons_spec h_9
 obtain ⟨r3_, rs3, rfl, h_11⟩ := asCons_spec h_10
 obtain ⟨r4_, rs4, rfl, h_12⟩ := asCons_spec h_11
 obtain ⟨r5_, rs5, rfl, h_13⟩ := asCons_spec h_12
 obtain ⟨r6_, rs6, rfl, h_14⟩ := asCons_spec h_13
 obtain ⟨r7_, rs7, rfl, h_15⟩ := asCons_spec h_14
 obtain ⟨rfl, h_16⟩ := asEnd_spec h_15
 obtain ⟨rfl, h_17⟩ := asRef_spec h_16
 obtain ⟨rfl, h_18⟩ := asPtr_spec h_17
 obtain ⟨rfl, h_19⟩ := asPtr_spec h_18
 obtain ⟨rfl, h_20⟩ := asPtr_spec h_19
 obtain ⟨rfl, h_21⟩ := asPtr_spec h_20
 obtain ⟨rfl, h_22⟩ := asPtr_spec h_21
 obtain ⟨rfl, h_23⟩ := asPtr_spec h_22
 obtain ⟨m1, d2, rfl, h_24⟩ := asRt_spec h_23
 obtain ⟨rfl, h_25⟩ := asM_spec h_24
 obtain ⟨m3, d4, rfl, h_26⟩ := asRt_spec h_25
 obtain ⟨z5, rfl, h_27⟩ := asMImm_spec h_26
 obtain ⟨m6, d7, rfl, h_28⟩ := asRt_spec h_27
 obtain ⟨rfl, h_29⟩ := asM_spec h_28
 obtain ⟨rfl, h_30⟩ := asD_spec h_29
 obtain ⟨m8, d9, rfl, h_31⟩ := asRt_spec h_30
 obtain ⟨rfl, h_32⟩ := asM_spec h_31
 obtain ⟨m10, d11, rfl, h_33⟩ := asRt_spec h_32
 obtain ⟨rfl, h_34⟩ := asM_spec h_33
 obtain ⟨m12, d13, rfl, h_35⟩ := asRt_spec h_34
 obtain ⟨rfl, h_36⟩ := asM_spec h_35
 obtain ⟨m14, d15, rfl, h_37⟩ := asRt_spec h_36
 obtain ⟨rfl, h_38⟩ := asM_spec h_37
 obtain ⟨m16, d17, rfl, h_39⟩ := asRt_spec h_38
 obtain ⟨m18, m19, rfl, h_40⟩ := asMPair_spec h_39
 obtain ⟨rfl, h_41⟩ := asM_spec h_40
 obtain ⟨z20, rfl, h_42⟩ := asMImm_spec h_41
 exact fin_mat (i_MendAfterc1_a693_eq z5 z20 d2 d4 d9 d11 d13 d15 d17) h_42
end Go.Proofs.Ytddaclhjnkimfaa

namespace Go.Proofs.Ytddaclhjnkimfaa
open Go Go.Abs Go.Proofs
noncomputable def i_Field_count (p0 : (Int × (Int × Unit))) : Tre Int :=
 .ite (0 ≤ p0.1) <|
 .ret (ishl .i64 1 p0.1)
noncomputable def i_Field_count_F (p0 : (Int × (Int × Unit))) : Option Int := (i_Field_count p0).run some
noncomputable def i_Field_count_V : Env := ⟨tau, [], []⟩
noncomputable def i_Field_count_b : Code := (Try.f81.body).getD .skip
noncomputable def i_Field_count_I : FnI := ⟨i_Field_count_b, Try.f81.results.toList, Try.f81.resultTypes.toList, []⟩
noncomputable def i_Field_count_out (_p0 : (Int × (Int × Unit))) : Int → CallOut := fun r => ⟨(.imm true (.int .i64) r), [], []⟩
set_option maxRecDepth 100000 in
theorem i_Field_count_eq : ∀ (p0 : (Int × (Int × Unit))), denFn i_Field_count_V i_Field_count_I ⟨[(.imm true kField p0)], []⟩ = (i_Field_count p0).run fun r => some (i_Field_count_out p0 r) := fun _ => by kernel_rfl
noncomputable def i_Field_count_G (av : List AV) (rs : List Root) : Tre CallOut :=
 asCons av fun a0_ av0 =>
 asEnd av0 <|
 asEnd rs <|
 asImmZ true kField a0_ fun d1 =>
 .mat (i_Field_count_F d1) fun r => .ret (i_Field_count_out d1 r)
noncomputable def i_Field_count_c : Ctr := ⟨[], fun ci => i_Field_count_G ci.args ci.roots⟩
theorem i_Field_count_env : EnvOK Try.prog i_Field_count_V := envOK_nil
set_option maxRecDepth 100000 in
theorem i_Field_count_ok : Contract Try.prog 81 i_Field_count_c := by
 have hl : LoopsOK i_Field_count_V [] i_Field_count_b := loopsOK_nil (by kernel_rfl)
 refine (contract_of (F := i_Field_count_I) tau_tys i_Field_count_env Try.func81 (by kernel_rfl) (by kernel_rfl) (by kernel_rfl) hl []).weaken ?_
 rintro ⟨av, rs⟩ co h
 have h : (i_Field_count_G av rs).run some = some co := h
 obtain ⟨a0_, av0, rfl, h_0⟩ := asCons_spec h
 obtain ⟨rfl, h_1⟩ := asEnd_spec h_0
 obtain ⟨rfl, h_2⟩ := asEnd_spec h_1
 obtain ⟨d1, rfl, h_3⟩ := asImmZ_spec h_2
 exact fin_mat (i_Field_count_eq d1) h_3
end Go.Proofs.Ytddaclhjnkimfaa
