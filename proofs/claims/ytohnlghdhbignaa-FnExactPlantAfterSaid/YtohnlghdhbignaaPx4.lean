/- Part 4 of the proof of FnExactPlantAfter. -/
import Derived.Test.YtohnlghdhbignaaPx3
namespace Go.Proofs.Ytohnlghdhbignaa
open Go Go.Abs Go.Proofs
noncomputable def slices_IndexFunc_Deed_i_deedsCodec1_l2 (h2_0_0 : (List TDeed)) (h2_0_1 : Int) : Int → Tre (Int ⊕ (Int ⊕ Unit)) := fun s2 =>
 .cond (decide (s2 < h2_0_1))
  (.ite (0 ≤ s2 ∧ s2 < (h2_0_0.length : Int)) <|
  .mat (h2_0_0[s2.toNat]?) fun x1 =>
  .cond (!(vDeed x1))
   (.ret (.inr (.inl s2)))
   (.ret (.inl (iwrap .i64 (s2 + 1)))))
  (.ret (.inr (.inr ())))
noncomputable def slices_IndexFunc_Deed_i_deedsCodec1 (p0 : (List TDeed)) : Tre Int :=
 .mat (loopF (slices_IndexFunc_Deed_i_deedsCodec1_l2 p0 (p0.length : Int)) 0) fun l2 =>
 .alt l2
  (fun a3 =>
   .ret a3)
  (fun _ =>
   .ret (-1))
noncomputable def slices_IndexFunc_Deed_i_deedsCodec1_F (p0 : (List TDeed)) : Option Int := (slices_IndexFunc_Deed_i_deedsCodec1 p0).run some
def idxV (xs : List (Int × Int × Int × Int × Unit)) : Option Int := askO (decide (xs.length ≤ 1048576)) (idxI (fun x => !vDeed x) 0 xs)
theorem slices_IndexFunc_Deed_i_deedsCodec1_spec (p0 : List (Int × Int × Int × Int × Unit)) (y : Int) (h : idxV p0 = some y) : slices_IndexFunc_Deed_i_deedsCodec1_F p0 = some y := by
 obtain ⟨hl, rfl⟩ := askO_some h
 have hl := of_decide_eq_true hl
 unfold slices_IndexFunc_Deed_i_deedsCodec1_F slices_IndexFunc_Deed_i_deedsCodec1
 rw [Tre.run_mat, find_loop (xs := p0) (fun i x => cond (!vDeed x) (some (.inl (i : Int))) none) (.inr ())]
 ·rw [Option.bind_some, ← findE_idx (p := fun x => !vDeed x)]
  generalize findE _ _ _ _ = r
  cases r <;> rfl
 ·intro i x hx
  have hi : i < p0.length := (List.getElem?_eq_some_iff.1 hx).1
  unfold slices_IndexFunc_Deed_i_deedsCodec1_l2
  rw [run_inb hx, Tre.run_cond]
  cases vDeed x
  ·rfl
  ·simp only [Bool.not_true, cond_false, Tre.run_ret, iwrap_succ (show i < 4611686018427387904 by omega)]
 ·unfold slices_IndexFunc_Deed_i_deedsCodec1_l2
  exact run_out
noncomputable def slices_IndexFunc_Deed_i_deedsCodec1_V : Env := ⟨tau, [(72, i_deedsCodec1_c)], []⟩
noncomputable def slices_IndexFunc_Deed_i_deedsCodec1_b : Code := (Try.f100.body).getD .skip
noncomputable def slices_IndexFunc_Deed_i_deedsCodec1_l2_mk (z2_0 : Bool) (h2_0_0 : (List TDeed)) (h2_0_1 : Int) : Int → St := fun x => stOf [(0, (.imm z2_0 (.sl kDeed) h2_0_0)), (1, (.fn 72 [])), (7, (.imm true (.int .i64) h2_0_1)), (8, (.imm true (.int .i64) x))] []
noncomputable def slices_IndexFunc_Deed_i_deedsCodec1_l2_out (_z2_0 : Bool) (_h2_0_0 : (List TDeed)) (_h2_0_1 : Int) : (Int ⊕ Unit) → Ex × St
 | .inl x => (.ret, stOf [(4, (.imm true (.int .i64) x))] [])
 | .inr x => (.exit 0, stOf [(4, .dead)] [])
noncomputable def slices_IndexFunc_Deed_i_deedsCodec1_l2_D (s : St) : Tre (Ex × St) :=
 asImm (.sl kDeed) (s.tmps 0) fun z3 d2 =>
 asFn 72 [] (s.tmps 1) <|
 asImmZ true (.int .i64) (s.tmps 7) fun d6 =>
 asImmZ true (.int .i64) (s.tmps 8) fun d8 =>
 .mat (loopF (slices_IndexFunc_Deed_i_deedsCodec1_l2 d2 d6) d8) fun x => .alt x (fun a0 => .ret (slices_IndexFunc_Deed_i_deedsCodec1_l2_out z3 d2 d6 (.inl a0))) (fun b0 => .ret (slices_IndexFunc_Deed_i_deedsCodec1_l2_out z3 d2 d6 (.inr b0)))
noncomputable def slices_IndexFunc_Deed_i_deedsCodec1_l2_L : LoopI := ⟨([0, 1, 7, 8], []), ([4], []), slices_IndexFunc_Deed_i_deedsCodec1_l2_D⟩
noncomputable def slices_IndexFunc_Deed_i_deedsCodec1_A : List (Nat × LoopI) := [(2, slices_IndexFunc_Deed_i_deedsCodec1_l2_L)]
set_option maxRecDepth 100000 in
theorem slices_IndexFunc_Deed_i_deedsCodec1_l2_step : ∀ (z2_0 : Bool) (h2_0_0 : (List TDeed)) (h2_0_1 : Int) (x : Int) (c : St → Option (Ex × St)), den slices_IndexFunc_Deed_i_deedsCodec1_V slices_IndexFunc_Deed_i_deedsCodec1_A (loopAt slices_IndexFunc_Deed_i_deedsCodec1_b 0) (slices_IndexFunc_Deed_i_deedsCodec1_l2_mk z2_0 h2_0_0 h2_0_1 x) (roundK slices_IndexFunc_Deed_i_deedsCodec1_l2_L.kp slices_IndexFunc_Deed_i_deedsCodec1_l2_L.kx c) = (slices_IndexFunc_Deed_i_deedsCodec1_l2 h2_0_0 h2_0_1 x).run (roundR (slices_IndexFunc_Deed_i_deedsCodec1_l2_mk z2_0 h2_0_0 h2_0_1) (slices_IndexFunc_Deed_i_deedsCodec1_l2_out z2_0 h2_0_0 h2_0_1) c) := fun _ _ _ _ _ => by
 kernel_rfl
theorem slices_IndexFunc_Deed_i_deedsCodec1_l2_ok : LoopOK slices_IndexFunc_Deed_i_deedsCodec1_V slices_IndexFunc_Deed_i_deedsCodec1_A (loopAt slices_IndexFunc_Deed_i_deedsCodec1_b 0) slices_IndexFunc_Deed_i_deedsCodec1_l2_L := loopOK_of fun s e s' h => by
 generalize hs : restrict slices_IndexFunc_Deed_i_deedsCodec1_l2_L.kp s = s1 at h
 have h : (slices_IndexFunc_Deed_i_deedsCodec1_l2_D s1).run some = some (e, s') := h
 obtain ⟨z3, d2, e1, h_0⟩ := asImm_spec h
 obtain ⟨e4, h_1⟩ := asFn_spec h_0
 obtain ⟨d6, e5, h_2⟩ := asImmZ_spec h_1
 obtain ⟨d8, e7, h_3⟩ := asImmZ_spec h_2
 obtain ⟨y, hy, hz⟩ := mat_some h_3
 refine ⟨_, _, slices_IndexFunc_Deed_i_deedsCodec1_l2_mk z3 d2 d6, slices_IndexFunc_Deed_i_deedsCodec1_l2_out z3 d2 d6, slices_IndexFunc_Deed_i_deedsCodec1_l2 d2 d6, d8, y, ?_, hy, ?_, slices_IndexFunc_Deed_i_deedsCodec1_l2_step z3 d2 d6⟩
 ·subst hs; exact restrict_eq (T := [(0, (.imm z3 (.sl kDeed) d2)), (1, (.fn 72 [])), (7, (.imm true (.int .i64) d6)), (8, (.imm true (.int .i64) d8))]) (U := []) rfl rfl ⟨e1, e4, e5, e7, trivial⟩ trivial
 ·rcases y with x | x <;> exact Option.some.inj hz
noncomputable def slices_IndexFunc_Deed_i_deedsCodec1_I : FnI := ⟨slices_IndexFunc_Deed_i_deedsCodec1_b, Try.f100.results.toList, Try.f100.resultTypes.toList, slices_IndexFunc_Deed_i_deedsCodec1_A⟩
noncomputable def slices_IndexFunc_Deed_i_deedsCodec1_out (_zp0 : Bool) (_p0 : (List TDeed)) : Int → CallOut := fun r => ⟨(.imm true (.int .i64) r), [], []⟩
set_option maxRecDepth 100000 in
theorem slices_IndexFunc_Deed_i_deedsCodec1_eq : ∀ (zp0 : Bool) (p0 : (List TDeed)), denFn slices_IndexFunc_Deed_i_deedsCodec1_V slices_IndexFunc_Deed_i_deedsCodec1_I ⟨[(.imm zp0 (.sl kDeed) p0), (.fn 72 [])], []⟩ = (slices_IndexFunc_Deed_i_deedsCodec1 p0).run fun r => some (slices_IndexFunc_Deed_i_deedsCodec1_out zp0 p0 r) := fun _ _ => by kernel_rfl
noncomputable def slices_IndexFunc_Deed_i_deedsCodec1_G (av : List AV) (rs : List Root) : Tre CallOut :=
 asCons av fun a0_ av0 =>
 asCons av0 fun a1_ av1 =>
 asEnd av1 <|
 asEnd rs <|
 asImm (.sl kDeed) a0_ fun z2 d1 =>
 asFn 72 [] a1_ <|
 .mat (idxV d1) fun r => .ret (slices_IndexFunc_Deed_i_deedsCodec1_out z2 d1 r)
noncomputable def slices_IndexFunc_Deed_i_deedsCodec1_c : Ctr := ⟨[], fun ci => slices_IndexFunc_Deed_i_deedsCodec1_G ci.args ci.roots, false⟩
theorem slices_IndexFunc_Deed_i_deedsCodec1_env : EnvOK Try.prog slices_IndexFunc_Deed_i_deedsCodec1_V := (envOK_cons i_deedsCodec1_ok ent72 envOK_nil)
set_option maxRecDepth 100000 in
theorem slices_IndexFunc_Deed_i_deedsCodec1_ok : Contract Try.prog 100 slices_IndexFunc_Deed_i_deedsCodec1_c := by
 have hl : LoopsOK slices_IndexFunc_Deed_i_deedsCodec1_V slices_IndexFunc_Deed_i_deedsCodec1_A slices_IndexFunc_Deed_i_deedsCodec1_b := (loopsOK_all (n := 1) (by kernel_rfl) fun k hk => by
   match k, hk with
   | 0, _ => exact loopOK_at (id := 2) (L := slices_IndexFunc_Deed_i_deedsCodec1_l2_L) (by kernel_rfl) (by kernel_rfl) slices_IndexFunc_Deed_i_deedsCodec1_l2_ok)
 refine (contract_of (F := slices_IndexFunc_Deed_i_deedsCodec1_I) tau_tys slices_IndexFunc_Deed_i_deedsCodec1_env Try.func100 (by kernel_rfl) (by kernel_rfl) (by kernel_rfl) hl []).weaken ?_
 rintro ⟨av, rs⟩ co h
 have h : (slices_IndexFunc_Deed_i_deedsCodec1_G av rs).run some = some co := h
 obtain ⟨a0_, av0, rfl, h_0⟩ := asCons_spec h
 obtain ⟨a1_, av1, rfl, h_1⟩ := asCons_spec h_0
 obtain ⟨rfl, h_2⟩ := asEnd_spec h_1
 obtain ⟨rfl, h_3⟩ := asEnd_spec h_2
 obtain ⟨z2, d1, rfl, h_4⟩ := asImm_spec h_3
 obtain ⟨rfl, h_5⟩ := asFn_spec h_4
 exact fin_opt (slices_IndexFunc_Deed_i_deedsCodec1_eq z2 d1) (slices_IndexFunc_Deed_i_deedsCodec1_spec d1) h_5
end Go.Proofs.Ytohnlghdhbignaa

namespace Go.Proofs.Ytohnlghdhbignaa
open Go Go.Abs Go.Proofs
noncomputable def slices_ContainsFunc_Deed_i_deedsCodec1 (p0 : (List TDeed)) : Tre Bool :=
 .mat (idxV p0) fun r1 =>
 .ret (decide (r1 ≥ 0))
noncomputable def slices_ContainsFunc_Deed_i_deedsCodec1_F (p0 : (List TDeed)) : Option Bool := (slices_ContainsFunc_Deed_i_deedsCodec1 p0).run some
def hasV (xs : List (Int × Int × Int × Int × Unit)) : Option Bool := askO (decide (xs.length ≤ 1048576)) (xs.any fun x => !vDeed x)
theorem slices_ContainsFunc_Deed_i_deedsCodec1_spec (p0 : List (Int × Int × Int × Int × Unit)) (y : Bool) (h : hasV p0 = some y) : slices_ContainsFunc_Deed_i_deedsCodec1_F p0 = some y := by
 obtain ⟨hl, rfl⟩ := askO_some h
 unfold slices_ContainsFunc_Deed_i_deedsCodec1_F slices_ContainsFunc_Deed_i_deedsCodec1
 rw [run_some_mat (show idxV p0 = some _ from askO_true hl), Tre.run_ret, idxI_any]
noncomputable def slices_ContainsFunc_Deed_i_deedsCodec1_V : Env := ⟨tau, [(100, slices_IndexFunc_Deed_i_deedsCodec1_c)], []⟩
noncomputable def slices_ContainsFunc_Deed_i_deedsCodec1_b : Code := (Try.f71.body).getD .skip
noncomputable def slices_ContainsFunc_Deed_i_deedsCodec1_I : FnI := ⟨slices_ContainsFunc_Deed_i_deedsCodec1_b, Try.f71.results.toList, Try.f71.resultTypes.toList, []⟩
noncomputable def slices_ContainsFunc_Deed_i_deedsCodec1_out (_zp0 : Bool) (_p0 : (List TDeed)) : Bool → CallOut := fun r => ⟨(.imm true .bool r), [], []⟩
set_option maxRecDepth 100000 in
theorem slices_ContainsFunc_Deed_i_deedsCodec1_eq : ∀ (zp0 : Bool) (p0 : (List TDeed)), denFn slices_ContainsFunc_Deed_i_deedsCodec1_V slices_ContainsFunc_Deed_i_deedsCodec1_I ⟨[(.imm zp0 (.sl kDeed) p0), (.fn 72 [])], []⟩ = (slices_ContainsFunc_Deed_i_deedsCodec1 p0).run fun r => some (slices_ContainsFunc_Deed_i_deedsCodec1_out zp0 p0 r) := fun _ _ => by kernel_rfl
noncomputable def slices_ContainsFunc_Deed_i_deedsCodec1_G (av : List AV) (rs : List Root) : Tre CallOut :=
 asCons av fun a0_ av0 =>
 asCons av0 fun a1_ av1 =>
 asEnd av1 <|
 asEnd rs <|
 asImm (.sl kDeed) a0_ fun z2 d1 =>
 asFn 72 [] a1_ <|
 .mat (hasV d1) fun r => .ret (slices_ContainsFunc_Deed_i_deedsCodec1_out z2 d1 r)
noncomputable def slices_ContainsFunc_Deed_i_deedsCodec1_c : Ctr := ⟨[], fun ci => slices_ContainsFunc_Deed_i_deedsCodec1_G ci.args ci.roots, false⟩
theorem slices_ContainsFunc_Deed_i_deedsCodec1_env : EnvOK Try.prog slices_ContainsFunc_Deed_i_deedsCodec1_V := (envOK_cons slices_IndexFunc_Deed_i_deedsCodec1_ok ent100 envOK_nil)
set_option maxRecDepth 100000 in
theorem slices_ContainsFunc_Deed_i_deedsCodec1_ok : Contract Try.prog 71 slices_ContainsFunc_Deed_i_deedsCodec1_c := by
 have hl : LoopsOK slices_ContainsFunc_Deed_i_deedsCodec1_V [] slices_ContainsFunc_Deed_i_deedsCodec1_b := loopsOK_nil (by kernel_rfl)
 refine (contract_of (F := slices_ContainsFunc_Deed_i_deedsCodec1_I) tau_tys slices_ContainsFunc_Deed_i_deedsCodec1_env Try.func71 (by kernel_rfl) (by kernel_rfl) (by kernel_rfl) hl []).weaken ?_
 rintro ⟨av, rs⟩ co h
 have h : (slices_ContainsFunc_Deed_i_deedsCodec1_G av rs).run some = some co := h
 obtain ⟨a0_, av0, rfl, h_0⟩ := asCons_spec h
 obtain ⟨a1_, av1, rfl, h_1⟩ := asCons_spec h_0
 obtain ⟨rfl, h_2⟩ := asEnd_spec h_1
 obtain ⟨rfl, h_3⟩ := asEnd_spec h_2
 obtain ⟨z2, d1, rfl, h_4⟩ := asImm_spec h_3
 obtain ⟨rfl, h_5⟩ := asFn_spec h_4
 exact fin_opt (slices_ContainsFunc_Deed_i_deedsCodec1_eq z2 d1) (slices_ContainsFunc_Deed_i_deedsCodec1_spec d1) h_5
end Go.Proofs.Ytohnlghdhbignaa

namespace Go.Proofs.Ytohnlghdhbignaa
open Go Go.Abs Go.Proofs
noncomputable def i_Gather_isStation (p0 : TGather) (p1 : Int) : Tre Bool :=
 let v1 := iwrap .i64 ((i_Gather_stations_S p0) - 1)
 .ret (inR p1 0 v1)
noncomputable def i_Gather_isStation_F (p0 : TGather) (p1 : Int) : Option Bool := (i_Gather_isStation p0 p1).run some
def i_Gather_isStation_S (p0 : TGather) (p1 : Int) : Bool :=
 let v1 := iwrap .i64 ((i_Gather_stations_S p0) - 1)
 (inR p1 0 v1)
theorem i_Gather_isStation_spec (p0 : TGather) (p1 : Int) : i_Gather_isStation_F p0 p1 = some (i_Gather_isStation_S p0 p1) := rfl
noncomputable def i_Gather_isStation_V : Env := ⟨tau, [(103, i_Gather_stations_c), (98, i_within_c)], []⟩
noncomputable def i_Gather_isStation_b : Code := (Try.f74.body).getD .skip
noncomputable def i_Gather_isStation_I : FnI := ⟨i_Gather_isStation_b, Try.f74.results.toList, Try.f74.resultTypes.toList, []⟩
noncomputable def i_Gather_isStation_out (_zp0 : Bool) (_p0 : TGather) (_p1 : Int) : Bool → CallOut := fun r => ⟨(.imm true .bool r), [], []⟩
set_option maxRecDepth 100000 in
theorem i_Gather_isStation_eq : ∀ (zp0 : Bool) (p0 : TGather) (p1 : Int), denFn i_Gather_isStation_V i_Gather_isStation_I ⟨[(.imm zp0 kGather p0), (.imm true (.int .i64) p1)], []⟩ = (i_Gather_isStation p0 p1).run fun r => some (i_Gather_isStation_out zp0 p0 p1 r) := fun _ _ _ => by kernel_rfl
noncomputable def i_Gather_isStation_G (av : List AV) (rs : List Root) : Tre CallOut :=
 asCons av fun a0_ av0 =>
 asCons av0 fun a1_ av1 =>
 asEnd av1 <|
 asEnd rs <|
 asImm kGather a0_ fun z2 d1 =>
 asImmZ true (.int .i64) a1_ fun d3 =>
 .ret (i_Gather_isStation_out z2 d1 d3 (i_Gather_isStation_S d1 d3))
noncomputable def i_Gather_isStation_c : Ctr := ⟨[], fun ci => i_Gather_isStation_G ci.args ci.roots, false⟩
theorem i_Gather_isStation_env : EnvOK Try.prog i_Gather_isStation_V := (envOK_cons i_Gather_stations_ok ent103 (envOK_cons i_within_ok ent98 envOK_nil))
set_option maxRecDepth 100000 in
theorem i_Gather_isStation_ok : Contract Try.prog 74 i_Gather_isStation_c := by
 have hl : LoopsOK i_Gather_isStation_V [] i_Gather_isStation_b := loopsOK_nil (by kernel_rfl)
 refine (contract_of (F := i_Gather_isStation_I) tau_tys i_Gather_isStation_env Try.func74 (by kernel_rfl) (by kernel_rfl) (by kernel_rfl) hl []).weaken ?_
 rintro ⟨av, rs⟩ co h
 have h : (i_Gather_isStation_G av rs).run some = some co := h
 obtain ⟨a0_, av0, rfl, h_0⟩ := asCons_spec h
 obtain ⟨a1_, av1, rfl, h_1⟩ := asCons_spec h_0
 obtain ⟨rfl, h_2⟩ := asEnd_spec h_1
 obtain ⟨rfl, h_3⟩ := asEnd_spec h_2
 obtain ⟨z2, d1, rfl, h_4⟩ := asImm_spec h_3
 obtain ⟨d3, rfl, h_5⟩ := asImmZ_spec h_4
 exact fin_ret (i_Gather_isStation_eq z2 d1 d3) (i_Gather_isStation_spec d1 d3) h_5
end Go.Proofs.Ytohnlghdhbignaa

namespace Go.Proofs.Ytohnlghdhbignaa
open Go Go.Abs Go.Proofs
noncomputable def i_deedsCode (p0 : TGather) (p1 : (List TDeed)) (p2 : Int) : Tre Int :=
 .mat (okG p0) fun r1 =>
 .cond (!r1)
  (.ret 1)
  (.mat (hasV p1) fun r2 =>
  .cond r2
   (.ret 1)
   (.cond (decide ((p1.length : Int) > 300))
    (.ret 2)
    (let v3 := i_Gather_isStation_S p0 p2
    .cond (!v3)
     (.ret 2)
     (.ret 0))))
noncomputable def i_deedsCode_F (p0 : TGather) (p1 : (List TDeed)) (p2 : Int) : Option Int := (i_deedsCode p0 p1 p2).run some
def codeR (g : G8) (ds : List D8) (s : Int) : Option Int := askO (decide (g.2.2.1.length ≤ 1048576) && decide (ds.length ≤ 1048576)) (codeM g ds s)
theorem isStation_S {g : G8} (h : isG g = true) (s : Int) : i_Gather_isStation_S g s = inR s 0 (statG g - 1) := by
 have := isG_spec h
 unfold i_Gather_isStation_S i_Gather_stations_S statG
 dsimp only
 rw [iwrap_i64 (n := 1 + g.2.2.2.1) (by omega) (by omega), iwrap_i64 (n := 1 + g.2.2.2.1 + g.2.2.2.2.1) (by omega) (by omega), iwrap_i64 (by omega) (by omega)]
theorem i_deedsCode_spec (p0 : G8) (p1 : List D8) (p2 : Int) (y : Int) (h : codeR p0 p1 p2 = some y) : i_deedsCode_F p0 p1 p2 = some y := by
 obtain ⟨hok, rfl⟩ := askO_some h
 simp only [Bool.and_eq_true] at hok
 obtain ⟨hg, hd⟩ := hok
 unfold i_deedsCode_F i_deedsCode codeM
 rw [run_some_mat (show okG p0 = some _ from lim_of (of_decide_eq_true hg)), Tre.run_cond]
 cases h1 : isG p0
 ·rfl
 rw [Bool.not_true, cond_false, Bool.true_and, run_some_mat (show hasV p1 = some _ from askO_true hd), List.not_all_eq_any_not.symm, Tre.run_cond]
 cases p1.all vDeed
 ·rfl
 rw [Bool.not_true, cond_false, cond_true, Tre.run_cond]
 dsimp only
 rw [isStation_S h1, Tre.run_cond]
 cases decide ((p1.length : Int) > 300)
 ·cases inR p2 0 (statG p0 - 1) <;> rfl
 ·rfl
noncomputable def i_deedsCode_V : Env := ⟨tau, [(70, i_ValidGather_c), (71, slices_ContainsFunc_Deed_i_deedsCodec1_c), (74, i_Gather_isStation_c)], []⟩
noncomputable def i_deedsCode_b : Code := (Try.f33.body).getD .skip
noncomputable def i_deedsCode_I : FnI := ⟨i_deedsCode_b, Try.f33.results.toList, Try.f33.resultTypes.toList, []⟩
noncomputable def i_deedsCode_out (_zp0 : Bool) (_zp1 : Bool) (_p0 : TGather) (_p1 : (List TDeed)) (_p2 : Int) : Int → CallOut := fun r => ⟨(.imm true (.int .i64) r), [], []⟩
set_option maxRecDepth 100000 in
theorem i_deedsCode_eq : ∀ (zp0 : Bool) (zp1 : Bool) (p0 : TGather) (p1 : (List TDeed)) (p2 : Int), denFn i_deedsCode_V i_deedsCode_I ⟨[(.imm zp0 kGather p0), (.imm zp1 (.sl kDeed) p1), (.imm true (.int .i64) p2)], []⟩ = (i_deedsCode p0 p1 p2).run fun r => some (i_deedsCode_out zp0 zp1 p0 p1 p2 r) := fun _ _ _ _ _ => by kernel_rfl
noncomputable def i_deedsCode_G (av : List AV) (rs : List Root) : Tre CallOut :=
 asCons av fun a0_ av0 =>
 asCons av0 fun a1_ av1 =>
 asCons av1 fun a2_ av2 =>
 asEnd av2 <|
 asEnd rs <|
 asImm kGather a0_ fun z2 d1 =>
 asImm (.sl kDeed) a1_ fun z4 d3 =>
 asImmZ true (.int .i64) a2_ fun d5 =>
 .mat (codeR d1 d3 d5) fun r => .ret (i_deedsCode_out z2 z4 d1 d3 d5 r)
noncomputable def i_deedsCode_c : Ctr := ⟨[], fun ci => i_deedsCode_G ci.args ci.roots, false⟩
theorem i_deedsCode_env : EnvOK Try.prog i_deedsCode_V := (envOK_cons i_ValidGather_ok ent70 (envOK_cons slices_ContainsFunc_Deed_i_deedsCodec1_ok ent71 (envOK_cons i_Gather_isStation_ok ent74 envOK_nil)))
set_option maxRecDepth 100000 in
theorem i_deedsCode_ok : Contract Try.prog 33 i_deedsCode_c := by
 have hl : LoopsOK i_deedsCode_V [] i_deedsCode_b := loopsOK_nil (by kernel_rfl)
 refine (contract_of (F := i_deedsCode_I) tau_tys i_deedsCode_env Try.func33 (by kernel_rfl) (by kernel_rfl) (by kernel_rfl) hl []).weaken ?_
 rintro ⟨av, rs⟩ co h
 have h : (i_deedsCode_G av rs).run some = some co := h
 obtain ⟨a0_, av0, rfl, h_0⟩ := asCons_spec h
 obtain ⟨a1_, av1, rfl, h_1⟩ := asCons_spec h_0
 obtain ⟨a2_, av2, rfl, h_2⟩ := asCons_spec h_1
 obtain ⟨rfl, h_3⟩ := asEnd_spec h_2
 obtain ⟨rfl, h_4⟩ := asEnd_spec h_3
 obtain ⟨z2, d1, rfl, h_5⟩ := asImm_spec h_4
 obtain ⟨z4, d3, rfl, h_6⟩ := asImm_spec h_5
 obtain ⟨d5, rfl, h_7⟩ := asImmZ_spec h_6
 exact fin_opt (i_deedsCode_eq z2 z4 d1 d3 d5) (i_deedsCode_spec d1 d3 d5) h_7
end Go.Proofs.Ytohnlghdhbignaa

namespace Go.Proofs.Ytohnlghdhbignaa
open Go Go.Abs Go.Proofs
noncomputable def i_newWorks (p0 : TGather) : Tre TWorks :=
 .ite ((kStation : K) = kStation ∧ 0 ≤ (i_Gather_stations_S p0) ∧ (i_Gather_stations_S p0) = (i_Gather_stations_S p0) ∧ (i_Gather_stations_S p0) * (48 : Nat) ≤ 140737488355328 ∧ 1 ≤ 48) <|
 .mat (srcR p0) fun r1 =>
 .mat (srcR p0) fun r2 =>
 .ite (0 ≤ (0 : Int) ∧ (0 : Int) < ((List.replicate (i_Gather_stations_S p0).toNat (([], ([], ())) : TStation)).length : Int)) <|
 .mat ((List.replicate (i_Gather_stations_S p0).toNat (([], ([], ())) : TStation))[0]?) fun _ =>
 let v4 := (List.replicate (i_Gather_stations_S p0).toNat (([], ([], ())) : TStation)).set 0 (r1, (r2, ()))
 .ret ((v4, ([], ())), (p0, ()))
noncomputable def i_newWorks_F (p0 : TGather) : Option TWorks := (i_newWorks p0).run some
def newR (g : G8) : Option (P8 × (G8 × Unit)) := askO (isG g) (beginM g, g, ())
theorem i_newWorks_spec (p0 : G8) (y : P8 × (G8 × Unit)) (h : newR p0 = some y) : i_newWorks_F p0 = some y := by
 obtain ⟨hg, rfl⟩ := askO_some h
 have hb := isG_spec hg
 obtain ⟨n, hn⟩ := Int.eq_ofNat_of_zero_le (show 0 ≤ p0.2.2.2.1 + p0.2.2.2.2.1 by omega)
 have hs : i_Gather_stations_S p0 = ((n + 1 : Nat) : Int) := by
  unfold i_Gather_stations_S
  dsimp only
  rw [iwrap_i64 (n := 1 + p0.2.2.2.1) (by omega) (by omega), iwrap_i64 (by omega) (by omega)]
  omega
 unfold i_newWorks_F i_newWorks
 rw [hs, Int.toNat_natCast, Tre.run_ite, if_pos ⟨rfl, by omega, rfl, by omega, by omega⟩, run_some_mat (src_some hg), run_some_mat (src_some hg), Tre.run_ite, if_pos (by rw [List.length_replicate]; omega), List.replicate_succ, run_some_mat (show (([], [], ()) :: List.replicate n ([], [], ()) : List (List Int × List Int × Unit))[0]? = some ([], [], ()) from rfl)]
 dsimp only
 rw [List.set_cons_zero, Tre.run_ret]
 have h2 : beginM p0 = ((srcL p0, srcL p0, ()) :: List.replicate n ([], [], ()), [], ()) := by unfold beginM; rw [hn, Int.toNat_natCast]
 rw [h2]
noncomputable def i_newWorks_V : Env := ⟨tau, [(103, i_Gather_stations_c), (104, i_Gather_source_c)], []⟩
noncomputable def i_newWorks_b : Code := (Try.f75.body).getD .skip
noncomputable def i_newWorks_I : FnI := ⟨i_newWorks_b, Try.f75.results.toList, Try.f75.resultTypes.toList, []⟩
noncomputable def i_newWorks_out (zp0 : Bool) (_p0 : TGather) : TWorks → CallOut := fun r => ⟨(.ptr (1, 0) []), [], [⟨true, kWorks, (.pair .own (.imm zp0)), r⟩]⟩
set_option maxRecDepth 100000 in
theorem i_newWorks_eq : ∀ (zp0 : Bool) (p0 : TGather), denFn i_newWorks_V i_newWorks_I ⟨[(.imm zp0 kGather p0)], []⟩ = (i_newWorks p0).run fun r => some (i_newWorks_out zp0 p0 r) := fun _ _ => by kernel_rfl
noncomputable def i_newWorks_G (av : List AV) (rs : List Root) : Tre CallOut :=
 asCons av fun a0_ av0 =>
 asEnd av0 <|
 asEnd rs <|
 asImm kGather a0_ fun z2 d1 =>
 .mat (newR d1) fun r => .ret (i_newWorks_out z2 d1 r)
noncomputable def i_newWorks_c : Ctr := ⟨[], fun ci => i_newWorks_G ci.args ci.roots, false⟩
theorem i_newWorks_env : EnvOK Try.prog i_newWorks_V := (envOK_cons i_Gather_stations_ok ent103 (envOK_cons i_Gather_source_ok ent104 envOK_nil))
set_option maxRecDepth 100000 in
theorem i_newWorks_ok : Contract Try.prog 75 i_newWorks_c := by
 have hl : LoopsOK i_newWorks_V [] i_newWorks_b := loopsOK_nil (by kernel_rfl)
 refine (contract_of (F := i_newWorks_I) tau_tys i_newWorks_env Try.func75 (by kernel_rfl) (by kernel_rfl) (by kernel_rfl) hl []).weaken ?_
 rintro ⟨av, rs⟩ co h
 have h : (i_newWorks_G av rs).run some = some co := h
 obtain ⟨a0_, av0, rfl, h_0⟩ := asCons_spec h
 obtain ⟨rfl, h_1⟩ := asEnd_spec h_0
 obtain ⟨rfl, h_2⟩ := asEnd_spec h_1
 obtain ⟨z2, d1, rfl, h_3⟩ := asImm_spec h_2
 exact fin_opt (i_newWorks_eq z2 d1) (i_newWorks_spec d1) h_3
end Go.Proofs.Ytohnlghdhbignaa

namespace Go.Proofs.Ytohnlghdhbignaa
open Go Go.Abs Go.Proofs
noncomputable def i_sumOf_l3 (h3_0_0 : Int) (h3_0_2 : (List Int)) (h3_0_3 : Int) : (Int × Int) → Tre ((Int × Int) ⊕ Int) := fun s3 =>
 .cond (decide (s3.2 < h3_0_3))
  (.ite (0 ≤ s3.2 ∧ s3.2 < (h3_0_2.length : Int)) <|
  .mat (h3_0_2[s3.2.toNat]?) fun x1 =>
  .ite (0 ≤ s3.2) <|
  let v2 := iand .i64 (ishr .i64 h3_0_0 s3.2) 1
  .cond (decide (v2 = 1))
   (.ret (.inl (ixor .i64 s3.1 x1, iwrap .i64 (s3.2 + 1))))
   (.ret (.inl (s3.1, iwrap .i64 (s3.2 + 1)))))
  (.ret (.inr s3.1))
noncomputable def i_sumOf (p0 : (List Int)) (p1 : Int) : Tre Int :=
 .mat (loopF (i_sumOf_l3 p1 p0 (p0.length : Int)) (0, 0)) fun l3 =>
 .ret l3
noncomputable def i_sumOf_F (p0 : (List Int)) (p1 : Int) : Option Int := (i_sumOf p0 p1).run some
def sumR (xs : List Int) (a : Int) : Option Int := lim xs.length (timesL a xs)
theorem i_sumOf_spec (p0 : List Int) (p1 : Int) (y : Int) (h : sumR p0 p1 = some y) : i_sumOf_F p0 p1 = some y := by
 obtain ⟨hl, rfl⟩ := lim_some h
 unfold i_sumOf_F i_sumOf
 rw [Tre.run_mat]
 have := fold_loop' (xs := p0) (step := i_sumOf_l3 p1 p0 (p0.length : Int)) (fun i acc => (acc, (i : Int))) (fun i acc x => .inl (cond (bitAt p1 (i : Int)) (ixor .i64 acc x) acc)) id (by
  intro i acc x hx
  have hi : i < p0.length := (List.getElem?_eq_some_iff.1 hx).1
  unfold i_sumOf_l3
  rw [run_inb hx, Tre.run_ite, if_pos (by dsimp only; omega), Tre.run_cond]
  show cond (bitAt p1 (i : Int)) _ _ = _
  cases bitAt p1 (i : Int)
  ·rw [cond_false, Tre.run_ret, iwrap_succ (by omega)]; rfl
  ·rw [cond_true, Tre.run_ret, iwrap_succ (by omega)]; rfl)
  (by
  intro acc
  unfold i_sumOf_l3
  exact run_out) 0
 rw [show ((0 : Int), (0 : Int)) = (0, ((0 : Nat) : Int)) from rfl, this]
 rfl
noncomputable def i_sumOf_V : Env := ⟨tau, [], []⟩
noncomputable def i_sumOf_b : Code := (Try.f130.body).getD .skip
noncomputable def i_sumOf_l3_mk (z3_0 : Bool) (h3_0_0 : Int) (h3_0_2 : (List Int)) (h3_0_3 : Int) : (Int × Int) → St := fun x => stOf [(1, (.imm true (.int .i64) h3_0_0)), (5, (.imm true (.int .i64) x.1)), (8, (.imm z3_0 (.sl (.int .i64)) h3_0_2)), (9, (.imm true (.int .i64) h3_0_3)), (10, (.imm true (.int .i64) x.2))] []
noncomputable def i_sumOf_l3_out (_z3_0 : Bool) (_h3_0_0 : Int) (_h3_0_2 : (List Int)) (_h3_0_3 : Int) : Int → Ex × St := fun x => (.exit 0, stOf [(5, (.imm true (.int .i64) x))] [])
noncomputable def i_sumOf_l3_D (s : St) : Tre (Ex × St) :=
 asImmZ true (.int .i64) (s.tmps 1) fun d2 =>
 asImmZ true (.int .i64) (s.tmps 5) fun d4 =>
 asImm (.sl (.int .i64)) (s.tmps 8) fun z7 d6 =>
 asImmZ true (.int .i64) (s.tmps 9) fun d9 =>
 asImmZ true (.int .i64) (s.tmps 10) fun d11 =>
 .mat (loopF (i_sumOf_l3 d2 d6 d9) (d4, d11)) fun x => .ret (i_sumOf_l3_out z7 d2 d6 d9 x)
noncomputable def i_sumOf_l3_L : LoopI := ⟨([1, 5, 8, 9, 10], []), ([5], []), i_sumOf_l3_D⟩
noncomputable def i_sumOf_A : List (Nat × LoopI) := [(3, i_sumOf_l3_L)]
set_option maxRecDepth 100000 in
theorem i_sumOf_l3_step : ∀ (z3_0 : Bool) (h3_0_0 : Int) (h3_0_2 : (List Int)) (h3_0_3 : Int) (x : (Int × Int)) (c : St → Option (Ex × St)), den i_sumOf_V i_sumOf_A (loopAt i_sumOf_b 0) (i_sumOf_l3_mk z3_0 h3_0_0 h3_0_2 h3_0_3 x) (roundK i_sumOf_l3_L.kp i_sumOf_l3_L.kx c) = (i_sumOf_l3 h3_0_0 h3_0_2 h3_0_3 x).run (roundR (i_sumOf_l3_mk z3_0 h3_0_0 h3_0_2 h3_0_3) (i_sumOf_l3_out z3_0 h3_0_0 h3_0_2 h3_0_3) c) := fun _ _ _ _ _ _ => by
 kernel_rfl
theorem i_sumOf_l3_ok : LoopOK i_sumOf_V i_sumOf_A (loopAt i_sumOf_b 0) i_sumOf_l3_L := loopOK_of fun s e s' h => by
 generalize hs : restrict i_sumOf_l3_L.kp s = s1 at h
 have h : (i_sumOf_l3_D s1).run some = some (e, s') := h
 obtain ⟨d2, e1, h_0⟩ := asImmZ_spec h
 obtain ⟨d4, e3, h_1⟩ := asImmZ_spec h_0
 obtain ⟨z7, d6, e5, h_2⟩ := asImm_spec h_1
 obtain ⟨d9, e8, h_3⟩ := asImmZ_spec h_2
 obtain ⟨d11, e10, h_4⟩ := asImmZ_spec h_3
 obtain ⟨y, hy, hz⟩ := mat_ret h_4
 refine ⟨_, _, i_sumOf_l3_mk z7 d2 d6 d9, i_sumOf_l3_out z7 d2 d6 d9, i_sumOf_l3 d2 d6 d9, (d4, d11), y, ?_, hy, ?_, i_sumOf_l3_step z7 d2 d6 d9⟩
 ·subst hs; exact restrict_eq (T := [(1, (.imm true (.int .i64) d2)), (5, (.imm true (.int .i64) d4)), (8, (.imm z7 (.sl (.int .i64)) d6)), (9, (.imm true (.int .i64) d9)), (10, (.imm true (.int .i64) d11))]) (U := []) rfl rfl ⟨e1, e3, e5, e8, e10, trivial⟩ trivial
 ·exact Option.some.inj hz
noncomputable def i_sumOf_I : FnI := ⟨i_sumOf_b, Try.f130.results.toList, Try.f130.resultTypes.toList, i_sumOf_A⟩
noncomputable def i_sumOf_out (_zp0 : Bool) (_p0 : (List Int)) (_p1 : Int) : Int → CallOut := fun r => ⟨(.imm true (.int .i64) r), [], []⟩
set_option maxRecDepth 100000 in
theorem i_sumOf_eq : ∀ (zp0 : Bool) (p0 : (List Int)) (p1 : Int), denFn i_sumOf_V i_sumOf_I ⟨[(.imm zp0 (.sl (.int .i64)) p0), (.imm true (.int .i64) p1)], []⟩ = (i_sumOf p0 p1).run fun r => some (i_sumOf_out zp0 p0 p1 r) := fun _ _ _ => by kernel_rfl
noncomputable def i_sumOf_G (av : List AV) (rs : List Root) : Tre CallOut :=
 asCons av fun a0_ av0 =>
 asCons av0 fun a1_ av1 =>
 asEnd av1 <|
 asEnd rs <|
 asImm (.sl (.int .i64)) a0_ fun z2 d1 =>
 asImmZ true (.int .i64) a1_ fun d3 =>
 .mat (sumR d1 d3) fun r => .ret (i_sumOf_out z2 d1 d3 r)
noncomputable def i_sumOf_c : Ctr := ⟨[], fun ci => i_sumOf_G ci.args ci.roots, false⟩
theorem i_sumOf_env : EnvOK Try.prog i_sumOf_V := envOK_nil
set_option maxRecDepth 100000 in
theorem i_sumOf_ok : Contract Try.prog 130 i_sumOf_c := by
 have hl : LoopsOK i_sumOf_V i_sumOf_A i_sumOf_b := (loopsOK_all (n := 1) (by kernel_rfl) fun k hk => by
   match k, hk with
   | 0, _ => exact loopOK_at (id := 3) (L := i_sumOf_l3_L) (by kernel_rfl) (by kernel_rfl) i_sumOf_l3_ok)
 refine (contract_of (F := i_sumOf_I) tau_tys i_sumOf_env Try.func130 (by kernel_rfl) (by kernel_rfl) (by kernel_rfl) hl []).weaken ?_
 rintro ⟨av, rs⟩ co h
 have h : (i_sumOf_G av rs).run some = some co := h
 obtain ⟨a0_, av0, rfl, h_0⟩ := asCons_spec h
 obtain ⟨a1_, av1, rfl, h_1⟩ := asCons_spec h_0
 obtain ⟨rfl, h_2⟩ := asEnd_spec h_1
 obtain ⟨rfl, h_3⟩ := asEnd_spec h_2
 obtain ⟨z2, d1, rfl, h_4⟩ := asImm_spec h_3
 obtain ⟨d3, rfl, h_5⟩ := asImmZ_spec h_4
 exact fin_opt (i_sumOf_eq z2 d1 d3) (i_sumOf_spec d1 d3) h_5
end Go.Proofs.Ytohnlghdhbignaa

namespace Go.Proofs.Ytohnlghdhbignaa
open Go Go.Abs Go.Proofs
noncomputable def i_works_send_ba03 (p0 : TDeed) (p1 : TWorks) : Tre (Int × TWorks) :=
 let v1 := i_Gather_isStation_S p1.2.1 p0.2.1
 .cond (!v1)
  (.ret (2, p1))
  (let v2 := i_Gather_isStation_S p1.2.1 p0.2.2.1
  .cond (!v2)
   (.ret (2, p1))
   (.cond (decide (p0.2.1 = p0.2.2.1))
    (.ret (2, p1))
    (.cond (decide (p0.2.2.1 = 0))
     (.ret (2, p1))
     (.ite (0 ≤ p0.2.1 ∧ p0.2.1 < (p1.1.1.length : Int)) <|
     .mat (p1.1.1[p0.2.1.toNat]?) fun _ =>
     .mat (p1.1.1[p0.2.1.toNat]?) fun x4 =>
     .ite (0 ≤ (x4.1.length : Int)) <|
     let v5 := ishl .i64 1 (x4.1.length : Int)
     .cond (decide (p0.2.2.2.1 ≥ v5))
      (.ret (2, p1))
      (.cond (decide (p0.2.2.2.1 = 0))
       (.ret (4, p1))
       (.cond (decide ((p1.1.2.1.length : Int) = 12))
        (.ret (3, p1))
        (.ite (0 ≤ p0.2.1 ∧ p0.2.1 < (p1.1.1.length : Int)) <|
        .mat (p1.1.1[p0.2.1.toNat]?) fun _ =>
        .mat (p1.1.1[p0.2.1.toNat]?) fun x7 =>
        .mat (sumR x7.1 p0.2.2.2.1) fun r8 =>
        .ite ((p1.1.2.1.length + 1) * 16 ≤ appendMax ∧ 1 ≤ 16) <|
        let v9 := p1.1.2.1 ++ ([(p0.2.2.1, (r8, ()))])
        .ret (0, ((p1.1.1, (v9, p1.1.2.2)), p1.2)))))))))
noncomputable def i_works_send_ba03_F (p0 : TDeed) (p1 : TWorks) : Option (Int × TWorks) := (i_works_send_ba03 p0 p1).run some
def sendI (d : D8) (p : P8 × (G8 × Unit)) : Option (Int × (P8 × (G8 × Unit))) := askO (isG p.2.1 && vDeed d && okP 1000 p.2.1 p.1) ((sendM d p.1).1, (sendM d p.1).2, p.2)
theorem i_works_send_ba03_spec (p0 : D8) (p1 : P8 × (G8 × Unit)) (y : Int × (P8 × (G8 × Unit))) (h : sendI p0 p1 = some y) : i_works_send_ba03_F p0 p1 = some y := by
 obtain ⟨hok, rfl⟩ := askO_some h
 simp only [Bool.and_eq_true] at hok
 obtain ⟨⟨hg, hd⟩, hp⟩ := hok
 obtain ⟨⟨a0, a1⟩, ⟨b0, b1⟩, ⟨c0, c1⟩, _⟩ := vDeed_rng hd
 obtain ⟨l1, l2, l3, l4⟩ := okP_spec hp
 obtain ⟨⟨st, wi, ⟨⟩⟩, ⟨g, ⟨⟩⟩⟩ := p1
 obtain ⟨kk, a, b, c, ⟨⟩⟩ := p0
 unfold i_works_send_ba03_F i_works_send_ba03 sendM
 simp only at *
 rw [isStation_S hg, isStation_S hg]
 have hst : ∀ s : Int, 0 ≤ s → inR s 0 (statG g - 1) = !decide (s ≥ (st.length : Int)) := by
  intro s hs
  unfold inR
  rw [decide_eq_true hs, Bool.true_and]
  by_cases h : s ≥ (st.length : Int)
  ·rw [decide_eq_true h, decide_eq_false (by omega)]; rfl
  ·rw [decide_eq_false h, decide_eq_true (by omega)]; rfl
 rw [hst a a0, hst b b0, Bool.not_not, Bool.not_not]
 by_cases h1 : a ≥ (st.length : Int)
 ·simp only [Tre.run_cond, decide_eq_true h1, cond_true, Tre.run_ret, Bool.true_or]
 by_cases h2 : b ≥ (st.length : Int)
 ·simp only [Tre.run_cond, decide_eq_true h2, decide_eq_false h1, cond_true, cond_false, Tre.run_ret, Bool.true_or, Bool.false_or]
 by_cases h3 : a = b
 ·simp only [Tre.run_cond, decide_eq_true h3, decide_eq_false h1, decide_eq_false h2, cond_true, cond_false, Tre.run_ret, Bool.true_or, Bool.false_or]
 by_cases h4 : b = 0
 ·simp only [Tre.run_cond, decide_eq_true h4, decide_eq_false h1, decide_eq_false h2, decide_eq_false h3, cond_true, cond_false, Tre.run_ret, Bool.false_or]
 obtain ⟨i, rfl⟩ := Int.eq_ofNat_of_zero_le a0
 have hi : i < st.length := by omega
 obtain ⟨s, hs⟩ : ∃ s, st[i]? = some s := ⟨_, List.getElem?_eq_getElem hi⟩
 have hs1 := (okS_spec.1 (l2 s (List.mem_of_getElem? hs)).1).1
 simp only [Tre.run_cond, decide_eq_false h1, decide_eq_false h2, decide_eq_false h3, decide_eq_false h4, cond_false, Bool.false_or, Int.toNat_natCast, hs]
 rw [Tre.run_ite, if_pos ⟨a0, by omega⟩, run_some_mat rfl, run_some_mat rfl, Tre.run_ite, if_pos (by omega)]
 simp only [Tre.run_cond]
 cases decide (c ≥ ishl .i64 1 (s.1.length : Int))
 ·cases decide (c = 0)
  ·cases decide ((wi.length : Int) = 12)
   ·simp only [cond_false]
    rw [Tre.run_ite, if_pos ⟨a0, by omega⟩, run_some_mat rfl, run_some_mat rfl, run_some_mat (show sumR s.1 c = some _ from lim_of (by omega)), Tre.run_ite, if_pos (by unfold appendMax; omega)]
    rfl
   ·rfl
  ·rfl
 ·rfl
noncomputable def i_works_send_ba03_V : Env := ⟨tau, [(74, i_Gather_isStation_c), (130, i_sumOf_c)], []⟩
noncomputable def i_works_send_ba03_b : Code := (Try.f105.body).getD .skip
noncomputable def i_works_send_ba03_I : FnI := ⟨i_works_send_ba03_b, Try.f105.results.toList, Try.f105.resultTypes.toList, []⟩
noncomputable def i_works_send_ba03_out (zp0 : Bool) (_p0 : TDeed) (_p1 : TWorks) : (Int × TWorks) → CallOut := fun r => ⟨(.imm true (.int .i64) r.1), [⟨true, kWorks, (.pair .own (.imm zp0)), r.2⟩], []⟩
set_option maxRecDepth 100000 in
theorem i_works_send_ba03_eq : ∀ (zp0 : Bool) (p0 : TDeed) (p1 : TWorks), denFn i_works_send_ba03_V i_works_send_ba03_I ⟨[(.ptr (0, 0) []), (.imm true kDeed p0)], [⟨true, kWorks, (.pair .own (.imm zp0)), p1⟩]⟩ = (i_works_send_ba03 p0 p1).run fun r => some (i_works_send_ba03_out zp0 p0 p1 r) := fun _ _ _ => by kernel_rfl
noncomputable def i_works_send_ba03_G (av : List AV) (rs : List Root) : Tre CallOut :=
 asCons av fun a0_ av0 =>
 asCons av0 fun a1_ av1 =>
 asEnd av1 <|
 asCons rs fun r0_ rs0 =>
 asEnd rs0 <|
 asPtr (0, 0) [] a0_ <|
 asImmZ true kDeed a1_ fun d1 =>
 asRt true kWorks r0_ fun m2 d3 =>
 asMPair m2 fun m4 m5 =>
 asM .own m4 <|
 asMImm m5 fun z6 =>
 .mat (sendI d1 d3) fun r => .ret (i_works_send_ba03_out z6 d1 d3 r)
noncomputable def i_works_send_ba03_c : Ctr := ⟨[], fun ci => i_works_send_ba03_G ci.args ci.roots, false⟩
theorem i_works_send_ba03_env : EnvOK Try.prog i_works_send_ba03_V := (envOK_cons i_Gather_isStation_ok ent74 (envOK_cons i_sumOf_ok ent130 envOK_nil))
set_option maxRecDepth 100000 in
theorem i_works_send_ba03_ok : Contract Try.prog 105 i_works_send_ba03_c := by
 have hl : LoopsOK i_works_send_ba03_V [] i_works_send_ba03_b := loopsOK_nil (by kernel_rfl)
 refine (contract_of (F := i_works_send_ba03_I) tau_tys i_works_send_ba03_env Try.func105 (by kernel_rfl) (by kernel_rfl) (by kernel_rfl) hl []).weaken ?_
 rintro ⟨av, rs⟩ co h
 have h : (i_works_send_ba03_G av rs).run some = some co := h
 obtain ⟨a0_, av0, rfl, h_0⟩ := asCons_spec h
 obtain ⟨a1_, av1, rfl, h_1⟩ := asCons_spec h_0
 obtain ⟨rfl, h_2⟩ := asEnd_spec h_1
 obtain ⟨r0_, rs0, rfl, h_3⟩ := asCons_spec h_2
 obtain ⟨rfl, h_4⟩ := asEnd_spec h_3
 obtain ⟨rfl, h_5⟩ := asPtr_spec h_4
 obtain ⟨d1, rfl, h_6⟩ := asImmZ_spec h_5
 obtain ⟨m2, d3, rfl, h_7⟩ := asRt_spec h_6
 obtain ⟨m4, m5, rfl, h_8⟩ := asMPair_spec h_7
 obtain ⟨rfl, h_9⟩ := asM_spec h_8
 obtain ⟨z6, rfl, h_10⟩ := asMImm_spec h_9
 exact fin_opt (i_works_send_ba03_eq z6 d1 d3) (i_works_send_ba03_spec d1 d3) h_10
end Go.Proofs.Ytohnlghdhbignaa

namespace Go.Proofs.Ytohnlghdhbignaa
open Go Go.Abs Go.Proofs
noncomputable def i_size_Parcel (p0 : (List (Int × (Int × Unit)))) : Tre Int :=
 .ret (p0.length : Int)
noncomputable def i_size_Parcel_F (p0 : (List (Int × (Int × Unit)))) : Option Int := (i_size_Parcel p0).run some
theorem i_size_Parcel_spec (p0 : (List (Int × (Int × Unit)))) : i_size_Parcel_F p0 = some (p0.length : Int) := rfl
noncomputable def i_size_Parcel_V : Env := ⟨tau, [], []⟩
noncomputable def i_size_Parcel_b : Code := (Try.f131.body).getD .skip
noncomputable def i_size_Parcel_I : FnI := ⟨i_size_Parcel_b, Try.f131.results.toList, Try.f131.resultTypes.toList, []⟩
noncomputable def i_size_Parcel_out (_zp0 : Bool) (_p0 : (List (Int × (Int × Unit)))) : Int → CallOut := fun r => ⟨(.imm true (.int .i64) r), [], []⟩
set_option maxRecDepth 100000 in
theorem i_size_Parcel_eq : ∀ (zp0 : Bool) (p0 : (List (Int × (Int × Unit)))), denFn i_size_Parcel_V i_size_Parcel_I ⟨[(.imm zp0 (.sl kField) p0)], []⟩ = (i_size_Parcel p0).run fun r => some (i_size_Parcel_out zp0 p0 r) := fun _ _ => by kernel_rfl
noncomputable def i_size_Parcel_G (av : List AV) (rs : List Root) : Tre CallOut :=
 asCons av fun a0_ av0 =>
 asEnd av0 <|
 asEnd rs <|
 asImm (.sl kField) a0_ fun z2 d1 =>
 .ret (i_size_Parcel_out z2 d1 (d1.length : Int))
noncomputable def i_size_Parcel_c : Ctr := ⟨[], fun ci => i_size_Parcel_G ci.args ci.roots, false⟩
theorem i_size_Parcel_env : EnvOK Try.prog i_size_Parcel_V := envOK_nil
set_option maxRecDepth 100000 in
theorem i_size_Parcel_ok : Contract Try.prog 131 i_size_Parcel_c := by
 have hl : LoopsOK i_size_Parcel_V [] i_size_Parcel_b := loopsOK_nil (by kernel_rfl)
 refine (contract_of (F := i_size_Parcel_I) tau_tys i_size_Parcel_env Try.func131 (by kernel_rfl) (by kernel_rfl) (by kernel_rfl) hl []).weaken ?_
 rintro ⟨av, rs⟩ co h
 have h : (i_size_Parcel_G av rs).run some = some co := h
 obtain ⟨a0_, av0, rfl, h_0⟩ := asCons_spec h
 obtain ⟨rfl, h_1⟩ := asEnd_spec h_0
 obtain ⟨rfl, h_2⟩ := asEnd_spec h_1
 obtain ⟨z2, d1, rfl, h_3⟩ := asImm_spec h_2
 exact fin_ret (i_size_Parcel_eq z2 d1) (i_size_Parcel_spec d1) h_3
end Go.Proofs.Ytohnlghdhbignaa

namespace Go.Proofs.Ytohnlghdhbignaa
open Go Go.Abs Go.Proofs
noncomputable def slices_Clone_int64_b930 : Tre (List Int) :=
 .ret []
noncomputable def slices_Clone_int64_b930_F : Option (List Int) := (slices_Clone_int64_b930).run some
theorem slices_Clone_int64_b930_spec : slices_Clone_int64_b930_F = some [] := rfl
noncomputable def slices_Clone_int64_b930_V : Env := ⟨tau, [], []⟩
noncomputable def slices_Clone_int64_b930_b : Code := (Try.f36.body).getD .skip
noncomputable def slices_Clone_int64_b930_I : FnI := ⟨slices_Clone_int64_b930_b, Try.f36.results.toList, Try.f36.resultTypes.toList, []⟩
noncomputable def slices_Clone_int64_b930_out : (List Int) → CallOut := fun r => ⟨(.ref (1, 0) []), [], [⟨false, (.sl (.int .i64)), .own, r⟩]⟩
set_option maxRecDepth 100000 in
theorem slices_Clone_int64_b930_eq : denFn slices_Clone_int64_b930_V slices_Clone_int64_b930_I ⟨[.nil], []⟩ = (slices_Clone_int64_b930).run fun r => some (slices_Clone_int64_b930_out r) := by kernel_rfl
noncomputable def slices_Clone_int64_b930_G (av : List AV) (rs : List Root) : Tre CallOut :=
 asCons av fun a0_ av0 =>
 asEnd av0 <|
 asEnd rs <|
 asNil a0_ <|
 .ret (slices_Clone_int64_b930_out [])
noncomputable def slices_Clone_int64_b930_c : Ctr := ⟨[], fun ci => slices_Clone_int64_b930_G ci.args ci.roots, false⟩
theorem slices_Clone_int64_b930_env : EnvOK Try.prog slices_Clone_int64_b930_V := envOK_nil
set_option maxRecDepth 100000 in
theorem slices_Clone_int64_b930_ok : Contract Try.prog 36 slices_Clone_int64_b930_c := by
 have hl : LoopsOK slices_Clone_int64_b930_V [] slices_Clone_int64_b930_b := loopsOK_nil (by kernel_rfl)
 refine (contract_of (F := slices_Clone_int64_b930_I) tau_tys slices_Clone_int64_b930_env Try.func36 (by kernel_rfl) (by kernel_rfl) (by kernel_rfl) hl []).weaken ?_
 rintro ⟨av, rs⟩ co h
 have h : (slices_Clone_int64_b930_G av rs).run some = some co := h
 obtain ⟨a0_, av0, rfl, h_0⟩ := asCons_spec h
 obtain ⟨rfl, h_1⟩ := asEnd_spec h_0
 obtain ⟨rfl, h_2⟩ := asEnd_spec h_1
 obtain ⟨rfl, h_3⟩ := asNil_spec h_2
 exact fin_ret (slices_Clone_int64_b930_eq) (slices_Clone_int64_b930_spec) h_3
end Go.Proofs.Ytohnlghdhbignaa

namespace Go.Proofs.Ytohnlghdhbignaa
open Go Go.Abs Go.Proofs
noncomputable def slices_Clone_int64_6661 (p0 : (List Int)) : Tre (List Int) :=
 .ite ((0 + p0.length) * 8 ≤ appendMax ∧ 1 ≤ 8) <|
 .ret ([] ++ p0)
noncomputable def slices_Clone_int64_6661_F (p0 : (List Int)) : Option (List Int) := (slices_Clone_int64_6661 p0).run some
theorem slices_Clone_int64_6661_spec (p0 : List Int) (y : List Int) (h : cloneR p0 = some y) : slices_Clone_int64_6661_F p0 = some y := by
 obtain ⟨hl, rfl⟩ := lim_some h
 have hb : (0 + p0.length) * 8 ≤ appendMax ∧ 1 ≤ 8 := by unfold appendMax; omega
 unfold slices_Clone_int64_6661_F slices_Clone_int64_6661
 rw [Tre.run_ite, if_pos hb]
 rfl
noncomputable def slices_Clone_int64_6661_V : Env := ⟨tau, [], []⟩
noncomputable def slices_Clone_int64_6661_b : Code := (Try.f36.body).getD .skip
noncomputable def slices_Clone_int64_6661_I : FnI := ⟨slices_Clone_int64_6661_b, Try.f36.results.toList, Try.f36.resultTypes.toList, []⟩
noncomputable def slices_Clone_int64_6661_out (_zp0 : Bool) (_p0 : (List Int)) : (List Int) → CallOut := fun r => ⟨(.ref (1, 0) []), [], [⟨false, (.sl (.int .i64)), .own, r⟩]⟩
set_option maxRecDepth 100000 in
theorem slices_Clone_int64_6661_eq : ∀ (zp0 : Bool) (p0 : (List Int)), denFn slices_Clone_int64_6661_V slices_Clone_int64_6661_I ⟨[(.nn zp0 (.int .i64) p0)], []⟩ = (slices_Clone_int64_6661 p0).run fun r => some (slices_Clone_int64_6661_out zp0 p0 r) := fun _ _ => by kernel_rfl
noncomputable def slices_Clone_int64_6661_G (av : List AV) (rs : List Root) : Tre CallOut :=
 asCons av fun a0_ av0 =>
 asEnd av0 <|
 asEnd rs <|
 asNn (.int .i64) a0_ fun z1 d2 =>
 .mat (cloneR d2) fun r => .ret (slices_Clone_int64_6661_out z1 d2 r)
noncomputable def slices_Clone_int64_6661_c : Ctr := ⟨[], fun ci => slices_Clone_int64_6661_G ci.args ci.roots, false⟩
theorem slices_Clone_int64_6661_env : EnvOK Try.prog slices_Clone_int64_6661_V := envOK_nil
set_option maxRecDepth 100000 in
theorem slices_Clone_int64_6661_ok : Contract Try.prog 36 slices_Clone_int64_6661_c := by
 have hl : LoopsOK slices_Clone_int64_6661_V [] slices_Clone_int64_6661_b := loopsOK_nil (by kernel_rfl)
 refine (contract_of (F := slices_Clone_int64_6661_I) tau_tys slices_Clone_int64_6661_env Try.func36 (by kernel_rfl) (by kernel_rfl) (by kernel_rfl) hl []).weaken ?_
 rintro ⟨av, rs⟩ co h
 have h : (slices_Clone_int64_6661_G av rs).run some = some co := h
 obtain ⟨a0_, av0, rfl, h_0⟩ := asCons_spec h
 obtain ⟨rfl, h_1⟩ := asEnd_spec h_0
 obtain ⟨rfl, h_2⟩ := asEnd_spec h_1
 obtain ⟨z1, d2, rfl, h_3⟩ := asNn_spec h_2
 exact fin_opt (slices_Clone_int64_6661_eq z1 d2) (slices_Clone_int64_6661_spec d2) h_3
end Go.Proofs.Ytohnlghdhbignaa

namespace Go.Proofs.Ytohnlghdhbignaa
open Go Go.Abs Go.Proofs
theorem slices_Clone_int64_nil (y : List Int) (h : cloneR ([] : List Int) = some y) : y = [] := (lim_some h).2.symm
noncomputable def slices_Clone_int64_G (av : List AV) (rs : List Root) : Tre CallOut :=
 asCons av fun a0_ av0 =>
 asEnd av0 <|
 asEnd rs <|
 asImm (.sl (.int .i64)) a0_ fun z2 d1 =>
 .mat (cloneR d1) fun r => .ret ⟨(.ref (1, 0) []), [], [⟨false, (.sl (.int .i64)), .own, r⟩]⟩
noncomputable def slices_Clone_int64_c : Ctr := ⟨[], fun ci => slices_Clone_int64_G ci.args ci.roots, false⟩
theorem slices_Clone_int64_ok : Contract Try.prog 36 slices_Clone_int64_c := by
 refine contract_nil (e := (.int .i64)) slices_Clone_int64_b930_ok slices_Clone_int64_6661_ok ?_
 rintro ⟨av, rs⟩ co h
 have h : (slices_Clone_int64_G av rs).run some = some co := h
 obtain ⟨a0_, av0, rfl, h_0⟩ := asCons_spec h
 obtain ⟨rfl, h_1⟩ := asEnd_spec h_0
 obtain ⟨rfl, h_2⟩ := asEnd_spec h_1
 obtain ⟨z2, d1, rfl, h_3⟩ := asImm_spec h_2
 refine ⟨z2, d1, rfl, ?_, ?_⟩
 ·exact h_3
 ·rintro rfl
  obtain ⟨y, h1, h2⟩ := mat_ret h_3
  have hy : y = [] := by
   have := slices_Clone_int64_nil y h1
   exact this
  subst hy
  rw [← h2]; rfl
end Go.Proofs.Ytohnlghdhbignaa

namespace Go.Proofs.Ytohnlghdhbignaa
open Go Go.Abs Go.Proofs
noncomputable def i_echelonc1_66da (p0 : Int) (p1 : Int) : Tre Bool :=
 .ite (0 ≤ p1) <|
 let v1 := iand .i64 (ishr .i64 p0 p1) 1
 .ret (decide (v1 = 1))
noncomputable def i_echelonc1_66da_F (p0 : Int) (p1 : Int) : Option Bool := (i_echelonc1_66da p0 p1).run some
def bitB (x j : Int) : Option Bool := askO (decide (0 ≤ j)) (bitAt x j)
theorem i_echelonc1_66da_spec (p0 p1 : Int) (y : Bool) (h : bitB p0 p1 = some y) : i_echelonc1_66da_F p0 p1 = some y := by
 obtain ⟨hl, rfl⟩ := askO_some h
 unfold i_echelonc1_66da_F i_echelonc1_66da
 rw [Tre.run_ite, if_pos (of_decide_eq_true hl)]
 rfl
noncomputable def i_echelonc1_66da_V : Env := ⟨tau, [], []⟩
noncomputable def i_echelonc1_66da_b : Code := (Try.f157.body).getD .skip
noncomputable def i_echelonc1_66da_I : FnI := ⟨i_echelonc1_66da_b, Try.f157.results.toList, Try.f157.resultTypes.toList, []⟩
noncomputable def i_echelonc1_66da_out (_p0 : Int) (p1 : Int) : Bool → CallOut := fun r => ⟨(.imm true .bool r), [⟨true, (.int .i64), .own, p1⟩], []⟩
set_option maxRecDepth 100000 in
theorem i_echelonc1_66da_eq : ∀ (p0 : Int) (p1 : Int), denFn i_echelonc1_66da_V i_echelonc1_66da_I ⟨[(.imm true (.int .i64) p0), (.ptr (0, 0) [])], [⟨true, (.int .i64), .own, p1⟩]⟩ = (i_echelonc1_66da p0 p1).run fun r => some (i_echelonc1_66da_out p0 p1 r) := fun _ _ => by kernel_rfl
noncomputable def i_echelonc1_66da_G (av : List AV) (rs : List Root) : Tre CallOut :=
 asCons av fun a0_ av0 =>
 asCons av0 fun a1_ av1 =>
 asEnd av1 <|
 asCons rs fun r0_ rs0 =>
 asEnd rs0 <|
 asImmZ true (.int .i64) a0_ fun d1 =>
 asPtr (0, 0) [] a1_ <|
 asRt true (.int .i64) r0_ fun m2 d3 =>
 asM .own m2 <|
 .mat (bitB d1 d3) fun r => .ret (i_echelonc1_66da_out d1 d3 r)
noncomputable def i_echelonc1_66da_c : Ctr := ⟨[], fun ci => i_echelonc1_66da_G ci.args ci.roots, false⟩
theorem i_echelonc1_66da_env : EnvOK Try.prog i_echelonc1_66da_V := envOK_nil
set_option maxRecDepth 100000 in
theorem i_echelonc1_66da_ok : Contract Try.prog 157 i_echelonc1_66da_c := by
 have hl : LoopsOK i_echelonc1_66da_V [] i_echelonc1_66da_b := loopsOK_nil (by kernel_rfl)
 refine (contract_of (F := i_echelonc1_66da_I) tau_tys i_echelonc1_66da_env Try.func157 (by kernel_rfl) (by kernel_rfl) (by kernel_rfl) hl []).weaken ?_
 rintro ⟨av, rs⟩ co h
 have h : (i_echelonc1_66da_G av rs).run some = some co := h
 obtain ⟨a0_, av0, rfl, h_0⟩ := asCons_spec h
 obtain ⟨a1_, av1, rfl, h_1⟩ := asCons_spec h_0
 obtain ⟨rfl, h_2⟩ := asEnd_spec h_1
 obtain ⟨r0_, rs0, rfl, h_3⟩ := asCons_spec h_2
 obtain ⟨rfl, h_4⟩ := asEnd_spec h_3
 obtain ⟨d1, rfl, h_5⟩ := asImmZ_spec h_4
 obtain ⟨rfl, h_6⟩ := asPtr_spec h_5
 obtain ⟨m2, d3, rfl, h_7⟩ := asRt_spec h_6
 obtain ⟨rfl, h_8⟩ := asM_spec h_7
 exact fin_opt (i_echelonc1_66da_eq d1 d3) (i_echelonc1_66da_spec d1 d3) h_8
end Go.Proofs.Ytohnlghdhbignaa

namespace Go.Proofs.Ytohnlghdhbignaa
open Go Go.Abs Go.Proofs
noncomputable def slices_IndexFunc_int64_i_echelonc1_l2 (h2_0_0 : (List Int)) (h2_0_1 : Int) (h2_0_3 : Int) : Int → Tre (Int ⊕ (Int ⊕ Unit)) := fun s2 =>
 .cond (decide (s2 < h2_0_1))
  (.ite (0 ≤ s2 ∧ s2 < (h2_0_0.length : Int)) <|
  .mat (h2_0_0[s2.toNat]?) fun x1 =>
  .mat (bitB x1 h2_0_3) fun r2 =>
  .cond r2
   (.ret (.inr (.inl s2)))
   (.ret (.inl (iwrap .i64 (s2 + 1)))))
  (.ret (.inr (.inr ())))
noncomputable def slices_IndexFunc_int64_i_echelonc1 (p0 : (List Int)) (p1 : Int) : Tre Int :=
 .mat (loopF (slices_IndexFunc_int64_i_echelonc1_l2 p0 (p0.length : Int) p1) 0) fun l3 =>
 .alt l3
  (fun a4 =>
   .ret a4)
  (fun _ =>
   .ret (-1))
noncomputable def slices_IndexFunc_int64_i_echelonc1_F (p0 : (List Int)) (p1 : Int) : Option Int := (slices_IndexFunc_int64_i_echelonc1 p0 p1).run some
def idxB (xs : List Int) (j : Int) : Option Int := askO (decide (0 ≤ j) && decide (xs.length ≤ 1048576)) (idxI (fun x => bitAt x j) 0 xs)
theorem slices_IndexFunc_int64_i_echelonc1_spec (p0 : List Int) (p1 : Int) (y : Int) (h : idxB p0 p1 = some y) : slices_IndexFunc_int64_i_echelonc1_F p0 p1 = some y := by
 obtain ⟨hl, rfl⟩ := askO_some h
 rw [Bool.and_eq_true] at hl
 obtain ⟨hm, hl⟩ := hl
 have hl := of_decide_eq_true hl
 unfold slices_IndexFunc_int64_i_echelonc1_F slices_IndexFunc_int64_i_echelonc1
 rw [Tre.run_mat, find_loop (xs := p0) (fun i x => cond (bitAt x p1) (some (.inl (i : Int))) none) (.inr ())]
 ·rw [Option.bind_some, ← findE_idx (p := fun x => bitAt x p1)]
  generalize findE _ _ _ _ = r
  cases r <;> rfl
 ·intro i x hx
  have hi : i < p0.length := (List.getElem?_eq_some_iff.1 hx).1
  unfold slices_IndexFunc_int64_i_echelonc1_l2
  rw [run_inb hx, run_some_mat (show bitB x p1 = some _ from askO_true hm), Tre.run_cond]
  cases bitAt x p1
  ·simp only [cond_false, Tre.run_ret, iwrap_succ (show i < 4611686018427387904 by omega)]
  ·rfl
 ·unfold slices_IndexFunc_int64_i_echelonc1_l2
  exact run_out
noncomputable def slices_IndexFunc_int64_i_echelonc1_V : Env := ⟨tau, [(157, i_echelonc1_66da_c)], []⟩
noncomputable def slices_IndexFunc_int64_i_echelonc1_b : Code := (Try.f149.body).getD .skip
noncomputable def slices_IndexFunc_int64_i_echelonc1_l2_mk (z2_0 : Bool) (h2_0_0 : (List Int)) (h2_0_1 : Int) (h2_0_3 : Int) : Int → St := fun x => stOf [(0, (.imm z2_0 (.sl (.int .i64)) h2_0_0)), (1, (.fn 157 [(0, 0)])), (7, (.imm true (.int .i64) h2_0_1)), (8, (.imm true (.int .i64) x))] [((0, 0), some ⟨true, (.int .i64), .own, h2_0_3⟩)]
noncomputable def slices_IndexFunc_int64_i_echelonc1_l2_out (_z2_0 : Bool) (_h2_0_0 : (List Int)) (_h2_0_1 : Int) (h2_0_3 : Int) : (Int ⊕ Unit) → Ex × St
 | .inl x => (.ret, stOf [(4, (.imm true (.int .i64) x))] [((0, 0), some ⟨true, (.int .i64), .own, h2_0_3⟩)])
 | .inr x => (.exit 0, stOf [(4, .dead)] [((0, 0), some ⟨true, (.int .i64), .own, h2_0_3⟩)])
noncomputable def slices_IndexFunc_int64_i_echelonc1_l2_D (s : St) : Tre (Ex × St) :=
 asImm (.sl (.int .i64)) (s.tmps 0) fun z3 d2 =>
 asFn 157 [(0, 0)] (s.tmps 1) <|
 asImmZ true (.int .i64) (s.tmps 7) fun d6 =>
 asImmZ true (.int .i64) (s.tmps 8) fun d8 =>
 asRoot true (.int .i64) (s.roots (0, 0)) fun m10 d11 =>
 asM .own m10 <|
 .mat (loopF (slices_IndexFunc_int64_i_echelonc1_l2 d2 d6 d11) d8) fun x => .alt x (fun a0 => .ret (slices_IndexFunc_int64_i_echelonc1_l2_out z3 d2 d6 d11 (.inl a0))) (fun b0 => .ret (slices_IndexFunc_int64_i_echelonc1_l2_out z3 d2 d6 d11 (.inr b0)))
noncomputable def slices_IndexFunc_int64_i_echelonc1_l2_L : LoopI := ⟨([0, 1, 7, 8], [(0, 0)]), ([4], [(0, 0)]), slices_IndexFunc_int64_i_echelonc1_l2_D⟩
noncomputable def slices_IndexFunc_int64_i_echelonc1_A : List (Nat × LoopI) := [(2, slices_IndexFunc_int64_i_echelonc1_l2_L)]
set_option maxRecDepth 100000 in
theorem slices_IndexFunc_int64_i_echelonc1_l2_step : ∀ (z2_0 : Bool) (h2_0_0 : (List Int)) (h2_0_1 : Int) (h2_0_3 : Int) (x : Int) (c : St → Option (Ex × St)), den slices_IndexFunc_int64_i_echelonc1_V slices_IndexFunc_int64_i_echelonc1_A (loopAt slices_IndexFunc_int64_i_echelonc1_b 0) (slices_IndexFunc_int64_i_echelonc1_l2_mk z2_0 h2_0_0 h2_0_1 h2_0_3 x) (roundK slices_IndexFunc_int64_i_echelonc1_l2_L.kp slices_IndexFunc_int64_i_echelonc1_l2_L.kx c) = (slices_IndexFunc_int64_i_echelonc1_l2 h2_0_0 h2_0_1 h2_0_3 x).run (roundR (slices_IndexFunc_int64_i_echelonc1_l2_mk z2_0 h2_0_0 h2_0_1 h2_0_3) (slices_IndexFunc_int64_i_echelonc1_l2_out z2_0 h2_0_0 h2_0_1 h2_0_3) c) := fun _ _ _ _ _ _ => by
 kernel_rfl
theorem slices_IndexFunc_int64_i_echelonc1_l2_ok : LoopOK slices_IndexFunc_int64_i_echelonc1_V slices_IndexFunc_int64_i_echelonc1_A (loopAt slices_IndexFunc_int64_i_echelonc1_b 0) slices_IndexFunc_int64_i_echelonc1_l2_L := loopOK_of fun s e s' h => by
 generalize hs : restrict slices_IndexFunc_int64_i_echelonc1_l2_L.kp s = s1 at h
 have h : (slices_IndexFunc_int64_i_echelonc1_l2_D s1).run some = some (e, s') := h
 obtain ⟨z3, d2, e1, h_0⟩ := asImm_spec h
 obtain ⟨e4, h_1⟩ := asFn_spec h_0
 obtain ⟨d6, e5, h_2⟩ := asImmZ_spec h_1
 obtain ⟨d8, e7, h_3⟩ := asImmZ_spec h_2
 obtain ⟨m10, d11, e9, h_4⟩ := asRoot_spec h_3
 obtain ⟨rfl, h_5⟩ := asM_spec h_4
 obtain ⟨y, hy, hz⟩ := mat_some h_5
 refine ⟨_, _, slices_IndexFunc_int64_i_echelonc1_l2_mk z3 d2 d6 d11, slices_IndexFunc_int64_i_echelonc1_l2_out z3 d2 d6 d11, slices_IndexFunc_int64_i_echelonc1_l2 d2 d6 d11, d8, y, ?_, hy, ?_, slices_IndexFunc_int64_i_echelonc1_l2_step z3 d2 d6 d11⟩
 ·subst hs; exact restrict_eq (T := [(0, (.imm z3 (.sl (.int .i64)) d2)), (1, (.fn 157 [(0, 0)])), (7, (.imm true (.int .i64) d6)), (8, (.imm true (.int .i64) d8))]) (U := [((0, 0), some ⟨true, (.int .i64), .own, d11⟩)]) rfl rfl ⟨e1, e4, e5, e7, trivial⟩ ⟨e9, trivial⟩
 ·rcases y with x | x <;> exact Option.some.inj hz
noncomputable def slices_IndexFunc_int64_i_echelonc1_I : FnI := ⟨slices_IndexFunc_int64_i_echelonc1_b, Try.f149.results.toList, Try.f149.resultTypes.toList, slices_IndexFunc_int64_i_echelonc1_A⟩
noncomputable def slices_IndexFunc_int64_i_echelonc1_out (_zp0 : Bool) (_p0 : (List Int)) (p1 : Int) : Int → CallOut := fun r => ⟨(.imm true (.int .i64) r), [⟨true, (.int .i64), .own, p1⟩], []⟩
set_option maxRecDepth 100000 in
theorem slices_IndexFunc_int64_i_echelonc1_eq : ∀ (zp0 : Bool) (p0 : (List Int)) (p1 : Int), denFn slices_IndexFunc_int64_i_echelonc1_V slices_IndexFunc_int64_i_echelonc1_I ⟨[(.imm zp0 (.sl (.int .i64)) p0), (.fn 157 [(0, 0)])], [⟨true, (.int .i64), .own, p1⟩]⟩ = (slices_IndexFunc_int64_i_echelonc1 p0 p1).run fun r => some (slices_IndexFunc_int64_i_echelonc1_out zp0 p0 p1 r) := fun _ _ _ => by kernel_rfl
noncomputable def slices_IndexFunc_int64_i_echelonc1_G (av : List AV) (rs : List Root) : Tre CallOut :=
 asCons av fun a0_ av0 =>
 asCons av0 fun a1_ av1 =>
 asEnd av1 <|
 asCons rs fun r0_ rs0 =>
 asEnd rs0 <|
 asImm (.sl (.int .i64)) a0_ fun z2 d1 =>
 asFn 157 [(0, 0)] a1_ <|
 asRt true (.int .i64) r0_ fun m3 d4 =>
 asM .own m3 <|
 .mat (idxB d1 d4) fun r => .ret (slices_IndexFunc_int64_i_echelonc1_out z2 d1 d4 r)
noncomputable def slices_IndexFunc_int64_i_echelonc1_c : Ctr := ⟨[], fun ci => slices_IndexFunc_int64_i_echelonc1_G ci.args ci.roots, false⟩
theorem slices_IndexFunc_int64_i_echelonc1_env : EnvOK Try.prog slices_IndexFunc_int64_i_echelonc1_V := (envOK_cons i_echelonc1_66da_ok ent157 envOK_nil)
set_option maxRecDepth 100000 in
theorem slices_IndexFunc_int64_i_echelonc1_ok : Contract Try.prog 149 slices_IndexFunc_int64_i_echelonc1_c := by
 have hl : LoopsOK slices_IndexFunc_int64_i_echelonc1_V slices_IndexFunc_int64_i_echelonc1_A slices_IndexFunc_int64_i_echelonc1_b := (loopsOK_all (n := 1) (by kernel_rfl) fun k hk => by
   match k, hk with
   | 0, _ => exact loopOK_at (id := 2) (L := slices_IndexFunc_int64_i_echelonc1_l2_L) (by kernel_rfl) (by kernel_rfl) slices_IndexFunc_int64_i_echelonc1_l2_ok)
 refine (contract_of (F := slices_IndexFunc_int64_i_echelonc1_I) tau_tys slices_IndexFunc_int64_i_echelonc1_env Try.func149 (by kernel_rfl) (by kernel_rfl) (by kernel_rfl) hl []).weaken ?_
 rintro ⟨av, rs⟩ co h
 have h : (slices_IndexFunc_int64_i_echelonc1_G av rs).run some = some co := h
 obtain ⟨a0_, av0, rfl, h_0⟩ := asCons_spec h
 obtain ⟨a1_, av1, rfl, h_1⟩ := asCons_spec h_0
 obtain ⟨rfl, h_2⟩ := asEnd_spec h_1
 obtain ⟨r0_, rs0, rfl, h_3⟩ := asCons_spec h_2
 obtain ⟨rfl, h_4⟩ := asEnd_spec h_3
 obtain ⟨z2, d1, rfl, h_5⟩ := asImm_spec h_4
 obtain ⟨rfl, h_6⟩ := asFn_spec h_5
 obtain ⟨m3, d4, rfl, h_7⟩ := asRt_spec h_6
 obtain ⟨rfl, h_8⟩ := asM_spec h_7
 exact fin_opt (slices_IndexFunc_int64_i_echelonc1_eq z2 d1 d4) (slices_IndexFunc_int64_i_echelonc1_spec d1 d4) h_8
end Go.Proofs.Ytohnlghdhbignaa

namespace Go.Proofs.Ytohnlghdhbignaa
open Go Go.Abs Go.Proofs
noncomputable def i_echelon_l10 (h10_0_0 : Int) (h10_0_1 : Int) (h10_0_4 : Int) : (Int × (List Int)) → Tre ((Int × (List Int)) ⊕ (List Int)) := fun s10 =>
 .cond (decide (s10.1 < h10_0_1))
  (.cond (!decide (s10.1 = h10_0_0))
   (.ite (0 ≤ s10.1 ∧ s10.1 < (s10.2.length : Int)) <|
   .mat (s10.2[s10.1.toNat]?) fun x9 =>
   .ite (0 ≤ h10_0_4) <|
   let v10 := iand .i64 (ishr .i64 x9 h10_0_4) 1
   .cond (decide (v10 = 1))
    (.ite (0 ≤ s10.1 ∧ s10.1 < (s10.2.length : Int)) <|
    .mat (s10.2[s10.1.toNat]?) fun x11 =>
    .ite (0 ≤ h10_0_0 ∧ h10_0_0 < (s10.2.length : Int)) <|
    .mat (s10.2[h10_0_0.toNat]?) fun x12 =>
    .ite (0 ≤ s10.1 ∧ s10.1 < (s10.2.length : Int)) <|
    .mat (s10.2[s10.1.toNat]?) fun _ =>
    let v14 := s10.2.set s10.1.toNat (ixor .i64 x11 x12)
    .ret (.inl (iwrap .i64 (s10.1 + 1), v14)))
    (.ret (.inl (iwrap .i64 (s10.1 + 1), s10.2))))
   (.ret (.inl (iwrap .i64 (s10.1 + 1), s10.2))))
  (.ret (.inr s10.2))
noncomputable def i_echelon_l4 : (Int × (List Int) × Int) → Tre ((Int × (List Int) × Int) ⊕ (Int × (List Int))) := fun s4 =>
 .cond (decide (s4.2.2 < 62))
  (.cond (decide (s4.1 < (s4.2.1.length : Int)))
   (.ite (0 ≤ s4.1 ∧ s4.1 ≤ (s4.2.1.length : Int) ∧ (s4.2.1.length : Int) ≤ (s4.2.1.length : Int)) <|
   .mat (idxB ((s4.2.1.drop s4.1.toNat).take (((s4.2.1.length : Int) - s4.1).toNat)) s4.2.2) fun r2 =>
   .cond (decide (r2 < 0))
    (.ret (.inl (s4.1, s4.2.1, iwrap .i64 (s4.2.2 + 1))))
    (.ite (0 ≤ iwrap .i64 (s4.1 + r2) ∧ iwrap .i64 (s4.1 + r2) < (s4.2.1.length : Int)) <|
    .mat (s4.2.1[(iwrap .i64 (s4.1 + r2)).toNat]?) fun x3 =>
    .ite (0 ≤ s4.1 ∧ s4.1 < (s4.2.1.length : Int)) <|
    .mat (s4.2.1[s4.1.toNat]?) fun x4 =>
    .ite (0 ≤ s4.1 ∧ s4.1 < (s4.2.1.length : Int)) <|
    .mat (s4.2.1[s4.1.toNat]?) fun _ =>
    let v6 := s4.2.1.set s4.1.toNat x3
    .ite (0 ≤ iwrap .i64 (s4.1 + r2) ∧ iwrap .i64 (s4.1 + r2) < (v6.length : Int)) <|
    .mat (v6[(iwrap .i64 (s4.1 + r2)).toNat]?) fun _ =>
    let v8 := v6.set ((iwrap .i64 (s4.1 + r2)).toNat) x4
    .mat (loopF (i_echelon_l10 s4.1 (v8.length : Int) s4.2.2) (0, v8)) fun l15 =>
    .ret (.inl (iwrap .i64 (s4.1 + 1), l15, iwrap .i64 (s4.2.2 + 1)))))
   (.ret (.inr (s4.1, s4.2.1))))
  (.ret (.inr (s4.1, s4.2.1)))
noncomputable def i_echelon (p0 : (List Int)) : Tre (List Int) :=
 .mat (cloneR p0) fun r1 =>
 .mat (loopF i_echelon_l4 (0, r1, 0)) fun l16 =>
 .ite (0 ≤ (0 : Int) ∧ (0 : Int) ≤ l16.1 ∧ l16.1 ≤ (l16.2.length : Int)) <|
 .ret ((l16.2.drop 0).take ((l16.1 - 0).toNat))
noncomputable def i_echelon_F (p0 : (List Int)) : Option (List Int) := (i_echelon p0).run some
noncomputable def echA (xs : List Int) : Option (List Int) := askO (okRows 62 xs) (echI xs)
theorem i_echelon_elim (k c r : Nat) (hc : c ≤ 62) (hr : r < 2 ^ 62) (A B : List Nat) (hk : A.length = k) (hb : ∀ n ∈ A ++ r :: B, n < 2 ^ 62) (hl : (A ++ r :: B).length ≤ 1048576) :
  loopF (i_echelon_l10 (k : Int) ((A ++ r :: B).length : Int) (c : Int)) (0, up (A ++ r :: B)) = some (up (A.map (elimB c r) ++ r :: B.map (elimB c r))) := by
 have hkr : (A ++ r :: B)[k]? = some r := by rw [List.getElem?_append_right (by omega), hk]; simp
 generalize hL : A ++ r :: B = l at *
 have := part_loop (step := i_echelon_l10 (k : Int) (l.length : Int) (c : Int)) (fun i x => if i = k then x else elimB c r x) l id (by
  intro i x hx
  have hi : i < l.length := (List.getElem?_eq_some_iff.1 hx).1
  have hx2 := up_at (part_at (g := fun i x => if i = k then x else elimB c r x) (i := i) hx)
  rw [if_neg (Nat.lt_irrefl i)] at hx2
  have hr2 := up_at (part_at (g := fun i x => if i = k then x else elimB c r x) (i := i) hkr)
  simp only [if_true, ite_self] at hr2
  have hxb := hb x (List.mem_of_getElem? hx)
  rw [← part_set hx]
  generalize hP : partB (fun i x => if i = k then x else elimB c r x) i l = P at *
  have hset : (up P).set i (x : Int) = up P := List.ext_getElem? fun j => by
   rw [List.getElem?_set]
   by_cases hj : i = j
   ·subst hj; rw [if_pos rfl, hx2, if_pos (List.getElem?_eq_some_iff.1 hx2).1]
   ·rw [if_neg hj]
  unfold i_echelon_l10
  rw [Tre.run_cond]
  show cond (decide ((i : Int) < (l.length : Int))) _ _ = _
  rw [show decide ((i : Int) < (l.length : Int)) = true from by simpa using hi, cond_true, Tre.run_cond]
  show cond (!decide ((i : Int) = (k : Int))) _ _ = _
  by_cases hik : i = k
  ·rw [show decide ((i : Int) = (k : Int)) = true from decide_eq_true (by omega), Bool.not_true, cond_false, Tre.run_ret, iwrap_succ (by omega), if_pos hik, ← up_set, hset]
  ·rw [show decide ((i : Int) = (k : Int)) = false from decide_eq_false (by omega), Bool.not_false, cond_true, run_at hx2, Tre.run_ite, if_pos (by omega), Tre.run_cond, if_neg hik]
   show cond (bitAt (x : Int) (c : Int)) _ _ = _
   rw [bitAt_nat (by omega) (by omega)]
   have he : elimB c r x = cond (x.testBit c) (x ^^^ r) x := rfl
   rw [he]
   cases x.testBit c
   ·rw [cond_false, Tre.run_ret, iwrap_succ (by omega), cond_false, ← up_set, hset]
   ·rw [cond_true, run_at hx2, run_at hr2, run_at hx2, Tre.run_ret, iwrap_succ (by omega), ixor_nat (by omega) (by omega), Int.toNat_natCast, cond_true, ← up_set])
  (by
  unfold i_echelon_l10
  exact run_out)
 rw [this, ← hL, mapIdx_pivot (f := elimB c r) (g := fun i x => if i = k then x else elimB c r x) (r := r) (B := B) hk (fun i x h => if_neg h) (if_pos rfl)]
 rfl
theorem i_echelon_loop (orig : List Nat) : ∀ (n c : Nat) (E : List (Nat × Nat)) (R : List Nat), c + n = 62 → Inv orig c E R → E.length + R.length ≤ 1048576 → (∀ x ∈ R, x < 2 ^ 62) → (∀ a ∈ E, a.2 < 2 ^ 62) →
  ∃ (E' L : List Nat), loopF i_echelon_l4 ((E.length : Int), up (E.map (·.2) ++ R), (c : Int)) = some ((E'.length : Int), up (E' ++ L)) ∧ IsEch orig E' := by
 intro n
 induction n with
 | zero =>
  intro c E R hc hI _ hR _
  have : c = 62 := hc
  subst this
  refine ⟨E.map (·.2), R, loopF_done ?_, hI.done fun x hx => zero_of_bits (hR x hx) (hI.low x hx)⟩
  unfold i_echelon_l4
  simp [Tre.run_cond, Tre.run_ret]
 | succ n ih =>
  intro c E R hc hI hl hR hEb
  have hcm : c < 62 := by omega
  have hlen : (up (E.map (·.2) ++ R)).length = E.length + R.length := by rw [up_len]; simp
  by_cases hR0 : R = []
  ·subst hR0
   refine ⟨E.map (·.2), [], loopF_done ?_, hI.done fun x hx => by cases hx⟩
   unfold i_echelon_l4
   simp [Tre.run_cond, Tre.run_ret]
  have hRl : 0 < R.length := List.length_pos_iff.2 hR0
  have hstep : ∀ E2 R2, Inv orig (c + 1) E2 R2 → E2.length + R2.length ≤ 1048576 → (∀ x ∈ R2, x < 2 ^ 62) → (∀ a ∈ E2, a.2 < 2 ^ 62) → (i_echelon_l4 ((E.length : Int), up (E.map (·.2) ++ R), (c : Int))).run some = some (.inl ((E2.length : Int), up (E2.map (·.2) ++ R2), ((c + 1 : Nat) : Int))) →
    ∃ (E' L : List Nat), loopF i_echelon_l4 ((E.length : Int), up (E.map (·.2) ++ R), (c : Int)) = some ((E'.length : Int), up (E' ++ L)) ∧ IsEch orig E' := by
   intro E2 R2 h1 h2 h3 h4 h5
   rw [loopF_step h5]
   exact ih (c + 1) E2 R2 (by omega) h1 h2 h3 h4
  have hsub : ((up (E.map (·.2) ++ R)).drop E.length).take (((E.length + R.length : Nat) : Int) - (E.length : Int)).toNat = up R := by
   rw [show (((E.length + R.length : Nat) : Int) - (E.length : Int)).toNat = R.length from by omega]
   unfold up
   rw [List.map_append, List.drop_append_of_le_length (by simp), List.drop_of_length_le (by simp), List.nil_append, List.take_of_length_le (by simp)]
  have hfind : idxB (up R) (c : Int) = some _ := askO_true (by rw [up_len]; simp; omega)
  have hw : iwrap .i64 ((c : Int) + 1) = ((c + 1 : Nat) : Int) := iwrap_succ (by omega)
  have hdec : decide ((c : Int) < 62) = true := by simp; omega
  have hdec2 : decide ((E.length : Int) < ((E.length + R.length : Nat) : Int)) = true := by simp; omega
  rcases idxI_cases (fun x => bitAt x (c : Int)) (up R) 0 with ⟨h1, h2⟩ | ⟨j, x, h1, h2, h3⟩
  ·refine hstep E R (hI.skip fun x hx => ?_) hl hR hEb ?_
   ·have := h2 (x : Int) (List.mem_map.2 ⟨x, hx, rfl⟩)
    have hxb := hR x hx
    rwa [bitAt_nat (by omega) (by omega)] at this
   ·unfold i_echelon_l4
    dsimp only
    rw [hlen, Tre.run_cond, hdec, cond_true, Tre.run_cond, hdec2, cond_true, Tre.run_ite, if_pos (by omega), Int.toNat_natCast, hsub, run_some_mat (hfind.trans (by rw [h1])), Tre.run_cond]
    simp only [show decide ((-1 : Int) < 0) = true from rfl, cond_true, Tre.run_ret, hw]
  ·obtain ⟨r, hr1, rfl⟩ : ∃ r : Nat, R[j]? = some r ∧ (r : Int) = x := by
    simp only [up, List.getElem?_map, Option.map_eq_some_iff] at h1
    exact h1
   have hrm : r ∈ R := List.mem_of_getElem? hr1
   have hrb := hR r hrm
   rw [bitAt_nat (by omega) (by omega)] at h2
   rw [Nat.zero_add] at h3
   have hj : j < R.length := (List.getElem?_eq_some_iff.1 hr1).1
   obtain ⟨y, R', rfl⟩ : ∃ y R', R = y :: R' := by
    cases R with
    | nil => exact absurd rfl hR0
    | cons y R' => exact ⟨y, R', rfl⟩
   -- the rows behind the swap
   obtain ⟨B, hB, hB1, hB2, hBl⟩ : ∃ B, ((y :: R').set 0 r).set j y = r :: B ∧ (∀ x ∈ B, x ∈ y :: R') ∧ (∀ x ∈ y :: R', x = r ∨ x ∈ B) ∧ B.length = R'.length := by
    cases j with
    | zero =>
     have hyr : y = r := by simpa using hr1
     subst hyr
     exact ⟨R', by simp, fun x hx => .tail _ hx, fun x hx => by
      cases hx with
      | head => exact .inl rfl
      | tail _ hx => exact .inr hx, rfl⟩
    | succ j =>
     have hr1 : R'[j]? = some r := by simpa using hr1
     have hj' : j < R'.length := (List.getElem?_eq_some_iff.1 hr1).1
     refine ⟨R'.set j y, by simp, fun x hx => ?_, fun x hx => ?_, by simp⟩
     ·rcases List.mem_or_eq_of_mem_set hx with hx | rfl
      ·exact .tail _ hx
      ·exact .head _
     ·cases hx with
      | head => exact .inr (List.mem_set hj' _)
      | tail _ hx =>
       obtain ⟨i, hi⟩ := List.getElem?_of_mem hx
       by_cases hij : j = i
       ·subst hij; rw [hr1] at hi; exact .inl (Option.some.inj hi).symm
       ·exact .inr (List.mem_of_getElem? (i := i) (by rw [List.getElem?_set, if_neg hij, hi]))
   have hE2 : ((E.map fun a => (a.1, elimB c r a.2)) ++ [(c, r)]).map (·.2) = (E.map (·.2)).map (elimB c r) ++ [r] := by simp [List.map_map, Function.comp_def]
   have hRB : (E.map (·.2) ++ r :: B).length = E.length + (y :: R').length := by simp [hBl]
   have hall : ∀ x ∈ E.map (·.2) ++ r :: B, x < 2 ^ 62 := by
    intro x hx
    rcases List.mem_append.1 hx with hx | hx
    ·obtain ⟨a, ha, rfl⟩ := List.mem_map.1 hx; exact hEb a ha
    ·cases hx with
     | head => exact hrb
     | tail _ hx => exact hR x (hB1 x hx)
   refine hstep (E.map (fun a => (a.1, elimB c r a.2)) ++ [(c, r)]) (B.map (elimB c r)) (hI.step hrm h2 ?_ ?_) (by simp [hBl] at hl ⊢; omega) ?_ ?_ ?_
   ·intro z hz
    obtain ⟨x, hx, rfl⟩ := List.mem_map.1 hz
    exact .inr ⟨x, hB1 x hx, rfl⟩
   ·intro x hx
    rcases hB2 x hx with h | h
    ·exact .inl h
    ·exact .inr (List.mem_map.2 ⟨x, h, rfl⟩)
   ·intro z hz
    obtain ⟨x, hx, rfl⟩ := List.mem_map.1 hz
    exact elimB_lt hrb (hR x (hB1 x hx))
   ·intro a ha
    rcases List.mem_append.1 ha with ha | ha
    ·obtain ⟨b, hb, rfl⟩ := List.mem_map.1 ha
     exact elimB_lt hrb (hEb b hb)
    ·simp only [List.mem_singleton] at ha; subst ha; exact hrb
   ·have e1 := i_echelon_elim E.length c r (by omega) hrb (E.map (·.2)) B (by simp) hall (by rw [hRB]; exact hl)
    have hkj : iwrap .i64 ((E.length : Int) + (j : Int)) = ((E.length + j : Nat) : Int) := by rw [iwrap_i64 (by omega) (by omega)]; omega
    have hat1 : (up (E.map (·.2) ++ y :: R'))[E.length + j]? = some (r : Int) := up_at (by rw [List.getElem?_append_right (by simp)]; simpa using hr1)
    have hat2 : (up (E.map (·.2) ++ y :: R'))[E.length]? = some (y : Int) := up_at (by rw [List.getElem?_append_right (by simp)]; simp)
    have hs1 : (up (E.map (·.2) ++ y :: R')).set E.length (r : Int) = up (E.map (·.2) ++ (y :: R').set 0 r) := by
     rw [up_set, List.set_append_right _ _ (by simp)]
     simp
    have hs2 : (up (E.map (·.2) ++ (y :: R').set 0 r)).set (E.length + j) (y : Int) = up (E.map (·.2) ++ r :: B) := by
     rw [up_set, List.set_append_right _ _ (by simp), ← hB]
     simp
    have hat3 : ∃ z, (up (E.map (·.2) ++ (y :: R').set 0 r))[E.length + j]? = some z := ⟨_, List.getElem?_eq_getElem (by rw [up_len]; simp at hj ⊢; omega)⟩
    obtain ⟨z, hat3⟩ := hat3
    have hlen3 : ((up (E.map (·.2) ++ r :: B)).length : Int) = ((E.map (·.2) ++ r :: B).length : Int) := by rw [up_len]
    unfold i_echelon_l4
    dsimp only
    rw [hlen, Tre.run_cond, hdec, cond_true, Tre.run_cond, hdec2, cond_true, Tre.run_ite, if_pos (by omega), Int.toNat_natCast, hsub, run_some_mat (hfind.trans (by rw [h3])), Tre.run_cond]
    rw [show decide ((j : Int) < 0) = false from by simp, cond_false, hkj, ← hlen, run_at hat1, run_at2 hat2, run_at2 hat2]
    rw [Int.toNat_natCast, hs1, run_at2 hat3, hs2, hlen3, run_some_mat e1, Tre.run_ret, iwrap_succ (by omega), hw, hE2]
    simp [List.append_assoc]
theorem i_echelon_spec (p0 : List Int) (y : List Int) (h : echA p0 = some y) : i_echelon_F p0 = some y := by
 obtain ⟨hl, rfl⟩ := askO_some h
 obtain ⟨ns, rfl, hlen, hb, hn⟩ := okRows_up hl
 obtain ⟨E, L, h1, h2⟩ := i_echelon_loop ns 62 0 [] ns (by omega) (Inv.start ns) (by simpa using hlen) hb (fun a ha => by cases ha)
 unfold i_echelon_F i_echelon
 have e1 : cloneR (up ns) = some (up ns) := lim_of (by rw [up_len]; exact hlen)
 have h1 : loopF i_echelon_l4 (0, up ns, 0) = some ((E.length : Int), up (E ++ L)) := h1
 rw [run_some_mat e1, run_some_mat h1, Tre.run_ite, if_pos (by rw [up_len]; simp; omega), Tre.run_ret]
 unfold echI
 rw [hn, ech_of h2]
 simp [up]
noncomputable def i_echelon_V : Env := ⟨tau, [(36, slices_Clone_int64_c), (149, slices_IndexFunc_int64_i_echelonc1_c)], []⟩
noncomputable def i_echelon_b : Code := (Try.f156.body).getD .skip
noncomputable def i_echelon_l10_mk (h10_0_0 : Int) (h10_0_1 : Int) (h10_0_4 : Int) : (Int × (List Int)) → St := fun x => stOf [(0, (.ref (2, 0) [])), (3, (.imm true (.int .i64) h10_0_0)), (4, (.ptr (6, 0) [])), (45, (.imm true (.int .i64) h10_0_1)), (46, (.imm true (.int .i64) x.1))] [((2, 0), some ⟨false, (.sl (.int .i64)), .own, x.2⟩), ((6, 0), some ⟨true, (.int .i64), .own, h10_0_4⟩)]
noncomputable def i_echelon_l10_out (h10_0_0 : Int) (_h10_0_1 : Int) (h10_0_4 : Int) : (List Int) → Ex × St := fun x => (.exit 2, stOf [(0, (.ref (2, 0) [])), (3, (.imm true (.int .i64) h10_0_0)), (4, (.ptr (6, 0) []))] [((2, 0), some ⟨false, (.sl (.int .i64)), .own, x⟩), ((6, 0), some ⟨true, (.int .i64), .own, h10_0_4⟩)])
noncomputable def i_echelon_l10_D (s : St) : Tre (Ex × St) :=
 asRef (2, 0) [] (s.tmps 0) <|
 asImmZ true (.int .i64) (s.tmps 3) fun d3 =>
 asPtr (6, 0) [] (s.tmps 4) <|
 asImmZ true (.int .i64) (s.tmps 45) fun d6 =>
 asImmZ true (.int .i64) (s.tmps 46) fun d8 =>
 asRoot false (.sl (.int .i64)) (s.roots (2, 0)) fun m10 d11 =>
 asM .own m10 <|
 asRoot true (.int .i64) (s.roots (6, 0)) fun m13 d14 =>
 asM .own m13 <|
 .mat (loopF (i_echelon_l10 d3 d6 d14) (d8, d11)) fun x => .ret (i_echelon_l10_out d3 d6 d14 x)
noncomputable def i_echelon_l10_L : LoopI := ⟨([0, 3, 4, 45, 46], [(2, 0), (6, 0)]), ([0, 3, 4], [(2, 0), (6, 0)]), i_echelon_l10_D⟩
noncomputable def i_echelon_l4_mk : (Int × (List Int) × Int) → St := fun x => stOf [(0, (.ref (2, 0) [])), (3, (.imm true (.int .i64) x.1)), (4, (.ptr (6, 0) []))] [((2, 0), some ⟨false, (.sl (.int .i64)), .own, x.2.1⟩), ((6, 0), some ⟨true, (.int .i64), .own, x.2.2⟩)]
noncomputable def i_echelon_l4_out : (Int × (List Int)) → Ex × St := fun x => (.exit 0, stOf [(0, (.ref (2, 0) [])), (3, (.imm true (.int .i64) x.1))] [((2, 0), some ⟨false, (.sl (.int .i64)), .own, x.2⟩)])
noncomputable def i_echelon_l4_D (s : St) : Tre (Ex × St) :=
 asRef (2, 0) [] (s.tmps 0) <|
 asImmZ true (.int .i64) (s.tmps 3) fun d3 =>
 asPtr (6, 0) [] (s.tmps 4) <|
 asRoot false (.sl (.int .i64)) (s.roots (2, 0)) fun m6 d7 =>
 asM .own m6 <|
 asRoot true (.int .i64) (s.roots (6, 0)) fun m9 d10 =>
 asM .own m9 <|
 .mat (loopF i_echelon_l4 (d3, d7, d10)) fun x => .ret (i_echelon_l4_out x)
noncomputable def i_echelon_l4_L : LoopI := ⟨([0, 3, 4], [(2, 0), (6, 0)]), ([0, 3], [(2, 0)]), i_echelon_l4_D⟩
noncomputable def i_echelon_A : List (Nat × LoopI) := [(10, i_echelon_l10_L), (4, i_echelon_l4_L)]
set_option maxRecDepth 100000 in
theorem i_echelon_l10_step : ∀ (h10_0_0 : Int) (h10_0_1 : Int) (h10_0_4 : Int) (x : (Int × (List Int))) (c : St → Option (Ex × St)), den i_echelon_V i_echelon_A (loopAt i_echelon_b 1) (i_echelon_l10_mk h10_0_0 h10_0_1 h10_0_4 x) (roundK i_echelon_l10_L.kp i_echelon_l10_L.kx c) = (i_echelon_l10 h10_0_0 h10_0_1 h10_0_4 x).run (roundR (i_echelon_l10_mk h10_0_0 h10_0_1 h10_0_4) (i_echelon_l10_out h10_0_0 h10_0_1 h10_0_4) c) := fun _ _ _ _ _ => by
 kernel_rfl
theorem i_echelon_l10_ok : LoopOK i_echelon_V i_echelon_A (loopAt i_echelon_b 1) i_echelon_l10_L := loopOK_of fun s e s' h => by
 generalize hs : restrict i_echelon_l10_L.kp s = s1 at h
 have h : (i_echelon_l10_D s1).run some = some (e, s') := h
 obtain ⟨e1, h_0⟩ := asRef_spec h
 obtain ⟨d3, e2, h_1⟩ := asImmZ_spec h_0
 obtain ⟨e4, h_2⟩ := asPtr_spec h_1
 obtain ⟨d6, e5, h_3⟩ := asImmZ_spec h_2
 obtain ⟨d8, e7, h_4⟩ := asImmZ_spec h_3
 obtain ⟨m10, d11, e9, h_5⟩ := asRoot_spec h_4
 obtain ⟨rfl, h_6⟩ := asM_spec h_5
 obtain ⟨m13, d14, e12, h_7⟩ := asRoot_spec h_6
 obtain ⟨rfl, h_8⟩ := asM_spec h_7
 obtain ⟨y, hy, hz⟩ := mat_ret h_8
 refine ⟨_, _, i_echelon_l10_mk d3 d6 d14, i_echelon_l10_out d3 d6 d14, i_echelon_l10 d3 d6 d14, (d8, d11), y, ?_, hy, ?_, i_echelon_l10_step d3 d6 d14⟩
 ·subst hs; exact restrict_eq (T := [(0, (.ref (2, 0) [])), (3, (.imm true (.int .i64) d3)), (4, (.ptr (6, 0) [])), (45, (.imm true (.int .i64) d6)), (46, (.imm true (.int .i64) d8))]) (U := [((2, 0), some ⟨false, (.sl (.int .i64)), .own, d11⟩), ((6, 0), some ⟨true, (.int .i64), .own, d14⟩)]) rfl rfl ⟨e1, e2, e4, e5, e7, trivial⟩ ⟨e9, e12, trivial⟩
 ·exact Option.some.inj hz
set_option maxRecDepth 100000 in
theorem i_echelon_l4_step : ∀ (x : (Int × (List Int) × Int)) (c : St → Option (Ex × St)), den i_echelon_V i_echelon_A (loopAt i_echelon_b 0) (i_echelon_l4_mk x) (roundK i_echelon_l4_L.kp i_echelon_l4_L.kx c) = (i_echelon_l4 x).run (roundR (i_echelon_l4_mk) (i_echelon_l4_out) c) := fun _ _ => by
 kernel_rfl
theorem i_echelon_l4_ok : LoopOK i_echelon_V i_echelon_A (loopAt i_echelon_b 0) i_echelon_l4_L := loopOK_of fun s e s' h => by
 generalize hs : restrict i_echelon_l4_L.kp s = s1 at h
 have h : (i_echelon_l4_D s1).run some = some (e, s') := h
 obtain ⟨e1, h_0⟩ := asRef_spec h
 obtain ⟨d3, e2, h_1⟩ := asImmZ_spec h_0
 obtain ⟨e4, h_2⟩ := asPtr_spec h_1
 obtain ⟨m6, d7, e5, h_3⟩ := asRoot_spec h_2
 obtain ⟨rfl, h_4⟩ := asM_spec h_3
 obtain ⟨m9, d10, e8, h_5⟩ := asRoot_spec h_4
 obtain ⟨rfl, h_6⟩ := asM_spec h_5
 obtain ⟨y, hy, hz⟩ := mat_ret h_6
 refine ⟨_, _, i_echelon_l4_mk, i_echelon_l4_out, i_echelon_l4, (d3, d7, d10), y, ?_, hy, ?_, i_echelon_l4_step⟩
 ·subst hs; exact restrict_eq (T := [(0, (.ref (2, 0) [])), (3, (.imm true (.int .i64) d3)), (4, (.ptr (6, 0) []))]) (U := [((2, 0), some ⟨false, (.sl (.int .i64)), .own, d7⟩), ((6, 0), some ⟨true, (.int .i64), .own, d10⟩)]) rfl rfl ⟨e1, e2, e4, trivial⟩ ⟨e5, e8, trivial⟩
 ·exact Option.some.inj hz
noncomputable def i_echelon_I : FnI := ⟨i_echelon_b, Try.f156.results.toList, Try.f156.resultTypes.toList, i_echelon_A⟩
noncomputable def i_echelon_out (_zp0 : Bool) (_p0 : (List Int)) : (List Int) → CallOut := fun r => ⟨(.ref (1, 0) []), [], [⟨false, (.sl (.int .i64)), .own, r⟩]⟩
set_option maxRecDepth 100000 in
theorem i_echelon_eq : ∀ (zp0 : Bool) (p0 : (List Int)), denFn i_echelon_V i_echelon_I ⟨[(.imm zp0 (.sl (.int .i64)) p0)], []⟩ = (i_echelon p0).run fun r => some (i_echelon_out zp0 p0 r) := fun _ _ => by kernel_rfl
noncomputable def i_echelon_G (av : List AV) (rs : List Root) : Tre CallOut :=
 asCons av fun a0_ av0 =>
 asEnd av0 <|
 asEnd rs <|
 asImm (.sl (.int .i64)) a0_ fun z2 d1 =>
 .mat (echA d1) fun r => .ret (i_echelon_out z2 d1 r)
noncomputable def i_echelon_c : Ctr := ⟨[], fun ci => i_echelon_G ci.args ci.roots, false⟩
theorem i_echelon_env : EnvOK Try.prog i_echelon_V := (envOK_cons slices_Clone_int64_ok ent36 (envOK_cons slices_IndexFunc_int64_i_echelonc1_ok ent149 envOK_nil))
set_option maxRecDepth 100000 in
theorem i_echelon_ok : Contract Try.prog 156 i_echelon_c := by
 have hl : LoopsOK i_echelon_V i_echelon_A i_echelon_b := (loopsOK_all (n := 2) (by kernel_rfl) fun k hk => by
   match k, hk with
   | 0, _ => exact loopOK_at (id := 4) (L := i_echelon_l4_L) (by kernel_rfl) (by kernel_rfl) i_echelon_l4_ok
   | 1, _ => exact loopOK_at (id := 10) (L := i_echelon_l10_L) (by kernel_rfl) (by kernel_rfl) i_echelon_l10_ok)
 refine (contract_of (F := i_echelon_I) tau_tys i_echelon_env Try.func156 (by kernel_rfl) (by kernel_rfl) (by kernel_rfl) hl []).weaken ?_
 rintro ⟨av, rs⟩ co h
 have h : (i_echelon_G av rs).run some = some co := h
 obtain ⟨a0_, av0, rfl, h_0⟩ := asCons_spec h
 obtain ⟨rfl, h_1⟩ := asEnd_spec h_0
 obtain ⟨rfl, h_2⟩ := asEnd_spec h_1
 obtain ⟨z2, d1, rfl, h_3⟩ := asImm_spec h_2
 exact fin_opt (i_echelon_eq z2 d1) (i_echelon_spec d1) h_3
end Go.Proofs.Ytohnlghdhbignaa

namespace Go.Proofs.Ytohnlghdhbignaa
open Go Go.Abs Go.Proofs
noncomputable def i_areIndependent (p0 : (List Int)) : Tre Bool :=
 .mat (echA p0) fun r1 =>
 .ret (decide ((r1.length : Int) = (p0.length : Int)))
noncomputable def i_areIndependent_F (p0 : (List Int)) : Option Bool := (i_areIndependent p0).run some
noncomputable def indR (xs : List Int) : Option Bool := askO (okRows 62 xs) (decide (((echI xs).length : Int) = (xs.length : Int)))
theorem i_areIndependent_spec (p0 : List Int) (y : Bool) (h : indR p0 = some y) : i_areIndependent_F p0 = some y := by
 obtain ⟨hok, rfl⟩ := askO_some h
 unfold i_areIndependent_F i_areIndependent
 rw [run_some_mat (show echA p0 = some _ from askO_true hok)]
 rfl
noncomputable def i_areIndependent_V : Env := ⟨tau, [(156, i_echelon_c)], []⟩
noncomputable def i_areIndependent_b : Code := (Try.f150.body).getD .skip
noncomputable def i_areIndependent_I : FnI := ⟨i_areIndependent_b, Try.f150.results.toList, Try.f150.resultTypes.toList, []⟩
noncomputable def i_areIndependent_out (_zp0 : Bool) (_p0 : (List Int)) : Bool → CallOut := fun r => ⟨(.imm true .bool r), [], []⟩
set_option maxRecDepth 100000 in
theorem i_areIndependent_eq : ∀ (zp0 : Bool) (p0 : (List Int)), denFn i_areIndependent_V i_areIndependent_I ⟨[(.imm zp0 (.sl (.int .i64)) p0)], []⟩ = (i_areIndependent p0).run fun r => some (i_areIndependent_out zp0 p0 r) := fun _ _ => by kernel_rfl
noncomputable def i_areIndependent_G (av : List AV) (rs : List Root) : Tre CallOut :=
 asCons av fun a0_ av0 =>
 asEnd av0 <|
 asEnd rs <|
 asImm (.sl (.int .i64)) a0_ fun z2 d1 =>
 .mat (indR d1) fun r => .ret (i_areIndependent_out z2 d1 r)
noncomputable def i_areIndependent_c : Ctr := ⟨[], fun ci => i_areIndependent_G ci.args ci.roots, false⟩
theorem i_areIndependent_env : EnvOK Try.prog i_areIndependent_V := (envOK_cons i_echelon_ok ent156 envOK_nil)
set_option maxRecDepth 100000 in
theorem i_areIndependent_ok : Contract Try.prog 150 i_areIndependent_c := by
 have hl : LoopsOK i_areIndependent_V [] i_areIndependent_b := loopsOK_nil (by kernel_rfl)
 refine (contract_of (F := i_areIndependent_I) tau_tys i_areIndependent_env Try.func150 (by kernel_rfl) (by kernel_rfl) (by kernel_rfl) hl []).weaken ?_
 rintro ⟨av, rs⟩ co h
 have h : (i_areIndependent_G av rs).run some = some co := h
 obtain ⟨a0_, av0, rfl, h_0⟩ := asCons_spec h
 obtain ⟨rfl, h_1⟩ := asEnd_spec h_0
 obtain ⟨rfl, h_2⟩ := asEnd_spec h_1
 obtain ⟨z2, d1, rfl, h_3⟩ := asImm_spec h_2
 exact fin_opt (i_areIndependent_eq z2 d1) (i_areIndependent_spec d1) h_3
end Go.Proofs.Ytohnlghdhbignaa

namespace Go.Proofs.Ytohnlghdhbignaa
open Go Go.Abs Go.Proofs
noncomputable def i_works_comeIn_8e25 (p0 : (Int × (Int × Unit))) (p1 : TWorks) : Tre TWorks :=
 .ite (0 ≤ p0.1 ∧ p0.1 < (p1.1.1.length : Int)) <|
 .mat (p1.1.1[p0.1.toNat]?) fun _ =>
 .mat (p1.1.1[p0.1.toNat]?) fun x2 =>
 .mat (cloneR x2.1) fun r3 =>
 .ite ((r3.length + 1) * 8 ≤ appendMax ∧ 1 ≤ 8) <|
 .mat (indR (r3 ++ ([p0.2.1]))) fun r4 =>
 .cond r4
  (.mat (p1.1.1[p0.1.toNat]?) fun x5 =>
  let v6 := p1.1.1.set p0.1.toNat (r3 ++ ([p0.2.1]), x5.2)
  .ret ((v6, p1.1.2), p1.2))
  (.ret p1)
noncomputable def i_works_comeIn_8e25_F (p0 : (Int × (Int × Unit))) (p1 : TWorks) : Option TWorks := (i_works_comeIn_8e25 p0 p1).run some
noncomputable def comeI (x : Int × Int × Unit) (p : P8 × (G8 × Unit)) : Option (P8 × (G8 × Unit)) := askO (isG p.2.1 && okX p.2.1 x && okP 1000 p.2.1 p.1) ((comeM x p.1.1, p.1.2), p.2)
theorem i_works_comeIn_8e25_spec (p0 : Int × Int × Unit) (p1 : P8 × (G8 × Unit)) (y : P8 × (G8 × Unit)) (h : comeI p0 p1 = some y) : i_works_comeIn_8e25_F p0 p1 = some y := by
 obtain ⟨hok, rfl⟩ := askO_some h
 simp only [Bool.and_eq_true] at hok
 obtain ⟨⟨hg, hx⟩, hp⟩ := hok
 obtain ⟨l1, l2, l3, l4⟩ := okP_spec hp
 unfold okX at hx
 rw [Bool.and_eq_true, inR_iff] at hx
 obtain ⟨⟨x0, x1⟩, hr⟩ := hx
 obtain ⟨⟨st, wi, ⟨⟩⟩, ⟨g, ⟨⟩⟩⟩ := p1
 obtain ⟨t, r, ⟨⟩⟩ := p0
 simp only at *
 obtain ⟨i, rfl⟩ := Int.eq_ofNat_of_zero_le x0
 have hi : i < st.length := by omega
 obtain ⟨s, hs⟩ : ∃ s, st[i]? = some s := ⟨_, List.getElem?_eq_getElem hi⟩
 have hs1 := (l2 s (List.mem_of_getElem? hs)).1
 have hlen := (okS_spec.1 hs1).1
 unfold i_works_comeIn_8e25_F i_works_comeIn_8e25 comeM
 simp only [Int.toNat_natCast, hs]
 rw [Tre.run_ite, if_pos ⟨x0, by omega⟩, run_some_mat rfl, run_some_mat rfl, run_some_mat (show cloneR s.1 = some s.1 from lim_of (by omega)), Tre.run_ite, if_pos (by unfold appendMax; omega)]
 rw [run_some_mat (show indR (s.1 ++ [r]) = some _ from askO_true (okS_rows (okS_add hs1 hr) (by omega) (by have := (colsG_le hg).1; omega))), Tre.run_cond]
 cases decide (((echI (s.1 ++ [r])).length : Int) = ((s.1 ++ [r]).length : Int))
 ·rfl
 ·rw [cond_true, cond_true, run_some_mat rfl]; rfl
noncomputable def i_works_comeIn_8e25_V : Env := ⟨tau, [(36, slices_Clone_int64_c), (150, i_areIndependent_c)], []⟩
noncomputable def i_works_comeIn_8e25_b : Code := (Try.f133.body).getD .skip
noncomputable def i_works_comeIn_8e25_I : FnI := ⟨i_works_comeIn_8e25_b, Try.f133.results.toList, Try.f133.resultTypes.toList, []⟩
noncomputable def i_works_comeIn_8e25_out (zp0 : Bool) (_p0 : (Int × (Int × Unit))) (_p1 : TWorks) : TWorks → CallOut := fun r => ⟨.tnil, [⟨true, kWorks, (.pair .own (.imm zp0)), r⟩], []⟩
set_option maxRecDepth 100000 in
theorem i_works_comeIn_8e25_eq : ∀ (zp0 : Bool) (p0 : (Int × (Int × Unit))) (p1 : TWorks), denFn i_works_comeIn_8e25_V i_works_comeIn_8e25_I ⟨[(.ptr (0, 0) []), (.imm true kField p0)], [⟨true, kWorks, (.pair .own (.imm zp0)), p1⟩]⟩ = (i_works_comeIn_8e25 p0 p1).run fun r => some (i_works_comeIn_8e25_out zp0 p0 p1 r) := fun _ _ _ => by kernel_rfl
noncomputable def i_works_comeIn_8e25_G (av : List AV) (rs : List Root) : Tre CallOut :=
 asCons av fun a0_ av0 =>
 asCons av0 fun a1_ av1 =>
 asEnd av1 <|
 asCons rs fun r0_ rs0 =>
 asEnd rs0 <|
 asPtr (0, 0) [] a0_ <|
 asImmZ true kField a1_ fun d1 =>
 asRt true kWorks r0_ fun m2 d3 =>
 asMPair m2 fun m4 m5 =>
 asM .own m4 <|
 asMImm m5 fun z6 =>
 .mat (comeI d1 d3) fun r => .ret (i_works_comeIn_8e25_out z6 d1 d3 r)
noncomputable def i_works_comeIn_8e25_c : Ctr := ⟨[], fun ci => i_works_comeIn_8e25_G ci.args ci.roots, false⟩
theorem i_works_comeIn_8e25_env : EnvOK Try.prog i_works_comeIn_8e25_V := (envOK_cons slices_Clone_int64_ok ent36 (envOK_cons i_areIndependent_ok ent150 envOK_nil))
set_option maxRecDepth 100000 in
theorem i_works_comeIn_8e25_ok : Contract Try.prog 133 i_works_comeIn_8e25_c := by
 have hl : LoopsOK i_works_comeIn_8e25_V [] i_works_comeIn_8e25_b := loopsOK_nil (by kernel_rfl)
 refine (contract_of (F := i_works_comeIn_8e25_I) tau_tys i_works_comeIn_8e25_env Try.func133 (by kernel_rfl) (by kernel_rfl) (by kernel_rfl) hl []).weaken ?_
 rintro ⟨av, rs⟩ co h
 have h : (i_works_comeIn_8e25_G av rs).run some = some co := h
 obtain ⟨a0_, av0, rfl, h_0⟩ := asCons_spec h
 obtain ⟨a1_, av1, rfl, h_1⟩ := asCons_spec h_0
 obtain ⟨rfl, h_2⟩ := asEnd_spec h_1
 obtain ⟨r0_, rs0, rfl, h_3⟩ := asCons_spec h_2
 obtain ⟨rfl, h_4⟩ := asEnd_spec h_3
 obtain ⟨rfl, h_5⟩ := asPtr_spec h_4
 obtain ⟨d1, rfl, h_6⟩ := asImmZ_spec h_5
 obtain ⟨m2, d3, rfl, h_7⟩ := asRt_spec h_6
 obtain ⟨m4, m5, rfl, h_8⟩ := asMPair_spec h_7
 obtain ⟨rfl, h_9⟩ := asM_spec h_8
 obtain ⟨z6, rfl, h_10⟩ := asMImm_spec h_9
 exact fin_opt (i_works_comeIn_8e25_eq z6 d1 d3) (i_works_comeIn_8e25_spec d1 d3) h_10
end Go.Proofs.Ytohnlghdhbignaa

namespace Go.Proofs.Ytohnlghdhbignaa
open Go Go.Abs Go.Proofs
set_option maxHeartbeats 4000000 in
set_option maxRecDepth 1000000 in
theorem slices_Delete_Parcel_bee3_walk : DelWalk Try.prog 132 2 := by
 intro w b off n cap i j cs T hcs hn hsz hij hjn hone
 have hic : i ≤ cap := by omega
 have hjc : j ≤ cap := by omega
 obtain ⟨news, hnews⟩ : ∃ news, news = Go.Abs.sub cs (off + j * 2) ((n - j) * 2) := ⟨_, rfl⟩
 have hlen : news.length = (n - j) * 2 := by rw [hnews]; exact sub_length (by omega)
 obtain ⟨A, hA, hfc⟩ := cut_src (P := Try.prog) (sz := 2) hcs hjn hn hsz hnews
 have hone' : ∀ v ∈ news, v.oneCell' = true := cut_one hnews hone
 obtain ⟨W1, hW1⟩ : ∃ W1, W1 = w.drew.setRow b (updCells cs (off + i * 2) news) := ⟨_, rfl⟩
 have hst : (storeCells ⟨b, off + i * 2, none⟩ news).run Try.prog w.drew = .ok () W1 := by
  have := run_storeCells_at Try.prog b (off + i * 2) T news 0 cs w.drew hcs (by rw [hlen]; omega) hone'
  rw [hW1]; exact this
 have hcs1 : W1.heap[b]? = some (.cells (updCells cs (off + i * 2) news) T (0, 0)) := by rw [hW1]; exact setRow_heap w.drew b cs _ T _ hcs
 have hsz1 : (updCells cs (off + i * 2) news).size = cs.size := updCells_size (by rw [hlen]; omega)
 have hcl : ∀ ty, (Builtin.clear_ #[32] ty #[.slice (some ⟨b, off + (i + (n - j)) * 2, none⟩) (n - (i + (n - j))) (cap - (i + (n - j)))]).run Try.prog W1 = .ok (.tuple #[]) (W1.setRow b (updCells (updCells cs (off + i * 2) news) (off + (i + (n - j)) * 2) (Builtin.zeroCells (Value.agg #[.int .i64 0, .int .i64 0]).cells (n - (i + (n - j)))).toList)) :=
  fun ty => run_clear_row (e := 80) (by kernel_rfl) (fun w => by kernel_rfl) (by omega) (by simp [Value.cells]; intros; rfl) hcs1 (by rw [hsz1]; show _ + _ * 2 ≤ _; omega)
 have hinf : (Try.prog.info? 80).map (·.size) = some 2 := by kernel_rfl
 obtain ⟨i0, hi0, hi2⟩ := Option.map_eq_some_iff.1 hinf
 have t0 : Try.prog.underlying 32 = some (.slice 80) := by kernel_rfl
 have X : Shut (W1 = w.drew.setRow b (updCells cs (off + i * 2) news)) := ⟨hW1⟩
 have Y : Shut (news = Go.Abs.sub cs (off + j * 2) ((n - j) * 2)) := ⟨hnews⟩
 have hl : i + (n - j) ≤ n := by omega
 have hl2 : ¬ (cap = i + (n - j)) := by omega
 clear hW1 hcs1 hcs hone hnews
 go_enter Try.func132, (show Try.f132.ntmps = 33 from rfl)
 go_wp2
 go_region_law (refine step_append_row rfl (.tmp 22) (.tmp 25) 32 rfl 80 i0 2 t0 hi0 hi2 b off i cap (by simp [Act.eval, Act.put]) A (n - j) (cap - j) news (by simp [Act.eval, Act.put]) (hfc _ rfl) (by omega) hst ?_)
 all_goals go_wp2
 all_goals (go_ret; refine ⟨rfl, w.drew, (Builtin.zeroCells (Value.agg #[.int .i64 0, .int .i64 0]).cells (n - (i + (n - j)))).toList, rfl, rfl, rfl, rfl, ?_, ?_⟩)
 all_goals first
  | (rw [X.out, setRow_setRow, Y.out]; rfl)
  | (simp only [Builtin.zeroCells, Array.toList_map, List.length_map, Array.toList_range, List.length_range]; show (n - (i + (n - j))) * 2 = (j - i) * 2; omega)
noncomputable def slices_Delete_Parcel_bee3_G (av : List AV) (rs : List Root) : Tre CallOut :=
 asCons av fun a0_ av0 =>
 asCons av0 fun a1_ av1 =>
 asCons av1 fun a2_ av2 =>
 asEnd av2 <|
 asCons rs fun r0_ rs0 =>
 asEnd rs0 <|
 asRef (0, 0) [.fst, .snd, .fst] a0_ <|
 asImmZ true (.int .i64) a1_ fun d1 =>
 asImmZ true (.int .i64) a2_ fun d2 =>
 asRt true kWorks r0_ fun m3 d4 =>
 asMPair m3 fun m5 m6 =>
 asM .own m5 <|
 asMImm m6 fun z7 =>
 .ite (0 ≤ d1 ∧ d1 < d2 ∧ d2 ≤ (d4.1.2.1.length : Int)) (.ret ⟨.ref (1, 0) [], [⟨true, kWorks, (.pair (.pair .own (.pair .gone .own)) (.imm z7)), ((d4.1.1, ([], d4.1.2.2)), d4.2)⟩], [⟨false, (.sl kField), .own, d4.1.2.1.take d1.toNat ++ d4.1.2.1.drop d2.toNat⟩]⟩)
noncomputable def slices_Delete_Parcel_bee3_c : Ctr := ⟨[0], fun ci => slices_Delete_Parcel_bee3_G ci.args ci.roots, false⟩
set_option maxRecDepth 100000 in
theorem slices_Delete_Parcel_bee3_ok : Contract Try.prog 132 slices_Delete_Parcel_bee3_c := by
 refine (delete_ok (e := kField) (by kernel_rfl) (by kernel_rfl) slices_Delete_Parcel_bee3_walk).weaken ?_
 rintro ⟨av, rs⟩ co h
 have h : (slices_Delete_Parcel_bee3_G av rs).run some = some co := h
 obtain ⟨a0_, av0, rfl, h_0⟩ := asCons_spec h
 obtain ⟨a1_, av1, rfl, h_1⟩ := asCons_spec h_0
 obtain ⟨a2_, av2, rfl, h_2⟩ := asCons_spec h_1
 obtain ⟨rfl, h_3⟩ := asEnd_spec h_2
 obtain ⟨r0_, rs0, rfl, h_4⟩ := asCons_spec h_3
 obtain ⟨rfl, h_5⟩ := asEnd_spec h_4
 obtain ⟨rfl, h_6⟩ := asRef_spec h_5
 obtain ⟨d1, rfl, h_7⟩ := asImmZ_spec h_6
 obtain ⟨d2, rfl, h_8⟩ := asImmZ_spec h_7
 obtain ⟨m3, d4, rfl, h_9⟩ := asRt_spec h_8
 obtain ⟨m5, m6, rfl, h_10⟩ := asMPair_spec h_9
 obtain ⟨rfl, h_11⟩ := asM_spec h_10
 obtain ⟨z7, rfl, h_12⟩ := asMImm_spec h_11
 exact h_12
end Go.Proofs.Ytohnlghdhbignaa

namespace Go.Proofs.Ytohnlghdhbignaa
open Go Go.Abs Go.Proofs
noncomputable def i_works_handle_ba03 (p0 : TDeed) (p1 : TWorks) : Tre (Int × TWorks) :=
 .cond (decide (p0.2.1 ≥ (p1.1.2.1.length : Int)))
  (.ret (2, p1))
  (.cond (decide (p0.1 = 5))
   (.cond (decide (p0.2.2.1 = 0))
    (.ret (2, p1))
    (let v1 := iwrap .i64 (p1.2.1.1 + p1.2.1.2.1)
    .ite (0 ≤ v1) <|
    .cond (decide (p0.2.2.1 ≥ ishl .i64 1 v1))
     (.ret (2, p1))
     (.ite (0 ≤ p0.2.1 ∧ p0.2.1 < (p1.1.2.1.length : Int)) <|
     .mat (p1.1.2.1[p0.2.1.toNat]?) fun x2 =>
     .cond (decide (p0.1 = 5))
      (.ite (0 ≤ p0.2.1 ∧ p0.2.1 < (p1.1.2.1.length : Int)) <|
      .mat (p1.1.2.1[p0.2.1.toNat]?) fun x3 =>
      let v4 := ixor .i64 x3.2.1 p0.2.2.1
      .ite (0 ≤ p0.2.1 ∧ p0.2.1 < (p1.1.2.1.length : Int)) <|
      .mat (p1.1.2.1[p0.2.1.toNat]?) fun x5 =>
      let v6 := p1.1.2.1.set p0.2.1.toNat (x5.1, (v4, x5.2.2))
      .cond (decide (p0.1 = 2))
       (.mat (comeI x2 ((p1.1.1, (v6, p1.1.2.2)), p1.2)) fun r7 =>
       .ret (0, r7))
       (.cond (decide (p0.1 = 3))
        (.mat (comeI x2 ((p1.1.1, (v6, p1.1.2.2)), p1.2)) fun r8 =>
        .ret (0, r8))
        (.ret (0, ((p1.1.1, (v6, p1.1.2.2)), p1.2)))))
      (.cond (decide (p0.1 = 2))
       (.cond (decide (p0.1 = 2))
        (.ite (0 ≤ p0.2.1 ∧ p0.2.1 < iwrap .i64 (p0.2.1 + 1) ∧ iwrap .i64 (p0.2.1 + 1) ≤ (p1.1.2.1.length : Int)) <|
        .cond (decide (p0.1 = 2))
         (.mat (comeI x2 ((p1.1.1, (p1.1.2.1.take p0.2.1.toNat ++ p1.1.2.1.drop (iwrap .i64 (p0.2.1 + 1)).toNat, p1.1.2.2)), p1.2)) fun r9 =>
         .ret (0, r9))
         (.cond (decide (p0.1 = 3))
          (.mat (comeI x2 ((p1.1.1, (p1.1.2.1.take p0.2.1.toNat ++ p1.1.2.1.drop (iwrap .i64 (p0.2.1 + 1)).toNat, p1.1.2.2)), p1.2)) fun r10 =>
          .ret (0, r10))
          (.ret (0, ((p1.1.1, (p1.1.2.1.take p0.2.1.toNat ++ p1.1.2.1.drop (iwrap .i64 (p0.2.1 + 1)).toNat, p1.1.2.2)), p1.2)))))
        (.cond (decide (p0.1 = 2))
         (.mat (comeI x2 p1) fun r11 =>
         .ret (0, r11))
         (.cond (decide (p0.1 = 3))
          (.mat (comeI x2 p1) fun r12 =>
          .ret (0, r12))
          (.ret (0, p1)))))
       (.cond (decide (p0.1 = 4))
        (.ite (0 ≤ p0.2.1 ∧ p0.2.1 < iwrap .i64 (p0.2.1 + 1) ∧ iwrap .i64 (p0.2.1 + 1) ≤ (p1.1.2.1.length : Int)) <|
        .cond (decide (p0.1 = 2))
         (.mat (comeI x2 ((p1.1.1, (p1.1.2.1.take p0.2.1.toNat ++ p1.1.2.1.drop (iwrap .i64 (p0.2.1 + 1)).toNat, p1.1.2.2)), p1.2)) fun r13 =>
         .ret (0, r13))
         (.cond (decide (p0.1 = 3))
          (.mat (comeI x2 ((p1.1.1, (p1.1.2.1.take p0.2.1.toNat ++ p1.1.2.1.drop (iwrap .i64 (p0.2.1 + 1)).toNat, p1.1.2.2)), p1.2)) fun r14 =>
          .ret (0, r14))
          (.ret (0, ((p1.1.1, (p1.1.2.1.take p0.2.1.toNat ++ p1.1.2.1.drop (iwrap .i64 (p0.2.1 + 1)).toNat, p1.1.2.2)), p1.2)))))
        (.cond (decide (p0.1 = 2))
         (.mat (comeI x2 p1) fun r15 =>
         .ret (0, r15))
         (.cond (decide (p0.1 = 3))
          (.mat (comeI x2 p1) fun r16 =>
          .ret (0, r16))
          (.ret (0, p1)))))))))
   (.ite (0 ≤ p0.2.1 ∧ p0.2.1 < (p1.1.2.1.length : Int)) <|
   .mat (p1.1.2.1[p0.2.1.toNat]?) fun x17 =>
   .cond (decide (p0.1 = 5))
    (.ite (0 ≤ p0.2.1 ∧ p0.2.1 < (p1.1.2.1.length : Int)) <|
    .mat (p1.1.2.1[p0.2.1.toNat]?) fun x18 =>
    let v19 := ixor .i64 x18.2.1 p0.2.2.1
    .ite (0 ≤ p0.2.1 ∧ p0.2.1 < (p1.1.2.1.length : Int)) <|
    .mat (p1.1.2.1[p0.2.1.toNat]?) fun x20 =>
    let v21 := p1.1.2.1.set p0.2.1.toNat (x20.1, (v19, x20.2.2))
    .cond (decide (p0.1 = 2))
     (.mat (comeI x17 ((p1.1.1, (v21, p1.1.2.2)), p1.2)) fun r22 =>
     .ret (0, r22))
     (.cond (decide (p0.1 = 3))
      (.mat (comeI x17 ((p1.1.1, (v21, p1.1.2.2)), p1.2)) fun r23 =>
      .ret (0, r23))
      (.ret (0, ((p1.1.1, (v21, p1.1.2.2)), p1.2)))))
    (.cond (decide (p0.1 = 2))
     (.cond (decide (p0.1 = 2))
      (.ite (0 ≤ p0.2.1 ∧ p0.2.1 < iwrap .i64 (p0.2.1 + 1) ∧ iwrap .i64 (p0.2.1 + 1) ≤ (p1.1.2.1.length : Int)) <|
      .cond (decide (p0.1 = 2))
       (.mat (comeI x17 ((p1.1.1, (p1.1.2.1.take p0.2.1.toNat ++ p1.1.2.1.drop (iwrap .i64 (p0.2.1 + 1)).toNat, p1.1.2.2)), p1.2)) fun r24 =>
       .ret (0, r24))
       (.cond (decide (p0.1 = 3))
        (.mat (comeI x17 ((p1.1.1, (p1.1.2.1.take p0.2.1.toNat ++ p1.1.2.1.drop (iwrap .i64 (p0.2.1 + 1)).toNat, p1.1.2.2)), p1.2)) fun r25 =>
        .ret (0, r25))
        (.ret (0, ((p1.1.1, (p1.1.2.1.take p0.2.1.toNat ++ p1.1.2.1.drop (iwrap .i64 (p0.2.1 + 1)).toNat, p1.1.2.2)), p1.2)))))
      (.cond (decide (p0.1 = 2))
       (.mat (comeI x17 p1) fun r26 =>
       .ret (0, r26))
       (.cond (decide (p0.1 = 3))
        (.mat (comeI x17 p1) fun r27 =>
        .ret (0, r27))
        (.ret (0, p1)))))
     (.cond (decide (p0.1 = 4))
      (.ite (0 ≤ p0.2.1 ∧ p0.2.1 < iwrap .i64 (p0.2.1 + 1) ∧ iwrap .i64 (p0.2.1 + 1) ≤ (p1.1.2.1.length : Int)) <|
      .cond (decide (p0.1 = 2))
       (.mat (comeI x17 ((p1.1.1, (p1.1.2.1.take p0.2.1.toNat ++ p1.1.2.1.drop (iwrap .i64 (p0.2.1 + 1)).toNat, p1.1.2.2)), p1.2)) fun r28 =>
       .ret (0, r28))
       (.cond (decide (p0.1 = 3))
        (.mat (comeI x17 ((p1.1.1, (p1.1.2.1.take p0.2.1.toNat ++ p1.1.2.1.drop (iwrap .i64 (p0.2.1 + 1)).toNat, p1.1.2.2)), p1.2)) fun r29 =>
        .ret (0, r29))
        (.ret (0, ((p1.1.1, (p1.1.2.1.take p0.2.1.toNat ++ p1.1.2.1.drop (iwrap .i64 (p0.2.1 + 1)).toNat, p1.1.2.2)), p1.2)))))
      (.cond (decide (p0.1 = 2))
       (.mat (comeI x17 p1) fun r30 =>
       .ret (0, r30))
       (.cond (decide (p0.1 = 3))
        (.mat (comeI x17 p1) fun r31 =>
        .ret (0, r31))
        (.ret (0, p1))))))))
noncomputable def i_works_handle_ba03_F (p0 : TDeed) (p1 : TWorks) : Option (Int × TWorks) := (i_works_handle_ba03 p0 p1).run some
noncomputable def handI (d : D8) (p : P8 × (G8 × Unit)) : Option (Int × (P8 × (G8 × Unit))) := askO (isG p.2.1 && vDeed d && inR d.1 2 5 && okP 1000 p.2.1 p.1) ((wireM p.2.1 d p.1).1, (wireM p.2.1 d p.1).2, p.2)
theorem okP_cut {k : Nat} {g : G8} {st : List (List Int × List Int × Unit)} {wi : List (Int × Int × Unit)} (i : Nat) (h : okP k g (st, wi, ()) = true) : okP k g (st, wi.take i ++ wi.drop (i + 1), ()) = true := by
 obtain ⟨l1, l2, l3, l4⟩ := okP_spec h
 refine okP_mk l1 l2 (by simp only [List.length_append, List.length_take, List.length_drop] at *; omega) (fun x hx => l4 x ?_)
 rcases List.mem_append.1 hx with hx | hx
 ·exact List.mem_of_mem_take hx
 ·exact List.mem_of_mem_drop hx
theorem i_works_handle_ba03_spec (p0 : D8) (p1 : P8 × (G8 × Unit)) (y : Int × (P8 × (G8 × Unit))) (h : handI p0 p1 = some y) : i_works_handle_ba03_F p0 p1 = some y := by
 obtain ⟨hok, rfl⟩ := askO_some h
 simp only [Bool.and_eq_true] at hok
 obtain ⟨⟨⟨hg, hd⟩, hk⟩, hp⟩ := hok
 obtain ⟨⟨a0, a1⟩, ⟨b0, b1⟩, ⟨c0, c1⟩, _⟩ := vDeed_rng hd
 have hp0 := hp
 obtain ⟨l1, l2, l3, l4⟩ := okP_spec hp
 obtain ⟨⟨st, wi, ⟨⟩⟩, ⟨g, ⟨⟩⟩⟩ := p1
 obtain ⟨kk, a, b, c, ⟨⟩⟩ := p0
 simp only at *
 have hc := colsG_le hg
 have hw : iwrap .i64 (g.1 + g.2.1) = (colsG g : Int) := by rw [hc.2]; have := isG_spec hg; exact iwrap_i64 (by omega) (by omega)
 unfold i_works_handle_ba03_F i_works_handle_ba03 wireM
 simp only
 by_cases h1 : a ≥ (wi.length : Int)
 ·simp only [Tre.run_cond, decide_eq_true h1, cond_true, Tre.run_ret]
 obtain ⟨i, rfl⟩ := Int.eq_ofNat_of_zero_le a0
 have hi : i < wi.length := by omega
 obtain ⟨x, hx⟩ : ∃ x, wi[i]? = some x := ⟨_, List.getElem?_eq_getElem hi⟩
 have hxx : okX g x = true := okX_of hp0 hx
 have hcome : comeI x ((st, wi, ()), (g, ())) = some ((comeM x st, wi, ()), (g, ())) := askO_true (by rw [Bool.and_eq_true, Bool.and_eq_true]; exact ⟨⟨hg, hxx⟩, hp0⟩)
 have hcome2 : comeI x ((st, wi.take i ++ wi.drop (i + 1), ()), (g, ())) = some ((comeM x st, wi.take i ++ wi.drop (i + 1), ()), (g, ())) := askO_true (by rw [Bool.and_eq_true, Bool.and_eq_true]; exact ⟨⟨hg, hxx⟩, okP_cut i hp0⟩)
 have hi1 : iwrap .i64 ((i : Int) + 1) = ((i + 1 : Nat) : Int) := iwrap_succ (by omega)
 have hin : 0 ≤ (i : Int) ∧ (i : Int) < (wi.length : Int) := ⟨a0, by omega⟩
 have hdel : 0 ≤ (i : Int) ∧ (i : Int) < ((i + 1 : Nat) : Int) ∧ ((i + 1 : Nat) : Int) ≤ (wi.length : Int) := by omega
 have hk : kk = 2 ∨ kk = 3 ∨ kk = 4 ∨ kk = 5 := by rw [inR_iff] at hk; omega
 rw [Tre.run_cond, decide_eq_false h1, cond_false, cond_false]
 simp only [Int.toNat_natCast, hx, hi1, hw]
 rcases hk with rfl | rfl | rfl | rfl
 ·rw [Tre.run_cond, show decide ((2 : Int) = 5) = false from rfl, show decide ((2 : Int) = 3) = false from rfl, show decide ((2 : Int) = 4) = false from rfl, show decide ((2 : Int) = 2) = true from rfl, cond_false, Tre.run_ite, if_pos hin, run_some_mat rfl, Tre.run_cond, cond_false, Tre.run_cond, cond_true, Tre.run_cond, cond_true, Tre.run_ite, if_pos hdel, Tre.run_cond, cond_true, run_some_mat hcome2]
  rfl
 ·rw [Tre.run_cond, show decide ((3 : Int) = 5) = false from rfl, show decide ((3 : Int) = 2) = false from rfl, show decide ((3 : Int) = 4) = false from rfl, show decide ((3 : Int) = 3) = true from rfl, cond_false, Tre.run_ite, if_pos hin, run_some_mat rfl, Tre.run_cond, cond_false, Tre.run_cond, cond_false, Tre.run_cond, cond_false, Tre.run_cond, cond_false, Tre.run_cond, cond_true, run_some_mat hcome]
  rfl
 ·rw [Tre.run_cond, show decide ((4 : Int) = 5) = false from rfl, show decide ((4 : Int) = 2) = false from rfl, show decide ((4 : Int) = 3) = false from rfl, show decide ((4 : Int) = 4) = true from rfl, cond_false, Tre.run_ite, if_pos hin, run_some_mat rfl, Tre.run_cond, cond_false, Tre.run_cond, cond_false, Tre.run_cond, cond_true, Tre.run_ite, if_pos hdel, Tre.run_cond, cond_false, Tre.run_cond, cond_false]
  rfl
 ·rw [Tre.run_cond, show decide ((5 : Int) = 5) = true from rfl, show decide ((5 : Int) = 2) = false from rfl, show decide ((5 : Int) = 3) = false from rfl, cond_true, Tre.run_cond]
  by_cases hb : b = 0
  ·simp only [decide_eq_true hb, cond_true, Tre.run_ret, Bool.true_or]
  ·rw [decide_eq_false hb, cond_false, Tre.run_ite, if_pos (by omega), Tre.run_cond]
   cases decide (b ≥ ishl .i64 1 (colsG g : Int))
   ·rw [cond_false, Tre.run_ite, if_pos hin, run_some_mat rfl, Tre.run_cond, cond_true, Tre.run_ite, if_pos hin, run_some_mat rfl]
    rw [Tre.run_ite, if_pos hin, run_some_mat rfl, Tre.run_cond, cond_false, Tre.run_cond, cond_false]
    rfl
   ·rfl
noncomputable def i_works_handle_ba03_V : Env := ⟨tau, [(131, i_size_Parcel_c), (133, i_works_comeIn_8e25_c), (132, slices_Delete_Parcel_bee3_c)], []⟩
noncomputable def i_works_handle_ba03_b : Code := (Try.f106.body).getD .skip
noncomputable def i_works_handle_ba03_I : FnI := ⟨i_works_handle_ba03_b, Try.f106.results.toList, Try.f106.resultTypes.toList, []⟩
noncomputable def i_works_handle_ba03_out (zp0 : Bool) (_p0 : TDeed) (_p1 : TWorks) : (Int × TWorks) → CallOut := fun r => ⟨(.imm true (.int .i64) r.1), [⟨true, kWorks, (.pair .own (.imm zp0)), r.2⟩], []⟩
set_option maxRecDepth 100000 in
theorem i_works_handle_ba03_eq : ∀ (zp0 : Bool) (p0 : TDeed) (p1 : TWorks), denFn i_works_handle_ba03_V i_works_handle_ba03_I ⟨[(.ptr (0, 0) []), (.imm true kDeed p0)], [⟨true, kWorks, (.pair .own (.imm zp0)), p1⟩]⟩ = (i_works_handle_ba03 p0 p1).run fun r => some (i_works_handle_ba03_out zp0 p0 p1 r) := fun _ _ _ => by kernel_rfl
noncomputable def i_works_handle_ba03_G (av : List AV) (rs : List Root) : Tre CallOut :=
 asCons av fun a0_ av0 =>
 asCons av0 fun a1_ av1 =>
 asEnd av1 <|
 asCons rs fun r0_ rs0 =>
 asEnd rs0 <|
 asPtr (0, 0) [] a0_ <|
 asImmZ true kDeed a1_ fun d1 =>
 asRt true kWorks r0_ fun m2 d3 =>
 asMPair m2 fun m4 m5 =>
 asM .own m4 <|
 asMImm m5 fun z6 =>
 .mat (handI d1 d3) fun r => .ret (i_works_handle_ba03_out z6 d1 d3 r)
noncomputable def i_works_handle_ba03_c : Ctr := ⟨[], fun ci => i_works_handle_ba03_G ci.args ci.roots, false⟩
theorem i_works_handle_ba03_env : EnvOK Try.prog i_works_handle_ba03_V := (envOK_cons i_size_Parcel_ok ent131 (envOK_cons i_works_comeIn_8e25_ok ent133 (envOK_cons slices_Delete_Parcel_bee3_ok ent132 envOK_nil)))
set_option maxRecDepth 100000 in
theorem i_works_handle_ba03_ok : Contract Try.prog 106 i_works_handle_ba03_c := by
 have hl : LoopsOK i_works_handle_ba03_V [] i_works_handle_ba03_b := loopsOK_nil (by kernel_rfl)
 refine (contract_of (F := i_works_handle_ba03_I) tau_tys i_works_handle_ba03_env Try.func106 (by kernel_rfl) (by kernel_rfl) (by kernel_rfl) hl []).weaken ?_
 rintro ⟨av, rs⟩ co h
 have h : (i_works_handle_ba03_G av rs).run some = some co := h
 obtain ⟨a0_, av0, rfl, h_0⟩ := asCons_spec h
 obtain ⟨a1_, av1, rfl, h_1⟩ := asCons_spec h_0
 obtain ⟨rfl, h_2⟩ := asEnd_spec h_1
 obtain ⟨r0_, rs0, rfl, h_3⟩ := asCons_spec h_2
 obtain ⟨rfl, h_4⟩ := asEnd_spec h_3
 obtain ⟨rfl, h_5⟩ := asPtr_spec h_4
 obtain ⟨d1, rfl, h_6⟩ := asImmZ_spec h_5
 obtain ⟨m2, d3, rfl, h_7⟩ := asRt_spec h_6
 obtain ⟨m4, m5, rfl, h_8⟩ := asMPair_spec h_7
 obtain ⟨rfl, h_9⟩ := asM_spec h_8
 obtain ⟨z6, rfl, h_10⟩ := asMImm_spec h_9
 exact fin_opt (i_works_handle_ba03_eq z6 d1 d3) (i_works_handle_ba03_spec d1 d3) h_10
end Go.Proofs.Ytohnlghdhbignaa

namespace Go.Proofs.Ytohnlghdhbignaa
open Go Go.Abs Go.Proofs
noncomputable def i_works_do_ba03 (p0 : TDeed) (p1 : TWorks) : Tre (Int × TWorks) :=
 .cond (decide (p0.1 = 1))
  (.mat (sendI p0 p1) fun r1 =>
  .ret (r1.1, r1.2))
  (.cond (decide (p0.1 = 2))
   (.cond (decide (p0.1 = 2))
    (.mat (handI p0 p1) fun r2 =>
    .ret (r2.1, r2.2))
    (let v3 := i_Gather_isStation_S p1.2.1 p0.2.1
    .cond (!v3)
     (.ret (2, p1))
     (.ite (0 ≤ p0.2.1 ∧ p0.2.1 < (p1.1.1.length : Int)) <|
     .cond (decide (p0.1 = 6))
      (.mat (p1.1.1[p0.2.1.toNat]?) fun _ =>
      .mat (p1.1.1[p0.2.1.toNat]?) fun x5 =>
      .mat (cloneR x5.1) fun r6 =>
      .mat (p1.1.1[p0.2.1.toNat]?) fun x7 =>
      let v8 := p1.1.1.set p0.2.1.toNat (x7.1, (r6, x7.2.2))
      .ret (0, ((v8, p1.1.2), p1.2)))
      (.cond (decide (p0.1 = 7))
       (.mat (p1.1.1[p0.2.1.toNat]?) fun _ =>
       .mat (p1.1.1[p0.2.1.toNat]?) fun x10 =>
       .mat (cloneR x10.2.1) fun r11 =>
       .mat (p1.1.1[p0.2.1.toNat]?) fun x12 =>
       let v13 := p1.1.1.set p0.2.1.toNat (r11, x12.2)
       .ret (0, ((v13, p1.1.2), p1.2)))
       (.cond (decide (p0.1 = 8))
        (.mat (p1.1.1[p0.2.1.toNat]?) fun x14 =>
        let v15 := p1.1.1.set p0.2.1.toNat ([], x14.2)
        .ret (0, ((v15, p1.1.2), p1.2)))
        (.ret (0, p1)))))))
   (.cond (decide (p0.1 = 3))
    (.cond (decide (p0.1 = 3))
     (.mat (handI p0 p1) fun r16 =>
     .ret (r16.1, r16.2))
     (let v17 := i_Gather_isStation_S p1.2.1 p0.2.1
     .cond (!v17)
      (.ret (2, p1))
      (.ite (0 ≤ p0.2.1 ∧ p0.2.1 < (p1.1.1.length : Int)) <|
      .cond (decide (p0.1 = 6))
       (.mat (p1.1.1[p0.2.1.toNat]?) fun _ =>
       .mat (p1.1.1[p0.2.1.toNat]?) fun x19 =>
       .mat (cloneR x19.1) fun r20 =>
       .mat (p1.1.1[p0.2.1.toNat]?) fun x21 =>
       let v22 := p1.1.1.set p0.2.1.toNat (x21.1, (r20, x21.2.2))
       .ret (0, ((v22, p1.1.2), p1.2)))
       (.cond (decide (p0.1 = 7))
        (.mat (p1.1.1[p0.2.1.toNat]?) fun _ =>
        .mat (p1.1.1[p0.2.1.toNat]?) fun x24 =>
        .mat (cloneR x24.2.1) fun r25 =>
        .mat (p1.1.1[p0.2.1.toNat]?) fun x26 =>
        let v27 := p1.1.1.set p0.2.1.toNat (r25, x26.2)
        .ret (0, ((v27, p1.1.2), p1.2)))
        (.cond (decide (p0.1 = 8))
         (.mat (p1.1.1[p0.2.1.toNat]?) fun x28 =>
         let v29 := p1.1.1.set p0.2.1.toNat ([], x28.2)
         .ret (0, ((v29, p1.1.2), p1.2)))
         (.ret (0, p1)))))))
    (.cond (decide (p0.1 = 4))
     (.cond (decide (p0.1 = 4))
      (.mat (handI p0 p1) fun r30 =>
      .ret (r30.1, r30.2))
      (let v31 := i_Gather_isStation_S p1.2.1 p0.2.1
      .cond (!v31)
       (.ret (2, p1))
       (.ite (0 ≤ p0.2.1 ∧ p0.2.1 < (p1.1.1.length : Int)) <|
       .cond (decide (p0.1 = 6))
        (.mat (p1.1.1[p0.2.1.toNat]?) fun _ =>
        .mat (p1.1.1[p0.2.1.toNat]?) fun x33 =>
        .mat (cloneR x33.1) fun r34 =>
        .mat (p1.1.1[p0.2.1.toNat]?) fun x35 =>
        let v36 := p1.1.1.set p0.2.1.toNat (x35.1, (r34, x35.2.2))
        .ret (0, ((v36, p1.1.2), p1.2)))
        (.cond (decide (p0.1 = 7))
         (.mat (p1.1.1[p0.2.1.toNat]?) fun _ =>
         .mat (p1.1.1[p0.2.1.toNat]?) fun x38 =>
         .mat (cloneR x38.2.1) fun r39 =>
         .mat (p1.1.1[p0.2.1.toNat]?) fun x40 =>
         let v41 := p1.1.1.set p0.2.1.toNat (r39, x40.2)
         .ret (0, ((v41, p1.1.2), p1.2)))
         (.cond (decide (p0.1 = 8))
          (.mat (p1.1.1[p0.2.1.toNat]?) fun x42 =>
          let v43 := p1.1.1.set p0.2.1.toNat ([], x42.2)
          .ret (0, ((v43, p1.1.2), p1.2)))
          (.ret (0, p1)))))))
     (.cond (decide (p0.1 = 5))
      (.mat (handI p0 p1) fun r44 =>
      .ret (r44.1, r44.2))
      (let v45 := i_Gather_isStation_S p1.2.1 p0.2.1
      .cond (!v45)
       (.ret (2, p1))
       (.ite (0 ≤ p0.2.1 ∧ p0.2.1 < (p1.1.1.length : Int)) <|
       .cond (decide (p0.1 = 6))
        (.mat (p1.1.1[p0.2.1.toNat]?) fun _ =>
        .mat (p1.1.1[p0.2.1.toNat]?) fun x47 =>
        .mat (cloneR x47.1) fun r48 =>
        .mat (p1.1.1[p0.2.1.toNat]?) fun x49 =>
        let v50 := p1.1.1.set p0.2.1.toNat (x49.1, (r48, x49.2.2))
        .ret (0, ((v50, p1.1.2), p1.2)))
        (.cond (decide (p0.1 = 7))
         (.mat (p1.1.1[p0.2.1.toNat]?) fun _ =>
         .mat (p1.1.1[p0.2.1.toNat]?) fun x52 =>
         .mat (cloneR x52.2.1) fun r53 =>
         .mat (p1.1.1[p0.2.1.toNat]?) fun x54 =>
         let v55 := p1.1.1.set p0.2.1.toNat (r53, x54.2)
         .ret (0, ((v55, p1.1.2), p1.2)))
         (.cond (decide (p0.1 = 8))
          (.mat (p1.1.1[p0.2.1.toNat]?) fun x56 =>
          let v57 := p1.1.1.set p0.2.1.toNat ([], x56.2)
          .ret (0, ((v57, p1.1.2), p1.2)))
          (.ret (0, p1))))))))))
noncomputable def i_works_do_ba03_F (p0 : TDeed) (p1 : TWorks) : Option (Int × TWorks) := (i_works_do_ba03 p0 p1).run some
noncomputable def doI (d : D8) (p : P8 × (G8 × Unit)) : Option (Int × (P8 × (G8 × Unit))) := askO (isG p.2.1 && vDeed d && okP 1000 p.2.1 p.1) ((doM p.2.1 d p.1).1, (doM p.2.1 d p.1).2, p.2)
theorem i_works_do_ba03_spec (p0 : D8) (p1 : P8 × (G8 × Unit)) (y : Int × (P8 × (G8 × Unit))) (h : doI p0 p1 = some y) : i_works_do_ba03_F p0 p1 = some y := by
 obtain ⟨hok, rfl⟩ := askO_some h
 have hsend : sendI p0 p1 = some _ := askO_true hok
 have hhand : inR p0.1 2 5 = true → handI p0 p1 = some _ := fun hk => askO_true (by
  simp only [Bool.and_eq_true] at hok ⊢
  exact ⟨⟨hok.1, hk⟩, hok.2⟩)
 simp only [Bool.and_eq_true] at hok
 obtain ⟨⟨hg, hd⟩, hp⟩ := hok
 obtain ⟨⟨a0, a1⟩, _, _, hk⟩ := vDeed_rng hd
 obtain ⟨l1, l2, l3, l4⟩ := okP_spec hp
 have hst : (!inR p0.2.1 0 (statG p1.2.1 - 1)) = decide (p0.2.1 ≥ (p1.1.1.length : Int)) := by
  unfold inR
  rw [decide_eq_true a0, Bool.true_and]
  by_cases h : p0.2.1 ≥ (p1.1.1.length : Int)
  ·rw [decide_eq_true h, decide_eq_false (by omega)]; rfl
  ·rw [decide_eq_false h, decide_eq_true (by omega)]; rfl
 obtain ⟨kk, a, b, c, ⟨⟩⟩ := p0
 unfold i_works_do_ba03_F i_works_do_ba03 doM
 simp only at *
 rw [isStation_S hg, hst]
 rcases kind_cases hk with rfl | rfl | rfl | rfl | rfl | rfl | rfl | rfl
 ·rw [Tre.run_cond, show decide ((1 : Int) = 1) = true from rfl, cond_true, run_some_mat hsend]; rfl
 ·simp only [Tre.run_cond, show decide ((2 : Int) = 1) = false from rfl, show decide ((2 : Int) = 2) = true from rfl, cond_true, cond_false]
  rw [run_some_mat (hhand rfl)]; rfl
 ·simp only [Tre.run_cond, show decide ((3 : Int) = 1) = false from rfl, show decide ((3 : Int) = 2) = false from rfl, show decide ((3 : Int) = 3) = true from rfl, cond_true, cond_false]
  rw [run_some_mat (hhand rfl)]; rfl
 ·simp only [Tre.run_cond, show decide ((4 : Int) = 1) = false from rfl, show decide ((4 : Int) = 2) = false from rfl, show decide ((4 : Int) = 3) = false from rfl, show decide ((4 : Int) = 4) = true from rfl, cond_true, cond_false]
  rw [run_some_mat (hhand rfl)]; rfl
 ·simp only [Tre.run_cond, show decide ((5 : Int) = 1) = false from rfl, show decide ((5 : Int) = 2) = false from rfl, show decide ((5 : Int) = 3) = false from rfl, show decide ((5 : Int) = 4) = false from rfl, show decide ((5 : Int) = 5) = true from rfl, cond_true, cond_false]
  rw [run_some_mat (hhand rfl)]; rfl
 all_goals
  simp only [Tre.run_cond, show decide ((6 : Int) = 1) = false from rfl, show decide ((6 : Int) = 2) = false from rfl, show decide ((6 : Int) = 3) = false from rfl, show decide ((6 : Int) = 4) = false from rfl, show decide ((6 : Int) = 5) = false from rfl, show decide ((6 : Int) = 6) = true from rfl, show inR 6 2 5 = false from rfl,
   show decide ((7 : Int) = 1) = false from rfl, show decide ((7 : Int) = 2) = false from rfl, show decide ((7 : Int) = 3) = false from rfl, show decide ((7 : Int) = 4) = false from rfl, show decide ((7 : Int) = 5) = false from rfl, show decide ((7 : Int) = 6) = false from rfl, show decide ((7 : Int) = 7) = true from rfl, show inR 7 2 5 = false from rfl,
   show decide ((8 : Int) = 1) = false from rfl, show decide ((8 : Int) = 2) = false from rfl, show decide ((8 : Int) = 3) = false from rfl, show decide ((8 : Int) = 4) = false from rfl, show decide ((8 : Int) = 5) = false from rfl, show decide ((8 : Int) = 6) = false from rfl, show decide ((8 : Int) = 7) = false from rfl, show inR 8 2 5 = false from rfl, cond_true, cond_false]
  by_cases h1 : a ≥ (p1.1.1.length : Int)
  ·rw [decide_eq_true h1]; rfl
  obtain ⟨i, rfl⟩ := Int.eq_ofNat_of_zero_le a0
  have hi : i < p1.1.1.length := by omega
  obtain ⟨s, hs⟩ : ∃ s, p1.1.1[i]? = some s := ⟨_, List.getElem?_eq_getElem hi⟩
  have hm := l2 s (List.mem_of_getElem? hs)
  have k1 := (okS_spec.1 hm.1).1
  have k2 := (okS_spec.1 hm.2).1
  have c1 : cloneR s.1 = some s.1 := lim_of (by omega)
  have c2 : cloneR s.2.1 = some s.2.1 := lim_of (by omega)
  rw [decide_eq_false h1, cond_false, cond_false]
  simp only [Int.toNat_natCast, hs]
  rw [Tre.run_ite, if_pos ⟨a0, by omega⟩]
  try simp only [decide_true]
 ·rw [Tre.run_cond, cond_true, run_some_mat rfl, run_some_mat rfl, run_some_mat c1, run_some_mat rfl]; rfl
 ·rw [Tre.run_cond, cond_false, Tre.run_cond, cond_true, run_some_mat rfl, run_some_mat rfl, run_some_mat c2, run_some_mat rfl]; rfl
 ·rw [Tre.run_cond, cond_false, Tre.run_cond, cond_false, Tre.run_cond, cond_true, run_some_mat rfl]; rfl
noncomputable def i_works_do_ba03_V : Env := ⟨tau, [(105, i_works_send_ba03_c), (106, i_works_handle_ba03_c), (74, i_Gather_isStation_c), (36, slices_Clone_int64_c)], []⟩
noncomputable def i_works_do_ba03_b : Code := (Try.f76.body).getD .skip
noncomputable def i_works_do_ba03_I : FnI := ⟨i_works_do_ba03_b, Try.f76.results.toList, Try.f76.resultTypes.toList, []⟩
noncomputable def i_works_do_ba03_out (zp0 : Bool) (_p0 : TDeed) (_p1 : TWorks) : (Int × TWorks) → CallOut := fun r => ⟨(.imm true (.int .i64) r.1), [⟨true, kWorks, (.pair .own (.imm zp0)), r.2⟩], []⟩
set_option maxRecDepth 100000 in
theorem i_works_do_ba03_eq : ∀ (zp0 : Bool) (p0 : TDeed) (p1 : TWorks), denFn i_works_do_ba03_V i_works_do_ba03_I ⟨[(.ptr (0, 0) []), (.imm true kDeed p0)], [⟨true, kWorks, (.pair .own (.imm zp0)), p1⟩]⟩ = (i_works_do_ba03 p0 p1).run fun r => some (i_works_do_ba03_out zp0 p0 p1 r) := fun _ _ _ => by kernel_rfl
noncomputable def i_works_do_ba03_G (av : List AV) (rs : List Root) : Tre CallOut :=
 asCons av fun a0_ av0 =>
 asCons av0 fun a1_ av1 =>
 asEnd av1 <|
 asCons rs fun r0_ rs0 =>
 asEnd rs0 <|
 asPtr (0, 0) [] a0_ <|
 asImmZ true kDeed a1_ fun d1 =>
 asRt true kWorks r0_ fun m2 d3 =>
 asMPair m2 fun m4 m5 =>
 asM .own m4 <|
 asMImm m5 fun z6 =>
 .mat (doI d1 d3) fun r => .ret (i_works_do_ba03_out z6 d1 d3 r)
noncomputable def i_works_do_ba03_c : Ctr := ⟨[], fun ci => i_works_do_ba03_G ci.args ci.roots, false⟩
theorem i_works_do_ba03_env : EnvOK Try.prog i_works_do_ba03_V := (envOK_cons i_works_send_ba03_ok ent105 (envOK_cons i_works_handle_ba03_ok ent106 (envOK_cons i_Gather_isStation_ok ent74 (envOK_cons slices_Clone_int64_ok ent36 envOK_nil))))
set_option maxRecDepth 100000 in
theorem i_works_do_ba03_ok : Contract Try.prog 76 i_works_do_ba03_c := by
 have hl : LoopsOK i_works_do_ba03_V [] i_works_do_ba03_b := loopsOK_nil (by kernel_rfl)
 refine (contract_of (F := i_works_do_ba03_I) tau_tys i_works_do_ba03_env Try.func76 (by kernel_rfl) (by kernel_rfl) (by kernel_rfl) hl []).weaken ?_
 rintro ⟨av, rs⟩ co h
 have h : (i_works_do_ba03_G av rs).run some = some co := h
 obtain ⟨a0_, av0, rfl, h_0⟩ := asCons_spec h
 obtain ⟨a1_, av1, rfl, h_1⟩ := asCons_spec h_0
 obtain ⟨rfl, h_2⟩ := asEnd_spec h_1
 obtain ⟨r0_, rs0, rfl, h_3⟩ := asCons_spec h_2
 obtain ⟨rfl, h_4⟩ := asEnd_spec h_3
 obtain ⟨rfl, h_5⟩ := asPtr_spec h_4
 obtain ⟨d1, rfl, h_6⟩ := asImmZ_spec h_5
 obtain ⟨m2, d3, rfl, h_7⟩ := asRt_spec h_6
 obtain ⟨m4, m5, rfl, h_8⟩ := asMPair_spec h_7
 obtain ⟨rfl, h_9⟩ := asM_spec h_8
 obtain ⟨z6, rfl, h_10⟩ := asMImm_spec h_9
 exact fin_opt (i_works_do_ba03_eq z6 d1 d3) (i_works_do_ba03_spec d1 d3) h_10
end Go.Proofs.Ytohnlghdhbignaa

namespace Go.Proofs.Ytohnlghdhbignaa
open Go Go.Abs Go.Proofs
noncomputable def i_after_l3 (h3_0_1 : (List TDeed)) (h3_0_2 : Int) : (Int × Int × TWorks) → Tre ((Int × Int × TWorks) ⊕ (Int × TWorks)) := fun s3 =>
 .cond (decide (s3.2.1 < h3_0_2))
  (.ite (0 ≤ s3.2.1 ∧ s3.2.1 < (h3_0_1.length : Int)) <|
  .mat (h3_0_1[s3.2.1.toNat]?) fun x2 =>
  .mat (doI x2 s3.2.2) fun r3 =>
  .cond (decide (r3.1 = 0))
   (.ret (.inl (iwrap .i64 (s3.1 + 1), iwrap .i64 (s3.2.1 + 1), r3.2)))
   (.ret (.inl (s3.1, iwrap .i64 (s3.2.1 + 1), r3.2))))
  (.ret (.inr (s3.1, s3.2.2)))
noncomputable def i_after (p0 : TGather) (p1 : (List TDeed)) : Tre (Int × TWorks) :=
 .mat (newR p0) fun r1 =>
 .mat (loopF (i_after_l3 p1 (p1.length : Int)) (0, 0, r1)) fun l4 =>
 .ret (l4.1, l4.2)
noncomputable def i_after_F (p0 : TGather) (p1 : (List TDeed)) : Option (Int × TWorks) := (i_after p0 p1).run some
def zerosN (cs : List Int) : Nat := cs.countP fun c => decide (c = 0)
noncomputable def afterR (g : G8) (ds : List D8) : Option (Int × (P8 × (G8 × Unit))) := askO (isG g && ds.all vDeed && decide (ds.length ≤ 300)) ((zerosN (runM g ds (beginM g)).2 : Int), (afterM g ds, (g, ())))
theorem foldE_after (g : G8) : ∀ (l : List D8) (i n : Nat) (p : P8), foldE (β := Int × (P8 × (G8 × Unit))) (fun (_ : Nat) (acc : Int × (P8 × (G8 × Unit))) d => .inl (cond (decide ((doM g d acc.2.1).1 = 0)) (acc.1 + 1) acc.1, (doM g d acc.2.1).2, acc.2.2)) id i ((n : Int), p, g, ()) l = (((n + zerosN (runM g l p).2 : Nat) : Int), (runM g l p).1, g, ()) := by
 intro l
 induction l with
 | nil => intro i n p; simp [foldE, runM, zerosN]
 | cons d l ih =>
  intro i n p
  simp only [foldE, runM]
  have hz : zerosN ((doM g d p).1 :: (runM g l (doM g d p).2).2) = zerosN (runM g l (doM g d p).2).2 + cond (decide ((doM g d p).1 = 0)) 1 0 := by
   unfold zerosN
   rw [List.countP_cons]
   cases decide ((doM g d p).1 = 0) <;> rfl
  rw [hz]
  cases decide ((doM g d p).1 = 0)
  ·exact ih (i + 1) n _
  ·have := ih (i + 1) (n + 1) (doM g d p).2
   rw [show ((n + 1 : Nat) : Int) = (n : Int) + 1 from by omega] at this
   simp only [cond_true]
   rw [this]
   congr 2
   omega
theorem i_after_spec (p0 : G8) (p1 : List D8) (y : Int × (P8 × (G8 × Unit))) (h : afterR p0 p1 = some y) : i_after_F p0 p1 = some y := by
 obtain ⟨hok, rfl⟩ := askO_some h
 simp only [Bool.and_eq_true, decide_eq_true_eq] at hok
 obtain ⟨⟨hg, hd⟩, hl⟩ := hok
 unfold i_after_F i_after
 rw [run_some_mat (show newR p0 = some _ from askO_true hg)]
 have := fold_loop (xs := p1) (step := i_after_l3 p1 (p1.length : Int)) (fun i acc => (acc.1, (i : Int), acc.2)) (fun (_ : Nat) (acc : Int × (P8 × (G8 × Unit))) d => .inl (cond (decide ((doM p0 d acc.2.1).1 = 0)) (acc.1 + 1) acc.1, (doM p0 d acc.2.1).2, acc.2.2)) id (fun i acc => acc.2.2 = (p0, ()) ∧ okP (4 + i) p0 acc.2.1 = true ∧ 0 ≤ acc.1 ∧ acc.1 ≤ (i : Int)) (by
  rintro i ⟨n, ⟨p, ⟨g, ⟨⟩⟩⟩⟩ x hx ⟨hI, hI2, hn0, hn1⟩
  cases hI
  have hi : i < p1.length := (List.getElem?_eq_some_iff.1 hx).1
  have hv : vDeed x = true := List.all_eq_true.1 hd x (List.mem_of_getElem? hx)
  simp only at hn0 hn1
  constructor
  ·unfold i_after_l3
   dsimp only
   rw [run_inb hx, run_some_mat (show doI x (p, p0, ()) = some _ from askO_true (by
    rw [Bool.and_eq_true, Bool.and_eq_true]; exact ⟨⟨hg, hv⟩, okP_mono hI2 (by omega)⟩)), Tre.run_cond]
   dsimp only
   rw [iwrap_succ (by omega)]
   cases decide ((doM p0 x p).1 = 0)
   ·rfl
   ·rw [cond_true, cond_true, Tre.run_ret, iwrap_i64 (by omega) (by omega)]
  ·intro a ha
   cases ha
   refine ⟨rfl, doM_ok hg hv hI2, ?_, ?_⟩
   ·show 0 ≤ cond (decide ((doM p0 x p).1 = 0)) (n + 1) n
    cases decide ((doM p0 x p).1 = 0)
    ·exact hn0
    ·rw [cond_true]; omega
   ·show cond (decide ((doM p0 x p).1 = 0)) (n + 1) n ≤ ((i + 1 : Nat) : Int)
    cases decide ((doM p0 x p).1 = 0)
    ·rw [cond_false]; omega
    ·rw [cond_true]; omega)
  (by
  intro acc _
  unfold i_after_l3
  exact run_out) p1 0 (0, beginM p0, p0, ()) rfl (Nat.zero_le _) ⟨rfl, beginM_ok hg, Int.le_refl _, Int.le_refl _⟩
 have h0 := foldE_after p0 p1 0 0 (beginM p0)
 rw [Nat.zero_add] at h0
 have h1 : loopF (i_after_l3 p1 (p1.length : Int)) (0, 0, (beginM p0, p0, ())) = some ((zerosN (runM p0 p1 (beginM p0)).2 : Int), ((runM p0 p1 (beginM p0)).1, p0, ())) := this.trans (congrArg some h0)
 rw [run_some_mat h1]
 rfl
noncomputable def i_after_V : Env := ⟨tau, [(75, i_newWorks_c), (76, i_works_do_ba03_c)], []⟩
noncomputable def i_after_b : Code := (Try.f34.body).getD .skip
noncomputable def i_after_l3_mk (z3_0 : Bool) (z3_1 : Bool) (h3_0_1 : (List TDeed)) (h3_0_2 : Int) : (Int × Int × TWorks) → St := fun x => stOf [(6, (.ptr (13, 0) [])), (7, (.imm true (.int .i64) x.1)), (12, (.imm z3_0 (.sl kDeed) h3_0_1)), (13, (.imm true (.int .i64) h3_0_2)), (14, (.imm true (.int .i64) x.2.1))] [((13, 0), some ⟨true, kWorks, (.pair .own (.imm z3_1)), x.2.2⟩)]
noncomputable def i_after_l3_out (_z3_0 : Bool) (z3_1 : Bool) (_h3_0_1 : (List TDeed)) (_h3_0_2 : Int) : (Int × TWorks) → Ex × St := fun x => (.exit 0, stOf [(6, (.ptr (13, 0) [])), (7, (.imm true (.int .i64) x.1))] [((13, 0), some ⟨true, kWorks, (.pair .own (.imm z3_1)), x.2⟩)])
noncomputable def i_after_l3_D (s : St) : Tre (Ex × St) :=
 asPtr (13, 0) [] (s.tmps 6) <|
 asImmZ true (.int .i64) (s.tmps 7) fun d3 =>
 asImm (.sl kDeed) (s.tmps 12) fun z6 d5 =>
 asImmZ true (.int .i64) (s.tmps 13) fun d8 =>
 asImmZ true (.int .i64) (s.tmps 14) fun d10 =>
 asRoot true kWorks (s.roots (13, 0)) fun m12 d13 =>
 asMPair m12 fun m14 m15 =>
 asM .own m14 <|
 asMImm m15 fun z16 =>
 .mat (loopF (i_after_l3 d5 d8) (d3, d10, d13)) fun x => .ret (i_after_l3_out z6 z16 d5 d8 x)
noncomputable def i_after_l3_L : LoopI := ⟨([6, 7, 12, 13, 14], [(13, 0)]), ([6, 7], [(13, 0)]), i_after_l3_D⟩
noncomputable def i_after_A : List (Nat × LoopI) := [(3, i_after_l3_L)]
set_option maxRecDepth 100000 in
theorem i_after_l3_step : ∀ (z3_0 : Bool) (z3_1 : Bool) (h3_0_1 : (List TDeed)) (h3_0_2 : Int) (x : (Int × Int × TWorks)) (c : St → Option (Ex × St)), den i_after_V i_after_A (loopAt i_after_b 0) (i_after_l3_mk z3_0 z3_1 h3_0_1 h3_0_2 x) (roundK i_after_l3_L.kp i_after_l3_L.kx c) = (i_after_l3 h3_0_1 h3_0_2 x).run (roundR (i_after_l3_mk z3_0 z3_1 h3_0_1 h3_0_2) (i_after_l3_out z3_0 z3_1 h3_0_1 h3_0_2) c) := fun _ _ _ _ _ _ => by
 kernel_rfl
theorem i_after_l3_ok : LoopOK i_after_V i_after_A (loopAt i_after_b 0) i_after_l3_L := loopOK_of fun s e s' h => by
 generalize hs : restrict i_after_l3_L.kp s = s1 at h
 have h : (i_after_l3_D s1).run some = some (e, s') := h
 obtain ⟨e1, h_0⟩ := asPtr_spec h
 obtain ⟨d3, e2, h_1⟩ := asImmZ_spec h_0
 obtain ⟨z6, d5, e4, h_2⟩ := asImm_spec h_1
 obtain ⟨d8, e7, h_3⟩ := asImmZ_spec h_2
 obtain ⟨d10, e9, h_4⟩ := asImmZ_spec h_3
 obtain ⟨m12, d13, e11, h_5⟩ := asRoot_spec h_4
 obtain ⟨m14, m15, rfl, h_6⟩ := asMPair_spec h_5
 obtain ⟨rfl, h_7⟩ := asM_spec h_6
 obtain ⟨z16, rfl, h_8⟩ := asMImm_spec h_7
 obtain ⟨y, hy, hz⟩ := mat_ret h_8
 refine ⟨_, _, i_after_l3_mk z6 z16 d5 d8, i_after_l3_out z6 z16 d5 d8, i_after_l3 d5 d8, (d3, d10, d13), y, ?_, hy, ?_, i_after_l3_step z6 z16 d5 d8⟩
 ·subst hs; exact restrict_eq (T := [(6, (.ptr (13, 0) [])), (7, (.imm true (.int .i64) d3)), (12, (.imm z6 (.sl kDeed) d5)), (13, (.imm true (.int .i64) d8)), (14, (.imm true (.int .i64) d10))]) (U := [((13, 0), some ⟨true, kWorks, (.pair .own (.imm z16)), d13⟩)]) rfl rfl ⟨e1, e2, e4, e7, e9, trivial⟩ ⟨e11, trivial⟩
 ·exact Option.some.inj hz
noncomputable def i_after_I : FnI := ⟨i_after_b, Try.f34.results.toList, Try.f34.resultTypes.toList, i_after_A⟩
noncomputable def i_after_out (zp0 : Bool) (_zp1 : Bool) (_p0 : TGather) (_p1 : (List TDeed)) : (Int × TWorks) → CallOut := fun r => ⟨(.tcons (.ptr (1, 0) []) (.tcons (.imm true (.int .i64) r.1) .tnil)), [], [⟨true, kWorks, (.pair .own (.imm zp0)), r.2⟩]⟩
set_option maxRecDepth 100000 in
theorem i_after_eq : ∀ (zp0 : Bool) (zp1 : Bool) (p0 : TGather) (p1 : (List TDeed)), denFn i_after_V i_after_I ⟨[(.imm zp0 kGather p0), (.imm zp1 (.sl kDeed) p1)], []⟩ = (i_after p0 p1).run fun r => some (i_after_out zp0 zp1 p0 p1 r) := fun _ _ _ _ => by kernel_rfl
noncomputable def i_after_G (av : List AV) (rs : List Root) : Tre CallOut :=
 asCons av fun a0_ av0 =>
 asCons av0 fun a1_ av1 =>
 asEnd av1 <|
 asEnd rs <|
 asImm kGather a0_ fun z2 d1 =>
 asImm (.sl kDeed) a1_ fun z4 d3 =>
 .mat (afterR d1 d3) fun r => .ret (i_after_out z2 z4 d1 d3 r)
noncomputable def i_after_c : Ctr := ⟨[], fun ci => i_after_G ci.args ci.roots, false⟩
theorem i_after_env : EnvOK Try.prog i_after_V := (envOK_cons i_newWorks_ok ent75 (envOK_cons i_works_do_ba03_ok ent76 envOK_nil))
set_option maxRecDepth 100000 in
theorem i_after_ok : Contract Try.prog 34 i_after_c := by
 have hl : LoopsOK i_after_V i_after_A i_after_b := (loopsOK_all (n := 1) (by kernel_rfl) fun k hk => by
   match k, hk with
   | 0, _ => exact loopOK_at (id := 3) (L := i_after_l3_L) (by kernel_rfl) (by kernel_rfl) i_after_l3_ok)
 refine (contract_of (F := i_after_I) tau_tys i_after_env Try.func34 (by kernel_rfl) (by kernel_rfl) (by kernel_rfl) hl []).weaken ?_
 rintro ⟨av, rs⟩ co h
 have h : (i_after_G av rs).run some = some co := h
 obtain ⟨a0_, av0, rfl, h_0⟩ := asCons_spec h
 obtain ⟨a1_, av1, rfl, h_1⟩ := asCons_spec h_0
 obtain ⟨rfl, h_2⟩ := asEnd_spec h_1
 obtain ⟨rfl, h_3⟩ := asEnd_spec h_2
 obtain ⟨z2, d1, rfl, h_4⟩ := asImm_spec h_3
 obtain ⟨z4, d3, rfl, h_5⟩ := asImm_spec h_4
 exact fin_opt (i_after_eq z2 z4 d1 d3) (i_after_spec d1 d3) h_5
end Go.Proofs.Ytohnlghdhbignaa

namespace Go.Proofs.Ytohnlghdhbignaa
open Go Go.Abs Go.Proofs
noncomputable def s_PlantAfter_l7 (h7_0_4 : (List Int)) : (Int × Int) → Tre ((Int × Int) ⊕ Int) := fun s7 =>
 .cond (decide (s7.2 < (h7_0_4.length : Int)))
  (.ite (0 ≤ s7.2 ∧ s7.2 < (h7_0_4.length : Int)) <|
  .mat (h7_0_4[s7.2.toNat]?) fun x3 =>
  .cond (decide (x3 = 0))
   (.ret (.inl (iwrap .i64 (s7.1 + 1), iwrap .i64 (s7.2 + 1))))
   (.ret (.inl (s7.1, iwrap .i64 (s7.2 + 1)))))
  (.ret (.inr s7.1))
noncomputable def s_PlantAfter (p0 : TGather) (p1 : (List TDeed)) : Tre ((Int × Int × (List TStation) × (List (Int × (Int × Unit)))) ⊕ (TPlant × Int × Int)) :=
 .mat (askedR p1 p0) fun r1 =>
 .cond (!decide (r1 = 0))
  (.ret (.inl (0, r1, [], [])))
  (.mat (playR p1 p0) fun r2 =>
  .mat (loopF (s_PlantAfter_l7 r2.2) (0, 0)) fun l4 =>
  .ret (.inr (r2.1.1, l4, 0)))
noncomputable def s_PlantAfter_F (p0 : TGather) (p1 : (List TDeed)) : Option ((Int × Int × (List TStation) × (List (Int × (Int × Unit)))) ⊕ (TPlant × Int × Int)) := (s_PlantAfter p0 p1).run some
noncomputable def plantS (g : G8) (ds : List D8) : Option ((Int × Int × List (List Int × List Int × Unit) × List (Int × Int × Unit)) ⊕ (P8 × Int × Int)) :=
 askO (decide (g.2.2.1.length ≤ 1048576) && decide (ds.length ≤ 1048576)) (cond (decide (askedM ds g = 0)) (.inr (afterM g ds, (zerosN (runM g ds (beginM g)).2 : Int), 0)) (.inl (0, askedM ds g, [], [])))
theorem runM_length (g : G8) : ∀ (l : List D8) (p : P8), (runM g l p).2.length = l.length := by
 intro l
 induction l with
 | nil => intro p; rfl
 | cons d l ih => intro p; simp [runM, ih]
theorem count_loop (cs : List Int) (hl : cs.length ≤ 1048576) : loopF (s_PlantAfter_l7 cs) (0, 0) = some (zerosN cs : Int) := by
 have := fold_loop (xs := cs) (step := s_PlantAfter_l7 cs) (fun i (acc : Nat) => ((acc : Int), (i : Int))) (fun (_ : Nat) acc x => .inl (acc + cond (decide (x = 0)) 1 0)) (fun acc => (acc : Int)) (fun i acc => acc ≤ i) (by
  intro i acc x hx hI
  have hi : i < cs.length := (List.getElem?_eq_some_iff.1 hx).1
  have hI : acc ≤ i := hI
  refine ⟨?_, fun a ha => by cases ha; cases decide (x = 0) <;> simp <;> omega⟩
  unfold s_PlantAfter_l7
  rw [run_inb hx, Tre.run_cond]
  cases decide (x = 0)
  ·simp only [cond_false, Tre.run_ret, iwrap_succ (show i < 4611686018427387904 by omega), Nat.add_zero]
  ·simp only [cond_true, Tre.run_ret, iwrap_succ (show i < 4611686018427387904 by omega), iwrap_succ (show acc < 4611686018427387904 by omega)])
  (by
  intro acc _
  unfold s_PlantAfter_l7
  exact run_out) cs 0 0 rfl (Nat.zero_le _) (Nat.le_refl 0)
 have hf : ∀ (l : List Int) (i n : Nat), foldE (β := Int) (fun (_ : Nat) (acc : Nat) x => .inl (acc + cond (decide (x = 0)) 1 0)) (fun acc => (acc : Int)) i n l = ((n + zerosN l : Nat) : Int) := by
  intro l
  induction l with
  | nil => intro i n; simp [foldE, zerosN]
  | cons x l ih =>
   intro i n
   simp only [foldE]
   rw [ih]
   unfold zerosN
   rw [List.countP_cons]
   cases decide (x = 0) <;> simp <;> omega
 rw [hf, Nat.zero_add] at this
 exact this
theorem s_PlantAfter_spec (p0 : G8) (p1 : List D8) (y : (Int × Int × List (List Int × List Int × Unit) × List (Int × Int × Unit)) ⊕ (P8 × Int × Int)) (h : plantS p0 p1 = some y) : s_PlantAfter_F p0 p1 = some y := by
 obtain ⟨hok, rfl⟩ := askO_some h
 unfold s_PlantAfter_F s_PlantAfter
 rw [run_some_mat (show askedR p1 p0 = some _ from askO_true (by rw [Bool.and_comm] at hok ⊢; exact hok)), Tre.run_cond]
 by_cases h0 : askedM p1 p0 = 0
 ·obtain ⟨hg, hd, hl⟩ := askedM_zero h0
  rw [decide_eq_true h0, Bool.not_true, cond_false, cond_true, run_some_mat (show playR p1 p0 = some ((afterM p0 p1, ()), _) from askO_true (by rw [Bool.and_eq_true, Bool.and_eq_true, decide_eq_true_eq]; exact ⟨⟨hg, hd⟩, hl⟩))]
  dsimp only
  rw [run_some_mat (count_loop _ (by rw [runM_length]; omega))]
  rfl
 ·rw [decide_eq_false h0]; rfl
noncomputable def s_PlantAfter_V : Env := ⟨tau, [(38, s_l08Asked_3c39_c), (39, s_l08Play_3c39_c)], [(11, [((22, 0), [.snd, .fst, .fst], false), ((22, 0), [.snd, .fst, .snd, .fst], false)])]⟩
noncomputable def s_PlantAfter_b : Code := (Try.f13.body).getD .skip
noncomputable def s_PlantAfter_l7_mk (z7_0 : Bool) (h7_0_2 : TPlant) (h7_0_3 : (TPlant × Unit)) (h7_0_4 : (List Int)) (h7_0_5 : TGather) : (Int × Int) → St := fun x => stOf [(4, (.ptr (6, 0) [])), (8, (.ptr (22, 0) [])), (9, (.ref (11, 0) [])), (10, (.imm true (.int .i64) x.1)), (11, (.imm true (.int .i64) x.2))] [((6, 0), some ⟨true, kPlant, .own, h7_0_2⟩), ((22, 0), some ⟨true, kL08Run, .own, ((some (4, 0) : Option RName), h7_0_3)⟩), ((11, 0), some ⟨false, (.sl (.int .i64)), .own, h7_0_4⟩), ((4, 0), some ⟨true, kGather, (.imm z7_0), h7_0_5⟩)]
noncomputable def s_PlantAfter_l7_out (z7_0 : Bool) (h7_0_2 : TPlant) (h7_0_3 : (TPlant × Unit)) (_h7_0_4 : (List Int)) (h7_0_5 : TGather) : Int → Ex × St := fun x => (.exit 0, stOf [(4, (.ptr (6, 0) [])), (8, (.ptr (22, 0) [])), (10, (.imm true (.int .i64) x))] [((6, 0), some ⟨true, kPlant, .own, h7_0_2⟩), ((22, 0), some ⟨true, kL08Run, .own, ((some (4, 0) : Option RName), h7_0_3)⟩), ((4, 0), some ⟨true, kGather, (.imm z7_0), h7_0_5⟩)])
noncomputable def s_PlantAfter_l7_D (s : St) : Tre (Ex × St) :=
 asPtr (6, 0) [] (s.tmps 4) <|
 asPtr (22, 0) [] (s.tmps 8) <|
 asRef (11, 0) [] (s.tmps 9) <|
 asImmZ true (.int .i64) (s.tmps 10) fun d5 =>
 asImmZ true (.int .i64) (s.tmps 11) fun d7 =>
 asRoot true kPlant (s.roots (6, 0)) fun m9 d10 =>
 asM .own m9 <|
 asRoot true kL08Run (s.roots (22, 0)) fun m12 d13 =>
 asM .own m12 <|
 asProd d13 fun d14 d15 =>
 asD d14 (some (4, 0) : Option RName) <|
 asRoot false (.sl (.int .i64)) (s.roots (11, 0)) fun m17 d18 =>
 asM .own m17 <|
 asRoot true kGather (s.roots (4, 0)) fun m20 d21 =>
 asMImm m20 fun z22 =>
 .mat (loopF (s_PlantAfter_l7 d18) (d5, d7)) fun x => .ret (s_PlantAfter_l7_out z22 d10 d15 d18 d21 x)
noncomputable def s_PlantAfter_l7_L : LoopI := ⟨([4, 8, 9, 10, 11], [(6, 0), (22, 0), (11, 0), (4, 0)]), ([4, 8, 10], [(6, 0), (22, 0), (4, 0)]), s_PlantAfter_l7_D⟩
noncomputable def s_PlantAfter_A : List (Nat × LoopI) := [(7, s_PlantAfter_l7_L)]
set_option maxRecDepth 100000 in
theorem s_PlantAfter_l7_step : ∀ (z7_0 : Bool) (h7_0_2 : TPlant) (h7_0_3 : (TPlant × Unit)) (h7_0_4 : (List Int)) (h7_0_5 : TGather) (x : (Int × Int)) (c : St → Option (Ex × St)), den s_PlantAfter_V s_PlantAfter_A (loopAt s_PlantAfter_b 0) (s_PlantAfter_l7_mk z7_0 h7_0_2 h7_0_3 h7_0_4 h7_0_5 x) (roundK s_PlantAfter_l7_L.kp s_PlantAfter_l7_L.kx c) = (s_PlantAfter_l7 h7_0_4 x).run (roundR (s_PlantAfter_l7_mk z7_0 h7_0_2 h7_0_3 h7_0_4 h7_0_5) (s_PlantAfter_l7_out z7_0 h7_0_2 h7_0_3 h7_0_4 h7_0_5) c) := fun _ _ _ _ _ _ _ => by
 kernel_rfl
theorem s_PlantAfter_l7_ok : LoopOK s_PlantAfter_V s_PlantAfter_A (loopAt s_PlantAfter_b 0) s_PlantAfter_l7_L := loopOK_of fun s e s' h => by
 generalize hs : restrict s_PlantAfter_l7_L.kp s = s1 at h
 have h : (s_PlantAfter_l7_D s1).run some = some (e, s') := h
 obtain ⟨e1, h_0⟩ := asPtr_spec h
 obtain ⟨e2, h_1⟩ := asPtr_spec h_0
 obtain ⟨e3, h_2⟩ := asRef_spec h_1
 obtain ⟨d5, e4, h_3⟩ := asImmZ_spec h_2
 obtain ⟨d7, e6, h_4⟩ := asImmZ_spec h_3
 obtain ⟨m9, d10, e8, h_5⟩ := asRoot_spec h_4
 obtain ⟨rfl, h_6⟩ := asM_spec h_5
 obtain ⟨m12, d13, e11, h_7⟩ := asRoot_spec h_6
 obtain ⟨rfl, h_8⟩ := asM_spec h_7
 obtain ⟨d14, d15, rfl, h_9⟩ := asProd_spec h_8
 obtain ⟨rfl, h_10⟩ := asD_spec h_9
 obtain ⟨m17, d18, e16, h_11⟩ := asRoot_spec h_10
 obtain ⟨rfl, h_12⟩ := asM_spec h_11
 obtain ⟨m20, d21, e19, h_13⟩ := asRoot_spec h_12
 obtain ⟨z22, rfl, h_14⟩ := asMImm_spec h_13
 obtain ⟨y, hy, hz⟩ := mat_ret h_14
 refine ⟨_, _, s_PlantAfter_l7_mk z22 d10 d15 d18 d21, s_PlantAfter_l7_out z22 d10 d15 d18 d21, s_PlantAfter_l7 d18, (d5, d7), y, ?_, hy, ?_, s_PlantAfter_l7_step z22 d10 d15 d18 d21⟩
 ·subst hs; exact restrict_eq (T := [(4, (.ptr (6, 0) [])), (8, (.ptr (22, 0) [])), (9, (.ref (11, 0) [])), (10, (.imm true (.int .i64) d5)), (11, (.imm true (.int .i64) d7))]) (U := [((6, 0), some ⟨true, kPlant, .own, d10⟩), ((22, 0), some ⟨true, kL08Run, .own, ((some (4, 0) : Option RName), d15)⟩), ((11, 0), some ⟨false, (.sl (.int .i64)), .own, d18⟩), ((4, 0), some ⟨true, kGather, (.imm z22), d21⟩)]) rfl rfl ⟨e1, e2, e3, e4, e6, trivial⟩ ⟨e8, e11, e16, e19, trivial⟩
 ·exact Option.some.inj hz
noncomputable def s_PlantAfter_I : FnI := ⟨s_PlantAfter_b, Try.f13.results.toList, Try.f13.resultTypes.toList, s_PlantAfter_A⟩
noncomputable def s_PlantAfter_out (_zp0 : Bool) (_zp1 : Bool) (_p0 : TGather) (_p1 : (List TDeed)) : ((Int × Int × (List TStation) × (List (Int × (Int × Unit)))) ⊕ (TPlant × Int × Int)) → CallOut
 | .inl r => ⟨(.tcons (.pair (.ref (1, 0) []) (.pair (.ref (1, 1) []) (.imm true .unit ()))) (.tcons (.imm true (.int .i64) r.1) (.tcons (.imm true (.int .i64) r.2.1) .tnil))), [], [⟨false, (.sl kStation), .own, r.2.2.1⟩, ⟨false, (.sl kField), .own, r.2.2.2⟩]⟩
 | .inr r => ⟨(.tcons (.imm true kPlant r.1) (.tcons (.imm true (.int .i64) r.2.1) (.tcons (.imm true (.int .i64) r.2.2) .tnil))), [], []⟩
set_option maxRecDepth 100000 in
theorem s_PlantAfter_eq : ∀ (zp0 : Bool) (zp1 : Bool) (p0 : TGather) (p1 : (List TDeed)), denFn s_PlantAfter_V s_PlantAfter_I ⟨[(.imm zp0 kGather p0), (.imm zp1 (.sl kDeed) p1)], []⟩ = (s_PlantAfter p0 p1).run fun r => some (s_PlantAfter_out zp0 zp1 p0 p1 r) := fun _ _ _ _ => by kernel_rfl
noncomputable def s_PlantAfter_G (av : List AV) (rs : List Root) : Tre CallOut :=
 asCons av fun a0_ av0 =>
 asCons av0 fun a1_ av1 =>
 asEnd av1 <|
 asEnd rs <|
 asImm kGather a0_ fun z2 d1 =>
 asImm (.sl kDeed) a1_ fun z4 d3 =>
 .mat (plantS d1 d3) fun r => .alt r (fun a0 => .ret (s_PlantAfter_out z2 z4 d1 d3 (.inl a0))) (fun b0 => .ret (s_PlantAfter_out z2 z4 d1 d3 (.inr b0)))
noncomputable def s_PlantAfter_c : Ctr := ⟨[], fun ci => s_PlantAfter_G ci.args ci.roots, false⟩
theorem s_PlantAfter_env : EnvOK Try.prog s_PlantAfter_V := (envOK_cons s_l08Asked_3c39_ok ent38 (envOK_cons s_l08Play_3c39_ok ent39 envOK_nil))
set_option maxRecDepth 100000 in
theorem s_PlantAfter_ok : Contract Try.prog 13 s_PlantAfter_c := by
 have hl : LoopsOK s_PlantAfter_V s_PlantAfter_A s_PlantAfter_b := (loopsOK_all (n := 1) (by kernel_rfl) fun k hk => by
   match k, hk with
   | 0, _ => exact loopOK_at (id := 7) (L := s_PlantAfter_l7_L) (by kernel_rfl) (by kernel_rfl) s_PlantAfter_l7_ok)
 refine (contract_of (F := s_PlantAfter_I) tau_tys s_PlantAfter_env Try.func13 (by kernel_rfl) (by kernel_rfl) (by kernel_rfl) hl []).weaken ?_
 rintro ⟨av, rs⟩ co h
 have h : (s_PlantAfter_G av rs).run some = some co := h
 obtain ⟨a0_, av0, rfl, h_0⟩ := asCons_spec h
 obtain ⟨a1_, av1, rfl, h_1⟩ := asCons_spec h_0
 obtain ⟨rfl, h_2⟩ := asEnd_spec h_1
 obtain ⟨rfl, h_3⟩ := asEnd_spec h_2
 obtain ⟨z2, d1, rfl, h_4⟩ := asImm_spec h_3
 obtain ⟨z4, d3, rfl, h_5⟩ := asImm_spec h_4
 exact fin_opts (s_PlantAfter_eq z2 z4 d1 d3) (s_PlantAfter_spec d1 d3) h_5 (by rintro (x | x) <;> rfl)
end Go.Proofs.Ytohnlghdhbignaa

namespace Go.Proofs.Ytohnlghdhbignaa
open Go Go.Abs Go.Proofs
noncomputable def slices_Clone_Parcel_b930 : Tre (List (Int × (Int × Unit))) :=
 .ret []
noncomputable def slices_Clone_Parcel_b930_F : Option (List (Int × (Int × Unit))) := (slices_Clone_Parcel_b930).run some
theorem slices_Clone_Parcel_b930_spec : slices_Clone_Parcel_b930_F = some [] := rfl
noncomputable def slices_Clone_Parcel_b930_V : Env := ⟨tau, [], []⟩
noncomputable def slices_Clone_Parcel_b930_b : Code := (Try.f35.body).getD .skip
noncomputable def slices_Clone_Parcel_b930_I : FnI := ⟨slices_Clone_Parcel_b930_b, Try.f35.results.toList, Try.f35.resultTypes.toList, []⟩
noncomputable def slices_Clone_Parcel_b930_out : (List (Int × (Int × Unit))) → CallOut := fun r => ⟨(.ref (1, 0) []), [], [⟨false, (.sl kField), .own, r⟩]⟩
set_option maxRecDepth 100000 in
theorem slices_Clone_Parcel_b930_eq : denFn slices_Clone_Parcel_b930_V slices_Clone_Parcel_b930_I ⟨[.nil], []⟩ = (slices_Clone_Parcel_b930).run fun r => some (slices_Clone_Parcel_b930_out r) := by kernel_rfl
noncomputable def slices_Clone_Parcel_b930_G (av : List AV) (rs : List Root) : Tre CallOut :=
 asCons av fun a0_ av0 =>
 asEnd av0 <|
 asEnd rs <|
 asNil a0_ <|
 .ret (slices_Clone_Parcel_b930_out [])
noncomputable def slices_Clone_Parcel_b930_c : Ctr := ⟨[], fun ci => slices_Clone_Parcel_b930_G ci.args ci.roots, false⟩
theorem slices_Clone_Parcel_b930_env : EnvOK Try.prog slices_Clone_Parcel_b930_V := envOK_nil
set_option maxRecDepth 100000 in
theorem slices_Clone_Parcel_b930_ok : Contract Try.prog 35 slices_Clone_Parcel_b930_c := by
 have hl : LoopsOK slices_Clone_Parcel_b930_V [] slices_Clone_Parcel_b930_b := loopsOK_nil (by kernel_rfl)
 refine (contract_of (F := slices_Clone_Parcel_b930_I) tau_tys slices_Clone_Parcel_b930_env Try.func35 (by kernel_rfl) (by kernel_rfl) (by kernel_rfl) hl []).weaken ?_
 rintro ⟨av, rs⟩ co h
 have h : (slices_Clone_Parcel_b930_G av rs).run some = some co := h
 obtain ⟨a0_, av0, rfl, h_0⟩ := asCons_spec h
 obtain ⟨rfl, h_1⟩ := asEnd_spec h_0
 obtain ⟨rfl, h_2⟩ := asEnd_spec h_1
 obtain ⟨rfl, h_3⟩ := asNil_spec h_2
 exact fin_ret (slices_Clone_Parcel_b930_eq) (slices_Clone_Parcel_b930_spec) h_3
end Go.Proofs.Ytohnlghdhbignaa

namespace Go.Proofs.Ytohnlghdhbignaa
open Go Go.Abs Go.Proofs
noncomputable def slices_Clone_Parcel_3ae6 (p0 : (List (Int × (Int × Unit)))) : Tre (List (Int × (Int × Unit))) :=
 .ite ((0 + p0.length) * 16 ≤ appendMax ∧ 1 ≤ 16) <|
 .ret ([] ++ p0)
noncomputable def slices_Clone_Parcel_3ae6_F (p0 : (List (Int × (Int × Unit)))) : Option (List (Int × (Int × Unit))) := (slices_Clone_Parcel_3ae6 p0).run some
theorem slices_Clone_Parcel_3ae6_spec (p0 : (List (Int × (Int × Unit)))) (y : (List (Int × (Int × Unit)))) (h : cloneR p0 = some y) : slices_Clone_Parcel_3ae6_F p0 = some y := by
 obtain ⟨hl, rfl⟩ := lim_some h
 have hb : (0 + p0.length) * 16 ≤ appendMax ∧ 1 ≤ 16 := by unfold appendMax; omega
 unfold slices_Clone_Parcel_3ae6_F slices_Clone_Parcel_3ae6
 rw [Tre.run_ite, if_pos hb]
 rfl
noncomputable def slices_Clone_Parcel_3ae6_V : Env := ⟨tau, [], []⟩
noncomputable def slices_Clone_Parcel_3ae6_b : Code := (Try.f35.body).getD .skip
noncomputable def slices_Clone_Parcel_3ae6_I : FnI := ⟨slices_Clone_Parcel_3ae6_b, Try.f35.results.toList, Try.f35.resultTypes.toList, []⟩
noncomputable def slices_Clone_Parcel_3ae6_out (_zp0 : Bool) (_p0 : (List (Int × (Int × Unit)))) : (List (Int × (Int × Unit))) → CallOut := fun r => ⟨(.ref (1, 0) []), [], [⟨false, (.sl kField), .own, r⟩]⟩
set_option maxRecDepth 100000 in
theorem slices_Clone_Parcel_3ae6_eq : ∀ (zp0 : Bool) (p0 : (List (Int × (Int × Unit)))), denFn slices_Clone_Parcel_3ae6_V slices_Clone_Parcel_3ae6_I ⟨[(.nn zp0 kField p0)], []⟩ = (slices_Clone_Parcel_3ae6 p0).run fun r => some (slices_Clone_Parcel_3ae6_out zp0 p0 r) := fun _ _ => by kernel_rfl
noncomputable def slices_Clone_Parcel_3ae6_G (av : List AV) (rs : List Root) : Tre CallOut :=
 asCons av fun a0_ av0 =>
 asEnd av0 <|
 asEnd rs <|
 asNn kField a0_ fun z1 d2 =>
 .mat (cloneR d2) fun r => .ret (slices_Clone_Parcel_3ae6_out z1 d2 r)
noncomputable def slices_Clone_Parcel_3ae6_c : Ctr := ⟨[], fun ci => slices_Clone_Parcel_3ae6_G ci.args ci.roots, false⟩
theorem slices_Clone_Parcel_3ae6_env : EnvOK Try.prog slices_Clone_Parcel_3ae6_V := envOK_nil
set_option maxRecDepth 100000 in
theorem slices_Clone_Parcel_3ae6_ok : Contract Try.prog 35 slices_Clone_Parcel_3ae6_c := by
 have hl : LoopsOK slices_Clone_Parcel_3ae6_V [] slices_Clone_Parcel_3ae6_b := loopsOK_nil (by kernel_rfl)
 refine (contract_of (F := slices_Clone_Parcel_3ae6_I) tau_tys slices_Clone_Parcel_3ae6_env Try.func35 (by kernel_rfl) (by kernel_rfl) (by kernel_rfl) hl []).weaken ?_
 rintro ⟨av, rs⟩ co h
 have h : (slices_Clone_Parcel_3ae6_G av rs).run some = some co := h
 obtain ⟨a0_, av0, rfl, h_0⟩ := asCons_spec h
 obtain ⟨rfl, h_1⟩ := asEnd_spec h_0
 obtain ⟨rfl, h_2⟩ := asEnd_spec h_1
 obtain ⟨z1, d2, rfl, h_3⟩ := asNn_spec h_2
 exact fin_opt (slices_Clone_Parcel_3ae6_eq z1 d2) (slices_Clone_Parcel_3ae6_spec d2) h_3
end Go.Proofs.Ytohnlghdhbignaa

namespace Go.Proofs.Ytohnlghdhbignaa
open Go Go.Abs Go.Proofs
theorem slices_Clone_Parcel_nil (y : (List (Int × (Int × Unit)))) (h : cloneR ([] : (List (Int × (Int × Unit)))) = some y) : y = [] := (lim_some h).2.symm
noncomputable def slices_Clone_Parcel_G (av : List AV) (rs : List Root) : Tre CallOut :=
 asCons av fun a0_ av0 =>
 asEnd av0 <|
 asEnd rs <|
 asImm (.sl kField) a0_ fun z2 d1 =>
 .mat (cloneR d1) fun r => .ret ⟨(.ref (1, 0) []), [], [⟨false, (.sl kField), .own, r⟩]⟩
noncomputable def slices_Clone_Parcel_c : Ctr := ⟨[], fun ci => slices_Clone_Parcel_G ci.args ci.roots, false⟩
theorem slices_Clone_Parcel_ok : Contract Try.prog 35 slices_Clone_Parcel_c := by
 refine contract_nil (e := kField) slices_Clone_Parcel_b930_ok slices_Clone_Parcel_3ae6_ok ?_
 rintro ⟨av, rs⟩ co h
 have h : (slices_Clone_Parcel_G av rs).run some = some co := h
 obtain ⟨a0_, av0, rfl, h_0⟩ := asCons_spec h
 obtain ⟨rfl, h_1⟩ := asEnd_spec h_0
 obtain ⟨rfl, h_2⟩ := asEnd_spec h_1
 obtain ⟨z2, d1, rfl, h_3⟩ := asImm_spec h_2
 refine ⟨z2, d1, rfl, ?_, ?_⟩
 ·exact h_3
 ·rintro rfl
  obtain ⟨y, h1, h2⟩ := mat_ret h_3
  have hy : y = [] := by
   have := slices_Clone_Parcel_nil y h1
   exact this
  subst hy
  rw [← h2]; rfl
end Go.Proofs.Ytohnlghdhbignaa

namespace Go.Proofs.Ytohnlghdhbignaa
open Go Go.Abs Go.Proofs
noncomputable def i_PlantAfter_l7 (h7_0_1 : Int) (h7_0_5 : TWorks) : (Int × TPlant) → Tre ((Int × TPlant) ⊕ TPlant) := fun s7 =>
 .cond (decide (s7.1 < h7_0_1))
  (.ite (0 ≤ s7.1 ∧ s7.1 < (h7_0_5.1.1.length : Int)) <|
  .mat (h7_0_5.1.1[s7.1.toNat]?) fun x4 =>
  .mat (cloneR x4.1) fun r5 =>
  .mat (cloneR x4.2.1) fun r6 =>
  .ite ((s7.2.1.length + 1) * 48 ≤ appendMax ∧ 1 ≤ 48) <|
  let v7 := s7.2.1 ++ ([(r5, (r6, ()))])
  .ret (.inl (iwrap .i64 (s7.1 + 1), (v7, s7.2.2))))
  (.ret (.inr s7.2))
noncomputable def i_PlantAfter (p0 : TGather) (p1 : (List TDeed)) : Tre (Int × Int × (List TStation) × (List (Int × (Int × Unit)))) :=
 .mat (codeR p0 p1 0) fun r1 =>
 .cond (!decide (r1 = 0))
  (.ret (0, r1, [], []))
  (.mat (afterR p0 p1) fun r2 =>
  .mat (cloneR r2.2.1.2.1) fun r3 =>
  .mat (loopF (i_PlantAfter_l7 (r2.2.1.1.length : Int) r2.2) (0, ([], (r3, ())))) fun l8 =>
  .ret (r2.1, 0, l8.1, l8.2.1))
noncomputable def i_PlantAfter_F (p0 : TGather) (p1 : (List TDeed)) : Option (Int × Int × (List TStation) × (List (Int × (Int × Unit)))) := (i_PlantAfter p0 p1).run some
noncomputable def plantM (g : G8) (ds : List D8) : Int × Int × List (List Int × List Int × Unit) × List (Int × Int × Unit) :=
 cond (decide (askedM ds g = 0)) ((zerosN (runM g ds (beginM g)).2 : Int), 0, (afterM g ds).1, (afterM g ds).2.1) (0, askedM ds g, [], [])
noncomputable def plantR (g : G8) (ds : List D8) : Option (Int × Int × List (List Int × List Int × Unit) × List (Int × Int × Unit)) := askO (decide (g.2.2.1.length ≤ 1048576) && decide (ds.length ≤ 1048576)) (plantM g ds)
theorem plant_copy {p : P8 × (G8 × Unit)} {k : Nat} {g : G8} (hp : okP k g p.1 = true) (hk : k ≤ 1048576) (hn : p.1.1.length ≤ 1000) (w : List (Int × Int × Unit) × Unit) : loopF (i_PlantAfter_l7 (p.1.1.length : Int) p) (0, ([], w)) = some (p.1.1, w) := by
 have := fold_loop (xs := p.1.1) (step := i_PlantAfter_l7 (p.1.1.length : Int) p) (fun i acc => ((i : Int), acc)) (fun (_ : Nat) acc x => .inl (acc.1 ++ [x], acc.2)) id (fun i acc => acc.1.length = i) (by
  rintro i ⟨l, w⟩ ⟨x1, x2, ⟨⟩⟩ hx hI
  have hi : i < p.1.1.length := (List.getElem?_eq_some_iff.1 hx).1
  have hm := (okP_spec hp).2.1 _ (List.mem_of_getElem? hx)
  have h1 := (okS_spec.1 hm.1).1
  have h2 := (okS_spec.1 hm.2).1
  simp only at h1 h2 hI
  refine ⟨?_, fun a ha => by cases ha; simp [hI]⟩
  unfold i_PlantAfter_l7
  rw [run_inb hx, run_some_mat (show cloneR x1 = some x1 from lim_of (by omega)), run_some_mat (show cloneR x2 = some x2 from lim_of (by omega)), Tre.run_ite, if_pos (by simp only; unfold appendMax; omega), Tre.run_ret, iwrap_succ (by omega)])
  (by
  intro acc _
  unfold i_PlantAfter_l7
  exact run_out) p.1.1 0 ([], w) rfl (Nat.zero_le _) rfl
 have hf : ∀ (l : List (List Int × List Int × Unit)) (i : Nat) (acc : List (List Int × List Int × Unit) × (List (Int × Int × Unit) × Unit)), foldE (β := List (List Int × List Int × Unit) × (List (Int × Int × Unit) × Unit)) (fun (_ : Nat) acc x => .inl (acc.1 ++ [x], acc.2)) id i acc l = (acc.1 ++ l, acc.2) := by
  intro l
  induction l with
  | nil => intro i acc; simp [foldE]
  | cons x l ih => intro i acc; simp only [foldE]; rw [ih]; simp
 rw [hf] at this
 exact this
theorem i_PlantAfter_spec (p0 : G8) (p1 : List D8) (y : Int × Int × List (List Int × List Int × Unit) × List (Int × Int × Unit)) (h : plantR p0 p1 = some y) : i_PlantAfter_F p0 p1 = some y := by
 obtain ⟨hok, rfl⟩ := askO_some h
 unfold i_PlantAfter_F i_PlantAfter plantM
 rw [run_some_mat (show codeR p0 p1 0 = some _ from askO_true hok), Tre.run_cond, codeM_zero]
 by_cases h0 : askedM p1 p0 = 0
 ·obtain ⟨hg, hd, hl⟩ := askedM_zero h0
  have hb := isG_spec hg
  have hP := afterM_ok hg hd hl
  obtain ⟨q1, q2, q3, q4⟩ := okP_spec hP
  have hst : statG p0 = 1 + p0.2.2.2.1 + p0.2.2.2.2.1 := rfl
  rw [decide_eq_true h0, Bool.not_true, cond_false, cond_true, run_some_mat (show afterR p0 p1 = some _ from askO_true (by rw [Bool.and_eq_true, Bool.and_eq_true, decide_eq_true_eq]; exact ⟨⟨hg, hd⟩, hl⟩))]
  dsimp only
  rw [run_some_mat (show cloneR (afterM p0 p1).2.1 = some _ from lim_of (by omega)), run_some_mat (plant_copy (p := (afterM p0 p1, (p0, ()))) hP (by omega) (by show (afterM p0 p1).1.length ≤ 1000; omega) _)]
  rfl
 ·rw [decide_eq_false h0]; rfl
noncomputable def i_PlantAfter_V : Env := ⟨tau, [(33, i_deedsCode_c), (34, i_after_c), (35, slices_Clone_Parcel_c), (36, slices_Clone_int64_c)], [(6, [((25, 0), [.fst, .fst], true)])]⟩
noncomputable def i_PlantAfter_b : Code := (Try.f11.body).getD .skip
noncomputable def i_PlantAfter_l7_mk (z7_0 : Bool) (h7_0_0 : Int) (h7_0_1 : Int) (h7_0_3 : TPlant) (h7_0_5 : TWorks) : (Int × TPlant) → St := fun x => stOf [(4, (.ptr (6, 0) [])), (9, (.imm true (.int .i64) h7_0_0)), (10, (.ptr (12, 0) [])), (37, (.ref (25, 0) [.fst, .fst])), (38, (.imm true (.int .i64) h7_0_1)), (39, (.imm true (.int .i64) x.1))] [((6, 0), some ⟨true, kPlant, .own, h7_0_3⟩), ((12, 0), some ⟨true, kPlant, .own, x.2⟩), ((25, 0), some ⟨true, kWorks, (.pair (.pair (.sl (.imm true)) .own) (.imm z7_0)), h7_0_5⟩)]
noncomputable def i_PlantAfter_l7_out (_z7_0 : Bool) (h7_0_0 : Int) (_h7_0_1 : Int) (h7_0_3 : TPlant) (_h7_0_5 : TWorks) : TPlant → Ex × St := fun x => (.exit 0, stOf [(4, (.ptr (6, 0) [])), (9, (.imm true (.int .i64) h7_0_0)), (10, (.ptr (12, 0) []))] [((6, 0), some ⟨true, kPlant, .own, h7_0_3⟩), ((12, 0), some ⟨true, kPlant, .own, x⟩)])
noncomputable def i_PlantAfter_l7_D (s : St) : Tre (Ex × St) :=
 asPtr (6, 0) [] (s.tmps 4) <|
 asImmZ true (.int .i64) (s.tmps 9) fun d3 =>
 asPtr (12, 0) [] (s.tmps 10) <|
 asRef (25, 0) [.fst, .fst] (s.tmps 37) <|
 asImmZ true (.int .i64) (s.tmps 38) fun d7 =>
 asImmZ true (.int .i64) (s.tmps 39) fun d9 =>
 asRoot true kPlant (s.roots (6, 0)) fun m11 d12 =>
 asM .own m11 <|
 asRoot true kPlant (s.roots (12, 0)) fun m14 d15 =>
 asM .own m14 <|
 asRoot true kWorks (s.roots (25, 0)) fun m17 d18 =>
 asMPair m17 fun m19 m20 =>
 asM (.pair (.sl (.imm true)) .own) m19 <|
 asMImm m20 fun z21 =>
 .mat (loopF (i_PlantAfter_l7 d7 d18) (d9, d15)) fun x => .ret (i_PlantAfter_l7_out z21 d3 d7 d12 d18 x)
noncomputable def i_PlantAfter_l7_L : LoopI := ⟨([4, 9, 10, 37, 38, 39], [(6, 0), (12, 0), (25, 0)]), ([4, 9, 10], [(6, 0), (12, 0)]), i_PlantAfter_l7_D⟩
noncomputable def i_PlantAfter_A : List (Nat × LoopI) := [(7, i_PlantAfter_l7_L)]
set_option maxRecDepth 100000 in
theorem i_PlantAfter_l7_step : ∀ (z7_0 : Bool) (h7_0_0 : Int) (h7_0_1 : Int) (h7_0_3 : TPlant) (h7_0_5 : TWorks) (x : (Int × TPlant)) (c : St → Option (Ex × St)), den i_PlantAfter_V i_PlantAfter_A (loopAt i_PlantAfter_b 0) (i_PlantAfter_l7_mk z7_0 h7_0_0 h7_0_1 h7_0_3 h7_0_5 x) (roundK i_PlantAfter_l7_L.kp i_PlantAfter_l7_L.kx c) = (i_PlantAfter_l7 h7_0_1 h7_0_5 x).run (roundR (i_PlantAfter_l7_mk z7_0 h7_0_0 h7_0_1 h7_0_3 h7_0_5) (i_PlantAfter_l7_out z7_0 h7_0_0 h7_0_1 h7_0_3 h7_0_5) c) := fun _ _ _ _ _ _ _ => by
 kernel_rfl
theorem i_PlantAfter_l7_ok : LoopOK i_PlantAfter_V i_PlantAfter_A (loopAt i_PlantAfter_b 0) i_PlantAfter_l7_L := loopOK_of fun s e s' h => by
 generalize hs : restrict i_PlantAfter_l7_L.kp s = s1 at h
 have h : (i_PlantAfter_l7_D s1).run some = some (e, s') := h
 obtain ⟨e1, h_0⟩ := asPtr_spec h
 obtain ⟨d3, e2, h_1⟩ := asImmZ_spec h_0
 obtain ⟨e4, h_2⟩ := asPtr_spec h_1
 obtain ⟨e5, h_3⟩ := asRef_spec h_2
 obtain ⟨d7, e6, h_4⟩ := asImmZ_spec h_3
 obtain ⟨d9, e8, h_5⟩ := asImmZ_spec h_4
 obtain ⟨m11, d12, e10, h_6⟩ := asRoot_spec h_5
 obtain ⟨rfl, h_7⟩ := asM_spec h_6
 obtain ⟨m14, d15, e13, h_8⟩ := asRoot_spec h_7
 obtain ⟨rfl, h_9⟩ := asM_spec h_8
 obtain ⟨m17, d18, e16, h_10⟩ := asRoot_spec h_9
 obtain ⟨m19, m20, rfl, h_11⟩ := asMPair_spec h_10
 obtain ⟨rfl, h_12⟩ := asM_spec h_11
 obtain ⟨z21, rfl, h_13⟩ := asMImm_spec h_12
 obtain ⟨y, hy, hz⟩ := mat_ret h_13
 refine ⟨_, _, i_PlantAfter_l7_mk z21 d3 d7 d12 d18, i_PlantAfter_l7_out z21 d3 d7 d12 d18, i_PlantAfter_l7 d7 d18, (d9, d15), y, ?_, hy, ?_, i_PlantAfter_l7_step z21 d3 d7 d12 d18⟩
 ·subst hs; exact restrict_eq (T := [(4, (.ptr (6, 0) [])), (9, (.imm true (.int .i64) d3)), (10, (.ptr (12, 0) [])), (37, (.ref (25, 0) [.fst, .fst])), (38, (.imm true (.int .i64) d7)), (39, (.imm true (.int .i64) d9))]) (U := [((6, 0), some ⟨true, kPlant, .own, d12⟩), ((12, 0), some ⟨true, kPlant, .own, d15⟩), ((25, 0), some ⟨true, kWorks, (.pair (.pair (.sl (.imm true)) .own) (.imm z21)), d18⟩)]) rfl rfl ⟨e1, e2, e4, e5, e6, e8, trivial⟩ ⟨e10, e13, e16, trivial⟩
 ·exact Option.some.inj hz
noncomputable def i_PlantAfter_I : FnI := ⟨i_PlantAfter_b, Try.f11.results.toList, Try.f11.resultTypes.toList, i_PlantAfter_A⟩
noncomputable def i_PlantAfter_out (_zp0 : Bool) (_zp1 : Bool) (_p0 : TGather) (_p1 : (List TDeed)) : (Int × Int × (List TStation) × (List (Int × (Int × Unit)))) → CallOut := fun r => ⟨(.tcons (.pair (.ref (1, 0) []) (.pair (.ref (1, 1) []) (.imm true .unit ()))) (.tcons (.imm true (.int .i64) r.1) (.tcons (.imm true (.int .i64) r.2.1) .tnil))), [], [⟨false, (.sl kStation), .own, r.2.2.1⟩, ⟨false, (.sl kField), .own, r.2.2.2⟩]⟩
set_option maxRecDepth 100000 in
theorem i_PlantAfter_eq : ∀ (zp0 : Bool) (zp1 : Bool) (p0 : TGather) (p1 : (List TDeed)), denFn i_PlantAfter_V i_PlantAfter_I ⟨[(.imm zp0 kGather p0), (.imm zp1 (.sl kDeed) p1)], []⟩ = (i_PlantAfter p0 p1).run fun r => some (i_PlantAfter_out zp0 zp1 p0 p1 r) := fun _ _ _ _ => by kernel_rfl
noncomputable def i_PlantAfter_G (av : List AV) (rs : List Root) : Tre CallOut :=
 asCons av fun a0_ av0 =>
 asCons av0 fun a1_ av1 =>
 asEnd av1 <|
 asEnd rs <|
 asImm kGather a0_ fun z2 d1 =>
 asImm (.sl kDeed) a1_ fun z4 d3 =>
 .mat (plantR d1 d3) fun r => .ret (i_PlantAfter_out z2 z4 d1 d3 r)
noncomputable def i_PlantAfter_c : Ctr := ⟨[], fun ci => i_PlantAfter_G ci.args ci.roots, false⟩
theorem i_PlantAfter_env : EnvOK Try.prog i_PlantAfter_V := (envOK_cons i_deedsCode_ok ent33 (envOK_cons i_after_ok ent34 (envOK_cons slices_Clone_Parcel_ok ent35 (envOK_cons slices_Clone_int64_ok ent36 envOK_nil))))
set_option maxRecDepth 100000 in
theorem i_PlantAfter_ok : Contract Try.prog 11 i_PlantAfter_c := by
 have hl : LoopsOK i_PlantAfter_V i_PlantAfter_A i_PlantAfter_b := (loopsOK_all (n := 1) (by kernel_rfl) fun k hk => by
   match k, hk with
   | 0, _ => exact loopOK_at (id := 7) (L := i_PlantAfter_l7_L) (by kernel_rfl) (by kernel_rfl) i_PlantAfter_l7_ok)
 refine (contract_of (F := i_PlantAfter_I) tau_tys i_PlantAfter_env Try.func11 (by kernel_rfl) (by kernel_rfl) (by kernel_rfl) hl []).weaken ?_
 rintro ⟨av, rs⟩ co h
 have h : (i_PlantAfter_G av rs).run some = some co := h
 obtain ⟨a0_, av0, rfl, h_0⟩ := asCons_spec h
 obtain ⟨a1_, av1, rfl, h_1⟩ := asCons_spec h_0
 obtain ⟨rfl, h_2⟩ := asEnd_spec h_1
 obtain ⟨rfl, h_3⟩ := asEnd_spec h_2
 obtain ⟨z2, d1, rfl, h_4⟩ := asImm_spec h_3
 obtain ⟨z4, d3, rfl, h_5⟩ := asImm_spec h_4
 exact fin_opt (i_PlantAfter_eq z2 z4 d1 d3) (i_PlantAfter_spec d1 d3) h_5
end Go.Proofs.Ytohnlghdhbignaa

namespace Go.Proofs.Ytohnlghdhbignaa
open Go Go.Abs Go.Proofs
noncomputable def l_eqInt64S_l4 (h4_0_0 : (List Int)) (h4_0_1 : (List Int)) : Int → Tre (Int ⊕ (Bool ⊕ Unit)) := fun s4 =>
 .cond (decide (s4 < (h4_0_0.length : Int)))
  (.ite (0 ≤ s4 ∧ s4 < (h4_0_0.length : Int)) <|
  .mat (h4_0_0[s4.toNat]?) fun x1 =>
  .ite (0 ≤ s4 ∧ s4 < (h4_0_1.length : Int)) <|
  .mat (h4_0_1[s4.toNat]?) fun x2 =>
  .cond (!decide (x1 = x2))
   (.ret (.inr (.inl false)))
   (.ret (.inl (iwrap .i64 (s4 + 1)))))
  (.ret (.inr (.inr ())))
noncomputable def l_eqInt64S (p0 : (List Int)) (p1 : (List Int)) : Tre Bool :=
 .cond (!decide ((p0.length : Int) = (p1.length : Int)))
  (.ret false)
  (.mat (loopF (l_eqInt64S_l4 p0 p1) 0) fun l3 =>
  .alt l3
   (fun a4 =>
    .ret a4)
   (fun _ =>
    .ret true))
noncomputable def l_eqInt64S_F (p0 : (List Int)) (p1 : (List Int)) : Option Bool := (l_eqInt64S p0 p1).run some
abbrev eqS (p0 p1 : List Int) : Option Bool := eqR p0.length p0 p1
theorem l_eqInt64S_spec (p0 p1 : List Int) (y : Bool) (h : eqR p0.length p0 p1 = some y) : l_eqInt64S_F p0 p1 = some y := by
 obtain ⟨hl, rfl, rfl⟩ := eqR_some h
 unfold l_eqInt64S_F l_eqInt64S
 rw [Tre.run_cond, show (!decide ((p0.length : Int) = (p0.length : Int))) = false from by simp, cond_false, Tre.run_mat, find_loop (xs := p0) (fun _ _ => none) (.inr ())]
 ·have : ∀ (l : List Int) (i : Nat), findE (β := Bool ⊕ Unit) (fun _ _ => none) (.inr ()) i l = .inr () := by
   intro l
   induction l with
   | nil => intro i; rfl
   | cons x l ih => intro i; exact ih _
  rw [this]
  rfl
 ·intro i x hx
  have hi : i < p0.length := (List.getElem?_eq_some_iff.1 hx).1
  unfold l_eqInt64S_l4
  rw [run_inb hx, run_at hx, Tre.run_cond]
  simp only [decide_true, Bool.not_true, cond_false, Tre.run_ret, iwrap_succ (show i < 4611686018427387904 by omega)]
 ·unfold l_eqInt64S_l4
  exact run_out
noncomputable def l_eqInt64S_V : Env := ⟨tau, [], []⟩
noncomputable def l_eqInt64S_b : Code := (Try.f56.body).getD .skip
noncomputable def l_eqInt64S_l4_mk (z4_0 : Bool) (z4_1 : Bool) (h4_0_0 : (List Int)) (h4_0_1 : (List Int)) : Int → St := fun x => stOf [(0, (.imm z4_0 (.sl (.int .i64)) h4_0_0)), (1, (.imm z4_1 (.sl (.int .i64)) h4_0_1)), (5, (.imm true (.int .i64) x))] []
noncomputable def l_eqInt64S_l4_out (_z4_0 : Bool) (_z4_1 : Bool) (_h4_0_0 : (List Int)) (_h4_0_1 : (List Int)) : (Bool ⊕ Unit) → Ex × St
 | .inl x => (.ret, stOf [(4, (.imm true .bool x))] [])
 | .inr x => (.exit 0, stOf [(4, .dead)] [])
noncomputable def l_eqInt64S_l4_D (s : St) : Tre (Ex × St) :=
 asImm (.sl (.int .i64)) (s.tmps 0) fun z3 d2 =>
 asImm (.sl (.int .i64)) (s.tmps 1) fun z6 d5 =>
 asImmZ true (.int .i64) (s.tmps 5) fun d8 =>
 .mat (loopF (l_eqInt64S_l4 d2 d5) d8) fun x => .alt x (fun a0 => .ret (l_eqInt64S_l4_out z3 z6 d2 d5 (.inl a0))) (fun b0 => .ret (l_eqInt64S_l4_out z3 z6 d2 d5 (.inr b0)))
noncomputable def l_eqInt64S_l4_L : LoopI := ⟨([0, 1, 5], []), ([4], []), l_eqInt64S_l4_D⟩
noncomputable def l_eqInt64S_A : List (Nat × LoopI) := [(4, l_eqInt64S_l4_L)]
set_option maxRecDepth 100000 in
theorem l_eqInt64S_l4_step : ∀ (z4_0 : Bool) (z4_1 : Bool) (h4_0_0 : (List Int)) (h4_0_1 : (List Int)) (x : Int) (c : St → Option (Ex × St)), den l_eqInt64S_V l_eqInt64S_A (loopAt l_eqInt64S_b 0) (l_eqInt64S_l4_mk z4_0 z4_1 h4_0_0 h4_0_1 x) (roundK l_eqInt64S_l4_L.kp l_eqInt64S_l4_L.kx c) = (l_eqInt64S_l4 h4_0_0 h4_0_1 x).run (roundR (l_eqInt64S_l4_mk z4_0 z4_1 h4_0_0 h4_0_1) (l_eqInt64S_l4_out z4_0 z4_1 h4_0_0 h4_0_1) c) := fun _ _ _ _ _ _ => by
 kernel_rfl
theorem l_eqInt64S_l4_ok : LoopOK l_eqInt64S_V l_eqInt64S_A (loopAt l_eqInt64S_b 0) l_eqInt64S_l4_L := loopOK_of fun s e s' h => by
 generalize hs : restrict l_eqInt64S_l4_L.kp s = s1 at h
 have h : (l_eqInt64S_l4_D s1).run some = some (e, s') := h
 obtain ⟨z3, d2, e1, h_0⟩ := asImm_spec h
 obtain ⟨z6, d5, e4, h_1⟩ := asImm_spec h_0
 obtain ⟨d8, e7, h_2⟩ := asImmZ_spec h_1
 obtain ⟨y, hy, hz⟩ := mat_some h_2
 refine ⟨_, _, l_eqInt64S_l4_mk z3 z6 d2 d5, l_eqInt64S_l4_out z3 z6 d2 d5, l_eqInt64S_l4 d2 d5, d8, y, ?_, hy, ?_, l_eqInt64S_l4_step z3 z6 d2 d5⟩
 ·subst hs; exact restrict_eq (T := [(0, (.imm z3 (.sl (.int .i64)) d2)), (1, (.imm z6 (.sl (.int .i64)) d5)), (5, (.imm true (.int .i64) d8))]) (U := []) rfl rfl ⟨e1, e4, e7, trivial⟩ trivial
 ·rcases y with x | x <;> exact Option.some.inj hz
noncomputable def l_eqInt64S_I : FnI := ⟨l_eqInt64S_b, Try.f56.results.toList, Try.f56.resultTypes.toList, l_eqInt64S_A⟩
noncomputable def l_eqInt64S_out (_zp0 : Bool) (_zp1 : Bool) (_p0 : (List Int)) (_p1 : (List Int)) : Bool → CallOut := fun r => ⟨(.imm true .bool r), [], []⟩
set_option maxRecDepth 100000 in
theorem l_eqInt64S_eq : ∀ (zp0 : Bool) (zp1 : Bool) (p0 : (List Int)) (p1 : (List Int)), denFn l_eqInt64S_V l_eqInt64S_I ⟨[(.imm zp0 (.sl (.int .i64)) p0), (.imm zp1 (.sl (.int .i64)) p1)], []⟩ = (l_eqInt64S p0 p1).run fun r => some (l_eqInt64S_out zp0 zp1 p0 p1 r) := fun _ _ _ _ => by kernel_rfl
noncomputable def l_eqInt64S_G (av : List AV) (rs : List Root) : Tre CallOut :=
 asCons av fun a0_ av0 =>
 asCons av0 fun a1_ av1 =>
 asEnd av1 <|
 asEnd rs <|
 asImm (.sl (.int .i64)) a0_ fun z2 d1 =>
 asImm (.sl (.int .i64)) a1_ fun z4 d3 =>
 .mat (eqS d1 d3) fun r => .ret (l_eqInt64S_out z2 z4 d1 d3 r)
noncomputable def l_eqInt64S_c : Ctr := ⟨[], fun ci => l_eqInt64S_G ci.args ci.roots, false⟩
theorem l_eqInt64S_env : EnvOK Try.prog l_eqInt64S_V := envOK_nil
set_option maxRecDepth 100000 in
theorem l_eqInt64S_ok : Contract Try.prog 56 l_eqInt64S_c := by
 have hl : LoopsOK l_eqInt64S_V l_eqInt64S_A l_eqInt64S_b := (loopsOK_all (n := 1) (by kernel_rfl) fun k hk => by
   match k, hk with
   | 0, _ => exact loopOK_at (id := 4) (L := l_eqInt64S_l4_L) (by kernel_rfl) (by kernel_rfl) l_eqInt64S_l4_ok)
 refine (contract_of (F := l_eqInt64S_I) tau_tys l_eqInt64S_env Try.func56 (by kernel_rfl) (by kernel_rfl) (by kernel_rfl) hl []).weaken ?_
 rintro ⟨av, rs⟩ co h
 have h : (l_eqInt64S_G av rs).run some = some co := h
 obtain ⟨a0_, av0, rfl, h_0⟩ := asCons_spec h
 obtain ⟨a1_, av1, rfl, h_1⟩ := asCons_spec h_0
 obtain ⟨rfl, h_2⟩ := asEnd_spec h_1
 obtain ⟨rfl, h_3⟩ := asEnd_spec h_2
 obtain ⟨z2, d1, rfl, h_4⟩ := asImm_spec h_3
 obtain ⟨z4, d3, rfl, h_5⟩ := asImm_spec h_4
 exact fin_opt (l_eqInt64S_eq z2 z4 d1 d3) (l_eqInt64S_spec d1 d3) h_5
end Go.Proofs.Ytohnlghdhbignaa

namespace Go.Proofs.Ytohnlghdhbignaa
open Go Go.Abs Go.Proofs
noncomputable def l_eqStation (p0 : TStation) (p1 : TStation) : Tre Bool :=
 .mat (eqS p0.1 p1.1) fun r1 =>
 .cond (!r1)
  (.ret false)
  (.mat (eqS p0.2.1 p1.2.1) fun r2 =>
  .cond (!r2)
   (.ret false)
   (.ret true))
noncomputable def l_eqStation_F (p0 : TStation) (p1 : TStation) : Option Bool := (l_eqStation p0 p1).run some
noncomputable def l_eqStation_V : Env := ⟨tau, [(56, l_eqInt64S_c)], []⟩
noncomputable def l_eqStation_b : Code := (Try.f90.body).getD .skip
noncomputable def l_eqStation_I : FnI := ⟨l_eqStation_b, Try.f90.results.toList, Try.f90.resultTypes.toList, []⟩
noncomputable def l_eqStation_out (_zp0 : Bool) (_zp1 : Bool) (_p0 : TStation) (_p1 : TStation) : Bool → CallOut := fun r => ⟨(.imm true .bool r), [], []⟩
set_option maxRecDepth 100000 in
theorem l_eqStation_eq : ∀ (zp0 : Bool) (zp1 : Bool) (p0 : TStation) (p1 : TStation), denFn l_eqStation_V l_eqStation_I ⟨[(.imm zp0 kStation p0), (.imm zp1 kStation p1)], []⟩ = (l_eqStation p0 p1).run fun r => some (l_eqStation_out zp0 zp1 p0 p1 r) := fun _ _ _ _ => by kernel_rfl
noncomputable def l_eqStation_G (av : List AV) (rs : List Root) : Tre CallOut :=
 asCons av fun a0_ av0 =>
 asCons av0 fun a1_ av1 =>
 asEnd av1 <|
 asEnd rs <|
 asImm kStation a0_ fun z2 d1 =>
 asImm kStation a1_ fun z4 d3 =>
 .mat (l_eqStation_F d1 d3) fun r => .ret (l_eqStation_out z2 z4 d1 d3 r)
noncomputable def l_eqStation_c : Ctr := ⟨[], fun ci => l_eqStation_G ci.args ci.roots, false⟩
theorem l_eqStation_env : EnvOK Try.prog l_eqStation_V := (envOK_cons l_eqInt64S_ok ent56 envOK_nil)
set_option maxRecDepth 100000 in
theorem l_eqStation_ok : Contract Try.prog 90 l_eqStation_c := by
 have hl : LoopsOK l_eqStation_V [] l_eqStation_b := loopsOK_nil (by kernel_rfl)
 refine (contract_of (F := l_eqStation_I) tau_tys l_eqStation_env Try.func90 (by kernel_rfl) (by kernel_rfl) (by kernel_rfl) hl []).weaken ?_
 rintro ⟨av, rs⟩ co h
 have h : (l_eqStation_G av rs).run some = some co := h
 obtain ⟨a0_, av0, rfl, h_0⟩ := asCons_spec h
 obtain ⟨a1_, av1, rfl, h_1⟩ := asCons_spec h_0
 obtain ⟨rfl, h_2⟩ := asEnd_spec h_1
 obtain ⟨rfl, h_3⟩ := asEnd_spec h_2
 obtain ⟨z2, d1, rfl, h_4⟩ := asImm_spec h_3
 obtain ⟨z4, d3, rfl, h_5⟩ := asImm_spec h_4
 exact fin_mat (l_eqStation_eq z2 z4 d1 d3) h_5
end Go.Proofs.Ytohnlghdhbignaa

namespace Go.Proofs.Ytohnlghdhbignaa
open Go Go.Abs Go.Proofs
noncomputable def l_eqStationS_l4 (h4_0_0 : (List TStation)) (h4_0_1 : (List TStation)) : Int → Tre (Int ⊕ (Bool ⊕ Unit)) := fun s4 =>
 .cond (decide (s4 < (h4_0_0.length : Int)))
  (.ite (0 ≤ s4 ∧ s4 < (h4_0_0.length : Int)) <|
  .mat (h4_0_0[s4.toNat]?) fun x1 =>
  .ite (0 ≤ s4 ∧ s4 < (h4_0_1.length : Int)) <|
  .mat (h4_0_1[s4.toNat]?) fun x2 =>
  .mat (l_eqStation_F x1 x2) fun r3 =>
  .cond (!r3)
   (.ret (.inr (.inl false)))
   (.ret (.inl (iwrap .i64 (s4 + 1)))))
  (.ret (.inr (.inr ())))
noncomputable def l_eqStationS (p0 : (List TStation)) (p1 : (List TStation)) : Tre Bool :=
 .cond (!decide ((p0.length : Int) = (p1.length : Int)))
  (.ret false)
  (.mat (loopF (l_eqStationS_l4 p0 p1) 0) fun l4 =>
  .alt l4
   (fun a5 =>
    .ret a5)
   (fun _ =>
    .ret true))
noncomputable def l_eqStationS_F (p0 : (List TStation)) (p1 : (List TStation)) : Option Bool := (l_eqStationS p0 p1).run some
-- more
theorem station_self {s : List Int × List Int × Unit} (h1 : s.1.length ≤ 1000) (h2 : s.2.1.length ≤ 1000) : l_eqStation_F s s = some true := by
 unfold l_eqStation_F l_eqStation
 rw [run_some_mat (show eqS s.1 s.1 = some true from eqR_self (by omega)), Bool.not_true, Tre.run_cond, cond_false, run_some_mat (show eqS s.2.1 s.2.1 = some true from eqR_self (by omega))]
 rfl
theorem stations_self {st : List (List Int × List Int × Unit)} (hl : st.length ≤ 1000) (h : ∀ s ∈ st, s.1.length ≤ 1000 ∧ s.2.1.length ≤ 1000) : l_eqStationS_F st st = some true := by
 unfold l_eqStationS_F l_eqStationS
 rw [Tre.run_cond, decide_eq_true rfl, Bool.not_true, cond_false]
 have hloop : ∀ (n i : Nat), i + n = st.length → loopF (l_eqStationS_l4 st st) (i : Int) = some (.inr ()) := by
  intro n
  induction n with
  | zero =>
   intro i hi
   refine loopF_done ?_
   unfold l_eqStationS_l4
   rw [Tre.run_cond, decide_eq_false (by omega), cond_false, Tre.run_ret]
  | succ n ih =>
   intro i hi
   obtain ⟨x, hx⟩ : ∃ x, st[i]? = some x := ⟨_, List.getElem?_eq_getElem (by omega)⟩
   have hs := h x (List.mem_of_getElem? hx)
   have hstep : (l_eqStationS_l4 st st (i : Int)).run some = some (.inl ((i + 1 : Nat) : Int)) := by
    unfold l_eqStationS_l4
    rw [run_inb hx, run_at hx, run_some_mat (station_self hs.1 hs.2), Bool.not_true, Tre.run_cond, cond_false, Tre.run_ret, iwrap_succ (by omega)]
   rw [loopF_step hstep]
   exact ih (i + 1) (by omega)
 rw [run_some_mat (show loopF (l_eqStationS_l4 st st) 0 = some (.inr ()) from hloop st.length 0 (by omega))]
 rfl
noncomputable def l_eqStationS_V : Env := ⟨tau, [(90, l_eqStation_c)], []⟩
noncomputable def l_eqStationS_b : Code := (Try.f54.body).getD .skip
noncomputable def l_eqStationS_l4_mk (z4_0 : Bool) (z4_1 : Bool) (h4_0_0 : (List TStation)) (h4_0_1 : (List TStation)) : Int → St := fun x => stOf [(0, (.imm z4_0 (.sl kStation) h4_0_0)), (1, (.imm z4_1 (.sl kStation) h4_0_1)), (5, (.imm true (.int .i64) x))] []
noncomputable def l_eqStationS_l4_out (_z4_0 : Bool) (_z4_1 : Bool) (_h4_0_0 : (List TStation)) (_h4_0_1 : (List TStation)) : (Bool ⊕ Unit) → Ex × St
 | .inl x => (.ret, stOf [(4, (.imm true .bool x))] [])
 | .inr x => (.exit 0, stOf [(4, .dead)] [])
noncomputable def l_eqStationS_l4_D (s : St) : Tre (Ex × St) :=
 asImm (.sl kStation) (s.tmps 0) fun z3 d2 =>
 asImm (.sl kStation) (s.tmps 1) fun z6 d5 =>
 asImmZ true (.int .i64) (s.tmps 5) fun d8 =>
 .mat (loopF (l_eqStationS_l4 d2 d5) d8) fun x => .alt x (fun a0 => .ret (l_eqStationS_l4_out z3 z6 d2 d5 (.inl a0))) (fun b0 => .ret (l_eqStationS_l4_out z3 z6 d2 d5 (.inr b0)))
noncomputable def l_eqStationS_l4_L : LoopI := ⟨([0, 1, 5], []), ([4], []), l_eqStationS_l4_D⟩
noncomputable def l_eqStationS_A : List (Nat × LoopI) := [(4, l_eqStationS_l4_L)]
set_option maxRecDepth 100000 in
theorem l_eqStationS_l4_step : ∀ (z4_0 : Bool) (z4_1 : Bool) (h4_0_0 : (List TStation)) (h4_0_1 : (List TStation)) (x : Int) (c : St → Option (Ex × St)), den l_eqStationS_V l_eqStationS_A (loopAt l_eqStationS_b 0) (l_eqStationS_l4_mk z4_0 z4_1 h4_0_0 h4_0_1 x) (roundK l_eqStationS_l4_L.kp l_eqStationS_l4_L.kx c) = (l_eqStationS_l4 h4_0_0 h4_0_1 x).run (roundR (l_eqStationS_l4_mk z4_0 z4_1 h4_0_0 h4_0_1) (l_eqStationS_l4_out z4_0 z4_1 h4_0_0 h4_0_1) c) := fun _ _ _ _ _ _ => by
 kernel_rfl
theorem l_eqStationS_l4_ok : LoopOK l_eqStationS_V l_eqStationS_A (loopAt l_eqStationS_b 0) l_eqStationS_l4_L := loopOK_of fun s e s' h => by
 generalize hs : restrict l_eqStationS_l4_L.kp s = s1 at h
 have h : (l_eqStationS_l4_D s1).run some = some (e, s') := h
 obtain ⟨z3, d2, e1, h_0⟩ := asImm_spec h
 obtain ⟨z6, d5, e4, h_1⟩ := asImm_spec h_0
 obtain ⟨d8, e7, h_2⟩ := asImmZ_spec h_1
 obtain ⟨y, hy, hz⟩ := mat_some h_2
 refine ⟨_, _, l_eqStationS_l4_mk z3 z6 d2 d5, l_eqStationS_l4_out z3 z6 d2 d5, l_eqStationS_l4 d2 d5, d8, y, ?_, hy, ?_, l_eqStationS_l4_step z3 z6 d2 d5⟩
 ·subst hs; exact restrict_eq (T := [(0, (.imm z3 (.sl kStation) d2)), (1, (.imm z6 (.sl kStation) d5)), (5, (.imm true (.int .i64) d8))]) (U := []) rfl rfl ⟨e1, e4, e7, trivial⟩ trivial
 ·rcases y with x | x <;> exact Option.some.inj hz
noncomputable def l_eqStationS_I : FnI := ⟨l_eqStationS_b, Try.f54.results.toList, Try.f54.resultTypes.toList, l_eqStationS_A⟩
noncomputable def l_eqStationS_out (_zp0 : Bool) (_zp1 : Bool) (_p0 : (List TStation)) (_p1 : (List TStation)) : Bool → CallOut := fun r => ⟨(.imm true .bool r), [], []⟩
set_option maxRecDepth 100000 in
theorem l_eqStationS_eq : ∀ (zp0 : Bool) (zp1 : Bool) (p0 : (List TStation)) (p1 : (List TStation)), denFn l_eqStationS_V l_eqStationS_I ⟨[(.imm zp0 (.sl kStation) p0), (.imm zp1 (.sl kStation) p1)], []⟩ = (l_eqStationS p0 p1).run fun r => some (l_eqStationS_out zp0 zp1 p0 p1 r) := fun _ _ _ _ => by kernel_rfl
noncomputable def l_eqStationS_G (av : List AV) (rs : List Root) : Tre CallOut :=
 asCons av fun a0_ av0 =>
 asCons av0 fun a1_ av1 =>
 asEnd av1 <|
 asEnd rs <|
 asImm (.sl kStation) a0_ fun z2 d1 =>
 asImm (.sl kStation) a1_ fun z4 d3 =>
 .mat (l_eqStationS_F d1 d3) fun r => .ret (l_eqStationS_out z2 z4 d1 d3 r)
noncomputable def l_eqStationS_c : Ctr := ⟨[], fun ci => l_eqStationS_G ci.args ci.roots, false⟩
theorem l_eqStationS_env : EnvOK Try.prog l_eqStationS_V := (envOK_cons l_eqStation_ok ent90 envOK_nil)
set_option maxRecDepth 100000 in
theorem l_eqStationS_ok : Contract Try.prog 54 l_eqStationS_c := by
 have hl : LoopsOK l_eqStationS_V l_eqStationS_A l_eqStationS_b := (loopsOK_all (n := 1) (by kernel_rfl) fun k hk => by
   match k, hk with
   | 0, _ => exact loopOK_at (id := 4) (L := l_eqStationS_l4_L) (by kernel_rfl) (by kernel_rfl) l_eqStationS_l4_ok)
 refine (contract_of (F := l_eqStationS_I) tau_tys l_eqStationS_env Try.func54 (by kernel_rfl) (by kernel_rfl) (by kernel_rfl) hl []).weaken ?_
 rintro ⟨av, rs⟩ co h
 have h : (l_eqStationS_G av rs).run some = some co := h
 obtain ⟨a0_, av0, rfl, h_0⟩ := asCons_spec h
 obtain ⟨a1_, av1, rfl, h_1⟩ := asCons_spec h_0
 obtain ⟨rfl, h_2⟩ := asEnd_spec h_1
 obtain ⟨rfl, h_3⟩ := asEnd_spec h_2
 obtain ⟨z2, d1, rfl, h_4⟩ := asImm_spec h_3
 obtain ⟨z4, d3, rfl, h_5⟩ := asImm_spec h_4
 exact fin_mat (l_eqStationS_eq z2 z4 d1 d3) h_5
end Go.Proofs.Ytohnlghdhbignaa

namespace Go.Proofs.Ytohnlghdhbignaa
open Go Go.Abs Go.Proofs
noncomputable def l_eqParcel (p0 : (Int × (Int × Unit))) (p1 : (Int × (Int × Unit))) : Tre Bool :=
 .cond (!decide (p0.1 = p1.1))
  (.ret false)
  (.cond (!decide (p0.2.1 = p1.2.1))
   (.ret false)
   (.ret true))
noncomputable def l_eqParcel_F (p0 : (Int × (Int × Unit))) (p1 : (Int × (Int × Unit))) : Option Bool := (l_eqParcel p0 p1).run some
def l_eqParcel_S (p0 : (Int × (Int × Unit))) (p1 : (Int × (Int × Unit))) : Bool :=
 cond (!decide (p0.1 = p1.1))
  (false)
  (cond (!decide (p0.2.1 = p1.2.1))
   (false)
   (true))
theorem l_eqParcel_spec (p0 : (Int × (Int × Unit))) (p1 : (Int × (Int × Unit))) : l_eqParcel_F p0 p1 = some (l_eqParcel_S p0 p1) := (run_cond_some rfl (run_cond_some rfl rfl))
noncomputable def l_eqParcel_V : Env := ⟨tau, [], []⟩
noncomputable def l_eqParcel_b : Code := (Try.f91.body).getD .skip
noncomputable def l_eqParcel_I : FnI := ⟨l_eqParcel_b, Try.f91.results.toList, Try.f91.resultTypes.toList, []⟩
noncomputable def l_eqParcel_out (_p0 : (Int × (Int × Unit))) (_p1 : (Int × (Int × Unit))) : Bool → CallOut := fun r => ⟨(.imm true .bool r), [], []⟩
set_option maxRecDepth 100000 in
theorem l_eqParcel_eq : ∀ (p0 : (Int × (Int × Unit))) (p1 : (Int × (Int × Unit))), denFn l_eqParcel_V l_eqParcel_I ⟨[(.imm true kField p0), (.imm true kField p1)], []⟩ = (l_eqParcel p0 p1).run fun r => some (l_eqParcel_out p0 p1 r) := fun _ _ => by kernel_rfl
noncomputable def l_eqParcel_G (av : List AV) (rs : List Root) : Tre CallOut :=
 asCons av fun a0_ av0 =>
 asCons av0 fun a1_ av1 =>
 asEnd av1 <|
 asEnd rs <|
 asImmZ true kField a0_ fun d1 =>
 asImmZ true kField a1_ fun d2 =>
 .ret (l_eqParcel_out d1 d2 (l_eqParcel_S d1 d2))
noncomputable def l_eqParcel_c : Ctr := ⟨[], fun ci => l_eqParcel_G ci.args ci.roots, false⟩
theorem l_eqParcel_env : EnvOK Try.prog l_eqParcel_V := envOK_nil
set_option maxRecDepth 100000 in
theorem l_eqParcel_ok : Contract Try.prog 91 l_eqParcel_c := by
 have hl : LoopsOK l_eqParcel_V [] l_eqParcel_b := loopsOK_nil (by kernel_rfl)
 refine (contract_of (F := l_eqParcel_I) tau_tys l_eqParcel_env Try.func91 (by kernel_rfl) (by kernel_rfl) (by kernel_rfl) hl []).weaken ?_
 rintro ⟨av, rs⟩ co h
 have h : (l_eqParcel_G av rs).run some = some co := h
 obtain ⟨a0_, av0, rfl, h_0⟩ := asCons_spec h
 obtain ⟨a1_, av1, rfl, h_1⟩ := asCons_spec h_0
 obtain ⟨rfl, h_2⟩ := asEnd_spec h_1
 obtain ⟨rfl, h_3⟩ := asEnd_spec h_2
 obtain ⟨d1, rfl, h_4⟩ := asImmZ_spec h_3
 obtain ⟨d2, rfl, h_5⟩ := asImmZ_spec h_4
 exact fin_ret (l_eqParcel_eq d1 d2) (l_eqParcel_spec d1 d2) h_5
end Go.Proofs.Ytohnlghdhbignaa

namespace Go.Proofs.Ytohnlghdhbignaa
open Go Go.Abs Go.Proofs
noncomputable def l_eqParcelS_l4 (h4_0_0 : (List (Int × (Int × Unit)))) (h4_0_1 : (List (Int × (Int × Unit)))) : Int → Tre (Int ⊕ (Bool ⊕ Unit)) := fun s4 =>
 .cond (decide (s4 < (h4_0_0.length : Int)))
  (.ite (0 ≤ s4 ∧ s4 < (h4_0_0.length : Int)) <|
  .mat (h4_0_0[s4.toNat]?) fun x1 =>
  .ite (0 ≤ s4 ∧ s4 < (h4_0_1.length : Int)) <|
  .mat (h4_0_1[s4.toNat]?) fun x2 =>
  .cond (!(l_eqParcel_S x1 x2))
   (.ret (.inr (.inl false)))
   (.ret (.inl (iwrap .i64 (s4 + 1)))))
  (.ret (.inr (.inr ())))
noncomputable def l_eqParcelS (p0 : (List (Int × (Int × Unit)))) (p1 : (List (Int × (Int × Unit)))) : Tre Bool :=
 .cond (!decide ((p0.length : Int) = (p1.length : Int)))
  (.ret false)
  (.mat (loopF (l_eqParcelS_l4 p0 p1) 0) fun l3 =>
  .alt l3
   (fun a4 =>
    .ret a4)
   (fun _ =>
    .ret true))
noncomputable def l_eqParcelS_F (p0 : (List (Int × (Int × Unit)))) (p1 : (List (Int × (Int × Unit)))) : Option Bool := (l_eqParcelS p0 p1).run some
-- more
theorem parcels_self {w : List (Int × Int × Unit)} (hl : w.length ≤ 1000) : l_eqParcelS_F w w = some true := by
 unfold l_eqParcelS_F l_eqParcelS
 rw [Tre.run_cond, decide_eq_true rfl, Bool.not_true, cond_false]
 have hloop : ∀ (n i : Nat), i + n = w.length → loopF (l_eqParcelS_l4 w w) (i : Int) = some (.inr ()) := by
  intro n
  induction n with
  | zero =>
   intro i hi
   refine loopF_done ?_
   unfold l_eqParcelS_l4
   rw [Tre.run_cond, decide_eq_false (by omega), cond_false, Tre.run_ret]
  | succ n ih =>
   intro i hi
   obtain ⟨x, hx⟩ : ∃ x, w[i]? = some x := ⟨_, List.getElem?_eq_getElem (by omega)⟩
   have hs : l_eqParcel_S x x = true := by unfold l_eqParcel_S; simp
   have hstep : (l_eqParcelS_l4 w w (i : Int)).run some = some (.inl ((i + 1 : Nat) : Int)) := by
    unfold l_eqParcelS_l4
    rw [run_inb hx, run_at hx, hs, Bool.not_true, Tre.run_cond, cond_false, Tre.run_ret, iwrap_succ (by omega)]
   rw [loopF_step hstep]
   exact ih (i + 1) (by omega)
 rw [run_some_mat (show loopF (l_eqParcelS_l4 w w) 0 = some (.inr ()) from hloop w.length 0 (by omega))]
 rfl
noncomputable def l_eqParcelS_V : Env := ⟨tau, [(91, l_eqParcel_c)], []⟩
noncomputable def l_eqParcelS_b : Code := (Try.f55.body).getD .skip
noncomputable def l_eqParcelS_l4_mk (z4_0 : Bool) (z4_1 : Bool) (h4_0_0 : (List (Int × (Int × Unit)))) (h4_0_1 : (List (Int × (Int × Unit)))) : Int → St := fun x => stOf [(0, (.imm z4_0 (.sl kField) h4_0_0)), (1, (.imm z4_1 (.sl kField) h4_0_1)), (5, (.imm true (.int .i64) x))] []
noncomputable def l_eqParcelS_l4_out (_z4_0 : Bool) (_z4_1 : Bool) (_h4_0_0 : (List (Int × (Int × Unit)))) (_h4_0_1 : (List (Int × (Int × Unit)))) : (Bool ⊕ Unit) → Ex × St
 | .inl x => (.ret, stOf [(4, (.imm true .bool x))] [])
 | .inr x => (.exit 0, stOf [(4, .dead)] [])
noncomputable def l_eqParcelS_l4_D (s : St) : Tre (Ex × St) :=
 asImm (.sl kField) (s.tmps 0) fun z3 d2 =>
 asImm (.sl kField) (s.tmps 1) fun z6 d5 =>
 asImmZ true (.int .i64) (s.tmps 5) fun d8 =>
 .mat (loopF (l_eqParcelS_l4 d2 d5) d8) fun x => .alt x (fun a0 => .ret (l_eqParcelS_l4_out z3 z6 d2 d5 (.inl a0))) (fun b0 => .ret (l_eqParcelS_l4_out z3 z6 d2 d5 (.inr b0)))
noncomputable def l_eqParcelS_l4_L : LoopI := ⟨([0, 1, 5], []), ([4], []), l_eqParcelS_l4_D⟩
noncomputable def l_eqParcelS_A : List (Nat × LoopI) := [(4, l_eqParcelS_l4_L)]
set_option maxRecDepth 100000 in
theorem l_eqParcelS_l4_step : ∀ (z4_0 : Bool) (z4_1 : Bool) (h4_0_0 : (List (Int × (Int × Unit)))) (h4_0_1 : (List (Int × (Int × Unit)))) (x : Int) (c : St → Option (Ex × St)), den l_eqParcelS_V l_eqParcelS_A (loopAt l_eqParcelS_b 0) (l_eqParcelS_l4_mk z4_0 z4_1 h4_0_0 h4_0_1 x) (roundK l_eqParcelS_l4_L.kp l_eqParcelS_l4_L.kx c) = (l_eqParcelS_l4 h4_0_0 h4_0_1 x).run (roundR (l_eqParcelS_l4_mk z4_0 z4_1 h4_0_0 h4_0_1) (l_eqParcelS_l4_out z4_0 z4_1 h4_0_0 h4_0_1) c) := fun _ _ _ _ _ _ => by
 kernel_rfl
theorem l_eqParcelS_l4_ok : LoopOK l_eqParcelS_V l_eqParcelS_A (loopAt l_eqParcelS_b 0) l_eqParcelS_l4_L := loopOK_of fun s e s' h => by
 generalize hs : restrict l_eqParcelS_l4_L.kp s = s1 at h
 have h : (l_eqParcelS_l4_D s1).run some = some (e, s') := h
 obtain ⟨z3, d2, e1, h_0⟩ := asImm_spec h
 obtain ⟨z6, d5, e4, h_1⟩ := asImm_spec h_0
 obtain ⟨d8, e7, h_2⟩ := asImmZ_spec h_1
 obtain ⟨y, hy, hz⟩ := mat_some h_2
 refine ⟨_, _, l_eqParcelS_l4_mk z3 z6 d2 d5, l_eqParcelS_l4_out z3 z6 d2 d5, l_eqParcelS_l4 d2 d5, d8, y, ?_, hy, ?_, l_eqParcelS_l4_step z3 z6 d2 d5⟩
 ·subst hs; exact restrict_eq (T := [(0, (.imm z3 (.sl kField) d2)), (1, (.imm z6 (.sl kField) d5)), (5, (.imm true (.int .i64) d8))]) (U := []) rfl rfl ⟨e1, e4, e7, trivial⟩ trivial
 ·rcases y with x | x <;> exact Option.some.inj hz
noncomputable def l_eqParcelS_I : FnI := ⟨l_eqParcelS_b, Try.f55.results.toList, Try.f55.resultTypes.toList, l_eqParcelS_A⟩
noncomputable def l_eqParcelS_out (_zp0 : Bool) (_zp1 : Bool) (_p0 : (List (Int × (Int × Unit)))) (_p1 : (List (Int × (Int × Unit)))) : Bool → CallOut := fun r => ⟨(.imm true .bool r), [], []⟩
set_option maxRecDepth 100000 in
theorem l_eqParcelS_eq : ∀ (zp0 : Bool) (zp1 : Bool) (p0 : (List (Int × (Int × Unit)))) (p1 : (List (Int × (Int × Unit)))), denFn l_eqParcelS_V l_eqParcelS_I ⟨[(.imm zp0 (.sl kField) p0), (.imm zp1 (.sl kField) p1)], []⟩ = (l_eqParcelS p0 p1).run fun r => some (l_eqParcelS_out zp0 zp1 p0 p1 r) := fun _ _ _ _ => by kernel_rfl
noncomputable def l_eqParcelS_G (av : List AV) (rs : List Root) : Tre CallOut :=
 asCons av fun a0_ av0 =>
 asCons av0 fun a1_ av1 =>
 asEnd av1 <|
 asEnd rs <|
 asImm (.sl kField) a0_ fun z2 d1 =>
 asImm (.sl kField) a1_ fun z4 d3 =>
 .mat (l_eqParcelS_F d1 d3) fun r => .ret (l_eqParcelS_out z2 z4 d1 d3 r)
noncomputable def l_eqParcelS_c : Ctr := ⟨[], fun ci => l_eqParcelS_G ci.args ci.roots, false⟩
theorem l_eqParcelS_env : EnvOK Try.prog l_eqParcelS_V := (envOK_cons l_eqParcel_ok ent91 envOK_nil)
set_option maxRecDepth 100000 in
theorem l_eqParcelS_ok : Contract Try.prog 55 l_eqParcelS_c := by
 have hl : LoopsOK l_eqParcelS_V l_eqParcelS_A l_eqParcelS_b := (loopsOK_all (n := 1) (by kernel_rfl) fun k hk => by
   match k, hk with
   | 0, _ => exact loopOK_at (id := 4) (L := l_eqParcelS_l4_L) (by kernel_rfl) (by kernel_rfl) l_eqParcelS_l4_ok)
 refine (contract_of (F := l_eqParcelS_I) tau_tys l_eqParcelS_env Try.func55 (by kernel_rfl) (by kernel_rfl) (by kernel_rfl) hl []).weaken ?_
 rintro ⟨av, rs⟩ co h
 have h : (l_eqParcelS_G av rs).run some = some co := h
 obtain ⟨a0_, av0, rfl, h_0⟩ := asCons_spec h
 obtain ⟨a1_, av1, rfl, h_1⟩ := asCons_spec h_0
 obtain ⟨rfl, h_2⟩ := asEnd_spec h_1
 obtain ⟨rfl, h_3⟩ := asEnd_spec h_2
 obtain ⟨z2, d1, rfl, h_4⟩ := asImm_spec h_3
 obtain ⟨z4, d3, rfl, h_5⟩ := asImm_spec h_4
 exact fin_mat (l_eqParcelS_eq z2 z4 d1 d3) h_5
end Go.Proofs.Ytohnlghdhbignaa

namespace Go.Proofs.Ytohnlghdhbignaa
open Go Go.Abs Go.Proofs
noncomputable def l_eqPlant (p0 : TPlant) (p1 : TPlant) : Tre Bool :=
 .mat (l_eqStationS_F p0.1 p1.1) fun r1 =>
 .cond (!r1)
  (.ret false)
  (.mat (l_eqParcelS_F p0.2.1 p1.2.1) fun r2 =>
  .cond (!r2)
   (.ret false)
   (.ret true))
noncomputable def l_eqPlant_F (p0 : TPlant) (p1 : TPlant) : Option Bool := (l_eqPlant p0 p1).run some
-- more
def smallP (p : List (List Int × List Int × Unit) × List (Int × Int × Unit) × Unit) : Prop := p.1.length ≤ 100 ∧ (∀ s ∈ p.1, s.1.length ≤ 1000 ∧ s.2.1.length ≤ 1000) ∧ p.2.1.length ≤ 100
theorem plant_self {p : List (List Int × List Int × Unit) × List (Int × Int × Unit) × Unit} (h : smallP p) : l_eqPlant_F p p = some true := by
 unfold l_eqPlant_F l_eqPlant
 rw [run_some_mat (stations_self (by have := h.1; omega) h.2.1), Bool.not_true, Tre.run_cond, cond_false, run_some_mat (parcels_self (by have := h.2.2; omega))]
 rfl
noncomputable def l_eqPlant_V : Env := ⟨tau, [(54, l_eqStationS_c), (55, l_eqParcelS_c)], []⟩
noncomputable def l_eqPlant_b : Code := (Try.f23.body).getD .skip
noncomputable def l_eqPlant_I : FnI := ⟨l_eqPlant_b, Try.f23.results.toList, Try.f23.resultTypes.toList, []⟩
noncomputable def l_eqPlant_out (_zp0 : Bool) (_zp1 : Bool) (_p0 : TPlant) (_p1 : TPlant) : Bool → CallOut := fun r => ⟨(.imm true .bool r), [], []⟩
set_option maxRecDepth 100000 in
theorem l_eqPlant_eq : ∀ (zp0 : Bool) (zp1 : Bool) (p0 : TPlant) (p1 : TPlant), denFn l_eqPlant_V l_eqPlant_I ⟨[(.imm zp0 kPlant p0), (.imm zp1 kPlant p1)], []⟩ = (l_eqPlant p0 p1).run fun r => some (l_eqPlant_out zp0 zp1 p0 p1 r) := fun _ _ _ _ => by kernel_rfl
noncomputable def l_eqPlant_G (av : List AV) (rs : List Root) : Tre CallOut :=
 asCons av fun a0_ av0 =>
 asCons av0 fun a1_ av1 =>
 asEnd av1 <|
 asEnd rs <|
 asImm kPlant a0_ fun z2 d1 =>
 asImm kPlant a1_ fun z4 d3 =>
 .mat (l_eqPlant_F d1 d3) fun r => .ret (l_eqPlant_out z2 z4 d1 d3 r)
noncomputable def l_eqPlant_c : Ctr := ⟨[], fun ci => l_eqPlant_G ci.args ci.roots, false⟩
theorem l_eqPlant_env : EnvOK Try.prog l_eqPlant_V := (envOK_cons l_eqStationS_ok ent54 (envOK_cons l_eqParcelS_ok ent55 envOK_nil))
set_option maxRecDepth 100000 in
theorem l_eqPlant_ok : Contract Try.prog 23 l_eqPlant_c := by
 have hl : LoopsOK l_eqPlant_V [] l_eqPlant_b := loopsOK_nil (by kernel_rfl)
 refine (contract_of (F := l_eqPlant_I) tau_tys l_eqPlant_env Try.func23 (by kernel_rfl) (by kernel_rfl) (by kernel_rfl) hl []).weaken ?_
 rintro ⟨av, rs⟩ co h
 have h : (l_eqPlant_G av rs).run some = some co := h
 obtain ⟨a0_, av0, rfl, h_0⟩ := asCons_spec h
 obtain ⟨a1_, av1, rfl, h_1⟩ := asCons_spec h_0
 obtain ⟨rfl, h_2⟩ := asEnd_spec h_1
 obtain ⟨rfl, h_3⟩ := asEnd_spec h_2
 obtain ⟨z2, d1, rfl, h_4⟩ := asImm_spec h_3
 obtain ⟨z4, d3, rfl, h_5⟩ := asImm_spec h_4
 exact fin_mat (l_eqPlant_eq z2 z4 d1 d3) h_5
end Go.Proofs.Ytohnlghdhbignaa

namespace Go.Proofs.Ytohnlghdhbignaa
open Go Go.Abs Go.Proofs
noncomputable def l_eqGather (p0 : TGather) (p1 : TGather) : Tre Bool :=
 .cond (!decide (p0.1 = p1.1))
  (.ret false)
  (.cond (!decide (p0.2.1 = p1.2.1))
   (.ret false)
   (.mat (eqS p0.2.2.1 p1.2.2.1) fun r1 =>
   .cond (!r1)
    (.ret false)
    (.cond (!decide (p0.2.2.2.1 = p1.2.2.2.1))
     (.ret false)
     (.cond (!decide (p0.2.2.2.2.1 = p1.2.2.2.2.1))
      (.ret false)
      (.ret true)))))
noncomputable def l_eqGather_F (p0 : TGather) (p1 : TGather) : Option Bool := (l_eqGather p0 p1).run some
abbrev eqG (p0 p1 : Int × Int × List Int × Int × Int × Unit) : Option Bool := eqR p0.2.2.1.length p0 p1
theorem l_eqGather_spec (p0 p1 : Int × Int × List Int × Int × Int × Unit) (y : Bool) (h : eqR p0.2.2.1.length p0 p1 = some y) : l_eqGather_F p0 p1 = some y := by
 obtain ⟨hl, rfl, rfl⟩ := eqR_some h
 unfold l_eqGather_F l_eqGather
 simp only [Tre.run_cond, Tre.run_ret, run_some_mat (show eqS p0.2.2.1 p0.2.2.1 = some _ from eqR_self hl), decide_true, Bool.not_true, cond_false]
noncomputable def l_eqGather_V : Env := ⟨tau, [(56, l_eqInt64S_c)], []⟩
noncomputable def l_eqGather_b : Code := (Try.f24.body).getD .skip
noncomputable def l_eqGather_I : FnI := ⟨l_eqGather_b, Try.f24.results.toList, Try.f24.resultTypes.toList, []⟩
noncomputable def l_eqGather_out (_zp0 : Bool) (_zp1 : Bool) (_p0 : TGather) (_p1 : TGather) : Bool → CallOut := fun r => ⟨(.imm true .bool r), [], []⟩
set_option maxRecDepth 100000 in
theorem l_eqGather_eq : ∀ (zp0 : Bool) (zp1 : Bool) (p0 : TGather) (p1 : TGather), denFn l_eqGather_V l_eqGather_I ⟨[(.imm zp0 kGather p0), (.imm zp1 kGather p1)], []⟩ = (l_eqGather p0 p1).run fun r => some (l_eqGather_out zp0 zp1 p0 p1 r) := fun _ _ _ _ => by kernel_rfl
noncomputable def l_eqGather_G (av : List AV) (rs : List Root) : Tre CallOut :=
 asCons av fun a0_ av0 =>
 asCons av0 fun a1_ av1 =>
 asEnd av1 <|
 asEnd rs <|
 asImm kGather a0_ fun z2 d1 =>
 asImm kGather a1_ fun z4 d3 =>
 .mat (eqG d1 d3) fun r => .ret (l_eqGather_out z2 z4 d1 d3 r)
noncomputable def l_eqGather_c : Ctr := ⟨[], fun ci => l_eqGather_G ci.args ci.roots, false⟩
theorem l_eqGather_env : EnvOK Try.prog l_eqGather_V := (envOK_cons l_eqInt64S_ok ent56 envOK_nil)
set_option maxRecDepth 100000 in
theorem l_eqGather_ok : Contract Try.prog 24 l_eqGather_c := by
 have hl : LoopsOK l_eqGather_V [] l_eqGather_b := loopsOK_nil (by kernel_rfl)
 refine (contract_of (F := l_eqGather_I) tau_tys l_eqGather_env Try.func24 (by kernel_rfl) (by kernel_rfl) (by kernel_rfl) hl []).weaken ?_
 rintro ⟨av, rs⟩ co h
 have h : (l_eqGather_G av rs).run some = some co := h
 obtain ⟨a0_, av0, rfl, h_0⟩ := asCons_spec h
 obtain ⟨a1_, av1, rfl, h_1⟩ := asCons_spec h_0
 obtain ⟨rfl, h_2⟩ := asEnd_spec h_1
 obtain ⟨rfl, h_3⟩ := asEnd_spec h_2
 obtain ⟨z2, d1, rfl, h_4⟩ := asImm_spec h_3
 obtain ⟨z4, d3, rfl, h_5⟩ := asImm_spec h_4
 exact fin_opt (l_eqGather_eq z2 z4 d1 d3) (l_eqGather_spec d1 d3) h_5
end Go.Proofs.Ytohnlghdhbignaa

namespace Go.Proofs.Ytohnlghdhbignaa
open Go Go.Abs Go.Proofs
noncomputable def l_eqDeed (p0 : TDeed) (p1 : TDeed) : Tre Bool :=
 .cond (!decide (p0.1 = p1.1))
  (.ret false)
  (.cond (!decide (p0.2.1 = p1.2.1))
   (.ret false)
   (.cond (!decide (p0.2.2.1 = p1.2.2.1))
    (.ret false)
    (.cond (!decide (p0.2.2.2.1 = p1.2.2.2.1))
     (.ret false)
     (.ret true))))
noncomputable def l_eqDeed_F (p0 : TDeed) (p1 : TDeed) : Option Bool := (l_eqDeed p0 p1).run some
def l_eqDeed_S (p0 : TDeed) (p1 : TDeed) : Bool :=
 cond (!decide (p0.1 = p1.1))
  (false)
  (cond (!decide (p0.2.1 = p1.2.1))
   (false)
   (cond (!decide (p0.2.2.1 = p1.2.2.1))
    (false)
    (cond (!decide (p0.2.2.2.1 = p1.2.2.2.1))
     (false)
     (true))))
theorem l_eqDeed_spec (p0 : TDeed) (p1 : TDeed) : l_eqDeed_F p0 p1 = some (l_eqDeed_S p0 p1) := (run_cond_some rfl (run_cond_some rfl (run_cond_some rfl (run_cond_some rfl rfl))))
noncomputable def l_eqDeed_V : Env := ⟨tau, [], []⟩
noncomputable def l_eqDeed_b : Code := (Try.f57.body).getD .skip
noncomputable def l_eqDeed_I : FnI := ⟨l_eqDeed_b, Try.f57.results.toList, Try.f57.resultTypes.toList, []⟩
noncomputable def l_eqDeed_out (_p0 : TDeed) (_p1 : TDeed) : Bool → CallOut := fun r => ⟨(.imm true .bool r), [], []⟩
set_option maxRecDepth 100000 in
theorem l_eqDeed_eq : ∀ (p0 : TDeed) (p1 : TDeed), denFn l_eqDeed_V l_eqDeed_I ⟨[(.imm true kDeed p0), (.imm true kDeed p1)], []⟩ = (l_eqDeed p0 p1).run fun r => some (l_eqDeed_out p0 p1 r) := fun _ _ => by kernel_rfl
noncomputable def l_eqDeed_G (av : List AV) (rs : List Root) : Tre CallOut :=
 asCons av fun a0_ av0 =>
 asCons av0 fun a1_ av1 =>
 asEnd av1 <|
 asEnd rs <|
 asImmZ true kDeed a0_ fun d1 =>
 asImmZ true kDeed a1_ fun d2 =>
 .ret (l_eqDeed_out d1 d2 (l_eqDeed_S d1 d2))
noncomputable def l_eqDeed_c : Ctr := ⟨[], fun ci => l_eqDeed_G ci.args ci.roots, false⟩
theorem l_eqDeed_env : EnvOK Try.prog l_eqDeed_V := envOK_nil
set_option maxRecDepth 100000 in
theorem l_eqDeed_ok : Contract Try.prog 57 l_eqDeed_c := by
 have hl : LoopsOK l_eqDeed_V [] l_eqDeed_b := loopsOK_nil (by kernel_rfl)
 refine (contract_of (F := l_eqDeed_I) tau_tys l_eqDeed_env Try.func57 (by kernel_rfl) (by kernel_rfl) (by kernel_rfl) hl []).weaken ?_
 rintro ⟨av, rs⟩ co h
 have h : (l_eqDeed_G av rs).run some = some co := h
 obtain ⟨a0_, av0, rfl, h_0⟩ := asCons_spec h
 obtain ⟨a1_, av1, rfl, h_1⟩ := asCons_spec h_0
 obtain ⟨rfl, h_2⟩ := asEnd_spec h_1
 obtain ⟨rfl, h_3⟩ := asEnd_spec h_2
 obtain ⟨d1, rfl, h_4⟩ := asImmZ_spec h_3
 obtain ⟨d2, rfl, h_5⟩ := asImmZ_spec h_4
 exact fin_ret (l_eqDeed_eq d1 d2) (l_eqDeed_spec d1 d2) h_5
end Go.Proofs.Ytohnlghdhbignaa

namespace Go.Proofs.Ytohnlghdhbignaa
open Go Go.Abs Go.Proofs
noncomputable def l_eqDeedS_l4 (h4_0_0 : (List TDeed)) (h4_0_1 : (List TDeed)) : Int → Tre (Int ⊕ (Bool ⊕ Unit)) := fun s4 =>
 .cond (decide (s4 < (h4_0_0.length : Int)))
  (.ite (0 ≤ s4 ∧ s4 < (h4_0_0.length : Int)) <|
  .mat (h4_0_0[s4.toNat]?) fun x1 =>
  .ite (0 ≤ s4 ∧ s4 < (h4_0_1.length : Int)) <|
  .mat (h4_0_1[s4.toNat]?) fun x2 =>
  .cond (!(l_eqDeed_S x1 x2))
   (.ret (.inr (.inl false)))
   (.ret (.inl (iwrap .i64 (s4 + 1)))))
  (.ret (.inr (.inr ())))
noncomputable def l_eqDeedS (p0 : (List TDeed)) (p1 : (List TDeed)) : Tre Bool :=
 .cond (!decide ((p0.length : Int) = (p1.length : Int)))
  (.ret false)
  (.mat (loopF (l_eqDeedS_l4 p0 p1) 0) fun l3 =>
  .alt l3
   (fun a4 =>
    .ret a4)
   (fun _ =>
    .ret true))
noncomputable def l_eqDeedS_F (p0 : (List TDeed)) (p1 : (List TDeed)) : Option Bool := (l_eqDeedS p0 p1).run some
abbrev eqDs (p0 p1 : List (Int × Int × Int × Int × Unit)) : Option Bool := eqR p0.length p0 p1
theorem l_eqDeedS_spec (p0 p1 : List (Int × Int × Int × Int × Unit)) (y : Bool) (h : eqR p0.length p0 p1 = some y) : l_eqDeedS_F p0 p1 = some y := by
 obtain ⟨hl, rfl, rfl⟩ := eqR_some h
 unfold l_eqDeedS_F l_eqDeedS
 rw [Tre.run_cond, show (!decide ((p0.length : Int) = (p0.length : Int))) = false from by simp, cond_false, Tre.run_mat, find_loop (xs := p0) (fun _ _ => none) (.inr ())]
 ·have : ∀ (l : List (Int × Int × Int × Int × Unit)) (i : Nat), findE (β := Bool ⊕ Unit) (fun _ _ => none) (.inr ()) i l = .inr () := by
   intro l
   induction l with
   | nil => intro i; rfl
   | cons x l ih => intro i; exact ih _
  rw [this]
  rfl
 ·intro i x hx
  have hi : i < p0.length := (List.getElem?_eq_some_iff.1 hx).1
  unfold l_eqDeedS_l4
  rw [run_inb hx, run_at hx, Tre.run_cond, show l_eqDeed_S x x = true from by unfold l_eqDeed_S; simp]
  simp only [Bool.not_true, cond_false, Tre.run_ret, iwrap_succ (show i < 4611686018427387904 by omega)]
 ·unfold l_eqDeedS_l4
  exact run_out
noncomputable def l_eqDeedS_V : Env := ⟨tau, [(57, l_eqDeed_c)], []⟩
noncomputable def l_eqDeedS_b : Code := (Try.f25.body).getD .skip
noncomputable def l_eqDeedS_l4_mk (z4_0 : Bool) (z4_1 : Bool) (h4_0_0 : (List TDeed)) (h4_0_1 : (List TDeed)) : Int → St := fun x => stOf [(0, (.imm z4_0 (.sl kDeed) h4_0_0)), (1, (.imm z4_1 (.sl kDeed) h4_0_1)), (5, (.imm true (.int .i64) x))] []
noncomputable def l_eqDeedS_l4_out (_z4_0 : Bool) (_z4_1 : Bool) (_h4_0_0 : (List TDeed)) (_h4_0_1 : (List TDeed)) : (Bool ⊕ Unit) → Ex × St
 | .inl x => (.ret, stOf [(4, (.imm true .bool x))] [])
 | .inr x => (.exit 0, stOf [(4, .dead)] [])
noncomputable def l_eqDeedS_l4_D (s : St) : Tre (Ex × St) :=
 asImm (.sl kDeed) (s.tmps 0) fun z3 d2 =>
 asImm (.sl kDeed) (s.tmps 1) fun z6 d5 =>
 asImmZ true (.int .i64) (s.tmps 5) fun d8 =>
 .mat (loopF (l_eqDeedS_l4 d2 d5) d8) fun x => .alt x (fun a0 => .ret (l_eqDeedS_l4_out z3 z6 d2 d5 (.inl a0))) (fun b0 => .ret (l_eqDeedS_l4_out z3 z6 d2 d5 (.inr b0)))
noncomputable def l_eqDeedS_l4_L : LoopI := ⟨([0, 1, 5], []), ([4], []), l_eqDeedS_l4_D⟩
noncomputable def l_eqDeedS_A : List (Nat × LoopI) := [(4, l_eqDeedS_l4_L)]
set_option maxRecDepth 100000 in
theorem l_eqDeedS_l4_step : ∀ (z4_0 : Bool) (z4_1 : Bool) (h4_0_0 : (List TDeed)) (h4_0_1 : (List TDeed)) (x : Int) (c : St → Option (Ex × St)), den l_eqDeedS_V l_eqDeedS_A (loopAt l_eqDeedS_b 0) (l_eqDeedS_l4_mk z4_0 z4_1 h4_0_0 h4_0_1 x) (roundK l_eqDeedS_l4_L.kp l_eqDeedS_l4_L.kx c) = (l_eqDeedS_l4 h4_0_0 h4_0_1 x).run (roundR (l_eqDeedS_l4_mk z4_0 z4_1 h4_0_0 h4_0_1) (l_eqDeedS_l4_out z4_0 z4_1 h4_0_0 h4_0_1) c) := fun _ _ _ _ _ _ => by
 kernel_rfl
theorem l_eqDeedS_l4_ok : LoopOK l_eqDeedS_V l_eqDeedS_A (loopAt l_eqDeedS_b 0) l_eqDeedS_l4_L := loopOK_of fun s e s' h => by
 generalize hs : restrict l_eqDeedS_l4_L.kp s = s1 at h
 have h : (l_eqDeedS_l4_D s1).run some = some (e, s') := h
 obtain ⟨z3, d2, e1, h_0⟩ := asImm_spec h
 obtain ⟨z6, d5, e4, h_1⟩ := asImm_spec h_0
 obtain ⟨d8, e7, h_2⟩ := asImmZ_spec h_1
 obtain ⟨y, hy, hz⟩ := mat_some h_2
 refine ⟨_, _, l_eqDeedS_l4_mk z3 z6 d2 d5, l_eqDeedS_l4_out z3 z6 d2 d5, l_eqDeedS_l4 d2 d5, d8, y, ?_, hy, ?_, l_eqDeedS_l4_step z3 z6 d2 d5⟩
 ·subst hs; exact restrict_eq (T := [(0, (.imm z3 (.sl kDeed) d2)), (1, (.imm z6 (.sl kDeed) d5)), (5, (.imm true (.int .i64) d8))]) (U := []) rfl rfl ⟨e1, e4, e7, trivial⟩ trivial
 ·rcases y with x | x <;> exact Option.some.inj hz
noncomputable def l_eqDeedS_I : FnI := ⟨l_eqDeedS_b, Try.f25.results.toList, Try.f25.resultTypes.toList, l_eqDeedS_A⟩
noncomputable def l_eqDeedS_out (_zp0 : Bool) (_zp1 : Bool) (_p0 : (List TDeed)) (_p1 : (List TDeed)) : Bool → CallOut := fun r => ⟨(.imm true .bool r), [], []⟩
set_option maxRecDepth 100000 in
theorem l_eqDeedS_eq : ∀ (zp0 : Bool) (zp1 : Bool) (p0 : (List TDeed)) (p1 : (List TDeed)), denFn l_eqDeedS_V l_eqDeedS_I ⟨[(.imm zp0 (.sl kDeed) p0), (.imm zp1 (.sl kDeed) p1)], []⟩ = (l_eqDeedS p0 p1).run fun r => some (l_eqDeedS_out zp0 zp1 p0 p1 r) := fun _ _ _ _ => by kernel_rfl
noncomputable def l_eqDeedS_G (av : List AV) (rs : List Root) : Tre CallOut :=
 asCons av fun a0_ av0 =>
 asCons av0 fun a1_ av1 =>
 asEnd av1 <|
 asEnd rs <|
 asImm (.sl kDeed) a0_ fun z2 d1 =>
 asImm (.sl kDeed) a1_ fun z4 d3 =>
 .mat (eqDs d1 d3) fun r => .ret (l_eqDeedS_out z2 z4 d1 d3 r)
noncomputable def l_eqDeedS_c : Ctr := ⟨[], fun ci => l_eqDeedS_G ci.args ci.roots, false⟩
theorem l_eqDeedS_env : EnvOK Try.prog l_eqDeedS_V := (envOK_cons l_eqDeed_ok ent57 envOK_nil)
set_option maxRecDepth 100000 in
theorem l_eqDeedS_ok : Contract Try.prog 25 l_eqDeedS_c := by
 have hl : LoopsOK l_eqDeedS_V l_eqDeedS_A l_eqDeedS_b := (loopsOK_all (n := 1) (by kernel_rfl) fun k hk => by
   match k, hk with
   | 0, _ => exact loopOK_at (id := 4) (L := l_eqDeedS_l4_L) (by kernel_rfl) (by kernel_rfl) l_eqDeedS_l4_ok)
 refine (contract_of (F := l_eqDeedS_I) tau_tys l_eqDeedS_env Try.func25 (by kernel_rfl) (by kernel_rfl) (by kernel_rfl) hl []).weaken ?_
 rintro ⟨av, rs⟩ co h
 have h : (l_eqDeedS_G av rs).run some = some co := h
 obtain ⟨a0_, av0, rfl, h_0⟩ := asCons_spec h
 obtain ⟨a1_, av1, rfl, h_1⟩ := asCons_spec h_0
 obtain ⟨rfl, h_2⟩ := asEnd_spec h_1
 obtain ⟨rfl, h_3⟩ := asEnd_spec h_2
 obtain ⟨z2, d1, rfl, h_4⟩ := asImm_spec h_3
 obtain ⟨z4, d3, rfl, h_5⟩ := asImm_spec h_4
 exact fin_opt (l_eqDeedS_eq z2 z4 d1 d3) (l_eqDeedS_spec d1 d3) h_5
end Go.Proofs.Ytohnlghdhbignaa

namespace Go.Proofs.Ytohnlghdhbignaa
open Go Go.Abs Go.Proofs
noncomputable def l_markInt64S_4b97_l2 : (Int × Int × TGather) → Tre ((Int × Int × TGather) ⊕ (Int × TGather)) := fun s2 =>
 .cond (decide (s2.2.1 < (s2.2.2.2.2.1.length : Int)))
  (.ite (0 ≤ s2.2.1 ∧ s2.2.1 < (s2.2.2.2.2.1.length : Int)) <|
  .mat (s2.2.2.2.2.1[s2.2.1.toNat]?) fun _ =>
  let v2 := s2.2.2.2.2.1.set s2.2.1.toNat s2.1
  .ret (.inl (iwrap .i64 (s2.1 + 1), iwrap .i64 (s2.2.1 + 1), (s2.2.2.1, (s2.2.2.2.1, (v2, s2.2.2.2.2.2))))))
  (.ret (.inr (s2.1, s2.2.2)))
noncomputable def l_markInt64S_4b97 (p0 : Int) (p1 : TGather) : Tre (Int × TGather) :=
 .mat (loopF l_markInt64S_4b97_l2 (p0, 0, p1)) fun l3 =>
 .ret (l3.1, l3.2)
noncomputable def l_markInt64S_4b97_F (p0 : Int) (p1 : TGather) : Option (Int × TGather) := (l_markInt64S_4b97 p0 p1).run some
def markN (k : Int) (g : Int × Int × List Int × Int × Int × Unit) : Option (Int × Int × Int × List Int × Int × Int × Unit) := askO (inR k 0 1048576 && decide (g.2.2.1.length ≤ 1048576)) (k + (g.2.2.1.length : Int), (g.1, g.2.1, marks k g.2.2.1.length, g.2.2.2))
theorem l_markInt64S_4b97_spec (p0 : Int) (p1 : Int × Int × List Int × Int × Int × Unit) (y : Int × Int × Int × List Int × Int × Int × Unit) (h : markN p0 p1 = some y) : l_markInt64S_4b97_F p0 p1 = some y := by
 obtain ⟨hok, rfl⟩ := askO_some h
 simp only [Bool.and_eq_true, decide_eq_true_eq, inR_iff] at hok
 obtain ⟨hk, hl⟩ := hok
 obtain ⟨ga, gb, xs, gr⟩ := p1
 unfold l_markInt64S_4b97_F l_markInt64S_4b97
 dsimp only at hl ⊢
 have := fold_loop (xs := xs) (step := l_markInt64S_4b97_l2) (fun i acc => (p0 + (i : Int), (i : Int), (ga, gb, acc, gr))) (fun i acc _ => .inl (acc.set i (p0 + (i : Int)))) (fun acc => (p0 + (xs.length : Int), (ga, gb, acc, gr))) (fun i acc => acc.length = xs.length) (by
  intro i acc x hx hI
  have hi : i < xs.length := (List.getElem?_eq_some_iff.1 hx).1
  refine ⟨?_, fun a ha => by cases ha; simpa using hI⟩
  unfold l_markInt64S_4b97_l2
  rw [run_inb (List.getElem?_eq_getElem (by omega : i < acc.length))]
  dsimp only
  rw [Tre.run_ret, iwrap_succ (by omega), iwrap_i64 (by omega) (by omega), Int.toNat_natCast]
  simp only [Int.natCast_add, Int.natCast_one, Int.add_assoc])
  (by
  intro acc hI
  unfold l_markInt64S_4b97_l2
  rw [← show acc.length = xs.length from hI]
  exact run_out) xs 0 xs rfl (Nat.zero_le _) rfl
 rw [foldE_marks _ _ _ _ _ (by simp)] at this
 have h1 : loopF l_markInt64S_4b97_l2 (p0, 0, (ga, gb, xs, gr)) = some (p0 + (xs.length : Int), (ga, gb, marks p0 xs.length, gr)) := by
  simpa [marks] using this
 rw [run_some_mat h1]
 rfl
noncomputable def l_markInt64S_4b97_V : Env := ⟨tau, [], []⟩
noncomputable def l_markInt64S_4b97_b : Code := (Try.f58.body).getD .skip
noncomputable def l_markInt64S_4b97_l2_mk : (Int × Int × TGather) → St := fun x => stOf [(0, (.ref (0, 0) [.snd, .snd, .fst])), (1, (.imm true (.int .i64) x.1)), (5, (.imm true (.int .i64) x.2.1))] [((0, 0), some ⟨true, kGather, .own, x.2.2⟩)]
noncomputable def l_markInt64S_4b97_l2_out : (Int × TGather) → Ex × St := fun x => (.exit 0, stOf [(1, (.imm true (.int .i64) x.1))] [((0, 0), some ⟨true, kGather, .own, x.2⟩)])
noncomputable def l_markInt64S_4b97_l2_D (s : St) : Tre (Ex × St) :=
 asRef (0, 0) [.snd, .snd, .fst] (s.tmps 0) <|
 asImmZ true (.int .i64) (s.tmps 1) fun d3 =>
 asImmZ true (.int .i64) (s.tmps 5) fun d5 =>
 asRoot true kGather (s.roots (0, 0)) fun m7 d8 =>
 asM .own m7 <|
 .mat (loopF l_markInt64S_4b97_l2 (d3, d5, d8)) fun x => .ret (l_markInt64S_4b97_l2_out x)
noncomputable def l_markInt64S_4b97_l2_L : LoopI := ⟨([0, 1, 5], [(0, 0)]), ([1], [(0, 0)]), l_markInt64S_4b97_l2_D⟩
noncomputable def l_markInt64S_4b97_A : List (Nat × LoopI) := [(2, l_markInt64S_4b97_l2_L)]
set_option maxRecDepth 100000 in
theorem l_markInt64S_4b97_l2_step : ∀ (x : (Int × Int × TGather)) (c : St → Option (Ex × St)), den l_markInt64S_4b97_V l_markInt64S_4b97_A (loopAt l_markInt64S_4b97_b 0) (l_markInt64S_4b97_l2_mk x) (roundK l_markInt64S_4b97_l2_L.kp l_markInt64S_4b97_l2_L.kx c) = (l_markInt64S_4b97_l2 x).run (roundR (l_markInt64S_4b97_l2_mk) (l_markInt64S_4b97_l2_out) c) := fun _ _ => by
 kernel_rfl
theorem l_markInt64S_4b97_l2_ok : LoopOK l_markInt64S_4b97_V l_markInt64S_4b97_A (loopAt l_markInt64S_4b97_b 0) l_markInt64S_4b97_l2_L := loopOK_of fun s e s' h => by
 generalize hs : restrict l_markInt64S_4b97_l2_L.kp s = s1 at h
 have h : (l_markInt64S_4b97_l2_D s1).run some = some (e, s') := h
 obtain ⟨e1, h_0⟩ := asRef_spec h
 obtain ⟨d3, e2, h_1⟩ := asImmZ_spec h_0
 obtain ⟨d5, e4, h_2⟩ := asImmZ_spec h_1
 obtain ⟨m7, d8, e6, h_3⟩ := asRoot_spec h_2
 obtain ⟨rfl, h_4⟩ := asM_spec h_3
 obtain ⟨y, hy, hz⟩ := mat_ret h_4
 refine ⟨_, _, l_markInt64S_4b97_l2_mk, l_markInt64S_4b97_l2_out, l_markInt64S_4b97_l2, (d3, d5, d8), y, ?_, hy, ?_, l_markInt64S_4b97_l2_step⟩
 ·subst hs; exact restrict_eq (T := [(0, (.ref (0, 0) [.snd, .snd, .fst])), (1, (.imm true (.int .i64) d3)), (5, (.imm true (.int .i64) d5))]) (U := [((0, 0), some ⟨true, kGather, .own, d8⟩)]) rfl rfl ⟨e1, e2, e4, trivial⟩ ⟨e6, trivial⟩
 ·exact Option.some.inj hz
noncomputable def l_markInt64S_4b97_I : FnI := ⟨l_markInt64S_4b97_b, Try.f58.results.toList, Try.f58.resultTypes.toList, l_markInt64S_4b97_A⟩
noncomputable def l_markInt64S_4b97_out (_p0 : Int) (_p1 : TGather) : (Int × TGather) → CallOut := fun r => ⟨(.imm true (.int .i64) r.1), [⟨true, kGather, .own, r.2⟩], []⟩
set_option maxRecDepth 100000 in
theorem l_markInt64S_4b97_eq : ∀ (p0 : Int) (p1 : TGather), denFn l_markInt64S_4b97_V l_markInt64S_4b97_I ⟨[(.ref (0, 0) [.snd, .snd, .fst]), (.imm true (.int .i64) p0)], [⟨true, kGather, .own, p1⟩]⟩ = (l_markInt64S_4b97 p0 p1).run fun r => some (l_markInt64S_4b97_out p0 p1 r) := fun _ _ => by kernel_rfl
noncomputable def l_markInt64S_4b97_G (av : List AV) (rs : List Root) : Tre CallOut :=
 asCons av fun a0_ av0 =>
 asCons av0 fun a1_ av1 =>
 asEnd av1 <|
 asCons rs fun r0_ rs0 =>
 asEnd rs0 <|
 asRef (0, 0) [.snd, .snd, .fst] a0_ <|
 asImmZ true (.int .i64) a1_ fun d1 =>
 asRt true kGather r0_ fun m2 d3 =>
 asM .own m2 <|
 .mat (markN d1 d3) fun r => .ret (l_markInt64S_4b97_out d1 d3 r)
noncomputable def l_markInt64S_4b97_c : Ctr := ⟨[0], fun ci => l_markInt64S_4b97_G ci.args ci.roots, false⟩
theorem l_markInt64S_4b97_env : EnvOK Try.prog l_markInt64S_4b97_V := envOK_nil
set_option maxRecDepth 100000 in
theorem l_markInt64S_4b97_ok : Contract Try.prog 58 l_markInt64S_4b97_c := by
 have hl : LoopsOK l_markInt64S_4b97_V l_markInt64S_4b97_A l_markInt64S_4b97_b := (loopsOK_all (n := 1) (by kernel_rfl) fun k hk => by
   match k, hk with
   | 0, _ => exact loopOK_at (id := 2) (L := l_markInt64S_4b97_l2_L) (by kernel_rfl) (by kernel_rfl) l_markInt64S_4b97_l2_ok)
 refine (contract_of (F := l_markInt64S_4b97_I) tau_tys l_markInt64S_4b97_env Try.func58 (by kernel_rfl) (by kernel_rfl) (by kernel_rfl) hl [0]).weaken ?_
 rintro ⟨av, rs⟩ co h
 have h : (l_markInt64S_4b97_G av rs).run some = some co := h
 obtain ⟨a0_, av0, rfl, h_0⟩ := asCons_spec h
 obtain ⟨a1_, av1, rfl, h_1⟩ := asCons_spec h_0
 obtain ⟨rfl, h_2⟩ := asEnd_spec h_1
 obtain ⟨r0_, rs0, rfl, h_3⟩ := asCons_spec h_2
 obtain ⟨rfl, h_4⟩ := asEnd_spec h_3
 obtain ⟨rfl, h_5⟩ := asRef_spec h_4
 obtain ⟨d1, rfl, h_6⟩ := asImmZ_spec h_5
 obtain ⟨m2, d3, rfl, h_7⟩ := asRt_spec h_6
 obtain ⟨rfl, h_8⟩ := asM_spec h_7
 exact fin_opt (l_markInt64S_4b97_eq d1 d3) (l_markInt64S_4b97_spec d1 d3) h_8
end Go.Proofs.Ytohnlghdhbignaa

namespace Go.Proofs.Ytohnlghdhbignaa
open Go Go.Abs Go.Proofs
noncomputable def l_markGather_3874 (_p0 : Int) (_p1 : Int) (_p2 : (Int × (Int × Unit))) (p3 : Int) (p4 : TGather) : Tre (Int × TGather) :=
 .mat (markN p3 p4) fun r1 =>
 .ret (r1.1, r1.2)
noncomputable def l_markGather_3874_F (p0 : Int) (p1 : Int) (p2 : (Int × (Int × Unit))) (p3 : Int) (p4 : TGather) : Option (Int × TGather) := (l_markGather_3874 p0 p1 p2 p3 p4).run some
def markG (_ _ : Int) (_ : Int × Int × Unit) (k : Int) (g : Int × Int × List Int × Int × Int × Unit) : Option (Int × Int × Int × List Int × Int × Int × Unit) := markN k g
theorem l_markGather_3874_spec (p0 p1 : Int) (p2 : Int × Int × Unit) (p3 : Int) (p4 : Int × Int × List Int × Int × Int × Unit) (y : Int × Int × Int × List Int × Int × Int × Unit) (h : markG p0 p1 p2 p3 p4 = some y) : l_markGather_3874_F p0 p1 p2 p3 p4 = some y := by
 unfold l_markGather_3874_F l_markGather_3874
 rw [run_some_mat (show markN p3 p4 = some y from h)]
 rfl
noncomputable def l_markGather_3874_V : Env := ⟨tau, [(58, l_markInt64S_4b97_c)], []⟩
noncomputable def l_markGather_3874_b : Code := (Try.f26.body).getD .skip
noncomputable def l_markGather_3874_I : FnI := ⟨l_markGather_3874_b, Try.f26.results.toList, Try.f26.resultTypes.toList, []⟩
noncomputable def l_markGather_3874_out (_p0 : Int) (_p1 : Int) (_p2 : (Int × (Int × Unit))) (_p3 : Int) (_p4 : TGather) : (Int × TGather) → CallOut := fun r => ⟨(.imm true (.int .i64) r.1), [⟨true, kGather, .own, r.2⟩], []⟩
set_option maxRecDepth 100000 in
theorem l_markGather_3874_eq : ∀ (p0 : Int) (p1 : Int) (p2 : (Int × (Int × Unit))) (p3 : Int) (p4 : TGather), denFn l_markGather_3874_V l_markGather_3874_I ⟨[(.pair (.imm true (.int .i64) p0) (.pair (.imm true (.int .i64) p1) (.pair (.ref (0, 0) [.snd, .snd, .fst]) (.imm true kField p2)))), (.imm true (.int .i64) p3)], [⟨true, kGather, .own, p4⟩]⟩ = (l_markGather_3874 p0 p1 p2 p3 p4).run fun r => some (l_markGather_3874_out p0 p1 p2 p3 p4 r) := fun _ _ _ _ _ => by kernel_rfl
noncomputable def l_markGather_3874_G (av : List AV) (rs : List Root) : Tre CallOut :=
 asCons av fun a0_ av0 =>
 asCons av0 fun a1_ av1 =>
 asEnd av1 <|
 asCons rs fun r0_ rs0 =>
 asEnd rs0 <|
 asPair a0_ fun a1 a2 =>
 asImmZ true (.int .i64) a1 fun d3 =>
 asPair a2 fun a4 a5 =>
 asImmZ true (.int .i64) a4 fun d6 =>
 asPair a5 fun a7 a8 =>
 asRef (0, 0) [.snd, .snd, .fst] a7 <|
 asImmZ true kField a8 fun d9 =>
 asImmZ true (.int .i64) a1_ fun d10 =>
 asRt true kGather r0_ fun m11 d12 =>
 asM .own m11 <|
 .mat (markG d3 d6 d9 d10 d12) fun r => .ret (l_markGather_3874_out d3 d6 d9 d10 d12 r)
noncomputable def l_markGather_3874_c : Ctr := ⟨[0], fun ci => l_markGather_3874_G ci.args ci.roots, false⟩
theorem l_markGather_3874_env : EnvOK Try.prog l_markGather_3874_V := (envOK_cons l_markInt64S_4b97_ok ent58 envOK_nil)
set_option maxRecDepth 100000 in
theorem l_markGather_3874_ok : Contract Try.prog 26 l_markGather_3874_c := by
 have hl : LoopsOK l_markGather_3874_V [] l_markGather_3874_b := loopsOK_nil (by kernel_rfl)
 refine (contract_of (F := l_markGather_3874_I) tau_tys l_markGather_3874_env Try.func26 (by kernel_rfl) (by kernel_rfl) (by kernel_rfl) hl [0]).weaken ?_
 rintro ⟨av, rs⟩ co h
 have h : (l_markGather_3874_G av rs).run some = some co := h
 obtain ⟨a0_, av0, rfl, h_0⟩ := asCons_spec h
 obtain ⟨a1_, av1, rfl, h_1⟩ := asCons_spec h_0
 obtain ⟨rfl, h_2⟩ := asEnd_spec h_1
 obtain ⟨r0_, rs0, rfl, h_3⟩ := asCons_spec h_2
 obtain ⟨rfl, h_4⟩ := asEnd_spec h_3
 obtain ⟨a1, a2, rfl, h_5⟩ := asPair_spec h_4
 obtain ⟨d3, rfl, h_6⟩ := asImmZ_spec h_5
 obtain ⟨a4, a5, rfl, h_7⟩ := asPair_spec h_6
 obtain ⟨d6, rfl, h_8⟩ := asImmZ_spec h_7
 obtain ⟨a7, a8, rfl, h_9⟩ := asPair_spec h_8
 obtain ⟨rfl, h_10⟩ := asRef_spec h_9
 obtain ⟨d9, rfl, h_11⟩ := asImmZ_spec h_10
 obtain ⟨d10, rfl, h_12⟩ := asImmZ_spec h_11
 obtain ⟨m11, d12, rfl, h_13⟩ := asRt_spec h_12
 obtain ⟨rfl, h_14⟩ := asM_spec h_13
 exact fin_opt (l_markGather_3874_eq d3 d6 d9 d10 d12) (l_markGather_3874_spec d3 d6 d9 d10 d12) h_14
end Go.Proofs.Ytohnlghdhbignaa

namespace Go.Proofs.Ytohnlghdhbignaa
open Go Go.Abs Go.Proofs
noncomputable def l_markDeedS_cc7b_l2 : (Int × Int × (List TDeed)) → Tre ((Int × Int × (List TDeed)) ⊕ (Int × (List TDeed))) := fun s2 =>
 .cond (decide (s2.2.1 < (s2.2.2.length : Int)))
  (.ite (0 ≤ s2.2.1 ∧ s2.2.1 < (s2.2.2.length : Int)) <|
  .mat (s2.2.2[s2.2.1.toNat]?) fun x1 =>
  let v2 := s2.2.2.set s2.2.1.toNat (s2.1, x1.2)
  .ite (0 ≤ s2.2.1 ∧ s2.2.1 < (v2.length : Int)) <|
  .mat (v2[s2.2.1.toNat]?) fun x3 =>
  let v4 := v2.set s2.2.1.toNat (x3.1, (iwrap .i64 (s2.1 + 1), x3.2.2))
  let v5 := iwrap .i64 ((iwrap .i64 (s2.1 + 1)) + 1)
  .ite (0 ≤ s2.2.1 ∧ s2.2.1 < (v4.length : Int)) <|
  .mat (v4[s2.2.1.toNat]?) fun x6 =>
  let v7 := v4.set s2.2.1.toNat (x6.1, (x6.2.1, (v5, x6.2.2.2)))
  .ite (0 ≤ s2.2.1 ∧ s2.2.1 < (v7.length : Int)) <|
  .mat (v7[s2.2.1.toNat]?) fun x8 =>
  let v9 := v7.set s2.2.1.toNat (x8.1, (x8.2.1, (x8.2.2.1, (iwrap .i64 (v5 + 1), x8.2.2.2.2))))
  let v10 := iwrap .i64 ((iwrap .i64 (v5 + 1)) + 1)
  .ret (.inl (v10, iwrap .i64 (s2.2.1 + 1), v9)))
  (.ret (.inr (s2.1, s2.2.2)))
noncomputable def l_markDeedS_cc7b (p0 : Int) (p1 : (List TDeed)) : Tre (Int × (List TDeed)) :=
 .mat (loopF l_markDeedS_cc7b_l2 (p0, 0, p1)) fun l11 =>
 .ret (l11.1, l11.2)
noncomputable def l_markDeedS_cc7b_F (p0 : Int) (p1 : (List TDeed)) : Option (Int × (List TDeed)) := (l_markDeedS_cc7b p0 p1).run some
def markOf (k : Int) (i : Nat) : Int × Int × Int × Int × Unit := (k + 4 * (i : Int), k + 4 * (i : Int) + 1, k + 4 * (i : Int) + 2, k + 4 * (i : Int) + 3, ())
def dmarks (k : Int) (n : Nat) : List (Int × Int × Int × Int × Unit) := (List.range' 0 n).map (markOf k)
def markD (k : Int) (ds : List (Int × Int × Int × Int × Unit)) : Option (Int × List (Int × Int × Int × Int × Unit)) :=
 askO (inR k 0 4194304 && decide (ds.length ≤ 1048576)) (k + 4 * (ds.length : Int), dmarks k ds.length)
theorem foldE_setf {α β γ : Type} (f : Nat → γ) (fin : List γ → β) : ∀ (l : List α) (i : Nat) (acc : List γ), acc.length = i + l.length → foldE (fun i acc _ => (.inl (acc.set i (f i)) : List γ ⊕ β)) fin i acc l = fin (acc.take i ++ (List.range' i l.length).map f) := by
 intro l
 induction l with
 | nil => intro i acc h; simp only [foldE, List.length_nil, List.range'_zero, List.map_nil, List.append_nil]; rw [List.take_of_length_le (by simp at h; omega)]
 | cons x l ih =>
  intro i acc h
  simp only [foldE, List.length_cons] at h ⊢
  rw [ih (i + 1) _ (by simp; omega), List.range'_succ, List.map_cons]
  congr 1
  have hi : i < acc.length := by omega
  rw [List.take_add_one, List.getElem?_set, if_pos rfl, if_pos hi, List.take_set_of_le (Nat.le_refl i)]
  simp
theorem l_markDeedS_cc7b_spec (p0 : Int) (p1 : List (Int × Int × Int × Int × Unit)) (y : Int × List (Int × Int × Int × Int × Unit)) (h : markD p0 p1 = some y) : l_markDeedS_cc7b_F p0 p1 = some y := by
 obtain ⟨hok, rfl⟩ := askO_some h
 simp only [Bool.and_eq_true, decide_eq_true_eq, inR_iff] at hok
 obtain ⟨hk, hl⟩ := hok
 unfold l_markDeedS_cc7b_F l_markDeedS_cc7b
 have := fold_loop (xs := p1) (step := l_markDeedS_cc7b_l2) (fun i acc => (p0 + 4 * (i : Int), (i : Int), acc)) (fun i acc _ => .inl (acc.set i (markOf p0 i))) (fun acc => (p0 + 4 * (p1.length : Int), acc)) (fun i acc => acc.length = p1.length) (by
  intro i acc x hx hI
  have hi : i < p1.length := (List.getElem?_eq_some_iff.1 hx).1
  have hI : acc.length = p1.length := hI
  refine ⟨?_, fun a ha => by cases ha; simpa using hI⟩
  have w1 : iwrap .i64 (p0 + 4 * (i : Int) + 1) = p0 + 4 * (i : Int) + 1 := iwrap_i64 (by omega) (by omega)
  have w2 : iwrap .i64 (p0 + 4 * (i : Int) + 1 + 1) = p0 + 4 * (i : Int) + 2 := by rw [iwrap_i64 (by omega) (by omega)]; omega
  have w3 : iwrap .i64 (p0 + 4 * (i : Int) + 2 + 1) = p0 + 4 * (i : Int) + 3 := by rw [iwrap_i64 (by omega) (by omega)]; omega
  have w4 : iwrap .i64 (p0 + 4 * (i : Int) + 3 + 1) = p0 + 4 * ((i + 1 : Nat) : Int) := by rw [iwrap_i64 (by omega) (by omega)]; omega
  have hs : ∀ (l : List (Int × Int × Int × Int × Unit)) a, l.length = p1.length → (l.set i a)[i]? = some a := fun l a hl => by rw [List.getElem?_set, if_pos rfl, if_pos (by omega)]
  unfold l_markDeedS_cc7b_l2
  rw [run_inb (List.getElem?_eq_getElem (by omega : i < acc.length))]
  simp only [w1, w2, w3, w4, Int.toNat_natCast]
  rw [run_at2 (hs _ _ hI), run_at2 (hs _ _ (by simpa using hI)), run_at2 (hs _ _ (by simpa using hI)), Tre.run_ret, iwrap_succ (by omega)]
  simp only [List.set_set, markOf])
  (by
  intro acc hI
  unfold l_markDeedS_cc7b_l2
  rw [← show acc.length = p1.length from hI]
  exact run_out) p1 0 p1 rfl (Nat.zero_le _) rfl
 rw [foldE_setf (markOf p0) _ _ _ _ (by simp)] at this
 have h1 : loopF l_markDeedS_cc7b_l2 (p0, 0, p1) = some (p0 + 4 * (p1.length : Int), dmarks p0 p1.length) := by
  simpa [dmarks] using this
 rw [run_some_mat h1]
 rfl
noncomputable def l_markDeedS_cc7b_V : Env := ⟨tau, [], []⟩
noncomputable def l_markDeedS_cc7b_b : Code := (Try.f27.body).getD .skip
noncomputable def l_markDeedS_cc7b_l2_mk : (Int × Int × (List TDeed)) → St := fun x => stOf [(0, (.ref (0, 0) [])), (1, (.imm true (.int .i64) x.1)), (5, (.imm true (.int .i64) x.2.1))] [((0, 0), some ⟨false, (.sl kDeed), .own, x.2.2⟩)]
noncomputable def l_markDeedS_cc7b_l2_out : (Int × (List TDeed)) → Ex × St := fun x => (.exit 0, stOf [(1, (.imm true (.int .i64) x.1))] [((0, 0), some ⟨false, (.sl kDeed), .own, x.2⟩)])
noncomputable def l_markDeedS_cc7b_l2_D (s : St) : Tre (Ex × St) :=
 asRef (0, 0) [] (s.tmps 0) <|
 asImmZ true (.int .i64) (s.tmps 1) fun d3 =>
 asImmZ true (.int .i64) (s.tmps 5) fun d5 =>
 asRoot false (.sl kDeed) (s.roots (0, 0)) fun m7 d8 =>
 asM .own m7 <|
 .mat (loopF l_markDeedS_cc7b_l2 (d3, d5, d8)) fun x => .ret (l_markDeedS_cc7b_l2_out x)
noncomputable def l_markDeedS_cc7b_l2_L : LoopI := ⟨([0, 1, 5], [(0, 0)]), ([1], [(0, 0)]), l_markDeedS_cc7b_l2_D⟩
noncomputable def l_markDeedS_cc7b_A : List (Nat × LoopI) := [(2, l_markDeedS_cc7b_l2_L)]
set_option maxRecDepth 100000 in
theorem l_markDeedS_cc7b_l2_step : ∀ (x : (Int × Int × (List TDeed))) (c : St → Option (Ex × St)), den l_markDeedS_cc7b_V l_markDeedS_cc7b_A (loopAt l_markDeedS_cc7b_b 0) (l_markDeedS_cc7b_l2_mk x) (roundK l_markDeedS_cc7b_l2_L.kp l_markDeedS_cc7b_l2_L.kx c) = (l_markDeedS_cc7b_l2 x).run (roundR (l_markDeedS_cc7b_l2_mk) (l_markDeedS_cc7b_l2_out) c) := fun _ _ => by
 kernel_rfl
theorem l_markDeedS_cc7b_l2_ok : LoopOK l_markDeedS_cc7b_V l_markDeedS_cc7b_A (loopAt l_markDeedS_cc7b_b 0) l_markDeedS_cc7b_l2_L := loopOK_of fun s e s' h => by
 generalize hs : restrict l_markDeedS_cc7b_l2_L.kp s = s1 at h
 have h : (l_markDeedS_cc7b_l2_D s1).run some = some (e, s') := h
 obtain ⟨e1, h_0⟩ := asRef_spec h
 obtain ⟨d3, e2, h_1⟩ := asImmZ_spec h_0
 obtain ⟨d5, e4, h_2⟩ := asImmZ_spec h_1
 obtain ⟨m7, d8, e6, h_3⟩ := asRoot_spec h_2
 obtain ⟨rfl, h_4⟩ := asM_spec h_3
 obtain ⟨y, hy, hz⟩ := mat_ret h_4
 refine ⟨_, _, l_markDeedS_cc7b_l2_mk, l_markDeedS_cc7b_l2_out, l_markDeedS_cc7b_l2, (d3, d5, d8), y, ?_, hy, ?_, l_markDeedS_cc7b_l2_step⟩
 ·subst hs; exact restrict_eq (T := [(0, (.ref (0, 0) [])), (1, (.imm true (.int .i64) d3)), (5, (.imm true (.int .i64) d5))]) (U := [((0, 0), some ⟨false, (.sl kDeed), .own, d8⟩)]) rfl rfl ⟨e1, e2, e4, trivial⟩ ⟨e6, trivial⟩
 ·exact Option.some.inj hz
noncomputable def l_markDeedS_cc7b_I : FnI := ⟨l_markDeedS_cc7b_b, Try.f27.results.toList, Try.f27.resultTypes.toList, l_markDeedS_cc7b_A⟩
noncomputable def l_markDeedS_cc7b_out (_p0 : Int) (_p1 : (List TDeed)) : (Int × (List TDeed)) → CallOut := fun r => ⟨(.imm true (.int .i64) r.1), [⟨false, (.sl kDeed), .own, r.2⟩], []⟩
set_option maxRecDepth 100000 in
theorem l_markDeedS_cc7b_eq : ∀ (p0 : Int) (p1 : (List TDeed)), denFn l_markDeedS_cc7b_V l_markDeedS_cc7b_I ⟨[(.ref (0, 0) []), (.imm true (.int .i64) p0)], [⟨false, (.sl kDeed), .own, p1⟩]⟩ = (l_markDeedS_cc7b p0 p1).run fun r => some (l_markDeedS_cc7b_out p0 p1 r) := fun _ _ => by kernel_rfl
noncomputable def l_markDeedS_cc7b_G (av : List AV) (rs : List Root) : Tre CallOut :=
 asCons av fun a0_ av0 =>
 asCons av0 fun a1_ av1 =>
 asEnd av1 <|
 asCons rs fun r0_ rs0 =>
 asEnd rs0 <|
 asRef (0, 0) [] a0_ <|
 asImmZ true (.int .i64) a1_ fun d1 =>
 asRt false (.sl kDeed) r0_ fun m2 d3 =>
 asM .own m2 <|
 .mat (markD d1 d3) fun r => .ret (l_markDeedS_cc7b_out d1 d3 r)
noncomputable def l_markDeedS_cc7b_c : Ctr := ⟨[0], fun ci => l_markDeedS_cc7b_G ci.args ci.roots, false⟩
theorem l_markDeedS_cc7b_env : EnvOK Try.prog l_markDeedS_cc7b_V := envOK_nil
set_option maxRecDepth 100000 in
theorem l_markDeedS_cc7b_ok : Contract Try.prog 27 l_markDeedS_cc7b_c := by
 have hl : LoopsOK l_markDeedS_cc7b_V l_markDeedS_cc7b_A l_markDeedS_cc7b_b := (loopsOK_all (n := 1) (by kernel_rfl) fun k hk => by
   match k, hk with
   | 0, _ => exact loopOK_at (id := 2) (L := l_markDeedS_cc7b_l2_L) (by kernel_rfl) (by kernel_rfl) l_markDeedS_cc7b_l2_ok)
 refine (contract_of (F := l_markDeedS_cc7b_I) tau_tys l_markDeedS_cc7b_env Try.func27 (by kernel_rfl) (by kernel_rfl) (by kernel_rfl) hl [0]).weaken ?_
 rintro ⟨av, rs⟩ co h
 have h : (l_markDeedS_cc7b_G av rs).run some = some co := h
 obtain ⟨a0_, av0, rfl, h_0⟩ := asCons_spec h
 obtain ⟨a1_, av1, rfl, h_1⟩ := asCons_spec h_0
 obtain ⟨rfl, h_2⟩ := asEnd_spec h_1
 obtain ⟨r0_, rs0, rfl, h_3⟩ := asCons_spec h_2
 obtain ⟨rfl, h_4⟩ := asEnd_spec h_3
 obtain ⟨rfl, h_5⟩ := asRef_spec h_4
 obtain ⟨d1, rfl, h_6⟩ := asImmZ_spec h_5
 obtain ⟨m2, d3, rfl, h_7⟩ := asRt_spec h_6
 obtain ⟨rfl, h_8⟩ := asM_spec h_7
 exact fin_opt (l_markDeedS_cc7b_eq d1 d3) (l_markDeedS_cc7b_spec d1 d3) h_8
end Go.Proofs.Ytohnlghdhbignaa

namespace Go.Proofs.Ytohnlghdhbignaa
open Go Go.Abs Go.Proofs
noncomputable def l_markInt64S_df1e_l2 : (Int × Int × (List Int)) → Tre ((Int × Int × (List Int)) ⊕ (Int × (List Int))) := fun s2 =>
 .cond (decide (s2.2.1 < (s2.2.2.length : Int)))
  (.ite (0 ≤ s2.2.1 ∧ s2.2.1 < (s2.2.2.length : Int)) <|
  .mat (s2.2.2[s2.2.1.toNat]?) fun _ =>
  let v2 := s2.2.2.set s2.2.1.toNat s2.1
  .ret (.inl (iwrap .i64 (s2.1 + 1), iwrap .i64 (s2.2.1 + 1), v2)))
  (.ret (.inr (s2.1, s2.2.2)))
noncomputable def l_markInt64S_df1e (p0 : Int) (p1 : (List Int)) : Tre (Int × (List Int)) :=
 .mat (loopF l_markInt64S_df1e_l2 (p0, 0, p1)) fun l3 =>
 .ret (l3.1, l3.2)
noncomputable def l_markInt64S_df1e_F (p0 : Int) (p1 : (List Int)) : Option (Int × (List Int)) := (l_markInt64S_df1e p0 p1).run some
def markR (k : Int) (xs : List Int) : Option (Int × List Int) := askO (inR k 0 1048576 && decide (xs.length ≤ 1048576)) (k + (xs.length : Int), marks k xs.length)
theorem l_markInt64S_df1e_spec (p0 : Int) (p1 : List Int) (y : Int × List Int) (h : markR p0 p1 = some y) : l_markInt64S_df1e_F p0 p1 = some y := by
 obtain ⟨hok, rfl⟩ := askO_some h
 simp only [Bool.and_eq_true, decide_eq_true_eq, inR_iff] at hok
 obtain ⟨hk, hl⟩ := hok
 unfold l_markInt64S_df1e_F l_markInt64S_df1e
 have := fold_loop (xs := p1) (step := l_markInt64S_df1e_l2) (fun i acc => (p0 + (i : Int), (i : Int), acc)) (fun i acc _ => .inl (acc.set i (p0 + (i : Int)))) (fun acc => (p0 + (p1.length : Int), acc)) (fun i acc => acc.length = p1.length) (by
  intro i acc x hx hI
  have hi : i < p1.length := (List.getElem?_eq_some_iff.1 hx).1
  refine ⟨?_, fun a ha => by cases ha; simpa using hI⟩
  unfold l_markInt64S_df1e_l2
  rw [run_inb (List.getElem?_eq_getElem (by omega : i < acc.length))]
  dsimp only
  rw [Tre.run_ret, iwrap_succ (by omega), iwrap_i64 (by omega) (by omega), Int.toNat_natCast]
  simp only [Int.natCast_add, Int.natCast_one, Int.add_assoc])
  (by
  intro acc hI
  unfold l_markInt64S_df1e_l2
  rw [← show acc.length = p1.length from hI]
  exact run_out) p1 0 p1 rfl (Nat.zero_le _) rfl
 rw [foldE_marks _ _ _ _ _ (by simp)] at this
 have h1 : loopF l_markInt64S_df1e_l2 (p0, 0, p1) = some (p0 + (p1.length : Int), marks p0 p1.length) := by
  simpa [marks] using this
 rw [run_some_mat h1]
 rfl
noncomputable def l_markInt64S_df1e_V : Env := ⟨tau, [], []⟩
noncomputable def l_markInt64S_df1e_b : Code := (Try.f58.body).getD .skip
noncomputable def l_markInt64S_df1e_l2_mk : (Int × Int × (List Int)) → St := fun x => stOf [(0, (.ref (0, 0) [])), (1, (.imm true (.int .i64) x.1)), (5, (.imm true (.int .i64) x.2.1))] [((0, 0), some ⟨false, (.sl (.int .i64)), .own, x.2.2⟩)]
noncomputable def l_markInt64S_df1e_l2_out : (Int × (List Int)) → Ex × St := fun x => (.exit 0, stOf [(1, (.imm true (.int .i64) x.1))] [((0, 0), some ⟨false, (.sl (.int .i64)), .own, x.2⟩)])
noncomputable def l_markInt64S_df1e_l2_D (s : St) : Tre (Ex × St) :=
 asRef (0, 0) [] (s.tmps 0) <|
 asImmZ true (.int .i64) (s.tmps 1) fun d3 =>
 asImmZ true (.int .i64) (s.tmps 5) fun d5 =>
 asRoot false (.sl (.int .i64)) (s.roots (0, 0)) fun m7 d8 =>
 asM .own m7 <|
 .mat (loopF l_markInt64S_df1e_l2 (d3, d5, d8)) fun x => .ret (l_markInt64S_df1e_l2_out x)
noncomputable def l_markInt64S_df1e_l2_L : LoopI := ⟨([0, 1, 5], [(0, 0)]), ([1], [(0, 0)]), l_markInt64S_df1e_l2_D⟩
noncomputable def l_markInt64S_df1e_A : List (Nat × LoopI) := [(2, l_markInt64S_df1e_l2_L)]
set_option maxRecDepth 100000 in
theorem l_markInt64S_df1e_l2_step : ∀ (x : (Int × Int × (List Int))) (c : St → Option (Ex × St)), den l_markInt64S_df1e_V l_markInt64S_df1e_A (loopAt l_markInt64S_df1e_b 0) (l_markInt64S_df1e_l2_mk x) (roundK l_markInt64S_df1e_l2_L.kp l_markInt64S_df1e_l2_L.kx c) = (l_markInt64S_df1e_l2 x).run (roundR (l_markInt64S_df1e_l2_mk) (l_markInt64S_df1e_l2_out) c) := fun _ _ => by
 kernel_rfl
theorem l_markInt64S_df1e_l2_ok : LoopOK l_markInt64S_df1e_V l_markInt64S_df1e_A (loopAt l_markInt64S_df1e_b 0) l_markInt64S_df1e_l2_L := loopOK_of fun s e s' h => by
 generalize hs : restrict l_markInt64S_df1e_l2_L.kp s = s1 at h
 have h : (l_markInt64S_df1e_l2_D s1).run some = some (e, s') := h
 obtain ⟨e1, h_0⟩ := asRef_spec h
 obtain ⟨d3, e2, h_1⟩ := asImmZ_spec h_0
 obtain ⟨d5, e4, h_2⟩ := asImmZ_spec h_1
 obtain ⟨m7, d8, e6, h_3⟩ := asRoot_spec h_2
 obtain ⟨rfl, h_4⟩ := asM_spec h_3
 obtain ⟨y, hy, hz⟩ := mat_ret h_4
 refine ⟨_, _, l_markInt64S_df1e_l2_mk, l_markInt64S_df1e_l2_out, l_markInt64S_df1e_l2, (d3, d5, d8), y, ?_, hy, ?_, l_markInt64S_df1e_l2_step⟩
 ·subst hs; exact restrict_eq (T := [(0, (.ref (0, 0) [])), (1, (.imm true (.int .i64) d3)), (5, (.imm true (.int .i64) d5))]) (U := [((0, 0), some ⟨false, (.sl (.int .i64)), .own, d8⟩)]) rfl rfl ⟨e1, e2, e4, trivial⟩ ⟨e6, trivial⟩
 ·exact Option.some.inj hz
noncomputable def l_markInt64S_df1e_I : FnI := ⟨l_markInt64S_df1e_b, Try.f58.results.toList, Try.f58.resultTypes.toList, l_markInt64S_df1e_A⟩
noncomputable def l_markInt64S_df1e_out (_p0 : Int) (_p1 : (List Int)) : (Int × (List Int)) → CallOut := fun r => ⟨(.imm true (.int .i64) r.1), [⟨false, (.sl (.int .i64)), .own, r.2⟩], []⟩
set_option maxRecDepth 100000 in
theorem l_markInt64S_df1e_eq : ∀ (p0 : Int) (p1 : (List Int)), denFn l_markInt64S_df1e_V l_markInt64S_df1e_I ⟨[(.ref (0, 0) []), (.imm true (.int .i64) p0)], [⟨false, (.sl (.int .i64)), .own, p1⟩]⟩ = (l_markInt64S_df1e p0 p1).run fun r => some (l_markInt64S_df1e_out p0 p1 r) := fun _ _ => by kernel_rfl
noncomputable def l_markInt64S_df1e_G (av : List AV) (rs : List Root) : Tre CallOut :=
 asCons av fun a0_ av0 =>
 asCons av0 fun a1_ av1 =>
 asEnd av1 <|
 asCons rs fun r0_ rs0 =>
 asEnd rs0 <|
 asRef (0, 0) [] a0_ <|
 asImmZ true (.int .i64) a1_ fun d1 =>
 asRt false (.sl (.int .i64)) r0_ fun m2 d3 =>
 asM .own m2 <|
 .mat (markR d1 d3) fun r => .ret (l_markInt64S_df1e_out d1 d3 r)
noncomputable def l_markInt64S_df1e_c : Ctr := ⟨[0], fun ci => l_markInt64S_df1e_G ci.args ci.roots, false⟩
theorem l_markInt64S_df1e_env : EnvOK Try.prog l_markInt64S_df1e_V := envOK_nil
set_option maxRecDepth 100000 in
theorem l_markInt64S_df1e_ok : Contract Try.prog 58 l_markInt64S_df1e_c := by
 have hl : LoopsOK l_markInt64S_df1e_V l_markInt64S_df1e_A l_markInt64S_df1e_b := (loopsOK_all (n := 1) (by kernel_rfl) fun k hk => by
   match k, hk with
   | 0, _ => exact loopOK_at (id := 2) (L := l_markInt64S_df1e_l2_L) (by kernel_rfl) (by kernel_rfl) l_markInt64S_df1e_l2_ok)
 refine (contract_of (F := l_markInt64S_df1e_I) tau_tys l_markInt64S_df1e_env Try.func58 (by kernel_rfl) (by kernel_rfl) (by kernel_rfl) hl [0]).weaken ?_
 rintro ⟨av, rs⟩ co h
 have h : (l_markInt64S_df1e_G av rs).run some = some co := h
 obtain ⟨a0_, av0, rfl, h_0⟩ := asCons_spec h
 obtain ⟨a1_, av1, rfl, h_1⟩ := asCons_spec h_0
 obtain ⟨rfl, h_2⟩ := asEnd_spec h_1
 obtain ⟨r0_, rs0, rfl, h_3⟩ := asCons_spec h_2
 obtain ⟨rfl, h_4⟩ := asEnd_spec h_3
 obtain ⟨rfl, h_5⟩ := asRef_spec h_4
 obtain ⟨d1, rfl, h_6⟩ := asImmZ_spec h_5
 obtain ⟨m2, d3, rfl, h_7⟩ := asRt_spec h_6
 obtain ⟨rfl, h_8⟩ := asM_spec h_7
 exact fin_opt (l_markInt64S_df1e_eq d1 d3) (l_markInt64S_df1e_spec d1 d3) h_8
end Go.Proofs.Ytohnlghdhbignaa

namespace Go.Proofs.Ytohnlghdhbignaa
open Go Go.Abs Go.Proofs
noncomputable def l_markInt64S_94fb_F (p0 : Nat) (p1 : Int) (p2 : (List TStation)) : Option (Int × (List TStation)) :=
 (p2[p0]?).bind fun x => (markR p1 x.1).map fun r => (r.1, p2.set p0 (r.2, x.2))
noncomputable def l_markInt64S_94fb_out : (Int × (List TStation)) → CallOut := fun r => ⟨.imm true (.int .i64) r.1, [⟨false, (.sl kStation), .own, r.2⟩], []⟩
noncomputable def l_markInt64S_94fb_G (av : List AV) (rs : List Root) : Tre CallOut :=
 asCons av fun a0_ av0 =>
 asCons av0 fun a1_ av1 =>
 asEnd av1 <|
 asCons rs fun r0_ rs0 =>
 asEnd rs0 <|
 asRef1 (0, 0) [.idx 0, .fst] a0_ fun i1 =>
 asImmZ true (.int .i64) a1_ fun d2 =>
 asRt false (.sl kStation) r0_ fun m3 d4 =>
 asM .own m3 <|
 .mat (l_markInt64S_94fb_F i1 d2 d4) fun r => .ret (l_markInt64S_94fb_out r)
noncomputable def l_markInt64S_94fb_c : Ctr := ⟨[0], fun ci => l_markInt64S_94fb_G ci.args ci.roots, true⟩
set_option maxRecDepth 100000 in
theorem l_markInt64S_94fb_ok : Contract Try.prog 58 l_markInt64S_94fb_c := by
 refine Contract.soften (e := (.int .i64)) (by kernel_rfl) l_markInt64S_df1e_ok ?_
 rintro ⟨av, rs⟩ co h
 have h : (l_markInt64S_94fb_G av rs).run some = some co := h
 obtain ⟨a0_, av0, rfl, h_0⟩ := asCons_spec h
 obtain ⟨a1_, av1, rfl, h_1⟩ := asCons_spec h_0
 obtain ⟨rfl, h_2⟩ := asEnd_spec h_1
 obtain ⟨r0_, rs0, rfl, h_3⟩ := asCons_spec h_2
 obtain ⟨rfl, h_4⟩ := asEnd_spec h_3
 obtain ⟨i1, rfl, h_5⟩ := asRef1_spec h_4
 obtain ⟨d2, rfl, h_6⟩ := asImmZ_spec h_5
 obtain ⟨m3, d4, rfl, h_7⟩ := asRt_spec h_6
 obtain ⟨rfl, h_8⟩ := asM_spec h_7
 obtain ⟨y, h1, h2⟩ := mat_ret h_8
 unfold l_markInt64S_94fb_F at h1
 obtain ⟨x, hx, h1⟩ := Option.bind_eq_some_iff.1 h1
 obtain ⟨r, hr, rfl⟩ := Option.map_eq_some_iff.1 h1
 cases h2
 refine ⟨[.idx i1, .fst], [(.imm true (.int .i64) d2)], ⟨false, (.sl kStation), .own, d4⟩, x.1, r.2, (d4.set i1 (r.2, x.2)), .own, (.int .i64), r.1, rfl, by kernel_rfl, ?_, by (simp only [getP, hx]; first | done | rfl), by (simp only [setP, hx]; first | done | rfl), ?_, rfl⟩
 ·intro a ha; simp only [List.mem_cons, List.not_mem_nil, or_false] at ha; rcases ha with rfl <;> exact ⟨_, _, _, rfl⟩
 ·exact (run_some_mat (show markR d2 x.1 = _ from hr)).trans rfl
end Go.Proofs.Ytohnlghdhbignaa

namespace Go.Proofs.Ytohnlghdhbignaa
open Go Go.Abs Go.Proofs
noncomputable def l_markInt64S_7bbb_F (p0 : Nat) (p1 : Int) (p2 : (List TStation)) : Option (Int × (List TStation)) :=
 (p2[p0]?).bind fun x => (markR p1 x.2.1).map fun r => (r.1, p2.set p0 (x.1, (r.2, x.2.2)))
noncomputable def l_markInt64S_7bbb_out : (Int × (List TStation)) → CallOut := fun r => ⟨.imm true (.int .i64) r.1, [⟨false, (.sl kStation), .own, r.2⟩], []⟩
noncomputable def l_markInt64S_7bbb_G (av : List AV) (rs : List Root) : Tre CallOut :=
 asCons av fun a0_ av0 =>
 asCons av0 fun a1_ av1 =>
 asEnd av1 <|
 asCons rs fun r0_ rs0 =>
 asEnd rs0 <|
 asRef1 (0, 0) [.idx 0, .snd, .fst] a0_ fun i1 =>
 asImmZ true (.int .i64) a1_ fun d2 =>
 asRt false (.sl kStation) r0_ fun m3 d4 =>
 asM .own m3 <|
 .mat (l_markInt64S_7bbb_F i1 d2 d4) fun r => .ret (l_markInt64S_7bbb_out r)
noncomputable def l_markInt64S_7bbb_c : Ctr := ⟨[0], fun ci => l_markInt64S_7bbb_G ci.args ci.roots, true⟩
set_option maxRecDepth 100000 in
theorem l_markInt64S_7bbb_ok : Contract Try.prog 58 l_markInt64S_7bbb_c := by
 refine Contract.soften (e := (.int .i64)) (by kernel_rfl) l_markInt64S_df1e_ok ?_
 rintro ⟨av, rs⟩ co h
 have h : (l_markInt64S_7bbb_G av rs).run some = some co := h
 obtain ⟨a0_, av0, rfl, h_0⟩ := asCons_spec h
 obtain ⟨a1_, av1, rfl, h_1⟩ := asCons_spec h_0
 obtain ⟨rfl, h_2⟩ := asEnd_spec h_1
 obtain ⟨r0_, rs0, rfl, h_3⟩ := asCons_spec h_2
 obtain ⟨rfl, h_4⟩ := asEnd_spec h_3
 obtain ⟨i1, rfl, h_5⟩ := asRef1_spec h_4
 obtain ⟨d2, rfl, h_6⟩ := asImmZ_spec h_5
 obtain ⟨m3, d4, rfl, h_7⟩ := asRt_spec h_6
 obtain ⟨rfl, h_8⟩ := asM_spec h_7
 obtain ⟨y, h1, h2⟩ := mat_ret h_8
 unfold l_markInt64S_7bbb_F at h1
 obtain ⟨x, hx, h1⟩ := Option.bind_eq_some_iff.1 h1
 obtain ⟨r, hr, rfl⟩ := Option.map_eq_some_iff.1 h1
 cases h2
 refine ⟨[.idx i1, .snd, .fst], [(.imm true (.int .i64) d2)], ⟨false, (.sl kStation), .own, d4⟩, x.2.1, r.2, (d4.set i1 (x.1, (r.2, x.2.2))), .own, (.int .i64), r.1, rfl, by kernel_rfl, ?_, by (simp only [getP, hx]; first | done | rfl), by (simp only [setP, hx]; first | done | rfl), ?_, rfl⟩
 ·intro a ha; simp only [List.mem_cons, List.not_mem_nil, or_false] at ha; rcases ha with rfl <;> exact ⟨_, _, _, rfl⟩
 ·exact (run_some_mat (show markR d2 x.2.1 = _ from hr)).trans rfl
end Go.Proofs.Ytohnlghdhbignaa

namespace Go.Proofs.Ytohnlghdhbignaa
open Go Go.Abs Go.Proofs
noncomputable def l_markStationS_3cf2_l2 : (Int × Int × (List TStation)) → Tre ((Int × Int × (List TStation)) ⊕ (Int × (List TStation))) := fun s2 =>
 .cond (decide (s2.2.1 < (s2.2.2.length : Int)))
  (.ite (0 ≤ s2.2.1 ∧ s2.2.1 < (s2.2.2.length : Int)) <|
  .mat (s2.2.2[s2.2.1.toNat]?) fun _ =>
  .mat (l_markInt64S_94fb_F s2.2.1.toNat s2.1 s2.2.2) fun r2 =>
  .ite (0 ≤ s2.2.1 ∧ s2.2.1 < (r2.2.length : Int)) <|
  .mat (r2.2[s2.2.1.toNat]?) fun _ =>
  .mat (l_markInt64S_7bbb_F s2.2.1.toNat r2.1 r2.2) fun r4 =>
  .ret (.inl (r4.1, iwrap .i64 (s2.2.1 + 1), r4.2)))
  (.ret (.inr (s2.1, s2.2.2)))
noncomputable def l_markStationS_3cf2 (p0 : Int) (p1 : (List TStation)) : Tre (Int × (List TStation)) :=
 .mat (loopF l_markStationS_3cf2_l2 (p0, 0, p1)) fun l5 =>
 .ret (l5.1, l5.2)
noncomputable def l_markStationS_3cf2_F (p0 : Int) (p1 : (List TStation)) : Option (Int × (List TStation)) := (l_markStationS_3cf2 p0 p1).run some
-- more
def stEnd : Int → List (List Int × List Int × Unit) → Int
 | k, [] => k
 | k, s :: l => stEnd (k + (s.1.length : Int) + (s.2.1.length : Int)) l
def stMarks : Int → List (List Int × List Int × Unit) → List (List Int × List Int × Unit)
 | _, [] => []
 | k, s :: l => (marks k s.1.length, marks (k + (s.1.length : Int)) s.2.1.length, ()) :: stMarks (k + (s.1.length : Int) + (s.2.1.length : Int)) l
theorem stEnd_le : ∀ (l : List (List Int × List Int × Unit)) (k : Int), (∀ s ∈ l, s.1.length ≤ 1000 ∧ s.2.1.length ≤ 1000) → k ≤ stEnd k l ∧ stEnd k l ≤ k + 2000 * (l.length : Int) := by
 intro l
 induction l with
 | nil => intro k _; simp [stEnd]
 | cons s l ih =>
  intro k h
  have h1 := h s (List.mem_cons_self)
  have := ih (k + (s.1.length : Int) + (s.2.1.length : Int)) fun s hs => h s (List.mem_cons_of_mem _ hs)
  simp only [stEnd, List.length_cons]
  omega
theorem mark_ok {k : Int} {xs : List Int} (h0 : 0 ≤ k ∧ k ≤ 1000000) (hl : xs.length ≤ 1000) : markR k xs = some (k + (xs.length : Int), marks k xs.length) := askO_true (by rw [Bool.and_eq_true, inR_iff, decide_eq_true_eq]; omega)
theorem marks_len (k : Int) (n : Nat) : (marks k n).length = n := by simp [marks]
theorem mark_stations : ∀ (l pre : List (List Int × List Int × Unit)) (k : Int), 0 ≤ k → k + 2000 * (l.length : Int) ≤ 1000000 → pre.length + l.length ≤ 1000 → (∀ s ∈ l, s.1.length ≤ 1000 ∧ s.2.1.length ≤ 1000) →
  loopF l_markStationS_3cf2_l2 (k, (pre.length : Int), pre ++ l) = some (stEnd k l, pre ++ stMarks k l) := by
 intro l
 induction l with
 | nil =>
  intro pre k _ _ _ _
  refine loopF_done ?_
  unfold l_markStationS_3cf2_l2
  rw [Tre.run_cond, decide_eq_false (by simp), cond_false, Tre.run_ret]
  rfl
 | cons s l ih =>
  intro pre k h0 hk hp h
  obtain ⟨s1, s2, ⟨⟩⟩ := s
  have hs := h (s1, s2, ()) (List.mem_cons_self)
  simp only [List.length_cons] at hk hs hp
  have hx : (pre ++ (s1, s2, ()) :: l)[pre.length]? = some (s1, s2, ()) := by simp
  have hx2 : (pre ++ (marks k s1.length, s2, ()) :: l)[pre.length]? = some (marks k s1.length, s2, ()) := by simp
  have e1 : l_markInt64S_94fb_F pre.length k (pre ++ (s1, s2, ()) :: l) = some (k + (s1.length : Int), pre ++ (marks k s1.length, s2, ()) :: l) := by
   unfold l_markInt64S_94fb_F
   rw [hx, Option.bind_some, mark_ok (by omega) hs.1, Option.map_some]
   simp
  have e2 : l_markInt64S_7bbb_F pre.length (k + (s1.length : Int)) (pre ++ (marks k s1.length, s2, ()) :: l) = some (k + (s1.length : Int) + (s2.length : Int), pre ++ (marks k s1.length, marks (k + (s1.length : Int)) s2.length, ()) :: l) := by
   unfold l_markInt64S_7bbb_F
   rw [hx2, Option.bind_some, mark_ok (by omega) hs.2, Option.map_some]
   simp
  have hstep : (l_markStationS_3cf2_l2 (k, (pre.length : Int), pre ++ (s1, s2, ()) :: l)).run some = some (.inl (k + (s1.length : Int) + (s2.length : Int), ((pre.length + 1 : Nat) : Int), pre ++ (marks k s1.length, marks (k + (s1.length : Int)) s2.length, ()) :: l)) := by
   unfold l_markStationS_3cf2_l2
   dsimp only
   rw [Tre.run_cond, decide_eq_true (by simp; omega), cond_true, Tre.run_ite, if_pos ⟨by omega, by simp; omega⟩, Int.toNat_natCast, run_some_mat hx, run_some_mat e1]
   dsimp only
   rw [Tre.run_ite, if_pos ⟨by omega, by simp; omega⟩, run_some_mat hx2, run_some_mat e2, Tre.run_ret, iwrap_succ (by omega)]
  rw [loopF_step hstep]
  have := ih (pre ++ [(marks k s1.length, marks (k + (s1.length : Int)) s2.length, ())]) (k + (s1.length : Int) + (s2.length : Int)) (by omega) (by omega) (by simp; omega) fun s hs => h s (List.mem_cons_of_mem _ hs)
  simp only [List.length_append, List.length_cons, List.length_nil, Nat.zero_add, List.append_assoc, List.cons_append, List.nil_append] at this
  exact this
noncomputable def l_markStationS_3cf2_V : Env := ⟨tau, [(58, (softOr [.idx 0, .fst] l_markInt64S_94fb_c l_markInt64S_7bbb_c))], []⟩
noncomputable def l_markStationS_3cf2_b : Code := (Try.f59.body).getD .skip
noncomputable def l_markStationS_3cf2_l2_mk : (Int × Int × (List TStation)) → St := fun x => stOf [(0, (.ref (0, 0) [])), (1, (.imm true (.int .i64) x.1)), (5, (.imm true (.int .i64) x.2.1))] [((0, 0), some ⟨false, (.sl kStation), .own, x.2.2⟩)]
noncomputable def l_markStationS_3cf2_l2_out : (Int × (List TStation)) → Ex × St := fun x => (.exit 0, stOf [(1, (.imm true (.int .i64) x.1))] [((0, 0), some ⟨false, (.sl kStation), .own, x.2⟩)])
noncomputable def l_markStationS_3cf2_l2_D (s : St) : Tre (Ex × St) :=
 asRef (0, 0) [] (s.tmps 0) <|
 asImmZ true (.int .i64) (s.tmps 1) fun d3 =>
 asImmZ true (.int .i64) (s.tmps 5) fun d5 =>
 asRoot false (.sl kStation) (s.roots (0, 0)) fun m7 d8 =>
 asM .own m7 <|
 .mat (loopF l_markStationS_3cf2_l2 (d3, d5, d8)) fun x => .ret (l_markStationS_3cf2_l2_out x)
noncomputable def l_markStationS_3cf2_l2_L : LoopI := ⟨([0, 1, 5], [(0, 0)]), ([1], [(0, 0)]), l_markStationS_3cf2_l2_D⟩
noncomputable def l_markStationS_3cf2_A : List (Nat × LoopI) := [(2, l_markStationS_3cf2_l2_L)]
set_option maxRecDepth 100000 in
theorem l_markStationS_3cf2_l2_step : ∀ (x : (Int × Int × (List TStation))) (c : St → Option (Ex × St)), den l_markStationS_3cf2_V l_markStationS_3cf2_A (loopAt l_markStationS_3cf2_b 0) (l_markStationS_3cf2_l2_mk x) (roundK l_markStationS_3cf2_l2_L.kp l_markStationS_3cf2_l2_L.kx c) = (l_markStationS_3cf2_l2 x).run (roundR (l_markStationS_3cf2_l2_mk) (l_markStationS_3cf2_l2_out) c) := fun _ _ => by
 kernel_rfl
theorem l_markStationS_3cf2_l2_ok : LoopOK l_markStationS_3cf2_V l_markStationS_3cf2_A (loopAt l_markStationS_3cf2_b 0) l_markStationS_3cf2_l2_L := loopOK_of fun s e s' h => by
 generalize hs : restrict l_markStationS_3cf2_l2_L.kp s = s1 at h
 have h : (l_markStationS_3cf2_l2_D s1).run some = some (e, s') := h
 obtain ⟨e1, h_0⟩ := asRef_spec h
 obtain ⟨d3, e2, h_1⟩ := asImmZ_spec h_0
 obtain ⟨d5, e4, h_2⟩ := asImmZ_spec h_1
 obtain ⟨m7, d8, e6, h_3⟩ := asRoot_spec h_2
 obtain ⟨rfl, h_4⟩ := asM_spec h_3
 obtain ⟨y, hy, hz⟩ := mat_ret h_4
 refine ⟨_, _, l_markStationS_3cf2_l2_mk, l_markStationS_3cf2_l2_out, l_markStationS_3cf2_l2, (d3, d5, d8), y, ?_, hy, ?_, l_markStationS_3cf2_l2_step⟩
 ·subst hs; exact restrict_eq (T := [(0, (.ref (0, 0) [])), (1, (.imm true (.int .i64) d3)), (5, (.imm true (.int .i64) d5))]) (U := [((0, 0), some ⟨false, (.sl kStation), .own, d8⟩)]) rfl rfl ⟨e1, e2, e4, trivial⟩ ⟨e6, trivial⟩
 ·exact Option.some.inj hz
noncomputable def l_markStationS_3cf2_I : FnI := ⟨l_markStationS_3cf2_b, Try.f59.results.toList, Try.f59.resultTypes.toList, l_markStationS_3cf2_A⟩
noncomputable def l_markStationS_3cf2_out (_p0 : Int) (_p1 : (List TStation)) : (Int × (List TStation)) → CallOut := fun r => ⟨(.imm true (.int .i64) r.1), [⟨false, (.sl kStation), .own, r.2⟩], []⟩
set_option maxRecDepth 100000 in
theorem l_markStationS_3cf2_eq : ∀ (p0 : Int) (p1 : (List TStation)), denFn l_markStationS_3cf2_V l_markStationS_3cf2_I ⟨[(.ref (0, 0) []), (.imm true (.int .i64) p0)], [⟨false, (.sl kStation), .own, p1⟩]⟩ = (l_markStationS_3cf2 p0 p1).run fun r => some (l_markStationS_3cf2_out p0 p1 r) := fun _ _ => by kernel_rfl
noncomputable def l_markStationS_3cf2_G (av : List AV) (rs : List Root) : Tre CallOut :=
 asCons av fun a0_ av0 =>
 asCons av0 fun a1_ av1 =>
 asEnd av1 <|
 asCons rs fun r0_ rs0 =>
 asEnd rs0 <|
 asRef (0, 0) [] a0_ <|
 asImmZ true (.int .i64) a1_ fun d1 =>
 asRt false (.sl kStation) r0_ fun m2 d3 =>
 asM .own m2 <|
 .mat (l_markStationS_3cf2_F d1 d3) fun r => .ret (l_markStationS_3cf2_out d1 d3 r)
noncomputable def l_markStationS_3cf2_c : Ctr := ⟨[0], fun ci => l_markStationS_3cf2_G ci.args ci.roots, false⟩
theorem l_markStationS_3cf2_env : EnvOK Try.prog l_markStationS_3cf2_V := (envOK_cons (softOr_ok (t := [.idx 0, .fst]) l_markInt64S_94fb_ok l_markInt64S_7bbb_ok) ent58 envOK_nil)
set_option maxRecDepth 100000 in
theorem l_markStationS_3cf2_ok : Contract Try.prog 59 l_markStationS_3cf2_c := by
 have hl : LoopsOK l_markStationS_3cf2_V l_markStationS_3cf2_A l_markStationS_3cf2_b := (loopsOK_all (n := 1) (by kernel_rfl) fun k hk => by
   match k, hk with
   | 0, _ => exact loopOK_at (id := 2) (L := l_markStationS_3cf2_l2_L) (by kernel_rfl) (by kernel_rfl) l_markStationS_3cf2_l2_ok)
 refine (contract_of (F := l_markStationS_3cf2_I) tau_tys l_markStationS_3cf2_env Try.func59 (by kernel_rfl) (by kernel_rfl) (by kernel_rfl) hl [0]).weaken ?_
 rintro ⟨av, rs⟩ co h
 have h : (l_markStationS_3cf2_G av rs).run some = some co := h
 obtain ⟨a0_, av0, rfl, h_0⟩ := asCons_spec h
 obtain ⟨a1_, av1, rfl, h_1⟩ := asCons_spec h_0
 obtain ⟨rfl, h_2⟩ := asEnd_spec h_1
 obtain ⟨r0_, rs0, rfl, h_3⟩ := asCons_spec h_2
 obtain ⟨rfl, h_4⟩ := asEnd_spec h_3
 obtain ⟨rfl, h_5⟩ := asRef_spec h_4
 obtain ⟨d1, rfl, h_6⟩ := asImmZ_spec h_5
 obtain ⟨m2, d3, rfl, h_7⟩ := asRt_spec h_6
 obtain ⟨rfl, h_8⟩ := asM_spec h_7
 exact fin_mat (l_markStationS_3cf2_eq d1 d3) h_8
end Go.Proofs.Ytohnlghdhbignaa

namespace Go.Proofs.Ytohnlghdhbignaa
open Go Go.Abs Go.Proofs
noncomputable def l_markStationS_8e85_F (p0 : Int) (p1 : TPlant) : Option (Int × TPlant) :=
 (l_markStationS_3cf2_F p0 p1.1).map fun r => (r.1, (r.2, p1.2))
noncomputable def l_markStationS_8e85_out : (Int × TPlant) → CallOut := fun r => ⟨.imm true (.int .i64) r.1, [⟨true, kPlant, .own, r.2⟩], []⟩
noncomputable def l_markStationS_8e85_G (av : List AV) (rs : List Root) : Tre CallOut :=
 asCons av fun a0_ av0 =>
 asCons av0 fun a1_ av1 =>
 asEnd av1 <|
 asCons rs fun r0_ rs0 =>
 asEnd rs0 <|
 asRef (0, 0) [.fst] a0_ <|
 asImmZ true (.int .i64) a1_ fun d1 =>
 asRt true kPlant r0_ fun m2 d3 =>
 asM .own m2 <|
 .mat (l_markStationS_8e85_F d1 d3) fun r => .ret (l_markStationS_8e85_out r)
noncomputable def l_markStationS_8e85_c : Ctr := ⟨[0], fun ci => l_markStationS_8e85_G ci.args ci.roots, true⟩
set_option maxRecDepth 100000 in
theorem l_markStationS_8e85_ok : Contract Try.prog 59 l_markStationS_8e85_c := by
 refine Contract.soften (e := kStation) (by kernel_rfl) l_markStationS_3cf2_ok ?_
 rintro ⟨av, rs⟩ co h
 have h : (l_markStationS_8e85_G av rs).run some = some co := h
 obtain ⟨a0_, av0, rfl, h_0⟩ := asCons_spec h
 obtain ⟨a1_, av1, rfl, h_1⟩ := asCons_spec h_0
 obtain ⟨rfl, h_2⟩ := asEnd_spec h_1
 obtain ⟨r0_, rs0, rfl, h_3⟩ := asCons_spec h_2
 obtain ⟨rfl, h_4⟩ := asEnd_spec h_3
 obtain ⟨rfl, h_5⟩ := asRef_spec h_4
 obtain ⟨d1, rfl, h_6⟩ := asImmZ_spec h_5
 obtain ⟨m2, d3, rfl, h_7⟩ := asRt_spec h_6
 obtain ⟨rfl, h_8⟩ := asM_spec h_7
 obtain ⟨y, h1, h2⟩ := mat_ret h_8
 unfold l_markStationS_8e85_F at h1
 obtain ⟨r, hr, rfl⟩ := Option.map_eq_some_iff.1 h1
 cases h2
 refine ⟨[.fst], [(.imm true (.int .i64) d1)], ⟨true, kPlant, .own, d3⟩, d3.1, r.2, (r.2, d3.2), .own, (.int .i64), r.1, rfl, by kernel_rfl, ?_, by kernel_rfl, by kernel_rfl, ?_, rfl⟩
 ·intro a ha; simp only [List.mem_cons, List.not_mem_nil, or_false] at ha; rcases ha with rfl <;> exact ⟨_, _, _, rfl⟩
 ·exact (run_some_mat (show l_markStationS_3cf2_F d1 d3.1 = _ from hr)).trans rfl
end Go.Proofs.Ytohnlghdhbignaa

namespace Go.Proofs.Ytohnlghdhbignaa
open Go Go.Abs Go.Proofs
noncomputable def l_markParcelS_d3dd_l2 : (Int × Int × (List (Int × (Int × Unit)))) → Tre ((Int × Int × (List (Int × (Int × Unit)))) ⊕ (Int × (List (Int × (Int × Unit))))) := fun s2 =>
 .cond (decide (s2.2.1 < (s2.2.2.length : Int)))
  (.ite (0 ≤ s2.2.1 ∧ s2.2.1 < (s2.2.2.length : Int)) <|
  .mat (s2.2.2[s2.2.1.toNat]?) fun x1 =>
  let v2 := s2.2.2.set s2.2.1.toNat (s2.1, x1.2)
  .ite (0 ≤ s2.2.1 ∧ s2.2.1 < (v2.length : Int)) <|
  .mat (v2[s2.2.1.toNat]?) fun x3 =>
  let v4 := v2.set s2.2.1.toNat (x3.1, (iwrap .i64 (s2.1 + 1), x3.2.2))
  let v5 := iwrap .i64 ((iwrap .i64 (s2.1 + 1)) + 1)
  .ret (.inl (v5, iwrap .i64 (s2.2.1 + 1), v4)))
  (.ret (.inr (s2.1, s2.2.2)))
noncomputable def l_markParcelS_d3dd (p0 : Int) (p1 : (List (Int × (Int × Unit)))) : Tre (Int × (List (Int × (Int × Unit)))) :=
 .mat (loopF l_markParcelS_d3dd_l2 (p0, 0, p1)) fun l6 =>
 .ret (l6.1, l6.2)
noncomputable def l_markParcelS_d3dd_F (p0 : Int) (p1 : (List (Int × (Int × Unit)))) : Option (Int × (List (Int × (Int × Unit)))) := (l_markParcelS_d3dd p0 p1).run some
-- more
def paMarks : Int → List (Int × Int × Unit) → List (Int × Int × Unit)
 | _, [] => []
 | k, _ :: l => (k, k + 1, ()) :: paMarks (k + 2) l
theorem mark_parcels : ∀ (l pre : List (Int × Int × Unit)) (k : Int), 0 ≤ k → k + 2 * (l.length : Int) ≤ 1000000 → pre.length + l.length ≤ 1000 →
  loopF l_markParcelS_d3dd_l2 (k, (pre.length : Int), pre ++ l) = some (k + 2 * (l.length : Int), pre ++ paMarks k l) := by
 intro l
 induction l with
 | nil =>
  intro pre k _ _ _
  refine loopF_done ?_
  unfold l_markParcelS_d3dd_l2
  rw [Tre.run_cond, decide_eq_false (by simp), cond_false, Tre.run_ret]
  simp [paMarks]
 | cons s l ih =>
  intro pre k h0 hk hp
  obtain ⟨s1, s2, ⟨⟩⟩ := s
  simp only [List.length_cons] at hk hp
  have hx : (pre ++ (s1, s2, ()) :: l)[pre.length]? = some (s1, s2, ()) := by simp
  have hs1 : (pre ++ (s1, s2, ()) :: l).set pre.length (k, s2, ()) = pre ++ (k, s2, ()) :: l := by simp
  have hx2 : (pre ++ (k, s2, ()) :: l)[pre.length]? = some (k, s2, ()) := by simp
  have hs2 : (pre ++ (k, s2, ()) :: l).set pre.length (k, k + 1, ()) = pre ++ (k, k + 1, ()) :: l := by simp
  have hstep : (l_markParcelS_d3dd_l2 (k, (pre.length : Int), pre ++ (s1, s2, ()) :: l)).run some = some (.inl (k + 2, ((pre.length + 1 : Nat) : Int), pre ++ (k, k + 1, ()) :: l)) := by
   unfold l_markParcelS_d3dd_l2
   dsimp only
   rw [Tre.run_cond, decide_eq_true (by simp; omega), cond_true, Tre.run_ite, if_pos ⟨by omega, by simp; omega⟩, Int.toNat_natCast, run_some_mat hx]
   dsimp only
   rw [hs1, Tre.run_ite, if_pos ⟨by omega, by simp; omega⟩, run_some_mat hx2]
   dsimp only
   rw [iwrap_i64 (n := k + 1) (by omega) (by omega), hs2, iwrap_i64 (n := k + 1 + 1) (by omega) (by omega), Tre.run_ret, iwrap_succ (by omega), Int.add_assoc]
   rfl
  rw [loopF_step hstep]
  have := ih (pre ++ [(k, k + 1, ())]) (k + 2) (by omega) (by omega) (by simp; omega)
  simp only [List.length_append, List.length_cons, List.length_nil, Nat.zero_add, List.append_assoc, List.cons_append, List.nil_append] at this ⊢
  refine this.trans ?_
  rw [show k + 2 + 2 * (l.length : Int) = k + 2 * ((l.length + 1 : Nat) : Int) by omega]
  rfl
noncomputable def l_markParcelS_d3dd_V : Env := ⟨tau, [], []⟩
noncomputable def l_markParcelS_d3dd_b : Code := (Try.f60.body).getD .skip
noncomputable def l_markParcelS_d3dd_l2_mk : (Int × Int × (List (Int × (Int × Unit)))) → St := fun x => stOf [(0, (.ref (0, 0) [])), (1, (.imm true (.int .i64) x.1)), (5, (.imm true (.int .i64) x.2.1))] [((0, 0), some ⟨false, (.sl kField), .own, x.2.2⟩)]
noncomputable def l_markParcelS_d3dd_l2_out : (Int × (List (Int × (Int × Unit)))) → Ex × St := fun x => (.exit 0, stOf [(1, (.imm true (.int .i64) x.1))] [((0, 0), some ⟨false, (.sl kField), .own, x.2⟩)])
noncomputable def l_markParcelS_d3dd_l2_D (s : St) : Tre (Ex × St) :=
 asRef (0, 0) [] (s.tmps 0) <|
 asImmZ true (.int .i64) (s.tmps 1) fun d3 =>
 asImmZ true (.int .i64) (s.tmps 5) fun d5 =>
 asRoot false (.sl kField) (s.roots (0, 0)) fun m7 d8 =>
 asM .own m7 <|
 .mat (loopF l_markParcelS_d3dd_l2 (d3, d5, d8)) fun x => .ret (l_markParcelS_d3dd_l2_out x)
noncomputable def l_markParcelS_d3dd_l2_L : LoopI := ⟨([0, 1, 5], [(0, 0)]), ([1], [(0, 0)]), l_markParcelS_d3dd_l2_D⟩
noncomputable def l_markParcelS_d3dd_A : List (Nat × LoopI) := [(2, l_markParcelS_d3dd_l2_L)]
set_option maxRecDepth 100000 in
theorem l_markParcelS_d3dd_l2_step : ∀ (x : (Int × Int × (List (Int × (Int × Unit))))) (c : St → Option (Ex × St)), den l_markParcelS_d3dd_V l_markParcelS_d3dd_A (loopAt l_markParcelS_d3dd_b 0) (l_markParcelS_d3dd_l2_mk x) (roundK l_markParcelS_d3dd_l2_L.kp l_markParcelS_d3dd_l2_L.kx c) = (l_markParcelS_d3dd_l2 x).run (roundR (l_markParcelS_d3dd_l2_mk) (l_markParcelS_d3dd_l2_out) c) := fun _ _ => by
 kernel_rfl
theorem l_markParcelS_d3dd_l2_ok : LoopOK l_markParcelS_d3dd_V l_markParcelS_d3dd_A (loopAt l_markParcelS_d3dd_b 0) l_markParcelS_d3dd_l2_L := loopOK_of fun s e s' h => by
 generalize hs : restrict l_markParcelS_d3dd_l2_L.kp s = s1 at h
 have h : (l_markParcelS_d3dd_l2_D s1).run some = some (e, s') := h
 obtain ⟨e1, h_0⟩ := asRef_spec h
 obtain ⟨d3, e2, h_1⟩ := asImmZ_spec h_0
 obtain ⟨d5, e4, h_2⟩ := asImmZ_spec h_1
 obtain ⟨m7, d8, e6, h_3⟩ := asRoot_spec h_2
 obtain ⟨rfl, h_4⟩ := asM_spec h_3
 obtain ⟨y, hy, hz⟩ := mat_ret h_4
 refine ⟨_, _, l_markParcelS_d3dd_l2_mk, l_markParcelS_d3dd_l2_out, l_markParcelS_d3dd_l2, (d3, d5, d8), y, ?_, hy, ?_, l_markParcelS_d3dd_l2_step⟩
 ·subst hs; exact restrict_eq (T := [(0, (.ref (0, 0) [])), (1, (.imm true (.int .i64) d3)), (5, (.imm true (.int .i64) d5))]) (U := [((0, 0), some ⟨false, (.sl kField), .own, d8⟩)]) rfl rfl ⟨e1, e2, e4, trivial⟩ ⟨e6, trivial⟩
 ·exact Option.some.inj hz
noncomputable def l_markParcelS_d3dd_I : FnI := ⟨l_markParcelS_d3dd_b, Try.f60.results.toList, Try.f60.resultTypes.toList, l_markParcelS_d3dd_A⟩
noncomputable def l_markParcelS_d3dd_out (_p0 : Int) (_p1 : (List (Int × (Int × Unit)))) : (Int × (List (Int × (Int × Unit)))) → CallOut := fun r => ⟨(.imm true (.int .i64) r.1), [⟨false, (.sl kField), .own, r.2⟩], []⟩
set_option maxRecDepth 100000 in
theorem l_markParcelS_d3dd_eq : ∀ (p0 : Int) (p1 : (List (Int × (Int × Unit)))), denFn l_markParcelS_d3dd_V l_markParcelS_d3dd_I ⟨[(.ref (0, 0) []), (.imm true (.int .i64) p0)], [⟨false, (.sl kField), .own, p1⟩]⟩ = (l_markParcelS_d3dd p0 p1).run fun r => some (l_markParcelS_d3dd_out p0 p1 r) := fun _ _ => by kernel_rfl
noncomputable def l_markParcelS_d3dd_G (av : List AV) (rs : List Root) : Tre CallOut :=
 asCons av fun a0_ av0 =>
 asCons av0 fun a1_ av1 =>
 asEnd av1 <|
 asCons rs fun r0_ rs0 =>
 asEnd rs0 <|
 asRef (0, 0) [] a0_ <|
 asImmZ true (.int .i64) a1_ fun d1 =>
 asRt false (.sl kField) r0_ fun m2 d3 =>
 asM .own m2 <|
 .mat (l_markParcelS_d3dd_F d1 d3) fun r => .ret (l_markParcelS_d3dd_out d1 d3 r)
noncomputable def l_markParcelS_d3dd_c : Ctr := ⟨[0], fun ci => l_markParcelS_d3dd_G ci.args ci.roots, false⟩
theorem l_markParcelS_d3dd_env : EnvOK Try.prog l_markParcelS_d3dd_V := envOK_nil
set_option maxRecDepth 100000 in
theorem l_markParcelS_d3dd_ok : Contract Try.prog 60 l_markParcelS_d3dd_c := by
 have hl : LoopsOK l_markParcelS_d3dd_V l_markParcelS_d3dd_A l_markParcelS_d3dd_b := (loopsOK_all (n := 1) (by kernel_rfl) fun k hk => by
   match k, hk with
   | 0, _ => exact loopOK_at (id := 2) (L := l_markParcelS_d3dd_l2_L) (by kernel_rfl) (by kernel_rfl) l_markParcelS_d3dd_l2_ok)
 refine (contract_of (F := l_markParcelS_d3dd_I) tau_tys l_markParcelS_d3dd_env Try.func60 (by kernel_rfl) (by kernel_rfl) (by kernel_rfl) hl [0]).weaken ?_
 rintro ⟨av, rs⟩ co h
 have h : (l_markParcelS_d3dd_G av rs).run some = some co := h
 obtain ⟨a0_, av0, rfl, h_0⟩ := asCons_spec h
 obtain ⟨a1_, av1, rfl, h_1⟩ := asCons_spec h_0
 obtain ⟨rfl, h_2⟩ := asEnd_spec h_1
 obtain ⟨r0_, rs0, rfl, h_3⟩ := asCons_spec h_2
 obtain ⟨rfl, h_4⟩ := asEnd_spec h_3
 obtain ⟨rfl, h_5⟩ := asRef_spec h_4
 obtain ⟨d1, rfl, h_6⟩ := asImmZ_spec h_5
 obtain ⟨m2, d3, rfl, h_7⟩ := asRt_spec h_6
 obtain ⟨rfl, h_8⟩ := asM_spec h_7
 exact fin_mat (l_markParcelS_d3dd_eq d1 d3) h_8
end Go.Proofs.Ytohnlghdhbignaa

namespace Go.Proofs.Ytohnlghdhbignaa
open Go Go.Abs Go.Proofs
noncomputable def l_markParcelS_4afb_F (p0 : Int) (p1 : TPlant) : Option (Int × TPlant) :=
 (l_markParcelS_d3dd_F p0 p1.2.1).map fun r => (r.1, (p1.1, (r.2, p1.2.2)))
noncomputable def l_markParcelS_4afb_out : (Int × TPlant) → CallOut := fun r => ⟨.imm true (.int .i64) r.1, [⟨true, kPlant, .own, r.2⟩], []⟩
noncomputable def l_markParcelS_4afb_G (av : List AV) (rs : List Root) : Tre CallOut :=
 asCons av fun a0_ av0 =>
 asCons av0 fun a1_ av1 =>
 asEnd av1 <|
 asCons rs fun r0_ rs0 =>
 asEnd rs0 <|
 asRef (0, 0) [.snd, .fst] a0_ <|
 asImmZ true (.int .i64) a1_ fun d1 =>
 asRt true kPlant r0_ fun m2 d3 =>
 asM .own m2 <|
 .mat (l_markParcelS_4afb_F d1 d3) fun r => .ret (l_markParcelS_4afb_out r)
noncomputable def l_markParcelS_4afb_c : Ctr := ⟨[0], fun ci => l_markParcelS_4afb_G ci.args ci.roots, true⟩
set_option maxRecDepth 100000 in
theorem l_markParcelS_4afb_ok : Contract Try.prog 60 l_markParcelS_4afb_c := by
 refine Contract.soften (e := kField) (by kernel_rfl) l_markParcelS_d3dd_ok ?_
 rintro ⟨av, rs⟩ co h
 have h : (l_markParcelS_4afb_G av rs).run some = some co := h
 obtain ⟨a0_, av0, rfl, h_0⟩ := asCons_spec h
 obtain ⟨a1_, av1, rfl, h_1⟩ := asCons_spec h_0
 obtain ⟨rfl, h_2⟩ := asEnd_spec h_1
 obtain ⟨r0_, rs0, rfl, h_3⟩ := asCons_spec h_2
 obtain ⟨rfl, h_4⟩ := asEnd_spec h_3
 obtain ⟨rfl, h_5⟩ := asRef_spec h_4
 obtain ⟨d1, rfl, h_6⟩ := asImmZ_spec h_5
 obtain ⟨m2, d3, rfl, h_7⟩ := asRt_spec h_6
 obtain ⟨rfl, h_8⟩ := asM_spec h_7
 obtain ⟨y, h1, h2⟩ := mat_ret h_8
 unfold l_markParcelS_4afb_F at h1
 obtain ⟨r, hr, rfl⟩ := Option.map_eq_some_iff.1 h1
 cases h2
 refine ⟨[.snd, .fst], [(.imm true (.int .i64) d1)], ⟨true, kPlant, .own, d3⟩, d3.2.1, r.2, (d3.1, (r.2, d3.2.2)), .own, (.int .i64), r.1, rfl, by kernel_rfl, ?_, by kernel_rfl, by kernel_rfl, ?_, rfl⟩
 ·intro a ha; simp only [List.mem_cons, List.not_mem_nil, or_false] at ha; rcases ha with rfl <;> exact ⟨_, _, _, rfl⟩
 ·exact (run_some_mat (show l_markParcelS_d3dd_F d1 d3.2.1 = _ from hr)).trans rfl
end Go.Proofs.Ytohnlghdhbignaa

namespace Go.Proofs.Ytohnlghdhbignaa
open Go Go.Abs Go.Proofs
noncomputable def l_markPlant_4ae2 (p0 : Int) (p1 : TPlant) : Tre (Int × TPlant) :=
 .mat (l_markStationS_8e85_F p0 p1) fun r1 =>
 .mat (l_markParcelS_4afb_F r1.1 r1.2) fun r2 =>
 .ret (r2.1, r2.2)
noncomputable def l_markPlant_4ae2_F (p0 : Int) (p1 : TPlant) : Option (Int × TPlant) := (l_markPlant_4ae2 p0 p1).run some
-- more
def plMarks (k : Int) (p : List (List Int × List Int × Unit) × List (Int × Int × Unit) × Unit) : List (List Int × List Int × Unit) × List (Int × Int × Unit) × Unit := (stMarks k p.1, paMarks (stEnd k p.1) p.2.1, ())
def plEnd (k : Int) (p : List (List Int × List Int × Unit) × List (Int × Int × Unit) × Unit) : Int := stEnd k p.1 + 2 * (p.2.1.length : Int)
theorem mark_plant {p : List (List Int × List Int × Unit) × List (Int × Int × Unit) × Unit} (h : smallP p) : l_markPlant_4ae2_F 1 p = some (plEnd 1 p, plMarks 1 p) := by
 obtain ⟨p1, p2, ⟨⟩⟩ := p
 obtain ⟨h1, h2, h3⟩ := h
 have h1 : p1.length ≤ 100 := h1
 have h3 : p2.length ≤ 100 := h3
 have hb := stEnd_le p1 1 h2
 have e1 := mark_stations p1 [] 1 (by omega) (by omega) (by simp; omega) h2
 have e1 : loopF l_markStationS_3cf2_l2 (1, 0, p1) = some (stEnd 1 p1, stMarks 1 p1) := e1
 have e2 := mark_parcels p2 [] (stEnd 1 p1) (by omega) (by omega) (by simp; omega)
 have e2 : loopF l_markParcelS_d3dd_l2 (stEnd 1 p1, 0, p2) = some (stEnd 1 p1 + 2 * (p2.length : Int), paMarks (stEnd 1 p1) p2) := e2
 have f1 : l_markStationS_3cf2_F 1 p1 = some (stEnd 1 p1, stMarks 1 p1) := by
  unfold l_markStationS_3cf2_F l_markStationS_3cf2
  rw [run_some_mat e1]; rfl
 have f2 : l_markParcelS_d3dd_F (stEnd 1 p1) p2 = some (stEnd 1 p1 + 2 * (p2.length : Int), paMarks (stEnd 1 p1) p2) := by
  unfold l_markParcelS_d3dd_F l_markParcelS_d3dd
  rw [run_some_mat e2]; rfl
 have g1 : l_markStationS_8e85_F 1 (p1, p2, ()) = some (stEnd 1 p1, stMarks 1 p1, p2, ()) := by
  unfold l_markStationS_8e85_F
  rw [f1]; rfl
 have g2 : l_markParcelS_4afb_F (stEnd 1 p1) (stMarks 1 p1, p2, ()) = some (stEnd 1 p1 + 2 * (p2.length : Int), stMarks 1 p1, paMarks (stEnd 1 p1) p2, ()) := by
  unfold l_markParcelS_4afb_F
  rw [f2]; rfl
 unfold l_markPlant_4ae2_F l_markPlant_4ae2
 rw [run_some_mat g1, run_some_mat g2]
 rfl
noncomputable def l_markPlant_4ae2_V : Env := ⟨tau, [(59, l_markStationS_8e85_c), (60, l_markParcelS_4afb_c)], []⟩
noncomputable def l_markPlant_4ae2_b : Code := (Try.f28.body).getD .skip
noncomputable def l_markPlant_4ae2_I : FnI := ⟨l_markPlant_4ae2_b, Try.f28.results.toList, Try.f28.resultTypes.toList, []⟩
noncomputable def l_markPlant_4ae2_out (_p0 : Int) (_p1 : TPlant) : (Int × TPlant) → CallOut := fun r => ⟨(.imm true (.int .i64) r.1), [⟨true, kPlant, .own, r.2⟩], []⟩
set_option maxRecDepth 100000 in
theorem l_markPlant_4ae2_eq : ∀ (p0 : Int) (p1 : TPlant), denFn l_markPlant_4ae2_V l_markPlant_4ae2_I ⟨[(.pair (.ref (0, 0) [.fst]) (.pair (.ref (0, 0) [.snd, .fst]) (.imm true .unit ()))), (.imm true (.int .i64) p0)], [⟨true, kPlant, .own, p1⟩]⟩ = (l_markPlant_4ae2 p0 p1).run fun r => some (l_markPlant_4ae2_out p0 p1 r) := fun _ _ => by kernel_rfl
noncomputable def l_markPlant_4ae2_G (av : List AV) (rs : List Root) : Tre CallOut :=
 asCons av fun a0_ av0 =>
 asCons av0 fun a1_ av1 =>
 asEnd av1 <|
 asCons rs fun r0_ rs0 =>
 asEnd rs0 <|
 asPair a0_ fun a1 a2 =>
 asRef (0, 0) [.fst] a1 <|
 asPair a2 fun a3 a4 =>
 asRef (0, 0) [.snd, .fst] a3 <|
 asImmZ true .unit a4 fun _ =>
 asImmZ true (.int .i64) a1_ fun d6 =>
 asRt true kPlant r0_ fun m7 d8 =>
 asM .own m7 <|
 .mat (l_markPlant_4ae2_F d6 d8) fun r => .ret (l_markPlant_4ae2_out d6 d8 r)
noncomputable def l_markPlant_4ae2_c : Ctr := ⟨[0], fun ci => l_markPlant_4ae2_G ci.args ci.roots, false⟩
theorem l_markPlant_4ae2_env : EnvOK Try.prog l_markPlant_4ae2_V := (envOK_cons l_markStationS_8e85_ok ent59 (envOK_cons l_markParcelS_4afb_ok ent60 envOK_nil))
set_option maxRecDepth 100000 in
theorem l_markPlant_4ae2_ok : Contract Try.prog 28 l_markPlant_4ae2_c := by
 have hl : LoopsOK l_markPlant_4ae2_V [] l_markPlant_4ae2_b := loopsOK_nil (by kernel_rfl)
 refine (contract_of (F := l_markPlant_4ae2_I) tau_tys l_markPlant_4ae2_env Try.func28 (by kernel_rfl) (by kernel_rfl) (by kernel_rfl) hl [0]).weaken ?_
 rintro ⟨av, rs⟩ co h
 have h : (l_markPlant_4ae2_G av rs).run some = some co := h
 obtain ⟨a0_, av0, rfl, h_0⟩ := asCons_spec h
 obtain ⟨a1_, av1, rfl, h_1⟩ := asCons_spec h_0
 obtain ⟨rfl, h_2⟩ := asEnd_spec h_1
 obtain ⟨r0_, rs0, rfl, h_3⟩ := asCons_spec h_2
 obtain ⟨rfl, h_4⟩ := asEnd_spec h_3
 obtain ⟨a1, a2, rfl, h_5⟩ := asPair_spec h_4
 obtain ⟨rfl, h_6⟩ := asRef_spec h_5
 obtain ⟨a3, a4, rfl, h_7⟩ := asPair_spec h_6
 obtain ⟨rfl, h_8⟩ := asRef_spec h_7
 obtain ⟨d5, rfl, h_9⟩ := asImmZ_spec h_8
 obtain ⟨d6, rfl, h_10⟩ := asImmZ_spec h_9
 obtain ⟨m7, d8, rfl, h_11⟩ := asRt_spec h_10
 obtain ⟨rfl, h_12⟩ := asM_spec h_11
 exact fin_mat (l_markPlant_4ae2_eq d6 d8) h_12
end Go.Proofs.Ytohnlghdhbignaa

namespace Go.Proofs.Ytohnlghdhbignaa
open Go Go.Abs Go.Proofs
noncomputable def l_heldInt64S_l2 (h2_0_0 : (List Int)) : (Int × Int) → Tre ((Int × Int) ⊕ ((Int × Int) ⊕ Int)) := fun s2 =>
 .cond (decide (s2.2 < (h2_0_0.length : Int)))
  (.ite (0 ≤ s2.2 ∧ s2.2 < (h2_0_0.length : Int)) <|
  .mat (h2_0_0[s2.2.toNat]?) fun x1 =>
  .cond (!decide (x1 = s2.1))
   (.ret (.inr (.inl (s2.1, -1))))
   (.ret (.inl (iwrap .i64 (s2.1 + 1), iwrap .i64 (s2.2 + 1)))))
  (.ret (.inr (.inr s2.1)))
noncomputable def l_heldInt64S (p0 : (List Int)) (p1 : Int) : Tre Int :=
 .mat (loopF (l_heldInt64S_l2 p0) (p1, 0)) fun l2 =>
 .alt l2
  (fun a3 =>
   .ret a3.2)
  (fun b4 =>
   .ret b4)
noncomputable def l_heldInt64S_F (p0 : (List Int)) (p1 : Int) : Option Int := (l_heldInt64S p0 p1).run some
def heldR (xs : List Int) (k : Int) : Option Int := if (inR k 0 1048576 && decide (xs.length ≤ 1048576)) = true ∧ xs = marks k xs.length then some (k + (xs.length : Int)) else none
theorem l_heldInt64S_spec (p0 : List Int) (p1 : Int) (y : Int) (h : heldR p0 p1 = some y) : l_heldInt64S_F p0 p1 = some y := by
 unfold heldR at h
 split at h
 case isFalse => cases h
 case isTrue hh =>
 obtain ⟨hok, hm⟩ := hh
 cases h
 simp only [Bool.and_eq_true, decide_eq_true_eq, inR_iff] at hok
 obtain ⟨hk, hl⟩ := hok
 unfold l_heldInt64S_F l_heldInt64S
 have := fold_loop' (xs := p0) (step := l_heldInt64S_l2 p0) (γ := Unit) (fun i _ => (p1 + (i : Int), (i : Int))) (fun _ _ _ => .inl ()) (fun _ => .inr (p1 + (p0.length : Int))) (by
  intro i acc x hx
  have hi : i < p0.length := (List.getElem?_eq_some_iff.1 hx).1
  have hxv : x = p1 + (i : Int) := by
   rw [hm] at hx
   unfold marks at hx
   simp only [List.getElem?_map, Option.map_eq_some_iff] at hx
   obtain ⟨a, ha, rfl⟩ := hx
   rw [List.getElem?_range' (by simpa using hi)] at ha
   simp at ha
   rw [ha]
  unfold l_heldInt64S_l2
  rw [run_inb hx, Tre.run_cond]
  simp only [hxv, decide_true, Bool.not_true, cond_false]
  rw [Tre.run_ret, iwrap_succ (by omega), iwrap_i64 (by omega) (by omega)]
  simp only [Int.natCast_add, Int.natCast_one, Int.add_assoc])
  (by
  intro acc
  unfold l_heldInt64S_l2
  exact run_out) ()
 have hf : ∀ (l : List Int) (i : Nat), foldE (β := (Int × Int) ⊕ Int) (fun (_ : Nat) (_ : Unit) (_ : Int) => .inl ()) (fun _ => .inr (p1 + (p0.length : Int))) i () l = .inr (p1 + (p0.length : Int)) := by
  intro l
  induction l with
  | nil => intro i; rfl
  | cons x l ih => intro i; exact ih _
 rw [hf] at this
 have h1 : loopF (l_heldInt64S_l2 p0) (p1, 0) = some (.inr (p1 + (p0.length : Int))) := by simpa using this
 rw [run_some_mat h1]
 rfl
noncomputable def l_heldInt64S_V : Env := ⟨tau, [], []⟩
noncomputable def l_heldInt64S_b : Code := (Try.f92.body).getD .skip
noncomputable def l_heldInt64S_l2_mk (z2_0 : Bool) (h2_0_0 : (List Int)) : (Int × Int) → St := fun x => stOf [(0, (.imm z2_0 (.sl (.int .i64)) h2_0_0)), (1, (.imm true (.int .i64) x.1)), (5, (.imm true (.int .i64) x.2))] []
noncomputable def l_heldInt64S_l2_out (_z2_0 : Bool) (_h2_0_0 : (List Int)) : ((Int × Int) ⊕ Int) → Ex × St
 | .inl x => (.ret, stOf [(1, (.imm true (.int .i64) x.1)), (4, (.imm true (.int .i64) x.2))] [])
 | .inr x => (.exit 0, stOf [(1, (.imm true (.int .i64) x)), (4, .dead)] [])
noncomputable def l_heldInt64S_l2_D (s : St) : Tre (Ex × St) :=
 asImm (.sl (.int .i64)) (s.tmps 0) fun z3 d2 =>
 asImmZ true (.int .i64) (s.tmps 1) fun d5 =>
 asImmZ true (.int .i64) (s.tmps 5) fun d7 =>
 .mat (loopF (l_heldInt64S_l2 d2) (d5, d7)) fun x => .alt x (fun a0 => .ret (l_heldInt64S_l2_out z3 d2 (.inl a0))) (fun b0 => .ret (l_heldInt64S_l2_out z3 d2 (.inr b0)))
noncomputable def l_heldInt64S_l2_L : LoopI := ⟨([0, 1, 5], []), ([1, 4], []), l_heldInt64S_l2_D⟩
noncomputable def l_heldInt64S_A : List (Nat × LoopI) := [(2, l_heldInt64S_l2_L)]
set_option maxRecDepth 100000 in
theorem l_heldInt64S_l2_step : ∀ (z2_0 : Bool) (h2_0_0 : (List Int)) (x : (Int × Int)) (c : St → Option (Ex × St)), den l_heldInt64S_V l_heldInt64S_A (loopAt l_heldInt64S_b 0) (l_heldInt64S_l2_mk z2_0 h2_0_0 x) (roundK l_heldInt64S_l2_L.kp l_heldInt64S_l2_L.kx c) = (l_heldInt64S_l2 h2_0_0 x).run (roundR (l_heldInt64S_l2_mk z2_0 h2_0_0) (l_heldInt64S_l2_out z2_0 h2_0_0) c) := fun _ _ _ _ => by
 kernel_rfl
theorem l_heldInt64S_l2_ok : LoopOK l_heldInt64S_V l_heldInt64S_A (loopAt l_heldInt64S_b 0) l_heldInt64S_l2_L := loopOK_of fun s e s' h => by
 generalize hs : restrict l_heldInt64S_l2_L.kp s = s1 at h
 have h : (l_heldInt64S_l2_D s1).run some = some (e, s') := h
 obtain ⟨z3, d2, e1, h_0⟩ := asImm_spec h
 obtain ⟨d5, e4, h_1⟩ := asImmZ_spec h_0
 obtain ⟨d7, e6, h_2⟩ := asImmZ_spec h_1
 obtain ⟨y, hy, hz⟩ := mat_some h_2
 refine ⟨_, _, l_heldInt64S_l2_mk z3 d2, l_heldInt64S_l2_out z3 d2, l_heldInt64S_l2 d2, (d5, d7), y, ?_, hy, ?_, l_heldInt64S_l2_step z3 d2⟩
 ·subst hs; exact restrict_eq (T := [(0, (.imm z3 (.sl (.int .i64)) d2)), (1, (.imm true (.int .i64) d5)), (5, (.imm true (.int .i64) d7))]) (U := []) rfl rfl ⟨e1, e4, e6, trivial⟩ trivial
 ·rcases y with x | x <;> exact Option.some.inj hz
noncomputable def l_heldInt64S_I : FnI := ⟨l_heldInt64S_b, Try.f92.results.toList, Try.f92.resultTypes.toList, l_heldInt64S_A⟩
noncomputable def l_heldInt64S_out (_zp0 : Bool) (_p0 : (List Int)) (_p1 : Int) : Int → CallOut := fun r => ⟨(.imm true (.int .i64) r), [], []⟩
set_option maxRecDepth 100000 in
theorem l_heldInt64S_eq : ∀ (zp0 : Bool) (p0 : (List Int)) (p1 : Int), denFn l_heldInt64S_V l_heldInt64S_I ⟨[(.imm zp0 (.sl (.int .i64)) p0), (.imm true (.int .i64) p1)], []⟩ = (l_heldInt64S p0 p1).run fun r => some (l_heldInt64S_out zp0 p0 p1 r) := fun _ _ _ => by kernel_rfl
noncomputable def l_heldInt64S_G (av : List AV) (rs : List Root) : Tre CallOut :=
 asCons av fun a0_ av0 =>
 asCons av0 fun a1_ av1 =>
 asEnd av1 <|
 asEnd rs <|
 asImm (.sl (.int .i64)) a0_ fun z2 d1 =>
 asImmZ true (.int .i64) a1_ fun d3 =>
 .mat (heldR d1 d3) fun r => .ret (l_heldInt64S_out z2 d1 d3 r)
noncomputable def l_heldInt64S_c : Ctr := ⟨[], fun ci => l_heldInt64S_G ci.args ci.roots, false⟩
theorem l_heldInt64S_env : EnvOK Try.prog l_heldInt64S_V := envOK_nil
set_option maxRecDepth 100000 in
theorem l_heldInt64S_ok : Contract Try.prog 92 l_heldInt64S_c := by
 have hl : LoopsOK l_heldInt64S_V l_heldInt64S_A l_heldInt64S_b := (loopsOK_all (n := 1) (by kernel_rfl) fun k hk => by
   match k, hk with
   | 0, _ => exact loopOK_at (id := 2) (L := l_heldInt64S_l2_L) (by kernel_rfl) (by kernel_rfl) l_heldInt64S_l2_ok)
 refine (contract_of (F := l_heldInt64S_I) tau_tys l_heldInt64S_env Try.func92 (by kernel_rfl) (by kernel_rfl) (by kernel_rfl) hl []).weaken ?_
 rintro ⟨av, rs⟩ co h
 have h : (l_heldInt64S_G av rs).run some = some co := h
 obtain ⟨a0_, av0, rfl, h_0⟩ := asCons_spec h
 obtain ⟨a1_, av1, rfl, h_1⟩ := asCons_spec h_0
 obtain ⟨rfl, h_2⟩ := asEnd_spec h_1
 obtain ⟨rfl, h_3⟩ := asEnd_spec h_2
 obtain ⟨z2, d1, rfl, h_4⟩ := asImm_spec h_3
 obtain ⟨d3, rfl, h_5⟩ := asImmZ_spec h_4
 exact fin_opt (l_heldInt64S_eq z2 d1 d3) (l_heldInt64S_spec d1 d3) h_5
end Go.Proofs.Ytohnlghdhbignaa

namespace Go.Proofs.Ytohnlghdhbignaa
open Go Go.Abs Go.Proofs
noncomputable def l_heldStationS_l2 (h2_0_0 : (List TStation)) : (Int × Int) → Tre ((Int × Int) ⊕ ((Int × Int) ⊕ Int)) := fun s2 =>
 .cond (decide (s2.2 < (h2_0_0.length : Int)))
  (.ite (0 ≤ s2.2 ∧ s2.2 < (h2_0_0.length : Int)) <|
  .mat (h2_0_0[s2.2.toNat]?) fun x1 =>
  .mat (heldR x1.1 s2.1) fun r2 =>
  .cond (decide (r2 < 0))
   (.ret (.inr (.inl (r2, -1))))
   (.ite (0 ≤ s2.2 ∧ s2.2 < (h2_0_0.length : Int)) <|
   .mat (h2_0_0[s2.2.toNat]?) fun x3 =>
   .mat (heldR x3.2.1 r2) fun r4 =>
   .cond (decide (r4 < 0))
    (.ret (.inr (.inl (r4, -1))))
    (.ret (.inl (r4, iwrap .i64 (s2.2 + 1))))))
  (.ret (.inr (.inr s2.1)))
noncomputable def l_heldStationS (p0 : (List TStation)) (p1 : Int) : Tre Int :=
 .mat (loopF (l_heldStationS_l2 p0) (p1, 0)) fun l5 =>
 .alt l5
  (fun a6 =>
   .ret a6.2)
  (fun b7 =>
   .ret b7)
noncomputable def l_heldStationS_F (p0 : (List TStation)) (p1 : Int) : Option Int := (l_heldStationS p0 p1).run some
noncomputable def l_heldStationS_V : Env := ⟨tau, [(92, l_heldInt64S_c)], []⟩
noncomputable def l_heldStationS_b : Code := (Try.f61.body).getD .skip
noncomputable def l_heldStationS_l2_mk (z2_0 : Bool) (h2_0_0 : (List TStation)) : (Int × Int) → St := fun x => stOf [(0, (.imm z2_0 (.sl kStation) h2_0_0)), (1, (.imm true (.int .i64) x.1)), (5, (.imm true (.int .i64) x.2))] []
noncomputable def l_heldStationS_l2_out (_z2_0 : Bool) (_h2_0_0 : (List TStation)) : ((Int × Int) ⊕ Int) → Ex × St
 | .inl x => (.ret, stOf [(1, (.imm true (.int .i64) x.1)), (4, (.imm true (.int .i64) x.2))] [])
 | .inr x => (.exit 0, stOf [(1, (.imm true (.int .i64) x)), (4, .dead)] [])
noncomputable def l_heldStationS_l2_D (s : St) : Tre (Ex × St) :=
 asImm (.sl kStation) (s.tmps 0) fun z3 d2 =>
 asImmZ true (.int .i64) (s.tmps 1) fun d5 =>
 asImmZ true (.int .i64) (s.tmps 5) fun d7 =>
 .mat (loopF (l_heldStationS_l2 d2) (d5, d7)) fun x => .alt x (fun a0 => .ret (l_heldStationS_l2_out z3 d2 (.inl a0))) (fun b0 => .ret (l_heldStationS_l2_out z3 d2 (.inr b0)))
noncomputable def l_heldStationS_l2_L : LoopI := ⟨([0, 1, 5], []), ([1, 4], []), l_heldStationS_l2_D⟩
noncomputable def l_heldStationS_A : List (Nat × LoopI) := [(2, l_heldStationS_l2_L)]
set_option maxRecDepth 100000 in
theorem l_heldStationS_l2_step : ∀ (z2_0 : Bool) (h2_0_0 : (List TStation)) (x : (Int × Int)) (c : St → Option (Ex × St)), den l_heldStationS_V l_heldStationS_A (loopAt l_heldStationS_b 0) (l_heldStationS_l2_mk z2_0 h2_0_0 x) (roundK l_heldStationS_l2_L.kp l_heldStationS_l2_L.kx c) = (l_heldStationS_l2 h2_0_0 x).run (roundR (l_heldStationS_l2_mk z2_0 h2_0_0) (l_heldStationS_l2_out z2_0 h2_0_0) c) := fun _ _ _ _ => by
 kernel_rfl
theorem l_heldStationS_l2_ok : LoopOK l_heldStationS_V l_heldStationS_A (loopAt l_heldStationS_b 0) l_heldStationS_l2_L := loopOK_of fun s e s' h => by
 generalize hs : restrict l_heldStationS_l2_L.kp s = s1 at h
 have h : (l_heldStationS_l2_D s1).run some = some (e, s') := h
 obtain ⟨z3, d2, e1, h_0⟩ := asImm_spec h
 obtain ⟨d5, e4, h_1⟩ := asImmZ_spec h_0
 obtain ⟨d7, e6, h_2⟩ := asImmZ_spec h_1
 obtain ⟨y, hy, hz⟩ := mat_some h_2
 refine ⟨_, _, l_heldStationS_l2_mk z3 d2, l_heldStationS_l2_out z3 d2, l_heldStationS_l2 d2, (d5, d7), y, ?_, hy, ?_, l_heldStationS_l2_step z3 d2⟩
 ·subst hs; exact restrict_eq (T := [(0, (.imm z3 (.sl kStation) d2)), (1, (.imm true (.int .i64) d5)), (5, (.imm true (.int .i64) d7))]) (U := []) rfl rfl ⟨e1, e4, e6, trivial⟩ trivial
 ·rcases y with x | x <;> exact Option.some.inj hz
noncomputable def l_heldStationS_I : FnI := ⟨l_heldStationS_b, Try.f61.results.toList, Try.f61.resultTypes.toList, l_heldStationS_A⟩
noncomputable def l_heldStationS_out (_zp0 : Bool) (_p0 : (List TStation)) (_p1 : Int) : Int → CallOut := fun r => ⟨(.imm true (.int .i64) r), [], []⟩
set_option maxRecDepth 100000 in
theorem l_heldStationS_eq : ∀ (zp0 : Bool) (p0 : (List TStation)) (p1 : Int), denFn l_heldStationS_V l_heldStationS_I ⟨[(.imm zp0 (.sl kStation) p0), (.imm true (.int .i64) p1)], []⟩ = (l_heldStationS p0 p1).run fun r => some (l_heldStationS_out zp0 p0 p1 r) := fun _ _ _ => by kernel_rfl
noncomputable def l_heldStationS_G (av : List AV) (rs : List Root) : Tre CallOut :=
 asCons av fun a0_ av0 =>
 asCons av0 fun a1_ av1 =>
 asEnd av1 <|
 asEnd rs <|
 asImm (.sl kStation) a0_ fun z2 d1 =>
 asImmZ true (.int .i64) a1_ fun d3 =>
 .mat (l_heldStationS_F d1 d3) fun r => .ret (l_heldStationS_out z2 d1 d3 r)
noncomputable def l_heldStationS_c : Ctr := ⟨[], fun ci => l_heldStationS_G ci.args ci.roots, false⟩
theorem l_heldStationS_env : EnvOK Try.prog l_heldStationS_V := (envOK_cons l_heldInt64S_ok ent92 envOK_nil)
set_option maxRecDepth 100000 in
theorem l_heldStationS_ok : Contract Try.prog 61 l_heldStationS_c := by
 have hl : LoopsOK l_heldStationS_V l_heldStationS_A l_heldStationS_b := (loopsOK_all (n := 1) (by kernel_rfl) fun k hk => by
   match k, hk with
   | 0, _ => exact loopOK_at (id := 2) (L := l_heldStationS_l2_L) (by kernel_rfl) (by kernel_rfl) l_heldStationS_l2_ok)
 refine (contract_of (F := l_heldStationS_I) tau_tys l_heldStationS_env Try.func61 (by kernel_rfl) (by kernel_rfl) (by kernel_rfl) hl []).weaken ?_
 rintro ⟨av, rs⟩ co h
 have h : (l_heldStationS_G av rs).run some = some co := h
 obtain ⟨a0_, av0, rfl, h_0⟩ := asCons_spec h
 obtain ⟨a1_, av1, rfl, h_1⟩ := asCons_spec h_0
 obtain ⟨rfl, h_2⟩ := asEnd_spec h_1
 obtain ⟨rfl, h_3⟩ := asEnd_spec h_2
 obtain ⟨z2, d1, rfl, h_4⟩ := asImm_spec h_3
 obtain ⟨d3, rfl, h_5⟩ := asImmZ_spec h_4
 exact fin_mat (l_heldStationS_eq z2 d1 d3) h_5
end Go.Proofs.Ytohnlghdhbignaa
