/- Part 5b of the proof of FnNearSpaces. -/
import Derived.Test.YthnkanacjhlhhaaNn5

namespace Go.Proofs.Ythnkanacjhlhhaa
open Go Go.Abs Go.Proofs
-- shared
noncomputable def goN {σ β : Type} (step : σ → Tre (σ ⊕ β)) : Nat → σ → Option σ
 | 0, s => some s
 | n + 1, s => match (step s).run some with
  | some (.inl s') => goN step n s'
  | _ => none
theorem loopF_go {σ β : Type} {step : σ → Tre (σ ⊕ β)} : ∀ (n : Nat) {s s' : σ}, goN step n s = some s' → loopF step s = loopF step s' := by
 intro n
 induction n with
 | zero => intro s s' h; cases h; rfl
 | succ n ih =>
  intro s s' h
  simp only [goN] at h
  split at h
  ·rename_i s1 h1
   rw [loopF_step h1]
   exact ih h
  ·cases h
theorem i_greedy_of {n k d : Int} {L D : List (Int × List Int × Unit)} (hc : i_distanceCode_S n k d = 0) (hA : i_SpacesOf_F n k = some (.inr (0, L))) (hl : loopF (i_GreedySpaces_l9 (L.length : Int) d L) (0, []) = some D) : i_GreedySpaces_F n k d = some (.inr (0, D)) := by
 unfold i_GreedySpaces_F i_GreedySpaces
 dsimp only
 rw [hc, Tre.run_cond, decide_eq_true rfl, Bool.not_true, cond_false, run_some_mat hA, Tre.run_inr, Tre.run_cond, decide_eq_true rfl, Bool.not_true, cond_false, run_some_mat hl]
 rfl
theorem s_greedy_of {n k d : Int} {L D : List (Int × List Int × Unit)} (hc : s_l06Distance_S n k d = true) (hA : s_SpacesOf_F n k = some (.inr (0, L))) (hl : loopF (s_GreedySpaces_l8 d L) (0, []) = some D) : s_GreedySpaces_F n k d = some (.inr (0, D)) := by
 unfold s_GreedySpaces_F s_GreedySpaces
 rw [hc, Tre.run_cond, Bool.not_true, cond_false, run_some_mat hA, Tre.run_inr, Tre.run_cond, decide_eq_true rfl, Bool.not_true, cond_false, run_some_mat hl]
 rfl
theorem i_least_of {D : List (Int × List Int × Unit)} {m : Int} (hv : i_ValidSpaces_F D = some true) (h1 : (D.length : Int) ≠ 1) (hl : loopF (i_LeastSpaceDistance_l7 D D (D.length : Int)) (20, 0) = some m) : i_LeastSpaceDistance_F D = some (m, 0) := by
 unfold i_LeastSpaceDistance_F i_LeastSpaceDistance
 rw [run_some_mat hv, Tre.run_cond, Bool.not_true, cond_false, Tre.run_cond, decide_eq_false h1, cond_false, run_some_mat hl]
 rfl
end Go.Proofs.Ythnkanacjhlhhaa

namespace Go.Proofs.Ythnkanacjhlhhaa
open Go Go.Abs Go.Proofs
-- shared
set_option maxRecDepth 100000
theorem ncl_0 : goN (i_LeastSpaceDistance_l7 grd_4_2_0 grd_4_2_0 (grd_4_2_0.length : Int)) 15 (20, 0) = some (2, 15) := by kernel_rfl
theorem ncl_15 : goN (i_LeastSpaceDistance_l7 grd_4_2_0 grd_4_2_0 (grd_4_2_0.length : Int)) 6 (2, 15) = some (2, 21) := by kernel_rfl
theorem ncl_21 : goN (i_LeastSpaceDistance_l7 grd_4_2_0 grd_4_2_0 (grd_4_2_0.length : Int)) 5 (2, 21) = some (2, 26) := by kernel_rfl
theorem ncl_26 : goN (i_LeastSpaceDistance_l7 grd_4_2_0 grd_4_2_0 (grd_4_2_0.length : Int)) 4 (2, 26) = some (2, 30) := by kernel_rfl
theorem ncl_30 : goN (i_LeastSpaceDistance_l7 grd_4_2_0 grd_4_2_0 (grd_4_2_0.length : Int)) 3 (2, 30) = some (2, 33) := by kernel_rfl
theorem ncl_33 : goN (i_LeastSpaceDistance_l7 grd_4_2_0 grd_4_2_0 (grd_4_2_0.length : Int)) 2 (2, 33) = some (2, 35) := by kernel_rfl
theorem ncv : i_ValidSpaces_F grd_4_2_0 = some true := by kernel_rfl
theorem ncm : i_LeastSpaceDistance_F grd_4_2_0 = some (2, 0) := i_least_of ncv (by decide) ((loopF_go 15 ncl_0).trans ((loopF_go 6 ncl_15).trans ((loopF_go 5 ncl_21).trans ((loopF_go 4 ncl_26).trans ((loopF_go 3 ncl_30).trans ((loopF_go 2 ncl_33).trans (by kernel_rfl)))))))
theorem ncf : l_f6spaces_F grd_4_2_0 grd_4_2_0 = some true := by kernel_rfl
theorem ncp : (match i_PackingBound_F ((4 : Nat) : Int) ((2 : Nat) : Int) (2 + 2 * ((0 : Nat) : Int)) with | some a => decide (a.2 = 0) && decide ((grd_4_2_0.length : Int) ≤ a.1) | none => false) = true := by kernel_rfl
theorem ncd : (match i_DesignBound_F ((4 : Nat) : Int) ((2 : Nat) : Int) (2 + 2 * ((0 : Nat) : Int)) with | some a => decide (a.2 = 0) && decide ((grd_4_2_0.length : Int) ≤ a.1) | none => false) = true := by kernel_rfl
theorem nbo_4_2_0 : bOK 4 2 (2 + 2 * ((0 : Nat) : Int)) grd_4_2_0 = true := by
 unfold bOK
 rw [ncf, ncm]
 simp only [Bool.and_eq_true]
 exact ⟨by first | rfl | trivial, ncp, ncd, by decide, by decide⟩
end Go.Proofs.Ythnkanacjhlhhaa

namespace Go.Proofs.Ythnkanacjhlhhaa
open Go Go.Abs Go.Proofs
-- shared
set_option maxRecDepth 100000
theorem nbo_4_2_1 : bOK 4 2 (2 + 2 * ((1 : Nat) : Int)) grd_4_2_1 = true := by kernel_rfl
end Go.Proofs.Ythnkanacjhlhhaa
