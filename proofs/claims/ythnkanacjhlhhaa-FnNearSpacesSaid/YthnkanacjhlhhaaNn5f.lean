/- Part 5f of the proof of FnNearSpaces. -/
import Derived.Test.YthnkanacjhlhhaaNn5e

namespace Go.Proofs.Ythnkanacjhlhhaa
open Go Go.Abs Go.Proofs
-- shared
theorem all_cut {α : Type} (p : α → Bool) (l : List α) (a m : Nat) (h1 : ((l.drop a).take m).all p = true) (h2 : (l.drop (a + m)).all p = true) : (l.drop a).all p = true := by
 rw [← List.take_append_drop m (l.drop a), List.all_append, h1, List.drop_drop, h2]; rfl
theorem nR_1_0 : (mkN 1 0).all (rOK 1 0) = true := (all_cut (rOK 1 0) (mkN 1 0) 0 1 nrr_1_0_0 (by kernel_rfl))
theorem nR_1_1 : (mkN 1 1).all (rOK 1 1) = true := (all_cut (rOK 1 1) (mkN 1 1) 0 1 nrr_1_1_0 (by kernel_rfl))
theorem nat_1_1_0 : atD 1 1 (2 + 2 * ((0 : Nat) : Int)) := .inr ⟨grd_1_1_0, ngi_1_1_0, ngt_1_1_0, nbo_1_1_0, (all_cut (nOK (2 + 2 * ((0 : Nat) : Int)) grd_1_1_0) (mkN 1 1) 0 1 nnn_1_1_0_0 (by kernel_rfl))⟩
theorem nR_2_0 : (mkN 2 0).all (rOK 2 0) = true := (all_cut (rOK 2 0) (mkN 2 0) 0 1 nrr_2_0_0 (by kernel_rfl))
theorem nR_2_1 : (mkN 2 1).all (rOK 2 1) = true := (all_cut (rOK 2 1) (mkN 2 1) 0 3 nrr_2_1_0 (by kernel_rfl))
theorem nat_2_1_0 : atD 2 1 (2 + 2 * ((0 : Nat) : Int)) := .inr ⟨grd_2_1_0, ngi_2_1_0, ngt_2_1_0, nbo_2_1_0, (all_cut (nOK (2 + 2 * ((0 : Nat) : Int)) grd_2_1_0) (mkN 2 1) 0 3 nnn_2_1_0_0 (by kernel_rfl))⟩
theorem nR_2_2 : (mkN 2 2).all (rOK 2 2) = true := (all_cut (rOK 2 2) (mkN 2 2) 0 1 nrr_2_2_0 (by kernel_rfl))
theorem nat_2_2_0 : atD 2 2 (2 + 2 * ((0 : Nat) : Int)) := .inr ⟨grd_2_2_0, ngi_2_2_0, ngt_2_2_0, nbo_2_2_0, (all_cut (nOK (2 + 2 * ((0 : Nat) : Int)) grd_2_2_0) (mkN 2 2) 0 1 nnn_2_2_0_0 (by kernel_rfl))⟩
theorem nat_2_2_1 : atD 2 2 (2 + 2 * ((1 : Nat) : Int)) := .inr ⟨grd_2_2_1, ngi_2_2_1, ngt_2_2_1, nbo_2_2_1, (all_cut (nOK (2 + 2 * ((1 : Nat) : Int)) grd_2_2_1) (mkN 2 2) 0 1 nnn_2_2_1_0 (by kernel_rfl))⟩
theorem nR_3_0 : (mkN 3 0).all (rOK 3 0) = true := (all_cut (rOK 3 0) (mkN 3 0) 0 1 nrr_3_0_0 (by kernel_rfl))
theorem nR_3_1 : (mkN 3 1).all (rOK 3 1) = true := (all_cut (rOK 3 1) (mkN 3 1) 0 7 nrr_3_1_0 (by kernel_rfl))
theorem nat_3_1_0 : atD 3 1 (2 + 2 * ((0 : Nat) : Int)) := .inr ⟨grd_3_1_0, ngi_3_1_0, ngt_3_1_0, nbo_3_1_0, (all_cut (nOK (2 + 2 * ((0 : Nat) : Int)) grd_3_1_0) (mkN 3 1) 0 7 nnn_3_1_0_0 (by kernel_rfl))⟩
theorem nR_3_2 : (mkN 3 2).all (rOK 3 2) = true := (all_cut (rOK 3 2) (mkN 3 2) 0 7 nrr_3_2_0 (by kernel_rfl))
theorem nat_3_2_0 : atD 3 2 (2 + 2 * ((0 : Nat) : Int)) := .inr ⟨grd_3_2_0, ngi_3_2_0, ngt_3_2_0, nbo_3_2_0, (all_cut (nOK (2 + 2 * ((0 : Nat) : Int)) grd_3_2_0) (mkN 3 2) 0 7 nnn_3_2_0_0 (by kernel_rfl))⟩
theorem nat_3_2_1 : atD 3 2 (2 + 2 * ((1 : Nat) : Int)) := .inr ⟨grd_3_2_1, ngi_3_2_1, ngt_3_2_1, nbo_3_2_1, (all_cut (nOK (2 + 2 * ((1 : Nat) : Int)) grd_3_2_1) (mkN 3 2) 0 7 nnn_3_2_1_0 (by kernel_rfl))⟩
theorem nR_3_3 : (mkN 3 3).all (rOK 3 3) = true := (all_cut (rOK 3 3) (mkN 3 3) 0 1 nrr_3_3_0 (by kernel_rfl))
theorem nat_3_3_0 : atD 3 3 (2 + 2 * ((0 : Nat) : Int)) := .inr ⟨grd_3_3_0, ngi_3_3_0, ngt_3_3_0, nbo_3_3_0, (all_cut (nOK (2 + 2 * ((0 : Nat) : Int)) grd_3_3_0) (mkN 3 3) 0 1 nnn_3_3_0_0 (by kernel_rfl))⟩
theorem nat_3_3_1 : atD 3 3 (2 + 2 * ((1 : Nat) : Int)) := .inr ⟨grd_3_3_1, ngi_3_3_1, ngt_3_3_1, nbo_3_3_1, (all_cut (nOK (2 + 2 * ((1 : Nat) : Int)) grd_3_3_1) (mkN 3 3) 0 1 nnn_3_3_1_0 (by kernel_rfl))⟩
theorem nat_3_3_2 : atD 3 3 (2 + 2 * ((2 : Nat) : Int)) := .inr ⟨grd_3_3_2, ngi_3_3_2, ngt_3_3_2, nbo_3_3_2, (all_cut (nOK (2 + 2 * ((2 : Nat) : Int)) grd_3_3_2) (mkN 3 3) 0 1 nnn_3_3_2_0 (by kernel_rfl))⟩
theorem nR_4_0 : (mkN 4 0).all (rOK 4 0) = true := (all_cut (rOK 4 0) (mkN 4 0) 0 1 nrr_4_0_0 (by kernel_rfl))
theorem nR_4_1 : (mkN 4 1).all (rOK 4 1) = true := (all_cut (rOK 4 1) (mkN 4 1) 0 9 nrr_4_1_0 (all_cut (rOK 4 1) (mkN 4 1) 9 6 nrr_4_1_9 (by kernel_rfl)))
theorem nat_4_1_0 : atD 4 1 (2 + 2 * ((0 : Nat) : Int)) := .inr ⟨grd_4_1_0, ngi_4_1_0, ngt_4_1_0, nbo_4_1_0, (all_cut (nOK (2 + 2 * ((0 : Nat) : Int)) grd_4_1_0) (mkN 4 1) 0 9 nnn_4_1_0_0 (all_cut (nOK (2 + 2 * ((0 : Nat) : Int)) grd_4_1_0) (mkN 4 1) 9 6 nnn_4_1_0_9 (by kernel_rfl)))⟩
theorem nR_4_2 : (mkN 4 2).all (rOK 4 2) = true := (all_cut (rOK 4 2) (mkN 4 2) 0 9 nrr_4_2_0 (all_cut (rOK 4 2) (mkN 4 2) 9 9 nrr_4_2_9 (all_cut (rOK 4 2) (mkN 4 2) 18 9 nrr_4_2_18 (all_cut (rOK 4 2) (mkN 4 2) 27 8 nrr_4_2_27 (by kernel_rfl)))))
theorem nat_4_2_0 : atD 4 2 (2 + 2 * ((0 : Nat) : Int)) := .inr ⟨grd_4_2_0, ngi_4_2_0, ngt_4_2_0, nbo_4_2_0, (all_cut (nOK (2 + 2 * ((0 : Nat) : Int)) grd_4_2_0) (mkN 4 2) 0 9 nnn_4_2_0_0 (all_cut (nOK (2 + 2 * ((0 : Nat) : Int)) grd_4_2_0) (mkN 4 2) 9 9 nnn_4_2_0_9 (all_cut (nOK (2 + 2 * ((0 : Nat) : Int)) grd_4_2_0) (mkN 4 2) 18 9 nnn_4_2_0_18 (all_cut (nOK (2 + 2 * ((0 : Nat) : Int)) grd_4_2_0) (mkN 4 2) 27 8 nnn_4_2_0_27 (by kernel_rfl)))))⟩
theorem nat_4_2_1 : atD 4 2 (2 + 2 * ((1 : Nat) : Int)) := .inr ⟨grd_4_2_1, ngi_4_2_1, ngt_4_2_1, nbo_4_2_1, (all_cut (nOK (2 + 2 * ((1 : Nat) : Int)) grd_4_2_1) (mkN 4 2) 0 9 nnn_4_2_1_0 (all_cut (nOK (2 + 2 * ((1 : Nat) : Int)) grd_4_2_1) (mkN 4 2) 9 9 nnn_4_2_1_9 (all_cut (nOK (2 + 2 * ((1 : Nat) : Int)) grd_4_2_1) (mkN 4 2) 18 9 nnn_4_2_1_18 (all_cut (nOK (2 + 2 * ((1 : Nat) : Int)) grd_4_2_1) (mkN 4 2) 27 8 nnn_4_2_1_27 (by kernel_rfl)))))⟩
theorem nR_4_3 : (mkN 4 3).all (rOK 4 3) = true := (all_cut (rOK 4 3) (mkN 4 3) 0 9 nrr_4_3_0 (all_cut (rOK 4 3) (mkN 4 3) 9 6 nrr_4_3_9 (by kernel_rfl)))
theorem nat_4_3_0 : atD 4 3 (2 + 2 * ((0 : Nat) : Int)) := .inr ⟨grd_4_3_0, ngi_4_3_0, ngt_4_3_0, nbo_4_3_0, (all_cut (nOK (2 + 2 * ((0 : Nat) : Int)) grd_4_3_0) (mkN 4 3) 0 9 nnn_4_3_0_0 (all_cut (nOK (2 + 2 * ((0 : Nat) : Int)) grd_4_3_0) (mkN 4 3) 9 6 nnn_4_3_0_9 (by kernel_rfl)))⟩
theorem nat_4_3_1 : atD 4 3 (2 + 2 * ((1 : Nat) : Int)) := .inr ⟨grd_4_3_1, ngi_4_3_1, ngt_4_3_1, nbo_4_3_1, (all_cut (nOK (2 + 2 * ((1 : Nat) : Int)) grd_4_3_1) (mkN 4 3) 0 9 nnn_4_3_1_0 (all_cut (nOK (2 + 2 * ((1 : Nat) : Int)) grd_4_3_1) (mkN 4 3) 9 6 nnn_4_3_1_9 (by kernel_rfl)))⟩
theorem nat_4_3_2 : atD 4 3 (2 + 2 * ((2 : Nat) : Int)) := .inr ⟨grd_4_3_2, ngi_4_3_2, ngt_4_3_2, nbo_4_3_2, (all_cut (nOK (2 + 2 * ((2 : Nat) : Int)) grd_4_3_2) (mkN 4 3) 0 9 nnn_4_3_2_0 (all_cut (nOK (2 + 2 * ((2 : Nat) : Int)) grd_4_3_2) (mkN 4 3) 9 6 nnn_4_3_2_9 (by kernel_rfl)))⟩
theorem nR_4_4 : (mkN 4 4).all (rOK 4 4) = true := (all_cut (rOK 4 4) (mkN 4 4) 0 1 nrr_4_4_0 (by kernel_rfl))
theorem nat_4_4_0 : atD 4 4 (2 + 2 * ((0 : Nat) : Int)) := .inr ⟨grd_4_4_0, ngi_4_4_0, ngt_4_4_0, nbo_4_4_0, (all_cut (nOK (2 + 2 * ((0 : Nat) : Int)) grd_4_4_0) (mkN 4 4) 0 1 nnn_4_4_0_0 (by kernel_rfl))⟩
theorem nat_4_4_1 : atD 4 4 (2 + 2 * ((1 : Nat) : Int)) := .inr ⟨grd_4_4_1, ngi_4_4_1, ngt_4_4_1, nbo_4_4_1, (all_cut (nOK (2 + 2 * ((1 : Nat) : Int)) grd_4_4_1) (mkN 4 4) 0 1 nnn_4_4_1_0 (by kernel_rfl))⟩
theorem nat_4_4_2 : atD 4 4 (2 + 2 * ((2 : Nat) : Int)) := .inr ⟨grd_4_4_2, ngi_4_4_2, ngt_4_4_2, nbo_4_4_2, (all_cut (nOK (2 + 2 * ((2 : Nat) : Int)) grd_4_4_2) (mkN 4 4) 0 1 nnn_4_4_2_0 (by kernel_rfl))⟩
theorem l_FnNearSpaces_law (p0 p1 : List Int) (hw0 : (K.sl (.int .u8)).wf p0) (hw1 : (K.sl (.int .u8)).wf p1) : l_FnNearSpaces_F p0 p1 = some true := by
 have hb : ∀ {xs : List Int}, (K.sl (.int .u8)).wf xs → ∀ x ∈ xs, 0 ≤ x ∧ x ≤ 255 := by
  intro xs h x hx
  have := h.2 x hx
  have h2 : Lit.wf (.int .u8 x) = true := this
  simp only [Lit.wf, Bool.and_eq_true, decide_eq_true_eq] at h2
  have a : IntKind.u8.min = 0 := by decide
  have b : IntKind.u8.max = 255 := by decide
  omega
 by_cases hb0 : l_f6big_S p0 = true
 ·unfold l_FnNearSpaces_F l_FnNearSpaces
  rw [Tre.run_cond, hb0]; rfl
 by_cases hb1 : l_f6big_S p1 = true
 ·unfold l_FnNearSpaces_F l_FnNearSpaces
  rw [Tre.run_cond, Bool.eq_false_iff.2 hb0, cond_false, Tre.run_cond, hb1]; rfl
 have hl0 : p0.length ≤ 5000 := by
  unfold l_f6big_S at hb0
  simp only [decide_eq_true_eq] at hb0
  omega
 have hl1 : p1.length ≤ 5000 := by
  unfold l_f6big_S at hb1
  simp only [decide_eq_true_eq] at hb1
  omega
 obtain ⟨r1, hr1, h10, h11⟩ := p6_ok hl0 (hb hw0) 4
 obtain ⟨r3, hr3, h30, h31⟩ := p6_ok hl1 (hb hw1) (r1 + 1 + 1)
 have hr1c : r1 = 0 ∨ r1 = 1 ∨ r1 = 2 ∨ r1 = 3 := by omega
 have fin : ∀ (n k : Nat), r1 = (n : Int) - 1 → r3 = (k : Int) → 1 ≤ n → n ≤ 4 → k ≤ n → s_SpacesOf_F (n : Int) (k : Int) = some (.inr (0, mkN n k)) → 0 < (mkN n k).length → (mkN n k).length ≤ 1000 → (mkN n k).all (rOK n k) = true →
   i_GaussNumber_F (n : Int) (k : Int) = some (((mkN n k).length : Int), 0) → atD n k (2 + 2 * ((0 : Nat) : Int)) → atD n k (2 + 2 * ((1 : Nat) : Int)) → atD n k (2 + 2 * ((2 : Nat) : Int)) → l_FnNearSpaces_F p0 p1 = some true := by
  intro n k e1 e3 hn1 hn hk hA hl0' hl' hR hG d0 d1 d2
  subst e1 e3
  refine near_of n k hn1 hn hk hA hl0' hl' hR hG (fun j hj => ?_) p0 p1 hr1 (by rw [show (n : Int) - 1 + 1 + 1 = (n : Int) + 1 by omega] at hr3; exact hr3) (p6_ok hl1 (hb hw1) _) (p6_ok hl0 (hb hw0) 3)
  match j, hj with
  | 0, _ => exact d0
  | 1, _ => exact d1
  | 2, _ => exact d2
 rcases hr1c with rfl | rfl | rfl | rfl
 ·have hc : r3 = 0 ∨ r3 = 1 := by omega
  rcases hc with h | h
  ·exact fin 1 0 rfl h (by decide) (by decide) (by decide) nsp_1_0 (by decide) (by decide) nR_1_0 ngs_1_0 nat_1_0_0 nat_1_0_1 nat_1_0_2
  ·exact fin 1 1 rfl h (by decide) (by decide) (by decide) nsp_1_1 (by decide) (by decide) nR_1_1 ngs_1_1 nat_1_1_0 nat_1_1_1 nat_1_1_2
 ·have hc : r3 = 0 ∨ r3 = 1 ∨ r3 = 2 := by omega
  rcases hc with h | h | h
  ·exact fin 2 0 rfl h (by decide) (by decide) (by decide) nsp_2_0 (by decide) (by decide) nR_2_0 ngs_2_0 nat_2_0_0 nat_2_0_1 nat_2_0_2
  ·exact fin 2 1 rfl h (by decide) (by decide) (by decide) nsp_2_1 (by decide) (by decide) nR_2_1 ngs_2_1 nat_2_1_0 nat_2_1_1 nat_2_1_2
  ·exact fin 2 2 rfl h (by decide) (by decide) (by decide) nsp_2_2 (by decide) (by decide) nR_2_2 ngs_2_2 nat_2_2_0 nat_2_2_1 nat_2_2_2
 ·have hc : r3 = 0 ∨ r3 = 1 ∨ r3 = 2 ∨ r3 = 3 := by omega
  rcases hc with h | h | h | h
  ·exact fin 3 0 rfl h (by decide) (by decide) (by decide) nsp_3_0 (by decide) (by decide) nR_3_0 ngs_3_0 nat_3_0_0 nat_3_0_1 nat_3_0_2
  ·exact fin 3 1 rfl h (by decide) (by decide) (by decide) nsp_3_1 (by decide) (by decide) nR_3_1 ngs_3_1 nat_3_1_0 nat_3_1_1 nat_3_1_2
  ·exact fin 3 2 rfl h (by decide) (by decide) (by decide) nsp_3_2 (by decide) (by decide) nR_3_2 ngs_3_2 nat_3_2_0 nat_3_2_1 nat_3_2_2
  ·exact fin 3 3 rfl h (by decide) (by decide) (by decide) nsp_3_3 (by decide) (by decide) nR_3_3 ngs_3_3 nat_3_3_0 nat_3_3_1 nat_3_3_2
 ·have hc : r3 = 0 ∨ r3 = 1 ∨ r3 = 2 ∨ r3 = 3 ∨ r3 = 4 := by omega
  rcases hc with h | h | h | h | h
  ·exact fin 4 0 rfl h (by decide) (by decide) (by decide) nsp_4_0 (by decide) (by decide) nR_4_0 ngs_4_0 nat_4_0_0 nat_4_0_1 nat_4_0_2
  ·exact fin 4 1 rfl h (by decide) (by decide) (by decide) nsp_4_1 (by decide) (by decide) nR_4_1 ngs_4_1 nat_4_1_0 nat_4_1_1 nat_4_1_2
  ·exact fin 4 2 rfl h (by decide) (by decide) (by decide) nsp_4_2 (by decide) (by decide) nR_4_2 ngs_4_2 nat_4_2_0 nat_4_2_1 nat_4_2_2
  ·exact fin 4 3 rfl h (by decide) (by decide) (by decide) nsp_4_3 (by decide) (by decide) nR_4_3 ngs_4_3 nat_4_3_0 nat_4_3_1 nat_4_3_2
  ·exact fin 4 4 rfl h (by decide) (by decide) (by decide) nsp_4_4 (by decide) (by decide) nR_4_4 ngs_4_4 nat_4_4_0 nat_4_4_1 nat_4_4_2
end Go.Proofs.Ythnkanacjhlhhaa
