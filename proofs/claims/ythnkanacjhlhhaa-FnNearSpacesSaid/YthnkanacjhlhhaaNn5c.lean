/- Part 5c of the proof of FnNearSpaces. -/
import Derived.Test.YthnkanacjhlhhaaNn5b

namespace Go.Proofs.Ythnkanacjhlhhaa
open Go Go.Abs Go.Proofs
-- shared
set_option maxRecDepth 100000
theorem nsp_4_2 : s_SpacesOf_F ((4 : Nat) : Int) ((2 : Nat) : Int) = some (.inr (0, mkN 4 2)) := by kernel_rfl
theorem ngs_4_2 : i_GaussNumber_F ((4 : Nat) : Int) ((2 : Nat) : Int) = some (((mkN 4 2).length : Int), 0) := by kernel_rfl
theorem nat_4_2_2 : atD 4 2 (2 + 2 * ((2 : Nat) : Int)) := .inl ⟨by kernel_rfl, by kernel_rfl, by decide⟩
end Go.Proofs.Ythnkanacjhlhhaa

namespace Go.Proofs.Ythnkanacjhlhhaa
open Go Go.Abs Go.Proofs
-- shared
set_option maxRecDepth 100000
theorem ncg_0 : goN (i_GreedySpaces_l9 ((mkN 4 2).length : Int) (2 + 2 * ((0 : Nat) : Int)) (mkN 4 2)) 15 (0, []) = some (15, (grd_4_2_0.take 15)) := by kernel_rfl
theorem ncg_15 : goN (i_GreedySpaces_l9 ((mkN 4 2).length : Int) (2 + 2 * ((0 : Nat) : Int)) (mkN 4 2)) 6 (15, (grd_4_2_0.take 15)) = some (21, (grd_4_2_0.take 21)) := by kernel_rfl
theorem ncg_21 : goN (i_GreedySpaces_l9 ((mkN 4 2).length : Int) (2 + 2 * ((0 : Nat) : Int)) (mkN 4 2)) 5 (21, (grd_4_2_0.take 21)) = some (26, (grd_4_2_0.take 26)) := by kernel_rfl
theorem ncg_26 : goN (i_GreedySpaces_l9 ((mkN 4 2).length : Int) (2 + 2 * ((0 : Nat) : Int)) (mkN 4 2)) 4 (26, (grd_4_2_0.take 26)) = some (30, (grd_4_2_0.take 30)) := by kernel_rfl
theorem ncg_30 : goN (i_GreedySpaces_l9 ((mkN 4 2).length : Int) (2 + 2 * ((0 : Nat) : Int)) (mkN 4 2)) 3 (30, (grd_4_2_0.take 30)) = some (33, (grd_4_2_0.take 33)) := by kernel_rfl
theorem ncg_33 : goN (i_GreedySpaces_l9 ((mkN 4 2).length : Int) (2 + 2 * ((0 : Nat) : Int)) (mkN 4 2)) 2 (33, (grd_4_2_0.take 33)) = some (35, (grd_4_2_0.take 35)) := by kernel_rfl
theorem ncs : i_SpacesOf_F ((4 : Nat) : Int) ((2 : Nat) : Int) = some (.inr (0, (mkN 4 2))) := by kernel_rfl
theorem ngi_4_2_0 : i_GreedySpaces_F ((4 : Nat) : Int) ((2 : Nat) : Int) (2 + 2 * ((0 : Nat) : Int)) = some (.inr (0, grd_4_2_0)) := i_greedy_of (by decide) ncs ((loopF_go 15 ncg_0).trans ((loopF_go 6 ncg_15).trans ((loopF_go 5 ncg_21).trans ((loopF_go 4 ncg_26).trans ((loopF_go 3 ncg_30).trans ((loopF_go 2 ncg_33).trans (by kernel_rfl)))))))
end Go.Proofs.Ythnkanacjhlhhaa

namespace Go.Proofs.Ythnkanacjhlhhaa
open Go Go.Abs Go.Proofs
-- shared
set_option maxRecDepth 100000
theorem ngi_4_2_1 : i_GreedySpaces_F ((4 : Nat) : Int) ((2 : Nat) : Int) (2 + 2 * ((1 : Nat) : Int)) = some (.inr (0, grd_4_2_1)) := by kernel_rfl
end Go.Proofs.Ythnkanacjhlhhaa
