/- Part 5e of the proof of FnNearSpaces. -/
import Derived.Test.YthnkanacjhlhhaaNn5d

namespace Go.Proofs.Ythnkanacjhlhhaa
open Go Go.Abs Go.Proofs
-- shared
set_option maxRecDepth 100000
theorem nrr_4_2_0 : (((mkN 4 2).drop 0).take 9).all (rOK 4 2) = true := by kernel_rfl
theorem nrr_4_2_9 : (((mkN 4 2).drop 9).take 9).all (rOK 4 2) = true := by kernel_rfl
end Go.Proofs.Ythnkanacjhlhhaa

namespace Go.Proofs.Ythnkanacjhlhhaa
open Go Go.Abs Go.Proofs
-- shared
set_option maxRecDepth 100000
theorem nrr_4_2_18 : (((mkN 4 2).drop 18).take 9).all (rOK 4 2) = true := by kernel_rfl
theorem nrr_4_2_27 : (((mkN 4 2).drop 27).take 8).all (rOK 4 2) = true := by kernel_rfl
end Go.Proofs.Ythnkanacjhlhhaa

namespace Go.Proofs.Ythnkanacjhlhhaa
open Go Go.Abs Go.Proofs
-- shared
set_option maxRecDepth 100000
theorem nch_0 : goN (s_GreedySpaces_l8 (2 + 2 * ((0 : Nat) : Int)) (mkN 4 2)) 15 (0, []) = some (15, (grd_4_2_0.take 15)) := by kernel_rfl
theorem nch_15 : goN (s_GreedySpaces_l8 (2 + 2 * ((0 : Nat) : Int)) (mkN 4 2)) 6 (15, (grd_4_2_0.take 15)) = some (21, (grd_4_2_0.take 21)) := by kernel_rfl
theorem nch_21 : goN (s_GreedySpaces_l8 (2 + 2 * ((0 : Nat) : Int)) (mkN 4 2)) 5 (21, (grd_4_2_0.take 21)) = some (26, (grd_4_2_0.take 26)) := by kernel_rfl
theorem nch_26 : goN (s_GreedySpaces_l8 (2 + 2 * ((0 : Nat) : Int)) (mkN 4 2)) 4 (26, (grd_4_2_0.take 26)) = some (30, (grd_4_2_0.take 30)) := by kernel_rfl
theorem nch_30 : goN (s_GreedySpaces_l8 (2 + 2 * ((0 : Nat) : Int)) (mkN 4 2)) 3 (30, (grd_4_2_0.take 30)) = some (33, (grd_4_2_0.take 33)) := by kernel_rfl
theorem nch_33 : goN (s_GreedySpaces_l8 (2 + 2 * ((0 : Nat) : Int)) (mkN 4 2)) 2 (33, (grd_4_2_0.take 33)) = some (35, (grd_4_2_0.take 35)) := by kernel_rfl
theorem nss : s_SpacesOf_F ((4 : Nat) : Int) ((2 : Nat) : Int) = some (.inr (0, (mkN 4 2))) := by kernel_rfl
theorem ngt_4_2_0 : s_GreedySpaces_F ((4 : Nat) : Int) ((2 : Nat) : Int) (2 + 2 * ((0 : Nat) : Int)) = some (.inr (0, grd_4_2_0)) := s_greedy_of (by decide) nss ((loopF_go 15 nch_0).trans ((loopF_go 6 nch_15).trans ((loopF_go 5 nch_21).trans ((loopF_go 4 nch_26).trans ((loopF_go 3 nch_30).trans ((loopF_go 2 nch_33).trans (by kernel_rfl)))))))
end Go.Proofs.Ythnkanacjhlhhaa

namespace Go.Proofs.Ythnkanacjhlhhaa
open Go Go.Abs Go.Proofs
-- shared
set_option maxRecDepth 100000
theorem ngt_4_2_1 : s_GreedySpaces_F ((4 : Nat) : Int) ((2 : Nat) : Int) (2 + 2 * ((1 : Nat) : Int)) = some (.inr (0, grd_4_2_1)) := by kernel_rfl
end Go.Proofs.Ythnkanacjhlhhaa
