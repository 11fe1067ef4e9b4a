/- Part 5d of the proof of FnNearSpaces. -/
import Derived.Test.YthnkanacjhlhhaaNn5c

namespace Go.Proofs.Ythnkanacjhlhhaa
open Go Go.Abs Go.Proofs
-- shared
set_option maxRecDepth 100000
theorem nnn_4_2_0_0 : (((mkN 4 2).drop 0).take 9).all (nOK (2 + 2 * ((0 : Nat) : Int)) grd_4_2_0) = true := by kernel_rfl
theorem nnn_4_2_0_9 : (((mkN 4 2).drop 9).take 9).all (nOK (2 + 2 * ((0 : Nat) : Int)) grd_4_2_0) = true := by kernel_rfl
end Go.Proofs.Ythnkanacjhlhhaa

namespace Go.Proofs.Ythnkanacjhlhhaa
open Go Go.Abs Go.Proofs
-- shared
set_option maxRecDepth 100000
theorem nnn_4_2_0_18 : (((mkN 4 2).drop 18).take 9).all (nOK (2 + 2 * ((0 : Nat) : Int)) grd_4_2_0) = true := by kernel_rfl
theorem nnn_4_2_0_27 : (((mkN 4 2).drop 27).take 8).all (nOK (2 + 2 * ((0 : Nat) : Int)) grd_4_2_0) = true := by kernel_rfl
end Go.Proofs.Ythnkanacjhlhhaa

namespace Go.Proofs.Ythnkanacjhlhhaa
open Go Go.Abs Go.Proofs
-- shared
set_option maxRecDepth 100000
theorem nnn_4_2_1_0 : (((mkN 4 2).drop 0).take 9).all (nOK (2 + 2 * ((1 : Nat) : Int)) grd_4_2_1) = true := by kernel_rfl
theorem nnn_4_2_1_9 : (((mkN 4 2).drop 9).take 9).all (nOK (2 + 2 * ((1 : Nat) : Int)) grd_4_2_1) = true := by kernel_rfl
end Go.Proofs.Ythnkanacjhlhhaa

namespace Go.Proofs.Ythnkanacjhlhhaa
open Go Go.Abs Go.Proofs
-- shared
set_option maxRecDepth 100000
theorem nnn_4_2_1_18 : (((mkN 4 2).drop 18).take 9).all (nOK (2 + 2 * ((1 : Nat) : Int)) grd_4_2_1) = true := by kernel_rfl
theorem nnn_4_2_1_27 : (((mkN 4 2).drop 27).take 8).all (nOK (2 + 2 * ((1 : Nat) : Int)) grd_4_2_1) = true := by kernel_rfl
end Go.Proofs.Ythnkanacjhlhhaa
